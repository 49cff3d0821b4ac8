-- Laid by this session's program pp.py, after the kit's print and texts of the session's own. Not trusted: Lean checks it.
import Derived.Test.YtbackoeakepngabZFnThinnedMx0
import Derived.Test.YtbackoeakepngabZFnThinnedMx2
import Derived.Test.YtbackoeakepngabZFnThinnedMx4
import Derived.Test.YtbackoeakepngabZFnThinnedMx7
import Derived.Test.YtbackoeakepngabZFnThinnedMx8
import Derived.Test.YtbackoeakepngabZFnThinnedMx9
namespace Go.Proofs.Ytbackoeakepngab.MFnThinned
open Go.RowKit Go.Proofs.YtbackoeakepngabW.PrintWords Go.Proofs.YtbackoeakepngabW.PrintLast Go.Proofs.YtbackoeakepngabW.PrintMore
attribute [local go_sem] max2_int min2_int max_two min_two max_three min_three max_four min_four   -- for this text's walks alone
set_option linter.unusedVariables false
set_option linter.unusedSimpArgs false
mutual
def laws_FnThinned.l0 : Nat → List Int → List (S77) → Int → List Int → Int → Option (Bool)
 | 0, _, _, _, _, _ => none
 | k + 1, x0, x3, x4, x5, x6 => if x6 < (x3.length : Int) then (if 0 ≤ x6 then ((impl_HiddenBy.f k x3 x4 ((rd_T77 x3 x6).f0)).bind fun t450 => ((laws_contains.f k x5 ((rd_T77 x3 x6).f0)).bind fun t452 => (if t452 = true then (if t450 = 0 then (if (x5.length : Int) > 0 then (laws_FnThinned.j1 k x0 x3 x4 x5 x6 t450 t452 false) else (laws_FnThinned.j1 k x0 x3 x4 x5 x6 t450 t452 false)) else (laws_FnThinned.j1 k x0 x3 x4 x5 x6 t450 t452 true)) else (if (x5.length : Int) > 0 then ((laws_contains.f k x5 t450).bind fun t453 => (laws_FnThinned.j1 k x0 x3 x4 x5 x6 t450 t452 (!t453))) else (laws_FnThinned.j1 k x0 x3 x4 x5 x6 t450 t452 false))))) else (none)) else ((spec_DrawIsAbove.f k x0).bind fun bt466 => ((impl_IsAbove.f bt466.1 bt466.2.1 bt466.2.2.1 bt466.2.2.2.1 bt466.2.2.2.2.1 bt466.2.2.2.2.2.1 bt466.2.2.2.2.2.2.1 bt466.2.2.2.2.2.2.2).bind fun t476 => (if t476 = true then ((impl_IsAbove.f bt466.2.2.2.2.1 bt466.2.2.2.2.2.1 bt466.2.2.2.2.2.2.1 bt466.2.2.2.2.2.2.2 bt466.1 bt466.2.1 bt466.2.2.1 bt466.2.2.2.1).bind fun t477 => (if t477 = true then (some false) else (if (x3.length : Int) = 0 then (some true) else ((impl_ArePlaces.f k x3).bind fun t478 => (if t478 = true then (if x4 < 0 then (some true) else (if x4 > 200 then (some true) else (some (decide ((x5.length : Int) > 0))))) else (some true)))))) else (if (x3.length : Int) = 0 then (some true) else ((impl_ArePlaces.f k x3).bind fun t479 => (if t479 = true then (if x4 < 0 then (some true) else (if x4 > 200 then (some true) else (some (decide ((x5.length : Int) > 0))))) else (some true)))))))
def laws_FnThinned.j1 : Nat → List Int → List (S77) → Int → List Int → Int → Int → Bool → Bool → Option (Bool)
 | 0, _, _, _, _, _, _, _, _ => none
 | k + 1, x0, x3, x4, x5, x6, x7, x8, x72 => if x72 = true then (some false) else (laws_FnThinned.l1 k x0 x3 x4 x5 x6 x7 x8 0)
def laws_FnThinned.l1 : Nat → List Int → List (S77) → Int → List Int → Int → Int → Bool → Int → Option (Bool)
 | 0, _, _, _, _, _, _, _, _ => none
 | k + 1, x0, x3, x4, x5, x6, x7, x8, x9 => if x9 < (x3.length : Int) then (if 0 ≤ x9 then (if ((rd_T77 x3 x9).f0) = x7 then (if (x5.length : Int) > 0 then (if x8 = true then (laws_FnThinned.j3 k x0 x3 x4 x5 x6 x7 x8 x9 false) else (if 0 ≤ x6 then (if x6 < (x3.length : Int) then ((impl_IsAbove.f ((rd_T77 x3 x9).f0) ((rd_T77 x3 x9).f1.f0) ((rd_T77 x3 x9).f1.f1) ((rd_T77 x3 x9).f2) ((rd_T77 x3 x6).f0) ((rd_T77 x3 x6).f1.f0) ((rd_T77 x3 x6).f1.f1) ((rd_T77 x3 x6).f2)).bind fun t457 => (if t457 = true then ((impl_FarSquared.f ((rd_T77 x3 x6).f1.f0) ((rd_T77 x3 x6).f1.f1) ((rd_T77 x3 x9).f1.f0) ((rd_T77 x3 x9).f1.f1)).bind fun t460 => (laws_FnThinned.j3 k x0 x3 x4 x5 x6 x7 x8 x9 (decide (t460 ≥ (wrap64 (x4 * x4)))))) else (laws_FnThinned.j3 k x0 x3 x4 x5 x6 x7 x8 x9 true))) else (none)) else (none))) else (laws_FnThinned.j3 k x0 x3 x4 x5 x6 x7 x8 x9 false)) else (laws_FnThinned.j3 k x0 x3 x4 x5 x6 x7 x8 x9 false)) else (none)) else (laws_FnThinned.l0 k x0 x3 x4 x5 (wrap64 (x6 + 1)))
def laws_FnThinned.j3 : Nat → List Int → List (S77) → Int → List Int → Int → Int → Bool → Int → Bool → Option (Bool)
 | 0, _, _, _, _, _, _, _, _, _ => none
 | k + 1, x0, x3, x4, x5, x6, x7, x8, x9, x123 => if x123 = true then (some false) else (if x8 = true then (if x6 = x9 then (laws_FnThinned.l1 k x0 x3 x4 x5 x6 x7 x8 (wrap64 (x9 + 1))) else (if 0 ≤ x9 then (if x9 < (x3.length : Int) then ((laws_contains.f k x5 ((rd_T77 x3 x9).f0)).bind fun t462 => (if t462 = true then (if 0 ≤ x6 then (if x6 < (x3.length : Int) then ((impl_FarSquared.f ((rd_T77 x3 x6).f1.f0) ((rd_T77 x3 x6).f1.f1) ((rd_T77 x3 x9).f1.f0) ((rd_T77 x3 x9).f1.f1)).bind fun t465 => (if t465 < (wrap64 (x4 * x4)) then (some false) else (laws_FnThinned.l1 k x0 x3 x4 x5 x6 x7 x8 (wrap64 (x9 + 1))))) else (none)) else (none)) else (laws_FnThinned.l1 k x0 x3 x4 x5 x6 x7 x8 (wrap64 (x9 + 1))))) else (none)) else (none))) else (laws_FnThinned.l1 k x0 x3 x4 x5 x6 x7 x8 (wrap64 (x9 + 1))))
end
def laws_FnThinned.f (k : Nat) (l0 : List Int) : Option (Bool) := (laws_big.f l0).bind fun t437 => (if t437 = true then (some true) else ((spec_DrawThinPlaces.f k l0).bind fun bt438 => ((impl_ThinPlaces.f k bt438.1 bt438.2).bind fun t442 => ((spec_ThinPlaces.f k bt438.1 bt438.2).bind fun t445 => (if (t442.length : Int) = (t445.length : Int) then ((laws_ascends.f k t442).bind fun t448 => (if t448 = true then (laws_FnThinned.l0 k l0 bt438.1 bt438.2 t442 0) else (some false))) else (some false))))))
def laws_FnThinned.T21 : Bool × List (List Nat × List Nat) := (true, [([], []), ([0], [0]), ([1], [1]), ([1], [1]), ([2, 3, 1], [1, 2, 3]), ([1, 4], [1, 4]), ([5, 1], [5]), ([6], [6]), ([6], [6]), ([6], [6]), ([8, 9, 6], [6, 8, 9]), ([10, 6], [6, 10]), ([11, 6], [6, 11]), ([7, 12, 6, 6], [6, 7, 12]), ([6, 13], [6, 13]), ([14, 13], [14]), ([15], [15]), ([15], [15]), ([16, 17, 15], [15, 16, 17]), ([18, 15], [15, 18]), ([19, 15], [15, 19]), ([15], [15]), ([15], [15]), ([21, 22, 15], [15, 21, 22]), ([23, 15], [15, 23]), ([24, 15], [15, 24]), ([20, 25, 15, 15], [15, 20, 25]), ([15], [15]), ([15], [15]), ([27, 28, 15], [15, 27, 28]), ([26, 29, 15], [15, 26, 29]), ([15, 30], [15, 30])])
def laws_FnThinned.B21 : List Nat := [0, 1, 3, 3, 15, 31, 63, 127, 127, 127, 895, 1919, 3967, 8191, 16383, 32767, 65535, 65535, 262143, 524287, 1048575, 65535, 65535, 6356991, 14745599, 31522815, 67108863, 65535, 65535, 402718719, 1073741823, 2147483647]
theorem laws_FnThinned.tab21 : rtab .any (opsOf Try.f9 21) = laws_FnThinned.T21 := by kernel_rfl
theorem laws_FnThinned.bits21 : waitsOk laws_FnThinned.T21.2 laws_FnThinned.B21 = true := by kernel_rfl
set_option maxHeartbeats 8000000 in
set_option maxRecDepth 100000 in
theorem laws_FnThinned.calls (k : Nat) (A0 : Option Addr) (c0 : Nat) (l0 : List Int) (r : Bool) (w : World) (hr0 : Kd.C (Kd.int .u8) w A0 l0.length l0) (hc0 : l0.length ≤ c0) (h : laws_FnThinned.f k l0 = some r) :
  Calls Try.prog 9 #[.slice A0 l0.length c0] w fun e w' => e = .returned (.bool r) ∧ Below w.heap.size w w' := by
 have hu77 := Try.underlying77
 have hu75 := Try.underlying75
 have HR0 := Aside0.mk hr0
 have HC0 := Aside0.mk hc0
 clear hr0 hc0
 have HB := Aside0.mk (Below.refl w.heap.size w)
 have H : ((laws_big.f l0).bind fun t437 => (if t437 = true then (some true) else ((spec_DrawThinPlaces.f k l0).bind fun bt438 => ((impl_ThinPlaces.f k bt438.1 bt438.2).bind fun t442 => ((spec_ThinPlaces.f k bt438.1 bt438.2).bind fun t445 => (if (t442.length : Int) = (t445.length : Int) then ((laws_ascends.f k t442).bind fun t448 => (if t448 = true then (laws_FnThinned.l0 k l0 bt438.1 bt438.2 t442 0) else (some false))) else (some false))))))) = some r := h
 clear h
 replace H := Option.bind_eq_some_iff.mp H
 obtain ⟨t437, A20, H⟩ := H
 replace H : (if t437 = true then (some true) else ((spec_DrawThinPlaces.f k l0).bind fun bt438 => ((impl_ThinPlaces.f k bt438.1 bt438.2).bind fun t442 => ((spec_ThinPlaces.f k bt438.1 bt438.2).bind fun t445 => (if (t442.length : Int) = (t445.length : Int) then ((laws_ascends.f k t442).bind fun t448 => (if t448 = true then (laws_FnThinned.l0 k l0 bt438.1 bt438.2 t442 0) else (some false))) else (some false)))))) = some r := H
 have A2 := Aside0.mk A20
 clear A20
 by_cases c3 : t437 = true
 ·
  subst c3
  have H1 : (some true) = some r := by rw [if_pos rfl] at H; exact H
  clear H
  have H := H1
  clear H1
  obtain rfl := Option.some.inj H
  go_enter Try.func9, Try.ntmps9
  go_wp2_with (first | ((with_reducible refine gate_callee (f := 21) rfl ?_); refine goesL_ (some 13) rfl rfl Try.func21 (by kernel_rfl) rfl #[.slice A0 l0.length c0] rfl Hd.m_ ?_; (with_reducible refine (laws_big.calls _ _ l0 true _ ?side1 ?side2 A2.out).mono ?_); (case side1 => repeat (first | exact HR0.out | (with_reducible refine Kd.C_alloc ?_ _) | (with_reducible refine Kd.C_drewN ?_ _) | (with_reducible refine Kd.C_drew ?_))); (case side2 => exact HC0.out); rintro e w' ⟨rfl, ⟨nd, rfl⟩⟩; refine ⟨_, rfl, ?_⟩))
  go_ret
  exact ⟨Hd.e_, Hd.b_⟩
 ·
  replace c3 := Bool.eq_false_iff.mpr c3
  subst c3
  have H1 : ((spec_DrawThinPlaces.f k l0).bind fun bt438 => ((impl_ThinPlaces.f k bt438.1 bt438.2).bind fun t442 => ((spec_ThinPlaces.f k bt438.1 bt438.2).bind fun t445 => (if (t442.length : Int) = (t445.length : Int) then ((laws_ascends.f k t442).bind fun t448 => (if t448 = true then (laws_FnThinned.l0 k l0 bt438.1 bt438.2 t442 0) else (some false))) else (some false))))) = some r := by rw [if_neg (show ¬ (false = true) by decide)] at H; exact H
  clear H
  have H := H1
  clear H1
  replace H := Option.bind_eq_some_iff.mp H
  obtain ⟨⟨t438, t439⟩, A40, H⟩ := H
  replace H : ((impl_ThinPlaces.f k t438 t439).bind fun t442 => ((spec_ThinPlaces.f k t438 t439).bind fun t445 => (if (t442.length : Int) = (t445.length : Int) then ((laws_ascends.f k t442).bind fun t448 => (if t448 = true then (laws_FnThinned.l0 k l0 t438 t439 t442 0) else (some false))) else (some false)))) = some r := H
  have A4 := Aside0.mk A40
  clear A40
  replace H := Option.bind_eq_some_iff.mp H
  obtain ⟨t442, A50, H⟩ := H
  replace H : ((spec_ThinPlaces.f k t438 t439).bind fun t445 => (if (t442.length : Int) = (t445.length : Int) then ((laws_ascends.f k t442).bind fun t448 => (if t448 = true then (laws_FnThinned.l0 k l0 t438 t439 t442 0) else (some false))) else (some false))) = some r := H
  have A5 := Aside0.mk A50
  clear A50
  replace H := Option.bind_eq_some_iff.mp H
  obtain ⟨t445, A60, H⟩ := H
  replace H : (if (t442.length : Int) = (t445.length : Int) then ((laws_ascends.f k t442).bind fun t448 => (if t448 = true then (laws_FnThinned.l0 k l0 t438 t439 t442 0) else (some false))) else (some false)) = some r := H
  have A6 := Aside0.mk A60
  clear A60
  by_cases c7 : (t442.length : Int) = (t445.length : Int)
  ·
   rw [if_pos c7] at H
   have c7b0 : ((t442.length : Int) == (t445.length : Int)) = true := beq_iff_eq.mpr c7
   have c7b1 : ((t442.length : Int) != (t445.length : Int)) = false := bne_eq_false_iff_eq.mpr c7
   have c7b2 : (t442.length == t445.length) = true := by first | simpa using c7 | (simp at c7 ⊢; omega)
   clear c7
   replace H := Option.bind_eq_some_iff.mp H
   obtain ⟨t448, A80, H⟩ := H
   replace H : (if t448 = true then (laws_FnThinned.l0 k l0 t438 t439 t442 0) else (some false)) = some r := H
   have A8 := Aside0.mk A80
   clear A80
   by_cases c9 : t448 = true
   ·
    subst c9
    have H1 : (laws_FnThinned.l0 k l0 t438 t439 t442 0) = some r := by rw [if_pos rfl] at H; exact H
    clear H
    have H := H1
    clear H1
    have H' := Aside0.mk H
    clear H
    go_enter Try.func9, Try.ntmps9
    go_wp2_with (first | ((with_reducible refine gate_callee (f := 21) rfl ?_); refine goesL_ (some 13) rfl rfl Try.func21 (by kernel_rfl) rfl #[.slice A0 l0.length c0] rfl Hd.m_ ?_; (with_reducible refine (laws_big.calls _ _ l0 false _ ?side1 ?side2 A2.out).mono ?_); (case side1 => repeat (first | exact HR0.out | (with_reducible refine Kd.C_alloc ?_ _) | (with_reducible refine Kd.C_drewN ?_ _) | (with_reducible refine Kd.C_drew ?_))); (case side2 => exact HC0.out); rintro e w' ⟨rfl, ⟨nd, rfl⟩⟩; refine ⟨_, rfl, ?_⟩) | ((with_reducible refine gate_callee (f := 47) rfl ?_); refine goesL_ (some 16) rfl rfl Try.func47 (by kernel_rfl) rfl #[.slice A0 l0.length c0] rfl Hd.m_ ?_; (with_reducible refine (spec_DrawThinPlaces.calls k _ _ l0 t438 t439 _ ?side1 ?side2 A4.out).mono ?_); (case side1 => repeat (first | exact HR0.out | (with_reducible refine Kd.C_alloc ?_ _) | (with_reducible refine Kd.C_drewN ?_ _) | (with_reducible refine Kd.C_drew ?_))); (case side2 => exact HC0.out); rintro e w10 ⟨v440, rfl, ho0, hb⟩; refine ⟨_, rfl, ?_⟩; have HO441 := Aside0.mk (Kd.R_lower ho0 (below_size Hd.b_)); replace HB := Aside0.mk (below_step Hd.b_ hb); (try clear hb); (try clear hb2); (try clear hk); (try clear hi); (try clear ho0); obtain ⟨Ao11, co11, eo11⟩ := Kd.R_slice HO441.out; subst eo11) | ((with_reducible refine gate_callee (f := 42) rfl ?_); refine goesL_ (some 21) rfl rfl Try.func42 (by kernel_rfl) rfl #[.slice Ao11 t438.length co11, .int .i64 t439] rfl Hd.m_ ?_; (with_reducible refine (impl_ThinPlaces.calls k _ _ t438 t439 t442 _ ?side1 ?side2 A5.out).mono ?_); (case side1 => repeat (first | exact (Kd.R_reads' HO441.out).2.2 | (with_reducible refine Kd.C_alloc ?_ _) | (with_reducible refine Kd.C_drewN ?_ _) | (with_reducible refine Kd.C_drew ?_))); (case side2 => exact (Kd.R_reads' HO441.out).2.1); rintro e w12 ⟨v443, rfl, ho0, hb⟩; refine ⟨_, rfl, ?_⟩; replace HO441 := Aside0.mk (Kd.R_below (Hd.r_ HO441) hb); have HO444 := Aside0.mk (Kd.R_lower ho0 (below_size Hd.b_)); replace HB := Aside0.mk (below_step Hd.b_ hb); (try clear hb); (try clear hb2); (try clear hk); (try clear hi); (try clear ho0); obtain ⟨Ao13, co13, eo13⟩ := Kd.R_slice HO444.out; subst eo13) | ((with_reducible refine gate_callee (f := 41) rfl ?_); refine goesL_ (some 26) rfl rfl Try.func41 (by kernel_rfl) rfl #[.slice Ao11 t438.length co11, .int .i64 t439] rfl Hd.m_ ?_; (with_reducible refine (spec_ThinPlaces.calls k _ _ t438 t439 t445 _ ?side1 ?side2 A6.out).mono ?_); (case side1 => repeat (first | exact (Kd.R_reads' HO441.out).2.2 | (with_reducible refine Kd.C_alloc ?_ _) | (with_reducible refine Kd.C_drewN ?_ _) | (with_reducible refine Kd.C_drew ?_))); (case side2 => exact (Kd.R_reads' HO441.out).2.1); rintro e w14 ⟨v446, rfl, ho0, hb⟩; refine ⟨_, rfl, ?_⟩; replace HO441 := Aside0.mk (Kd.R_below (Hd.r_ HO441) hb); have HO447 := Aside0.mk (Kd.R_lower (Kd.R_new' ho0 (Kd.R_lt (Hd.r_ HO444))) (below_size Hd.b_)); replace HO444 := Aside0.mk (Kd.R_elder' (Hd.r_ HO444) (Kd.R_base ho0) hb); replace HB := Aside0.mk (below_step Hd.b_ hb); (try clear hb); (try clear hb2); (try clear hk); (try clear hi); (try clear ho0); obtain ⟨Ao15, co15, eo15⟩ := Kd.R_slice HO447.out; subst eo15) | ((with_reducible refine gate_callee (f := 48) rfl ?_); refine goesL_ (some 30) rfl rfl Try.func48 (by kernel_rfl) rfl #[.slice Ao13 t442.length co13] rfl Hd.m_ ?_; (with_reducible refine (laws_ascends.calls k _ _ t442 true _ ?side1 ?side2 A8.out).mono ?_); (case side1 => repeat (first | exact (Kd.R_reads' HO444.out).2.2 | (with_reducible refine Kd.C_alloc ?_ _) | (with_reducible refine Kd.C_drewN ?_ _) | (with_reducible refine Kd.C_drew ?_))); (case side2 => exact (Kd.R_reads' HO444.out).2.1); rintro e w' ⟨rfl, ⟨nd, rfl⟩⟩; refine ⟨_, rfl, ?_⟩))
    go_loopg [6] k (fun kq v6 w' => ∃ (x6_1 : Int), v6 = .int .i64 x6_1 ∧ Aside0 (laws_FnThinned.l0 kq l0 t438 t439 t442 x6_1 = some r) ∧ Aside0 (kq ≤ k) ∧ Aside0 (Kd.R k77 77 w' w.heap.size (fun _ => True) (.slice Ao11 t438.length co11) t438) ∧ Aside0 (Kd.R (Kd.int .i64) 3 w' w.heap.size (fun _ => True) (.slice Ao13 t442.length co13) t442) ∧ Aside0 (Below w.heap.size w w'))
    case atStart => exact ⟨(0), (by first | rfl | (simp; done) | (simp [*]; done)), H', ⟨Nat.le_refl _⟩, ⟨by (with_reducible repeat (first | apply Kd.R_alloc | apply Kd.R_drewN | apply Kd.R_drew)); exact HO441.out⟩, ⟨by (with_reducible repeat (first | apply Kd.R_alloc | apply Kd.R_drewN | apply Kd.R_drew)); exact Kd.R_mono HO444.out (fun _ hk => trivial)⟩, ⟨Hd.b_⟩⟩
    case round =>
     clear H'
     try clear c2
     try clear p2
     try clear c3
     try clear c4
     try clear c7
     try clear c7b0
     try clear c7b1
     try clear c7b2
     try clear c9
     obtain ⟨x6_1, rfl, HA, HK1, HO_3, HO_5, HB⟩ := hrel
     cases gk with
     | zero => exact absurd HA.out (by simp [laws_FnThinned.l0])
     | succ k1 =>
      have H := HA.out
      clear HA
      simp only [laws_FnThinned.l0] at H
      by_cases c16 : x6_1 < (t438.length : Int)
      ·
       rw [if_pos c16] at H
       have c16b0 : decide (x6_1 < (t438.length : Int)) = true := decide_eq_true c16
       clear c16
       by_cases c17 : 0 ≤ x6_1
       ·
        rw [if_pos c17] at H
        have c17b0 : decide (0 ≤ x6_1) = true := decide_eq_true c17
        clear c17
        replace H := Option.bind_eq_some_iff.mp H
        obtain ⟨t450, A180, H⟩ := H
        replace H : ((laws_contains.f k1 t442 ((rd_T77 t438 x6_1).f0)).bind fun t452 => (if t452 = true then (if t450 = 0 then (if (t442.length : Int) > 0 then (laws_FnThinned.j1 k1 l0 t438 t439 t442 x6_1 t450 t452 false) else (laws_FnThinned.j1 k1 l0 t438 t439 t442 x6_1 t450 t452 false)) else (laws_FnThinned.j1 k1 l0 t438 t439 t442 x6_1 t450 t452 true)) else (if (t442.length : Int) > 0 then ((laws_contains.f k1 t442 t450).bind fun t453 => (laws_FnThinned.j1 k1 l0 t438 t439 t442 x6_1 t450 t452 (!t453))) else (laws_FnThinned.j1 k1 l0 t438 t439 t442 x6_1 t450 t452 false)))) = some r := H
        have A18 := Aside0.mk A180
        clear A180
        replace H := Option.bind_eq_some_iff.mp H
        obtain ⟨t452, A190, H⟩ := H
        replace H : (if t452 = true then (if t450 = 0 then (if (t442.length : Int) > 0 then (laws_FnThinned.j1 k1 l0 t438 t439 t442 x6_1 t450 t452 false) else (laws_FnThinned.j1 k1 l0 t438 t439 t442 x6_1 t450 t452 false)) else (laws_FnThinned.j1 k1 l0 t438 t439 t442 x6_1 t450 t452 true)) else (if (t442.length : Int) > 0 then ((laws_contains.f k1 t442 t450).bind fun t453 => (laws_FnThinned.j1 k1 l0 t438 t439 t442 x6_1 t450 t452 (!t453))) else (laws_FnThinned.j1 k1 l0 t438 t439 t442 x6_1 t450 t452 false))) = some r := H
        have A19 := Aside0.mk A190
        clear A190
        have HC20 := Aside0.mk H
        clear H
        have p449 : 0 ≤ (x6_1 : Int) := of_decide_eq_true Hd.a_
        have q449 : x6_1 < (t438.length : Int) := of_decide_eq_true Hd.a_
        obtain ⟨ad449, e449, hx449_0, hx449_1, hx449_2, hx449_3⟩ := at_T77 (Kd.R_reads' HO_3.out).2.2 x6_1 p449 q449
        cases e449
        replace p449 := eq_true p449
        replace q449 := eq_true q449
        go_upto_region 14 with (first | ((with_reducible refine gate_callee (f := 39) rfl ?_); refine goesL_ (some 45) rfl rfl Try.func39 (by kernel_rfl) rfl #[.slice (some ad449) t438.length co11, .int .i64 t439, .int .i64 ((rd_T77 t438 x6_1).f0)] rfl Hd.m_ ?_; (with_reducible refine (impl_HiddenBy.calls k1 _ _ t438 t439 ((rd_T77 t438 x6_1).f0) t450 _ ?side1 ?side2 A18.out).mono ?_); (case side1 => repeat (first | exact (Kd.R_reads' HO_3.out).2.2 | (with_reducible refine Kd.C_alloc ?_ _) | (with_reducible refine Kd.C_drewN ?_ _) | (with_reducible refine Kd.C_drew ?_))); (case side2 => exact (Kd.R_reads' HO_3.out).2.1); rintro e w21 ⟨rfl, hb⟩; refine ⟨_, rfl, ?_⟩; replace HO_3 := Aside0.mk (Kd.R_below (Hd.r_ HO_3) hb); replace HO_5 := Aside0.mk (Kd.R_below (Hd.r_ HO_5) hb); replace HB := Aside0.mk (below_step Hd.b_ hb); (try clear hb); (try clear hb2); (try clear hk); (try clear hi); have p451 : 0 ≤ (x6_1 : Int) := of_decide_eq_true Hd.a_; have q451 : x6_1 < (t438.length : Int) := of_decide_eq_true Hd.a_; obtain ⟨ad451, e451, hx451_0, hx451_1, hx451_2, hx451_3⟩ := at_T77 (Kd.R_reads' HO_3.out).2.2 x6_1 p451 q451; obtain rfl : ad449 = ad451 := (by injection e451); replace p451 := eq_true p451; replace q451 := eq_true q451) | ((with_reducible refine gate_callee (f := 49) rfl ?_); refine goesL_ (some 52) rfl rfl Try.func49 (by kernel_rfl) rfl #[.slice Ao13 t442.length co13, .int .i64 ((rd_T77 t438 x6_1).f0)] rfl Hd.m_ ?_; (with_reducible refine (laws_contains.calls k1 _ _ t442 ((rd_T77 t438 x6_1).f0) t452 _ ?side1 ?side2 A19.out).mono ?_); (case side1 => repeat (first | exact (Kd.R_reads' HO_5.out).2.2 | (with_reducible refine Kd.C_alloc ?_ _) | (with_reducible refine Kd.C_drewN ?_ _) | (with_reducible refine Kd.C_drew ?_))); (case side2 => exact (Kd.R_reads' HO_5.out).2.1); rintro e w' ⟨rfl, ⟨nd, rfl⟩⟩; refine ⟨_, rfl, ?_⟩))
        (try simp only [Act.put, List.setIfInBounds_toArray, List.set_cons_zero, List.set_cons_succ])
        go_cut [72] (fun v72 wc => ∃ (kq : Nat) (x72_19 : Bool), v72 = .bool x72_19 ∧ Aside0 (laws_FnThinned.j1 kq l0 t438 t439 t442 x6_1 t450 t452 x72_19 = some r) ∧ Aside0 (kq ≤ k1) ∧ Aside0 (Kd.R k77 77 wc w.heap.size (fun _ => True) (.slice (some ad449) t438.length co11) t438) ∧ Aside0 (Kd.R (Kd.int .i64) 3 wc w.heap.size (fun _ => True) (.slice Ao13 t442.length co13) t442) ∧ Aside0 (Below w.heap.size w wc))
        case first =>
         have H := HC20.out
         clear HC20
         by_cases c22 : t452 = true
         ·
          subst c22
          have H1 : (if t450 = 0 then (if (t442.length : Int) > 0 then (laws_FnThinned.j1 k1 l0 t438 t439 t442 x6_1 t450 true false) else (laws_FnThinned.j1 k1 l0 t438 t439 t442 x6_1 t450 true false)) else (laws_FnThinned.j1 k1 l0 t438 t439 t442 x6_1 t450 true true)) = some r := by rw [if_pos rfl] at H; exact H
          clear H
          have H := H1
          clear H1
          by_cases c23 : t450 = 0
          ·
           rw [if_pos c23] at H
           have c23b0 : (t450 == 0) = true := beq_iff_eq.mpr c23
           have c23b1 : (t450 != 0) = false := bne_eq_false_iff_eq.mpr c23
           clear c23
           (first | rw [c23b0] | (simp only [i64_w, i32_w]; rw [c23b0]) | skip)
           by_cases c24 : (t442.length : Int) > 0
           ·
            rw [if_pos c24] at H
            have c24b0 : decide (0 < (t442.length : Int)) = true := decide_eq_true c24
            have c24b1 : decide (0 < t442.length) = true := decide_eq_true (by omega)
            clear c24
            as_aux_lemma =>
             have H' := Aside0.mk H
             clear H
             go_wp2
             go_meet
             case rel => exact ⟨_, (false), (by first | rfl | (simp; done) | (simp [*]; done)), H', ⟨by have := HK1.out; first | omega | exact Nat.le_refl _⟩, ⟨by (with_reducible repeat (first | apply Kd.R_alloc | apply Kd.R_drewN | apply Kd.R_drew)); exact HO_3.out⟩, ⟨by (with_reducible repeat (first | apply Kd.R_alloc | apply Kd.R_drewN | apply Kd.R_drew)); exact HO_5.out⟩, ⟨Hd.b_⟩⟩
           ·
            rw [if_neg c24] at H
            have c24b0 : decide (0 < (t442.length : Int)) = false := decide_eq_false c24
            have c24b1 : decide (0 < t442.length) = false := decide_eq_false (by omega)
            clear c24
            as_aux_lemma =>
             have H' := Aside0.mk H
             clear H
             go_wp2
             go_meet
             case rel => exact ⟨_, (false), (by first | rfl | (simp; done) | (simp [*]; done)), H', ⟨by have := HK1.out; first | omega | exact Nat.le_refl _⟩, ⟨by (with_reducible repeat (first | apply Kd.R_alloc | apply Kd.R_drewN | apply Kd.R_drew)); exact HO_3.out⟩, ⟨by (with_reducible repeat (first | apply Kd.R_alloc | apply Kd.R_drewN | apply Kd.R_drew)); exact HO_5.out⟩, ⟨Hd.b_⟩⟩
          ·
           rw [if_neg c23] at H
           have c23b0 : (t450 == 0) = false := beq_eq_false_iff_ne.mpr c23
           have c23b1 : (t450 != 0) = true := bne_iff_ne.mpr c23
           (first | rw [c23b0] | (simp only [i64_w, i32_w]; rw [c23b0]) | skip)
           as_aux_lemma =>
            have H' := Aside0.mk H
            clear H
            go_wp2
            go_meet
            case rel => exact ⟨_, (true), (by first | rfl | (simp; done) | (simp [*]; done)), H', ⟨by have := HK1.out; first | omega | exact Nat.le_refl _⟩, ⟨by (with_reducible repeat (first | apply Kd.R_alloc | apply Kd.R_drewN | apply Kd.R_drew)); exact HO_3.out⟩, ⟨by (with_reducible repeat (first | apply Kd.R_alloc | apply Kd.R_drewN | apply Kd.R_drew)); exact HO_5.out⟩, ⟨Hd.b_⟩⟩
         ·
          replace c22 := Bool.eq_false_iff.mpr c22
          subst c22
          have H1 : (if (t442.length : Int) > 0 then ((laws_contains.f k1 t442 t450).bind fun t453 => (laws_FnThinned.j1 k1 l0 t438 t439 t442 x6_1 t450 false (!t453))) else (laws_FnThinned.j1 k1 l0 t438 t439 t442 x6_1 t450 false false)) = some r := by rw [if_neg (show ¬ (false = true) by decide)] at H; exact H
          clear H
          have H := H1
          clear H1
          by_cases c25 : (t442.length : Int) > 0
          ·
           rw [if_pos c25] at H
           have c25b0 : decide (0 < (t442.length : Int)) = true := decide_eq_true c25
           have c25b1 : decide (0 < t442.length) = true := decide_eq_true (by omega)
           clear c25
           replace H := Option.bind_eq_some_iff.mp H
           obtain ⟨t453, A260, H⟩ := H
           replace H : (laws_FnThinned.j1 k1 l0 t438 t439 t442 x6_1 t450 false (!t453)) = some r := H
           have A26 := Aside0.mk A260
           clear A260
           as_aux_lemma =>
            have H' := Aside0.mk H
            clear H
            go_wp2_with (first | (go_at_call 49; (with_reducible refine (laws_contains.calls k1 _ _ t442 t450 t453 _ ?side1 ?side2 A26.out).mono ?_); (case side1 => repeat (first | exact (Kd.R_reads' HO_5.out).2.2 | (with_reducible refine Kd.C_alloc ?_ _) | (with_reducible refine Kd.C_drewN ?_ _) | (with_reducible refine Kd.C_drew ?_))); (case side2 => exact (Kd.R_reads' HO_5.out).2.1); rintro e w' ⟨rfl, ⟨nd, rfl⟩⟩))
            go_meet
            case rel => exact ⟨_, (!t453), (by first | rfl | (simp; done) | (simp [*]; done)), H', ⟨by have := HK1.out; first | omega | exact Nat.le_refl _⟩, ⟨by (with_reducible repeat (first | apply Kd.R_alloc | apply Kd.R_drewN | apply Kd.R_drew)); exact HO_3.out⟩, ⟨by (with_reducible repeat (first | apply Kd.R_alloc | apply Kd.R_drewN | apply Kd.R_drew)); exact HO_5.out⟩, ⟨Hd.b_⟩⟩
          ·
           rw [if_neg c25] at H
           have c25b0 : decide (0 < (t442.length : Int)) = false := decide_eq_false c25
           have c25b1 : decide (0 < t442.length) = false := decide_eq_false (by omega)
           clear c25
           as_aux_lemma =>
            have H' := Aside0.mk H
            clear H
            go_wp2
            go_meet
            case rel => exact ⟨_, (false), (by first | rfl | (simp; done) | (simp [*]; done)), H', ⟨by have := HK1.out; first | omega | exact Nat.le_refl _⟩, ⟨by (with_reducible repeat (first | apply Kd.R_alloc | apply Kd.R_drewN | apply Kd.R_drew)); exact HO_3.out⟩, ⟨by (with_reducible repeat (first | apply Kd.R_alloc | apply Kd.R_drewN | apply Kd.R_drew)); exact HO_5.out⟩, ⟨Hd.b_⟩⟩
        case rest =>
         clear HC20
         try clear c1
         try clear c2
         try clear p2
         try clear c3
         try clear c4
         try clear p4
         try clear q4
         try clear hx4
         try clear c7
         try clear c7b0
         try clear c7b1
         try clear c7b2
         try clear c9
         try clear c16
         try clear c16b0
         try clear c17
         try clear c17b0
         try clear c21
         try clear c22
         try clear c23
         try clear c23b0
         try clear c23b1
         try clear c24
         try clear c24b0
         try clear c24b1
         try clear c25
         try clear c25b0
         try clear c25b1
         try clear hx449_0
         try clear hx449_1
         try clear hx449_2
         try clear hx449_3
         try clear hx451_0
         try clear hx451_1
         try clear hx451_2
         try clear hx451_3
         try clear p2
         try clear p449
         try clear p451
         try clear q449
         try clear q451
         obtain ⟨kq, x72_19, rfl, HA, HJ19, HO_3, HO_5, HB⟩ := hcut
         cases kq with
         | zero => exact absurd HA.out (by simp [laws_FnThinned.j1])
         | succ kj19 =>
          have H := HA.out
          clear HA
          simp only [laws_FnThinned.j1] at H
          by_cases c27 : x72_19 = true
          ·
           subst c27
           have H1 : (some false) = some r := by rw [if_pos rfl] at H; exact H
           clear H
           have H := H1
           clear H1
           obtain rfl := Option.some.inj H
           go_wp2
           go_ret
           exact ⟨Hd.e_, Hd.b_⟩
          ·
           replace c27 := Bool.eq_false_iff.mpr c27
           subst c27
           have H1 : (laws_FnThinned.l1 kj19 l0 t438 t439 t442 x6_1 t450 t452 0) = some r := by rw [if_neg (show ¬ (false = true) by decide)] at H; exact H
           clear H
           have H := H1
           clear H1
           have H' := Aside0.mk H
           clear H
           go_wp2
           go_loopg [9] kj19 (fun kq v9 w' => ∃ (x9_3 : Int), v9 = .int .i64 x9_3 ∧ Aside0 (laws_FnThinned.l1 kq l0 t438 t439 t442 x6_1 t450 t452 x9_3 = some r) ∧ Aside0 (kq ≤ kj19) ∧ Aside0 (Kd.R k77 77 w' w.heap.size (fun _ => True) (.slice (some ad449) t438.length co11) t438) ∧ Aside0 (Kd.R (Kd.int .i64) 3 w' w.heap.size (fun _ => True) (.slice Ao13 t442.length co13) t442) ∧ Aside0 (Below w.heap.size w w'))
           case atStart => exact ⟨(0), (by first | rfl | (simp; done) | (simp [*]; done)), H', ⟨Nat.le_refl _⟩, ⟨by (with_reducible repeat (first | apply Kd.R_alloc | apply Kd.R_drewN | apply Kd.R_drew)); exact HO_3.out⟩, ⟨by (with_reducible repeat (first | apply Kd.R_alloc | apply Kd.R_drewN | apply Kd.R_drew)); exact HO_5.out⟩, ⟨Hd.b_⟩⟩
           case round =>
            clear H'
            try clear c1
            try clear c2
            try clear p2
            try clear c3
            try clear c4
            try clear p4
            try clear q4
            try clear hx4
            try clear c7
            try clear c7b0
            try clear c7b1
            try clear c7b2
            try clear c9
            try clear c16
            try clear c16b0
            try clear c17
            try clear c17b0
            try clear c21
            try clear c22
            try clear c23
            try clear c23b0
            try clear c23b1
            try clear c24
            try clear c24b0
            try clear c24b1
            try clear c25
            try clear c25b0
            try clear c25b1
            try clear c27
            try clear hx449_0
            try clear hx449_1
            try clear hx449_2
            try clear hx449_3
            try clear hx451_0
            try clear hx451_1
            try clear hx451_2
            try clear hx451_3
            try clear p2
            try clear p4
            try clear p449
            try clear p451
            try clear q4
            try clear q449
            try clear q451
            obtain ⟨x9_3, rfl, HA, HK3, HO_3, HO_5, HB⟩ := hrel
            cases gk with
            | zero => exact absurd HA.out (by simp [laws_FnThinned.l1])
            | succ k3 =>
             have H := HA.out
             clear HA
             simp only [laws_FnThinned.l1] at H
             by_cases c28 : x9_3 < (t438.length : Int)
             ·
              rw [if_pos c28] at H
              have c28b0 : decide (x9_3 < (t438.length : Int)) = true := decide_eq_true c28
              clear c28
              have HC29 := Aside0.mk H
              clear H
              go_upto_region 19 with (fail)
              go_cut [123] (fun v123 wc => ∃ (kq : Nat) (x123_28 : Bool), v123 = .bool x123_28 ∧ Aside0 (laws_FnThinned.j3 kq l0 t438 t439 t442 x6_1 t450 t452 x9_3 x123_28 = some r) ∧ Aside0 (kq ≤ k3) ∧ Aside0 (Kd.R k77 77 wc w.heap.size (fun _ => True) (.slice (some ad449) t438.length co11) t438) ∧ Aside0 (Kd.R (Kd.int .i64) 3 wc w.heap.size (fun _ => True) (.slice Ao13 t442.length co13) t442) ∧ Aside0 (Below w.heap.size w wc))
              case first =>
               have H := HC29.out
               clear HC29
               by_cases c30 : 0 ≤ x9_3
               ·
                rw [if_pos c30] at H
                have c30b0 : decide (0 ≤ x9_3) = true := decide_eq_true c30
                clear c30
                (first | rw [c30b0] | (simp only [i64_w, i32_w]; rw [c30b0]) | skip)
                by_cases c31 : ((rd_T77 t438 x9_3).f0) = t450
                ·
                 rw [if_pos c31] at H
                 have c31b0 : (((rd_T77 t438 x9_3).f0) == t450) = true := beq_iff_eq.mpr c31
                 have c31b1 : (((rd_T77 t438 x9_3).f0) != t450) = false := bne_eq_false_iff_eq.mpr c31
                 clear c31
                 by_cases c32 : (t442.length : Int) > 0
                 ·
                  rw [if_pos c32] at H
                  have c32b0 : decide (0 < (t442.length : Int)) = true := decide_eq_true c32
                  have c32b1 : decide (0 < t442.length) = true := decide_eq_true (by omega)
                  clear c32
                  by_cases c33 : t452 = true
                  ·
                   subst c33
                   have H1 : (laws_FnThinned.j3 k3 l0 t438 t439 t442 x6_1 t450 true x9_3 false) = some r := by rw [if_pos rfl] at H; exact H
                   clear H
                   have H := H1
                   clear H1
                   as_aux_lemma =>
                    have H' := Aside0.mk H
                    clear H
                    try go_wp2
                    replace HO_3 := Aside0.mk (Kd.R_drew HO_3.out)
                    replace HO_5 := Aside0.mk (Kd.R_drew HO_5.out)
                    replace HB := Aside0.mk (below_drew1 HB.out)
                    have p454 : 0 ≤ (x9_3 : Int) := of_decide_eq_true Hd.a_
                    have q454 : x9_3 < (t438.length : Int) := of_decide_eq_true Hd.a_
                    obtain ⟨ad454, e454, hx454_0, hx454_1, hx454_2, hx454_3⟩ := at_T77 (Kd.R_reads' HO_3.out).2.2 x9_3 p454 q454
                    obtain rfl : ad449 = ad454 := (by injection e454)
                    replace p454 := eq_true p454
                    replace q454 := eq_true q454
                    have s0_ := Hd.HW.x (W0 := wr.drew) hx454_0
                    have s1_ := Hd.HW.x (W0 := wr.drew) hx454_1
                    have s2_ := Hd.HW.x (W0 := wr.drew) hx454_2
                    have s3_ := Hd.HW.x (W0 := wr.drew) hx454_3
                    refine Hd.HW.region (by kernel_rfl) (by kernel_rfl) ?_
                    try dsimp only [List.append]
                    repeat (go_big_quiet_step (fail))
                    refine wpQuiet_nil ?_
                    intro _ hq_
                    obtain ⟨q_, rfl⟩ := hq_
                    clear s0_ s1_ s2_ s3_
                    replace HO_3 := Aside0.mk (Kd.R_below HO_3.out q_.b)
                    replace HO_5 := Aside0.mk (Kd.R_below HO_5.out q_.b)
                    replace HB := Aside0.mk (below_step HB.out q_.b)
                    replace hx454_0 := q_.cell hx454_0
                    replace hx454_1 := q_.cell hx454_1
                    replace hx454_2 := q_.cell hx454_2
                    replace hx454_3 := q_.cell hx454_3
                    generalize q_.W = w34 at HO_3 HO_5 HB hx454_0 hx454_1 hx454_2 hx454_3 ⊢
                    try simp only [i64_w, i32_w]
                    try go_wp2
                    go_meet
                    case rel => exact ⟨_, (false), (by first | rfl | (simp; done) | (simp [*]; done)), H', ⟨by have := HK1.out; have := HJ19.out; have := HK3.out; first | omega | exact Nat.le_refl _⟩, ⟨by (with_reducible repeat (first | apply Kd.R_alloc | apply Kd.R_drewN | apply Kd.R_drew)); exact HO_3.out⟩, ⟨by (with_reducible repeat (first | apply Kd.R_alloc | apply Kd.R_drewN | apply Kd.R_drew)); exact HO_5.out⟩, ⟨Hd.b_⟩⟩
                  ·
                   replace c33 := Bool.eq_false_iff.mpr c33
                   subst c33
                   have H1 : (if 0 ≤ x6_1 then (if x6_1 < (t438.length : Int) then ((impl_IsAbove.f ((rd_T77 t438 x9_3).f0) ((rd_T77 t438 x9_3).f1.f0) ((rd_T77 t438 x9_3).f1.f1) ((rd_T77 t438 x9_3).f2) ((rd_T77 t438 x6_1).f0) ((rd_T77 t438 x6_1).f1.f0) ((rd_T77 t438 x6_1).f1.f1) ((rd_T77 t438 x6_1).f2)).bind fun t457 => (if t457 = true then ((impl_FarSquared.f ((rd_T77 t438 x6_1).f1.f0) ((rd_T77 t438 x6_1).f1.f1) ((rd_T77 t438 x9_3).f1.f0) ((rd_T77 t438 x9_3).f1.f1)).bind fun t460 => (laws_FnThinned.j3 k3 l0 t438 t439 t442 x6_1 t450 false x9_3 (decide (t460 ≥ (wrap64 (t439 * t439)))))) else (laws_FnThinned.j3 k3 l0 t438 t439 t442 x6_1 t450 false x9_3 true))) else (none)) else (none)) = some r := by rw [if_neg (show ¬ (false = true) by decide)] at H; exact H
                   clear H
                   have H := H1
                   clear H1
                   by_cases c35 : 0 ≤ x6_1
                   ·
                    rw [if_pos c35] at H
                    have c35b0 : decide (0 ≤ x6_1) = true := decide_eq_true c35
                    clear c35
                    by_cases c36 : x6_1 < (t438.length : Int)
                    ·
                     rw [if_pos c36] at H
                     have c36b0 : decide (x6_1 < (t438.length : Int)) = true := decide_eq_true c36
                     clear c36
                     replace H := Option.bind_eq_some_iff.mp H
                     obtain ⟨t457, A370, H⟩ := H
                     replace H : (if t457 = true then ((impl_FarSquared.f ((rd_T77 t438 x6_1).f1.f0) ((rd_T77 t438 x6_1).f1.f1) ((rd_T77 t438 x9_3).f1.f0) ((rd_T77 t438 x9_3).f1.f1)).bind fun t460 => (laws_FnThinned.j3 k3 l0 t438 t439 t442 x6_1 t450 false x9_3 (decide (t460 ≥ (wrap64 (t439 * t439)))))) else (laws_FnThinned.j3 k3 l0 t438 t439 t442 x6_1 t450 false x9_3 true)) = some r := H
                     have A37 := Aside0.mk A370
                     clear A370
                     by_cases c38 : t457 = true
                     ·
                      subst c38
                      have H1 : ((impl_FarSquared.f ((rd_T77 t438 x6_1).f1.f0) ((rd_T77 t438 x6_1).f1.f1) ((rd_T77 t438 x9_3).f1.f0) ((rd_T77 t438 x9_3).f1.f1)).bind fun t460 => (laws_FnThinned.j3 k3 l0 t438 t439 t442 x6_1 t450 false x9_3 (decide (t460 ≥ (wrap64 (t439 * t439)))))) = some r := by rw [if_pos rfl] at H; exact H
                      clear H
                      have H := H1
                      clear H1
                      replace H := Option.bind_eq_some_iff.mp H
                      obtain ⟨t460, A390, H⟩ := H
                      replace H : (laws_FnThinned.j3 k3 l0 t438 t439 t442 x6_1 t450 false x9_3 (decide (t460 ≥ (wrap64 (t439 * t439))))) = some r := H
                      have A39 := Aside0.mk A390
                      clear A390
                      as_aux_lemma =>
                       have H' := Aside0.mk H
                       clear H
                       try go_wp2
                       replace HO_3 := Aside0.mk (Kd.R_drew HO_3.out)
                       replace HO_5 := Aside0.mk (Kd.R_drew HO_5.out)
                       replace HB := Aside0.mk (below_drew1 HB.out)
                       have p454 : 0 ≤ (x9_3 : Int) := of_decide_eq_true Hd.a_
                       have q454 : x9_3 < (t438.length : Int) := of_decide_eq_true Hd.a_
                       obtain ⟨ad454, e454, hx454_0, hx454_1, hx454_2, hx454_3⟩ := at_T77 (Kd.R_reads' HO_3.out).2.2 x9_3 p454 q454
                       obtain rfl : ad449 = ad454 := (by injection e454)
                       replace p454 := eq_true p454
                       replace q454 := eq_true q454
                       have p455 : 0 ≤ (x9_3 : Int) := of_decide_eq_true Hd.a_
                       have q455 : x9_3 < (t438.length : Int) := of_decide_eq_true Hd.a_
                       obtain ⟨ad455, e455, hx455_0, hx455_1, hx455_2, hx455_3⟩ := at_T77 (Kd.R_reads' HO_3.out).2.2 x9_3 p455 q455
                       obtain rfl : ad449 = ad455 := (by injection e455)
                       replace p455 := eq_true p455
                       replace q455 := eq_true q455
                       have p456 : 0 ≤ (x6_1 : Int) := of_decide_eq_true Hd.a_
                       have q456 : x6_1 < (t438.length : Int) := of_decide_eq_true Hd.a_
                       obtain ⟨ad456, e456, hx456_0, hx456_1, hx456_2, hx456_3⟩ := at_T77 (Kd.R_reads' HO_3.out).2.2 x6_1 p456 q456
                       obtain rfl : ad449 = ad456 := (by injection e456)
                       replace p456 := eq_true p456
                       replace q456 := eq_true q456
                       have p458 : 0 ≤ (x6_1 : Int) := of_decide_eq_true Hd.a_
                       have q458 : x6_1 < (t438.length : Int) := of_decide_eq_true Hd.a_
                       obtain ⟨ad458, e458, hx458_0, hx458_1, hx458_2, hx458_3⟩ := at_T77 (Kd.R_reads' HO_3.out).2.2 x6_1 p458 q458
                       obtain rfl : ad449 = ad458 := (by injection e458)
                       replace p458 := eq_true p458
                       replace q458 := eq_true q458
                       have p459 : 0 ≤ (x9_3 : Int) := of_decide_eq_true Hd.a_
                       have q459 : x9_3 < (t438.length : Int) := of_decide_eq_true Hd.a_
                       obtain ⟨ad459, e459, hx459_0, hx459_1, hx459_2, hx459_3⟩ := at_T77 (Kd.R_reads' HO_3.out).2.2 x9_3 p459 q459
                       obtain rfl : ad449 = ad459 := (by injection e459)
                       replace p459 := eq_true p459
                       replace q459 := eq_true q459
                       have s0_ := Hd.HW.x (W0 := wr.drew) hx454_0
                       have s1_ := Hd.HW.x (W0 := wr.drew) hx454_1
                       have s2_ := Hd.HW.x (W0 := wr.drew) hx454_2
                       have s3_ := Hd.HW.x (W0 := wr.drew) hx454_3
                       have s4_ := Hd.HW.x (W0 := wr.drew) hx455_0
                       have s5_ := Hd.HW.x (W0 := wr.drew) hx455_1
                       have s6_ := Hd.HW.x (W0 := wr.drew) hx455_2
                       have s7_ := Hd.HW.x (W0 := wr.drew) hx455_3
                       have s8_ := Hd.HW.x (W0 := wr.drew) hx456_0
                       have s9_ := Hd.HW.x (W0 := wr.drew) hx456_1
                       have s10_ := Hd.HW.x (W0 := wr.drew) hx456_2
                       have s11_ := Hd.HW.x (W0 := wr.drew) hx456_3
                       have s12_ := Hd.HW.x (W0 := wr.drew) hx458_0
                       have s13_ := Hd.HW.x (W0 := wr.drew) hx458_1
                       have s14_ := Hd.HW.x (W0 := wr.drew) hx458_2
                       have s15_ := Hd.HW.x (W0 := wr.drew) hx458_3
                       have s16_ := Hd.HW.x (W0 := wr.drew) hx459_0
                       have s17_ := Hd.HW.x (W0 := wr.drew) hx459_1
                       have s18_ := Hd.HW.x (W0 := wr.drew) hx459_2
                       have s19_ := Hd.HW.x (W0 := wr.drew) hx459_3
                       refine Hd.HW.region (by kernel_rfl) (by kernel_rfl) ?_
                       try dsimp only [List.append]
                       repeat (go_big_quiet_step ((first | (go_at_call 50; with_reducible exact Hd.HW.c (impl_IsAbove.calls ((rd_T77 t438 x9_3).f0) ((rd_T77 t438 x9_3).f1.f0) ((rd_T77 t438 x9_3).f1.f1) ((rd_T77 t438 x9_3).f2) ((rd_T77 t438 x6_1).f0) ((rd_T77 t438 x6_1).f1.f0) ((rd_T77 t438 x6_1).f1.f1) ((rd_T77 t438 x6_1).f2) true _ A37.out)) | (go_at_call 51; with_reducible exact Hd.HW.c (impl_FarSquared.calls ((rd_T77 t438 x6_1).f1.f0) ((rd_T77 t438 x6_1).f1.f1) ((rd_T77 t438 x9_3).f1.f0) ((rd_T77 t438 x9_3).f1.f1) t460 _ A39.out)))))
                       refine wpQuiet_nil ?_
                       intro _ hq_
                       obtain ⟨q_, rfl⟩ := hq_
                       clear s0_ s1_ s2_ s3_ s4_ s5_ s6_ s7_ s8_ s9_ s10_ s11_ s12_ s13_ s14_ s15_ s16_ s17_ s18_ s19_
                       replace HO_3 := Aside0.mk (Kd.R_below HO_3.out q_.b)
                       replace HO_5 := Aside0.mk (Kd.R_below HO_5.out q_.b)
                       replace HB := Aside0.mk (below_step HB.out q_.b)
                       replace hx454_0 := q_.cell hx454_0
                       replace hx454_1 := q_.cell hx454_1
                       replace hx454_2 := q_.cell hx454_2
                       replace hx454_3 := q_.cell hx454_3
                       replace hx455_0 := q_.cell hx455_0
                       replace hx455_1 := q_.cell hx455_1
                       replace hx455_2 := q_.cell hx455_2
                       replace hx455_3 := q_.cell hx455_3
                       replace hx456_0 := q_.cell hx456_0
                       replace hx456_1 := q_.cell hx456_1
                       replace hx456_2 := q_.cell hx456_2
                       replace hx456_3 := q_.cell hx456_3
                       replace hx458_0 := q_.cell hx458_0
                       replace hx458_1 := q_.cell hx458_1
                       replace hx458_2 := q_.cell hx458_2
                       replace hx458_3 := q_.cell hx458_3
                       replace hx459_0 := q_.cell hx459_0
                       replace hx459_1 := q_.cell hx459_1
                       replace hx459_2 := q_.cell hx459_2
                       replace hx459_3 := q_.cell hx459_3
                       generalize q_.W = w42 at HO_3 HO_5 HB hx454_0 hx454_1 hx454_2 hx454_3 hx455_0 hx455_1 hx455_2 hx455_3 hx456_0 hx456_1 hx456_2 hx456_3 hx458_0 hx458_1 hx458_2 hx458_3 hx459_0 hx459_1 hx459_2 hx459_3 ⊢
                       try simp only [i64_w, i32_w]
                       try go_wp2
                       go_meet
                       case rel => exact ⟨_, (decide (t460 ≥ (wrap64 (t439 * t439)))), (by first | rfl | (simp; done) | (simp [*]; done)), H', ⟨by have := HK1.out; have := HJ19.out; have := HK3.out; first | omega | exact Nat.le_refl _⟩, ⟨by (with_reducible repeat (first | apply Kd.R_alloc | apply Kd.R_drewN | apply Kd.R_drew)); exact HO_3.out⟩, ⟨by (with_reducible repeat (first | apply Kd.R_alloc | apply Kd.R_drewN | apply Kd.R_drew)); exact HO_5.out⟩, ⟨Hd.b_⟩⟩
                     ·
                      replace c38 := Bool.eq_false_iff.mpr c38
                      subst c38
                      have H1 : (laws_FnThinned.j3 k3 l0 t438 t439 t442 x6_1 t450 false x9_3 true) = some r := by rw [if_neg (show ¬ (false = true) by decide)] at H; exact H
                      clear H
                      have H := H1
                      clear H1
                      as_aux_lemma =>
                       have H' := Aside0.mk H
                       clear H
                       try go_wp2
                       replace HO_3 := Aside0.mk (Kd.R_drew HO_3.out)
                       replace HO_5 := Aside0.mk (Kd.R_drew HO_5.out)
                       replace HB := Aside0.mk (below_drew1 HB.out)
                       have p454 : 0 ≤ (x9_3 : Int) := of_decide_eq_true Hd.a_
                       have q454 : x9_3 < (t438.length : Int) := of_decide_eq_true Hd.a_
                       obtain ⟨ad454, e454, hx454_0, hx454_1, hx454_2, hx454_3⟩ := at_T77 (Kd.R_reads' HO_3.out).2.2 x9_3 p454 q454
                       obtain rfl : ad449 = ad454 := (by injection e454)
                       replace p454 := eq_true p454
                       replace q454 := eq_true q454
                       have p455 : 0 ≤ (x9_3 : Int) := of_decide_eq_true Hd.a_
                       have q455 : x9_3 < (t438.length : Int) := of_decide_eq_true Hd.a_
                       obtain ⟨ad455, e455, hx455_0, hx455_1, hx455_2, hx455_3⟩ := at_T77 (Kd.R_reads' HO_3.out).2.2 x9_3 p455 q455
                       obtain rfl : ad449 = ad455 := (by injection e455)
                       replace p455 := eq_true p455
                       replace q455 := eq_true q455
                       have p456 : 0 ≤ (x6_1 : Int) := of_decide_eq_true Hd.a_
                       have q456 : x6_1 < (t438.length : Int) := of_decide_eq_true Hd.a_
                       obtain ⟨ad456, e456, hx456_0, hx456_1, hx456_2, hx456_3⟩ := at_T77 (Kd.R_reads' HO_3.out).2.2 x6_1 p456 q456
                       obtain rfl : ad449 = ad456 := (by injection e456)
                       replace p456 := eq_true p456
                       replace q456 := eq_true q456
                       have s0_ := Hd.HW.x (W0 := wr.drew) hx454_0
                       have s1_ := Hd.HW.x (W0 := wr.drew) hx454_1
                       have s2_ := Hd.HW.x (W0 := wr.drew) hx454_2
                       have s3_ := Hd.HW.x (W0 := wr.drew) hx454_3
                       have s4_ := Hd.HW.x (W0 := wr.drew) hx455_0
                       have s5_ := Hd.HW.x (W0 := wr.drew) hx455_1
                       have s6_ := Hd.HW.x (W0 := wr.drew) hx455_2
                       have s7_ := Hd.HW.x (W0 := wr.drew) hx455_3
                       have s8_ := Hd.HW.x (W0 := wr.drew) hx456_0
                       have s9_ := Hd.HW.x (W0 := wr.drew) hx456_1
                       have s10_ := Hd.HW.x (W0 := wr.drew) hx456_2
                       have s11_ := Hd.HW.x (W0 := wr.drew) hx456_3
                       refine Hd.HW.region (by kernel_rfl) (by kernel_rfl) ?_
                       try dsimp only [List.append]
                       repeat (go_big_quiet_step ((first | (go_at_call 50; with_reducible exact Hd.HW.c (impl_IsAbove.calls ((rd_T77 t438 x9_3).f0) ((rd_T77 t438 x9_3).f1.f0) ((rd_T77 t438 x9_3).f1.f1) ((rd_T77 t438 x9_3).f2) ((rd_T77 t438 x6_1).f0) ((rd_T77 t438 x6_1).f1.f0) ((rd_T77 t438 x6_1).f1.f1) ((rd_T77 t438 x6_1).f2) false _ A37.out)))))
                       refine wpQuiet_nil ?_
                       intro _ hq_
                       obtain ⟨q_, rfl⟩ := hq_
                       clear s0_ s1_ s2_ s3_ s4_ s5_ s6_ s7_ s8_ s9_ s10_ s11_
                       replace HO_3 := Aside0.mk (Kd.R_below HO_3.out q_.b)
                       replace HO_5 := Aside0.mk (Kd.R_below HO_5.out q_.b)
                       replace HB := Aside0.mk (below_step HB.out q_.b)
                       replace hx454_0 := q_.cell hx454_0
                       replace hx454_1 := q_.cell hx454_1
                       replace hx454_2 := q_.cell hx454_2
                       replace hx454_3 := q_.cell hx454_3
                       replace hx455_0 := q_.cell hx455_0
                       replace hx455_1 := q_.cell hx455_1
                       replace hx455_2 := q_.cell hx455_2
                       replace hx455_3 := q_.cell hx455_3
                       replace hx456_0 := q_.cell hx456_0
                       replace hx456_1 := q_.cell hx456_1
                       replace hx456_2 := q_.cell hx456_2
                       replace hx456_3 := q_.cell hx456_3
                       generalize q_.W = w44 at HO_3 HO_5 HB hx454_0 hx454_1 hx454_2 hx454_3 hx455_0 hx455_1 hx455_2 hx455_3 hx456_0 hx456_1 hx456_2 hx456_3 ⊢
                       try simp only [i64_w, i32_w]
                       try go_wp2
                       go_meet
                       case rel => exact ⟨_, (true), (by first | rfl | (simp; done) | (simp [*]; done)), H', ⟨by have := HK1.out; have := HJ19.out; have := HK3.out; first | omega | exact Nat.le_refl _⟩, ⟨by (with_reducible repeat (first | apply Kd.R_alloc | apply Kd.R_drewN | apply Kd.R_drew)); exact HO_3.out⟩, ⟨by (with_reducible repeat (first | apply Kd.R_alloc | apply Kd.R_drewN | apply Kd.R_drew)); exact HO_5.out⟩, ⟨Hd.b_⟩⟩
                    ·
                     rw [if_neg c36] at H
                     exact absurd H (by simp)
                   ·
                    rw [if_neg c35] at H
                    exact absurd H (by simp)
                 ·
                  rw [if_neg c32] at H
                  have c32b0 : decide (0 < (t442.length : Int)) = false := decide_eq_false c32
                  have c32b1 : decide (0 < t442.length) = false := decide_eq_false (by omega)
                  clear c32
                  as_aux_lemma =>
                   have H' := Aside0.mk H
                   clear H
                   try go_wp2
                   replace HO_3 := Aside0.mk (Kd.R_drew HO_3.out)
                   replace HO_5 := Aside0.mk (Kd.R_drew HO_5.out)
                   replace HB := Aside0.mk (below_drew1 HB.out)
                   have p454 : 0 ≤ (x9_3 : Int) := of_decide_eq_true Hd.a_
                   have q454 : x9_3 < (t438.length : Int) := of_decide_eq_true Hd.a_
                   obtain ⟨ad454, e454, hx454_0, hx454_1, hx454_2, hx454_3⟩ := at_T77 (Kd.R_reads' HO_3.out).2.2 x9_3 p454 q454
                   obtain rfl : ad449 = ad454 := (by injection e454)
                   replace p454 := eq_true p454
                   replace q454 := eq_true q454
                   have s0_ := Hd.HW.x (W0 := wr.drew) hx454_0
                   have s1_ := Hd.HW.x (W0 := wr.drew) hx454_1
                   have s2_ := Hd.HW.x (W0 := wr.drew) hx454_2
                   have s3_ := Hd.HW.x (W0 := wr.drew) hx454_3
                   refine Hd.HW.region (by kernel_rfl) (by kernel_rfl) ?_
                   try dsimp only [List.append]
                   repeat (go_big_quiet_step (fail))
                   refine wpQuiet_nil ?_
                   intro _ hq_
                   obtain ⟨q_, rfl⟩ := hq_
                   clear s0_ s1_ s2_ s3_
                   replace HO_3 := Aside0.mk (Kd.R_below HO_3.out q_.b)
                   replace HO_5 := Aside0.mk (Kd.R_below HO_5.out q_.b)
                   replace HB := Aside0.mk (below_step HB.out q_.b)
                   replace hx454_0 := q_.cell hx454_0
                   replace hx454_1 := q_.cell hx454_1
                   replace hx454_2 := q_.cell hx454_2
                   replace hx454_3 := q_.cell hx454_3
                   generalize q_.W = w45 at HO_3 HO_5 HB hx454_0 hx454_1 hx454_2 hx454_3 ⊢
                   try simp only [i64_w, i32_w]
                   try go_wp2
                   go_meet
                   case rel => exact ⟨_, (false), (by first | rfl | (simp; done) | (simp [*]; done)), H', ⟨by have := HK1.out; have := HJ19.out; have := HK3.out; first | omega | exact Nat.le_refl _⟩, ⟨by (with_reducible repeat (first | apply Kd.R_alloc | apply Kd.R_drewN | apply Kd.R_drew)); exact HO_3.out⟩, ⟨by (with_reducible repeat (first | apply Kd.R_alloc | apply Kd.R_drewN | apply Kd.R_drew)); exact HO_5.out⟩, ⟨Hd.b_⟩⟩
                ·
                 rw [if_neg c31] at H
                 have c31b0 : (((rd_T77 t438 x9_3).f0) == t450) = false := beq_eq_false_iff_ne.mpr c31
                 have c31b1 : (((rd_T77 t438 x9_3).f0) != t450) = true := bne_iff_ne.mpr c31
                 as_aux_lemma =>
                  have H' := Aside0.mk H
                  clear H
                  try go_wp2
                  replace HO_3 := Aside0.mk (Kd.R_drew HO_3.out)
                  replace HO_5 := Aside0.mk (Kd.R_drew HO_5.out)
                  replace HB := Aside0.mk (below_drew1 HB.out)
                  have p454 : 0 ≤ (x9_3 : Int) := of_decide_eq_true Hd.a_
                  have q454 : x9_3 < (t438.length : Int) := of_decide_eq_true Hd.a_
                  obtain ⟨ad454, e454, hx454_0, hx454_1, hx454_2, hx454_3⟩ := at_T77 (Kd.R_reads' HO_3.out).2.2 x9_3 p454 q454
                  obtain rfl : ad449 = ad454 := (by injection e454)
                  replace p454 := eq_true p454
                  replace q454 := eq_true q454
                  have s0_ := Hd.HW.x (W0 := wr.drew) hx454_0
                  have s1_ := Hd.HW.x (W0 := wr.drew) hx454_1
                  have s2_ := Hd.HW.x (W0 := wr.drew) hx454_2
                  have s3_ := Hd.HW.x (W0 := wr.drew) hx454_3
                  refine Hd.HW.region (by kernel_rfl) (by kernel_rfl) ?_
                  try dsimp only [List.append]
                  repeat (go_big_quiet_step (fail))
                  refine wpQuiet_nil ?_
                  intro _ hq_
                  obtain ⟨q_, rfl⟩ := hq_
                  clear s0_ s1_ s2_ s3_
                  replace HO_3 := Aside0.mk (Kd.R_below HO_3.out q_.b)
                  replace HO_5 := Aside0.mk (Kd.R_below HO_5.out q_.b)
                  replace HB := Aside0.mk (below_step HB.out q_.b)
                  replace hx454_0 := q_.cell hx454_0
                  replace hx454_1 := q_.cell hx454_1
                  replace hx454_2 := q_.cell hx454_2
                  replace hx454_3 := q_.cell hx454_3
                  generalize q_.W = w46 at HO_3 HO_5 HB hx454_0 hx454_1 hx454_2 hx454_3 ⊢
                  try simp only [i64_w, i32_w]
                  try go_wp2
                  go_meet
                  case rel => exact ⟨_, (false), (by first | rfl | (simp; done) | (simp [*]; done)), H', ⟨by have := HK1.out; have := HJ19.out; have := HK3.out; first | omega | exact Nat.le_refl _⟩, ⟨by (with_reducible repeat (first | apply Kd.R_alloc | apply Kd.R_drewN | apply Kd.R_drew)); exact HO_3.out⟩, ⟨by (with_reducible repeat (first | apply Kd.R_alloc | apply Kd.R_drewN | apply Kd.R_drew)); exact HO_5.out⟩, ⟨Hd.b_⟩⟩
               ·
                rw [if_neg c30] at H
                exact absurd H (by simp)
              case rest =>
               clear HC29
               try clear p2
               try clear c3
               try clear p4
               try clear q4
               try clear hx4
               try clear c30
               try clear c31
               try clear c31b0
               try clear c31b1
               try clear c32
               try clear c32b0
               try clear c32b1
               try clear c35
               try clear c36
               try clear p45
               try clear q45
               try clear hx45
               try clear hx454_0
               try clear hx454_1
               try clear hx454_2
               try clear hx454_3
               try clear p454
               try clear q454
               obtain ⟨kq, x123_28, rfl, HA, HJ28, HO_3, HO_5, HB⟩ := hcut
               cases kq with
               | zero => exact absurd HA.out (by simp [laws_FnThinned.j3])
               | succ kj28 =>
                have H := HA.out
                clear HA
                simp only [laws_FnThinned.j3] at H
                by_cases c47 : x123_28 = true
                ·
                 subst c47
                 have H1 : (some false) = some r := by rw [if_pos rfl] at H; exact H
                 clear H
                 have H := H1
                 clear H1
                 obtain rfl := Option.some.inj H
                 go_wp2
                 go_ret
                 exact ⟨Hd.e_, Hd.b_⟩
                ·
                 replace c47 := Bool.eq_false_iff.mpr c47
                 subst c47
                 have H1 : (if t452 = true then (if x6_1 = x9_3 then (laws_FnThinned.l1 kj28 l0 t438 t439 t442 x6_1 t450 t452 (wrap64 (x9_3 + 1))) else (if 0 ≤ x9_3 then (if x9_3 < (t438.length : Int) then ((laws_contains.f kj28 t442 ((rd_T77 t438 x9_3).f0)).bind fun t462 => (if t462 = true then (if 0 ≤ x6_1 then (if x6_1 < (t438.length : Int) then ((impl_FarSquared.f ((rd_T77 t438 x6_1).f1.f0) ((rd_T77 t438 x6_1).f1.f1) ((rd_T77 t438 x9_3).f1.f0) ((rd_T77 t438 x9_3).f1.f1)).bind fun t465 => (if t465 < (wrap64 (t439 * t439)) then (some false) else (laws_FnThinned.l1 kj28 l0 t438 t439 t442 x6_1 t450 t452 (wrap64 (x9_3 + 1))))) else (none)) else (none)) else (laws_FnThinned.l1 kj28 l0 t438 t439 t442 x6_1 t450 t452 (wrap64 (x9_3 + 1))))) else (none)) else (none))) else (laws_FnThinned.l1 kj28 l0 t438 t439 t442 x6_1 t450 t452 (wrap64 (x9_3 + 1)))) = some r := by rw [if_neg (show ¬ (false = true) by decide)] at H; exact H
                 clear H
                 have H := H1
                 clear H1
                 by_cases c48 : t452 = true
                 ·
                  subst c48
                  have H1 : (if x6_1 = x9_3 then (laws_FnThinned.l1 kj28 l0 t438 t439 t442 x6_1 t450 true (wrap64 (x9_3 + 1))) else (if 0 ≤ x9_3 then (if x9_3 < (t438.length : Int) then ((laws_contains.f kj28 t442 ((rd_T77 t438 x9_3).f0)).bind fun t462 => (if t462 = true then (if 0 ≤ x6_1 then (if x6_1 < (t438.length : Int) then ((impl_FarSquared.f ((rd_T77 t438 x6_1).f1.f0) ((rd_T77 t438 x6_1).f1.f1) ((rd_T77 t438 x9_3).f1.f0) ((rd_T77 t438 x9_3).f1.f1)).bind fun t465 => (if t465 < (wrap64 (t439 * t439)) then (some false) else (laws_FnThinned.l1 kj28 l0 t438 t439 t442 x6_1 t450 true (wrap64 (x9_3 + 1))))) else (none)) else (none)) else (laws_FnThinned.l1 kj28 l0 t438 t439 t442 x6_1 t450 true (wrap64 (x9_3 + 1))))) else (none)) else (none))) = some r := by rw [if_pos rfl] at H; exact H
                  clear H
                  have H := H1
                  clear H1
                  by_cases c49 : x6_1 = x9_3
                  ·
                   rw [if_pos c49] at H
                   have c49b0 : (x6_1 == x9_3) = true := beq_iff_eq.mpr c49
                   have c49b1 : (x6_1 != x9_3) = false := bne_eq_false_iff_eq.mpr c49
                   clear c49
                   as_aux_lemma =>
                    have H' := Aside0.mk H
                    clear H
                    try go_wp2
                    replace HO_3 := Aside0.mk (Kd.R_drew HO_3.out)
                    replace HO_5 := Aside0.mk (Kd.R_drew HO_5.out)
                    replace HB := Aside0.mk (below_drew1 HB.out)
                    refine Hd.HW.region (by kernel_rfl) (by kernel_rfl) ?_
                    try dsimp only [List.append]
                    repeat (go_big_quiet_step (fail))
                    refine wpQuiet_nil ?_
                    intro _ hq_
                    obtain ⟨q_, rfl⟩ := hq_
                    replace HO_3 := Aside0.mk (Kd.R_below HO_3.out q_.b)
                    replace HO_5 := Aside0.mk (Kd.R_below HO_5.out q_.b)
                    replace HB := Aside0.mk (below_step HB.out q_.b)
                    generalize q_.W = w50 at HO_3 HO_5 HB ⊢
                    try simp only [i64_w, i32_w]
                    try go_wp2
                    go_roundg kj28
                    case measure => have := HK1.out; have := HJ19.out; have := HK3.out; have := HJ28.out; omega
                    case rel => exact ⟨(wrap64 (x9_3 + 1)), (by first | rfl | (simp; done) | (simp [*]; done)), H', ⟨by have := HK1.out; have := HJ19.out; have := HK3.out; have := HJ28.out; omega⟩, ⟨by (with_reducible repeat (first | apply Kd.R_alloc | apply Kd.R_drewN | apply Kd.R_drew)); exact HO_3.out⟩, ⟨by (with_reducible repeat (first | apply Kd.R_alloc | apply Kd.R_drewN | apply Kd.R_drew)); exact HO_5.out⟩, ⟨Hd.b_⟩⟩
                  ·
                   rw [if_neg c49] at H
                   have c49b0 : (x6_1 == x9_3) = false := beq_eq_false_iff_ne.mpr c49
                   have c49b1 : (x6_1 != x9_3) = true := bne_iff_ne.mpr c49
                   by_cases c51 : 0 ≤ x9_3
                   ·
                    rw [if_pos c51] at H
                    have c51b0 : decide (0 ≤ x9_3) = true := decide_eq_true c51
                    clear c51
                    by_cases c52 : x9_3 < (t438.length : Int)
                    ·
                     rw [if_pos c52] at H
                     have c52b0 : decide (x9_3 < (t438.length : Int)) = true := decide_eq_true c52
                     clear c52
                     replace H := Option.bind_eq_some_iff.mp H
                     obtain ⟨t462, A530, H⟩ := H
                     replace H : (if t462 = true then (if 0 ≤ x6_1 then (if x6_1 < (t438.length : Int) then ((impl_FarSquared.f ((rd_T77 t438 x6_1).f1.f0) ((rd_T77 t438 x6_1).f1.f1) ((rd_T77 t438 x9_3).f1.f0) ((rd_T77 t438 x9_3).f1.f1)).bind fun t465 => (if t465 < (wrap64 (t439 * t439)) then (some false) else (laws_FnThinned.l1 kj28 l0 t438 t439 t442 x6_1 t450 true (wrap64 (x9_3 + 1))))) else (none)) else (none)) else (laws_FnThinned.l1 kj28 l0 t438 t439 t442 x6_1 t450 true (wrap64 (x9_3 + 1)))) = some r := H
                     have A53 := Aside0.mk A530
                     clear A530
                     by_cases c54 : t462 = true
                     ·
                      subst c54
                      have H1 : (if 0 ≤ x6_1 then (if x6_1 < (t438.length : Int) then ((impl_FarSquared.f ((rd_T77 t438 x6_1).f1.f0) ((rd_T77 t438 x6_1).f1.f1) ((rd_T77 t438 x9_3).f1.f0) ((rd_T77 t438 x9_3).f1.f1)).bind fun t465 => (if t465 < (wrap64 (t439 * t439)) then (some false) else (laws_FnThinned.l1 kj28 l0 t438 t439 t442 x6_1 t450 true (wrap64 (x9_3 + 1))))) else (none)) else (none)) = some r := by rw [if_pos rfl] at H; exact H
                      clear H
                      have H := H1
                      clear H1
                      by_cases c55 : 0 ≤ x6_1
                      ·
                       rw [if_pos c55] at H
                       have c55b0 : decide (0 ≤ x6_1) = true := decide_eq_true c55
                       clear c55
                       by_cases c56 : x6_1 < (t438.length : Int)
                       ·
                        rw [if_pos c56] at H
                        have c56b0 : decide (x6_1 < (t438.length : Int)) = true := decide_eq_true c56
                        clear c56
                        replace H := Option.bind_eq_some_iff.mp H
                        obtain ⟨t465, A570, H⟩ := H
                        replace H : (if t465 < (wrap64 (t439 * t439)) then (some false) else (laws_FnThinned.l1 kj28 l0 t438 t439 t442 x6_1 t450 true (wrap64 (x9_3 + 1)))) = some r := H
                        have A57 := Aside0.mk A570
                        clear A570
                        by_cases c58 : t465 < (wrap64 (t439 * t439))
                        ·
                         rw [if_pos c58] at H
                         have c58b0 : decide (t465 < (wrap64 (t439 * t439))) = true := decide_eq_true c58
                         clear c58
                         obtain rfl := Option.some.inj H
                         try go_wp2
                         replace HO_3 := Aside0.mk (Kd.R_drew HO_3.out)
                         replace HO_5 := Aside0.mk (Kd.R_drew HO_5.out)
                         replace HB := Aside0.mk (below_drew1 HB.out)
                         have p461 : 0 ≤ (x9_3 : Int) := of_decide_eq_true Hd.a_
                         have q461 : x9_3 < (t438.length : Int) := of_decide_eq_true Hd.a_
                         obtain ⟨ad461, e461, hx461_0, hx461_1, hx461_2, hx461_3⟩ := at_T77 (Kd.R_reads' HO_3.out).2.2 x9_3 p461 q461
                         obtain rfl : ad449 = ad461 := (by injection e461)
                         replace p461 := eq_true p461
                         replace q461 := eq_true q461
                         have p463 : 0 ≤ (x6_1 : Int) := of_decide_eq_true Hd.a_
                         have q463 : x6_1 < (t438.length : Int) := of_decide_eq_true Hd.a_
                         obtain ⟨ad463, e463, hx463_0, hx463_1, hx463_2, hx463_3⟩ := at_T77 (Kd.R_reads' HO_3.out).2.2 x6_1 p463 q463
                         obtain rfl : ad449 = ad463 := (by injection e463)
                         replace p463 := eq_true p463
                         replace q463 := eq_true q463
                         have p464 : 0 ≤ (x9_3 : Int) := of_decide_eq_true Hd.a_
                         have q464 : x9_3 < (t438.length : Int) := of_decide_eq_true Hd.a_
                         obtain ⟨ad464, e464, hx464_0, hx464_1, hx464_2, hx464_3⟩ := at_T77 (Kd.R_reads' HO_3.out).2.2 x9_3 p464 q464
                         obtain rfl : ad449 = ad464 := (by injection e464)
                         replace p464 := eq_true p464
                         replace q464 := eq_true q464
                         refine start_ (n := 32) (S := fun w' => w'.cell? (ad449.add ((x9_3).toNat * 4)) = some (.int .i64 ((rd_T77 t438 x9_3).f0)) ∧ w'.cell? ⟨(ad449.add ((x9_3).toNat * 4)).block, (ad449.add ((x9_3).toNat * 4)).off + 1, none⟩ = some (.int .i64 ((rd_T77 t438 x9_3).f1.f0)) ∧ w'.cell? ⟨(ad449.add ((x9_3).toNat * 4)).block, (ad449.add ((x9_3).toNat * 4)).off + 2, none⟩ = some (.int .i64 ((rd_T77 t438 x9_3).f1.f1)) ∧ w'.cell? ⟨(ad449.add ((x9_3).toNat * 4)).block, (ad449.add ((x9_3).toNat * 4)).off + 3, none⟩ = some (.int .i64 ((rd_T77 t438 x9_3).f2)) ∧ w'.cell? (ad449.add ((x6_1).toNat * 4)) = some (.int .i64 ((rd_T77 t438 x6_1).f0)) ∧ w'.cell? ⟨(ad449.add ((x6_1).toNat * 4)).block, (ad449.add ((x6_1).toNat * 4)).off + 1, none⟩ = some (.int .i64 ((rd_T77 t438 x6_1).f1.f0)) ∧ w'.cell? ⟨(ad449.add ((x6_1).toNat * 4)).block, (ad449.add ((x6_1).toNat * 4)).off + 2, none⟩ = some (.int .i64 ((rd_T77 t438 x6_1).f1.f1)) ∧ w'.cell? ⟨(ad449.add ((x6_1).toNat * 4)).block, (ad449.add ((x6_1).toNat * 4)).off + 3, none⟩ = some (.int .i64 ((rd_T77 t438 x6_1).f2)) ∧ w'.cell? (ad449.add ((x9_3).toNat * 4)) = some (.int .i64 ((rd_T77 t438 x9_3).f0)) ∧ w'.cell? ⟨(ad449.add ((x9_3).toNat * 4)).block, (ad449.add ((x9_3).toNat * 4)).off + 1, none⟩ = some (.int .i64 ((rd_T77 t438 x9_3).f1.f0)) ∧ w'.cell? ⟨(ad449.add ((x9_3).toNat * 4)).block, (ad449.add ((x9_3).toNat * 4)).off + 2, none⟩ = some (.int .i64 ((rd_T77 t438 x9_3).f1.f1)) ∧ w'.cell? ⟨(ad449.add ((x9_3).toNat * 4)).block, (ad449.add ((x9_3).toNat * 4)).off + 3, none⟩ = some (.int .i64 ((rd_T77 t438 x9_3).f2))) (ds := []) #[false, false, false, false, false, false, false, false, false, false, false, false, false, false, false, false, false, false, false, false, false, false, false, false, false, false, false, false, false, false, false, false] (by kernel_rfl) rfl rfl ⟨hx461_0, hx461_1, hx461_2, hx461_3, hx463_0, hx463_1, hx463_2, hx463_3, hx464_0, hx464_1, hx464_2, hx464_3⟩ (fun hHeld => ?_); refine with_tabW laws_FnThinned.tab21 laws_FnThinned.bits21 (fun HT_ HW_ => ?_)
                         generalize wc.drew = w59 at HO_3 HO_5 HB hx461_0 hx461_1 hx461_2 hx461_3 hx463_0 hx463_1 hx463_2 hx463_3 hx464_0 hx464_1 hx464_2 hx464_3 hHeld ⊢
                         refine Hd.p_ HT_ 0 (some 124) #[true, false, false, false, false, false, false, false, false, false, false, false, false, false, false, false, false, false, false, false, false, false, false, false, false, false, false, false, false, false, false, false] ?_
                         refine Hd.p_ HT_ 1 (some 125) #[true, true, false, false, false, false, false, false, false, false, false, false, false, false, false, false, false, false, false, false, false, false, false, false, false, false, false, false, false, false, false, false] ?_
                         refine Hd.p_ HT_ 2 (some 126) #[true, true, true, false, false, false, false, false, false, false, false, false, false, false, false, false, false, false, false, false, false, false, false, false, false, false, false, false, false, false, false, false] ?_
                         refine Hd.p_ HT_ 3 (some 127) #[true, true, true, true, false, false, false, false, false, false, false, false, false, false, false, false, false, false, false, false, false, false, false, false, false, false, false, false, false, false, false, false] ?_
                         refine Hd.p_ HT_ 4 (some 128) #[true, true, true, true, true, false, false, false, false, false, false, false, false, false, false, false, false, false, false, false, false, false, false, false, false, false, false, false, false, false, false, false] ?_
                         refine Hd.p_ HT_ 5 (some 129) #[true, true, true, true, true, true, false, false, false, false, false, false, false, false, false, false, false, false, false, false, false, false, false, false, false, false, false, false, false, false, false, false] ?_
                         refine Hd.p_ HT_ 6 (some 130) #[true, true, true, true, true, true, true, false, false, false, false, false, false, false, false, false, false, false, false, false, false, false, false, false, false, false, false, false, false, false, false, false] ?_
                         refine Hd.p_ HT_ 7 (some 131) #[true, true, true, true, true, true, true, true, false, false, false, false, false, false, false, false, false, false, false, false, false, false, false, false, false, false, false, false, false, false, false, false] ?_
                         refine Hd.p_ HT_ 8 (some 132) #[true, true, true, true, true, true, true, true, true, false, false, false, false, false, false, false, false, false, false, false, false, false, false, false, false, false, false, false, false, false, false, false] ?_
                         refine Hd.p_ HT_ 9 (some 133) #[true, true, true, true, true, true, true, true, true, true, false, false, false, false, false, false, false, false, false, false, false, false, false, false, false, false, false, false, false, false, false, false] ?_
                         refine Hd.p_ HT_ 10 (some 134) #[true, true, true, true, true, true, true, true, true, true, true, false, false, false, false, false, false, false, false, false, false, false, false, false, false, false, false, false, false, false, false, false] ?_
                         refine Hd.p_ HT_ 11 (some 135) #[true, true, true, true, true, true, true, true, true, true, true, true, false, false, false, false, false, false, false, false, false, false, false, false, false, false, false, false, false, false, false, false] ?_
                         refine Hd.t_ HT_ HW_ hHeld 12 (some 136) #[true, true, true, true, true, true, true, true, true, true, true, true, true, false, false, false, false, false, false, false, false, false, false, false, false, false, false, false, false, false, false, false] ?_
                         refine Hd.o_ HT_ 13 (some 137) #[true, true, true, true, true, true, true, true, true, true, true, true, true, true, false, false, false, false, false, false, false, false, false, false, false, false, false, false, false, false, false, false] (fun K hK => ?_)
                         refine goes_ Try.func49 (by kernel_rfl) rfl #[.slice Ao13 t442.length co13, .int .i64 ((rd_T77 t438 x9_3).f0)] (by rfl) rfl rfl Hd.m_ ?_
                         with_reducible refine (laws_contains.calls kj28 _ _ t442 ((rd_T77 t438 x9_3).f0) true _ ?side1 ?side2 A53.out).mono ?_
                         (case side1 => repeat (first | exact (Kd.R_reads' HO_5.out).2.2 | (with_reducible refine Kd.C_alloc ?_ _) | (with_reducible refine Kd.C_drewN ?_ _) | (with_reducible refine Kd.C_drew ?_)))
                         (case side2 => exact (Kd.R_reads' HO_5.out).2.1)
                         rintro e w' ⟨rfl, ⟨nd, rfl⟩⟩
                         refine ⟨_, rfl, ?_⟩
                         refine hK.out _ _ ⟨hHeld.1, hHeld.2.1, hHeld.2.2.1, hHeld.2.2.2.1, hHeld.2.2.2.2.1, hHeld.2.2.2.2.2.1, hHeld.2.2.2.2.2.2.1, hHeld.2.2.2.2.2.2.2.1, hHeld.2.2.2.2.2.2.2.2.1, hHeld.2.2.2.2.2.2.2.2.2.1, hHeld.2.2.2.2.2.2.2.2.2.2.1, hHeld.2.2.2.2.2.2.2.2.2.2.2⟩ (fun hHeld => ?_)
                         clear hK K
                         refine Hd.n_ (some 137) ?_
                         refine Hd.p_ HT_ 14 (some 138) #[true, true, true, true, true, true, true, true, true, true, true, true, true, true, true, false, false, false, false, false, false, false, false, false, false, false, false, false, false, false, false, false] ?_
                         refine Hd.p_ HT_ 15 (some 139) #[true, true, true, true, true, true, true, true, true, true, true, true, true, true, true, true, false, false, false, false, false, false, false, false, false, false, false, false, false, false, false, false] ?_
                         refine Hd.p_ HT_ 16 (some 140) #[true, true, true, true, true, true, true, true, true, true, true, true, true, true, true, true, true, false, false, false, false, false, false, false, false, false, false, false, false, false, false, false] ?_
                         refine Hd.p_ HT_ 17 (some 141) #[true, true, true, true, true, true, true, true, true, true, true, true, true, true, true, true, true, true, false, false, false, false, false, false, false, false, false, false, false, false, false, false] ?_
                         refine Hd.p_ HT_ 18 (some 142) #[true, true, true, true, true, true, true, true, true, true, true, true, true, true, true, true, true, true, true, false, false, false, false, false, false, false, false, false, false, false, false, false] ?_
                         refine Hd.p_ HT_ 19 (some 143) #[true, true, true, true, true, true, true, true, true, true, true, true, true, true, true, true, true, true, true, true, false, false, false, false, false, false, false, false, false, false, false, false] ?_
                         refine Hd.p_ HT_ 21 (some 145) #[true, true, true, true, true, true, true, true, true, true, true, true, true, true, true, true, true, true, true, true, false, true, false, false, false, false, false, false, false, false, false, false] ?_
                         refine Hd.p_ HT_ 22 (some 146) #[true, true, true, true, true, true, true, true, true, true, true, true, true, true, true, true, true, true, true, true, false, true, true, false, false, false, false, false, false, false, false, false] ?_
                         refine Hd.p_ HT_ 23 (some 147) #[true, true, true, true, true, true, true, true, true, true, true, true, true, true, true, true, true, true, true, true, false, true, true, true, false, false, false, false, false, false, false, false] ?_
                         refine Hd.p_ HT_ 24 (some 148) #[true, true, true, true, true, true, true, true, true, true, true, true, true, true, true, true, true, true, true, true, false, true, true, true, true, false, false, false, false, false, false, false] ?_
                         refine Hd.p_ HT_ 27 (some 151) #[true, true, true, true, true, true, true, true, true, true, true, true, true, true, true, true, true, true, true, true, false, true, true, true, true, false, false, true, false, false, false, false] ?_
                         refine Hd.p_ HT_ 28 (some 152) #[true, true, true, true, true, true, true, true, true, true, true, true, true, true, true, true, true, true, true, true, false, true, true, true, true, false, false, true, true, false, false, false] ?_
                         refine Hd.p_ HT_ 29 (some 153) #[true, true, true, true, true, true, true, true, true, true, true, true, true, true, true, true, true, true, true, true, false, true, true, true, true, false, false, true, true, true, false, false] ?_
                         refine Hd.t_ HT_ HW_ hHeld 20 (some 144) #[true, true, true, true, true, true, true, true, true, true, true, true, true, true, true, true, true, true, true, true, true, true, true, true, true, false, false, true, true, true, false, false] ?_
                         refine Hd.t_ HT_ HW_ hHeld 25 (some 149) #[true, true, true, true, true, true, true, true, true, true, true, true, true, true, true, true, true, true, true, true, true, true, true, true, true, true, false, true, true, true, false, false] ?_
                         refine Hd.o_ HT_ 26 (some 150) #[true, true, true, true, true, true, true, true, true, true, true, true, true, true, true, true, true, true, true, true, true, true, true, true, true, true, true, true, true, true, false, false] (fun K hK => ?_)
                         refine goes_ Try.func51 (by kernel_rfl) rfl #[.agg #[.int .i64 ((rd_T77 t438 x6_1).f1.f0), .int .i64 ((rd_T77 t438 x6_1).f1.f1)], .agg #[.int .i64 ((rd_T77 t438 x9_3).f1.f0), .int .i64 ((rd_T77 t438 x9_3).f1.f1)]] (by rfl) rfl rfl Hd.m_ ?_
                         with_reducible refine (impl_FarSquared.calls ((rd_T77 t438 x6_1).f1.f0) ((rd_T77 t438 x6_1).f1.f1) ((rd_T77 t438 x9_3).f1.f0) ((rd_T77 t438 x9_3).f1.f1) t465 _ A57.out).mono ?_
                         rintro e w60 ⟨rfl, hb⟩
                         have HS0_ := (hb.cell (World.block_lt_of_cell? _ _ (hHeld.1))).trans (hHeld.1)
                         have HS1_ := (hb.cell (World.block_lt_of_cell? _ _ (hHeld.2.1))).trans (hHeld.2.1)
                         have HS2_ := (hb.cell (World.block_lt_of_cell? _ _ (hHeld.2.2.1))).trans (hHeld.2.2.1)
                         have HS3_ := (hb.cell (World.block_lt_of_cell? _ _ (hHeld.2.2.2.1))).trans (hHeld.2.2.2.1)
                         have HS4_ := (hb.cell (World.block_lt_of_cell? _ _ (hHeld.2.2.2.2.1))).trans (hHeld.2.2.2.2.1)
                         have HS5_ := (hb.cell (World.block_lt_of_cell? _ _ (hHeld.2.2.2.2.2.1))).trans (hHeld.2.2.2.2.2.1)
                         have HS6_ := (hb.cell (World.block_lt_of_cell? _ _ (hHeld.2.2.2.2.2.2.1))).trans (hHeld.2.2.2.2.2.2.1)
                         have HS7_ := (hb.cell (World.block_lt_of_cell? _ _ (hHeld.2.2.2.2.2.2.2.1))).trans (hHeld.2.2.2.2.2.2.2.1)
                         have HS8_ := (hb.cell (World.block_lt_of_cell? _ _ (hHeld.2.2.2.2.2.2.2.2.1))).trans (hHeld.2.2.2.2.2.2.2.2.1)
                         have HS9_ := (hb.cell (World.block_lt_of_cell? _ _ (hHeld.2.2.2.2.2.2.2.2.2.1))).trans (hHeld.2.2.2.2.2.2.2.2.2.1)
                         have HS10_ := (hb.cell (World.block_lt_of_cell? _ _ (hHeld.2.2.2.2.2.2.2.2.2.2.1))).trans (hHeld.2.2.2.2.2.2.2.2.2.2.1)
                         have HS11_ := (hb.cell (World.block_lt_of_cell? _ _ (hHeld.2.2.2.2.2.2.2.2.2.2.2))).trans (hHeld.2.2.2.2.2.2.2.2.2.2.2)
                         refine ⟨_, rfl, ?_⟩
                         replace HO_3 := Aside0.mk (Kd.R_below (Hd.r_ HO_3) hb)
                         replace HO_5 := Aside0.mk (Kd.R_below (Hd.r_ HO_5) hb)
                         replace HB := Aside0.mk (below_step Hd.b_ hb)
                         (try clear hb)
                         (try clear hb2)
                         (try clear hk)
                         (try clear hi)
                         refine hK.out _ _ ⟨HS0_, HS1_, HS2_, HS3_, HS4_, HS5_, HS6_, HS7_, HS8_, HS9_, HS10_, HS11_⟩ (fun hHeld => ?_)
                         clear hK K
                         refine Hd.n_ (some 150) ?_
                         refine Hd.p_ HT_ 30 (some 154) #[true, true, true, true, true, true, true, true, true, true, true, true, true, true, true, true, true, true, true, true, true, true, true, true, true, true, true, true, true, true, true, false] ?_
                         refine Hd.p_ HT_ 31 (some 155) #[true, true, true, true, true, true, true, true, true, true, true, true, true, true, true, true, true, true, true, true, true, true, true, true, true, true, true, true, true, true, true, true] ?_
                         refine done_ (done_of HT_.out (by kernel_rfl)) ?_
                         try go_wp2
                         go_ret
                         exact ⟨Hd.e_, Hd.b_⟩
                        ·
                         rw [if_neg c58] at H
                         have c58b0 : decide (t465 < (wrap64 (t439 * t439))) = false := decide_eq_false c58
                         clear c58
                         as_aux_lemma =>
                          have H' := Aside0.mk H
                          clear H
                          try go_wp2
                          replace HO_3 := Aside0.mk (Kd.R_drew HO_3.out)
                          replace HO_5 := Aside0.mk (Kd.R_drew HO_5.out)
                          replace HB := Aside0.mk (below_drew1 HB.out)
                          have p461 : 0 ≤ (x9_3 : Int) := of_decide_eq_true Hd.a_
                          have q461 : x9_3 < (t438.length : Int) := of_decide_eq_true Hd.a_
                          obtain ⟨ad461, e461, hx461_0, hx461_1, hx461_2, hx461_3⟩ := at_T77 (Kd.R_reads' HO_3.out).2.2 x9_3 p461 q461
                          obtain rfl : ad449 = ad461 := (by injection e461)
                          replace p461 := eq_true p461
                          replace q461 := eq_true q461
                          have p463 : 0 ≤ (x6_1 : Int) := of_decide_eq_true Hd.a_
                          have q463 : x6_1 < (t438.length : Int) := of_decide_eq_true Hd.a_
                          obtain ⟨ad463, e463, hx463_0, hx463_1, hx463_2, hx463_3⟩ := at_T77 (Kd.R_reads' HO_3.out).2.2 x6_1 p463 q463
                          obtain rfl : ad449 = ad463 := (by injection e463)
                          replace p463 := eq_true p463
                          replace q463 := eq_true q463
                          have p464 : 0 ≤ (x9_3 : Int) := of_decide_eq_true Hd.a_
                          have q464 : x9_3 < (t438.length : Int) := of_decide_eq_true Hd.a_
                          obtain ⟨ad464, e464, hx464_0, hx464_1, hx464_2, hx464_3⟩ := at_T77 (Kd.R_reads' HO_3.out).2.2 x9_3 p464 q464
                          obtain rfl : ad449 = ad464 := (by injection e464)
                          replace p464 := eq_true p464
                          replace q464 := eq_true q464
                          refine start_ (n := 32) (S := fun w' => w'.cell? (ad449.add ((x9_3).toNat * 4)) = some (.int .i64 ((rd_T77 t438 x9_3).f0)) ∧ w'.cell? ⟨(ad449.add ((x9_3).toNat * 4)).block, (ad449.add ((x9_3).toNat * 4)).off + 1, none⟩ = some (.int .i64 ((rd_T77 t438 x9_3).f1.f0)) ∧ w'.cell? ⟨(ad449.add ((x9_3).toNat * 4)).block, (ad449.add ((x9_3).toNat * 4)).off + 2, none⟩ = some (.int .i64 ((rd_T77 t438 x9_3).f1.f1)) ∧ w'.cell? ⟨(ad449.add ((x9_3).toNat * 4)).block, (ad449.add ((x9_3).toNat * 4)).off + 3, none⟩ = some (.int .i64 ((rd_T77 t438 x9_3).f2)) ∧ w'.cell? (ad449.add ((x6_1).toNat * 4)) = some (.int .i64 ((rd_T77 t438 x6_1).f0)) ∧ w'.cell? ⟨(ad449.add ((x6_1).toNat * 4)).block, (ad449.add ((x6_1).toNat * 4)).off + 1, none⟩ = some (.int .i64 ((rd_T77 t438 x6_1).f1.f0)) ∧ w'.cell? ⟨(ad449.add ((x6_1).toNat * 4)).block, (ad449.add ((x6_1).toNat * 4)).off + 2, none⟩ = some (.int .i64 ((rd_T77 t438 x6_1).f1.f1)) ∧ w'.cell? ⟨(ad449.add ((x6_1).toNat * 4)).block, (ad449.add ((x6_1).toNat * 4)).off + 3, none⟩ = some (.int .i64 ((rd_T77 t438 x6_1).f2)) ∧ w'.cell? (ad449.add ((x9_3).toNat * 4)) = some (.int .i64 ((rd_T77 t438 x9_3).f0)) ∧ w'.cell? ⟨(ad449.add ((x9_3).toNat * 4)).block, (ad449.add ((x9_3).toNat * 4)).off + 1, none⟩ = some (.int .i64 ((rd_T77 t438 x9_3).f1.f0)) ∧ w'.cell? ⟨(ad449.add ((x9_3).toNat * 4)).block, (ad449.add ((x9_3).toNat * 4)).off + 2, none⟩ = some (.int .i64 ((rd_T77 t438 x9_3).f1.f1)) ∧ w'.cell? ⟨(ad449.add ((x9_3).toNat * 4)).block, (ad449.add ((x9_3).toNat * 4)).off + 3, none⟩ = some (.int .i64 ((rd_T77 t438 x9_3).f2))) (ds := []) #[false, false, false, false, false, false, false, false, false, false, false, false, false, false, false, false, false, false, false, false, false, false, false, false, false, false, false, false, false, false, false, false] (by kernel_rfl) rfl rfl ⟨hx461_0, hx461_1, hx461_2, hx461_3, hx463_0, hx463_1, hx463_2, hx463_3, hx464_0, hx464_1, hx464_2, hx464_3⟩ (fun hHeld => ?_); refine with_tabW laws_FnThinned.tab21 laws_FnThinned.bits21 (fun HT_ HW_ => ?_)
                          generalize wc.drew = w61 at HO_3 HO_5 HB hx461_0 hx461_1 hx461_2 hx461_3 hx463_0 hx463_1 hx463_2 hx463_3 hx464_0 hx464_1 hx464_2 hx464_3 hHeld ⊢
                          refine Hd.p_ HT_ 0 (some 124) #[true, false, false, false, false, false, false, false, false, false, false, false, false, false, false, false, false, false, false, false, false, false, false, false, false, false, false, false, false, false, false, false] ?_
                          refine Hd.p_ HT_ 1 (some 125) #[true, true, false, false, false, false, false, false, false, false, false, false, false, false, false, false, false, false, false, false, false, false, false, false, false, false, false, false, false, false, false, false] ?_
                          refine Hd.p_ HT_ 2 (some 126) #[true, true, true, false, false, false, false, false, false, false, false, false, false, false, false, false, false, false, false, false, false, false, false, false, false, false, false, false, false, false, false, false] ?_
                          refine Hd.p_ HT_ 3 (some 127) #[true, true, true, true, false, false, false, false, false, false, false, false, false, false, false, false, false, false, false, false, false, false, false, false, false, false, false, false, false, false, false, false] ?_
                          refine Hd.p_ HT_ 4 (some 128) #[true, true, true, true, true, false, false, false, false, false, false, false, false, false, false, false, false, false, false, false, false, false, false, false, false, false, false, false, false, false, false, false] ?_
                          refine Hd.p_ HT_ 5 (some 129) #[true, true, true, true, true, true, false, false, false, false, false, false, false, false, false, false, false, false, false, false, false, false, false, false, false, false, false, false, false, false, false, false] ?_
                          refine Hd.p_ HT_ 6 (some 130) #[true, true, true, true, true, true, true, false, false, false, false, false, false, false, false, false, false, false, false, false, false, false, false, false, false, false, false, false, false, false, false, false] ?_
                          refine Hd.p_ HT_ 7 (some 131) #[true, true, true, true, true, true, true, true, false, false, false, false, false, false, false, false, false, false, false, false, false, false, false, false, false, false, false, false, false, false, false, false] ?_
                          refine Hd.p_ HT_ 8 (some 132) #[true, true, true, true, true, true, true, true, true, false, false, false, false, false, false, false, false, false, false, false, false, false, false, false, false, false, false, false, false, false, false, false] ?_
                          refine Hd.p_ HT_ 9 (some 133) #[true, true, true, true, true, true, true, true, true, true, false, false, false, false, false, false, false, false, false, false, false, false, false, false, false, false, false, false, false, false, false, false] ?_
                          refine Hd.p_ HT_ 10 (some 134) #[true, true, true, true, true, true, true, true, true, true, true, false, false, false, false, false, false, false, false, false, false, false, false, false, false, false, false, false, false, false, false, false] ?_
                          refine Hd.p_ HT_ 11 (some 135) #[true, true, true, true, true, true, true, true, true, true, true, true, false, false, false, false, false, false, false, false, false, false, false, false, false, false, false, false, false, false, false, false] ?_
                          refine Hd.t_ HT_ HW_ hHeld 12 (some 136) #[true, true, true, true, true, true, true, true, true, true, true, true, true, false, false, false, false, false, false, false, false, false, false, false, false, false, false, false, false, false, false, false] ?_
                          refine Hd.o_ HT_ 13 (some 137) #[true, true, true, true, true, true, true, true, true, true, true, true, true, true, false, false, false, false, false, false, false, false, false, false, false, false, false, false, false, false, false, false] (fun K hK => ?_)
                          refine goes_ Try.func49 (by kernel_rfl) rfl #[.slice Ao13 t442.length co13, .int .i64 ((rd_T77 t438 x9_3).f0)] (by rfl) rfl rfl Hd.m_ ?_
                          with_reducible refine (laws_contains.calls kj28 _ _ t442 ((rd_T77 t438 x9_3).f0) true _ ?side1 ?side2 A53.out).mono ?_
                          (case side1 => repeat (first | exact (Kd.R_reads' HO_5.out).2.2 | (with_reducible refine Kd.C_alloc ?_ _) | (with_reducible refine Kd.C_drewN ?_ _) | (with_reducible refine Kd.C_drew ?_)))
                          (case side2 => exact (Kd.R_reads' HO_5.out).2.1)
                          rintro e w' ⟨rfl, ⟨nd, rfl⟩⟩
                          refine ⟨_, rfl, ?_⟩
                          refine hK.out _ _ ⟨hHeld.1, hHeld.2.1, hHeld.2.2.1, hHeld.2.2.2.1, hHeld.2.2.2.2.1, hHeld.2.2.2.2.2.1, hHeld.2.2.2.2.2.2.1, hHeld.2.2.2.2.2.2.2.1, hHeld.2.2.2.2.2.2.2.2.1, hHeld.2.2.2.2.2.2.2.2.2.1, hHeld.2.2.2.2.2.2.2.2.2.2.1, hHeld.2.2.2.2.2.2.2.2.2.2.2⟩ (fun hHeld => ?_)
                          clear hK K
                          refine Hd.n_ (some 137) ?_
                          refine Hd.p_ HT_ 14 (some 138) #[true, true, true, true, true, true, true, true, true, true, true, true, true, true, true, false, false, false, false, false, false, false, false, false, false, false, false, false, false, false, false, false] ?_
                          refine Hd.p_ HT_ 15 (some 139) #[true, true, true, true, true, true, true, true, true, true, true, true, true, true, true, true, false, false, false, false, false, false, false, false, false, false, false, false, false, false, false, false] ?_
                          refine Hd.p_ HT_ 16 (some 140) #[true, true, true, true, true, true, true, true, true, true, true, true, true, true, true, true, true, false, false, false, false, false, false, false, false, false, false, false, false, false, false, false] ?_
                          refine Hd.p_ HT_ 17 (some 141) #[true, true, true, true, true, true, true, true, true, true, true, true, true, true, true, true, true, true, false, false, false, false, false, false, false, false, false, false, false, false, false, false] ?_
                          refine Hd.p_ HT_ 18 (some 142) #[true, true, true, true, true, true, true, true, true, true, true, true, true, true, true, true, true, true, true, false, false, false, false, false, false, false, false, false, false, false, false, false] ?_
                          refine Hd.p_ HT_ 19 (some 143) #[true, true, true, true, true, true, true, true, true, true, true, true, true, true, true, true, true, true, true, true, false, false, false, false, false, false, false, false, false, false, false, false] ?_
                          refine Hd.p_ HT_ 21 (some 145) #[true, true, true, true, true, true, true, true, true, true, true, true, true, true, true, true, true, true, true, true, false, true, false, false, false, false, false, false, false, false, false, false] ?_
                          refine Hd.p_ HT_ 22 (some 146) #[true, true, true, true, true, true, true, true, true, true, true, true, true, true, true, true, true, true, true, true, false, true, true, false, false, false, false, false, false, false, false, false] ?_
                          refine Hd.p_ HT_ 23 (some 147) #[true, true, true, true, true, true, true, true, true, true, true, true, true, true, true, true, true, true, true, true, false, true, true, true, false, false, false, false, false, false, false, false] ?_
                          refine Hd.p_ HT_ 24 (some 148) #[true, true, true, true, true, true, true, true, true, true, true, true, true, true, true, true, true, true, true, true, false, true, true, true, true, false, false, false, false, false, false, false] ?_
                          refine Hd.p_ HT_ 27 (some 151) #[true, true, true, true, true, true, true, true, true, true, true, true, true, true, true, true, true, true, true, true, false, true, true, true, true, false, false, true, false, false, false, false] ?_
                          refine Hd.p_ HT_ 28 (some 152) #[true, true, true, true, true, true, true, true, true, true, true, true, true, true, true, true, true, true, true, true, false, true, true, true, true, false, false, true, true, false, false, false] ?_
                          refine Hd.p_ HT_ 29 (some 153) #[true, true, true, true, true, true, true, true, true, true, true, true, true, true, true, true, true, true, true, true, false, true, true, true, true, false, false, true, true, true, false, false] ?_
                          refine Hd.t_ HT_ HW_ hHeld 20 (some 144) #[true, true, true, true, true, true, true, true, true, true, true, true, true, true, true, true, true, true, true, true, true, true, true, true, true, false, false, true, true, true, false, false] ?_
                          refine Hd.t_ HT_ HW_ hHeld 25 (some 149) #[true, true, true, true, true, true, true, true, true, true, true, true, true, true, true, true, true, true, true, true, true, true, true, true, true, true, false, true, true, true, false, false] ?_
                          refine Hd.o_ HT_ 26 (some 150) #[true, true, true, true, true, true, true, true, true, true, true, true, true, true, true, true, true, true, true, true, true, true, true, true, true, true, true, true, true, true, false, false] (fun K hK => ?_)
                          refine goes_ Try.func51 (by kernel_rfl) rfl #[.agg #[.int .i64 ((rd_T77 t438 x6_1).f1.f0), .int .i64 ((rd_T77 t438 x6_1).f1.f1)], .agg #[.int .i64 ((rd_T77 t438 x9_3).f1.f0), .int .i64 ((rd_T77 t438 x9_3).f1.f1)]] (by rfl) rfl rfl Hd.m_ ?_
                          with_reducible refine (impl_FarSquared.calls ((rd_T77 t438 x6_1).f1.f0) ((rd_T77 t438 x6_1).f1.f1) ((rd_T77 t438 x9_3).f1.f0) ((rd_T77 t438 x9_3).f1.f1) t465 _ A57.out).mono ?_
                          rintro e w62 ⟨rfl, hb⟩
                          have HS0_ := (hb.cell (World.block_lt_of_cell? _ _ (hHeld.1))).trans (hHeld.1)
                          have HS1_ := (hb.cell (World.block_lt_of_cell? _ _ (hHeld.2.1))).trans (hHeld.2.1)
                          have HS2_ := (hb.cell (World.block_lt_of_cell? _ _ (hHeld.2.2.1))).trans (hHeld.2.2.1)
                          have HS3_ := (hb.cell (World.block_lt_of_cell? _ _ (hHeld.2.2.2.1))).trans (hHeld.2.2.2.1)
                          have HS4_ := (hb.cell (World.block_lt_of_cell? _ _ (hHeld.2.2.2.2.1))).trans (hHeld.2.2.2.2.1)
                          have HS5_ := (hb.cell (World.block_lt_of_cell? _ _ (hHeld.2.2.2.2.2.1))).trans (hHeld.2.2.2.2.2.1)
                          have HS6_ := (hb.cell (World.block_lt_of_cell? _ _ (hHeld.2.2.2.2.2.2.1))).trans (hHeld.2.2.2.2.2.2.1)
                          have HS7_ := (hb.cell (World.block_lt_of_cell? _ _ (hHeld.2.2.2.2.2.2.2.1))).trans (hHeld.2.2.2.2.2.2.2.1)
                          have HS8_ := (hb.cell (World.block_lt_of_cell? _ _ (hHeld.2.2.2.2.2.2.2.2.1))).trans (hHeld.2.2.2.2.2.2.2.2.1)
                          have HS9_ := (hb.cell (World.block_lt_of_cell? _ _ (hHeld.2.2.2.2.2.2.2.2.2.1))).trans (hHeld.2.2.2.2.2.2.2.2.2.1)
                          have HS10_ := (hb.cell (World.block_lt_of_cell? _ _ (hHeld.2.2.2.2.2.2.2.2.2.2.1))).trans (hHeld.2.2.2.2.2.2.2.2.2.2.1)
                          have HS11_ := (hb.cell (World.block_lt_of_cell? _ _ (hHeld.2.2.2.2.2.2.2.2.2.2.2))).trans (hHeld.2.2.2.2.2.2.2.2.2.2.2)
                          refine ⟨_, rfl, ?_⟩
                          replace HO_3 := Aside0.mk (Kd.R_below (Hd.r_ HO_3) hb)
                          replace HO_5 := Aside0.mk (Kd.R_below (Hd.r_ HO_5) hb)
                          replace HB := Aside0.mk (below_step Hd.b_ hb)
                          (try clear hb)
                          (try clear hb2)
                          (try clear hk)
                          (try clear hi)
                          refine hK.out _ _ ⟨HS0_, HS1_, HS2_, HS3_, HS4_, HS5_, HS6_, HS7_, HS8_, HS9_, HS10_, HS11_⟩ (fun hHeld => ?_)
                          clear hK K
                          refine Hd.n_ (some 150) ?_
                          refine Hd.p_ HT_ 30 (some 154) #[true, true, true, true, true, true, true, true, true, true, true, true, true, true, true, true, true, true, true, true, true, true, true, true, true, true, true, true, true, true, true, false] ?_
                          refine Hd.p_ HT_ 31 (some 155) #[true, true, true, true, true, true, true, true, true, true, true, true, true, true, true, true, true, true, true, true, true, true, true, true, true, true, true, true, true, true, true, true] ?_
                          refine done_ (done_of HT_.out (by kernel_rfl)) ?_
                          try go_wp2
                          go_roundg kj28
                          case measure => have := HK1.out; have := HJ19.out; have := HK3.out; have := HJ28.out; omega
                          case rel => exact ⟨(wrap64 (x9_3 + 1)), (by first | rfl | (simp; done) | (simp [*]; done)), H', ⟨by have := HK1.out; have := HJ19.out; have := HK3.out; have := HJ28.out; omega⟩, ⟨by (with_reducible repeat (first | apply Kd.R_alloc | apply Kd.R_drewN | apply Kd.R_drew)); exact HO_3.out⟩, ⟨by (with_reducible repeat (first | apply Kd.R_alloc | apply Kd.R_drewN | apply Kd.R_drew)); exact HO_5.out⟩, ⟨Hd.b_⟩⟩
                       ·
                        rw [if_neg c56] at H
                        exact absurd H (by simp)
                      ·
                       rw [if_neg c55] at H
                       exact absurd H (by simp)
                     ·
                      replace c54 := Bool.eq_false_iff.mpr c54
                      subst c54
                      have H1 : (laws_FnThinned.l1 kj28 l0 t438 t439 t442 x6_1 t450 true (wrap64 (x9_3 + 1))) = some r := by rw [if_neg (show ¬ (false = true) by decide)] at H; exact H
                      clear H
                      have H := H1
                      clear H1
                      as_aux_lemma =>
                       have H' := Aside0.mk H
                       clear H
                       try go_wp2
                       replace HO_3 := Aside0.mk (Kd.R_drew HO_3.out)
                       replace HO_5 := Aside0.mk (Kd.R_drew HO_5.out)
                       replace HB := Aside0.mk (below_drew1 HB.out)
                       have p461 : 0 ≤ (x9_3 : Int) := of_decide_eq_true Hd.a_
                       have q461 : x9_3 < (t438.length : Int) := of_decide_eq_true Hd.a_
                       obtain ⟨ad461, e461, hx461_0, hx461_1, hx461_2, hx461_3⟩ := at_T77 (Kd.R_reads' HO_3.out).2.2 x9_3 p461 q461
                       obtain rfl : ad449 = ad461 := (by injection e461)
                       replace p461 := eq_true p461
                       replace q461 := eq_true q461
                       refine start_ (n := 32) (S := fun w' => w'.cell? (ad449.add ((x9_3).toNat * 4)) = some (.int .i64 ((rd_T77 t438 x9_3).f0)) ∧ w'.cell? ⟨(ad449.add ((x9_3).toNat * 4)).block, (ad449.add ((x9_3).toNat * 4)).off + 1, none⟩ = some (.int .i64 ((rd_T77 t438 x9_3).f1.f0)) ∧ w'.cell? ⟨(ad449.add ((x9_3).toNat * 4)).block, (ad449.add ((x9_3).toNat * 4)).off + 2, none⟩ = some (.int .i64 ((rd_T77 t438 x9_3).f1.f1)) ∧ w'.cell? ⟨(ad449.add ((x9_3).toNat * 4)).block, (ad449.add ((x9_3).toNat * 4)).off + 3, none⟩ = some (.int .i64 ((rd_T77 t438 x9_3).f2))) (ds := []) #[false, false, false, false, false, false, false, false, false, false, false, false, false, false, false, false, false, false, false, false, false, false, false, false, false, false, false, false, false, false, false, false] (by kernel_rfl) rfl rfl ⟨hx461_0, hx461_1, hx461_2, hx461_3⟩ (fun hHeld => ?_); refine with_tabW laws_FnThinned.tab21 laws_FnThinned.bits21 (fun HT_ HW_ => ?_)
                       generalize wc.drew = w63 at HO_3 HO_5 HB hx461_0 hx461_1 hx461_2 hx461_3 hHeld ⊢
                       refine Hd.p_ HT_ 0 (some 124) #[true, false, false, false, false, false, false, false, false, false, false, false, false, false, false, false, false, false, false, false, false, false, false, false, false, false, false, false, false, false, false, false] ?_
                       refine Hd.p_ HT_ 1 (some 125) #[true, true, false, false, false, false, false, false, false, false, false, false, false, false, false, false, false, false, false, false, false, false, false, false, false, false, false, false, false, false, false, false] ?_
                       refine Hd.p_ HT_ 2 (some 126) #[true, true, true, false, false, false, false, false, false, false, false, false, false, false, false, false, false, false, false, false, false, false, false, false, false, false, false, false, false, false, false, false] ?_
                       refine Hd.p_ HT_ 3 (some 127) #[true, true, true, true, false, false, false, false, false, false, false, false, false, false, false, false, false, false, false, false, false, false, false, false, false, false, false, false, false, false, false, false] ?_
                       refine Hd.p_ HT_ 4 (some 128) #[true, true, true, true, true, false, false, false, false, false, false, false, false, false, false, false, false, false, false, false, false, false, false, false, false, false, false, false, false, false, false, false] ?_
                       refine Hd.p_ HT_ 5 (some 129) #[true, true, true, true, true, true, false, false, false, false, false, false, false, false, false, false, false, false, false, false, false, false, false, false, false, false, false, false, false, false, false, false] ?_
                       refine Hd.p_ HT_ 6 (some 130) #[true, true, true, true, true, true, true, false, false, false, false, false, false, false, false, false, false, false, false, false, false, false, false, false, false, false, false, false, false, false, false, false] ?_
                       refine Hd.p_ HT_ 7 (some 131) #[true, true, true, true, true, true, true, true, false, false, false, false, false, false, false, false, false, false, false, false, false, false, false, false, false, false, false, false, false, false, false, false] ?_
                       refine Hd.p_ HT_ 8 (some 132) #[true, true, true, true, true, true, true, true, true, false, false, false, false, false, false, false, false, false, false, false, false, false, false, false, false, false, false, false, false, false, false, false] ?_
                       refine Hd.p_ HT_ 9 (some 133) #[true, true, true, true, true, true, true, true, true, true, false, false, false, false, false, false, false, false, false, false, false, false, false, false, false, false, false, false, false, false, false, false] ?_
                       refine Hd.p_ HT_ 10 (some 134) #[true, true, true, true, true, true, true, true, true, true, true, false, false, false, false, false, false, false, false, false, false, false, false, false, false, false, false, false, false, false, false, false] ?_
                       refine Hd.p_ HT_ 11 (some 135) #[true, true, true, true, true, true, true, true, true, true, true, true, false, false, false, false, false, false, false, false, false, false, false, false, false, false, false, false, false, false, false, false] ?_
                       refine Hd.t_ HT_ HW_ hHeld 12 (some 136) #[true, true, true, true, true, true, true, true, true, true, true, true, true, false, false, false, false, false, false, false, false, false, false, false, false, false, false, false, false, false, false, false] ?_
                       refine Hd.o_ HT_ 13 (some 137) #[true, true, true, true, true, true, true, true, true, true, true, true, true, true, false, false, false, false, false, false, false, false, false, false, false, false, false, false, false, false, false, false] (fun K hK => ?_)
                       refine goes_ Try.func49 (by kernel_rfl) rfl #[.slice Ao13 t442.length co13, .int .i64 ((rd_T77 t438 x9_3).f0)] (by rfl) rfl rfl Hd.m_ ?_
                       with_reducible refine (laws_contains.calls kj28 _ _ t442 ((rd_T77 t438 x9_3).f0) false _ ?side1 ?side2 A53.out).mono ?_
                       (case side1 => repeat (first | exact (Kd.R_reads' HO_5.out).2.2 | (with_reducible refine Kd.C_alloc ?_ _) | (with_reducible refine Kd.C_drewN ?_ _) | (with_reducible refine Kd.C_drew ?_)))
                       (case side2 => exact (Kd.R_reads' HO_5.out).2.1)
                       rintro e w' ⟨rfl, ⟨nd, rfl⟩⟩
                       refine ⟨_, rfl, ?_⟩
                       refine hK.out _ _ ⟨hHeld.1, hHeld.2.1, hHeld.2.2.1, hHeld.2.2.2⟩ (fun hHeld => ?_)
                       clear hK K
                       refine Hd.n_ (some 137) ?_
                       refine Hd.p_ HT_ 14 (some 138) #[true, true, true, true, true, true, true, true, true, true, true, true, true, true, true, false, false, false, false, false, false, false, false, false, false, false, false, false, false, false, false, false] ?_
                       refine Hd.p_ HT_ 15 (some 139) #[true, true, true, true, true, true, true, true, true, true, true, true, true, true, true, true, false, false, false, false, false, false, false, false, false, false, false, false, false, false, false, false] ?_
                       refine pure_ (i := 16) (N := some 140) (v := undef) (a' := ?_) #[true, true, true, true, true, true, true, true, true, true, true, true, true, true, true, true, true, false, false, false, false, false, false, false, false, false, false, false, false, false, false, false] rfl rfl (any_of HT_.out (by kernel_rfl)) (fun _ _ _ h => h) (Or.inr ⟨by rfl, rfl⟩) ?_ ?_
                       rotate_left
                       ·
                        simp only [Act.put, List.setIfInBounds_toArray, List.set_cons_zero, List.set_cons_succ, i64_w, i32_w]
                        rfl
                       refine pure_ (i := 17) (N := some 141) (v := undef) (a' := ?_) #[true, true, true, true, true, true, true, true, true, true, true, true, true, true, true, true, true, true, false, false, false, false, false, false, false, false, false, false, false, false, false, false] rfl rfl (any_of HT_.out (by kernel_rfl)) (fun _ _ _ h => h) (Or.inr ⟨by rfl, rfl⟩) ?_ ?_
                       rotate_left
                       ·
                        simp only [Act.put, List.setIfInBounds_toArray, List.set_cons_zero, List.set_cons_succ, i64_w, i32_w]
                        rfl
                       refine pure_ (i := 18) (N := some 142) (v := undef) (a' := ?_) #[true, true, true, true, true, true, true, true, true, true, true, true, true, true, true, true, true, true, true, false, false, false, false, false, false, false, false, false, false, false, false, false] rfl rfl (any_of HT_.out (by kernel_rfl)) (fun _ _ _ h => h) (Or.inr ⟨by rfl, rfl⟩) ?_ ?_
                       rotate_left
                       ·
                        simp only [Act.put, List.setIfInBounds_toArray, List.set_cons_zero, List.set_cons_succ, i64_w, i32_w]
                        rfl
                       refine pure_ (i := 19) (N := some 143) (v := undef) (a' := ?_) #[true, true, true, true, true, true, true, true, true, true, true, true, true, true, true, true, true, true, true, true, false, false, false, false, false, false, false, false, false, false, false, false] rfl rfl (any_of HT_.out (by kernel_rfl)) (fun _ _ _ h => h) (Or.inr ⟨by rfl, rfl⟩) ?_ ?_
                       rotate_left
                       ·
                        simp only [Act.put, List.setIfInBounds_toArray, List.set_cons_zero, List.set_cons_succ, i64_w, i32_w]
                        rfl
                       refine pure_ (i := 20) (N := some 144) (v := undef) (a' := ?_) #[true, true, true, true, true, true, true, true, true, true, true, true, true, true, true, true, true, true, true, true, true, false, false, false, false, false, false, false, false, false, false, false] rfl rfl (any_of HT_.out (by kernel_rfl)) (fun _ _ _ h => h) (Or.inr ⟨by rfl, rfl⟩) ?_ ?_
                       rotate_left
                       ·
                        simp only [Act.put, List.setIfInBounds_toArray, List.set_cons_zero, List.set_cons_succ, i64_w, i32_w]
                        rfl
                       refine pure_ (i := 21) (N := some 145) (v := undef) (a' := ?_) #[true, true, true, true, true, true, true, true, true, true, true, true, true, true, true, true, true, true, true, true, true, true, false, false, false, false, false, false, false, false, false, false] rfl rfl (any_of HT_.out (by kernel_rfl)) (fun _ _ _ h => h) (Or.inr ⟨by rfl, rfl⟩) ?_ ?_
                       rotate_left
                       ·
                        simp only [Act.put, List.setIfInBounds_toArray, List.set_cons_zero, List.set_cons_succ, i64_w, i32_w]
                        rfl
                       refine pure_ (i := 22) (N := some 146) (v := undef) (a' := ?_) #[true, true, true, true, true, true, true, true, true, true, true, true, true, true, true, true, true, true, true, true, true, true, true, false, false, false, false, false, false, false, false, false] rfl rfl (any_of HT_.out (by kernel_rfl)) (fun _ _ _ h => h) (Or.inr ⟨by rfl, rfl⟩) ?_ ?_
                       rotate_left
                       ·
                        simp only [Act.put, List.setIfInBounds_toArray, List.set_cons_zero, List.set_cons_succ, i64_w, i32_w]
                        rfl
                       refine pure_ (i := 23) (N := some 147) (v := undef) (a' := ?_) #[true, true, true, true, true, true, true, true, true, true, true, true, true, true, true, true, true, true, true, true, true, true, true, true, false, false, false, false, false, false, false, false] rfl rfl (any_of HT_.out (by kernel_rfl)) (fun _ _ _ h => h) (Or.inr ⟨by rfl, rfl⟩) ?_ ?_
                       rotate_left
                       ·
                        simp only [Act.put, List.setIfInBounds_toArray, List.set_cons_zero, List.set_cons_succ, i64_w, i32_w]
                        rfl
                       refine pure_ (i := 24) (N := some 148) (v := undef) (a' := ?_) #[true, true, true, true, true, true, true, true, true, true, true, true, true, true, true, true, true, true, true, true, true, true, true, true, true, false, false, false, false, false, false, false] rfl rfl (any_of HT_.out (by kernel_rfl)) (fun _ _ _ h => h) (Or.inr ⟨by rfl, rfl⟩) ?_ ?_
                       rotate_left
                       ·
                        simp only [Act.put, List.setIfInBounds_toArray, List.set_cons_zero, List.set_cons_succ, i64_w, i32_w]
                        rfl
                       refine pure_ (i := 25) (N := some 149) (v := undef) (a' := ?_) #[true, true, true, true, true, true, true, true, true, true, true, true, true, true, true, true, true, true, true, true, true, true, true, true, true, true, false, false, false, false, false, false] rfl rfl (any_of HT_.out (by kernel_rfl)) (fun _ _ _ h => h) (Or.inr ⟨by rfl, rfl⟩) ?_ ?_
                       rotate_left
                       ·
                        simp only [Act.put, List.setIfInBounds_toArray, List.set_cons_zero, List.set_cons_succ, i64_w, i32_w]
                        rfl
                       refine pure_ (i := 26) (N := some 150) (v := undef) (a' := ?_) #[true, true, true, true, true, true, true, true, true, true, true, true, true, true, true, true, true, true, true, true, true, true, true, true, true, true, true, false, false, false, false, false] rfl rfl (any_of HT_.out (by kernel_rfl)) (fun _ _ _ h => h) (Or.inr ⟨by rfl, rfl⟩) ?_ ?_
                       rotate_left
                       ·
                        simp only [Act.put, List.setIfInBounds_toArray, List.set_cons_zero, List.set_cons_succ, i64_w, i32_w]
                        rfl
                       refine pure_ (i := 27) (N := some 151) (v := undef) (a' := ?_) #[true, true, true, true, true, true, true, true, true, true, true, true, true, true, true, true, true, true, true, true, true, true, true, true, true, true, true, true, false, false, false, false] rfl rfl (any_of HT_.out (by kernel_rfl)) (fun _ _ _ h => h) (Or.inr ⟨by rfl, rfl⟩) ?_ ?_
                       rotate_left
                       ·
                        simp only [Act.put, List.setIfInBounds_toArray, List.set_cons_zero, List.set_cons_succ, i64_w, i32_w]
                        rfl
                       refine pure_ (i := 28) (N := some 152) (v := undef) (a' := ?_) #[true, true, true, true, true, true, true, true, true, true, true, true, true, true, true, true, true, true, true, true, true, true, true, true, true, true, true, true, true, false, false, false] rfl rfl (any_of HT_.out (by kernel_rfl)) (fun _ _ _ h => h) (Or.inr ⟨by rfl, rfl⟩) ?_ ?_
                       rotate_left
                       ·
                        simp only [Act.put, List.setIfInBounds_toArray, List.set_cons_zero, List.set_cons_succ, i64_w, i32_w]
                        rfl
                       refine pure_ (i := 29) (N := some 153) (v := undef) (a' := ?_) #[true, true, true, true, true, true, true, true, true, true, true, true, true, true, true, true, true, true, true, true, true, true, true, true, true, true, true, true, true, true, false, false] rfl rfl (any_of HT_.out (by kernel_rfl)) (fun _ _ _ h => h) (Or.inr ⟨by rfl, rfl⟩) ?_ ?_
                       rotate_left
                       ·
                        simp only [Act.put, List.setIfInBounds_toArray, List.set_cons_zero, List.set_cons_succ, i64_w, i32_w]
                        rfl
                       refine pure_ (i := 30) (N := some 154) (v := undef) (a' := ?_) #[true, true, true, true, true, true, true, true, true, true, true, true, true, true, true, true, true, true, true, true, true, true, true, true, true, true, true, true, true, true, true, false] rfl rfl (any_of HT_.out (by kernel_rfl)) (fun _ _ _ h => h) (Or.inr ⟨by rfl, rfl⟩) ?_ ?_
                       rotate_left
                       ·
                        simp only [Act.put, List.setIfInBounds_toArray, List.set_cons_zero, List.set_cons_succ, i64_w, i32_w]
                        rfl
                       refine Hd.p_ HT_ 31 (some 155) #[true, true, true, true, true, true, true, true, true, true, true, true, true, true, true, true, true, true, true, true, true, true, true, true, true, true, true, true, true, true, true, true] ?_
                       refine done_ (done_of HT_.out (by kernel_rfl)) ?_
                       try go_wp2
                       go_roundg kj28
                       case measure => have := HK1.out; have := HJ19.out; have := HK3.out; have := HJ28.out; omega
                       case rel => exact ⟨(wrap64 (x9_3 + 1)), (by first | rfl | (simp; done) | (simp [*]; done)), H', ⟨by have := HK1.out; have := HJ19.out; have := HK3.out; have := HJ28.out; omega⟩, ⟨by (with_reducible repeat (first | apply Kd.R_alloc | apply Kd.R_drewN | apply Kd.R_drew)); exact HO_3.out⟩, ⟨by (with_reducible repeat (first | apply Kd.R_alloc | apply Kd.R_drewN | apply Kd.R_drew)); exact HO_5.out⟩, ⟨Hd.b_⟩⟩
                    ·
                     rw [if_neg c52] at H
                     exact absurd H (by simp)
                   ·
                    rw [if_neg c51] at H
                    exact absurd H (by simp)
                 ·
                  replace c48 := Bool.eq_false_iff.mpr c48
                  subst c48
                  have H1 : (laws_FnThinned.l1 kj28 l0 t438 t439 t442 x6_1 t450 false (wrap64 (x9_3 + 1))) = some r := by rw [if_neg (show ¬ (false = true) by decide)] at H; exact H
                  clear H
                  have H := H1
                  clear H1
                  as_aux_lemma =>
                   have H' := Aside0.mk H
                   clear H
                   try go_wp2
                   replace HO_3 := Aside0.mk (Kd.R_drew HO_3.out)
                   replace HO_5 := Aside0.mk (Kd.R_drew HO_5.out)
                   replace HB := Aside0.mk (below_drew1 HB.out)
                   refine Hd.HW.region (by kernel_rfl) (by kernel_rfl) ?_
                   try dsimp only [List.append]
                   repeat (go_big_quiet_step (fail))
                   refine wpQuiet_nil ?_
                   intro _ hq_
                   obtain ⟨q_, rfl⟩ := hq_
                   replace HO_3 := Aside0.mk (Kd.R_below HO_3.out q_.b)
                   replace HO_5 := Aside0.mk (Kd.R_below HO_5.out q_.b)
                   replace HB := Aside0.mk (below_step HB.out q_.b)
                   generalize q_.W = w64 at HO_3 HO_5 HB ⊢
                   try simp only [i64_w, i32_w]
                   try go_wp2
                   go_roundg kj28
                   case measure => have := HK1.out; have := HJ19.out; have := HK3.out; have := HJ28.out; omega
                   case rel => exact ⟨(wrap64 (x9_3 + 1)), (by first | rfl | (simp; done) | (simp [*]; done)), H', ⟨by have := HK1.out; have := HJ19.out; have := HK3.out; have := HJ28.out; omega⟩, ⟨by (with_reducible repeat (first | apply Kd.R_alloc | apply Kd.R_drewN | apply Kd.R_drew)); exact HO_3.out⟩, ⟨by (with_reducible repeat (first | apply Kd.R_alloc | apply Kd.R_drewN | apply Kd.R_drew)); exact HO_5.out⟩, ⟨Hd.b_⟩⟩
             ·
              rw [if_neg c28] at H
              have c28b0 : decide (x9_3 < (t438.length : Int)) = false := decide_eq_false c28
              clear c28
              as_aux_lemma =>
               have H' := Aside0.mk H
               clear H
               go_wp2
               go_roundg k3
               case measure => have := HK1.out; have := HJ19.out; have := HK3.out; omega
               case rel => exact ⟨(wrap64 (x6_1 + 1)), (by first | rfl | (simp; done) | (simp [*]; done)), H', ⟨by have := HK1.out; have := HJ19.out; have := HK3.out; omega⟩, ⟨by (with_reducible repeat (first | apply Kd.R_alloc | apply Kd.R_drewN | apply Kd.R_drew)); exact HO_3.out⟩, ⟨by (with_reducible repeat (first | apply Kd.R_alloc | apply Kd.R_drewN | apply Kd.R_drew)); exact HO_5.out⟩, ⟨Hd.b_⟩⟩
       ·
        rw [if_neg c17] at H
        exact absurd H (by simp)
      ·
       rw [if_neg c16] at H
       have c16b0 : decide (x6_1 < (t438.length : Int)) = false := decide_eq_false c16
       clear c16
       replace H := Option.bind_eq_some_iff.mp H
       obtain ⟨⟨t466, t467, t468, t469, t470, t471, t472, t473⟩, A650, H⟩ := H
       replace H : ((impl_IsAbove.f t466 t467 t468 t469 t470 t471 t472 t473).bind fun t476 => (if t476 = true then ((impl_IsAbove.f t470 t471 t472 t473 t466 t467 t468 t469).bind fun t477 => (if t477 = true then (some false) else (if (t438.length : Int) = 0 then (some true) else ((impl_ArePlaces.f k1 t438).bind fun t478 => (if t478 = true then (if t439 < 0 then (some true) else (if t439 > 200 then (some true) else (some (decide ((t442.length : Int) > 0))))) else (some true)))))) else (if (t438.length : Int) = 0 then (some true) else ((impl_ArePlaces.f k1 t438).bind fun t479 => (if t479 = true then (if t439 < 0 then (some true) else (if t439 > 200 then (some true) else (some (decide ((t442.length : Int) > 0))))) else (some true)))))) = some r := H
       have A65 := Aside0.mk A650
       clear A650
       replace H := Option.bind_eq_some_iff.mp H
       obtain ⟨t476, A660, H⟩ := H
       replace H : (if t476 = true then ((impl_IsAbove.f t470 t471 t472 t473 t466 t467 t468 t469).bind fun t477 => (if t477 = true then (some false) else (if (t438.length : Int) = 0 then (some true) else ((impl_ArePlaces.f k1 t438).bind fun t478 => (if t478 = true then (if t439 < 0 then (some true) else (if t439 > 200 then (some true) else (some (decide ((t442.length : Int) > 0))))) else (some true)))))) else (if (t438.length : Int) = 0 then (some true) else ((impl_ArePlaces.f k1 t438).bind fun t479 => (if t479 = true then (if t439 < 0 then (some true) else (if t439 > 200 then (some true) else (some (decide ((t442.length : Int) > 0))))) else (some true))))) = some r := H
       have A66 := Aside0.mk A660
       clear A660
       by_cases c67 : t476 = true
       ·
        subst c67
        have H1 : ((impl_IsAbove.f t470 t471 t472 t473 t466 t467 t468 t469).bind fun t477 => (if t477 = true then (some false) else (if (t438.length : Int) = 0 then (some true) else ((impl_ArePlaces.f k1 t438).bind fun t478 => (if t478 = true then (if t439 < 0 then (some true) else (if t439 > 200 then (some true) else (some (decide ((t442.length : Int) > 0))))) else (some true)))))) = some r := by rw [if_pos rfl] at H; exact H
        clear H
        have H := H1
        clear H1
        replace H := Option.bind_eq_some_iff.mp H
        obtain ⟨t477, A680, H⟩ := H
        replace H : (if t477 = true then (some false) else (if (t438.length : Int) = 0 then (some true) else ((impl_ArePlaces.f k1 t438).bind fun t478 => (if t478 = true then (if t439 < 0 then (some true) else (if t439 > 200 then (some true) else (some (decide ((t442.length : Int) > 0))))) else (some true))))) = some r := H
        have A68 := Aside0.mk A680
        clear A680
        by_cases c69 : t477 = true
        ·
         subst c69
         have H1 : (some false) = some r := by rw [if_pos rfl] at H; exact H
         clear H
         have H := H1
         clear H1
         obtain rfl := Option.some.inj H
         go_wp2_with (first | ((with_reducible refine gate_callee (f := 52) rfl ?_); refine goesL_ (some 158) rfl rfl Try.func52 (by kernel_rfl) rfl #[.slice A0 l0.length c0] rfl Hd.m_ ?_; (with_reducible refine (spec_DrawIsAbove.calls k1 _ _ l0 t466 t467 t468 t469 t470 t471 t472 t473 _ ?side1 ?side2 A65.out).mono ?_); (case side1 => repeat (first | exact (Kd.C_below HR0.out HB.out) | (with_reducible refine Kd.C_alloc ?_ _) | (with_reducible refine Kd.C_drewN ?_ _) | (with_reducible refine Kd.C_drew ?_))); (case side2 => exact HC0.out); rintro e w70 ⟨rfl, hb⟩; refine ⟨_, rfl, ?_⟩; replace HO_3 := Aside0.mk (Kd.R_below (Hd.r_ HO_3) hb); replace HO_5 := Aside0.mk (Kd.R_below (Hd.r_ HO_5) hb); replace HB := Aside0.mk (below_step Hd.b_ hb); (try clear hb); (try clear hb2); (try clear hk); (try clear hi)) | ((with_reducible refine gate_dst (N := 10) rfl ?_); (try (refine gate_guard (by rfl) ?_; dsimp only)); refine Hd.box_ 10 (#[.int .i64 0, .int .i64 0, .int .i64 0, .int .i64 0]) 77 ?_; intro gb474 hg w71 hbox hb; replace HO_3 := Aside0.mk (Kd.R_below (Kd.R_elderB (Hd.r_ HO_3) gb474 (Nat.le_of_eq hg.symm)) hb); replace HO_5 := Aside0.mk (Kd.R_below (Hd.r_ HO_5) hb); have BK474 := Aside0.mk (hbox); have GW474 := Aside0.mk ((Hd.g_ hg Hd.b_ : w.heap.size ≤ gb474)); have GE474 := Aside0.mk ((Hd.g_ hg Hd.b_ : w.heap.size ≤ gb474)); replace HB := Aside0.mk (below_step Hd.b_ hb); clear hb hbox hg) | ((with_reducible refine gate_dst (N := 11) rfl ?_); (try (refine gate_guard (by rfl) ?_; dsimp only)); refine Hd.box_ 11 (#[.int .i64 0, .int .i64 0, .int .i64 0, .int .i64 0]) 77 ?_; intro gb475 hg w72 hbox hb; replace HO_3 := Aside0.mk (Kd.R_below (Kd.R_elderB (Hd.r_ HO_3) gb475 (Nat.le_of_eq hg.symm)) hb); replace HO_5 := Aside0.mk (Kd.R_below (Hd.r_ HO_5) hb); have BK475 := Aside0.mk (hbox); have GW475 := Aside0.mk ((Hd.g_ hg Hd.b_ : w.heap.size ≤ gb475)); have GE475 := Aside0.mk ((Hd.g_ hg Hd.b_ : w.heap.size ≤ gb475)); replace HB := Aside0.mk (below_step Hd.b_ hb); have NB474_475 := Aside0.mk ((Hd.lt_ BK474 hg)); have NB475_474 := Aside0.mk ((Hd.gt_ BK474 hg)); replace BK474 := Aside0.mk (Hd.kb_ BK474 hb); clear hb hbox hg; have hnb73 := NB474_475.out; have hnc73 := NB475_474.out; obtain ⟨hcz74_0, hcz74_1, hcz74_2, hcz74_3⟩ := Hd.c4_ BK474.out; obtain ⟨hfz74_0, hfz74_1, hfz74_2, hfz74_3⟩ := Hd.f4_ BK474.out; obtain ⟨hcz75_0, hcz75_1, hcz75_2, hcz75_3⟩ := Hd.c4_ BK475.out; obtain ⟨hfz75_0, hfz75_1, hfz75_2, hfz75_3⟩ := Hd.f4_ BK475.out) | ((with_reducible refine gate_callee (f := 50) rfl ?_); refine goesL_ (some 163) rfl rfl Try.func50 (by kernel_rfl) rfl #[.agg #[.int .i64 t466, .int .i64 t467, .int .i64 t468, .int .i64 t469], .agg #[.int .i64 t470, .int .i64 t471, .int .i64 t472, .int .i64 t473]] rfl Hd.m_ ?_; (with_reducible refine (impl_IsAbove.calls t466 t467 t468 t469 t470 t471 t472 t473 true _ A66.out).mono ?_); rintro e w76 ⟨rfl, hb⟩; refine ⟨_, rfl, ?_⟩; replace HO_3 := Aside0.mk (Kd.R_below (by (with_reducible repeat (first | apply Kd.R_alloc | apply Kd.R_drewN | apply Kd.R_drew)); exact (Kd.R_mono (Kd.R_mono (Kd.R_far (p := ⟨gb475, 3, none⟩) (Kd.R_far (p := ⟨gb475, 2, none⟩) (Kd.R_far (p := ⟨gb475, 1, none⟩) (Kd.R_far (p := ⟨gb475, 0, none⟩) (Kd.R_far (p := ⟨gb474, 3, none⟩) (Kd.R_far (p := ⟨gb474, 2, none⟩) (Kd.R_far (p := ⟨gb474, 1, none⟩) (Kd.R_far (p := ⟨gb474, 0, none⟩) (Kd.R_mono (Kd.R_mono HO_3.out (fun k_ hk => (⟨hk, hk.1.2⟩ : _ ∧ k_ ≠ gb474))) (fun k_ hk => (⟨hk, hk.1.2⟩ : _ ∧ k_ ≠ gb475))) (fun _ hk => hk.1.2) (.int .i64 t466)) (fun _ hk => hk.1.2) (.int .i64 t467)) (fun _ hk => hk.1.2) (.int .i64 t468)) (fun _ hk => hk.1.2) (.int .i64 t469)) (fun _ hk => hk.2) (.int .i64 t470)) (fun _ hk => hk.2) (.int .i64 t471)) (fun _ hk => hk.2) (.int .i64 t472)) (fun _ hk => hk.2) (.int .i64 t473)) (fun _ h_ => h_.1)) (fun _ h_ => h_.1))) hb); replace HO_5 := Aside0.mk (Kd.R_below (by (with_reducible repeat (first | apply Kd.R_alloc | apply Kd.R_drewN | apply Kd.R_drew)); exact (Kd.R_mono (Kd.R_mono (Kd.R_far (p := ⟨gb475, 3, none⟩) (Kd.R_far (p := ⟨gb475, 2, none⟩) (Kd.R_far (p := ⟨gb475, 1, none⟩) (Kd.R_far (p := ⟨gb475, 0, none⟩) (Kd.R_far (p := ⟨gb474, 3, none⟩) (Kd.R_far (p := ⟨gb474, 2, none⟩) (Kd.R_far (p := ⟨gb474, 1, none⟩) (Kd.R_far (p := ⟨gb474, 0, none⟩) (Kd.R_types (Kd.R_types HO_5.out BK474.out (by decide)) BK475.out (by decide)) (fun _ hk => hk.1.2) (.int .i64 t466)) (fun _ hk => hk.1.2) (.int .i64 t467)) (fun _ hk => hk.1.2) (.int .i64 t468)) (fun _ hk => hk.1.2) (.int .i64 t469)) (fun _ hk => hk.2) (.int .i64 t470)) (fun _ hk => hk.2) (.int .i64 t471)) (fun _ hk => hk.2) (.int .i64 t472)) (fun _ hk => hk.2) (.int .i64 t473)) (fun _ h_ => h_.1)) (fun _ h_ => h_.1))) hb); replace BK474 := Aside0.mk (blk_below (g := gb474) (o := .cells #[.int .i64 t466, .int .i64 t467, .int .i64 t468, .int .i64 t469] 77 (0, 0)) (by (with_reducible repeat (first | refine blk_drewN ?_ _ | refine blk_drew ?_ | refine blk_alloc ?_ _)); refine blk_far ?_ NB474_475.out _; (with_reducible repeat (first | refine blk_drewN ?_ _ | refine blk_drew ?_ | refine blk_alloc ?_ _)); refine blk_far ?_ NB474_475.out _; (with_reducible repeat (first | refine blk_drewN ?_ _ | refine blk_drew ?_ | refine blk_alloc ?_ _)); refine blk_far ?_ NB474_475.out _; (with_reducible repeat (first | refine blk_drewN ?_ _ | refine blk_drew ?_ | refine blk_alloc ?_ _)); refine blk_far ?_ NB474_475.out _; (with_reducible repeat (first | refine blk_drewN ?_ _ | refine blk_drew ?_ | refine blk_alloc ?_ _)); refine blk_put (cs := #[.int .i64 t466, .int .i64 t467, .int .i64 t468, .int .i64 0]) ?_ 3 _ rfl; (with_reducible repeat (first | refine blk_drewN ?_ _ | refine blk_drew ?_ | refine blk_alloc ?_ _)); refine blk_put (cs := #[.int .i64 t466, .int .i64 t467, .int .i64 0, .int .i64 0]) ?_ 2 _ rfl; (with_reducible repeat (first | refine blk_drewN ?_ _ | refine blk_drew ?_ | refine blk_alloc ?_ _)); refine blk_put (cs := #[.int .i64 t466, .int .i64 0, .int .i64 0, .int .i64 0]) ?_ 1 _ rfl; (with_reducible repeat (first | refine blk_drewN ?_ _ | refine blk_drew ?_ | refine blk_alloc ?_ _)); refine blk_put (cs := #[.int .i64 0, .int .i64 0, .int .i64 0, .int .i64 0]) ?_ 0 _ rfl; (with_reducible repeat (first | refine blk_drewN ?_ _ | refine blk_drew ?_ | refine blk_alloc ?_ _)); exact BK474.out) hb); replace BK475 := Aside0.mk (blk_below (g := gb475) (o := .cells #[.int .i64 t470, .int .i64 t471, .int .i64 t472, .int .i64 t473] 77 (0, 0)) (by (with_reducible repeat (first | refine blk_drewN ?_ _ | refine blk_drew ?_ | refine blk_alloc ?_ _)); refine blk_put (cs := #[.int .i64 t470, .int .i64 t471, .int .i64 t472, .int .i64 0]) ?_ 3 _ rfl; (with_reducible repeat (first | refine blk_drewN ?_ _ | refine blk_drew ?_ | refine blk_alloc ?_ _)); refine blk_put (cs := #[.int .i64 t470, .int .i64 t471, .int .i64 0, .int .i64 0]) ?_ 2 _ rfl; (with_reducible repeat (first | refine blk_drewN ?_ _ | refine blk_drew ?_ | refine blk_alloc ?_ _)); refine blk_put (cs := #[.int .i64 t470, .int .i64 0, .int .i64 0, .int .i64 0]) ?_ 1 _ rfl; (with_reducible repeat (first | refine blk_drewN ?_ _ | refine blk_drew ?_ | refine blk_alloc ?_ _)); refine blk_put (cs := #[.int .i64 0, .int .i64 0, .int .i64 0, .int .i64 0]) ?_ 0 _ rfl; (with_reducible repeat (first | refine blk_drewN ?_ _ | refine blk_drew ?_ | refine blk_alloc ?_ _)); refine blk_far ?_ NB475_474.out _; (with_reducible repeat (first | refine blk_drewN ?_ _ | refine blk_drew ?_ | refine blk_alloc ?_ _)); refine blk_far ?_ NB475_474.out _; (with_reducible repeat (first | refine blk_drewN ?_ _ | refine blk_drew ?_ | refine blk_alloc ?_ _)); refine blk_far ?_ NB475_474.out _; (with_reducible repeat (first | refine blk_drewN ?_ _ | refine blk_drew ?_ | refine blk_alloc ?_ _)); refine blk_far ?_ NB475_474.out _; (with_reducible repeat (first | refine blk_drewN ?_ _ | refine blk_drew ?_ | refine blk_alloc ?_ _)); exact BK475.out) hb); replace HB := Aside0.mk (below_step Hd.b_ hb); (try clear hb); (try clear hb2); (try clear hk); (try clear hi); obtain ⟨hcz77_0, hcz77_1, hcz77_2, hcz77_3⟩ := Hd.c4_ BK475.out; obtain ⟨hfz77_0, hfz77_1, hfz77_2, hfz77_3⟩ := Hd.f4_ BK475.out; obtain ⟨hcz78_0, hcz78_1, hcz78_2, hcz78_3⟩ := Hd.c4_ BK474.out; obtain ⟨hfz78_0, hfz78_1, hfz78_2, hfz78_3⟩ := Hd.f4_ BK474.out) | (go_at_call 50; (with_reducible refine (impl_IsAbove.calls t470 t471 t472 t473 t466 t467 t468 t469 true _ A68.out).mono ?_); rintro e w79 ⟨rfl, hb⟩; replace HO_3 := Aside0.mk (Kd.R_below (Hd.r_ HO_3) hb); replace HO_5 := Aside0.mk (Kd.R_below (Hd.r_ HO_5) hb); replace BK474 := Aside0.mk (Hd.kb_ BK474 hb); replace BK475 := Aside0.mk (Hd.kb_ BK475 hb); replace HB := Aside0.mk (below_step Hd.b_ hb); (try clear hb); (try clear hb2); (try clear hk); (try clear hi)))
         go_ret
         exact ⟨Hd.e_, Hd.b_⟩
        ·
         replace c69 := Bool.eq_false_iff.mpr c69
         subst c69
         have H1 : (if (t438.length : Int) = 0 then (some true) else ((impl_ArePlaces.f k1 t438).bind fun t478 => (if t478 = true then (if t439 < 0 then (some true) else (if t439 > 200 then (some true) else (some (decide ((t442.length : Int) > 0))))) else (some true)))) = some r := by rw [if_neg (show ¬ (false = true) by decide)] at H; exact H
         clear H
         have H := H1
         clear H1
         by_cases c80 : (t438.length : Int) = 0
         ·
          rw [if_pos c80] at H
          have c80b0 : ((t438.length : Int) == 0) = true := beq_iff_eq.mpr c80
          have c80b1 : ((t438.length : Int) != 0) = false := bne_eq_false_iff_eq.mpr c80
          clear c80
          obtain rfl := Option.some.inj H
          go_wp2_with (first | ((with_reducible refine gate_callee (f := 52) rfl ?_); refine goesL_ (some 158) rfl rfl Try.func52 (by kernel_rfl) rfl #[.slice A0 l0.length c0] rfl Hd.m_ ?_; (with_reducible refine (spec_DrawIsAbove.calls k1 _ _ l0 t466 t467 t468 t469 t470 t471 t472 t473 _ ?side1 ?side2 A65.out).mono ?_); (case side1 => repeat (first | exact (Kd.C_below HR0.out HB.out) | (with_reducible refine Kd.C_alloc ?_ _) | (with_reducible refine Kd.C_drewN ?_ _) | (with_reducible refine Kd.C_drew ?_))); (case side2 => exact HC0.out); rintro e w81 ⟨rfl, hb⟩; refine ⟨_, rfl, ?_⟩; replace HO_3 := Aside0.mk (Kd.R_below (Hd.r_ HO_3) hb); replace HO_5 := Aside0.mk (Kd.R_below (Hd.r_ HO_5) hb); replace HB := Aside0.mk (below_step Hd.b_ hb); (try clear hb); (try clear hb2); (try clear hk); (try clear hi)) | ((with_reducible refine gate_dst (N := 10) rfl ?_); (try (refine gate_guard (by rfl) ?_; dsimp only)); refine Hd.box_ 10 (#[.int .i64 0, .int .i64 0, .int .i64 0, .int .i64 0]) 77 ?_; intro gb474 hg w82 hbox hb; replace HO_3 := Aside0.mk (Kd.R_below (Kd.R_elderB (Hd.r_ HO_3) gb474 (Nat.le_of_eq hg.symm)) hb); replace HO_5 := Aside0.mk (Kd.R_below (Hd.r_ HO_5) hb); have BK474 := Aside0.mk (hbox); have GW474 := Aside0.mk ((Hd.g_ hg Hd.b_ : w.heap.size ≤ gb474)); have GE474 := Aside0.mk ((Hd.g_ hg Hd.b_ : w.heap.size ≤ gb474)); replace HB := Aside0.mk (below_step Hd.b_ hb); clear hb hbox hg) | ((with_reducible refine gate_dst (N := 11) rfl ?_); (try (refine gate_guard (by rfl) ?_; dsimp only)); refine Hd.box_ 11 (#[.int .i64 0, .int .i64 0, .int .i64 0, .int .i64 0]) 77 ?_; intro gb475 hg w83 hbox hb; replace HO_3 := Aside0.mk (Kd.R_below (Kd.R_elderB (Hd.r_ HO_3) gb475 (Nat.le_of_eq hg.symm)) hb); replace HO_5 := Aside0.mk (Kd.R_below (Hd.r_ HO_5) hb); have BK475 := Aside0.mk (hbox); have GW475 := Aside0.mk ((Hd.g_ hg Hd.b_ : w.heap.size ≤ gb475)); have GE475 := Aside0.mk ((Hd.g_ hg Hd.b_ : w.heap.size ≤ gb475)); replace HB := Aside0.mk (below_step Hd.b_ hb); have NB474_475 := Aside0.mk ((Hd.lt_ BK474 hg)); have NB475_474 := Aside0.mk ((Hd.gt_ BK474 hg)); replace BK474 := Aside0.mk (Hd.kb_ BK474 hb); clear hb hbox hg; have hnb84 := NB474_475.out; have hnc84 := NB475_474.out; obtain ⟨hcz85_0, hcz85_1, hcz85_2, hcz85_3⟩ := Hd.c4_ BK474.out; obtain ⟨hfz85_0, hfz85_1, hfz85_2, hfz85_3⟩ := Hd.f4_ BK474.out; obtain ⟨hcz86_0, hcz86_1, hcz86_2, hcz86_3⟩ := Hd.c4_ BK475.out; obtain ⟨hfz86_0, hfz86_1, hfz86_2, hfz86_3⟩ := Hd.f4_ BK475.out) | ((with_reducible refine gate_callee (f := 50) rfl ?_); refine goesL_ (some 163) rfl rfl Try.func50 (by kernel_rfl) rfl #[.agg #[.int .i64 t466, .int .i64 t467, .int .i64 t468, .int .i64 t469], .agg #[.int .i64 t470, .int .i64 t471, .int .i64 t472, .int .i64 t473]] rfl Hd.m_ ?_; (with_reducible refine (impl_IsAbove.calls t466 t467 t468 t469 t470 t471 t472 t473 true _ A66.out).mono ?_); rintro e w87 ⟨rfl, hb⟩; refine ⟨_, rfl, ?_⟩; replace HO_3 := Aside0.mk (Kd.R_below (by (with_reducible repeat (first | apply Kd.R_alloc | apply Kd.R_drewN | apply Kd.R_drew)); exact (Kd.R_mono (Kd.R_mono (Kd.R_far (p := ⟨gb475, 3, none⟩) (Kd.R_far (p := ⟨gb475, 2, none⟩) (Kd.R_far (p := ⟨gb475, 1, none⟩) (Kd.R_far (p := ⟨gb475, 0, none⟩) (Kd.R_far (p := ⟨gb474, 3, none⟩) (Kd.R_far (p := ⟨gb474, 2, none⟩) (Kd.R_far (p := ⟨gb474, 1, none⟩) (Kd.R_far (p := ⟨gb474, 0, none⟩) (Kd.R_mono (Kd.R_mono HO_3.out (fun k_ hk => (⟨hk, hk.1.2⟩ : _ ∧ k_ ≠ gb474))) (fun k_ hk => (⟨hk, hk.1.2⟩ : _ ∧ k_ ≠ gb475))) (fun _ hk => hk.1.2) (.int .i64 t466)) (fun _ hk => hk.1.2) (.int .i64 t467)) (fun _ hk => hk.1.2) (.int .i64 t468)) (fun _ hk => hk.1.2) (.int .i64 t469)) (fun _ hk => hk.2) (.int .i64 t470)) (fun _ hk => hk.2) (.int .i64 t471)) (fun _ hk => hk.2) (.int .i64 t472)) (fun _ hk => hk.2) (.int .i64 t473)) (fun _ h_ => h_.1)) (fun _ h_ => h_.1))) hb); replace HO_5 := Aside0.mk (Kd.R_below (by (with_reducible repeat (first | apply Kd.R_alloc | apply Kd.R_drewN | apply Kd.R_drew)); exact (Kd.R_mono (Kd.R_mono (Kd.R_far (p := ⟨gb475, 3, none⟩) (Kd.R_far (p := ⟨gb475, 2, none⟩) (Kd.R_far (p := ⟨gb475, 1, none⟩) (Kd.R_far (p := ⟨gb475, 0, none⟩) (Kd.R_far (p := ⟨gb474, 3, none⟩) (Kd.R_far (p := ⟨gb474, 2, none⟩) (Kd.R_far (p := ⟨gb474, 1, none⟩) (Kd.R_far (p := ⟨gb474, 0, none⟩) (Kd.R_types (Kd.R_types HO_5.out BK474.out (by decide)) BK475.out (by decide)) (fun _ hk => hk.1.2) (.int .i64 t466)) (fun _ hk => hk.1.2) (.int .i64 t467)) (fun _ hk => hk.1.2) (.int .i64 t468)) (fun _ hk => hk.1.2) (.int .i64 t469)) (fun _ hk => hk.2) (.int .i64 t470)) (fun _ hk => hk.2) (.int .i64 t471)) (fun _ hk => hk.2) (.int .i64 t472)) (fun _ hk => hk.2) (.int .i64 t473)) (fun _ h_ => h_.1)) (fun _ h_ => h_.1))) hb); replace BK474 := Aside0.mk (blk_below (g := gb474) (o := .cells #[.int .i64 t466, .int .i64 t467, .int .i64 t468, .int .i64 t469] 77 (0, 0)) (by (with_reducible repeat (first | refine blk_drewN ?_ _ | refine blk_drew ?_ | refine blk_alloc ?_ _)); refine blk_far ?_ NB474_475.out _; (with_reducible repeat (first | refine blk_drewN ?_ _ | refine blk_drew ?_ | refine blk_alloc ?_ _)); refine blk_far ?_ NB474_475.out _; (with_reducible repeat (first | refine blk_drewN ?_ _ | refine blk_drew ?_ | refine blk_alloc ?_ _)); refine blk_far ?_ NB474_475.out _; (with_reducible repeat (first | refine blk_drewN ?_ _ | refine blk_drew ?_ | refine blk_alloc ?_ _)); refine blk_far ?_ NB474_475.out _; (with_reducible repeat (first | refine blk_drewN ?_ _ | refine blk_drew ?_ | refine blk_alloc ?_ _)); refine blk_put (cs := #[.int .i64 t466, .int .i64 t467, .int .i64 t468, .int .i64 0]) ?_ 3 _ rfl; (with_reducible repeat (first | refine blk_drewN ?_ _ | refine blk_drew ?_ | refine blk_alloc ?_ _)); refine blk_put (cs := #[.int .i64 t466, .int .i64 t467, .int .i64 0, .int .i64 0]) ?_ 2 _ rfl; (with_reducible repeat (first | refine blk_drewN ?_ _ | refine blk_drew ?_ | refine blk_alloc ?_ _)); refine blk_put (cs := #[.int .i64 t466, .int .i64 0, .int .i64 0, .int .i64 0]) ?_ 1 _ rfl; (with_reducible repeat (first | refine blk_drewN ?_ _ | refine blk_drew ?_ | refine blk_alloc ?_ _)); refine blk_put (cs := #[.int .i64 0, .int .i64 0, .int .i64 0, .int .i64 0]) ?_ 0 _ rfl; (with_reducible repeat (first | refine blk_drewN ?_ _ | refine blk_drew ?_ | refine blk_alloc ?_ _)); exact BK474.out) hb); replace BK475 := Aside0.mk (blk_below (g := gb475) (o := .cells #[.int .i64 t470, .int .i64 t471, .int .i64 t472, .int .i64 t473] 77 (0, 0)) (by (with_reducible repeat (first | refine blk_drewN ?_ _ | refine blk_drew ?_ | refine blk_alloc ?_ _)); refine blk_put (cs := #[.int .i64 t470, .int .i64 t471, .int .i64 t472, .int .i64 0]) ?_ 3 _ rfl; (with_reducible repeat (first | refine blk_drewN ?_ _ | refine blk_drew ?_ | refine blk_alloc ?_ _)); refine blk_put (cs := #[.int .i64 t470, .int .i64 t471, .int .i64 0, .int .i64 0]) ?_ 2 _ rfl; (with_reducible repeat (first | refine blk_drewN ?_ _ | refine blk_drew ?_ | refine blk_alloc ?_ _)); refine blk_put (cs := #[.int .i64 t470, .int .i64 0, .int .i64 0, .int .i64 0]) ?_ 1 _ rfl; (with_reducible repeat (first | refine blk_drewN ?_ _ | refine blk_drew ?_ | refine blk_alloc ?_ _)); refine blk_put (cs := #[.int .i64 0, .int .i64 0, .int .i64 0, .int .i64 0]) ?_ 0 _ rfl; (with_reducible repeat (first | refine blk_drewN ?_ _ | refine blk_drew ?_ | refine blk_alloc ?_ _)); refine blk_far ?_ NB475_474.out _; (with_reducible repeat (first | refine blk_drewN ?_ _ | refine blk_drew ?_ | refine blk_alloc ?_ _)); refine blk_far ?_ NB475_474.out _; (with_reducible repeat (first | refine blk_drewN ?_ _ | refine blk_drew ?_ | refine blk_alloc ?_ _)); refine blk_far ?_ NB475_474.out _; (with_reducible repeat (first | refine blk_drewN ?_ _ | refine blk_drew ?_ | refine blk_alloc ?_ _)); refine blk_far ?_ NB475_474.out _; (with_reducible repeat (first | refine blk_drewN ?_ _ | refine blk_drew ?_ | refine blk_alloc ?_ _)); exact BK475.out) hb); replace HB := Aside0.mk (below_step Hd.b_ hb); (try clear hb); (try clear hb2); (try clear hk); (try clear hi); obtain ⟨hcz88_0, hcz88_1, hcz88_2, hcz88_3⟩ := Hd.c4_ BK475.out; obtain ⟨hfz88_0, hfz88_1, hfz88_2, hfz88_3⟩ := Hd.f4_ BK475.out; obtain ⟨hcz89_0, hcz89_1, hcz89_2, hcz89_3⟩ := Hd.c4_ BK474.out; obtain ⟨hfz89_0, hfz89_1, hfz89_2, hfz89_3⟩ := Hd.f4_ BK474.out) | (go_at_call 50; (with_reducible refine (impl_IsAbove.calls t470 t471 t472 t473 t466 t467 t468 t469 false _ A68.out).mono ?_); rintro e w90 ⟨rfl, hb⟩; replace HO_3 := Aside0.mk (Kd.R_below (Hd.r_ HO_3) hb); replace HO_5 := Aside0.mk (Kd.R_below (Hd.r_ HO_5) hb); replace BK474 := Aside0.mk (Hd.kb_ BK474 hb); replace BK475 := Aside0.mk (Hd.kb_ BK475 hb); replace HB := Aside0.mk (below_step Hd.b_ hb); (try clear hb); (try clear hb2); (try clear hk); (try clear hi)))
          go_ret
          exact ⟨Hd.e_, Hd.b_⟩
         ·
          rw [if_neg c80] at H
          have c80b0 : ((t438.length : Int) == 0) = false := beq_eq_false_iff_ne.mpr c80
          have c80b1 : ((t438.length : Int) != 0) = true := bne_iff_ne.mpr c80
          have c80b2 : ¬ (t438 = []) := fun h_ => c80 (by rw [h_]; rfl)
          replace H := Option.bind_eq_some_iff.mp H
          obtain ⟨t478, A910, H⟩ := H
          replace H : (if t478 = true then (if t439 < 0 then (some true) else (if t439 > 200 then (some true) else (some (decide ((t442.length : Int) > 0))))) else (some true)) = some r := H
          have A91 := Aside0.mk A910
          clear A910
          by_cases c92 : t478 = true
          ·
           subst c92
           have H1 : (if t439 < 0 then (some true) else (if t439 > 200 then (some true) else (some (decide ((t442.length : Int) > 0))))) = some r := by rw [if_pos rfl] at H; exact H
           clear H
           have H := H1
           clear H1
           by_cases c93 : t439 < 0
           ·
            rw [if_pos c93] at H
            have c93b0 : decide (t439 < 0) = true := decide_eq_true c93
            clear c93
            obtain rfl := Option.some.inj H
            go_wp2_with (first | ((with_reducible refine gate_callee (f := 52) rfl ?_); refine goesL_ (some 158) rfl rfl Try.func52 (by kernel_rfl) rfl #[.slice A0 l0.length c0] rfl Hd.m_ ?_; (with_reducible refine (spec_DrawIsAbove.calls k1 _ _ l0 t466 t467 t468 t469 t470 t471 t472 t473 _ ?side1 ?side2 A65.out).mono ?_); (case side1 => repeat (first | exact (Kd.C_below HR0.out HB.out) | (with_reducible refine Kd.C_alloc ?_ _) | (with_reducible refine Kd.C_drewN ?_ _) | (with_reducible refine Kd.C_drew ?_))); (case side2 => exact HC0.out); rintro e w94 ⟨rfl, hb⟩; refine ⟨_, rfl, ?_⟩; replace HO_3 := Aside0.mk (Kd.R_below (Hd.r_ HO_3) hb); replace HO_5 := Aside0.mk (Kd.R_below (Hd.r_ HO_5) hb); replace HB := Aside0.mk (below_step Hd.b_ hb); (try clear hb); (try clear hb2); (try clear hk); (try clear hi)) | ((with_reducible refine gate_dst (N := 10) rfl ?_); (try (refine gate_guard (by rfl) ?_; dsimp only)); refine Hd.box_ 10 (#[.int .i64 0, .int .i64 0, .int .i64 0, .int .i64 0]) 77 ?_; intro gb474 hg w95 hbox hb; replace HO_3 := Aside0.mk (Kd.R_below (Kd.R_elderB (Hd.r_ HO_3) gb474 (Nat.le_of_eq hg.symm)) hb); replace HO_5 := Aside0.mk (Kd.R_below (Hd.r_ HO_5) hb); have BK474 := Aside0.mk (hbox); have GW474 := Aside0.mk ((Hd.g_ hg Hd.b_ : w.heap.size ≤ gb474)); have GE474 := Aside0.mk ((Hd.g_ hg Hd.b_ : w.heap.size ≤ gb474)); replace HB := Aside0.mk (below_step Hd.b_ hb); clear hb hbox hg) | ((with_reducible refine gate_dst (N := 11) rfl ?_); (try (refine gate_guard (by rfl) ?_; dsimp only)); refine Hd.box_ 11 (#[.int .i64 0, .int .i64 0, .int .i64 0, .int .i64 0]) 77 ?_; intro gb475 hg w96 hbox hb; replace HO_3 := Aside0.mk (Kd.R_below (Kd.R_elderB (Hd.r_ HO_3) gb475 (Nat.le_of_eq hg.symm)) hb); replace HO_5 := Aside0.mk (Kd.R_below (Hd.r_ HO_5) hb); have BK475 := Aside0.mk (hbox); have GW475 := Aside0.mk ((Hd.g_ hg Hd.b_ : w.heap.size ≤ gb475)); have GE475 := Aside0.mk ((Hd.g_ hg Hd.b_ : w.heap.size ≤ gb475)); replace HB := Aside0.mk (below_step Hd.b_ hb); have NB474_475 := Aside0.mk ((Hd.lt_ BK474 hg)); have NB475_474 := Aside0.mk ((Hd.gt_ BK474 hg)); replace BK474 := Aside0.mk (Hd.kb_ BK474 hb); clear hb hbox hg; have hnb97 := NB474_475.out; have hnc97 := NB475_474.out; obtain ⟨hcz98_0, hcz98_1, hcz98_2, hcz98_3⟩ := Hd.c4_ BK474.out; obtain ⟨hfz98_0, hfz98_1, hfz98_2, hfz98_3⟩ := Hd.f4_ BK474.out; obtain ⟨hcz99_0, hcz99_1, hcz99_2, hcz99_3⟩ := Hd.c4_ BK475.out; obtain ⟨hfz99_0, hfz99_1, hfz99_2, hfz99_3⟩ := Hd.f4_ BK475.out) | ((with_reducible refine gate_callee (f := 50) rfl ?_); refine goesL_ (some 163) rfl rfl Try.func50 (by kernel_rfl) rfl #[.agg #[.int .i64 t466, .int .i64 t467, .int .i64 t468, .int .i64 t469], .agg #[.int .i64 t470, .int .i64 t471, .int .i64 t472, .int .i64 t473]] rfl Hd.m_ ?_; (with_reducible refine (impl_IsAbove.calls t466 t467 t468 t469 t470 t471 t472 t473 true _ A66.out).mono ?_); rintro e w100 ⟨rfl, hb⟩; refine ⟨_, rfl, ?_⟩; replace HO_3 := Aside0.mk (Kd.R_below (by (with_reducible repeat (first | apply Kd.R_alloc | apply Kd.R_drewN | apply Kd.R_drew)); exact (Kd.R_mono (Kd.R_mono (Kd.R_far (p := ⟨gb475, 3, none⟩) (Kd.R_far (p := ⟨gb475, 2, none⟩) (Kd.R_far (p := ⟨gb475, 1, none⟩) (Kd.R_far (p := ⟨gb475, 0, none⟩) (Kd.R_far (p := ⟨gb474, 3, none⟩) (Kd.R_far (p := ⟨gb474, 2, none⟩) (Kd.R_far (p := ⟨gb474, 1, none⟩) (Kd.R_far (p := ⟨gb474, 0, none⟩) (Kd.R_mono (Kd.R_mono HO_3.out (fun k_ hk => (⟨hk, hk.1.2⟩ : _ ∧ k_ ≠ gb474))) (fun k_ hk => (⟨hk, hk.1.2⟩ : _ ∧ k_ ≠ gb475))) (fun _ hk => hk.1.2) (.int .i64 t466)) (fun _ hk => hk.1.2) (.int .i64 t467)) (fun _ hk => hk.1.2) (.int .i64 t468)) (fun _ hk => hk.1.2) (.int .i64 t469)) (fun _ hk => hk.2) (.int .i64 t470)) (fun _ hk => hk.2) (.int .i64 t471)) (fun _ hk => hk.2) (.int .i64 t472)) (fun _ hk => hk.2) (.int .i64 t473)) (fun _ h_ => h_.1)) (fun _ h_ => h_.1))) hb); replace HO_5 := Aside0.mk (Kd.R_below (by (with_reducible repeat (first | apply Kd.R_alloc | apply Kd.R_drewN | apply Kd.R_drew)); exact (Kd.R_mono (Kd.R_mono (Kd.R_far (p := ⟨gb475, 3, none⟩) (Kd.R_far (p := ⟨gb475, 2, none⟩) (Kd.R_far (p := ⟨gb475, 1, none⟩) (Kd.R_far (p := ⟨gb475, 0, none⟩) (Kd.R_far (p := ⟨gb474, 3, none⟩) (Kd.R_far (p := ⟨gb474, 2, none⟩) (Kd.R_far (p := ⟨gb474, 1, none⟩) (Kd.R_far (p := ⟨gb474, 0, none⟩) (Kd.R_types (Kd.R_types HO_5.out BK474.out (by decide)) BK475.out (by decide)) (fun _ hk => hk.1.2) (.int .i64 t466)) (fun _ hk => hk.1.2) (.int .i64 t467)) (fun _ hk => hk.1.2) (.int .i64 t468)) (fun _ hk => hk.1.2) (.int .i64 t469)) (fun _ hk => hk.2) (.int .i64 t470)) (fun _ hk => hk.2) (.int .i64 t471)) (fun _ hk => hk.2) (.int .i64 t472)) (fun _ hk => hk.2) (.int .i64 t473)) (fun _ h_ => h_.1)) (fun _ h_ => h_.1))) hb); replace BK474 := Aside0.mk (blk_below (g := gb474) (o := .cells #[.int .i64 t466, .int .i64 t467, .int .i64 t468, .int .i64 t469] 77 (0, 0)) (by (with_reducible repeat (first | refine blk_drewN ?_ _ | refine blk_drew ?_ | refine blk_alloc ?_ _)); refine blk_far ?_ NB474_475.out _; (with_reducible repeat (first | refine blk_drewN ?_ _ | refine blk_drew ?_ | refine blk_alloc ?_ _)); refine blk_far ?_ NB474_475.out _; (with_reducible repeat (first | refine blk_drewN ?_ _ | refine blk_drew ?_ | refine blk_alloc ?_ _)); refine blk_far ?_ NB474_475.out _; (with_reducible repeat (first | refine blk_drewN ?_ _ | refine blk_drew ?_ | refine blk_alloc ?_ _)); refine blk_far ?_ NB474_475.out _; (with_reducible repeat (first | refine blk_drewN ?_ _ | refine blk_drew ?_ | refine blk_alloc ?_ _)); refine blk_put (cs := #[.int .i64 t466, .int .i64 t467, .int .i64 t468, .int .i64 0]) ?_ 3 _ rfl; (with_reducible repeat (first | refine blk_drewN ?_ _ | refine blk_drew ?_ | refine blk_alloc ?_ _)); refine blk_put (cs := #[.int .i64 t466, .int .i64 t467, .int .i64 0, .int .i64 0]) ?_ 2 _ rfl; (with_reducible repeat (first | refine blk_drewN ?_ _ | refine blk_drew ?_ | refine blk_alloc ?_ _)); refine blk_put (cs := #[.int .i64 t466, .int .i64 0, .int .i64 0, .int .i64 0]) ?_ 1 _ rfl; (with_reducible repeat (first | refine blk_drewN ?_ _ | refine blk_drew ?_ | refine blk_alloc ?_ _)); refine blk_put (cs := #[.int .i64 0, .int .i64 0, .int .i64 0, .int .i64 0]) ?_ 0 _ rfl; (with_reducible repeat (first | refine blk_drewN ?_ _ | refine blk_drew ?_ | refine blk_alloc ?_ _)); exact BK474.out) hb); replace BK475 := Aside0.mk (blk_below (g := gb475) (o := .cells #[.int .i64 t470, .int .i64 t471, .int .i64 t472, .int .i64 t473] 77 (0, 0)) (by (with_reducible repeat (first | refine blk_drewN ?_ _ | refine blk_drew ?_ | refine blk_alloc ?_ _)); refine blk_put (cs := #[.int .i64 t470, .int .i64 t471, .int .i64 t472, .int .i64 0]) ?_ 3 _ rfl; (with_reducible repeat (first | refine blk_drewN ?_ _ | refine blk_drew ?_ | refine blk_alloc ?_ _)); refine blk_put (cs := #[.int .i64 t470, .int .i64 t471, .int .i64 0, .int .i64 0]) ?_ 2 _ rfl; (with_reducible repeat (first | refine blk_drewN ?_ _ | refine blk_drew ?_ | refine blk_alloc ?_ _)); refine blk_put (cs := #[.int .i64 t470, .int .i64 0, .int .i64 0, .int .i64 0]) ?_ 1 _ rfl; (with_reducible repeat (first | refine blk_drewN ?_ _ | refine blk_drew ?_ | refine blk_alloc ?_ _)); refine blk_put (cs := #[.int .i64 0, .int .i64 0, .int .i64 0, .int .i64 0]) ?_ 0 _ rfl; (with_reducible repeat (first | refine blk_drewN ?_ _ | refine blk_drew ?_ | refine blk_alloc ?_ _)); refine blk_far ?_ NB475_474.out _; (with_reducible repeat (first | refine blk_drewN ?_ _ | refine blk_drew ?_ | refine blk_alloc ?_ _)); refine blk_far ?_ NB475_474.out _; (with_reducible repeat (first | refine blk_drewN ?_ _ | refine blk_drew ?_ | refine blk_alloc ?_ _)); refine blk_far ?_ NB475_474.out _; (with_reducible repeat (first | refine blk_drewN ?_ _ | refine blk_drew ?_ | refine blk_alloc ?_ _)); refine blk_far ?_ NB475_474.out _; (with_reducible repeat (first | refine blk_drewN ?_ _ | refine blk_drew ?_ | refine blk_alloc ?_ _)); exact BK475.out) hb); replace HB := Aside0.mk (below_step Hd.b_ hb); (try clear hb); (try clear hb2); (try clear hk); (try clear hi); obtain ⟨hcz101_0, hcz101_1, hcz101_2, hcz101_3⟩ := Hd.c4_ BK475.out; obtain ⟨hfz101_0, hfz101_1, hfz101_2, hfz101_3⟩ := Hd.f4_ BK475.out; obtain ⟨hcz102_0, hcz102_1, hcz102_2, hcz102_3⟩ := Hd.c4_ BK474.out; obtain ⟨hfz102_0, hfz102_1, hfz102_2, hfz102_3⟩ := Hd.f4_ BK474.out) | (go_at_call 50; (with_reducible refine (impl_IsAbove.calls t470 t471 t472 t473 t466 t467 t468 t469 false _ A68.out).mono ?_); rintro e w103 ⟨rfl, hb⟩; replace HO_3 := Aside0.mk (Kd.R_below (Hd.r_ HO_3) hb); replace HO_5 := Aside0.mk (Kd.R_below (Hd.r_ HO_5) hb); replace BK474 := Aside0.mk (Hd.kb_ BK474 hb); replace BK475 := Aside0.mk (Hd.kb_ BK475 hb); replace HB := Aside0.mk (below_step Hd.b_ hb); (try clear hb); (try clear hb2); (try clear hk); (try clear hi)) | (go_at_call 53; (with_reducible refine (impl_ArePlaces.calls k1 _ _ t438 true _ ?side1 ?side2 A91.out).mono ?_); (case side1 => repeat (first | exact (Kd.R_reads' HO_3.out).2.2 | (with_reducible refine Kd.C_alloc ?_ _) | (with_reducible refine Kd.C_drewN ?_ _) | (with_reducible refine Kd.C_drew ?_))); (case side2 => exact (Kd.R_reads' HO_3.out).2.1); rintro e w104 ⟨rfl, hb⟩; replace HO_3 := Aside0.mk (Kd.R_below (Hd.r_ HO_3) hb); replace HO_5 := Aside0.mk (Kd.R_below (Hd.r_ HO_5) hb); replace BK474 := Aside0.mk (Hd.kb_ BK474 hb); replace BK475 := Aside0.mk (Hd.kb_ BK475 hb); replace HB := Aside0.mk (below_step Hd.b_ hb); (try clear hb); (try clear hb2); (try clear hk); (try clear hi)))
            go_ret
            exact ⟨Hd.e_, Hd.b_⟩
           ·
            rw [if_neg c93] at H
            have c93b0 : decide (t439 < 0) = false := decide_eq_false c93
            clear c93
            by_cases c105 : t439 > 200
            ·
             rw [if_pos c105] at H
             have c105b0 : decide (200 < t439) = true := decide_eq_true c105
             clear c105
             obtain rfl := Option.some.inj H
             go_wp2_with (first | ((with_reducible refine gate_callee (f := 52) rfl ?_); refine goesL_ (some 158) rfl rfl Try.func52 (by kernel_rfl) rfl #[.slice A0 l0.length c0] rfl Hd.m_ ?_; (with_reducible refine (spec_DrawIsAbove.calls k1 _ _ l0 t466 t467 t468 t469 t470 t471 t472 t473 _ ?side1 ?side2 A65.out).mono ?_); (case side1 => repeat (first | exact (Kd.C_below HR0.out HB.out) | (with_reducible refine Kd.C_alloc ?_ _) | (with_reducible refine Kd.C_drewN ?_ _) | (with_reducible refine Kd.C_drew ?_))); (case side2 => exact HC0.out); rintro e w106 ⟨rfl, hb⟩; refine ⟨_, rfl, ?_⟩; replace HO_3 := Aside0.mk (Kd.R_below (Hd.r_ HO_3) hb); replace HO_5 := Aside0.mk (Kd.R_below (Hd.r_ HO_5) hb); replace HB := Aside0.mk (below_step Hd.b_ hb); (try clear hb); (try clear hb2); (try clear hk); (try clear hi)) | ((with_reducible refine gate_dst (N := 10) rfl ?_); (try (refine gate_guard (by rfl) ?_; dsimp only)); refine Hd.box_ 10 (#[.int .i64 0, .int .i64 0, .int .i64 0, .int .i64 0]) 77 ?_; intro gb474 hg w107 hbox hb; replace HO_3 := Aside0.mk (Kd.R_below (Kd.R_elderB (Hd.r_ HO_3) gb474 (Nat.le_of_eq hg.symm)) hb); replace HO_5 := Aside0.mk (Kd.R_below (Hd.r_ HO_5) hb); have BK474 := Aside0.mk (hbox); have GW474 := Aside0.mk ((Hd.g_ hg Hd.b_ : w.heap.size ≤ gb474)); have GE474 := Aside0.mk ((Hd.g_ hg Hd.b_ : w.heap.size ≤ gb474)); replace HB := Aside0.mk (below_step Hd.b_ hb); clear hb hbox hg) | ((with_reducible refine gate_dst (N := 11) rfl ?_); (try (refine gate_guard (by rfl) ?_; dsimp only)); refine Hd.box_ 11 (#[.int .i64 0, .int .i64 0, .int .i64 0, .int .i64 0]) 77 ?_; intro gb475 hg w108 hbox hb; replace HO_3 := Aside0.mk (Kd.R_below (Kd.R_elderB (Hd.r_ HO_3) gb475 (Nat.le_of_eq hg.symm)) hb); replace HO_5 := Aside0.mk (Kd.R_below (Hd.r_ HO_5) hb); have BK475 := Aside0.mk (hbox); have GW475 := Aside0.mk ((Hd.g_ hg Hd.b_ : w.heap.size ≤ gb475)); have GE475 := Aside0.mk ((Hd.g_ hg Hd.b_ : w.heap.size ≤ gb475)); replace HB := Aside0.mk (below_step Hd.b_ hb); have NB474_475 := Aside0.mk ((Hd.lt_ BK474 hg)); have NB475_474 := Aside0.mk ((Hd.gt_ BK474 hg)); replace BK474 := Aside0.mk (Hd.kb_ BK474 hb); clear hb hbox hg; have hnb109 := NB474_475.out; have hnc109 := NB475_474.out; obtain ⟨hcz110_0, hcz110_1, hcz110_2, hcz110_3⟩ := Hd.c4_ BK474.out; obtain ⟨hfz110_0, hfz110_1, hfz110_2, hfz110_3⟩ := Hd.f4_ BK474.out; obtain ⟨hcz111_0, hcz111_1, hcz111_2, hcz111_3⟩ := Hd.c4_ BK475.out; obtain ⟨hfz111_0, hfz111_1, hfz111_2, hfz111_3⟩ := Hd.f4_ BK475.out) | ((with_reducible refine gate_callee (f := 50) rfl ?_); refine goesL_ (some 163) rfl rfl Try.func50 (by kernel_rfl) rfl #[.agg #[.int .i64 t466, .int .i64 t467, .int .i64 t468, .int .i64 t469], .agg #[.int .i64 t470, .int .i64 t471, .int .i64 t472, .int .i64 t473]] rfl Hd.m_ ?_; (with_reducible refine (impl_IsAbove.calls t466 t467 t468 t469 t470 t471 t472 t473 true _ A66.out).mono ?_); rintro e w112 ⟨rfl, hb⟩; refine ⟨_, rfl, ?_⟩; replace HO_3 := Aside0.mk (Kd.R_below (by (with_reducible repeat (first | apply Kd.R_alloc | apply Kd.R_drewN | apply Kd.R_drew)); exact (Kd.R_mono (Kd.R_mono (Kd.R_far (p := ⟨gb475, 3, none⟩) (Kd.R_far (p := ⟨gb475, 2, none⟩) (Kd.R_far (p := ⟨gb475, 1, none⟩) (Kd.R_far (p := ⟨gb475, 0, none⟩) (Kd.R_far (p := ⟨gb474, 3, none⟩) (Kd.R_far (p := ⟨gb474, 2, none⟩) (Kd.R_far (p := ⟨gb474, 1, none⟩) (Kd.R_far (p := ⟨gb474, 0, none⟩) (Kd.R_mono (Kd.R_mono HO_3.out (fun k_ hk => (⟨hk, hk.1.2⟩ : _ ∧ k_ ≠ gb474))) (fun k_ hk => (⟨hk, hk.1.2⟩ : _ ∧ k_ ≠ gb475))) (fun _ hk => hk.1.2) (.int .i64 t466)) (fun _ hk => hk.1.2) (.int .i64 t467)) (fun _ hk => hk.1.2) (.int .i64 t468)) (fun _ hk => hk.1.2) (.int .i64 t469)) (fun _ hk => hk.2) (.int .i64 t470)) (fun _ hk => hk.2) (.int .i64 t471)) (fun _ hk => hk.2) (.int .i64 t472)) (fun _ hk => hk.2) (.int .i64 t473)) (fun _ h_ => h_.1)) (fun _ h_ => h_.1))) hb); replace HO_5 := Aside0.mk (Kd.R_below (by (with_reducible repeat (first | apply Kd.R_alloc | apply Kd.R_drewN | apply Kd.R_drew)); exact (Kd.R_mono (Kd.R_mono (Kd.R_far (p := ⟨gb475, 3, none⟩) (Kd.R_far (p := ⟨gb475, 2, none⟩) (Kd.R_far (p := ⟨gb475, 1, none⟩) (Kd.R_far (p := ⟨gb475, 0, none⟩) (Kd.R_far (p := ⟨gb474, 3, none⟩) (Kd.R_far (p := ⟨gb474, 2, none⟩) (Kd.R_far (p := ⟨gb474, 1, none⟩) (Kd.R_far (p := ⟨gb474, 0, none⟩) (Kd.R_types (Kd.R_types HO_5.out BK474.out (by decide)) BK475.out (by decide)) (fun _ hk => hk.1.2) (.int .i64 t466)) (fun _ hk => hk.1.2) (.int .i64 t467)) (fun _ hk => hk.1.2) (.int .i64 t468)) (fun _ hk => hk.1.2) (.int .i64 t469)) (fun _ hk => hk.2) (.int .i64 t470)) (fun _ hk => hk.2) (.int .i64 t471)) (fun _ hk => hk.2) (.int .i64 t472)) (fun _ hk => hk.2) (.int .i64 t473)) (fun _ h_ => h_.1)) (fun _ h_ => h_.1))) hb); replace BK474 := Aside0.mk (blk_below (g := gb474) (o := .cells #[.int .i64 t466, .int .i64 t467, .int .i64 t468, .int .i64 t469] 77 (0, 0)) (by (with_reducible repeat (first | refine blk_drewN ?_ _ | refine blk_drew ?_ | refine blk_alloc ?_ _)); refine blk_far ?_ NB474_475.out _; (with_reducible repeat (first | refine blk_drewN ?_ _ | refine blk_drew ?_ | refine blk_alloc ?_ _)); refine blk_far ?_ NB474_475.out _; (with_reducible repeat (first | refine blk_drewN ?_ _ | refine blk_drew ?_ | refine blk_alloc ?_ _)); refine blk_far ?_ NB474_475.out _; (with_reducible repeat (first | refine blk_drewN ?_ _ | refine blk_drew ?_ | refine blk_alloc ?_ _)); refine blk_far ?_ NB474_475.out _; (with_reducible repeat (first | refine blk_drewN ?_ _ | refine blk_drew ?_ | refine blk_alloc ?_ _)); refine blk_put (cs := #[.int .i64 t466, .int .i64 t467, .int .i64 t468, .int .i64 0]) ?_ 3 _ rfl; (with_reducible repeat (first | refine blk_drewN ?_ _ | refine blk_drew ?_ | refine blk_alloc ?_ _)); refine blk_put (cs := #[.int .i64 t466, .int .i64 t467, .int .i64 0, .int .i64 0]) ?_ 2 _ rfl; (with_reducible repeat (first | refine blk_drewN ?_ _ | refine blk_drew ?_ | refine blk_alloc ?_ _)); refine blk_put (cs := #[.int .i64 t466, .int .i64 0, .int .i64 0, .int .i64 0]) ?_ 1 _ rfl; (with_reducible repeat (first | refine blk_drewN ?_ _ | refine blk_drew ?_ | refine blk_alloc ?_ _)); refine blk_put (cs := #[.int .i64 0, .int .i64 0, .int .i64 0, .int .i64 0]) ?_ 0 _ rfl; (with_reducible repeat (first | refine blk_drewN ?_ _ | refine blk_drew ?_ | refine blk_alloc ?_ _)); exact BK474.out) hb); replace BK475 := Aside0.mk (blk_below (g := gb475) (o := .cells #[.int .i64 t470, .int .i64 t471, .int .i64 t472, .int .i64 t473] 77 (0, 0)) (by (with_reducible repeat (first | refine blk_drewN ?_ _ | refine blk_drew ?_ | refine blk_alloc ?_ _)); refine blk_put (cs := #[.int .i64 t470, .int .i64 t471, .int .i64 t472, .int .i64 0]) ?_ 3 _ rfl; (with_reducible repeat (first | refine blk_drewN ?_ _ | refine blk_drew ?_ | refine blk_alloc ?_ _)); refine blk_put (cs := #[.int .i64 t470, .int .i64 t471, .int .i64 0, .int .i64 0]) ?_ 2 _ rfl; (with_reducible repeat (first | refine blk_drewN ?_ _ | refine blk_drew ?_ | refine blk_alloc ?_ _)); refine blk_put (cs := #[.int .i64 t470, .int .i64 0, .int .i64 0, .int .i64 0]) ?_ 1 _ rfl; (with_reducible repeat (first | refine blk_drewN ?_ _ | refine blk_drew ?_ | refine blk_alloc ?_ _)); refine blk_put (cs := #[.int .i64 0, .int .i64 0, .int .i64 0, .int .i64 0]) ?_ 0 _ rfl; (with_reducible repeat (first | refine blk_drewN ?_ _ | refine blk_drew ?_ | refine blk_alloc ?_ _)); refine blk_far ?_ NB475_474.out _; (with_reducible repeat (first | refine blk_drewN ?_ _ | refine blk_drew ?_ | refine blk_alloc ?_ _)); refine blk_far ?_ NB475_474.out _; (with_reducible repeat (first | refine blk_drewN ?_ _ | refine blk_drew ?_ | refine blk_alloc ?_ _)); refine blk_far ?_ NB475_474.out _; (with_reducible repeat (first | refine blk_drewN ?_ _ | refine blk_drew ?_ | refine blk_alloc ?_ _)); refine blk_far ?_ NB475_474.out _; (with_reducible repeat (first | refine blk_drewN ?_ _ | refine blk_drew ?_ | refine blk_alloc ?_ _)); exact BK475.out) hb); replace HB := Aside0.mk (below_step Hd.b_ hb); (try clear hb); (try clear hb2); (try clear hk); (try clear hi); obtain ⟨hcz113_0, hcz113_1, hcz113_2, hcz113_3⟩ := Hd.c4_ BK475.out; obtain ⟨hfz113_0, hfz113_1, hfz113_2, hfz113_3⟩ := Hd.f4_ BK475.out; obtain ⟨hcz114_0, hcz114_1, hcz114_2, hcz114_3⟩ := Hd.c4_ BK474.out; obtain ⟨hfz114_0, hfz114_1, hfz114_2, hfz114_3⟩ := Hd.f4_ BK474.out) | (go_at_call 50; (with_reducible refine (impl_IsAbove.calls t470 t471 t472 t473 t466 t467 t468 t469 false _ A68.out).mono ?_); rintro e w115 ⟨rfl, hb⟩; replace HO_3 := Aside0.mk (Kd.R_below (Hd.r_ HO_3) hb); replace HO_5 := Aside0.mk (Kd.R_below (Hd.r_ HO_5) hb); replace BK474 := Aside0.mk (Hd.kb_ BK474 hb); replace BK475 := Aside0.mk (Hd.kb_ BK475 hb); replace HB := Aside0.mk (below_step Hd.b_ hb); (try clear hb); (try clear hb2); (try clear hk); (try clear hi)) | (go_at_call 53; (with_reducible refine (impl_ArePlaces.calls k1 _ _ t438 true _ ?side1 ?side2 A91.out).mono ?_); (case side1 => repeat (first | exact (Kd.R_reads' HO_3.out).2.2 | (with_reducible refine Kd.C_alloc ?_ _) | (with_reducible refine Kd.C_drewN ?_ _) | (with_reducible refine Kd.C_drew ?_))); (case side2 => exact (Kd.R_reads' HO_3.out).2.1); rintro e w116 ⟨rfl, hb⟩; replace HO_3 := Aside0.mk (Kd.R_below (Hd.r_ HO_3) hb); replace HO_5 := Aside0.mk (Kd.R_below (Hd.r_ HO_5) hb); replace BK474 := Aside0.mk (Hd.kb_ BK474 hb); replace BK475 := Aside0.mk (Hd.kb_ BK475 hb); replace HB := Aside0.mk (below_step Hd.b_ hb); (try clear hb); (try clear hb2); (try clear hk); (try clear hi)))
             go_ret
             exact ⟨Hd.e_, Hd.b_⟩
            ·
             rw [if_neg c105] at H
             have c105b0 : decide (200 < t439) = false := decide_eq_false c105
             clear c105
             obtain rfl := Option.some.inj H
             go_wp2_with (first | ((with_reducible refine gate_callee (f := 52) rfl ?_); refine goesL_ (some 158) rfl rfl Try.func52 (by kernel_rfl) rfl #[.slice A0 l0.length c0] rfl Hd.m_ ?_; (with_reducible refine (spec_DrawIsAbove.calls k1 _ _ l0 t466 t467 t468 t469 t470 t471 t472 t473 _ ?side1 ?side2 A65.out).mono ?_); (case side1 => repeat (first | exact (Kd.C_below HR0.out HB.out) | (with_reducible refine Kd.C_alloc ?_ _) | (with_reducible refine Kd.C_drewN ?_ _) | (with_reducible refine Kd.C_drew ?_))); (case side2 => exact HC0.out); rintro e w117 ⟨rfl, hb⟩; refine ⟨_, rfl, ?_⟩; replace HO_3 := Aside0.mk (Kd.R_below (Hd.r_ HO_3) hb); replace HO_5 := Aside0.mk (Kd.R_below (Hd.r_ HO_5) hb); replace HB := Aside0.mk (below_step Hd.b_ hb); (try clear hb); (try clear hb2); (try clear hk); (try clear hi)) | ((with_reducible refine gate_dst (N := 10) rfl ?_); (try (refine gate_guard (by rfl) ?_; dsimp only)); refine Hd.box_ 10 (#[.int .i64 0, .int .i64 0, .int .i64 0, .int .i64 0]) 77 ?_; intro gb474 hg w118 hbox hb; replace HO_3 := Aside0.mk (Kd.R_below (Kd.R_elderB (Hd.r_ HO_3) gb474 (Nat.le_of_eq hg.symm)) hb); replace HO_5 := Aside0.mk (Kd.R_below (Hd.r_ HO_5) hb); have BK474 := Aside0.mk (hbox); have GW474 := Aside0.mk ((Hd.g_ hg Hd.b_ : w.heap.size ≤ gb474)); have GE474 := Aside0.mk ((Hd.g_ hg Hd.b_ : w.heap.size ≤ gb474)); replace HB := Aside0.mk (below_step Hd.b_ hb); clear hb hbox hg) | ((with_reducible refine gate_dst (N := 11) rfl ?_); (try (refine gate_guard (by rfl) ?_; dsimp only)); refine Hd.box_ 11 (#[.int .i64 0, .int .i64 0, .int .i64 0, .int .i64 0]) 77 ?_; intro gb475 hg w119 hbox hb; replace HO_3 := Aside0.mk (Kd.R_below (Kd.R_elderB (Hd.r_ HO_3) gb475 (Nat.le_of_eq hg.symm)) hb); replace HO_5 := Aside0.mk (Kd.R_below (Hd.r_ HO_5) hb); have BK475 := Aside0.mk (hbox); have GW475 := Aside0.mk ((Hd.g_ hg Hd.b_ : w.heap.size ≤ gb475)); have GE475 := Aside0.mk ((Hd.g_ hg Hd.b_ : w.heap.size ≤ gb475)); replace HB := Aside0.mk (below_step Hd.b_ hb); have NB474_475 := Aside0.mk ((Hd.lt_ BK474 hg)); have NB475_474 := Aside0.mk ((Hd.gt_ BK474 hg)); replace BK474 := Aside0.mk (Hd.kb_ BK474 hb); clear hb hbox hg; have hnb120 := NB474_475.out; have hnc120 := NB475_474.out; obtain ⟨hcz121_0, hcz121_1, hcz121_2, hcz121_3⟩ := Hd.c4_ BK474.out; obtain ⟨hfz121_0, hfz121_1, hfz121_2, hfz121_3⟩ := Hd.f4_ BK474.out; obtain ⟨hcz122_0, hcz122_1, hcz122_2, hcz122_3⟩ := Hd.c4_ BK475.out; obtain ⟨hfz122_0, hfz122_1, hfz122_2, hfz122_3⟩ := Hd.f4_ BK475.out) | ((with_reducible refine gate_callee (f := 50) rfl ?_); refine goesL_ (some 163) rfl rfl Try.func50 (by kernel_rfl) rfl #[.agg #[.int .i64 t466, .int .i64 t467, .int .i64 t468, .int .i64 t469], .agg #[.int .i64 t470, .int .i64 t471, .int .i64 t472, .int .i64 t473]] rfl Hd.m_ ?_; (with_reducible refine (impl_IsAbove.calls t466 t467 t468 t469 t470 t471 t472 t473 true _ A66.out).mono ?_); rintro e w123 ⟨rfl, hb⟩; refine ⟨_, rfl, ?_⟩; replace HO_3 := Aside0.mk (Kd.R_below (by (with_reducible repeat (first | apply Kd.R_alloc | apply Kd.R_drewN | apply Kd.R_drew)); exact (Kd.R_mono (Kd.R_mono (Kd.R_far (p := ⟨gb475, 3, none⟩) (Kd.R_far (p := ⟨gb475, 2, none⟩) (Kd.R_far (p := ⟨gb475, 1, none⟩) (Kd.R_far (p := ⟨gb475, 0, none⟩) (Kd.R_far (p := ⟨gb474, 3, none⟩) (Kd.R_far (p := ⟨gb474, 2, none⟩) (Kd.R_far (p := ⟨gb474, 1, none⟩) (Kd.R_far (p := ⟨gb474, 0, none⟩) (Kd.R_mono (Kd.R_mono HO_3.out (fun k_ hk => (⟨hk, hk.1.2⟩ : _ ∧ k_ ≠ gb474))) (fun k_ hk => (⟨hk, hk.1.2⟩ : _ ∧ k_ ≠ gb475))) (fun _ hk => hk.1.2) (.int .i64 t466)) (fun _ hk => hk.1.2) (.int .i64 t467)) (fun _ hk => hk.1.2) (.int .i64 t468)) (fun _ hk => hk.1.2) (.int .i64 t469)) (fun _ hk => hk.2) (.int .i64 t470)) (fun _ hk => hk.2) (.int .i64 t471)) (fun _ hk => hk.2) (.int .i64 t472)) (fun _ hk => hk.2) (.int .i64 t473)) (fun _ h_ => h_.1)) (fun _ h_ => h_.1))) hb); replace HO_5 := Aside0.mk (Kd.R_below (by (with_reducible repeat (first | apply Kd.R_alloc | apply Kd.R_drewN | apply Kd.R_drew)); exact (Kd.R_mono (Kd.R_mono (Kd.R_far (p := ⟨gb475, 3, none⟩) (Kd.R_far (p := ⟨gb475, 2, none⟩) (Kd.R_far (p := ⟨gb475, 1, none⟩) (Kd.R_far (p := ⟨gb475, 0, none⟩) (Kd.R_far (p := ⟨gb474, 3, none⟩) (Kd.R_far (p := ⟨gb474, 2, none⟩) (Kd.R_far (p := ⟨gb474, 1, none⟩) (Kd.R_far (p := ⟨gb474, 0, none⟩) (Kd.R_types (Kd.R_types HO_5.out BK474.out (by decide)) BK475.out (by decide)) (fun _ hk => hk.1.2) (.int .i64 t466)) (fun _ hk => hk.1.2) (.int .i64 t467)) (fun _ hk => hk.1.2) (.int .i64 t468)) (fun _ hk => hk.1.2) (.int .i64 t469)) (fun _ hk => hk.2) (.int .i64 t470)) (fun _ hk => hk.2) (.int .i64 t471)) (fun _ hk => hk.2) (.int .i64 t472)) (fun _ hk => hk.2) (.int .i64 t473)) (fun _ h_ => h_.1)) (fun _ h_ => h_.1))) hb); replace BK474 := Aside0.mk (blk_below (g := gb474) (o := .cells #[.int .i64 t466, .int .i64 t467, .int .i64 t468, .int .i64 t469] 77 (0, 0)) (by (with_reducible repeat (first | refine blk_drewN ?_ _ | refine blk_drew ?_ | refine blk_alloc ?_ _)); refine blk_far ?_ NB474_475.out _; (with_reducible repeat (first | refine blk_drewN ?_ _ | refine blk_drew ?_ | refine blk_alloc ?_ _)); refine blk_far ?_ NB474_475.out _; (with_reducible repeat (first | refine blk_drewN ?_ _ | refine blk_drew ?_ | refine blk_alloc ?_ _)); refine blk_far ?_ NB474_475.out _; (with_reducible repeat (first | refine blk_drewN ?_ _ | refine blk_drew ?_ | refine blk_alloc ?_ _)); refine blk_far ?_ NB474_475.out _; (with_reducible repeat (first | refine blk_drewN ?_ _ | refine blk_drew ?_ | refine blk_alloc ?_ _)); refine blk_put (cs := #[.int .i64 t466, .int .i64 t467, .int .i64 t468, .int .i64 0]) ?_ 3 _ rfl; (with_reducible repeat (first | refine blk_drewN ?_ _ | refine blk_drew ?_ | refine blk_alloc ?_ _)); refine blk_put (cs := #[.int .i64 t466, .int .i64 t467, .int .i64 0, .int .i64 0]) ?_ 2 _ rfl; (with_reducible repeat (first | refine blk_drewN ?_ _ | refine blk_drew ?_ | refine blk_alloc ?_ _)); refine blk_put (cs := #[.int .i64 t466, .int .i64 0, .int .i64 0, .int .i64 0]) ?_ 1 _ rfl; (with_reducible repeat (first | refine blk_drewN ?_ _ | refine blk_drew ?_ | refine blk_alloc ?_ _)); refine blk_put (cs := #[.int .i64 0, .int .i64 0, .int .i64 0, .int .i64 0]) ?_ 0 _ rfl; (with_reducible repeat (first | refine blk_drewN ?_ _ | refine blk_drew ?_ | refine blk_alloc ?_ _)); exact BK474.out) hb); replace BK475 := Aside0.mk (blk_below (g := gb475) (o := .cells #[.int .i64 t470, .int .i64 t471, .int .i64 t472, .int .i64 t473] 77 (0, 0)) (by (with_reducible repeat (first | refine blk_drewN ?_ _ | refine blk_drew ?_ | refine blk_alloc ?_ _)); refine blk_put (cs := #[.int .i64 t470, .int .i64 t471, .int .i64 t472, .int .i64 0]) ?_ 3 _ rfl; (with_reducible repeat (first | refine blk_drewN ?_ _ | refine blk_drew ?_ | refine blk_alloc ?_ _)); refine blk_put (cs := #[.int .i64 t470, .int .i64 t471, .int .i64 0, .int .i64 0]) ?_ 2 _ rfl; (with_reducible repeat (first | refine blk_drewN ?_ _ | refine blk_drew ?_ | refine blk_alloc ?_ _)); refine blk_put (cs := #[.int .i64 t470, .int .i64 0, .int .i64 0, .int .i64 0]) ?_ 1 _ rfl; (with_reducible repeat (first | refine blk_drewN ?_ _ | refine blk_drew ?_ | refine blk_alloc ?_ _)); refine blk_put (cs := #[.int .i64 0, .int .i64 0, .int .i64 0, .int .i64 0]) ?_ 0 _ rfl; (with_reducible repeat (first | refine blk_drewN ?_ _ | refine blk_drew ?_ | refine blk_alloc ?_ _)); refine blk_far ?_ NB475_474.out _; (with_reducible repeat (first | refine blk_drewN ?_ _ | refine blk_drew ?_ | refine blk_alloc ?_ _)); refine blk_far ?_ NB475_474.out _; (with_reducible repeat (first | refine blk_drewN ?_ _ | refine blk_drew ?_ | refine blk_alloc ?_ _)); refine blk_far ?_ NB475_474.out _; (with_reducible repeat (first | refine blk_drewN ?_ _ | refine blk_drew ?_ | refine blk_alloc ?_ _)); refine blk_far ?_ NB475_474.out _; (with_reducible repeat (first | refine blk_drewN ?_ _ | refine blk_drew ?_ | refine blk_alloc ?_ _)); exact BK475.out) hb); replace HB := Aside0.mk (below_step Hd.b_ hb); (try clear hb); (try clear hb2); (try clear hk); (try clear hi); obtain ⟨hcz124_0, hcz124_1, hcz124_2, hcz124_3⟩ := Hd.c4_ BK475.out; obtain ⟨hfz124_0, hfz124_1, hfz124_2, hfz124_3⟩ := Hd.f4_ BK475.out; obtain ⟨hcz125_0, hcz125_1, hcz125_2, hcz125_3⟩ := Hd.c4_ BK474.out; obtain ⟨hfz125_0, hfz125_1, hfz125_2, hfz125_3⟩ := Hd.f4_ BK474.out) | (go_at_call 50; (with_reducible refine (impl_IsAbove.calls t470 t471 t472 t473 t466 t467 t468 t469 false _ A68.out).mono ?_); rintro e w126 ⟨rfl, hb⟩; replace HO_3 := Aside0.mk (Kd.R_below (Hd.r_ HO_3) hb); replace HO_5 := Aside0.mk (Kd.R_below (Hd.r_ HO_5) hb); replace BK474 := Aside0.mk (Hd.kb_ BK474 hb); replace BK475 := Aside0.mk (Hd.kb_ BK475 hb); replace HB := Aside0.mk (below_step Hd.b_ hb); (try clear hb); (try clear hb2); (try clear hk); (try clear hi)) | (go_at_call 53; (with_reducible refine (impl_ArePlaces.calls k1 _ _ t438 true _ ?side1 ?side2 A91.out).mono ?_); (case side1 => repeat (first | exact (Kd.R_reads' HO_3.out).2.2 | (with_reducible refine Kd.C_alloc ?_ _) | (with_reducible refine Kd.C_drewN ?_ _) | (with_reducible refine Kd.C_drew ?_))); (case side2 => exact (Kd.R_reads' HO_3.out).2.1); rintro e w127 ⟨rfl, hb⟩; replace HO_3 := Aside0.mk (Kd.R_below (Hd.r_ HO_3) hb); replace HO_5 := Aside0.mk (Kd.R_below (Hd.r_ HO_5) hb); replace BK474 := Aside0.mk (Hd.kb_ BK474 hb); replace BK475 := Aside0.mk (Hd.kb_ BK475 hb); replace HB := Aside0.mk (below_step Hd.b_ hb); (try clear hb); (try clear hb2); (try clear hk); (try clear hi)))
             go_ret
             exact ⟨Hd.e_, Hd.b_⟩
          ·
           replace c92 := Bool.eq_false_iff.mpr c92
           subst c92
           have H1 : (some true) = some r := by rw [if_neg (show ¬ (false = true) by decide)] at H; exact H
           clear H
           have H := H1
           clear H1
           obtain rfl := Option.some.inj H
           go_wp2_with (first | ((with_reducible refine gate_callee (f := 52) rfl ?_); refine goesL_ (some 158) rfl rfl Try.func52 (by kernel_rfl) rfl #[.slice A0 l0.length c0] rfl Hd.m_ ?_; (with_reducible refine (spec_DrawIsAbove.calls k1 _ _ l0 t466 t467 t468 t469 t470 t471 t472 t473 _ ?side1 ?side2 A65.out).mono ?_); (case side1 => repeat (first | exact (Kd.C_below HR0.out HB.out) | (with_reducible refine Kd.C_alloc ?_ _) | (with_reducible refine Kd.C_drewN ?_ _) | (with_reducible refine Kd.C_drew ?_))); (case side2 => exact HC0.out); rintro e w128 ⟨rfl, hb⟩; refine ⟨_, rfl, ?_⟩; replace HO_3 := Aside0.mk (Kd.R_below (Hd.r_ HO_3) hb); replace HO_5 := Aside0.mk (Kd.R_below (Hd.r_ HO_5) hb); replace HB := Aside0.mk (below_step Hd.b_ hb); (try clear hb); (try clear hb2); (try clear hk); (try clear hi)) | ((with_reducible refine gate_dst (N := 10) rfl ?_); (try (refine gate_guard (by rfl) ?_; dsimp only)); refine Hd.box_ 10 (#[.int .i64 0, .int .i64 0, .int .i64 0, .int .i64 0]) 77 ?_; intro gb474 hg w129 hbox hb; replace HO_3 := Aside0.mk (Kd.R_below (Kd.R_elderB (Hd.r_ HO_3) gb474 (Nat.le_of_eq hg.symm)) hb); replace HO_5 := Aside0.mk (Kd.R_below (Hd.r_ HO_5) hb); have BK474 := Aside0.mk (hbox); have GW474 := Aside0.mk ((Hd.g_ hg Hd.b_ : w.heap.size ≤ gb474)); have GE474 := Aside0.mk ((Hd.g_ hg Hd.b_ : w.heap.size ≤ gb474)); replace HB := Aside0.mk (below_step Hd.b_ hb); clear hb hbox hg) | ((with_reducible refine gate_dst (N := 11) rfl ?_); (try (refine gate_guard (by rfl) ?_; dsimp only)); refine Hd.box_ 11 (#[.int .i64 0, .int .i64 0, .int .i64 0, .int .i64 0]) 77 ?_; intro gb475 hg w130 hbox hb; replace HO_3 := Aside0.mk (Kd.R_below (Kd.R_elderB (Hd.r_ HO_3) gb475 (Nat.le_of_eq hg.symm)) hb); replace HO_5 := Aside0.mk (Kd.R_below (Hd.r_ HO_5) hb); have BK475 := Aside0.mk (hbox); have GW475 := Aside0.mk ((Hd.g_ hg Hd.b_ : w.heap.size ≤ gb475)); have GE475 := Aside0.mk ((Hd.g_ hg Hd.b_ : w.heap.size ≤ gb475)); replace HB := Aside0.mk (below_step Hd.b_ hb); have NB474_475 := Aside0.mk ((Hd.lt_ BK474 hg)); have NB475_474 := Aside0.mk ((Hd.gt_ BK474 hg)); replace BK474 := Aside0.mk (Hd.kb_ BK474 hb); clear hb hbox hg; have hnb131 := NB474_475.out; have hnc131 := NB475_474.out; obtain ⟨hcz132_0, hcz132_1, hcz132_2, hcz132_3⟩ := Hd.c4_ BK474.out; obtain ⟨hfz132_0, hfz132_1, hfz132_2, hfz132_3⟩ := Hd.f4_ BK474.out; obtain ⟨hcz133_0, hcz133_1, hcz133_2, hcz133_3⟩ := Hd.c4_ BK475.out; obtain ⟨hfz133_0, hfz133_1, hfz133_2, hfz133_3⟩ := Hd.f4_ BK475.out) | ((with_reducible refine gate_callee (f := 50) rfl ?_); refine goesL_ (some 163) rfl rfl Try.func50 (by kernel_rfl) rfl #[.agg #[.int .i64 t466, .int .i64 t467, .int .i64 t468, .int .i64 t469], .agg #[.int .i64 t470, .int .i64 t471, .int .i64 t472, .int .i64 t473]] rfl Hd.m_ ?_; (with_reducible refine (impl_IsAbove.calls t466 t467 t468 t469 t470 t471 t472 t473 true _ A66.out).mono ?_); rintro e w134 ⟨rfl, hb⟩; refine ⟨_, rfl, ?_⟩; replace HO_3 := Aside0.mk (Kd.R_below (by (with_reducible repeat (first | apply Kd.R_alloc | apply Kd.R_drewN | apply Kd.R_drew)); exact (Kd.R_mono (Kd.R_mono (Kd.R_far (p := ⟨gb475, 3, none⟩) (Kd.R_far (p := ⟨gb475, 2, none⟩) (Kd.R_far (p := ⟨gb475, 1, none⟩) (Kd.R_far (p := ⟨gb475, 0, none⟩) (Kd.R_far (p := ⟨gb474, 3, none⟩) (Kd.R_far (p := ⟨gb474, 2, none⟩) (Kd.R_far (p := ⟨gb474, 1, none⟩) (Kd.R_far (p := ⟨gb474, 0, none⟩) (Kd.R_mono (Kd.R_mono HO_3.out (fun k_ hk => (⟨hk, hk.1.2⟩ : _ ∧ k_ ≠ gb474))) (fun k_ hk => (⟨hk, hk.1.2⟩ : _ ∧ k_ ≠ gb475))) (fun _ hk => hk.1.2) (.int .i64 t466)) (fun _ hk => hk.1.2) (.int .i64 t467)) (fun _ hk => hk.1.2) (.int .i64 t468)) (fun _ hk => hk.1.2) (.int .i64 t469)) (fun _ hk => hk.2) (.int .i64 t470)) (fun _ hk => hk.2) (.int .i64 t471)) (fun _ hk => hk.2) (.int .i64 t472)) (fun _ hk => hk.2) (.int .i64 t473)) (fun _ h_ => h_.1)) (fun _ h_ => h_.1))) hb); replace HO_5 := Aside0.mk (Kd.R_below (by (with_reducible repeat (first | apply Kd.R_alloc | apply Kd.R_drewN | apply Kd.R_drew)); exact (Kd.R_mono (Kd.R_mono (Kd.R_far (p := ⟨gb475, 3, none⟩) (Kd.R_far (p := ⟨gb475, 2, none⟩) (Kd.R_far (p := ⟨gb475, 1, none⟩) (Kd.R_far (p := ⟨gb475, 0, none⟩) (Kd.R_far (p := ⟨gb474, 3, none⟩) (Kd.R_far (p := ⟨gb474, 2, none⟩) (Kd.R_far (p := ⟨gb474, 1, none⟩) (Kd.R_far (p := ⟨gb474, 0, none⟩) (Kd.R_types (Kd.R_types HO_5.out BK474.out (by decide)) BK475.out (by decide)) (fun _ hk => hk.1.2) (.int .i64 t466)) (fun _ hk => hk.1.2) (.int .i64 t467)) (fun _ hk => hk.1.2) (.int .i64 t468)) (fun _ hk => hk.1.2) (.int .i64 t469)) (fun _ hk => hk.2) (.int .i64 t470)) (fun _ hk => hk.2) (.int .i64 t471)) (fun _ hk => hk.2) (.int .i64 t472)) (fun _ hk => hk.2) (.int .i64 t473)) (fun _ h_ => h_.1)) (fun _ h_ => h_.1))) hb); replace BK474 := Aside0.mk (blk_below (g := gb474) (o := .cells #[.int .i64 t466, .int .i64 t467, .int .i64 t468, .int .i64 t469] 77 (0, 0)) (by (with_reducible repeat (first | refine blk_drewN ?_ _ | refine blk_drew ?_ | refine blk_alloc ?_ _)); refine blk_far ?_ NB474_475.out _; (with_reducible repeat (first | refine blk_drewN ?_ _ | refine blk_drew ?_ | refine blk_alloc ?_ _)); refine blk_far ?_ NB474_475.out _; (with_reducible repeat (first | refine blk_drewN ?_ _ | refine blk_drew ?_ | refine blk_alloc ?_ _)); refine blk_far ?_ NB474_475.out _; (with_reducible repeat (first | refine blk_drewN ?_ _ | refine blk_drew ?_ | refine blk_alloc ?_ _)); refine blk_far ?_ NB474_475.out _; (with_reducible repeat (first | refine blk_drewN ?_ _ | refine blk_drew ?_ | refine blk_alloc ?_ _)); refine blk_put (cs := #[.int .i64 t466, .int .i64 t467, .int .i64 t468, .int .i64 0]) ?_ 3 _ rfl; (with_reducible repeat (first | refine blk_drewN ?_ _ | refine blk_drew ?_ | refine blk_alloc ?_ _)); refine blk_put (cs := #[.int .i64 t466, .int .i64 t467, .int .i64 0, .int .i64 0]) ?_ 2 _ rfl; (with_reducible repeat (first | refine blk_drewN ?_ _ | refine blk_drew ?_ | refine blk_alloc ?_ _)); refine blk_put (cs := #[.int .i64 t466, .int .i64 0, .int .i64 0, .int .i64 0]) ?_ 1 _ rfl; (with_reducible repeat (first | refine blk_drewN ?_ _ | refine blk_drew ?_ | refine blk_alloc ?_ _)); refine blk_put (cs := #[.int .i64 0, .int .i64 0, .int .i64 0, .int .i64 0]) ?_ 0 _ rfl; (with_reducible repeat (first | refine blk_drewN ?_ _ | refine blk_drew ?_ | refine blk_alloc ?_ _)); exact BK474.out) hb); replace BK475 := Aside0.mk (blk_below (g := gb475) (o := .cells #[.int .i64 t470, .int .i64 t471, .int .i64 t472, .int .i64 t473] 77 (0, 0)) (by (with_reducible repeat (first | refine blk_drewN ?_ _ | refine blk_drew ?_ | refine blk_alloc ?_ _)); refine blk_put (cs := #[.int .i64 t470, .int .i64 t471, .int .i64 t472, .int .i64 0]) ?_ 3 _ rfl; (with_reducible repeat (first | refine blk_drewN ?_ _ | refine blk_drew ?_ | refine blk_alloc ?_ _)); refine blk_put (cs := #[.int .i64 t470, .int .i64 t471, .int .i64 0, .int .i64 0]) ?_ 2 _ rfl; (with_reducible repeat (first | refine blk_drewN ?_ _ | refine blk_drew ?_ | refine blk_alloc ?_ _)); refine blk_put (cs := #[.int .i64 t470, .int .i64 0, .int .i64 0, .int .i64 0]) ?_ 1 _ rfl; (with_reducible repeat (first | refine blk_drewN ?_ _ | refine blk_drew ?_ | refine blk_alloc ?_ _)); refine blk_put (cs := #[.int .i64 0, .int .i64 0, .int .i64 0, .int .i64 0]) ?_ 0 _ rfl; (with_reducible repeat (first | refine blk_drewN ?_ _ | refine blk_drew ?_ | refine blk_alloc ?_ _)); refine blk_far ?_ NB475_474.out _; (with_reducible repeat (first | refine blk_drewN ?_ _ | refine blk_drew ?_ | refine blk_alloc ?_ _)); refine blk_far ?_ NB475_474.out _; (with_reducible repeat (first | refine blk_drewN ?_ _ | refine blk_drew ?_ | refine blk_alloc ?_ _)); refine blk_far ?_ NB475_474.out _; (with_reducible repeat (first | refine blk_drewN ?_ _ | refine blk_drew ?_ | refine blk_alloc ?_ _)); refine blk_far ?_ NB475_474.out _; (with_reducible repeat (first | refine blk_drewN ?_ _ | refine blk_drew ?_ | refine blk_alloc ?_ _)); exact BK475.out) hb); replace HB := Aside0.mk (below_step Hd.b_ hb); (try clear hb); (try clear hb2); (try clear hk); (try clear hi); obtain ⟨hcz135_0, hcz135_1, hcz135_2, hcz135_3⟩ := Hd.c4_ BK475.out; obtain ⟨hfz135_0, hfz135_1, hfz135_2, hfz135_3⟩ := Hd.f4_ BK475.out; obtain ⟨hcz136_0, hcz136_1, hcz136_2, hcz136_3⟩ := Hd.c4_ BK474.out; obtain ⟨hfz136_0, hfz136_1, hfz136_2, hfz136_3⟩ := Hd.f4_ BK474.out) | (go_at_call 50; (with_reducible refine (impl_IsAbove.calls t470 t471 t472 t473 t466 t467 t468 t469 false _ A68.out).mono ?_); rintro e w137 ⟨rfl, hb⟩; replace HO_3 := Aside0.mk (Kd.R_below (Hd.r_ HO_3) hb); replace HO_5 := Aside0.mk (Kd.R_below (Hd.r_ HO_5) hb); replace BK474 := Aside0.mk (Hd.kb_ BK474 hb); replace BK475 := Aside0.mk (Hd.kb_ BK475 hb); replace HB := Aside0.mk (below_step Hd.b_ hb); (try clear hb); (try clear hb2); (try clear hk); (try clear hi)) | (go_at_call 53; (with_reducible refine (impl_ArePlaces.calls k1 _ _ t438 false _ ?side1 ?side2 A91.out).mono ?_); (case side1 => repeat (first | exact (Kd.R_reads' HO_3.out).2.2 | (with_reducible refine Kd.C_alloc ?_ _) | (with_reducible refine Kd.C_drewN ?_ _) | (with_reducible refine Kd.C_drew ?_))); (case side2 => exact (Kd.R_reads' HO_3.out).2.1); rintro e w138 ⟨rfl, hb⟩; replace HO_3 := Aside0.mk (Kd.R_below (Hd.r_ HO_3) hb); replace HO_5 := Aside0.mk (Kd.R_below (Hd.r_ HO_5) hb); replace BK474 := Aside0.mk (Hd.kb_ BK474 hb); replace BK475 := Aside0.mk (Hd.kb_ BK475 hb); replace HB := Aside0.mk (below_step Hd.b_ hb); (try clear hb); (try clear hb2); (try clear hk); (try clear hi)))
           go_ret
           exact ⟨Hd.e_, Hd.b_⟩
       ·
        replace c67 := Bool.eq_false_iff.mpr c67
        subst c67
        have H1 : (if (t438.length : Int) = 0 then (some true) else ((impl_ArePlaces.f k1 t438).bind fun t479 => (if t479 = true then (if t439 < 0 then (some true) else (if t439 > 200 then (some true) else (some (decide ((t442.length : Int) > 0))))) else (some true)))) = some r := by rw [if_neg (show ¬ (false = true) by decide)] at H; exact H
        clear H
        have H := H1
        clear H1
        by_cases c139 : (t438.length : Int) = 0
        ·
         rw [if_pos c139] at H
         have c139b0 : ((t438.length : Int) == 0) = true := beq_iff_eq.mpr c139
         have c139b1 : ((t438.length : Int) != 0) = false := bne_eq_false_iff_eq.mpr c139
         clear c139
         obtain rfl := Option.some.inj H
         go_wp2_with (first | ((with_reducible refine gate_callee (f := 52) rfl ?_); refine goesL_ (some 158) rfl rfl Try.func52 (by kernel_rfl) rfl #[.slice A0 l0.length c0] rfl Hd.m_ ?_; (with_reducible refine (spec_DrawIsAbove.calls k1 _ _ l0 t466 t467 t468 t469 t470 t471 t472 t473 _ ?side1 ?side2 A65.out).mono ?_); (case side1 => repeat (first | exact (Kd.C_below HR0.out HB.out) | (with_reducible refine Kd.C_alloc ?_ _) | (with_reducible refine Kd.C_drewN ?_ _) | (with_reducible refine Kd.C_drew ?_))); (case side2 => exact HC0.out); rintro e w140 ⟨rfl, hb⟩; refine ⟨_, rfl, ?_⟩; replace HO_3 := Aside0.mk (Kd.R_below (Hd.r_ HO_3) hb); replace HO_5 := Aside0.mk (Kd.R_below (Hd.r_ HO_5) hb); replace HB := Aside0.mk (below_step Hd.b_ hb); (try clear hb); (try clear hb2); (try clear hk); (try clear hi)) | ((with_reducible refine gate_dst (N := 10) rfl ?_); (try (refine gate_guard (by rfl) ?_; dsimp only)); refine Hd.box_ 10 (#[.int .i64 0, .int .i64 0, .int .i64 0, .int .i64 0]) 77 ?_; intro gb474 hg w141 hbox hb; replace HO_3 := Aside0.mk (Kd.R_below (Kd.R_elderB (Hd.r_ HO_3) gb474 (Nat.le_of_eq hg.symm)) hb); replace HO_5 := Aside0.mk (Kd.R_below (Hd.r_ HO_5) hb); have BK474 := Aside0.mk (hbox); have GW474 := Aside0.mk ((Hd.g_ hg Hd.b_ : w.heap.size ≤ gb474)); have GE474 := Aside0.mk ((Hd.g_ hg Hd.b_ : w.heap.size ≤ gb474)); replace HB := Aside0.mk (below_step Hd.b_ hb); clear hb hbox hg) | ((with_reducible refine gate_dst (N := 11) rfl ?_); (try (refine gate_guard (by rfl) ?_; dsimp only)); refine Hd.box_ 11 (#[.int .i64 0, .int .i64 0, .int .i64 0, .int .i64 0]) 77 ?_; intro gb475 hg w142 hbox hb; replace HO_3 := Aside0.mk (Kd.R_below (Kd.R_elderB (Hd.r_ HO_3) gb475 (Nat.le_of_eq hg.symm)) hb); replace HO_5 := Aside0.mk (Kd.R_below (Hd.r_ HO_5) hb); have BK475 := Aside0.mk (hbox); have GW475 := Aside0.mk ((Hd.g_ hg Hd.b_ : w.heap.size ≤ gb475)); have GE475 := Aside0.mk ((Hd.g_ hg Hd.b_ : w.heap.size ≤ gb475)); replace HB := Aside0.mk (below_step Hd.b_ hb); have NB474_475 := Aside0.mk ((Hd.lt_ BK474 hg)); have NB475_474 := Aside0.mk ((Hd.gt_ BK474 hg)); replace BK474 := Aside0.mk (Hd.kb_ BK474 hb); clear hb hbox hg; have hnb143 := NB474_475.out; have hnc143 := NB475_474.out; obtain ⟨hcz144_0, hcz144_1, hcz144_2, hcz144_3⟩ := Hd.c4_ BK474.out; obtain ⟨hfz144_0, hfz144_1, hfz144_2, hfz144_3⟩ := Hd.f4_ BK474.out; obtain ⟨hcz145_0, hcz145_1, hcz145_2, hcz145_3⟩ := Hd.c4_ BK475.out; obtain ⟨hfz145_0, hfz145_1, hfz145_2, hfz145_3⟩ := Hd.f4_ BK475.out) | ((with_reducible refine gate_callee (f := 50) rfl ?_); refine goesL_ (some 163) rfl rfl Try.func50 (by kernel_rfl) rfl #[.agg #[.int .i64 t466, .int .i64 t467, .int .i64 t468, .int .i64 t469], .agg #[.int .i64 t470, .int .i64 t471, .int .i64 t472, .int .i64 t473]] rfl Hd.m_ ?_; (with_reducible refine (impl_IsAbove.calls t466 t467 t468 t469 t470 t471 t472 t473 false _ A66.out).mono ?_); rintro e w146 ⟨rfl, hb⟩; refine ⟨_, rfl, ?_⟩; replace HO_3 := Aside0.mk (Kd.R_below (by (with_reducible repeat (first | apply Kd.R_alloc | apply Kd.R_drewN | apply Kd.R_drew)); exact (Kd.R_mono (Kd.R_mono (Kd.R_far (p := ⟨gb475, 3, none⟩) (Kd.R_far (p := ⟨gb475, 2, none⟩) (Kd.R_far (p := ⟨gb475, 1, none⟩) (Kd.R_far (p := ⟨gb475, 0, none⟩) (Kd.R_far (p := ⟨gb474, 3, none⟩) (Kd.R_far (p := ⟨gb474, 2, none⟩) (Kd.R_far (p := ⟨gb474, 1, none⟩) (Kd.R_far (p := ⟨gb474, 0, none⟩) (Kd.R_mono (Kd.R_mono HO_3.out (fun k_ hk => (⟨hk, hk.1.2⟩ : _ ∧ k_ ≠ gb474))) (fun k_ hk => (⟨hk, hk.1.2⟩ : _ ∧ k_ ≠ gb475))) (fun _ hk => hk.1.2) (.int .i64 t466)) (fun _ hk => hk.1.2) (.int .i64 t467)) (fun _ hk => hk.1.2) (.int .i64 t468)) (fun _ hk => hk.1.2) (.int .i64 t469)) (fun _ hk => hk.2) (.int .i64 t470)) (fun _ hk => hk.2) (.int .i64 t471)) (fun _ hk => hk.2) (.int .i64 t472)) (fun _ hk => hk.2) (.int .i64 t473)) (fun _ h_ => h_.1)) (fun _ h_ => h_.1))) hb); replace HO_5 := Aside0.mk (Kd.R_below (by (with_reducible repeat (first | apply Kd.R_alloc | apply Kd.R_drewN | apply Kd.R_drew)); exact (Kd.R_mono (Kd.R_mono (Kd.R_far (p := ⟨gb475, 3, none⟩) (Kd.R_far (p := ⟨gb475, 2, none⟩) (Kd.R_far (p := ⟨gb475, 1, none⟩) (Kd.R_far (p := ⟨gb475, 0, none⟩) (Kd.R_far (p := ⟨gb474, 3, none⟩) (Kd.R_far (p := ⟨gb474, 2, none⟩) (Kd.R_far (p := ⟨gb474, 1, none⟩) (Kd.R_far (p := ⟨gb474, 0, none⟩) (Kd.R_types (Kd.R_types HO_5.out BK474.out (by decide)) BK475.out (by decide)) (fun _ hk => hk.1.2) (.int .i64 t466)) (fun _ hk => hk.1.2) (.int .i64 t467)) (fun _ hk => hk.1.2) (.int .i64 t468)) (fun _ hk => hk.1.2) (.int .i64 t469)) (fun _ hk => hk.2) (.int .i64 t470)) (fun _ hk => hk.2) (.int .i64 t471)) (fun _ hk => hk.2) (.int .i64 t472)) (fun _ hk => hk.2) (.int .i64 t473)) (fun _ h_ => h_.1)) (fun _ h_ => h_.1))) hb); replace BK474 := Aside0.mk (blk_below (g := gb474) (o := .cells #[.int .i64 t466, .int .i64 t467, .int .i64 t468, .int .i64 t469] 77 (0, 0)) (by (with_reducible repeat (first | refine blk_drewN ?_ _ | refine blk_drew ?_ | refine blk_alloc ?_ _)); refine blk_far ?_ NB474_475.out _; (with_reducible repeat (first | refine blk_drewN ?_ _ | refine blk_drew ?_ | refine blk_alloc ?_ _)); refine blk_far ?_ NB474_475.out _; (with_reducible repeat (first | refine blk_drewN ?_ _ | refine blk_drew ?_ | refine blk_alloc ?_ _)); refine blk_far ?_ NB474_475.out _; (with_reducible repeat (first | refine blk_drewN ?_ _ | refine blk_drew ?_ | refine blk_alloc ?_ _)); refine blk_far ?_ NB474_475.out _; (with_reducible repeat (first | refine blk_drewN ?_ _ | refine blk_drew ?_ | refine blk_alloc ?_ _)); refine blk_put (cs := #[.int .i64 t466, .int .i64 t467, .int .i64 t468, .int .i64 0]) ?_ 3 _ rfl; (with_reducible repeat (first | refine blk_drewN ?_ _ | refine blk_drew ?_ | refine blk_alloc ?_ _)); refine blk_put (cs := #[.int .i64 t466, .int .i64 t467, .int .i64 0, .int .i64 0]) ?_ 2 _ rfl; (with_reducible repeat (first | refine blk_drewN ?_ _ | refine blk_drew ?_ | refine blk_alloc ?_ _)); refine blk_put (cs := #[.int .i64 t466, .int .i64 0, .int .i64 0, .int .i64 0]) ?_ 1 _ rfl; (with_reducible repeat (first | refine blk_drewN ?_ _ | refine blk_drew ?_ | refine blk_alloc ?_ _)); refine blk_put (cs := #[.int .i64 0, .int .i64 0, .int .i64 0, .int .i64 0]) ?_ 0 _ rfl; (with_reducible repeat (first | refine blk_drewN ?_ _ | refine blk_drew ?_ | refine blk_alloc ?_ _)); exact BK474.out) hb); replace BK475 := Aside0.mk (blk_below (g := gb475) (o := .cells #[.int .i64 t470, .int .i64 t471, .int .i64 t472, .int .i64 t473] 77 (0, 0)) (by (with_reducible repeat (first | refine blk_drewN ?_ _ | refine blk_drew ?_ | refine blk_alloc ?_ _)); refine blk_put (cs := #[.int .i64 t470, .int .i64 t471, .int .i64 t472, .int .i64 0]) ?_ 3 _ rfl; (with_reducible repeat (first | refine blk_drewN ?_ _ | refine blk_drew ?_ | refine blk_alloc ?_ _)); refine blk_put (cs := #[.int .i64 t470, .int .i64 t471, .int .i64 0, .int .i64 0]) ?_ 2 _ rfl; (with_reducible repeat (first | refine blk_drewN ?_ _ | refine blk_drew ?_ | refine blk_alloc ?_ _)); refine blk_put (cs := #[.int .i64 t470, .int .i64 0, .int .i64 0, .int .i64 0]) ?_ 1 _ rfl; (with_reducible repeat (first | refine blk_drewN ?_ _ | refine blk_drew ?_ | refine blk_alloc ?_ _)); refine blk_put (cs := #[.int .i64 0, .int .i64 0, .int .i64 0, .int .i64 0]) ?_ 0 _ rfl; (with_reducible repeat (first | refine blk_drewN ?_ _ | refine blk_drew ?_ | refine blk_alloc ?_ _)); refine blk_far ?_ NB475_474.out _; (with_reducible repeat (first | refine blk_drewN ?_ _ | refine blk_drew ?_ | refine blk_alloc ?_ _)); refine blk_far ?_ NB475_474.out _; (with_reducible repeat (first | refine blk_drewN ?_ _ | refine blk_drew ?_ | refine blk_alloc ?_ _)); refine blk_far ?_ NB475_474.out _; (with_reducible repeat (first | refine blk_drewN ?_ _ | refine blk_drew ?_ | refine blk_alloc ?_ _)); refine blk_far ?_ NB475_474.out _; (with_reducible repeat (first | refine blk_drewN ?_ _ | refine blk_drew ?_ | refine blk_alloc ?_ _)); exact BK475.out) hb); replace HB := Aside0.mk (below_step Hd.b_ hb); (try clear hb); (try clear hb2); (try clear hk); (try clear hi)))
         go_ret
         exact ⟨Hd.e_, Hd.b_⟩
        ·
         rw [if_neg c139] at H
         have c139b0 : ((t438.length : Int) == 0) = false := beq_eq_false_iff_ne.mpr c139
         have c139b1 : ((t438.length : Int) != 0) = true := bne_iff_ne.mpr c139
         have c139b2 : ¬ (t438 = []) := fun h_ => c139 (by rw [h_]; rfl)
         replace H := Option.bind_eq_some_iff.mp H
         obtain ⟨t479, A1470, H⟩ := H
         replace H : (if t479 = true then (if t439 < 0 then (some true) else (if t439 > 200 then (some true) else (some (decide ((t442.length : Int) > 0))))) else (some true)) = some r := H
         have A147 := Aside0.mk A1470
         clear A1470
         by_cases c148 : t479 = true
         ·
          subst c148
          have H1 : (if t439 < 0 then (some true) else (if t439 > 200 then (some true) else (some (decide ((t442.length : Int) > 0))))) = some r := by rw [if_pos rfl] at H; exact H
          clear H
          have H := H1
          clear H1
          by_cases c149 : t439 < 0
          ·
           rw [if_pos c149] at H
           have c149b0 : decide (t439 < 0) = true := decide_eq_true c149
           clear c149
           obtain rfl := Option.some.inj H
           go_wp2_with (first | ((with_reducible refine gate_callee (f := 52) rfl ?_); refine goesL_ (some 158) rfl rfl Try.func52 (by kernel_rfl) rfl #[.slice A0 l0.length c0] rfl Hd.m_ ?_; (with_reducible refine (spec_DrawIsAbove.calls k1 _ _ l0 t466 t467 t468 t469 t470 t471 t472 t473 _ ?side1 ?side2 A65.out).mono ?_); (case side1 => repeat (first | exact (Kd.C_below HR0.out HB.out) | (with_reducible refine Kd.C_alloc ?_ _) | (with_reducible refine Kd.C_drewN ?_ _) | (with_reducible refine Kd.C_drew ?_))); (case side2 => exact HC0.out); rintro e w150 ⟨rfl, hb⟩; refine ⟨_, rfl, ?_⟩; replace HO_3 := Aside0.mk (Kd.R_below (Hd.r_ HO_3) hb); replace HO_5 := Aside0.mk (Kd.R_below (Hd.r_ HO_5) hb); replace HB := Aside0.mk (below_step Hd.b_ hb); (try clear hb); (try clear hb2); (try clear hk); (try clear hi)) | ((with_reducible refine gate_dst (N := 10) rfl ?_); (try (refine gate_guard (by rfl) ?_; dsimp only)); refine Hd.box_ 10 (#[.int .i64 0, .int .i64 0, .int .i64 0, .int .i64 0]) 77 ?_; intro gb474 hg w151 hbox hb; replace HO_3 := Aside0.mk (Kd.R_below (Kd.R_elderB (Hd.r_ HO_3) gb474 (Nat.le_of_eq hg.symm)) hb); replace HO_5 := Aside0.mk (Kd.R_below (Hd.r_ HO_5) hb); have BK474 := Aside0.mk (hbox); have GW474 := Aside0.mk ((Hd.g_ hg Hd.b_ : w.heap.size ≤ gb474)); have GE474 := Aside0.mk ((Hd.g_ hg Hd.b_ : w.heap.size ≤ gb474)); replace HB := Aside0.mk (below_step Hd.b_ hb); clear hb hbox hg) | ((with_reducible refine gate_dst (N := 11) rfl ?_); (try (refine gate_guard (by rfl) ?_; dsimp only)); refine Hd.box_ 11 (#[.int .i64 0, .int .i64 0, .int .i64 0, .int .i64 0]) 77 ?_; intro gb475 hg w152 hbox hb; replace HO_3 := Aside0.mk (Kd.R_below (Kd.R_elderB (Hd.r_ HO_3) gb475 (Nat.le_of_eq hg.symm)) hb); replace HO_5 := Aside0.mk (Kd.R_below (Hd.r_ HO_5) hb); have BK475 := Aside0.mk (hbox); have GW475 := Aside0.mk ((Hd.g_ hg Hd.b_ : w.heap.size ≤ gb475)); have GE475 := Aside0.mk ((Hd.g_ hg Hd.b_ : w.heap.size ≤ gb475)); replace HB := Aside0.mk (below_step Hd.b_ hb); have NB474_475 := Aside0.mk ((Hd.lt_ BK474 hg)); have NB475_474 := Aside0.mk ((Hd.gt_ BK474 hg)); replace BK474 := Aside0.mk (Hd.kb_ BK474 hb); clear hb hbox hg; have hnb153 := NB474_475.out; have hnc153 := NB475_474.out; obtain ⟨hcz154_0, hcz154_1, hcz154_2, hcz154_3⟩ := Hd.c4_ BK474.out; obtain ⟨hfz154_0, hfz154_1, hfz154_2, hfz154_3⟩ := Hd.f4_ BK474.out; obtain ⟨hcz155_0, hcz155_1, hcz155_2, hcz155_3⟩ := Hd.c4_ BK475.out; obtain ⟨hfz155_0, hfz155_1, hfz155_2, hfz155_3⟩ := Hd.f4_ BK475.out) | ((with_reducible refine gate_callee (f := 50) rfl ?_); refine goesL_ (some 163) rfl rfl Try.func50 (by kernel_rfl) rfl #[.agg #[.int .i64 t466, .int .i64 t467, .int .i64 t468, .int .i64 t469], .agg #[.int .i64 t470, .int .i64 t471, .int .i64 t472, .int .i64 t473]] rfl Hd.m_ ?_; (with_reducible refine (impl_IsAbove.calls t466 t467 t468 t469 t470 t471 t472 t473 false _ A66.out).mono ?_); rintro e w156 ⟨rfl, hb⟩; refine ⟨_, rfl, ?_⟩; replace HO_3 := Aside0.mk (Kd.R_below (by (with_reducible repeat (first | apply Kd.R_alloc | apply Kd.R_drewN | apply Kd.R_drew)); exact (Kd.R_mono (Kd.R_mono (Kd.R_far (p := ⟨gb475, 3, none⟩) (Kd.R_far (p := ⟨gb475, 2, none⟩) (Kd.R_far (p := ⟨gb475, 1, none⟩) (Kd.R_far (p := ⟨gb475, 0, none⟩) (Kd.R_far (p := ⟨gb474, 3, none⟩) (Kd.R_far (p := ⟨gb474, 2, none⟩) (Kd.R_far (p := ⟨gb474, 1, none⟩) (Kd.R_far (p := ⟨gb474, 0, none⟩) (Kd.R_mono (Kd.R_mono HO_3.out (fun k_ hk => (⟨hk, hk.1.2⟩ : _ ∧ k_ ≠ gb474))) (fun k_ hk => (⟨hk, hk.1.2⟩ : _ ∧ k_ ≠ gb475))) (fun _ hk => hk.1.2) (.int .i64 t466)) (fun _ hk => hk.1.2) (.int .i64 t467)) (fun _ hk => hk.1.2) (.int .i64 t468)) (fun _ hk => hk.1.2) (.int .i64 t469)) (fun _ hk => hk.2) (.int .i64 t470)) (fun _ hk => hk.2) (.int .i64 t471)) (fun _ hk => hk.2) (.int .i64 t472)) (fun _ hk => hk.2) (.int .i64 t473)) (fun _ h_ => h_.1)) (fun _ h_ => h_.1))) hb); replace HO_5 := Aside0.mk (Kd.R_below (by (with_reducible repeat (first | apply Kd.R_alloc | apply Kd.R_drewN | apply Kd.R_drew)); exact (Kd.R_mono (Kd.R_mono (Kd.R_far (p := ⟨gb475, 3, none⟩) (Kd.R_far (p := ⟨gb475, 2, none⟩) (Kd.R_far (p := ⟨gb475, 1, none⟩) (Kd.R_far (p := ⟨gb475, 0, none⟩) (Kd.R_far (p := ⟨gb474, 3, none⟩) (Kd.R_far (p := ⟨gb474, 2, none⟩) (Kd.R_far (p := ⟨gb474, 1, none⟩) (Kd.R_far (p := ⟨gb474, 0, none⟩) (Kd.R_types (Kd.R_types HO_5.out BK474.out (by decide)) BK475.out (by decide)) (fun _ hk => hk.1.2) (.int .i64 t466)) (fun _ hk => hk.1.2) (.int .i64 t467)) (fun _ hk => hk.1.2) (.int .i64 t468)) (fun _ hk => hk.1.2) (.int .i64 t469)) (fun _ hk => hk.2) (.int .i64 t470)) (fun _ hk => hk.2) (.int .i64 t471)) (fun _ hk => hk.2) (.int .i64 t472)) (fun _ hk => hk.2) (.int .i64 t473)) (fun _ h_ => h_.1)) (fun _ h_ => h_.1))) hb); replace BK474 := Aside0.mk (blk_below (g := gb474) (o := .cells #[.int .i64 t466, .int .i64 t467, .int .i64 t468, .int .i64 t469] 77 (0, 0)) (by (with_reducible repeat (first | refine blk_drewN ?_ _ | refine blk_drew ?_ | refine blk_alloc ?_ _)); refine blk_far ?_ NB474_475.out _; (with_reducible repeat (first | refine blk_drewN ?_ _ | refine blk_drew ?_ | refine blk_alloc ?_ _)); refine blk_far ?_ NB474_475.out _; (with_reducible repeat (first | refine blk_drewN ?_ _ | refine blk_drew ?_ | refine blk_alloc ?_ _)); refine blk_far ?_ NB474_475.out _; (with_reducible repeat (first | refine blk_drewN ?_ _ | refine blk_drew ?_ | refine blk_alloc ?_ _)); refine blk_far ?_ NB474_475.out _; (with_reducible repeat (first | refine blk_drewN ?_ _ | refine blk_drew ?_ | refine blk_alloc ?_ _)); refine blk_put (cs := #[.int .i64 t466, .int .i64 t467, .int .i64 t468, .int .i64 0]) ?_ 3 _ rfl; (with_reducible repeat (first | refine blk_drewN ?_ _ | refine blk_drew ?_ | refine blk_alloc ?_ _)); refine blk_put (cs := #[.int .i64 t466, .int .i64 t467, .int .i64 0, .int .i64 0]) ?_ 2 _ rfl; (with_reducible repeat (first | refine blk_drewN ?_ _ | refine blk_drew ?_ | refine blk_alloc ?_ _)); refine blk_put (cs := #[.int .i64 t466, .int .i64 0, .int .i64 0, .int .i64 0]) ?_ 1 _ rfl; (with_reducible repeat (first | refine blk_drewN ?_ _ | refine blk_drew ?_ | refine blk_alloc ?_ _)); refine blk_put (cs := #[.int .i64 0, .int .i64 0, .int .i64 0, .int .i64 0]) ?_ 0 _ rfl; (with_reducible repeat (first | refine blk_drewN ?_ _ | refine blk_drew ?_ | refine blk_alloc ?_ _)); exact BK474.out) hb); replace BK475 := Aside0.mk (blk_below (g := gb475) (o := .cells #[.int .i64 t470, .int .i64 t471, .int .i64 t472, .int .i64 t473] 77 (0, 0)) (by (with_reducible repeat (first | refine blk_drewN ?_ _ | refine blk_drew ?_ | refine blk_alloc ?_ _)); refine blk_put (cs := #[.int .i64 t470, .int .i64 t471, .int .i64 t472, .int .i64 0]) ?_ 3 _ rfl; (with_reducible repeat (first | refine blk_drewN ?_ _ | refine blk_drew ?_ | refine blk_alloc ?_ _)); refine blk_put (cs := #[.int .i64 t470, .int .i64 t471, .int .i64 0, .int .i64 0]) ?_ 2 _ rfl; (with_reducible repeat (first | refine blk_drewN ?_ _ | refine blk_drew ?_ | refine blk_alloc ?_ _)); refine blk_put (cs := #[.int .i64 t470, .int .i64 0, .int .i64 0, .int .i64 0]) ?_ 1 _ rfl; (with_reducible repeat (first | refine blk_drewN ?_ _ | refine blk_drew ?_ | refine blk_alloc ?_ _)); refine blk_put (cs := #[.int .i64 0, .int .i64 0, .int .i64 0, .int .i64 0]) ?_ 0 _ rfl; (with_reducible repeat (first | refine blk_drewN ?_ _ | refine blk_drew ?_ | refine blk_alloc ?_ _)); refine blk_far ?_ NB475_474.out _; (with_reducible repeat (first | refine blk_drewN ?_ _ | refine blk_drew ?_ | refine blk_alloc ?_ _)); refine blk_far ?_ NB475_474.out _; (with_reducible repeat (first | refine blk_drewN ?_ _ | refine blk_drew ?_ | refine blk_alloc ?_ _)); refine blk_far ?_ NB475_474.out _; (with_reducible repeat (first | refine blk_drewN ?_ _ | refine blk_drew ?_ | refine blk_alloc ?_ _)); refine blk_far ?_ NB475_474.out _; (with_reducible repeat (first | refine blk_drewN ?_ _ | refine blk_drew ?_ | refine blk_alloc ?_ _)); exact BK475.out) hb); replace HB := Aside0.mk (below_step Hd.b_ hb); (try clear hb); (try clear hb2); (try clear hk); (try clear hi)) | (go_at_call 53; (with_reducible refine (impl_ArePlaces.calls k1 _ _ t438 true _ ?side1 ?side2 A147.out).mono ?_); (case side1 => repeat (first | exact (Kd.R_reads' HO_3.out).2.2 | (with_reducible refine Kd.C_alloc ?_ _) | (with_reducible refine Kd.C_drewN ?_ _) | (with_reducible refine Kd.C_drew ?_))); (case side2 => exact (Kd.R_reads' HO_3.out).2.1); rintro e w157 ⟨rfl, hb⟩; replace HO_3 := Aside0.mk (Kd.R_below (Hd.r_ HO_3) hb); replace HO_5 := Aside0.mk (Kd.R_below (Hd.r_ HO_5) hb); replace BK474 := Aside0.mk (Hd.kb_ BK474 hb); replace BK475 := Aside0.mk (Hd.kb_ BK475 hb); replace HB := Aside0.mk (below_step Hd.b_ hb); (try clear hb); (try clear hb2); (try clear hk); (try clear hi)))
           go_ret
           exact ⟨Hd.e_, Hd.b_⟩
          ·
           rw [if_neg c149] at H
           have c149b0 : decide (t439 < 0) = false := decide_eq_false c149
           clear c149
           by_cases c158 : t439 > 200
           ·
            rw [if_pos c158] at H
            have c158b0 : decide (200 < t439) = true := decide_eq_true c158
            clear c158
            obtain rfl := Option.some.inj H
            go_wp2_with (first | ((with_reducible refine gate_callee (f := 52) rfl ?_); refine goesL_ (some 158) rfl rfl Try.func52 (by kernel_rfl) rfl #[.slice A0 l0.length c0] rfl Hd.m_ ?_; (with_reducible refine (spec_DrawIsAbove.calls k1 _ _ l0 t466 t467 t468 t469 t470 t471 t472 t473 _ ?side1 ?side2 A65.out).mono ?_); (case side1 => repeat (first | exact (Kd.C_below HR0.out HB.out) | (with_reducible refine Kd.C_alloc ?_ _) | (with_reducible refine Kd.C_drewN ?_ _) | (with_reducible refine Kd.C_drew ?_))); (case side2 => exact HC0.out); rintro e w159 ⟨rfl, hb⟩; refine ⟨_, rfl, ?_⟩; replace HO_3 := Aside0.mk (Kd.R_below (Hd.r_ HO_3) hb); replace HO_5 := Aside0.mk (Kd.R_below (Hd.r_ HO_5) hb); replace HB := Aside0.mk (below_step Hd.b_ hb); (try clear hb); (try clear hb2); (try clear hk); (try clear hi)) | ((with_reducible refine gate_dst (N := 10) rfl ?_); (try (refine gate_guard (by rfl) ?_; dsimp only)); refine Hd.box_ 10 (#[.int .i64 0, .int .i64 0, .int .i64 0, .int .i64 0]) 77 ?_; intro gb474 hg w160 hbox hb; replace HO_3 := Aside0.mk (Kd.R_below (Kd.R_elderB (Hd.r_ HO_3) gb474 (Nat.le_of_eq hg.symm)) hb); replace HO_5 := Aside0.mk (Kd.R_below (Hd.r_ HO_5) hb); have BK474 := Aside0.mk (hbox); have GW474 := Aside0.mk ((Hd.g_ hg Hd.b_ : w.heap.size ≤ gb474)); have GE474 := Aside0.mk ((Hd.g_ hg Hd.b_ : w.heap.size ≤ gb474)); replace HB := Aside0.mk (below_step Hd.b_ hb); clear hb hbox hg) | ((with_reducible refine gate_dst (N := 11) rfl ?_); (try (refine gate_guard (by rfl) ?_; dsimp only)); refine Hd.box_ 11 (#[.int .i64 0, .int .i64 0, .int .i64 0, .int .i64 0]) 77 ?_; intro gb475 hg w161 hbox hb; replace HO_3 := Aside0.mk (Kd.R_below (Kd.R_elderB (Hd.r_ HO_3) gb475 (Nat.le_of_eq hg.symm)) hb); replace HO_5 := Aside0.mk (Kd.R_below (Hd.r_ HO_5) hb); have BK475 := Aside0.mk (hbox); have GW475 := Aside0.mk ((Hd.g_ hg Hd.b_ : w.heap.size ≤ gb475)); have GE475 := Aside0.mk ((Hd.g_ hg Hd.b_ : w.heap.size ≤ gb475)); replace HB := Aside0.mk (below_step Hd.b_ hb); have NB474_475 := Aside0.mk ((Hd.lt_ BK474 hg)); have NB475_474 := Aside0.mk ((Hd.gt_ BK474 hg)); replace BK474 := Aside0.mk (Hd.kb_ BK474 hb); clear hb hbox hg; have hnb162 := NB474_475.out; have hnc162 := NB475_474.out; obtain ⟨hcz163_0, hcz163_1, hcz163_2, hcz163_3⟩ := Hd.c4_ BK474.out; obtain ⟨hfz163_0, hfz163_1, hfz163_2, hfz163_3⟩ := Hd.f4_ BK474.out; obtain ⟨hcz164_0, hcz164_1, hcz164_2, hcz164_3⟩ := Hd.c4_ BK475.out; obtain ⟨hfz164_0, hfz164_1, hfz164_2, hfz164_3⟩ := Hd.f4_ BK475.out) | ((with_reducible refine gate_callee (f := 50) rfl ?_); refine goesL_ (some 163) rfl rfl Try.func50 (by kernel_rfl) rfl #[.agg #[.int .i64 t466, .int .i64 t467, .int .i64 t468, .int .i64 t469], .agg #[.int .i64 t470, .int .i64 t471, .int .i64 t472, .int .i64 t473]] rfl Hd.m_ ?_; (with_reducible refine (impl_IsAbove.calls t466 t467 t468 t469 t470 t471 t472 t473 false _ A66.out).mono ?_); rintro e w165 ⟨rfl, hb⟩; refine ⟨_, rfl, ?_⟩; replace HO_3 := Aside0.mk (Kd.R_below (by (with_reducible repeat (first | apply Kd.R_alloc | apply Kd.R_drewN | apply Kd.R_drew)); exact (Kd.R_mono (Kd.R_mono (Kd.R_far (p := ⟨gb475, 3, none⟩) (Kd.R_far (p := ⟨gb475, 2, none⟩) (Kd.R_far (p := ⟨gb475, 1, none⟩) (Kd.R_far (p := ⟨gb475, 0, none⟩) (Kd.R_far (p := ⟨gb474, 3, none⟩) (Kd.R_far (p := ⟨gb474, 2, none⟩) (Kd.R_far (p := ⟨gb474, 1, none⟩) (Kd.R_far (p := ⟨gb474, 0, none⟩) (Kd.R_mono (Kd.R_mono HO_3.out (fun k_ hk => (⟨hk, hk.1.2⟩ : _ ∧ k_ ≠ gb474))) (fun k_ hk => (⟨hk, hk.1.2⟩ : _ ∧ k_ ≠ gb475))) (fun _ hk => hk.1.2) (.int .i64 t466)) (fun _ hk => hk.1.2) (.int .i64 t467)) (fun _ hk => hk.1.2) (.int .i64 t468)) (fun _ hk => hk.1.2) (.int .i64 t469)) (fun _ hk => hk.2) (.int .i64 t470)) (fun _ hk => hk.2) (.int .i64 t471)) (fun _ hk => hk.2) (.int .i64 t472)) (fun _ hk => hk.2) (.int .i64 t473)) (fun _ h_ => h_.1)) (fun _ h_ => h_.1))) hb); replace HO_5 := Aside0.mk (Kd.R_below (by (with_reducible repeat (first | apply Kd.R_alloc | apply Kd.R_drewN | apply Kd.R_drew)); exact (Kd.R_mono (Kd.R_mono (Kd.R_far (p := ⟨gb475, 3, none⟩) (Kd.R_far (p := ⟨gb475, 2, none⟩) (Kd.R_far (p := ⟨gb475, 1, none⟩) (Kd.R_far (p := ⟨gb475, 0, none⟩) (Kd.R_far (p := ⟨gb474, 3, none⟩) (Kd.R_far (p := ⟨gb474, 2, none⟩) (Kd.R_far (p := ⟨gb474, 1, none⟩) (Kd.R_far (p := ⟨gb474, 0, none⟩) (Kd.R_types (Kd.R_types HO_5.out BK474.out (by decide)) BK475.out (by decide)) (fun _ hk => hk.1.2) (.int .i64 t466)) (fun _ hk => hk.1.2) (.int .i64 t467)) (fun _ hk => hk.1.2) (.int .i64 t468)) (fun _ hk => hk.1.2) (.int .i64 t469)) (fun _ hk => hk.2) (.int .i64 t470)) (fun _ hk => hk.2) (.int .i64 t471)) (fun _ hk => hk.2) (.int .i64 t472)) (fun _ hk => hk.2) (.int .i64 t473)) (fun _ h_ => h_.1)) (fun _ h_ => h_.1))) hb); replace BK474 := Aside0.mk (blk_below (g := gb474) (o := .cells #[.int .i64 t466, .int .i64 t467, .int .i64 t468, .int .i64 t469] 77 (0, 0)) (by (with_reducible repeat (first | refine blk_drewN ?_ _ | refine blk_drew ?_ | refine blk_alloc ?_ _)); refine blk_far ?_ NB474_475.out _; (with_reducible repeat (first | refine blk_drewN ?_ _ | refine blk_drew ?_ | refine blk_alloc ?_ _)); refine blk_far ?_ NB474_475.out _; (with_reducible repeat (first | refine blk_drewN ?_ _ | refine blk_drew ?_ | refine blk_alloc ?_ _)); refine blk_far ?_ NB474_475.out _; (with_reducible repeat (first | refine blk_drewN ?_ _ | refine blk_drew ?_ | refine blk_alloc ?_ _)); refine blk_far ?_ NB474_475.out _; (with_reducible repeat (first | refine blk_drewN ?_ _ | refine blk_drew ?_ | refine blk_alloc ?_ _)); refine blk_put (cs := #[.int .i64 t466, .int .i64 t467, .int .i64 t468, .int .i64 0]) ?_ 3 _ rfl; (with_reducible repeat (first | refine blk_drewN ?_ _ | refine blk_drew ?_ | refine blk_alloc ?_ _)); refine blk_put (cs := #[.int .i64 t466, .int .i64 t467, .int .i64 0, .int .i64 0]) ?_ 2 _ rfl; (with_reducible repeat (first | refine blk_drewN ?_ _ | refine blk_drew ?_ | refine blk_alloc ?_ _)); refine blk_put (cs := #[.int .i64 t466, .int .i64 0, .int .i64 0, .int .i64 0]) ?_ 1 _ rfl; (with_reducible repeat (first | refine blk_drewN ?_ _ | refine blk_drew ?_ | refine blk_alloc ?_ _)); refine blk_put (cs := #[.int .i64 0, .int .i64 0, .int .i64 0, .int .i64 0]) ?_ 0 _ rfl; (with_reducible repeat (first | refine blk_drewN ?_ _ | refine blk_drew ?_ | refine blk_alloc ?_ _)); exact BK474.out) hb); replace BK475 := Aside0.mk (blk_below (g := gb475) (o := .cells #[.int .i64 t470, .int .i64 t471, .int .i64 t472, .int .i64 t473] 77 (0, 0)) (by (with_reducible repeat (first | refine blk_drewN ?_ _ | refine blk_drew ?_ | refine blk_alloc ?_ _)); refine blk_put (cs := #[.int .i64 t470, .int .i64 t471, .int .i64 t472, .int .i64 0]) ?_ 3 _ rfl; (with_reducible repeat (first | refine blk_drewN ?_ _ | refine blk_drew ?_ | refine blk_alloc ?_ _)); refine blk_put (cs := #[.int .i64 t470, .int .i64 t471, .int .i64 0, .int .i64 0]) ?_ 2 _ rfl; (with_reducible repeat (first | refine blk_drewN ?_ _ | refine blk_drew ?_ | refine blk_alloc ?_ _)); refine blk_put (cs := #[.int .i64 t470, .int .i64 0, .int .i64 0, .int .i64 0]) ?_ 1 _ rfl; (with_reducible repeat (first | refine blk_drewN ?_ _ | refine blk_drew ?_ | refine blk_alloc ?_ _)); refine blk_put (cs := #[.int .i64 0, .int .i64 0, .int .i64 0, .int .i64 0]) ?_ 0 _ rfl; (with_reducible repeat (first | refine blk_drewN ?_ _ | refine blk_drew ?_ | refine blk_alloc ?_ _)); refine blk_far ?_ NB475_474.out _; (with_reducible repeat (first | refine blk_drewN ?_ _ | refine blk_drew ?_ | refine blk_alloc ?_ _)); refine blk_far ?_ NB475_474.out _; (with_reducible repeat (first | refine blk_drewN ?_ _ | refine blk_drew ?_ | refine blk_alloc ?_ _)); refine blk_far ?_ NB475_474.out _; (with_reducible repeat (first | refine blk_drewN ?_ _ | refine blk_drew ?_ | refine blk_alloc ?_ _)); refine blk_far ?_ NB475_474.out _; (with_reducible repeat (first | refine blk_drewN ?_ _ | refine blk_drew ?_ | refine blk_alloc ?_ _)); exact BK475.out) hb); replace HB := Aside0.mk (below_step Hd.b_ hb); (try clear hb); (try clear hb2); (try clear hk); (try clear hi)) | (go_at_call 53; (with_reducible refine (impl_ArePlaces.calls k1 _ _ t438 true _ ?side1 ?side2 A147.out).mono ?_); (case side1 => repeat (first | exact (Kd.R_reads' HO_3.out).2.2 | (with_reducible refine Kd.C_alloc ?_ _) | (with_reducible refine Kd.C_drewN ?_ _) | (with_reducible refine Kd.C_drew ?_))); (case side2 => exact (Kd.R_reads' HO_3.out).2.1); rintro e w166 ⟨rfl, hb⟩; replace HO_3 := Aside0.mk (Kd.R_below (Hd.r_ HO_3) hb); replace HO_5 := Aside0.mk (Kd.R_below (Hd.r_ HO_5) hb); replace BK474 := Aside0.mk (Hd.kb_ BK474 hb); replace BK475 := Aside0.mk (Hd.kb_ BK475 hb); replace HB := Aside0.mk (below_step Hd.b_ hb); (try clear hb); (try clear hb2); (try clear hk); (try clear hi)))
            go_ret
            exact ⟨Hd.e_, Hd.b_⟩
           ·
            rw [if_neg c158] at H
            have c158b0 : decide (200 < t439) = false := decide_eq_false c158
            clear c158
            obtain rfl := Option.some.inj H
            go_wp2_with (first | ((with_reducible refine gate_callee (f := 52) rfl ?_); refine goesL_ (some 158) rfl rfl Try.func52 (by kernel_rfl) rfl #[.slice A0 l0.length c0] rfl Hd.m_ ?_; (with_reducible refine (spec_DrawIsAbove.calls k1 _ _ l0 t466 t467 t468 t469 t470 t471 t472 t473 _ ?side1 ?side2 A65.out).mono ?_); (case side1 => repeat (first | exact (Kd.C_below HR0.out HB.out) | (with_reducible refine Kd.C_alloc ?_ _) | (with_reducible refine Kd.C_drewN ?_ _) | (with_reducible refine Kd.C_drew ?_))); (case side2 => exact HC0.out); rintro e w167 ⟨rfl, hb⟩; refine ⟨_, rfl, ?_⟩; replace HO_3 := Aside0.mk (Kd.R_below (Hd.r_ HO_3) hb); replace HO_5 := Aside0.mk (Kd.R_below (Hd.r_ HO_5) hb); replace HB := Aside0.mk (below_step Hd.b_ hb); (try clear hb); (try clear hb2); (try clear hk); (try clear hi)) | ((with_reducible refine gate_dst (N := 10) rfl ?_); (try (refine gate_guard (by rfl) ?_; dsimp only)); refine Hd.box_ 10 (#[.int .i64 0, .int .i64 0, .int .i64 0, .int .i64 0]) 77 ?_; intro gb474 hg w168 hbox hb; replace HO_3 := Aside0.mk (Kd.R_below (Kd.R_elderB (Hd.r_ HO_3) gb474 (Nat.le_of_eq hg.symm)) hb); replace HO_5 := Aside0.mk (Kd.R_below (Hd.r_ HO_5) hb); have BK474 := Aside0.mk (hbox); have GW474 := Aside0.mk ((Hd.g_ hg Hd.b_ : w.heap.size ≤ gb474)); have GE474 := Aside0.mk ((Hd.g_ hg Hd.b_ : w.heap.size ≤ gb474)); replace HB := Aside0.mk (below_step Hd.b_ hb); clear hb hbox hg) | ((with_reducible refine gate_dst (N := 11) rfl ?_); (try (refine gate_guard (by rfl) ?_; dsimp only)); refine Hd.box_ 11 (#[.int .i64 0, .int .i64 0, .int .i64 0, .int .i64 0]) 77 ?_; intro gb475 hg w169 hbox hb; replace HO_3 := Aside0.mk (Kd.R_below (Kd.R_elderB (Hd.r_ HO_3) gb475 (Nat.le_of_eq hg.symm)) hb); replace HO_5 := Aside0.mk (Kd.R_below (Hd.r_ HO_5) hb); have BK475 := Aside0.mk (hbox); have GW475 := Aside0.mk ((Hd.g_ hg Hd.b_ : w.heap.size ≤ gb475)); have GE475 := Aside0.mk ((Hd.g_ hg Hd.b_ : w.heap.size ≤ gb475)); replace HB := Aside0.mk (below_step Hd.b_ hb); have NB474_475 := Aside0.mk ((Hd.lt_ BK474 hg)); have NB475_474 := Aside0.mk ((Hd.gt_ BK474 hg)); replace BK474 := Aside0.mk (Hd.kb_ BK474 hb); clear hb hbox hg; have hnb170 := NB474_475.out; have hnc170 := NB475_474.out; obtain ⟨hcz171_0, hcz171_1, hcz171_2, hcz171_3⟩ := Hd.c4_ BK474.out; obtain ⟨hfz171_0, hfz171_1, hfz171_2, hfz171_3⟩ := Hd.f4_ BK474.out; obtain ⟨hcz172_0, hcz172_1, hcz172_2, hcz172_3⟩ := Hd.c4_ BK475.out; obtain ⟨hfz172_0, hfz172_1, hfz172_2, hfz172_3⟩ := Hd.f4_ BK475.out) | ((with_reducible refine gate_callee (f := 50) rfl ?_); refine goesL_ (some 163) rfl rfl Try.func50 (by kernel_rfl) rfl #[.agg #[.int .i64 t466, .int .i64 t467, .int .i64 t468, .int .i64 t469], .agg #[.int .i64 t470, .int .i64 t471, .int .i64 t472, .int .i64 t473]] rfl Hd.m_ ?_; (with_reducible refine (impl_IsAbove.calls t466 t467 t468 t469 t470 t471 t472 t473 false _ A66.out).mono ?_); rintro e w173 ⟨rfl, hb⟩; refine ⟨_, rfl, ?_⟩; replace HO_3 := Aside0.mk (Kd.R_below (by (with_reducible repeat (first | apply Kd.R_alloc | apply Kd.R_drewN | apply Kd.R_drew)); exact (Kd.R_mono (Kd.R_mono (Kd.R_far (p := ⟨gb475, 3, none⟩) (Kd.R_far (p := ⟨gb475, 2, none⟩) (Kd.R_far (p := ⟨gb475, 1, none⟩) (Kd.R_far (p := ⟨gb475, 0, none⟩) (Kd.R_far (p := ⟨gb474, 3, none⟩) (Kd.R_far (p := ⟨gb474, 2, none⟩) (Kd.R_far (p := ⟨gb474, 1, none⟩) (Kd.R_far (p := ⟨gb474, 0, none⟩) (Kd.R_mono (Kd.R_mono HO_3.out (fun k_ hk => (⟨hk, hk.1.2⟩ : _ ∧ k_ ≠ gb474))) (fun k_ hk => (⟨hk, hk.1.2⟩ : _ ∧ k_ ≠ gb475))) (fun _ hk => hk.1.2) (.int .i64 t466)) (fun _ hk => hk.1.2) (.int .i64 t467)) (fun _ hk => hk.1.2) (.int .i64 t468)) (fun _ hk => hk.1.2) (.int .i64 t469)) (fun _ hk => hk.2) (.int .i64 t470)) (fun _ hk => hk.2) (.int .i64 t471)) (fun _ hk => hk.2) (.int .i64 t472)) (fun _ hk => hk.2) (.int .i64 t473)) (fun _ h_ => h_.1)) (fun _ h_ => h_.1))) hb); replace HO_5 := Aside0.mk (Kd.R_below (by (with_reducible repeat (first | apply Kd.R_alloc | apply Kd.R_drewN | apply Kd.R_drew)); exact (Kd.R_mono (Kd.R_mono (Kd.R_far (p := ⟨gb475, 3, none⟩) (Kd.R_far (p := ⟨gb475, 2, none⟩) (Kd.R_far (p := ⟨gb475, 1, none⟩) (Kd.R_far (p := ⟨gb475, 0, none⟩) (Kd.R_far (p := ⟨gb474, 3, none⟩) (Kd.R_far (p := ⟨gb474, 2, none⟩) (Kd.R_far (p := ⟨gb474, 1, none⟩) (Kd.R_far (p := ⟨gb474, 0, none⟩) (Kd.R_types (Kd.R_types HO_5.out BK474.out (by decide)) BK475.out (by decide)) (fun _ hk => hk.1.2) (.int .i64 t466)) (fun _ hk => hk.1.2) (.int .i64 t467)) (fun _ hk => hk.1.2) (.int .i64 t468)) (fun _ hk => hk.1.2) (.int .i64 t469)) (fun _ hk => hk.2) (.int .i64 t470)) (fun _ hk => hk.2) (.int .i64 t471)) (fun _ hk => hk.2) (.int .i64 t472)) (fun _ hk => hk.2) (.int .i64 t473)) (fun _ h_ => h_.1)) (fun _ h_ => h_.1))) hb); replace BK474 := Aside0.mk (blk_below (g := gb474) (o := .cells #[.int .i64 t466, .int .i64 t467, .int .i64 t468, .int .i64 t469] 77 (0, 0)) (by (with_reducible repeat (first | refine blk_drewN ?_ _ | refine blk_drew ?_ | refine blk_alloc ?_ _)); refine blk_far ?_ NB474_475.out _; (with_reducible repeat (first | refine blk_drewN ?_ _ | refine blk_drew ?_ | refine blk_alloc ?_ _)); refine blk_far ?_ NB474_475.out _; (with_reducible repeat (first | refine blk_drewN ?_ _ | refine blk_drew ?_ | refine blk_alloc ?_ _)); refine blk_far ?_ NB474_475.out _; (with_reducible repeat (first | refine blk_drewN ?_ _ | refine blk_drew ?_ | refine blk_alloc ?_ _)); refine blk_far ?_ NB474_475.out _; (with_reducible repeat (first | refine blk_drewN ?_ _ | refine blk_drew ?_ | refine blk_alloc ?_ _)); refine blk_put (cs := #[.int .i64 t466, .int .i64 t467, .int .i64 t468, .int .i64 0]) ?_ 3 _ rfl; (with_reducible repeat (first | refine blk_drewN ?_ _ | refine blk_drew ?_ | refine blk_alloc ?_ _)); refine blk_put (cs := #[.int .i64 t466, .int .i64 t467, .int .i64 0, .int .i64 0]) ?_ 2 _ rfl; (with_reducible repeat (first | refine blk_drewN ?_ _ | refine blk_drew ?_ | refine blk_alloc ?_ _)); refine blk_put (cs := #[.int .i64 t466, .int .i64 0, .int .i64 0, .int .i64 0]) ?_ 1 _ rfl; (with_reducible repeat (first | refine blk_drewN ?_ _ | refine blk_drew ?_ | refine blk_alloc ?_ _)); refine blk_put (cs := #[.int .i64 0, .int .i64 0, .int .i64 0, .int .i64 0]) ?_ 0 _ rfl; (with_reducible repeat (first | refine blk_drewN ?_ _ | refine blk_drew ?_ | refine blk_alloc ?_ _)); exact BK474.out) hb); replace BK475 := Aside0.mk (blk_below (g := gb475) (o := .cells #[.int .i64 t470, .int .i64 t471, .int .i64 t472, .int .i64 t473] 77 (0, 0)) (by (with_reducible repeat (first | refine blk_drewN ?_ _ | refine blk_drew ?_ | refine blk_alloc ?_ _)); refine blk_put (cs := #[.int .i64 t470, .int .i64 t471, .int .i64 t472, .int .i64 0]) ?_ 3 _ rfl; (with_reducible repeat (first | refine blk_drewN ?_ _ | refine blk_drew ?_ | refine blk_alloc ?_ _)); refine blk_put (cs := #[.int .i64 t470, .int .i64 t471, .int .i64 0, .int .i64 0]) ?_ 2 _ rfl; (with_reducible repeat (first | refine blk_drewN ?_ _ | refine blk_drew ?_ | refine blk_alloc ?_ _)); refine blk_put (cs := #[.int .i64 t470, .int .i64 0, .int .i64 0, .int .i64 0]) ?_ 1 _ rfl; (with_reducible repeat (first | refine blk_drewN ?_ _ | refine blk_drew ?_ | refine blk_alloc ?_ _)); refine blk_put (cs := #[.int .i64 0, .int .i64 0, .int .i64 0, .int .i64 0]) ?_ 0 _ rfl; (with_reducible repeat (first | refine blk_drewN ?_ _ | refine blk_drew ?_ | refine blk_alloc ?_ _)); refine blk_far ?_ NB475_474.out _; (with_reducible repeat (first | refine blk_drewN ?_ _ | refine blk_drew ?_ | refine blk_alloc ?_ _)); refine blk_far ?_ NB475_474.out _; (with_reducible repeat (first | refine blk_drewN ?_ _ | refine blk_drew ?_ | refine blk_alloc ?_ _)); refine blk_far ?_ NB475_474.out _; (with_reducible repeat (first | refine blk_drewN ?_ _ | refine blk_drew ?_ | refine blk_alloc ?_ _)); refine blk_far ?_ NB475_474.out _; (with_reducible repeat (first | refine blk_drewN ?_ _ | refine blk_drew ?_ | refine blk_alloc ?_ _)); exact BK475.out) hb); replace HB := Aside0.mk (below_step Hd.b_ hb); (try clear hb); (try clear hb2); (try clear hk); (try clear hi)) | (go_at_call 53; (with_reducible refine (impl_ArePlaces.calls k1 _ _ t438 true _ ?side1 ?side2 A147.out).mono ?_); (case side1 => repeat (first | exact (Kd.R_reads' HO_3.out).2.2 | (with_reducible refine Kd.C_alloc ?_ _) | (with_reducible refine Kd.C_drewN ?_ _) | (with_reducible refine Kd.C_drew ?_))); (case side2 => exact (Kd.R_reads' HO_3.out).2.1); rintro e w174 ⟨rfl, hb⟩; replace HO_3 := Aside0.mk (Kd.R_below (Hd.r_ HO_3) hb); replace HO_5 := Aside0.mk (Kd.R_below (Hd.r_ HO_5) hb); replace BK474 := Aside0.mk (Hd.kb_ BK474 hb); replace BK475 := Aside0.mk (Hd.kb_ BK475 hb); replace HB := Aside0.mk (below_step Hd.b_ hb); (try clear hb); (try clear hb2); (try clear hk); (try clear hi)))
            go_ret
            exact ⟨Hd.e_, Hd.b_⟩
         ·
          replace c148 := Bool.eq_false_iff.mpr c148
          subst c148
          have H1 : (some true) = some r := by rw [if_neg (show ¬ (false = true) by decide)] at H; exact H
          clear H
          have H := H1
          clear H1
          obtain rfl := Option.some.inj H
          go_wp2_with (first | ((with_reducible refine gate_callee (f := 52) rfl ?_); refine goesL_ (some 158) rfl rfl Try.func52 (by kernel_rfl) rfl #[.slice A0 l0.length c0] rfl Hd.m_ ?_; (with_reducible refine (spec_DrawIsAbove.calls k1 _ _ l0 t466 t467 t468 t469 t470 t471 t472 t473 _ ?side1 ?side2 A65.out).mono ?_); (case side1 => repeat (first | exact (Kd.C_below HR0.out HB.out) | (with_reducible refine Kd.C_alloc ?_ _) | (with_reducible refine Kd.C_drewN ?_ _) | (with_reducible refine Kd.C_drew ?_))); (case side2 => exact HC0.out); rintro e w175 ⟨rfl, hb⟩; refine ⟨_, rfl, ?_⟩; replace HO_3 := Aside0.mk (Kd.R_below (Hd.r_ HO_3) hb); replace HO_5 := Aside0.mk (Kd.R_below (Hd.r_ HO_5) hb); replace HB := Aside0.mk (below_step Hd.b_ hb); (try clear hb); (try clear hb2); (try clear hk); (try clear hi)) | ((with_reducible refine gate_dst (N := 10) rfl ?_); (try (refine gate_guard (by rfl) ?_; dsimp only)); refine Hd.box_ 10 (#[.int .i64 0, .int .i64 0, .int .i64 0, .int .i64 0]) 77 ?_; intro gb474 hg w176 hbox hb; replace HO_3 := Aside0.mk (Kd.R_below (Kd.R_elderB (Hd.r_ HO_3) gb474 (Nat.le_of_eq hg.symm)) hb); replace HO_5 := Aside0.mk (Kd.R_below (Hd.r_ HO_5) hb); have BK474 := Aside0.mk (hbox); have GW474 := Aside0.mk ((Hd.g_ hg Hd.b_ : w.heap.size ≤ gb474)); have GE474 := Aside0.mk ((Hd.g_ hg Hd.b_ : w.heap.size ≤ gb474)); replace HB := Aside0.mk (below_step Hd.b_ hb); clear hb hbox hg) | ((with_reducible refine gate_dst (N := 11) rfl ?_); (try (refine gate_guard (by rfl) ?_; dsimp only)); refine Hd.box_ 11 (#[.int .i64 0, .int .i64 0, .int .i64 0, .int .i64 0]) 77 ?_; intro gb475 hg w177 hbox hb; replace HO_3 := Aside0.mk (Kd.R_below (Kd.R_elderB (Hd.r_ HO_3) gb475 (Nat.le_of_eq hg.symm)) hb); replace HO_5 := Aside0.mk (Kd.R_below (Hd.r_ HO_5) hb); have BK475 := Aside0.mk (hbox); have GW475 := Aside0.mk ((Hd.g_ hg Hd.b_ : w.heap.size ≤ gb475)); have GE475 := Aside0.mk ((Hd.g_ hg Hd.b_ : w.heap.size ≤ gb475)); replace HB := Aside0.mk (below_step Hd.b_ hb); have NB474_475 := Aside0.mk ((Hd.lt_ BK474 hg)); have NB475_474 := Aside0.mk ((Hd.gt_ BK474 hg)); replace BK474 := Aside0.mk (Hd.kb_ BK474 hb); clear hb hbox hg; have hnb178 := NB474_475.out; have hnc178 := NB475_474.out; obtain ⟨hcz179_0, hcz179_1, hcz179_2, hcz179_3⟩ := Hd.c4_ BK474.out; obtain ⟨hfz179_0, hfz179_1, hfz179_2, hfz179_3⟩ := Hd.f4_ BK474.out; obtain ⟨hcz180_0, hcz180_1, hcz180_2, hcz180_3⟩ := Hd.c4_ BK475.out; obtain ⟨hfz180_0, hfz180_1, hfz180_2, hfz180_3⟩ := Hd.f4_ BK475.out) | ((with_reducible refine gate_callee (f := 50) rfl ?_); refine goesL_ (some 163) rfl rfl Try.func50 (by kernel_rfl) rfl #[.agg #[.int .i64 t466, .int .i64 t467, .int .i64 t468, .int .i64 t469], .agg #[.int .i64 t470, .int .i64 t471, .int .i64 t472, .int .i64 t473]] rfl Hd.m_ ?_; (with_reducible refine (impl_IsAbove.calls t466 t467 t468 t469 t470 t471 t472 t473 false _ A66.out).mono ?_); rintro e w181 ⟨rfl, hb⟩; refine ⟨_, rfl, ?_⟩; replace HO_3 := Aside0.mk (Kd.R_below (by (with_reducible repeat (first | apply Kd.R_alloc | apply Kd.R_drewN | apply Kd.R_drew)); exact (Kd.R_mono (Kd.R_mono (Kd.R_far (p := ⟨gb475, 3, none⟩) (Kd.R_far (p := ⟨gb475, 2, none⟩) (Kd.R_far (p := ⟨gb475, 1, none⟩) (Kd.R_far (p := ⟨gb475, 0, none⟩) (Kd.R_far (p := ⟨gb474, 3, none⟩) (Kd.R_far (p := ⟨gb474, 2, none⟩) (Kd.R_far (p := ⟨gb474, 1, none⟩) (Kd.R_far (p := ⟨gb474, 0, none⟩) (Kd.R_mono (Kd.R_mono HO_3.out (fun k_ hk => (⟨hk, hk.1.2⟩ : _ ∧ k_ ≠ gb474))) (fun k_ hk => (⟨hk, hk.1.2⟩ : _ ∧ k_ ≠ gb475))) (fun _ hk => hk.1.2) (.int .i64 t466)) (fun _ hk => hk.1.2) (.int .i64 t467)) (fun _ hk => hk.1.2) (.int .i64 t468)) (fun _ hk => hk.1.2) (.int .i64 t469)) (fun _ hk => hk.2) (.int .i64 t470)) (fun _ hk => hk.2) (.int .i64 t471)) (fun _ hk => hk.2) (.int .i64 t472)) (fun _ hk => hk.2) (.int .i64 t473)) (fun _ h_ => h_.1)) (fun _ h_ => h_.1))) hb); replace HO_5 := Aside0.mk (Kd.R_below (by (with_reducible repeat (first | apply Kd.R_alloc | apply Kd.R_drewN | apply Kd.R_drew)); exact (Kd.R_mono (Kd.R_mono (Kd.R_far (p := ⟨gb475, 3, none⟩) (Kd.R_far (p := ⟨gb475, 2, none⟩) (Kd.R_far (p := ⟨gb475, 1, none⟩) (Kd.R_far (p := ⟨gb475, 0, none⟩) (Kd.R_far (p := ⟨gb474, 3, none⟩) (Kd.R_far (p := ⟨gb474, 2, none⟩) (Kd.R_far (p := ⟨gb474, 1, none⟩) (Kd.R_far (p := ⟨gb474, 0, none⟩) (Kd.R_types (Kd.R_types HO_5.out BK474.out (by decide)) BK475.out (by decide)) (fun _ hk => hk.1.2) (.int .i64 t466)) (fun _ hk => hk.1.2) (.int .i64 t467)) (fun _ hk => hk.1.2) (.int .i64 t468)) (fun _ hk => hk.1.2) (.int .i64 t469)) (fun _ hk => hk.2) (.int .i64 t470)) (fun _ hk => hk.2) (.int .i64 t471)) (fun _ hk => hk.2) (.int .i64 t472)) (fun _ hk => hk.2) (.int .i64 t473)) (fun _ h_ => h_.1)) (fun _ h_ => h_.1))) hb); replace BK474 := Aside0.mk (blk_below (g := gb474) (o := .cells #[.int .i64 t466, .int .i64 t467, .int .i64 t468, .int .i64 t469] 77 (0, 0)) (by (with_reducible repeat (first | refine blk_drewN ?_ _ | refine blk_drew ?_ | refine blk_alloc ?_ _)); refine blk_far ?_ NB474_475.out _; (with_reducible repeat (first | refine blk_drewN ?_ _ | refine blk_drew ?_ | refine blk_alloc ?_ _)); refine blk_far ?_ NB474_475.out _; (with_reducible repeat (first | refine blk_drewN ?_ _ | refine blk_drew ?_ | refine blk_alloc ?_ _)); refine blk_far ?_ NB474_475.out _; (with_reducible repeat (first | refine blk_drewN ?_ _ | refine blk_drew ?_ | refine blk_alloc ?_ _)); refine blk_far ?_ NB474_475.out _; (with_reducible repeat (first | refine blk_drewN ?_ _ | refine blk_drew ?_ | refine blk_alloc ?_ _)); refine blk_put (cs := #[.int .i64 t466, .int .i64 t467, .int .i64 t468, .int .i64 0]) ?_ 3 _ rfl; (with_reducible repeat (first | refine blk_drewN ?_ _ | refine blk_drew ?_ | refine blk_alloc ?_ _)); refine blk_put (cs := #[.int .i64 t466, .int .i64 t467, .int .i64 0, .int .i64 0]) ?_ 2 _ rfl; (with_reducible repeat (first | refine blk_drewN ?_ _ | refine blk_drew ?_ | refine blk_alloc ?_ _)); refine blk_put (cs := #[.int .i64 t466, .int .i64 0, .int .i64 0, .int .i64 0]) ?_ 1 _ rfl; (with_reducible repeat (first | refine blk_drewN ?_ _ | refine blk_drew ?_ | refine blk_alloc ?_ _)); refine blk_put (cs := #[.int .i64 0, .int .i64 0, .int .i64 0, .int .i64 0]) ?_ 0 _ rfl; (with_reducible repeat (first | refine blk_drewN ?_ _ | refine blk_drew ?_ | refine blk_alloc ?_ _)); exact BK474.out) hb); replace BK475 := Aside0.mk (blk_below (g := gb475) (o := .cells #[.int .i64 t470, .int .i64 t471, .int .i64 t472, .int .i64 t473] 77 (0, 0)) (by (with_reducible repeat (first | refine blk_drewN ?_ _ | refine blk_drew ?_ | refine blk_alloc ?_ _)); refine blk_put (cs := #[.int .i64 t470, .int .i64 t471, .int .i64 t472, .int .i64 0]) ?_ 3 _ rfl; (with_reducible repeat (first | refine blk_drewN ?_ _ | refine blk_drew ?_ | refine blk_alloc ?_ _)); refine blk_put (cs := #[.int .i64 t470, .int .i64 t471, .int .i64 0, .int .i64 0]) ?_ 2 _ rfl; (with_reducible repeat (first | refine blk_drewN ?_ _ | refine blk_drew ?_ | refine blk_alloc ?_ _)); refine blk_put (cs := #[.int .i64 t470, .int .i64 0, .int .i64 0, .int .i64 0]) ?_ 1 _ rfl; (with_reducible repeat (first | refine blk_drewN ?_ _ | refine blk_drew ?_ | refine blk_alloc ?_ _)); refine blk_put (cs := #[.int .i64 0, .int .i64 0, .int .i64 0, .int .i64 0]) ?_ 0 _ rfl; (with_reducible repeat (first | refine blk_drewN ?_ _ | refine blk_drew ?_ | refine blk_alloc ?_ _)); refine blk_far ?_ NB475_474.out _; (with_reducible repeat (first | refine blk_drewN ?_ _ | refine blk_drew ?_ | refine blk_alloc ?_ _)); refine blk_far ?_ NB475_474.out _; (with_reducible repeat (first | refine blk_drewN ?_ _ | refine blk_drew ?_ | refine blk_alloc ?_ _)); refine blk_far ?_ NB475_474.out _; (with_reducible repeat (first | refine blk_drewN ?_ _ | refine blk_drew ?_ | refine blk_alloc ?_ _)); refine blk_far ?_ NB475_474.out _; (with_reducible repeat (first | refine blk_drewN ?_ _ | refine blk_drew ?_ | refine blk_alloc ?_ _)); exact BK475.out) hb); replace HB := Aside0.mk (below_step Hd.b_ hb); (try clear hb); (try clear hb2); (try clear hk); (try clear hi)) | (go_at_call 53; (with_reducible refine (impl_ArePlaces.calls k1 _ _ t438 false _ ?side1 ?side2 A147.out).mono ?_); (case side1 => repeat (first | exact (Kd.R_reads' HO_3.out).2.2 | (with_reducible refine Kd.C_alloc ?_ _) | (with_reducible refine Kd.C_drewN ?_ _) | (with_reducible refine Kd.C_drew ?_))); (case side2 => exact (Kd.R_reads' HO_3.out).2.1); rintro e w182 ⟨rfl, hb⟩; replace HO_3 := Aside0.mk (Kd.R_below (Hd.r_ HO_3) hb); replace HO_5 := Aside0.mk (Kd.R_below (Hd.r_ HO_5) hb); replace BK474 := Aside0.mk (Hd.kb_ BK474 hb); replace BK475 := Aside0.mk (Hd.kb_ BK475 hb); replace HB := Aside0.mk (below_step Hd.b_ hb); (try clear hb); (try clear hb2); (try clear hk); (try clear hi)))
          go_ret
          exact ⟨Hd.e_, Hd.b_⟩
   ·
    replace c9 := Bool.eq_false_iff.mpr c9
    subst c9
    have H1 : (some false) = some r := by rw [if_neg (show ¬ (false = true) by decide)] at H; exact H
    clear H
    have H := H1
    clear H1
    obtain rfl := Option.some.inj H
    go_enter Try.func9, Try.ntmps9
    go_wp2_with (first | ((with_reducible refine gate_callee (f := 21) rfl ?_); refine goesL_ (some 13) rfl rfl Try.func21 (by kernel_rfl) rfl #[.slice A0 l0.length c0] rfl Hd.m_ ?_; (with_reducible refine (laws_big.calls _ _ l0 false _ ?side1 ?side2 A2.out).mono ?_); (case side1 => repeat (first | exact HR0.out | (with_reducible refine Kd.C_alloc ?_ _) | (with_reducible refine Kd.C_drewN ?_ _) | (with_reducible refine Kd.C_drew ?_))); (case side2 => exact HC0.out); rintro e w' ⟨rfl, ⟨nd, rfl⟩⟩; refine ⟨_, rfl, ?_⟩) | ((with_reducible refine gate_callee (f := 47) rfl ?_); refine goesL_ (some 16) rfl rfl Try.func47 (by kernel_rfl) rfl #[.slice A0 l0.length c0] rfl Hd.m_ ?_; (with_reducible refine (spec_DrawThinPlaces.calls k _ _ l0 t438 t439 _ ?side1 ?side2 A4.out).mono ?_); (case side1 => repeat (first | exact HR0.out | (with_reducible refine Kd.C_alloc ?_ _) | (with_reducible refine Kd.C_drewN ?_ _) | (with_reducible refine Kd.C_drew ?_))); (case side2 => exact HC0.out); rintro e w183 ⟨v440, rfl, ho0, hb⟩; refine ⟨_, rfl, ?_⟩; have HO441 := Aside0.mk (Kd.R_lower ho0 (below_size Hd.b_)); replace HB := Aside0.mk (below_step Hd.b_ hb); (try clear hb); (try clear hb2); (try clear hk); (try clear hi); (try clear ho0); obtain ⟨Ao184, co184, eo184⟩ := Kd.R_slice HO441.out; subst eo184) | ((with_reducible refine gate_callee (f := 42) rfl ?_); refine goesL_ (some 21) rfl rfl Try.func42 (by kernel_rfl) rfl #[.slice Ao184 t438.length co184, .int .i64 t439] rfl Hd.m_ ?_; (with_reducible refine (impl_ThinPlaces.calls k _ _ t438 t439 t442 _ ?side1 ?side2 A5.out).mono ?_); (case side1 => repeat (first | exact (Kd.R_reads' HO441.out).2.2 | (with_reducible refine Kd.C_alloc ?_ _) | (with_reducible refine Kd.C_drewN ?_ _) | (with_reducible refine Kd.C_drew ?_))); (case side2 => exact (Kd.R_reads' HO441.out).2.1); rintro e w185 ⟨v443, rfl, ho0, hb⟩; refine ⟨_, rfl, ?_⟩; replace HO441 := Aside0.mk (Kd.R_below (Hd.r_ HO441) hb); have HO444 := Aside0.mk (Kd.R_lower ho0 (below_size Hd.b_)); replace HB := Aside0.mk (below_step Hd.b_ hb); (try clear hb); (try clear hb2); (try clear hk); (try clear hi); (try clear ho0); obtain ⟨Ao186, co186, eo186⟩ := Kd.R_slice HO444.out; subst eo186) | ((with_reducible refine gate_callee (f := 41) rfl ?_); refine goesL_ (some 26) rfl rfl Try.func41 (by kernel_rfl) rfl #[.slice Ao184 t438.length co184, .int .i64 t439] rfl Hd.m_ ?_; (with_reducible refine (spec_ThinPlaces.calls k _ _ t438 t439 t445 _ ?side1 ?side2 A6.out).mono ?_); (case side1 => repeat (first | exact (Kd.R_reads' HO441.out).2.2 | (with_reducible refine Kd.C_alloc ?_ _) | (with_reducible refine Kd.C_drewN ?_ _) | (with_reducible refine Kd.C_drew ?_))); (case side2 => exact (Kd.R_reads' HO441.out).2.1); rintro e w187 ⟨v446, rfl, ho0, hb⟩; refine ⟨_, rfl, ?_⟩; replace HO441 := Aside0.mk (Kd.R_below (Hd.r_ HO441) hb); have HO447 := Aside0.mk (Kd.R_lower (Kd.R_new' ho0 (Kd.R_lt (Hd.r_ HO444))) (below_size Hd.b_)); replace HO444 := Aside0.mk (Kd.R_elder' (Hd.r_ HO444) (Kd.R_base ho0) hb); replace HB := Aside0.mk (below_step Hd.b_ hb); (try clear hb); (try clear hb2); (try clear hk); (try clear hi); (try clear ho0); obtain ⟨Ao188, co188, eo188⟩ := Kd.R_slice HO447.out; subst eo188) | ((with_reducible refine gate_callee (f := 48) rfl ?_); refine goesL_ (some 30) rfl rfl Try.func48 (by kernel_rfl) rfl #[.slice Ao186 t442.length co186] rfl Hd.m_ ?_; (with_reducible refine (laws_ascends.calls k _ _ t442 false _ ?side1 ?side2 A8.out).mono ?_); (case side1 => repeat (first | exact (Kd.R_reads' HO444.out).2.2 | (with_reducible refine Kd.C_alloc ?_ _) | (with_reducible refine Kd.C_drewN ?_ _) | (with_reducible refine Kd.C_drew ?_))); (case side2 => exact (Kd.R_reads' HO444.out).2.1); rintro e w' ⟨rfl, ⟨nd, rfl⟩⟩; refine ⟨_, rfl, ?_⟩))
    go_ret
    exact ⟨Hd.e_, Hd.b_⟩
  ·
   rw [if_neg c7] at H
   have c7b0 : ((t442.length : Int) == (t445.length : Int)) = false := beq_eq_false_iff_ne.mpr c7
   have c7b1 : ((t442.length : Int) != (t445.length : Int)) = true := bne_iff_ne.mpr c7
   have c7b2 : (t442.length == t445.length) = false := by first | simpa using c7 | (simp at c7 ⊢; omega)
   obtain rfl := Option.some.inj H
   go_enter Try.func9, Try.ntmps9
   go_wp2_with (first | ((with_reducible refine gate_callee (f := 21) rfl ?_); refine goesL_ (some 13) rfl rfl Try.func21 (by kernel_rfl) rfl #[.slice A0 l0.length c0] rfl Hd.m_ ?_; (with_reducible refine (laws_big.calls _ _ l0 false _ ?side1 ?side2 A2.out).mono ?_); (case side1 => repeat (first | exact HR0.out | (with_reducible refine Kd.C_alloc ?_ _) | (with_reducible refine Kd.C_drewN ?_ _) | (with_reducible refine Kd.C_drew ?_))); (case side2 => exact HC0.out); rintro e w' ⟨rfl, ⟨nd, rfl⟩⟩; refine ⟨_, rfl, ?_⟩) | ((with_reducible refine gate_callee (f := 47) rfl ?_); refine goesL_ (some 16) rfl rfl Try.func47 (by kernel_rfl) rfl #[.slice A0 l0.length c0] rfl Hd.m_ ?_; (with_reducible refine (spec_DrawThinPlaces.calls k _ _ l0 t438 t439 _ ?side1 ?side2 A4.out).mono ?_); (case side1 => repeat (first | exact HR0.out | (with_reducible refine Kd.C_alloc ?_ _) | (with_reducible refine Kd.C_drewN ?_ _) | (with_reducible refine Kd.C_drew ?_))); (case side2 => exact HC0.out); rintro e w189 ⟨v440, rfl, ho0, hb⟩; refine ⟨_, rfl, ?_⟩; have HO441 := Aside0.mk (Kd.R_lower ho0 (below_size Hd.b_)); replace HB := Aside0.mk (below_step Hd.b_ hb); (try clear hb); (try clear hb2); (try clear hk); (try clear hi); (try clear ho0); obtain ⟨Ao190, co190, eo190⟩ := Kd.R_slice HO441.out; subst eo190) | ((with_reducible refine gate_callee (f := 42) rfl ?_); refine goesL_ (some 21) rfl rfl Try.func42 (by kernel_rfl) rfl #[.slice Ao190 t438.length co190, .int .i64 t439] rfl Hd.m_ ?_; (with_reducible refine (impl_ThinPlaces.calls k _ _ t438 t439 t442 _ ?side1 ?side2 A5.out).mono ?_); (case side1 => repeat (first | exact (Kd.R_reads' HO441.out).2.2 | (with_reducible refine Kd.C_alloc ?_ _) | (with_reducible refine Kd.C_drewN ?_ _) | (with_reducible refine Kd.C_drew ?_))); (case side2 => exact (Kd.R_reads' HO441.out).2.1); rintro e w191 ⟨v443, rfl, ho0, hb⟩; refine ⟨_, rfl, ?_⟩; replace HO441 := Aside0.mk (Kd.R_below (Hd.r_ HO441) hb); have HO444 := Aside0.mk (Kd.R_lower ho0 (below_size Hd.b_)); replace HB := Aside0.mk (below_step Hd.b_ hb); (try clear hb); (try clear hb2); (try clear hk); (try clear hi); (try clear ho0); obtain ⟨Ao192, co192, eo192⟩ := Kd.R_slice HO444.out; subst eo192) | ((with_reducible refine gate_callee (f := 41) rfl ?_); refine goesL_ (some 26) rfl rfl Try.func41 (by kernel_rfl) rfl #[.slice Ao190 t438.length co190, .int .i64 t439] rfl Hd.m_ ?_; (with_reducible refine (spec_ThinPlaces.calls k _ _ t438 t439 t445 _ ?side1 ?side2 A6.out).mono ?_); (case side1 => repeat (first | exact (Kd.R_reads' HO441.out).2.2 | (with_reducible refine Kd.C_alloc ?_ _) | (with_reducible refine Kd.C_drewN ?_ _) | (with_reducible refine Kd.C_drew ?_))); (case side2 => exact (Kd.R_reads' HO441.out).2.1); rintro e w193 ⟨v446, rfl, ho0, hb⟩; refine ⟨_, rfl, ?_⟩; replace HO441 := Aside0.mk (Kd.R_below (Hd.r_ HO441) hb); have HO447 := Aside0.mk (Kd.R_lower (Kd.R_new' ho0 (Kd.R_lt (Hd.r_ HO444))) (below_size Hd.b_)); replace HO444 := Aside0.mk (Kd.R_elder' (Hd.r_ HO444) (Kd.R_base ho0) hb); replace HB := Aside0.mk (below_step Hd.b_ hb); (try clear hb); (try clear hb2); (try clear hk); (try clear hi); (try clear ho0); obtain ⟨Ao194, co194, eo194⟩ := Kd.R_slice HO447.out; subst eo194))
   go_ret
   exact ⟨Hd.e_, Hd.b_⟩
end Go.Proofs.Ytbackoeakepngab.MFnThinned
