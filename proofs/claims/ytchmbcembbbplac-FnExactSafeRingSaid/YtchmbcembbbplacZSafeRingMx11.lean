-- Laid by this session's program pp.py, after the kit's print and texts of the session's own. Not trusted: Lean checks it.
import Derived.Test.YtchmbcembbbplacZSafeRingMx0
import Derived.Test.YtchmbcembbbplacZSafeRingMx7
import Derived.Test.YtchmbcembbbplacZSafeRingMx10
namespace Go.Proofs.Ytchmbcembbbplac.MFnExactSafeRing
open Go.RowKit Go.Proofs.YtchmbcembbbplacW.PrintWords Go.Proofs.YtchmbcembbbplacW.PrintLast Go.Proofs.YtchmbcembbbplacW.PrintMore
attribute [local go_sem] max2_int min2_int max_two min_two max_three min_three max_four min_four   -- for this text's walks alone
set_option linter.unusedVariables false
set_option linter.unusedSimpArgs false
def spec_DropCorner.j0 : Nat → List (S49) → Int → Bool → Option ((List (S49)) × Bool)
 | 0, _, _, _ => none
 | k + 1, x0, x1, x17 => if x17 = true then ((some (([] : List (S49)) : List (S49))).bind fun y359 => (if y359.length + x0.length < 8796093022208 then (some ((y359 ++ x0), false)) else (none))) else ((some (([] : List (S49)) : List (S49))).bind fun y365 => (if 0 ≤ x1 then (if x1 ≤ (x0.length : Int) then ((some (x0.take (x1 : Int).toNat : List (S49))).bind fun y368 => (if y365.length + y368.length < 8796093022208 then ((some (y365 ++ y368 : List (S49))).bind fun y372 => (if 0 ≤ (wrap64 (x1 + 1)) then (if (wrap64 (x1 + 1)) ≤ (x0.length : Int) then ((some (x0.drop ((wrap64 (x1 + 1)) : Int).toNat : List (S49))).bind fun y375 => (if y372.length + y375.length < 8796093022208 then ((some (y372 ++ y375 : List (S49))).bind fun y379 => ((spec_IsRing.f k y379).bind fun t382 => (if t382 = true then ((spec_SameTurn.f k x0 y379).bind fun t383 => (if t383 = true then (some (y379, true)) else ((some (([] : List (S49)) : List (S49))).bind fun y384 => (if y384.length + x0.length < 8796093022208 then (some ((y384 ++ x0), false)) else (none))))) else ((some (([] : List (S49)) : List (S49))).bind fun y390 => (if y390.length + x0.length < 8796093022208 then (some ((y390 ++ x0), false)) else (none)))))) else (none))) else (none)) else (none))) else (none))) else (none)) else (none)))
def spec_DropCorner.f (k : Nat) (l0 : List (S49)) (a1 : Int) : Option ((List (S49)) × Bool) := (spec_IsRing.f k l0).bind fun t357 => (if t357 = true then ((spec_l1In.f a1 0 (wrap64 ((l0.length : Int) - 1))).bind fun t358 => (spec_DropCorner.j0 k l0 a1 (!t358))) else (spec_DropCorner.j0 k l0 a1 true))
def spec_DropCorner.T3 : Bool × List (List Nat × List Nat) := (true, [([], []), ([], []), ([], []), ([1, 2], [1, 2]), ([0, 3], [0, 3]), ([], []), ([], []), ([6], [6]), ([5, 7], [5, 7]), ([4, 8, 4], [4, 8]), ([9, 9, 0, 1, 2, 3, 4, 5, 6, 7, 8, 9], [9])])
def spec_DropCorner.B3 : List Nat := [0, 0, 0, 6, 15, 0, 0, 64, 224, 511, 1023]
theorem spec_DropCorner.tab3 : rtab .any (opsOf Try.f28 3) = spec_DropCorner.T3 := by kernel_rfl
theorem spec_DropCorner.bits3 : waitsOk spec_DropCorner.T3.2 spec_DropCorner.B3 = true := by kernel_rfl
set_option maxHeartbeats 8000000 in
set_option maxRecDepth 100000 in
theorem spec_DropCorner.calls (k : Nat) (A0 : Option Addr) (c0 : Nat) (l0 : List (S49)) (a1 : Int) (r1 : List (S49)) (r2 : Bool) (w : World) (hr0 : Kd.C k49 w A0 l0.length l0) (hc0 : l0.length ≤ c0) (h : spec_DropCorner.f k l0 a1 = some (r1, r2)) :
  Calls Try.prog 28 #[.slice A0 l0.length c0, .int .i64 a1] w fun e w' => ∃ v0_ : Value, e = .returned (.tuple #[v0_, .bool r2]) ∧ Kd.R k49 49 w' w.heap.size (fun _ => True) v0_ r1 ∧ Below w.heap.size w w' := by
 have HR0 := Aside0.mk hr0
 have HC0 := Aside0.mk hc0
 clear hr0 hc0
 have HB := Aside0.mk (Below.refl w.heap.size w)
 have H : ((spec_IsRing.f k l0).bind fun t357 => (if t357 = true then ((spec_l1In.f a1 0 (wrap64 ((l0.length : Int) - 1))).bind fun t358 => (spec_DropCorner.j0 k l0 a1 (!t358))) else (spec_DropCorner.j0 k l0 a1 true))) = some (r1, r2) := h
 clear h
 have HC3 := Aside0.mk H
 clear H
 go_enter Try.func28, Try.ntmps28
 go_upto_region 1 with (fail)
 go_cut [17] (fun v17 wc => ∃ (kq : Nat) (x17_2 : Bool), v17 = .bool x17_2 ∧ Aside0 (spec_DropCorner.j0 kq l0 a1 x17_2 = some (r1, r2)) ∧ Aside0 (kq ≤ k) ∧ Aside0 (Below w.heap.size w wc))
 case first =>
  have H := HC3.out
  clear HC3
  replace H := Option.bind_eq_some_iff.mp H
  obtain ⟨t357, A40, H⟩ := H
  replace H : (if t357 = true then ((spec_l1In.f a1 0 (wrap64 ((l0.length : Int) - 1))).bind fun t358 => (spec_DropCorner.j0 k l0 a1 (!t358))) else (spec_DropCorner.j0 k l0 a1 true)) = some (r1, r2) := H
  have A4 := Aside0.mk A40
  clear A40
  by_cases c5 : t357 = true
  ·
   subst c5
   have H1 : ((spec_l1In.f a1 0 (wrap64 ((l0.length : Int) - 1))).bind fun t358 => (spec_DropCorner.j0 k l0 a1 (!t358))) = some (r1, r2) := by rw [if_pos rfl] at H; exact H
   clear H
   have H := H1
   clear H1
   replace H := Option.bind_eq_some_iff.mp H
   obtain ⟨t358, A60, H⟩ := H
   replace H : (spec_DropCorner.j0 k l0 a1 (!t358)) = some (r1, r2) := H
   have A6 := Aside0.mk A60
   clear A60
   have H' := Aside0.mk H
   clear H
   go_wp2_with (first | ((with_reducible refine gate_callee (f := 82) rfl ?_); refine goesL_ (some 8) rfl rfl Try.func82 (by kernel_rfl) rfl #[.slice A0 l0.length c0] rfl Hd.m_ ?_; (with_reducible refine (spec_IsRing.calls k _ _ l0 true _ ?side1 ?side2 A4.out).mono ?_); (case side1 => repeat (first | exact (Kd.C_below HR0.out HB.out) | (with_reducible refine Kd.C_alloc ?_ _) | (with_reducible refine Kd.C_drewN ?_ _) | (with_reducible refine Kd.C_drew ?_))); (case side2 => exact HC0.out); rintro e w7 ⟨rfl, hb⟩; refine ⟨_, rfl, ?_⟩; replace HB := Aside0.mk (below_step Hd.b_ hb); (try clear hb); (try clear hb2); (try clear hk); (try clear hi)) | (go_at_call 83; (with_reducible refine (spec_l1In.calls a1 0 (wrap64 ((l0.length : Int) - 1)) t358 _ A6.out).mono ?_); rintro e w' ⟨rfl, ⟨nd, rfl⟩⟩))
   go_meet
   case rel => exact ⟨_, (!t358), (by first | rfl | (simp; done) | (simp [*]; done)), H', ⟨by first | omega | exact Nat.le_refl _⟩, ⟨Hd.b_⟩⟩
  ·
   replace c5 := Bool.eq_false_iff.mpr c5
   subst c5
   have H1 : (spec_DropCorner.j0 k l0 a1 true) = some (r1, r2) := by rw [if_neg (show ¬ (false = true) by decide)] at H; exact H
   clear H
   have H := H1
   clear H1
   have H' := Aside0.mk H
   clear H
   go_wp2_with (first | ((with_reducible refine gate_callee (f := 82) rfl ?_); refine goesL_ (some 8) rfl rfl Try.func82 (by kernel_rfl) rfl #[.slice A0 l0.length c0] rfl Hd.m_ ?_; (with_reducible refine (spec_IsRing.calls k _ _ l0 false _ ?side1 ?side2 A4.out).mono ?_); (case side1 => repeat (first | exact (Kd.C_below HR0.out HB.out) | (with_reducible refine Kd.C_alloc ?_ _) | (with_reducible refine Kd.C_drewN ?_ _) | (with_reducible refine Kd.C_drew ?_))); (case side2 => exact HC0.out); rintro e w8 ⟨rfl, hb⟩; refine ⟨_, rfl, ?_⟩; replace HB := Aside0.mk (below_step Hd.b_ hb); (try clear hb); (try clear hb2); (try clear hk); (try clear hi)))
   go_meet
   case rel => exact ⟨_, (true), (by first | rfl | (simp; done) | (simp [*]; done)), H', ⟨by first | omega | exact Nat.le_refl _⟩, ⟨Hd.b_⟩⟩
 case rest =>
  clear HC3
  try clear c2
  try clear p2
  try clear c5
  try clear p6
  try clear c8
  obtain ⟨kq, x17_2, rfl, HA, HJ2, HB⟩ := hcut
  cases kq with
  | zero => exact absurd HA.out (by simp [spec_DropCorner.j0])
  | succ kj2 =>
   have H := HA.out
   clear HA
   simp only [spec_DropCorner.j0] at H
   by_cases c9 : x17_2 = true
   ·
    subst c9
    have H1 : ((some (([] : List (S49)) : List (S49))).bind fun y359 => (if y359.length + l0.length < 8796093022208 then (some ((y359 ++ l0), false)) else (none))) = some (r1, r2) := by rw [if_pos rfl] at H; exact H
    clear H
    have H := H1
    clear H1
    obtain ⟨y359, hy359⟩ : ∃ y_ : List (S49), y_ = (([] : List (S49))) := ⟨_, rfl⟩
    replace H : (if y359.length + l0.length < 8796093022208 then (some ((y359 ++ l0), false)) else (none)) = some (r1, r2) := by first | (rw [hy359]; with_reducible exact H) | (have H2_ := (Option.bind_some _ _).symm.trans H; rw [hy359]; with_reducible exact H2_) | (have H2_ := (Option.bind_some _ _).symm.trans H; with_reducible exact H2_) | with_reducible exact H | (rw [hy359]; exact H) | exact H
    have Ny359 := Aside0.mk hy359
    clear hy359
    by_cases c10 : y359.length + l0.length < 8796093022208
    ·
     rw [if_pos c10] at H
     have LMc10 := Aside0.mk c10
     clear c10
     obtain ⟨y362, hy362⟩ : ∃ y_ : List (S49), y_ = (y359 ++ l0) := ⟨_, rfl⟩
     replace H : (some (y362, false)) = some (r1, r2) := by first | (rw [hy362]; with_reducible exact H) | (have H2_ := (Option.bind_some _ _).symm.trans H; rw [hy362]; with_reducible exact H2_) | (have H2_ := (Option.bind_some _ _).symm.trans H; with_reducible exact H2_) | with_reducible exact H | (rw [hy362]; exact H) | exact H
     have Ny362 := Aside0.mk hy362
     clear hy362
     simp only [Option.some.injEq, Prod.mk.injEq] at H
     obtain ⟨rfl, rfl⟩ := H
     go_wp2_with (first | ((with_reducible refine gate_dst (N := 18) rfl ?_); (try (refine gate_guard (by rfl) ?_; dsimp only)); refine Kd.R_lit k49 _ 49 ?hg (N := 18) ?hd (xs := ([] : List (S49))) (inner := []) (ok := fun _ => True) (okp := fun _ => True) ?hr ?hp (fun _ hk => hk) trivial (Below.refl _ _) (Nat.le_refl _) (by simp) ?_; (case hd => rfl); (case hg => rfl); (case hr => first | (go_simp; done) | (go_simp; rfl)); (case hp => exact (Reps.none _ _)); intro v360 w11 ho12 hb hg_ hnew_; clear hg_ hnew_; (first | rw [← Ny359.out] at ho12 | (simp only [Int.reduceToNat] at ho12; rw [← Ny359.out] at ho12)); have HO361 := Aside0.mk (Kd.R_lower ho12 (below_size Hd.b_)); replace HB := Aside0.mk (below_step Hd.b_ hb); clear hb ho12) | ((with_reducible refine gate_builtin (b := .append) (xs := #[.tmp 18, .tmp 19]) rfl ?_); (try (refine gate_guard (by rfl) ?_; dsimp only)); at_builtin; refine Kd.R_append_rows k49 (w0 := w) w.heap.size rfl (.tmp 18) (.tmp 19) 28 49 (.agg #[(.int .i64 0), (.int .i64 0)]) 16 rfl Try.underlying28 info49 rfl (by decide) (by omega) v360 y359 l0 _ _ _ (fun _ => True) (fun _ => False) rfl rfl ?aO ?aR (fun _ _ h => h) (fun _ h => h.elim) ?aF ?aB ?aS ?aL ?_; (case aR => repeat (first | exact (Kd.C_below HR0.out HB.out) | (with_reducible refine Kd.C_alloc ?_ _) | (with_reducible refine Kd.C_drewN ?_ _) | (with_reducible refine Kd.C_drew ?_))); (case aB => exact Hd.b_); (case aF => exact (fun _ _ => trivial)); (case aO => exact (Hd.r_ HO361)); (case aS => exact (below_size Hd.b_)); (case aL => have := LMc10.out; omega); intro v363 w13 ho hb hg hat; rw [← Ny362.out] at ho; have n0_ := Aside0.mk (hb); have n1_ := Aside0.mk (ho); clear HB; clear HO361; have HB := n0_; have HO364 := n1_; clear n0_ n1_; clear ho hb hg hat))
     go_ret2
     exact ⟨_, Hd.e_, by (with_reducible repeat (first | apply Kd.R_alloc | apply Kd.R_drewN | apply Kd.R_drew)); exact HO364.out, Hd.b_⟩
    ·
     rw [if_neg c10] at H
     exact absurd H (by simp)
   ·
    replace c9 := Bool.eq_false_iff.mpr c9
    subst c9
    have H1 : ((some (([] : List (S49)) : List (S49))).bind fun y365 => (if 0 ≤ a1 then (if a1 ≤ (l0.length : Int) then ((some (l0.take (a1 : Int).toNat : List (S49))).bind fun y368 => (if y365.length + y368.length < 8796093022208 then ((some (y365 ++ y368 : List (S49))).bind fun y372 => (if 0 ≤ (wrap64 (a1 + 1)) then (if (wrap64 (a1 + 1)) ≤ (l0.length : Int) then ((some (l0.drop ((wrap64 (a1 + 1)) : Int).toNat : List (S49))).bind fun y375 => (if y372.length + y375.length < 8796093022208 then ((some (y372 ++ y375 : List (S49))).bind fun y379 => ((spec_IsRing.f kj2 y379).bind fun t382 => (if t382 = true then ((spec_SameTurn.f kj2 l0 y379).bind fun t383 => (if t383 = true then (some (y379, true)) else ((some (([] : List (S49)) : List (S49))).bind fun y384 => (if y384.length + l0.length < 8796093022208 then (some ((y384 ++ l0), false)) else (none))))) else ((some (([] : List (S49)) : List (S49))).bind fun y390 => (if y390.length + l0.length < 8796093022208 then (some ((y390 ++ l0), false)) else (none)))))) else (none))) else (none)) else (none))) else (none))) else (none)) else (none))) = some (r1, r2) := by rw [if_neg (show ¬ (false = true) by decide)] at H; exact H
    clear H
    have H := H1
    clear H1
    obtain ⟨y365, hy365⟩ : ∃ y_ : List (S49), y_ = (([] : List (S49))) := ⟨_, rfl⟩
    replace H : (if 0 ≤ a1 then (if a1 ≤ (l0.length : Int) then ((some (l0.take (a1 : Int).toNat : List (S49))).bind fun y368 => (if y365.length + y368.length < 8796093022208 then ((some (y365 ++ y368 : List (S49))).bind fun y372 => (if 0 ≤ (wrap64 (a1 + 1)) then (if (wrap64 (a1 + 1)) ≤ (l0.length : Int) then ((some (l0.drop ((wrap64 (a1 + 1)) : Int).toNat : List (S49))).bind fun y375 => (if y372.length + y375.length < 8796093022208 then ((some (y372 ++ y375 : List (S49))).bind fun y379 => ((spec_IsRing.f kj2 y379).bind fun t382 => (if t382 = true then ((spec_SameTurn.f kj2 l0 y379).bind fun t383 => (if t383 = true then (some (y379, true)) else ((some (([] : List (S49)) : List (S49))).bind fun y384 => (if y384.length + l0.length < 8796093022208 then (some ((y384 ++ l0), false)) else (none))))) else ((some (([] : List (S49)) : List (S49))).bind fun y390 => (if y390.length + l0.length < 8796093022208 then (some ((y390 ++ l0), false)) else (none)))))) else (none))) else (none)) else (none))) else (none))) else (none)) else (none)) = some (r1, r2) := by first | (rw [hy365]; with_reducible exact H) | (have H2_ := (Option.bind_some _ _).symm.trans H; rw [hy365]; with_reducible exact H2_) | (have H2_ := (Option.bind_some _ _).symm.trans H; with_reducible exact H2_) | with_reducible exact H | (rw [hy365]; exact H) | exact H
    have Ny365 := Aside0.mk hy365
    clear hy365
    by_cases c14 : 0 ≤ a1
    ·
     rw [if_pos c14] at H
     have c14b0 := eq_true c14
     have c14b1 : decide (0 ≤ a1) = true := decide_eq_true c14
     clear c14
     by_cases c15 : a1 ≤ (l0.length : Int)
     ·
      rw [if_pos c15] at H
      have c15b0 := eq_true c15
      have c15b1 : decide (a1 ≤ (l0.length : Int)) = true := decide_eq_true c15
      clear c15
      obtain ⟨y368, hy368⟩ : ∃ y_ : List (S49), y_ = (l0.take (a1 : Int).toNat) := ⟨_, rfl⟩
      replace H : (if y365.length + y368.length < 8796093022208 then ((some (y365 ++ y368 : List (S49))).bind fun y372 => (if 0 ≤ (wrap64 (a1 + 1)) then (if (wrap64 (a1 + 1)) ≤ (l0.length : Int) then ((some (l0.drop ((wrap64 (a1 + 1)) : Int).toNat : List (S49))).bind fun y375 => (if y372.length + y375.length < 8796093022208 then ((some (y372 ++ y375 : List (S49))).bind fun y379 => ((spec_IsRing.f kj2 y379).bind fun t382 => (if t382 = true then ((spec_SameTurn.f kj2 l0 y379).bind fun t383 => (if t383 = true then (some (y379, true)) else ((some (([] : List (S49)) : List (S49))).bind fun y384 => (if y384.length + l0.length < 8796093022208 then (some ((y384 ++ l0), false)) else (none))))) else ((some (([] : List (S49)) : List (S49))).bind fun y390 => (if y390.length + l0.length < 8796093022208 then (some ((y390 ++ l0), false)) else (none)))))) else (none))) else (none)) else (none))) else (none)) = some (r1, r2) := by first | (rw [hy368]; with_reducible exact H) | (have H2_ := (Option.bind_some _ _).symm.trans H; rw [hy368]; with_reducible exact H2_) | (have H2_ := (Option.bind_some _ _).symm.trans H; with_reducible exact H2_) | with_reducible exact H | (rw [hy368]; exact H) | exact H
      have Ny368 := Aside0.mk hy368
      clear hy368
      by_cases c16 : y365.length + y368.length < 8796093022208
      ·
       rw [if_pos c16] at H
       have LMc16 := Aside0.mk c16
       clear c16
       obtain ⟨y372, hy372⟩ : ∃ y_ : List (S49), y_ = (y365 ++ y368) := ⟨_, rfl⟩
       replace H : (if 0 ≤ (wrap64 (a1 + 1)) then (if (wrap64 (a1 + 1)) ≤ (l0.length : Int) then ((some (l0.drop ((wrap64 (a1 + 1)) : Int).toNat : List (S49))).bind fun y375 => (if y372.length + y375.length < 8796093022208 then ((some (y372 ++ y375 : List (S49))).bind fun y379 => ((spec_IsRing.f kj2 y379).bind fun t382 => (if t382 = true then ((spec_SameTurn.f kj2 l0 y379).bind fun t383 => (if t383 = true then (some (y379, true)) else ((some (([] : List (S49)) : List (S49))).bind fun y384 => (if y384.length + l0.length < 8796093022208 then (some ((y384 ++ l0), false)) else (none))))) else ((some (([] : List (S49)) : List (S49))).bind fun y390 => (if y390.length + l0.length < 8796093022208 then (some ((y390 ++ l0), false)) else (none)))))) else (none))) else (none)) else (none)) = some (r1, r2) := by first | (rw [hy372]; with_reducible exact H) | (have H2_ := (Option.bind_some _ _).symm.trans H; rw [hy372]; with_reducible exact H2_) | (have H2_ := (Option.bind_some _ _).symm.trans H; with_reducible exact H2_) | with_reducible exact H | (rw [hy372]; exact H) | exact H
       have Ny372 := Aside0.mk hy372
       clear hy372
       obtain ⟨ji17, hji17⟩ : ∃ j_ : Int, (wrap64 (a1 + 1)) = j_ := ⟨_, rfl⟩
       replace H : (if 0 ≤ (ji17) then (if (ji17) ≤ (l0.length : Int) then ((some (l0.drop ((ji17) : Int).toNat : List (S49))).bind fun y375 => (if y372.length + y375.length < 8796093022208 then ((some (y372 ++ y375 : List (S49))).bind fun y379 => ((spec_IsRing.f kj2 y379).bind fun t382 => (if t382 = true then ((spec_SameTurn.f kj2 l0 y379).bind fun t383 => (if t383 = true then (some (y379, true)) else ((some (([] : List (S49)) : List (S49))).bind fun y384 => (if y384.length + l0.length < 8796093022208 then (some ((y384 ++ l0), false)) else (none))))) else ((some (([] : List (S49)) : List (S49))).bind fun y390 => (if y390.length + l0.length < 8796093022208 then (some ((y390 ++ l0), false)) else (none)))))) else (none))) else (none)) else (none)) = some (r1, r2) := by first | (rw [hji17] at H; exact H) | (simp only [hji17] at H ⊢; exact H)
       have hji17w : (IntKind.i64.wrap (a1 + 1)) = ji17 := (i64_w _).trans hji17
       by_cases c18 : 0 ≤ (ji17)
       ·
        rw [if_pos c18] at H
        have c18b0 := eq_true c18
        have c18b1 : decide (0 ≤ (ji17)) = true := decide_eq_true c18
        clear c18
        by_cases c19 : (ji17) ≤ (l0.length : Int)
        ·
         rw [if_pos c19] at H
         have c19b0 := eq_true c19
         have c19b1 : decide ((ji17) ≤ (l0.length : Int)) = true := decide_eq_true c19
         clear c19
         obtain ⟨y375, hy375⟩ : ∃ y_ : List (S49), y_ = (l0.drop ((ji17) : Int).toNat) := ⟨_, rfl⟩
         replace H : (if y372.length + y375.length < 8796093022208 then ((some (y372 ++ y375 : List (S49))).bind fun y379 => ((spec_IsRing.f kj2 y379).bind fun t382 => (if t382 = true then ((spec_SameTurn.f kj2 l0 y379).bind fun t383 => (if t383 = true then (some (y379, true)) else ((some (([] : List (S49)) : List (S49))).bind fun y384 => (if y384.length + l0.length < 8796093022208 then (some ((y384 ++ l0), false)) else (none))))) else ((some (([] : List (S49)) : List (S49))).bind fun y390 => (if y390.length + l0.length < 8796093022208 then (some ((y390 ++ l0), false)) else (none)))))) else (none)) = some (r1, r2) := by first | (rw [hy375]; with_reducible exact H) | (have H2_ := (Option.bind_some _ _).symm.trans H; rw [hy375]; with_reducible exact H2_) | (have H2_ := (Option.bind_some _ _).symm.trans H; with_reducible exact H2_) | with_reducible exact H | (rw [hy375]; exact H) | exact H
         have Ny375 := Aside0.mk hy375
         clear hy375
         by_cases c20 : y372.length + y375.length < 8796093022208
         ·
          rw [if_pos c20] at H
          have LMc20 := Aside0.mk c20
          clear c20
          obtain ⟨y379, hy379⟩ : ∃ y_ : List (S49), y_ = (y372 ++ y375) := ⟨_, rfl⟩
          replace H : ((spec_IsRing.f kj2 y379).bind fun t382 => (if t382 = true then ((spec_SameTurn.f kj2 l0 y379).bind fun t383 => (if t383 = true then (some (y379, true)) else ((some (([] : List (S49)) : List (S49))).bind fun y384 => (if y384.length + l0.length < 8796093022208 then (some ((y384 ++ l0), false)) else (none))))) else ((some (([] : List (S49)) : List (S49))).bind fun y390 => (if y390.length + l0.length < 8796093022208 then (some ((y390 ++ l0), false)) else (none))))) = some (r1, r2) := by first | (rw [hy379]; with_reducible exact H) | (have H2_ := (Option.bind_some _ _).symm.trans H; rw [hy379]; with_reducible exact H2_) | (have H2_ := (Option.bind_some _ _).symm.trans H; with_reducible exact H2_) | with_reducible exact H | (rw [hy379]; exact H) | exact H
          have Ny379 := Aside0.mk hy379
          clear hy379
          replace H := Option.bind_eq_some_iff.mp H
          obtain ⟨t382, A210, H⟩ := H
          replace H : (if t382 = true then ((spec_SameTurn.f kj2 l0 y379).bind fun t383 => (if t383 = true then (some (y379, true)) else ((some (([] : List (S49)) : List (S49))).bind fun y384 => (if y384.length + l0.length < 8796093022208 then (some ((y384 ++ l0), false)) else (none))))) else ((some (([] : List (S49)) : List (S49))).bind fun y390 => (if y390.length + l0.length < 8796093022208 then (some ((y390 ++ l0), false)) else (none)))) = some (r1, r2) := H
          have A21 := Aside0.mk A210
          clear A210
          by_cases c22 : t382 = true
          ·
           subst c22
           have H1 : ((spec_SameTurn.f kj2 l0 y379).bind fun t383 => (if t383 = true then (some (y379, true)) else ((some (([] : List (S49)) : List (S49))).bind fun y384 => (if y384.length + l0.length < 8796093022208 then (some ((y384 ++ l0), false)) else (none))))) = some (r1, r2) := by rw [if_pos rfl] at H; exact H
           clear H
           have H := H1
           clear H1
           replace H := Option.bind_eq_some_iff.mp H
           obtain ⟨t383, A230, H⟩ := H
           replace H : (if t383 = true then (some (y379, true)) else ((some (([] : List (S49)) : List (S49))).bind fun y384 => (if y384.length + l0.length < 8796093022208 then (some ((y384 ++ l0), false)) else (none)))) = some (r1, r2) := H
           have A23 := Aside0.mk A230
           clear A230
           by_cases c24 : t383 = true
           ·
            subst c24
            have H1 : (some (y379, true)) = some (r1, r2) := by rw [if_pos rfl] at H; exact H
            clear H
            have H := H1
            clear H1
            simp only [Option.some.injEq, Prod.mk.injEq] at H
            obtain ⟨rfl, rfl⟩ := H
            try go_wp2
            replace HB := Aside0.mk (below_drew1 HB.out)
            have q26 : (a1 : Int) ≤ ((l0.length : Int) : Int) := of_decide_eq_true Hd.a_
            obtain ⟨i026, hi026, _, hsz26, _⟩ := info_parts info49
            have hroom26 : l0.length ≤ c0 := HC0.out
            have hC26 : Kd.C k49 _ A0 l0.length l0 := HR0.out
            have hcut26 := cut_to (P := Try.prog) 28 49 .i64 Try.underlying28 hi026 A0 l0.length c0 a1 (of_decide_eq_true Hd.a_) q26 hroom26
            have hr26 := Kd.C_take (m := (a1 : Int).toNat) hC26 (by omega)
            have hy26 : y368.length = (a1 : Int).toNat := (by rw [Ny368.out, List.length_take]; omega)
            rw [← Ny368.out] at hr26
            rw [← hy26] at hcut26
            have HR371 := Aside0.mk hr26
            have HC371 := Aside0.mk (show y368.length ≤ c0 from by omega)
            clear hr26 hC26 hroom26 hi026 hsz26
            have KY26 := Aside0.mk hy26
            clear hy26
            replace q26 := eq_true q26
            have q27 : ((ji17) : Int) ≤ ((l0.length : Int) : Int) := of_decide_eq_true Hd.a_
            obtain ⟨i027, hi027, _, hsz27, _⟩ := info_parts info49
            have hroom27 : l0.length ≤ c0 := HC0.out
            have hC27 : Kd.C k49 _ A0 l0.length l0 := HR0.out
            have q027 : (0 : Int) ≤ ((ji17) : Int) := of_decide_eq_true Hd.a_
            have hcut27 := cut_from (P := Try.prog) 28 49 .i64 Try.underlying28 hi027 2 hsz27 A0 l0.length c0 (ji17) q027 q27
            have hr27 := Kd.C_drop (m := ((ji17) : Int).toNat) (c := c0) hC27 (by omega) hroom27
            obtain ⟨A27, hA27⟩ : ∃ A1, A1 = (if c0 = ((ji17) : Int).toNat then A0 else (A0 : Option Addr).map (·.add (((ji17) : Int).toNat * 2))) := ⟨_, rfl⟩
            obtain ⟨c27, hc27⟩ : ∃ c1, c1 = c0 - ((ji17) : Int).toNat := ⟨_, rfl⟩
            have hy27 : y375.length = l0.length - ((ji17) : Int).toNat := (by rw [Ny375.out, List.length_drop] <;> omega)
            rw [show (l0).drop ((ji17) : Int).toNat = y375 from Ny375.out.symm] at hr27
            replace hr27 : Kd.C k49 _ A27 y375.length y375 := (by rw [hA27]; exact hr27)
            rw [← hy27, ← hA27, ← hc27] at hcut27
            have HR378 := Aside0.mk hr27
            have HC378 := Aside0.mk (show y375.length ≤ c27 from by rw [hy27, hc27]; exact Nat.sub_le_sub_right hroom27 _)
            clear hr27 hC27 hroom27 hi027 hsz27 hc27
            have KY27 := Aside0.mk hy27
            have KA27 := Aside0.mk hA27
            clear hy27 hA27
            replace q27 := eq_true q27
            refine start_ (n := 11) (S := fun w' => True) (ds := []) #[false, false, false, false, false, false, false, false, false, false, false] (by kernel_rfl) rfl rfl trivial (fun hHeld => ?_); refine with_tabW spec_DropCorner.tab3 spec_DropCorner.bits3 (fun HT_ HW_ => ?_)
            generalize wc.drew = w25 at HB HR371 HR378 hHeld ⊢
            refine Hd.p_ HT_ 1 (some 22) #[false, true, false, false, false, false, false, false, false, false, false] ?_
            refine Hd.p_ HT_ 2 (some 23) #[false, true, true, false, false, false, false, false, false, false, false] ?_
            refine Hd.p_ HT_ 3 (some 24) #[false, true, true, true, false, false, false, false, false, false, false] ?_
            refine Hd.p_ HT_ 5 (some 26) #[false, true, true, true, false, true, false, false, false, false, false] ?_
            refine Hd.p_ HT_ 6 (some 27) #[false, true, true, true, false, true, true, false, false, false, false] ?_
            refine Hd.p_ HT_ 7 (some 28) #[false, true, true, true, false, true, true, true, false, false, false] ?_
            refine Hd.p_ HT_ 8 (some 29) #[false, true, true, true, false, true, true, true, true, false, false] ?_
            refine Hd.o_ HT_ 0 (some 21) #[true, true, true, true, false, true, true, true, true, false, false] (fun K hK => ?_)
            refine Kd.R_lit_step k49 _ 49 ?hg (N := 21) ?hd (xs := ([] : List (S49))) (inner := []) (ok := fun _ => True) (okp := fun _ => True) ?hr ?hp (fun _ hk => hk) trivial (Below.refl _ _) (Nat.le_refl _) (by simp) ?_; (case hd => rfl); (case hg => rfl); (case hr => first | (go_simp; done) | (go_simp; rfl)); (case hp => exact (Reps.none _ _))
            intro v366 w28 ho29 hb hg_ hnew_
            clear hg_ hnew_
            (first | rw [← Ny365.out] at ho29 | (simp only [Int.reduceToNat] at ho29; rw [← Ny365.out] at ho29))
            have HO367 := Aside0.mk (Kd.R_lower ho29 (below_size Hd.b_))
            replace HB := Aside0.mk (below_step Hd.b_ hb)
            clear hb ho29
            refine hK.out _ _ trivial (fun hHeld => ?_)
            clear hK K
            refine Hd.n_ (some 21) ?_
            refine Hd.o_ HT_ 4 (some 25) #[true, true, true, true, true, true, true, true, true, false, false] (fun K hK => ?_)
            refine Kd.R_append_rows_step k49 (w0 := w) w.heap.size (by rfl) (.tmp 21) (.tmp 24) 28 49 (.agg #[(.int .i64 0), (.int .i64 0)]) 16 rfl Try.underlying28 info49 rfl (by decide) (by omega) v366 y365 y368 _ _ _ (fun _ => True) (fun _ => False) rfl rfl ?aO ?aR (fun _ _ h => h) (fun _ h => h.elim) ?aF ?aB ?aS ?aL ?_
            (case aR => repeat (first | exact (Kd.C_below HR371.out HB.out) | (with_reducible refine Kd.C_alloc ?_ _) | (with_reducible refine Kd.C_drewN ?_ _) | (with_reducible refine Kd.C_drew ?_)))
            (case aB => exact Hd.b_)
            (case aF => exact (fun _ _ => trivial))
            (case aO => exact (Hd.r_ HO367))
            (case aS => exact (below_size Hd.b_))
            (case aL => have := LMc16.out; omega)
            intro v373 w30 ho hb hg hat
            rw [← Ny372.out] at ho
            have n0_ := Aside0.mk (hb)
            have n1_ := Aside0.mk (ho)
            clear HB
            clear HO367
            have HB := n0_
            have HO374 := n1_
            clear n0_ n1_
            clear ho hb hg hat
            refine hK.out _ _ trivial (fun hHeld => ?_)
            clear hK K
            refine Hd.n_ (some 25) ?_
            refine Hd.o_ HT_ 9 (some 30) #[true, true, true, true, true, true, true, true, true, true, false] (fun K hK => ?_)
            refine Kd.R_append_rows_step k49 (w0 := w) w.heap.size (by rfl) (.tmp 25) (.tmp 29) 28 49 (.agg #[(.int .i64 0), (.int .i64 0)]) 16 rfl Try.underlying28 info49 rfl (by decide) (by omega) v373 y372 y375 _ _ _ (fun _ => True) (fun _ => False) rfl rfl ?aO ?aR (fun _ _ h => h) (fun _ h => h.elim) ?aF ?aB ?aS ?aL ?_
            (case aR => repeat (first | exact (Kd.C_below HR378.out HB.out) | (with_reducible refine Kd.C_alloc ?_ _) | (with_reducible refine Kd.C_drewN ?_ _) | (with_reducible refine Kd.C_drew ?_)))
            (case aB => exact Hd.b_)
            (case aF => exact (fun _ _ => trivial))
            (case aO => exact (Hd.r_ HO374))
            (case aS => exact (below_size Hd.b_))
            (case aL => have := LMc20.out; omega)
            intro v380 w31 ho hb hg hat
            rw [← Ny379.out] at ho
            have n0_ := Aside0.mk (hb)
            have n1_ := Aside0.mk (ho)
            clear HB
            clear HO374
            have HB := n0_
            have HO381 := n1_
            clear n0_ n1_
            clear ho hb hg hat
            refine hK.out _ _ trivial (fun hHeld => ?_)
            clear hK K
            refine Hd.n_ (some 30) ?_
            refine Hd.p_ HT_ 10 (some 6) #[true, true, true, true, true, true, true, true, true, true, true] ?_
            refine done_ (done_of HT_.out (by kernel_rfl)) ?_
            obtain ⟨Ao32, co32, eo32⟩ := Kd.R_slice HO381.out
            subst eo32
            try go_wp2_with (first | ((with_reducible refine gate_callee (f := 82) rfl ?_); refine goesL_ (some 32) rfl rfl Try.func82 (by kernel_rfl) rfl #[.slice Ao32 y379.length co32] rfl Hd.m_ ?_; (with_reducible refine (spec_IsRing.calls kj2 _ _ y379 true _ ?side1 ?side2 A21.out).mono ?_); (case side1 => repeat (first | exact (Kd.R_reads' HO381.out).2.2 | (with_reducible refine Kd.C_alloc ?_ _) | (with_reducible refine Kd.C_drewN ?_ _) | (with_reducible refine Kd.C_drew ?_))); (case side2 => exact (Kd.R_reads' HO381.out).2.1); rintro e w33 ⟨rfl, hb⟩; refine ⟨_, rfl, ?_⟩; replace HO381 := Aside0.mk (Kd.R_below (Hd.r_ HO381) hb); replace HB := Aside0.mk (below_step Hd.b_ hb); (try clear hb); (try clear hb2); (try clear hk); (try clear hi)) | (go_at_call 84; (with_reducible refine (spec_SameTurn.calls kj2 _ _ l0 _ _ y379 true _ ?side1 ?side2 ?side3 ?side4 A23.out).mono ?_); (case side1 => repeat (first | exact (Kd.C_below HR0.out HB.out) | (with_reducible refine Kd.C_alloc ?_ _) | (with_reducible refine Kd.C_drewN ?_ _) | (with_reducible refine Kd.C_drew ?_))); (case side2 => exact HC0.out); (case side3 => repeat (first | exact (Kd.R_reads' HO381.out).2.2 | (with_reducible refine Kd.C_alloc ?_ _) | (with_reducible refine Kd.C_drewN ?_ _) | (with_reducible refine Kd.C_drew ?_))); (case side4 => exact (Kd.R_reads' HO381.out).2.1); rintro e w34 ⟨rfl, hb⟩; replace HO381 := Aside0.mk (Kd.R_below (Hd.r_ HO381) hb); replace HB := Aside0.mk (below_step Hd.b_ hb); (try clear hb); (try clear hb2); (try clear hk); (try clear hi)))
            go_ret2
            exact ⟨_, by first | rfl | (simp [errW_none, errW_some] <;> rfl) | (simp only [← hji17]; first | rfl | (simp [errW_none, errW_some] <;> rfl)) | (simp [*, errW_none, errW_some] <;> rfl), by (with_reducible repeat (first | apply Kd.R_alloc | apply Kd.R_drewN | apply Kd.R_drew)); exact HO381.out, Hd.b_⟩
           ·
            replace c24 := Bool.eq_false_iff.mpr c24
            subst c24
            have H1 : ((some (([] : List (S49)) : List (S49))).bind fun y384 => (if y384.length + l0.length < 8796093022208 then (some ((y384 ++ l0), false)) else (none))) = some (r1, r2) := by rw [if_neg (show ¬ (false = true) by decide)] at H; exact H
            clear H
            have H := H1
            clear H1
            obtain ⟨y384, hy384⟩ : ∃ y_ : List (S49), y_ = (([] : List (S49))) := ⟨_, rfl⟩
            replace H : (if y384.length + l0.length < 8796093022208 then (some ((y384 ++ l0), false)) else (none)) = some (r1, r2) := by first | (rw [hy384]; with_reducible exact H) | (have H2_ := (Option.bind_some _ _).symm.trans H; rw [hy384]; with_reducible exact H2_) | (have H2_ := (Option.bind_some _ _).symm.trans H; with_reducible exact H2_) | with_reducible exact H | (rw [hy384]; exact H) | exact H
            have Ny384 := Aside0.mk hy384
            clear hy384
            by_cases c35 : y384.length + l0.length < 8796093022208
            ·
             rw [if_pos c35] at H
             have LMc35 := Aside0.mk c35
             clear c35
             obtain ⟨y387, hy387⟩ : ∃ y_ : List (S49), y_ = (y384 ++ l0) := ⟨_, rfl⟩
             replace H : (some (y387, false)) = some (r1, r2) := by first | (rw [hy387]; with_reducible exact H) | (have H2_ := (Option.bind_some _ _).symm.trans H; rw [hy387]; with_reducible exact H2_) | (have H2_ := (Option.bind_some _ _).symm.trans H; with_reducible exact H2_) | with_reducible exact H | (rw [hy387]; exact H) | exact H
             have Ny387 := Aside0.mk hy387
             clear hy387
             simp only [Option.some.injEq, Prod.mk.injEq] at H
             obtain ⟨rfl, rfl⟩ := H
             try go_wp2
             replace HB := Aside0.mk (below_drew1 HB.out)
             have q37 : (a1 : Int) ≤ ((l0.length : Int) : Int) := of_decide_eq_true Hd.a_
             obtain ⟨i037, hi037, _, hsz37, _⟩ := info_parts info49
             have hroom37 : l0.length ≤ c0 := HC0.out
             have hC37 : Kd.C k49 _ A0 l0.length l0 := HR0.out
             have hcut37 := cut_to (P := Try.prog) 28 49 .i64 Try.underlying28 hi037 A0 l0.length c0 a1 (of_decide_eq_true Hd.a_) q37 hroom37
             have hr37 := Kd.C_take (m := (a1 : Int).toNat) hC37 (by omega)
             have hy37 : y368.length = (a1 : Int).toNat := (by rw [Ny368.out, List.length_take]; omega)
             rw [← Ny368.out] at hr37
             rw [← hy37] at hcut37
             have HR371 := Aside0.mk hr37
             have HC371 := Aside0.mk (show y368.length ≤ c0 from by omega)
             clear hr37 hC37 hroom37 hi037 hsz37
             have KY37 := Aside0.mk hy37
             clear hy37
             replace q37 := eq_true q37
             have q38 : ((ji17) : Int) ≤ ((l0.length : Int) : Int) := of_decide_eq_true Hd.a_
             obtain ⟨i038, hi038, _, hsz38, _⟩ := info_parts info49
             have hroom38 : l0.length ≤ c0 := HC0.out
             have hC38 : Kd.C k49 _ A0 l0.length l0 := HR0.out
             have q038 : (0 : Int) ≤ ((ji17) : Int) := of_decide_eq_true Hd.a_
             have hcut38 := cut_from (P := Try.prog) 28 49 .i64 Try.underlying28 hi038 2 hsz38 A0 l0.length c0 (ji17) q038 q38
             have hr38 := Kd.C_drop (m := ((ji17) : Int).toNat) (c := c0) hC38 (by omega) hroom38
             obtain ⟨A38, hA38⟩ : ∃ A1, A1 = (if c0 = ((ji17) : Int).toNat then A0 else (A0 : Option Addr).map (·.add (((ji17) : Int).toNat * 2))) := ⟨_, rfl⟩
             obtain ⟨c38, hc38⟩ : ∃ c1, c1 = c0 - ((ji17) : Int).toNat := ⟨_, rfl⟩
             have hy38 : y375.length = l0.length - ((ji17) : Int).toNat := (by rw [Ny375.out, List.length_drop] <;> omega)
             rw [show (l0).drop ((ji17) : Int).toNat = y375 from Ny375.out.symm] at hr38
             replace hr38 : Kd.C k49 _ A38 y375.length y375 := (by rw [hA38]; exact hr38)
             rw [← hy38, ← hA38, ← hc38] at hcut38
             have HR378 := Aside0.mk hr38
             have HC378 := Aside0.mk (show y375.length ≤ c38 from by rw [hy38, hc38]; exact Nat.sub_le_sub_right hroom38 _)
             clear hr38 hC38 hroom38 hi038 hsz38 hc38
             have KY38 := Aside0.mk hy38
             have KA38 := Aside0.mk hA38
             clear hy38 hA38
             replace q38 := eq_true q38
             refine start_ (n := 11) (S := fun w' => True) (ds := []) #[false, false, false, false, false, false, false, false, false, false, false] (by kernel_rfl) rfl rfl trivial (fun hHeld => ?_); refine with_tabW spec_DropCorner.tab3 spec_DropCorner.bits3 (fun HT_ HW_ => ?_)
             generalize wc.drew = w36 at HB HR371 HR378 hHeld ⊢
             refine Hd.p_ HT_ 1 (some 22) #[false, true, false, false, false, false, false, false, false, false, false] ?_
             refine Hd.p_ HT_ 2 (some 23) #[false, true, true, false, false, false, false, false, false, false, false] ?_
             refine Hd.p_ HT_ 3 (some 24) #[false, true, true, true, false, false, false, false, false, false, false] ?_
             refine Hd.p_ HT_ 5 (some 26) #[false, true, true, true, false, true, false, false, false, false, false] ?_
             refine Hd.p_ HT_ 6 (some 27) #[false, true, true, true, false, true, true, false, false, false, false] ?_
             refine Hd.p_ HT_ 7 (some 28) #[false, true, true, true, false, true, true, true, false, false, false] ?_
             refine Hd.p_ HT_ 8 (some 29) #[false, true, true, true, false, true, true, true, true, false, false] ?_
             refine Hd.o_ HT_ 0 (some 21) #[true, true, true, true, false, true, true, true, true, false, false] (fun K hK => ?_)
             refine Kd.R_lit_step k49 _ 49 ?hg (N := 21) ?hd (xs := ([] : List (S49))) (inner := []) (ok := fun _ => True) (okp := fun _ => True) ?hr ?hp (fun _ hk => hk) trivial (Below.refl _ _) (Nat.le_refl _) (by simp) ?_; (case hd => rfl); (case hg => rfl); (case hr => first | (go_simp; done) | (go_simp; rfl)); (case hp => exact (Reps.none _ _))
             intro v366 w39 ho40 hb hg_ hnew_
             clear hg_ hnew_
             (first | rw [← Ny365.out] at ho40 | (simp only [Int.reduceToNat] at ho40; rw [← Ny365.out] at ho40))
             have HO367 := Aside0.mk (Kd.R_lower ho40 (below_size Hd.b_))
             replace HB := Aside0.mk (below_step Hd.b_ hb)
             clear hb ho40
             refine hK.out _ _ trivial (fun hHeld => ?_)
             clear hK K
             refine Hd.n_ (some 21) ?_
             refine Hd.o_ HT_ 4 (some 25) #[true, true, true, true, true, true, true, true, true, false, false] (fun K hK => ?_)
             refine Kd.R_append_rows_step k49 (w0 := w) w.heap.size (by rfl) (.tmp 21) (.tmp 24) 28 49 (.agg #[(.int .i64 0), (.int .i64 0)]) 16 rfl Try.underlying28 info49 rfl (by decide) (by omega) v366 y365 y368 _ _ _ (fun _ => True) (fun _ => False) rfl rfl ?aO ?aR (fun _ _ h => h) (fun _ h => h.elim) ?aF ?aB ?aS ?aL ?_
             (case aR => repeat (first | exact (Kd.C_below HR371.out HB.out) | (with_reducible refine Kd.C_alloc ?_ _) | (with_reducible refine Kd.C_drewN ?_ _) | (with_reducible refine Kd.C_drew ?_)))
             (case aB => exact Hd.b_)
             (case aF => exact (fun _ _ => trivial))
             (case aO => exact (Hd.r_ HO367))
             (case aS => exact (below_size Hd.b_))
             (case aL => have := LMc16.out; omega)
             intro v373 w41 ho hb hg hat
             rw [← Ny372.out] at ho
             have n0_ := Aside0.mk (hb)
             have n1_ := Aside0.mk (ho)
             clear HB
             clear HO367
             have HB := n0_
             have HO374 := n1_
             clear n0_ n1_
             clear ho hb hg hat
             refine hK.out _ _ trivial (fun hHeld => ?_)
             clear hK K
             refine Hd.n_ (some 25) ?_
             refine Hd.o_ HT_ 9 (some 30) #[true, true, true, true, true, true, true, true, true, true, false] (fun K hK => ?_)
             refine Kd.R_append_rows_step k49 (w0 := w) w.heap.size (by rfl) (.tmp 25) (.tmp 29) 28 49 (.agg #[(.int .i64 0), (.int .i64 0)]) 16 rfl Try.underlying28 info49 rfl (by decide) (by omega) v373 y372 y375 _ _ _ (fun _ => True) (fun _ => False) rfl rfl ?aO ?aR (fun _ _ h => h) (fun _ h => h.elim) ?aF ?aB ?aS ?aL ?_
             (case aR => repeat (first | exact (Kd.C_below HR378.out HB.out) | (with_reducible refine Kd.C_alloc ?_ _) | (with_reducible refine Kd.C_drewN ?_ _) | (with_reducible refine Kd.C_drew ?_)))
             (case aB => exact Hd.b_)
             (case aF => exact (fun _ _ => trivial))
             (case aO => exact (Hd.r_ HO374))
             (case aS => exact (below_size Hd.b_))
             (case aL => have := LMc20.out; omega)
             intro v380 w42 ho hb hg hat
             rw [← Ny379.out] at ho
             have n0_ := Aside0.mk (hb)
             have n1_ := Aside0.mk (ho)
             clear HB
             clear HO374
             have HB := n0_
             have HO381 := n1_
             clear n0_ n1_
             clear ho hb hg hat
             refine hK.out _ _ trivial (fun hHeld => ?_)
             clear hK K
             refine Hd.n_ (some 30) ?_
             refine Hd.p_ HT_ 10 (some 6) #[true, true, true, true, true, true, true, true, true, true, true] ?_
             refine done_ (done_of HT_.out (by kernel_rfl)) ?_
             obtain ⟨Ao43, co43, eo43⟩ := Kd.R_slice HO381.out
             subst eo43
             try go_wp2_with (first | ((with_reducible refine gate_callee (f := 82) rfl ?_); refine goesL_ (some 32) rfl rfl Try.func82 (by kernel_rfl) rfl #[.slice Ao43 y379.length co43] rfl Hd.m_ ?_; (with_reducible refine (spec_IsRing.calls kj2 _ _ y379 true _ ?side1 ?side2 A21.out).mono ?_); (case side1 => repeat (first | exact (Kd.R_reads' HO381.out).2.2 | (with_reducible refine Kd.C_alloc ?_ _) | (with_reducible refine Kd.C_drewN ?_ _) | (with_reducible refine Kd.C_drew ?_))); (case side2 => exact (Kd.R_reads' HO381.out).2.1); rintro e w44 ⟨rfl, hb⟩; refine ⟨_, rfl, ?_⟩; replace HO381 := Aside0.mk (Kd.R_below (Hd.r_ HO381) hb); replace HB := Aside0.mk (below_step Hd.b_ hb); (try clear hb); (try clear hb2); (try clear hk); (try clear hi)) | (go_at_call 84; (with_reducible refine (spec_SameTurn.calls kj2 _ _ l0 _ _ y379 false _ ?side1 ?side2 ?side3 ?side4 A23.out).mono ?_); (case side1 => repeat (first | exact (Kd.C_below HR0.out HB.out) | (with_reducible refine Kd.C_alloc ?_ _) | (with_reducible refine Kd.C_drewN ?_ _) | (with_reducible refine Kd.C_drew ?_))); (case side2 => exact HC0.out); (case side3 => repeat (first | exact (Kd.R_reads' HO381.out).2.2 | (with_reducible refine Kd.C_alloc ?_ _) | (with_reducible refine Kd.C_drewN ?_ _) | (with_reducible refine Kd.C_drew ?_))); (case side4 => exact (Kd.R_reads' HO381.out).2.1); rintro e w45 ⟨rfl, hb⟩; replace HO381 := Aside0.mk (Kd.R_below (Hd.r_ HO381) hb); replace HB := Aside0.mk (below_step Hd.b_ hb); (try clear hb); (try clear hb2); (try clear hk); (try clear hi)) | ((with_reducible refine gate_dst (N := 40) rfl ?_); (try (refine gate_guard (by rfl) ?_; dsimp only)); refine Kd.R_lit k49 _ 49 ?hg (N := 40) ?hd (xs := ([] : List (S49))) (inner := []) (ok := fun _ => True) (okp := fun _ => True) ?hr ?hp (fun _ hk => hk) trivial (Below.refl _ _) (Nat.le_refl _) (by simp) ?_; (case hd => rfl); (case hg => rfl); (case hr => first | (go_simp; done) | (go_simp; rfl)); (case hp => exact (Reps.none _ _)); intro v385 w46 ho47 hb hg_ hnew_; clear hg_ hnew_; (first | rw [← Ny384.out] at ho47 | (simp only [Int.reduceToNat] at ho47; rw [← Ny384.out] at ho47)); have HO386 := Aside0.mk (Kd.R_lower (Kd.R_new' ho47 (Kd.R_lt (Hd.r_ HO381))) (below_size Hd.b_)); replace HO381 := Aside0.mk (Kd.R_elder' (Hd.r_ HO381) (Kd.R_base ho47) hb); replace HB := Aside0.mk (below_step Hd.b_ hb); clear hb ho47) | ((with_reducible refine gate_builtin (b := .append) (xs := #[.tmp 40, .tmp 41]) rfl ?_); (try (refine gate_guard (by rfl) ?_; dsimp only)); at_builtin; refine Kd.R_append_rows k49 (w0 := w) w.heap.size rfl (.tmp 40) (.tmp 41) 28 49 (.agg #[(.int .i64 0), (.int .i64 0)]) 16 rfl Try.underlying28 info49 rfl (by decide) (by omega) v385 y384 l0 _ _ _ (fun k_ => some k_ ≠ (.slice Ao43 y379.length co43 : Value).ownBlock) (fun _ => False) rfl rfl ?aO ?aR (fun _ _ h => h) (fun _ h => h.elim) ?aF ?aB ?aS ?aL ?_; (case aR => repeat (first | exact (Kd.C_below HR0.out HB.out) | (with_reducible refine Kd.C_alloc ?_ _) | (with_reducible refine Kd.C_drewN ?_ _) | (with_reducible refine Kd.C_drew ?_))); (case aB => exact Hd.b_); (case aF => exact (fun k_ hk => Kd.fresh' (Kd.R_lt (Hd.r_ HO381)) k_ hk)); (case aO => exact (by (with_reducible repeat (first | apply Kd.R_alloc | apply Kd.R_drewN | apply Kd.R_drew)); exact Kd.R_mono HO386.out (fun _ hk => hk.2))); (case aS => exact (below_size Hd.b_)); (case aL => have := LMc35.out; omega); intro v388 w48 ho hb hg hat; rw [← Ny387.out] at ho; have n0_ := Aside0.mk (Kd.R_after (ok := (fun _ => True)) (Hd.r_ HO381) hg hat); have n1_ := Aside0.mk (hb); have n2_ := Aside0.mk (ho); clear HO381; clear HB; clear HO386; have HO381 := n0_; have HB := n1_; have HO389 := n2_; clear n0_ n1_ n2_; clear ho hb hg hat))
             go_ret2
             exact ⟨_, by first | rfl | (simp [errW_none, errW_some] <;> rfl) | (simp only [← hji17]; first | rfl | (simp [errW_none, errW_some] <;> rfl)) | (simp [*, errW_none, errW_some] <;> rfl), by (with_reducible repeat (first | apply Kd.R_alloc | apply Kd.R_drewN | apply Kd.R_drew)); exact Kd.R_mono HO389.out (fun _ hk => trivial), Hd.b_⟩
            ·
             rw [if_neg c35] at H
             exact absurd H (by simp)
          ·
           replace c22 := Bool.eq_false_iff.mpr c22
           subst c22
           have H1 : ((some (([] : List (S49)) : List (S49))).bind fun y390 => (if y390.length + l0.length < 8796093022208 then (some ((y390 ++ l0), false)) else (none))) = some (r1, r2) := by rw [if_neg (show ¬ (false = true) by decide)] at H; exact H
           clear H
           have H := H1
           clear H1
           obtain ⟨y390, hy390⟩ : ∃ y_ : List (S49), y_ = (([] : List (S49))) := ⟨_, rfl⟩
           replace H : (if y390.length + l0.length < 8796093022208 then (some ((y390 ++ l0), false)) else (none)) = some (r1, r2) := by first | (rw [hy390]; with_reducible exact H) | (have H2_ := (Option.bind_some _ _).symm.trans H; rw [hy390]; with_reducible exact H2_) | (have H2_ := (Option.bind_some _ _).symm.trans H; with_reducible exact H2_) | with_reducible exact H | (rw [hy390]; exact H) | exact H
           have Ny390 := Aside0.mk hy390
           clear hy390
           by_cases c49 : y390.length + l0.length < 8796093022208
           ·
            rw [if_pos c49] at H
            have LMc49 := Aside0.mk c49
            clear c49
            obtain ⟨y393, hy393⟩ : ∃ y_ : List (S49), y_ = (y390 ++ l0) := ⟨_, rfl⟩
            replace H : (some (y393, false)) = some (r1, r2) := by first | (rw [hy393]; with_reducible exact H) | (have H2_ := (Option.bind_some _ _).symm.trans H; rw [hy393]; with_reducible exact H2_) | (have H2_ := (Option.bind_some _ _).symm.trans H; with_reducible exact H2_) | with_reducible exact H | (rw [hy393]; exact H) | exact H
            have Ny393 := Aside0.mk hy393
            clear hy393
            simp only [Option.some.injEq, Prod.mk.injEq] at H
            obtain ⟨rfl, rfl⟩ := H
            try go_wp2
            replace HB := Aside0.mk (below_drew1 HB.out)
            have q51 : (a1 : Int) ≤ ((l0.length : Int) : Int) := of_decide_eq_true Hd.a_
            obtain ⟨i051, hi051, _, hsz51, _⟩ := info_parts info49
            have hroom51 : l0.length ≤ c0 := HC0.out
            have hC51 : Kd.C k49 _ A0 l0.length l0 := HR0.out
            have hcut51 := cut_to (P := Try.prog) 28 49 .i64 Try.underlying28 hi051 A0 l0.length c0 a1 (of_decide_eq_true Hd.a_) q51 hroom51
            have hr51 := Kd.C_take (m := (a1 : Int).toNat) hC51 (by omega)
            have hy51 : y368.length = (a1 : Int).toNat := (by rw [Ny368.out, List.length_take]; omega)
            rw [← Ny368.out] at hr51
            rw [← hy51] at hcut51
            have HR371 := Aside0.mk hr51
            have HC371 := Aside0.mk (show y368.length ≤ c0 from by omega)
            clear hr51 hC51 hroom51 hi051 hsz51
            have KY51 := Aside0.mk hy51
            clear hy51
            replace q51 := eq_true q51
            have q52 : ((ji17) : Int) ≤ ((l0.length : Int) : Int) := of_decide_eq_true Hd.a_
            obtain ⟨i052, hi052, _, hsz52, _⟩ := info_parts info49
            have hroom52 : l0.length ≤ c0 := HC0.out
            have hC52 : Kd.C k49 _ A0 l0.length l0 := HR0.out
            have q052 : (0 : Int) ≤ ((ji17) : Int) := of_decide_eq_true Hd.a_
            have hcut52 := cut_from (P := Try.prog) 28 49 .i64 Try.underlying28 hi052 2 hsz52 A0 l0.length c0 (ji17) q052 q52
            have hr52 := Kd.C_drop (m := ((ji17) : Int).toNat) (c := c0) hC52 (by omega) hroom52
            obtain ⟨A52, hA52⟩ : ∃ A1, A1 = (if c0 = ((ji17) : Int).toNat then A0 else (A0 : Option Addr).map (·.add (((ji17) : Int).toNat * 2))) := ⟨_, rfl⟩
            obtain ⟨c52, hc52⟩ : ∃ c1, c1 = c0 - ((ji17) : Int).toNat := ⟨_, rfl⟩
            have hy52 : y375.length = l0.length - ((ji17) : Int).toNat := (by rw [Ny375.out, List.length_drop] <;> omega)
            rw [show (l0).drop ((ji17) : Int).toNat = y375 from Ny375.out.symm] at hr52
            replace hr52 : Kd.C k49 _ A52 y375.length y375 := (by rw [hA52]; exact hr52)
            rw [← hy52, ← hA52, ← hc52] at hcut52
            have HR378 := Aside0.mk hr52
            have HC378 := Aside0.mk (show y375.length ≤ c52 from by rw [hy52, hc52]; exact Nat.sub_le_sub_right hroom52 _)
            clear hr52 hC52 hroom52 hi052 hsz52 hc52
            have KY52 := Aside0.mk hy52
            have KA52 := Aside0.mk hA52
            clear hy52 hA52
            replace q52 := eq_true q52
            refine start_ (n := 11) (S := fun w' => True) (ds := []) #[false, false, false, false, false, false, false, false, false, false, false] (by kernel_rfl) rfl rfl trivial (fun hHeld => ?_); refine with_tabW spec_DropCorner.tab3 spec_DropCorner.bits3 (fun HT_ HW_ => ?_)
            generalize wc.drew = w50 at HB HR371 HR378 hHeld ⊢
            refine Hd.p_ HT_ 1 (some 22) #[false, true, false, false, false, false, false, false, false, false, false] ?_
            refine Hd.p_ HT_ 2 (some 23) #[false, true, true, false, false, false, false, false, false, false, false] ?_
            refine Hd.p_ HT_ 3 (some 24) #[false, true, true, true, false, false, false, false, false, false, false] ?_
            refine Hd.p_ HT_ 5 (some 26) #[false, true, true, true, false, true, false, false, false, false, false] ?_
            refine Hd.p_ HT_ 6 (some 27) #[false, true, true, true, false, true, true, false, false, false, false] ?_
            refine Hd.p_ HT_ 7 (some 28) #[false, true, true, true, false, true, true, true, false, false, false] ?_
            refine Hd.p_ HT_ 8 (some 29) #[false, true, true, true, false, true, true, true, true, false, false] ?_
            refine Hd.o_ HT_ 0 (some 21) #[true, true, true, true, false, true, true, true, true, false, false] (fun K hK => ?_)
            refine Kd.R_lit_step k49 _ 49 ?hg (N := 21) ?hd (xs := ([] : List (S49))) (inner := []) (ok := fun _ => True) (okp := fun _ => True) ?hr ?hp (fun _ hk => hk) trivial (Below.refl _ _) (Nat.le_refl _) (by simp) ?_; (case hd => rfl); (case hg => rfl); (case hr => first | (go_simp; done) | (go_simp; rfl)); (case hp => exact (Reps.none _ _))
            intro v366 w53 ho54 hb hg_ hnew_
            clear hg_ hnew_
            (first | rw [← Ny365.out] at ho54 | (simp only [Int.reduceToNat] at ho54; rw [← Ny365.out] at ho54))
            have HO367 := Aside0.mk (Kd.R_lower ho54 (below_size Hd.b_))
            replace HB := Aside0.mk (below_step Hd.b_ hb)
            clear hb ho54
            refine hK.out _ _ trivial (fun hHeld => ?_)
            clear hK K
            refine Hd.n_ (some 21) ?_
            refine Hd.o_ HT_ 4 (some 25) #[true, true, true, true, true, true, true, true, true, false, false] (fun K hK => ?_)
            refine Kd.R_append_rows_step k49 (w0 := w) w.heap.size (by rfl) (.tmp 21) (.tmp 24) 28 49 (.agg #[(.int .i64 0), (.int .i64 0)]) 16 rfl Try.underlying28 info49 rfl (by decide) (by omega) v366 y365 y368 _ _ _ (fun _ => True) (fun _ => False) rfl rfl ?aO ?aR (fun _ _ h => h) (fun _ h => h.elim) ?aF ?aB ?aS ?aL ?_
            (case aR => repeat (first | exact (Kd.C_below HR371.out HB.out) | (with_reducible refine Kd.C_alloc ?_ _) | (with_reducible refine Kd.C_drewN ?_ _) | (with_reducible refine Kd.C_drew ?_)))
            (case aB => exact Hd.b_)
            (case aF => exact (fun _ _ => trivial))
            (case aO => exact (Hd.r_ HO367))
            (case aS => exact (below_size Hd.b_))
            (case aL => have := LMc16.out; omega)
            intro v373 w55 ho hb hg hat
            rw [← Ny372.out] at ho
            have n0_ := Aside0.mk (hb)
            have n1_ := Aside0.mk (ho)
            clear HB
            clear HO367
            have HB := n0_
            have HO374 := n1_
            clear n0_ n1_
            clear ho hb hg hat
            refine hK.out _ _ trivial (fun hHeld => ?_)
            clear hK K
            refine Hd.n_ (some 25) ?_
            refine Hd.o_ HT_ 9 (some 30) #[true, true, true, true, true, true, true, true, true, true, false] (fun K hK => ?_)
            refine Kd.R_append_rows_step k49 (w0 := w) w.heap.size (by rfl) (.tmp 25) (.tmp 29) 28 49 (.agg #[(.int .i64 0), (.int .i64 0)]) 16 rfl Try.underlying28 info49 rfl (by decide) (by omega) v373 y372 y375 _ _ _ (fun _ => True) (fun _ => False) rfl rfl ?aO ?aR (fun _ _ h => h) (fun _ h => h.elim) ?aF ?aB ?aS ?aL ?_
            (case aR => repeat (first | exact (Kd.C_below HR378.out HB.out) | (with_reducible refine Kd.C_alloc ?_ _) | (with_reducible refine Kd.C_drewN ?_ _) | (with_reducible refine Kd.C_drew ?_)))
            (case aB => exact Hd.b_)
            (case aF => exact (fun _ _ => trivial))
            (case aO => exact (Hd.r_ HO374))
            (case aS => exact (below_size Hd.b_))
            (case aL => have := LMc20.out; omega)
            intro v380 w56 ho hb hg hat
            rw [← Ny379.out] at ho
            have n0_ := Aside0.mk (hb)
            have n1_ := Aside0.mk (ho)
            clear HB
            clear HO374
            have HB := n0_
            have HO381 := n1_
            clear n0_ n1_
            clear ho hb hg hat
            refine hK.out _ _ trivial (fun hHeld => ?_)
            clear hK K
            refine Hd.n_ (some 30) ?_
            refine Hd.p_ HT_ 10 (some 6) #[true, true, true, true, true, true, true, true, true, true, true] ?_
            refine done_ (done_of HT_.out (by kernel_rfl)) ?_
            obtain ⟨Ao57, co57, eo57⟩ := Kd.R_slice HO381.out
            subst eo57
            try go_wp2_with (first | ((with_reducible refine gate_callee (f := 82) rfl ?_); refine goesL_ (some 32) rfl rfl Try.func82 (by kernel_rfl) rfl #[.slice Ao57 y379.length co57] rfl Hd.m_ ?_; (with_reducible refine (spec_IsRing.calls kj2 _ _ y379 false _ ?side1 ?side2 A21.out).mono ?_); (case side1 => repeat (first | exact (Kd.R_reads' HO381.out).2.2 | (with_reducible refine Kd.C_alloc ?_ _) | (with_reducible refine Kd.C_drewN ?_ _) | (with_reducible refine Kd.C_drew ?_))); (case side2 => exact (Kd.R_reads' HO381.out).2.1); rintro e w58 ⟨rfl, hb⟩; refine ⟨_, rfl, ?_⟩; replace HO381 := Aside0.mk (Kd.R_below (Hd.r_ HO381) hb); replace HB := Aside0.mk (below_step Hd.b_ hb); (try clear hb); (try clear hb2); (try clear hk); (try clear hi)) | ((with_reducible refine gate_dst (N := 40) rfl ?_); (try (refine gate_guard (by rfl) ?_; dsimp only)); refine Kd.R_lit k49 _ 49 ?hg (N := 40) ?hd (xs := ([] : List (S49))) (inner := []) (ok := fun _ => True) (okp := fun _ => True) ?hr ?hp (fun _ hk => hk) trivial (Below.refl _ _) (Nat.le_refl _) (by simp) ?_; (case hd => rfl); (case hg => rfl); (case hr => first | (go_simp; done) | (go_simp; rfl)); (case hp => exact (Reps.none _ _)); intro v391 w59 ho60 hb hg_ hnew_; clear hg_ hnew_; (first | rw [← Ny390.out] at ho60 | (simp only [Int.reduceToNat] at ho60; rw [← Ny390.out] at ho60)); have HO392 := Aside0.mk (Kd.R_lower (Kd.R_new' ho60 (Kd.R_lt (Hd.r_ HO381))) (below_size Hd.b_)); replace HO381 := Aside0.mk (Kd.R_elder' (Hd.r_ HO381) (Kd.R_base ho60) hb); replace HB := Aside0.mk (below_step Hd.b_ hb); clear hb ho60) | ((with_reducible refine gate_builtin (b := .append) (xs := #[.tmp 40, .tmp 41]) rfl ?_); (try (refine gate_guard (by rfl) ?_; dsimp only)); at_builtin; refine Kd.R_append_rows k49 (w0 := w) w.heap.size rfl (.tmp 40) (.tmp 41) 28 49 (.agg #[(.int .i64 0), (.int .i64 0)]) 16 rfl Try.underlying28 info49 rfl (by decide) (by omega) v391 y390 l0 _ _ _ (fun k_ => some k_ ≠ (.slice Ao57 y379.length co57 : Value).ownBlock) (fun _ => False) rfl rfl ?aO ?aR (fun _ _ h => h) (fun _ h => h.elim) ?aF ?aB ?aS ?aL ?_; (case aR => repeat (first | exact (Kd.C_below HR0.out HB.out) | (with_reducible refine Kd.C_alloc ?_ _) | (with_reducible refine Kd.C_drewN ?_ _) | (with_reducible refine Kd.C_drew ?_))); (case aB => exact Hd.b_); (case aF => exact (fun k_ hk => Kd.fresh' (Kd.R_lt (Hd.r_ HO381)) k_ hk)); (case aO => exact (by (with_reducible repeat (first | apply Kd.R_alloc | apply Kd.R_drewN | apply Kd.R_drew)); exact Kd.R_mono HO392.out (fun _ hk => hk.2))); (case aS => exact (below_size Hd.b_)); (case aL => have := LMc49.out; omega); intro v394 w61 ho hb hg hat; rw [← Ny393.out] at ho; have n0_ := Aside0.mk (Kd.R_after (ok := (fun _ => True)) (Hd.r_ HO381) hg hat); have n1_ := Aside0.mk (hb); have n2_ := Aside0.mk (ho); clear HO381; clear HB; clear HO392; have HO381 := n0_; have HB := n1_; have HO395 := n2_; clear n0_ n1_ n2_; clear ho hb hg hat))
            go_ret2
            exact ⟨_, by first | rfl | (simp [errW_none, errW_some] <;> rfl) | (simp only [← hji17]; first | rfl | (simp [errW_none, errW_some] <;> rfl)) | (simp [*, errW_none, errW_some] <;> rfl), by (with_reducible repeat (first | apply Kd.R_alloc | apply Kd.R_drewN | apply Kd.R_drew)); exact Kd.R_mono HO395.out (fun _ hk => trivial), Hd.b_⟩
           ·
            rw [if_neg c49] at H
            exact absurd H (by simp)
         ·
          rw [if_neg c20] at H
          exact absurd H (by simp)
        ·
         rw [if_neg c19] at H
         exact absurd H (by simp)
       ·
        rw [if_neg c18] at H
        exact absurd H (by simp)
      ·
       rw [if_neg c16] at H
       exact absurd H (by simp)
     ·
      rw [if_neg c15] at H
      exact absurd H (by simp)
    ·
     rw [if_neg c14] at H
     exact absurd H (by simp)
def spec_CornerSize.j0 : Nat → List (S49) → Int → Bool → Option (Int)
 | 0, _, _, _ => none
 | k + 1, x0, x1, x16 => if x16 = true then (some (-1)) else (if (x0.length : Int) = 0 then (none) else (if 0 ≤ (Int.tmod (wrap64 ((wrap64 (x1 + (x0.length : Int))) - 1)) (x0.length : Int)) then (if (Int.tmod (wrap64 ((wrap64 (x1 + (x0.length : Int))) - 1)) (x0.length : Int)) < (x0.length : Int) then (if 0 ≤ x1 then (if x1 < (x0.length : Int) then (if 0 ≤ (Int.tmod (wrap64 (x1 + 1)) (x0.length : Int)) then (if (Int.tmod (wrap64 (x1 + 1)) (x0.length : Int)) < (x0.length : Int) then ((spec_l4Cross.f ((rd_T49 x0 (Int.tmod (wrap64 ((wrap64 (x1 + (x0.length : Int))) - 1)) (x0.length : Int))).f0) ((rd_T49 x0 (Int.tmod (wrap64 ((wrap64 (x1 + (x0.length : Int))) - 1)) (x0.length : Int))).f1) ((rd_T49 x0 x1).f0) ((rd_T49 x0 x1).f1) ((rd_T49 x0 (Int.tmod (wrap64 (x1 + 1)) (x0.length : Int))).f0) ((rd_T49 x0 (Int.tmod (wrap64 (x1 + 1)) (x0.length : Int))).f1)).bind fun t401 => ((spec_Max.f t401 (wrap64 (-t401))).bind fun t402 => (some t402))) else (none)) else (none)) else (none)) else (none)) else (none)) else (none)))
def spec_CornerSize.f (k : Nat) (l0 : List (S49)) (a1 : Int) : Option (Int) := (spec_IsRing.f k l0).bind fun t396 => (if t396 = true then ((spec_l1In.f a1 0 (wrap64 ((l0.length : Int) - 1))).bind fun t397 => (spec_CornerSize.j0 k l0 a1 (!t397))) else (spec_CornerSize.j0 k l0 a1 true))
set_option maxHeartbeats 8000000 in
set_option maxRecDepth 100000 in
theorem spec_CornerSize.calls (k : Nat) (A0 : Option Addr) (c0 : Nat) (l0 : List (S49)) (a1 : Int) (r : Int) (w : World) (hr0 : Kd.C k49 w A0 l0.length l0) (hc0 : l0.length ≤ c0) (h : spec_CornerSize.f k l0 a1 = some r) :
  Calls Try.prog 127 #[.slice A0 l0.length c0, .int .i64 a1] w fun e w' => e = .returned (.int .i64 r) ∧ Below w.heap.size w w' := by
 have hu49 := Try.underlying49
 have HR0 := Aside0.mk hr0
 have HC0 := Aside0.mk hc0
 clear hr0 hc0
 have HB := Aside0.mk (Below.refl w.heap.size w)
 have H : ((spec_IsRing.f k l0).bind fun t396 => (if t396 = true then ((spec_l1In.f a1 0 (wrap64 ((l0.length : Int) - 1))).bind fun t397 => (spec_CornerSize.j0 k l0 a1 (!t397))) else (spec_CornerSize.j0 k l0 a1 true))) = some r := h
 clear h
 have HC3 := Aside0.mk H
 clear H
 go_enter Try.func127, Try.ntmps127
 go_upto_region 1 with (fail)
 go_cut [16] (fun v16 wc => ∃ (kq : Nat) (x16_2 : Bool), v16 = .bool x16_2 ∧ Aside0 (spec_CornerSize.j0 kq l0 a1 x16_2 = some r) ∧ Aside0 (kq ≤ k) ∧ Aside0 (Below w.heap.size w wc))
 case first =>
  have H := HC3.out
  clear HC3
  replace H := Option.bind_eq_some_iff.mp H
  obtain ⟨t396, A40, H⟩ := H
  replace H : (if t396 = true then ((spec_l1In.f a1 0 (wrap64 ((l0.length : Int) - 1))).bind fun t397 => (spec_CornerSize.j0 k l0 a1 (!t397))) else (spec_CornerSize.j0 k l0 a1 true)) = some r := H
  have A4 := Aside0.mk A40
  clear A40
  by_cases c5 : t396 = true
  ·
   subst c5
   have H1 : ((spec_l1In.f a1 0 (wrap64 ((l0.length : Int) - 1))).bind fun t397 => (spec_CornerSize.j0 k l0 a1 (!t397))) = some r := by rw [if_pos rfl] at H; exact H
   clear H
   have H := H1
   clear H1
   replace H := Option.bind_eq_some_iff.mp H
   obtain ⟨t397, A60, H⟩ := H
   replace H : (spec_CornerSize.j0 k l0 a1 (!t397)) = some r := H
   have A6 := Aside0.mk A60
   clear A60
   have H' := Aside0.mk H
   clear H
   go_wp2_with (first | ((with_reducible refine gate_callee (f := 82) rfl ?_); refine goesL_ (some 7) rfl rfl Try.func82 (by kernel_rfl) rfl #[.slice A0 l0.length c0] rfl Hd.m_ ?_; (with_reducible refine (spec_IsRing.calls k _ _ l0 true _ ?side1 ?side2 A4.out).mono ?_); (case side1 => repeat (first | exact (Kd.C_below HR0.out HB.out) | (with_reducible refine Kd.C_alloc ?_ _) | (with_reducible refine Kd.C_drewN ?_ _) | (with_reducible refine Kd.C_drew ?_))); (case side2 => exact HC0.out); rintro e w7 ⟨rfl, hb⟩; refine ⟨_, rfl, ?_⟩; replace HB := Aside0.mk (below_step Hd.b_ hb); (try clear hb); (try clear hb2); (try clear hk); (try clear hi)) | (go_at_call 83; (with_reducible refine (spec_l1In.calls a1 0 (wrap64 ((l0.length : Int) - 1)) t397 _ A6.out).mono ?_); rintro e w' ⟨rfl, ⟨nd, rfl⟩⟩))
   go_meet
   case rel => exact ⟨_, (!t397), (by first | rfl | (simp; done) | (simp [*]; done)), H', ⟨by first | omega | exact Nat.le_refl _⟩, ⟨Hd.b_⟩⟩
  ·
   replace c5 := Bool.eq_false_iff.mpr c5
   subst c5
   have H1 : (spec_CornerSize.j0 k l0 a1 true) = some r := by rw [if_neg (show ¬ (false = true) by decide)] at H; exact H
   clear H
   have H := H1
   clear H1
   have H' := Aside0.mk H
   clear H
   go_wp2_with (first | ((with_reducible refine gate_callee (f := 82) rfl ?_); refine goesL_ (some 7) rfl rfl Try.func82 (by kernel_rfl) rfl #[.slice A0 l0.length c0] rfl Hd.m_ ?_; (with_reducible refine (spec_IsRing.calls k _ _ l0 false _ ?side1 ?side2 A4.out).mono ?_); (case side1 => repeat (first | exact (Kd.C_below HR0.out HB.out) | (with_reducible refine Kd.C_alloc ?_ _) | (with_reducible refine Kd.C_drewN ?_ _) | (with_reducible refine Kd.C_drew ?_))); (case side2 => exact HC0.out); rintro e w8 ⟨rfl, hb⟩; refine ⟨_, rfl, ?_⟩; replace HB := Aside0.mk (below_step Hd.b_ hb); (try clear hb); (try clear hb2); (try clear hk); (try clear hi)))
   go_meet
   case rel => exact ⟨_, (true), (by first | rfl | (simp; done) | (simp [*]; done)), H', ⟨by first | omega | exact Nat.le_refl _⟩, ⟨Hd.b_⟩⟩
 case rest =>
  clear HC3
  try clear c1
  try clear p2
  try clear c5
  try clear p6
  try clear c8
  obtain ⟨kq, x16_2, rfl, HA, HJ2, HB⟩ := hcut
  cases kq with
  | zero => exact absurd HA.out (by simp [spec_CornerSize.j0])
  | succ kj2 =>
   have H := HA.out
   clear HA
   simp only [spec_CornerSize.j0] at H
   by_cases c9 : x16_2 = true
   ·
    subst c9
    have H1 : (some (-1)) = some r := by rw [if_pos rfl] at H; exact H
    clear H
    have H := H1
    clear H1
    obtain rfl := Option.some.inj H
    go_wp2
    go_ret
    exact ⟨Hd.e_, Hd.b_⟩
   ·
    replace c9 := Bool.eq_false_iff.mpr c9
    subst c9
    have H1 : (if (l0.length : Int) = 0 then (none) else (if 0 ≤ (Int.tmod (wrap64 ((wrap64 (a1 + (l0.length : Int))) - 1)) (l0.length : Int)) then (if (Int.tmod (wrap64 ((wrap64 (a1 + (l0.length : Int))) - 1)) (l0.length : Int)) < (l0.length : Int) then (if 0 ≤ a1 then (if a1 < (l0.length : Int) then (if 0 ≤ (Int.tmod (wrap64 (a1 + 1)) (l0.length : Int)) then (if (Int.tmod (wrap64 (a1 + 1)) (l0.length : Int)) < (l0.length : Int) then ((spec_l4Cross.f ((rd_T49 l0 (Int.tmod (wrap64 ((wrap64 (a1 + (l0.length : Int))) - 1)) (l0.length : Int))).f0) ((rd_T49 l0 (Int.tmod (wrap64 ((wrap64 (a1 + (l0.length : Int))) - 1)) (l0.length : Int))).f1) ((rd_T49 l0 a1).f0) ((rd_T49 l0 a1).f1) ((rd_T49 l0 (Int.tmod (wrap64 (a1 + 1)) (l0.length : Int))).f0) ((rd_T49 l0 (Int.tmod (wrap64 (a1 + 1)) (l0.length : Int))).f1)).bind fun t401 => ((spec_Max.f t401 (wrap64 (-t401))).bind fun t402 => (some t402))) else (none)) else (none)) else (none)) else (none)) else (none)) else (none))) = some r := by rw [if_neg (show ¬ (false = true) by decide)] at H; exact H
    clear H
    have H := H1
    clear H1
    by_cases c10 : (l0.length : Int) = 0
    ·
     rw [if_pos c10] at H
     exact absurd H (by simp)
    ·
     rw [if_neg c10] at H
     have c10b0 : ((l0.length : Int) == 0) = false := beq_eq_false_iff_ne.mpr c10
     have c10b1 : ((l0.length : Int) != 0) = true := bne_iff_ne.mpr c10
     have c10b2 : ¬ (l0 = []) := fun h_ => c10 (by rw [h_]; rfl)
     obtain ⟨ji11, hji11⟩ : ∃ j_ : Int, (Int.tmod (wrap64 ((wrap64 (a1 + (l0.length : Int))) - 1)) (l0.length : Int)) = j_ := ⟨_, rfl⟩
     replace H : (if 0 ≤ (ji11) then (if (ji11) < (l0.length : Int) then (if 0 ≤ a1 then (if a1 < (l0.length : Int) then (if 0 ≤ (Int.tmod (wrap64 (a1 + 1)) (l0.length : Int)) then (if (Int.tmod (wrap64 (a1 + 1)) (l0.length : Int)) < (l0.length : Int) then ((spec_l4Cross.f ((rd_T49 l0 (ji11)).f0) ((rd_T49 l0 (ji11)).f1) ((rd_T49 l0 a1).f0) ((rd_T49 l0 a1).f1) ((rd_T49 l0 (Int.tmod (wrap64 (a1 + 1)) (l0.length : Int))).f0) ((rd_T49 l0 (Int.tmod (wrap64 (a1 + 1)) (l0.length : Int))).f1)).bind fun t401 => ((spec_Max.f t401 (wrap64 (-t401))).bind fun t402 => (some t402))) else (none)) else (none)) else (none)) else (none)) else (none)) else (none)) = some r := by first | (rw [hji11] at H; exact H) | (simp only [hji11] at H ⊢; exact H)
     by_cases c12 : 0 ≤ (ji11)
     ·
      rw [if_pos c12] at H
      have c12b0 : decide (0 ≤ (ji11)) = true := decide_eq_true c12
      clear c12
      by_cases c13 : (ji11) < (l0.length : Int)
      ·
       rw [if_pos c13] at H
       have c13b0 : decide ((ji11) < (l0.length : Int)) = true := decide_eq_true c13
       clear c13
       by_cases c14 : 0 ≤ a1
       ·
        rw [if_pos c14] at H
        have c14b0 : decide (0 ≤ a1) = true := decide_eq_true c14
        clear c14
        by_cases c15 : a1 < (l0.length : Int)
        ·
         rw [if_pos c15] at H
         have c15b0 : decide (a1 < (l0.length : Int)) = true := decide_eq_true c15
         clear c15
         obtain ⟨ji16, hji16⟩ : ∃ j_ : Int, (Int.tmod (wrap64 (a1 + 1)) (l0.length : Int)) = j_ := ⟨_, rfl⟩
         replace H : (if 0 ≤ (ji16) then (if (ji16) < (l0.length : Int) then ((spec_l4Cross.f ((rd_T49 l0 (ji11)).f0) ((rd_T49 l0 (ji11)).f1) ((rd_T49 l0 a1).f0) ((rd_T49 l0 a1).f1) ((rd_T49 l0 (ji16)).f0) ((rd_T49 l0 (ji16)).f1)).bind fun t401 => ((spec_Max.f t401 (wrap64 (-t401))).bind fun t402 => (some t402))) else (none)) else (none)) = some r := by first | (rw [hji16] at H; exact H) | (simp only [hji16] at H ⊢; exact H)
         by_cases c17 : 0 ≤ (ji16)
         ·
          rw [if_pos c17] at H
          have c17b0 : decide (0 ≤ (ji16)) = true := decide_eq_true c17
          clear c17
          by_cases c18 : (ji16) < (l0.length : Int)
          ·
           rw [if_pos c18] at H
           have c18b0 : decide ((ji16) < (l0.length : Int)) = true := decide_eq_true c18
           clear c18
           replace H := Option.bind_eq_some_iff.mp H
           obtain ⟨t401, A190, H⟩ := H
           replace H : ((spec_Max.f t401 (wrap64 (-t401))).bind fun t402 => (some t402)) = some r := H
           have A19 := Aside0.mk A190
           clear A190
           replace H := Option.bind_eq_some_iff.mp H
           obtain ⟨t402, A200, H⟩ := H
           replace H : (some t402) = some r := H
           have A20 := Aside0.mk A200
           clear A200
           obtain rfl := Option.some.inj H
           try go_wp2
           replace HB := Aside0.mk (below_drew1 HB.out)
           have p398 : 0 ≤ ((ji11) : Int) := of_decide_eq_true Hd.a_
           have q398 : (ji11) < (l0.length : Int) := of_decide_eq_true Hd.a_
           obtain ⟨ad398, e398, hx398_0, hx398_1⟩ := at_T49 HR0.out (ji11) p398 q398
           have hw398_1 := hx398_1
           have hw398_0 := hx398_0
           cases e398
           replace hx398_0 := (HB.out.cell (World.block_lt_of_cell? w _ hx398_0)).trans hx398_0
           replace hx398_1 := (HB.out.cell (World.block_lt_of_cell? w _ hx398_1)).trans hx398_1
           replace p398 := eq_true p398
           replace q398 := eq_true q398
           have p399 : 0 ≤ (a1 : Int) := of_decide_eq_true Hd.a_
           have q399 : a1 < (l0.length : Int) := of_decide_eq_true Hd.a_
           obtain ⟨ad399, e399, hx399_0, hx399_1⟩ := at_T49 HR0.out a1 p399 q399
           have hw399_1 := hx399_1
           have hw399_0 := hx399_0
           obtain rfl : ad398 = ad399 := (by injection e399)
           replace hx399_0 := (HB.out.cell (World.block_lt_of_cell? w _ hx399_0)).trans hx399_0
           replace hx399_1 := (HB.out.cell (World.block_lt_of_cell? w _ hx399_1)).trans hx399_1
           replace p399 := eq_true p399
           replace q399 := eq_true q399
           have p400 : 0 ≤ ((ji16) : Int) := of_decide_eq_true Hd.a_
           have q400 : (ji16) < (l0.length : Int) := of_decide_eq_true Hd.a_
           obtain ⟨ad400, e400, hx400_0, hx400_1⟩ := at_T49 HR0.out (ji16) p400 q400
           have hw400_1 := hx400_1
           have hw400_0 := hx400_0
           obtain rfl : ad398 = ad400 := (by injection e400)
           replace hx400_0 := (HB.out.cell (World.block_lt_of_cell? w _ hx400_0)).trans hx400_0
           replace hx400_1 := (HB.out.cell (World.block_lt_of_cell? w _ hx400_1)).trans hx400_1
           replace p400 := eq_true p400
           replace q400 := eq_true q400
           have s0_ := Hd.HW.x (W0 := wc.drew) ((HB.out.cell (World.block_lt_of_cell? w _ hw398_0)).trans hw398_0)
           have s1_ := Hd.HW.x (W0 := wc.drew) ((HB.out.cell (World.block_lt_of_cell? w _ hw398_1)).trans hw398_1)
           have s2_ := Hd.HW.x (W0 := wc.drew) ((HB.out.cell (World.block_lt_of_cell? w _ hw399_0)).trans hw399_0)
           have s3_ := Hd.HW.x (W0 := wc.drew) ((HB.out.cell (World.block_lt_of_cell? w _ hw399_1)).trans hw399_1)
           have s4_ := Hd.HW.x (W0 := wc.drew) ((HB.out.cell (World.block_lt_of_cell? w _ hw400_0)).trans hw400_0)
           have s5_ := Hd.HW.x (W0 := wc.drew) ((HB.out.cell (World.block_lt_of_cell? w _ hw400_1)).trans hw400_1)
           refine Hd.HW.region (by kernel_rfl) (by kernel_rfl) ?_
           repeat (go_big_quiet_step ((first | (go_at_call 155; with_reducible exact Hd.HW.c (spec_l4Cross.calls ((rd_T49 l0 (ji11)).f0) ((rd_T49 l0 (ji11)).f1) ((rd_T49 l0 a1).f0) ((rd_T49 l0 a1).f1) ((rd_T49 l0 (ji16)).f0) ((rd_T49 l0 (ji16)).f1) t401 _ A19.out)))))
           refine wpQuiet_nil ?_
           intro _ hq_
           obtain ⟨q_, rfl⟩ := hq_
           clear s0_ s1_ s2_ s3_ s4_ s5_
           replace HB := Aside0.mk (below_step HB.out q_.b)
           replace hx398_0 := q_.cell hx398_0
           replace hx398_1 := q_.cell hx398_1
           replace hx399_0 := q_.cell hx399_0
           replace hx399_1 := q_.cell hx399_1
           replace hx400_0 := q_.cell hx400_0
           replace hx400_1 := q_.cell hx400_1
           generalize q_.W = w22 at HB hx398_0 hx398_1 hx399_0 hx399_1 hx400_0 hx400_1 ⊢
           try simp only [i64_w, i32_w]
           try go_wp2_with (first | ((with_reducible refine gate_callee (f := 128) rfl ?_); refine goesL_ (some 44) rfl rfl Try.func128 (by kernel_rfl) rfl #[.int .i64 t401, .int .i64 (wrap64 (-t401))] rfl Hd.m_ ?_; (with_reducible refine (spec_Max.calls t401 (wrap64 (-t401)) t402 _ A20.out).mono ?_); rintro e w' ⟨rfl, ⟨nd, rfl⟩⟩; refine ⟨_, rfl, ?_⟩))
           go_ret
           exact ⟨by first | rfl | (simp [errW_none, errW_some] <;> rfl) | (simp only [← hji11, ← hji16]; first | rfl | (simp [errW_none, errW_some] <;> rfl)) | (simp [*, errW_none, errW_some] <;> rfl), Hd.b_⟩
          ·
           rw [if_neg c18] at H
           exact absurd H (by simp)
         ·
          rw [if_neg c17] at H
          exact absurd H (by simp)
        ·
         rw [if_neg c15] at H
         exact absurd H (by simp)
       ·
        rw [if_neg c14] at H
        exact absurd H (by simp)
      ·
       rw [if_neg c13] at H
       exact absurd H (by simp)
     ·
      rw [if_neg c12] at H
      exact absurd H (by simp)
end Go.Proofs.Ytchmbcembbbplac.MFnExactSafeRing
