-- Laid by this session's program pp.py, after the kit's print and texts of the session's own. Not trusted: Lean checks it.
import Derived.Test.YtbbdhlggnglfgaaZTakeFeatureMx0
import Derived.Test.YtbbdhlggnglfgaaZTakeFeatureMx2
import Derived.Test.YtbbdhlggnglfgaaZTakeFeatureMx3
import Derived.Test.YtbbdhlggnglfgaaZTakeFeatureMx4
import Derived.Test.YtbbdhlggnglfgaaZTakeFeatureMx11
import Derived.Test.YtbbdhlggnglfgaaZTakeFeatureMx16
namespace Go.Proofs.Ytbbdhlggnglfgaa.MFnExactTakeFeature
open Go.RowKit Go.Proofs.YtbbdhlggnglfgaaW.PrintWords Go.Proofs.YtbbdhlggnglfgaaW.PrintLast Go.Proofs.YtbbdhlggnglfgaaW.PrintMore
attribute [local go_sem] max2_int min2_int max_two min_two max_three min_three max_four min_four   -- for this text's walks alone
set_option linter.unusedVariables false
set_option linter.unusedSimpArgs false
def spec_FindFeature.l0 : Nat → List (S34) → Int → Int → Option (Int)
 | 0, _, _, _ => none
 | k + 1, x0, x1, x5 => if x5 < (x0.length : Int) then (if 0 ≤ x5 then (if ((rd_T34 x0 x5).f0) = x1 then (some x5) else (spec_FindFeature.l0 k x0 x1 (wrap64 (x5 + 1)))) else (none)) else (some (-1))
def spec_FindFeature.f (k : Nat) (l0 : List (S34)) (a1 : Int) : Option (Int) := spec_FindFeature.l0 k l0 a1 0
set_option maxHeartbeats 8000000 in
set_option maxRecDepth 100000 in
theorem spec_FindFeature.calls (k : Nat) (A0 : Option Addr) (c0 : Nat) (l0 : List (S34)) (a1 : Int) (r : Int) (w : World) (hr0 : Kd.C k34 w A0 l0.length l0) (hc0 : l0.length ≤ c0) (h : spec_FindFeature.f k l0 a1 = some r) :
  Calls Try.prog 59 #[.slice A0 l0.length c0, .int .i64 a1] w fun e w' => e = .returned (.int .i64 r) ∧ Drawn0 w w' := by
 have HR0 := Aside0.mk hr0
 have HC0 := Aside0.mk hc0
 clear hr0 hc0
 have H : (spec_FindFeature.l0 k l0 a1 0) = some r := h
 clear h
 have H' := Aside0.mk H
 clear H
 go_enter Try.func59, Try.ntmps59
 go_wp2
 go_loopg [5] k (fun kq v5 w' => ∃ (x5_1 : Int), v5 = .int .i64 x5_1 ∧ Aside0 (spec_FindFeature.l0 kq l0 a1 x5_1 = some r) ∧ Aside0 (kq ≤ k) ∧ Drawn0 w w')
 case atStart => exact ⟨(0), (by first | rfl | (simp; done) | (simp [*]; done)), H', ⟨Nat.le_refl _⟩, by repeat (first | exact Drawn0.refl _ | apply Drawn0.step)⟩
 case round =>
  clear H'
  try clear p2
  obtain ⟨x5_1, rfl, HA, HK1, ⟨m1, rfl⟩⟩ := hrel
  cases gk with
  | zero => exact absurd HA.out (by simp [spec_FindFeature.l0])
  | succ k1 =>
   have H := HA.out
   clear HA
   simp only [spec_FindFeature.l0] at H
   by_cases c3 : x5_1 < (l0.length : Int)
   ·
    rw [if_pos c3] at H
    have c3b0 : decide (x5_1 < (l0.length : Int)) = true := decide_eq_true c3
    clear c3
    by_cases c4 : 0 ≤ x5_1
    ·
     rw [if_pos c4] at H
     have c4b0 : decide (0 ≤ x5_1) = true := decide_eq_true c4
     clear c4
     by_cases c5 : ((rd_T34 l0 x5_1).f0) = a1
     ·
      rw [if_pos c5] at H
      have c5b0 : (((rd_T34 l0 x5_1).f0) == a1) = true := beq_iff_eq.mpr c5
      have c5b1 : (((rd_T34 l0 x5_1).f0) != a1) = false := bne_eq_false_iff_eq.mpr c5
      clear c5
      obtain rfl := Option.some.inj H
      have p445 : 0 ≤ (x5_1 : Int) := of_decide_eq_true Hd.a_
      have q445 : x5_1 < (l0.length : Int) := of_decide_eq_true Hd.a_
      obtain ⟨ad445, A445_4, c445_4, e445, hx445_0, hx445_1, hx445_2, hx445_3, hx445_4, hl445_4, hi445_4⟩ := at_T34 HR0.out x5_1 p445 q445
      cases e445
      have HR445_4 := Aside0.mk hi445_4
      have HC445_4 := Aside0.mk hl445_4
      clear hi445_4 hl445_4
      replace p445 := eq_true p445
      replace q445 := eq_true q445
      go_wp2
      go_ret
      exact ⟨by first | rfl | (simp; done) | (simp [*]; done), by repeat (first | exact Drawn0.refl _ | apply Drawn0.step)⟩
     ·
      rw [if_neg c5] at H
      have c5b0 : (((rd_T34 l0 x5_1).f0) == a1) = false := beq_eq_false_iff_ne.mpr c5
      have c5b1 : (((rd_T34 l0 x5_1).f0) != a1) = true := bne_iff_ne.mpr c5
      have H' := Aside0.mk H
      clear H
      have p445 : 0 ≤ (x5_1 : Int) := of_decide_eq_true Hd.a_
      have q445 : x5_1 < (l0.length : Int) := of_decide_eq_true Hd.a_
      obtain ⟨ad445, A445_4, c445_4, e445, hx445_0, hx445_1, hx445_2, hx445_3, hx445_4, hl445_4, hi445_4⟩ := at_T34 HR0.out x5_1 p445 q445
      cases e445
      have HR445_4 := Aside0.mk hi445_4
      have HC445_4 := Aside0.mk hl445_4
      clear hi445_4 hl445_4
      replace p445 := eq_true p445
      replace q445 := eq_true q445
      go_wp2
      go_roundg k1
      case measure => have := HK1.out; omega
      case rel => exact ⟨(wrap64 (x5_1 + 1)), (by first | rfl | (simp; done) | (simp [*]; done)), H', ⟨by have := HK1.out; omega⟩, by repeat (first | exact Drawn0.refl _ | apply Drawn0.step)⟩
    ·
     rw [if_neg c4] at H
     exact absurd H (by simp)
   ·
    rw [if_neg c3] at H
    have c3b0 : decide (x5_1 < (l0.length : Int)) = false := decide_eq_false c3
    clear c3
    obtain rfl := Option.some.inj H
    go_wp2
    go_ret
    exact ⟨by first | rfl | (simp; done) | (simp [*]; done), by repeat (first | exact Drawn0.refl _ | apply Drawn0.step)⟩
def spec_TakeFeature.j0 : Nat → List (S34) → Int → Bool → Option ((List (S34)) × Bool)
 | 0, _, _, _ => none
 | k + 1, x0, x6, x16 => if x16 = true then ((spec_l9Copy.f k x0).bind fun t448 => (some (t448, false))) else (if 0 ≤ x6 then (if x6 ≤ (x0.length : Int) then ((spec_l9Copy.f k (x0.take (x6 : Int).toNat)).bind fun t455 => (if 0 ≤ (wrap64 (x6 + 1)) then (if (wrap64 (x6 + 1)) ≤ (x0.length : Int) then ((spec_l9Copy.f k (x0.drop ((wrap64 (x6 + 1)) : Int).toNat)).bind fun t462 => (if t455.length + t462.length < 2199023255552 then (some ((t455 ++ t462), true)) else (none))) else (none)) else (none))) else (none)) else (none))
def spec_TakeFeature.f (k : Nat) (l0 : List (S34)) (a1 : Int) : Option ((List (S34)) × Bool) := (spec_FindFeature.f k l0 a1).bind fun t446 => ((spec_IsSource.f k l0).bind fun t447 => (if t447 = true then (spec_TakeFeature.j0 k l0 t446 (decide (t446 < 0))) else (spec_TakeFeature.j0 k l0 t446 true)))
def spec_TakeFeature.T4 : Bool × List (List Nat × List Nat) := (true, [([], []), ([], []), ([0, 1], [0, 1]), ([2], [2]), ([], []), ([], []), ([5], [5]), ([4, 6], [4, 6]), ([7, 3], [7]), ([3, 8, 8], [3, 8]), ([9, 9, 0, 1, 2, 3, 4, 5, 6, 7, 8, 9], [9]), ([10, 0, 1, 2, 3, 4, 5, 6, 7, 8, 9, 10], [])])
def spec_TakeFeature.B4 : List Nat := [0, 0, 3, 7, 0, 0, 32, 112, 255, 511, 1023, 2047]
theorem spec_TakeFeature.tab4 : rtab .any (opsOf Try.f32 4) = spec_TakeFeature.T4 := by kernel_rfl
theorem spec_TakeFeature.bits4 : waitsOk spec_TakeFeature.T4.2 spec_TakeFeature.B4 = true := by kernel_rfl
set_option maxHeartbeats 8000000 in
set_option maxRecDepth 100000 in
theorem spec_TakeFeature.calls (k : Nat) (A0 : Option Addr) (c0 : Nat) (l0 : List (S34)) (a1 : Int) (r1 : List (S34)) (r2 : Bool) (w : World) (hr0 : Kd.C k34 w A0 l0.length l0) (hc0 : l0.length ≤ c0) (h : spec_TakeFeature.f k l0 a1 = some (r1, r2)) :
  Calls Try.prog 32 #[.slice A0 l0.length c0, .int .i64 a1] w fun e w' => ∃ v0_ : Value, e = .returned (.tuple #[v0_, .bool r2]) ∧ Kd.N k34 34 w' w.heap.size (fun k_ => (w.heap.size ≤ k_)) v0_ r1 ∧ Below w.heap.size w w' := by
 have HR0 := Aside0.mk hr0
 have HC0 := Aside0.mk hc0
 clear hr0 hc0
 have HB := Aside0.mk (Below.refl w.heap.size w)
 have H : ((spec_FindFeature.f k l0 a1).bind fun t446 => ((spec_IsSource.f k l0).bind fun t447 => (if t447 = true then (spec_TakeFeature.j0 k l0 t446 (decide (t446 < 0))) else (spec_TakeFeature.j0 k l0 t446 true)))) = some (r1, r2) := h
 clear h
 replace H := Option.bind_eq_some_iff.mp H
 obtain ⟨t446, A30, H⟩ := H
 replace H : ((spec_IsSource.f k l0).bind fun t447 => (if t447 = true then (spec_TakeFeature.j0 k l0 t446 (decide (t446 < 0))) else (spec_TakeFeature.j0 k l0 t446 true))) = some (r1, r2) := H
 have A3 := Aside0.mk A30
 clear A30
 have HC4 := Aside0.mk H
 clear H
 go_enter Try.func32, Try.ntmps32
 go_upto_region 2 with (first | ((with_reducible refine gate_callee (f := 59) rfl ?_); refine goesL_ (some 9) rfl rfl Try.func59 (by kernel_rfl) rfl #[.slice A0 l0.length c0, .int .i64 a1] rfl Hd.m_ ?_; (with_reducible refine (spec_FindFeature.calls k _ _ l0 a1 t446 _ ?side1 ?side2 A3.out).mono ?_); (case side1 => repeat (first | exact HR0.out | (with_reducible refine Kd.C_alloc ?_ _) | (with_reducible refine Kd.C_drewN ?_ _) | (with_reducible refine Kd.C_drew ?_))); (case side2 => exact HC0.out); rintro e w' ⟨rfl, ⟨nd, rfl⟩⟩; refine ⟨_, rfl, ?_⟩))
 (try simp only [Act.put, List.setIfInBounds_toArray, List.set_cons_zero, List.set_cons_succ])
 go_cut [16] (fun v16 wc => ∃ (kq : Nat) (x16_3 : Bool), v16 = .bool x16_3 ∧ Aside0 (spec_TakeFeature.j0 kq l0 t446 x16_3 = some (r1, r2)) ∧ Aside0 (kq ≤ k) ∧ Aside0 (Below w.heap.size w wc))
 case first =>
  have H := HC4.out
  clear HC4
  replace H := Option.bind_eq_some_iff.mp H
  obtain ⟨t447, A50, H⟩ := H
  replace H : (if t447 = true then (spec_TakeFeature.j0 k l0 t446 (decide (t446 < 0))) else (spec_TakeFeature.j0 k l0 t446 true)) = some (r1, r2) := H
  have A5 := Aside0.mk A50
  clear A50
  by_cases c6 : t447 = true
  ·
   subst c6
   have H1 : (spec_TakeFeature.j0 k l0 t446 (decide (t446 < 0))) = some (r1, r2) := by rw [if_pos rfl] at H; exact H
   clear H
   have H := H1
   clear H1
   have H' := Aside0.mk H
   clear H
   go_wp2_with (first | ((with_reducible refine gate_callee (f := 36) rfl ?_); refine goesL_ (some 11) rfl rfl Try.func36 (by kernel_rfl) rfl #[.slice A0 l0.length c0] rfl Hd.m_ ?_; (with_reducible refine (spec_IsSource.calls k _ _ l0 true _ ?side1 ?side2 A5.out).mono ?_); (case side1 => repeat (first | exact (Kd.C_below HR0.out HB.out) | (with_reducible refine Kd.C_alloc ?_ _) | (with_reducible refine Kd.C_drewN ?_ _) | (with_reducible refine Kd.C_drew ?_))); (case side2 => exact HC0.out); rintro e w7 ⟨rfl, hb⟩; refine ⟨_, rfl, ?_⟩; replace HB := Aside0.mk (below_step Hd.b_ hb); (try clear hb); (try clear hb2); (try clear hk); (try clear hi)))
   go_meet
   case rel => exact ⟨_, (decide (t446 < 0)), (by first | rfl | (simp; done) | (simp [*]; done)), H', ⟨by first | omega | exact Nat.le_refl _⟩, ⟨Hd.b_⟩⟩
  ·
   replace c6 := Bool.eq_false_iff.mpr c6
   subst c6
   have H1 : (spec_TakeFeature.j0 k l0 t446 true) = some (r1, r2) := by rw [if_neg (show ¬ (false = true) by decide)] at H; exact H
   clear H
   have H := H1
   clear H1
   have H' := Aside0.mk H
   clear H
   go_wp2_with (first | ((with_reducible refine gate_callee (f := 36) rfl ?_); refine goesL_ (some 11) rfl rfl Try.func36 (by kernel_rfl) rfl #[.slice A0 l0.length c0] rfl Hd.m_ ?_; (with_reducible refine (spec_IsSource.calls k _ _ l0 false _ ?side1 ?side2 A5.out).mono ?_); (case side1 => repeat (first | exact (Kd.C_below HR0.out HB.out) | (with_reducible refine Kd.C_alloc ?_ _) | (with_reducible refine Kd.C_drewN ?_ _) | (with_reducible refine Kd.C_drew ?_))); (case side2 => exact HC0.out); rintro e w8 ⟨rfl, hb⟩; refine ⟨_, rfl, ?_⟩; replace HB := Aside0.mk (below_step Hd.b_ hb); (try clear hb); (try clear hb2); (try clear hk); (try clear hi)))
   go_meet
   case rel => exact ⟨_, (true), (by first | rfl | (simp; done) | (simp [*]; done)), H', ⟨by first | omega | exact Nat.le_refl _⟩, ⟨Hd.b_⟩⟩
 case rest =>
  clear HC4
  try clear p2
  try clear c3
  try clear c5
  try clear c6
  obtain ⟨kq, x16_3, rfl, HA, HJ3, HB⟩ := hcut
  cases kq with
  | zero => exact absurd HA.out (by simp [spec_TakeFeature.j0])
  | succ kj3 =>
   have H := HA.out
   clear HA
   simp only [spec_TakeFeature.j0] at H
   by_cases c9 : x16_3 = true
   ·
    subst c9
    have H1 : ((spec_l9Copy.f kj3 l0).bind fun t448 => (some (t448, false))) = some (r1, r2) := by rw [if_pos rfl] at H; exact H
    clear H
    have H := H1
    clear H1
    replace H := Option.bind_eq_some_iff.mp H
    obtain ⟨t448, A100, H⟩ := H
    replace H : (some (t448, false)) = some (r1, r2) := H
    have A10 := Aside0.mk A100
    clear A100
    simp only [Option.some.injEq, Prod.mk.injEq] at H
    obtain ⟨rfl, rfl⟩ := H
    go_wp2_with (first | ((with_reducible refine gate_callee (f := 34) rfl ?_); refine goesL_ (some 18) rfl rfl Try.func34 (by kernel_rfl) rfl #[.slice A0 l0.length c0] rfl Hd.m_ ?_; (with_reducible refine (spec_l9Copy.calls kj3 _ _ l0 t448 _ ?side1 ?side2 A10.out).mono ?_); (case side1 => repeat (first | exact (Kd.C_below HR0.out HB.out) | (with_reducible refine Kd.C_alloc ?_ _) | (with_reducible refine Kd.C_drewN ?_ _) | (with_reducible refine Kd.C_drew ?_))); (case side2 => exact HC0.out); rintro e w11 ⟨v449, rfl, ho0, hb⟩; refine ⟨_, rfl, ?_⟩; have HO450 := Aside0.mk (Kd.N_lower (Kd.N_mono (ok' := fun k_ => (w.heap.size ≤ k_)) (Kd.S_N (Kd.S_bound ho0)) (fun k_ hk_ => (Nat.le_trans (below_size Hd.b_) hk_.2.1))) (below_size Hd.b_)); replace HB := Aside0.mk (below_step Hd.b_ hb); (try clear hb); (try clear hb2); (try clear hk); (try clear hi); (try clear ho0)))
    go_ret2
    exact ⟨_, Hd.e_, by (with_reducible repeat (first | apply Kd.N_alloc | apply Kd.N_drewN | apply Kd.N_drew)); exact HO450.out, Hd.b_⟩
   ·
    replace c9 := Bool.eq_false_iff.mpr c9
    subst c9
    have H1 : (if 0 ≤ t446 then (if t446 ≤ (l0.length : Int) then ((spec_l9Copy.f kj3 (l0.take (t446 : Int).toNat)).bind fun t455 => (if 0 ≤ (wrap64 (t446 + 1)) then (if (wrap64 (t446 + 1)) ≤ (l0.length : Int) then ((spec_l9Copy.f kj3 (l0.drop ((wrap64 (t446 + 1)) : Int).toNat)).bind fun t462 => (if t455.length + t462.length < 2199023255552 then (some ((t455 ++ t462), true)) else (none))) else (none)) else (none))) else (none)) else (none)) = some (r1, r2) := by rw [if_neg (show ¬ (false = true) by decide)] at H; exact H
    clear H
    have H := H1
    clear H1
    by_cases c12 : 0 ≤ t446
    ·
     rw [if_pos c12] at H
     have c12b0 := eq_true c12
     have c12b1 : decide (0 ≤ t446) = true := decide_eq_true c12
     clear c12
     by_cases c13 : t446 ≤ (l0.length : Int)
     ·
      rw [if_pos c13] at H
      have c13b0 := eq_true c13
      have c13b1 : decide (t446 ≤ (l0.length : Int)) = true := decide_eq_true c13
      clear c13
      obtain ⟨y451, hy451⟩ : ∃ y_ : List (S34), y_ = (l0.take (t446 : Int).toNat) := ⟨_, rfl⟩
      replace H : ((spec_l9Copy.f kj3 y451).bind fun t455 => (if 0 ≤ (wrap64 (t446 + 1)) then (if (wrap64 (t446 + 1)) ≤ (l0.length : Int) then ((spec_l9Copy.f kj3 (l0.drop ((wrap64 (t446 + 1)) : Int).toNat)).bind fun t462 => (if t455.length + t462.length < 2199023255552 then (some ((t455 ++ t462), true)) else (none))) else (none)) else (none))) = some (r1, r2) := by first | (rw [hy451]; with_reducible exact H) | (have H2_ := (Option.bind_some _ _).symm.trans H; rw [hy451]; with_reducible exact H2_) | (have H2_ := (Option.bind_some _ _).symm.trans H; with_reducible exact H2_) | with_reducible exact H | (rw [hy451]; exact H) | exact H
      have Ny451 := Aside0.mk hy451
      clear hy451
      replace H := Option.bind_eq_some_iff.mp H
      obtain ⟨t455, A140, H⟩ := H
      replace H : (if 0 ≤ (wrap64 (t446 + 1)) then (if (wrap64 (t446 + 1)) ≤ (l0.length : Int) then ((spec_l9Copy.f kj3 (l0.drop ((wrap64 (t446 + 1)) : Int).toNat)).bind fun t462 => (if t455.length + t462.length < 2199023255552 then (some ((t455 ++ t462), true)) else (none))) else (none)) else (none)) = some (r1, r2) := H
      have A14 := Aside0.mk A140
      clear A140
      obtain ⟨ji15, hji15⟩ : ∃ j_ : Int, (wrap64 (t446 + 1)) = j_ := ⟨_, rfl⟩
      replace H : (if 0 ≤ (ji15) then (if (ji15) ≤ (l0.length : Int) then ((spec_l9Copy.f kj3 (l0.drop ((ji15) : Int).toNat)).bind fun t462 => (if t455.length + t462.length < 2199023255552 then (some ((t455 ++ t462), true)) else (none))) else (none)) else (none)) = some (r1, r2) := by first | (rw [hji15] at H; exact H) | (simp only [hji15] at H ⊢; exact H)
      (try rw [hji15] at A14)
      have hji15w : (IntKind.i64.wrap (t446 + 1)) = ji15 := (i64_w _).trans hji15
      by_cases c16 : 0 ≤ (ji15)
      ·
       rw [if_pos c16] at H
       have c16b0 := eq_true c16
       have c16b1 : decide (0 ≤ (ji15)) = true := decide_eq_true c16
       clear c16
       by_cases c17 : (ji15) ≤ (l0.length : Int)
       ·
        rw [if_pos c17] at H
        have c17b0 := eq_true c17
        have c17b1 : decide ((ji15) ≤ (l0.length : Int)) = true := decide_eq_true c17
        clear c17
        obtain ⟨y458, hy458⟩ : ∃ y_ : List (S34), y_ = (l0.drop ((ji15) : Int).toNat) := ⟨_, rfl⟩
        replace H : ((spec_l9Copy.f kj3 y458).bind fun t462 => (if t455.length + t462.length < 2199023255552 then (some ((t455 ++ t462), true)) else (none))) = some (r1, r2) := by first | (rw [hy458]; with_reducible exact H) | (have H2_ := (Option.bind_some _ _).symm.trans H; rw [hy458]; with_reducible exact H2_) | (have H2_ := (Option.bind_some _ _).symm.trans H; with_reducible exact H2_) | with_reducible exact H | (rw [hy458]; exact H) | exact H
        have Ny458 := Aside0.mk hy458
        clear hy458
        replace H := Option.bind_eq_some_iff.mp H
        obtain ⟨t462, A180, H⟩ := H
        replace H : (if t455.length + t462.length < 2199023255552 then (some ((t455 ++ t462), true)) else (none)) = some (r1, r2) := H
        have A18 := Aside0.mk A180
        clear A180
        by_cases c19 : t455.length + t462.length < 2199023255552
        ·
         rw [if_pos c19] at H
         have LMc19 := Aside0.mk c19
         clear c19
         obtain ⟨y465, hy465⟩ : ∃ y_ : List (S34), y_ = (t455 ++ t462) := ⟨_, rfl⟩
         replace H : (some (y465, true)) = some (r1, r2) := by first | (rw [hy465]; with_reducible exact H) | (have H2_ := (Option.bind_some _ _).symm.trans H; rw [hy465]; with_reducible exact H2_) | (have H2_ := (Option.bind_some _ _).symm.trans H; with_reducible exact H2_) | with_reducible exact H | (rw [hy465]; exact H) | exact H
         have Ny465 := Aside0.mk hy465
         clear hy465
         simp only [Option.some.injEq, Prod.mk.injEq] at H
         obtain ⟨rfl, rfl⟩ := H
         try go_wp2
         replace HB := Aside0.mk (below_drew1 HB.out)
         have q21 : (t446 : Int) ≤ ((l0.length : Int) : Int) := of_decide_eq_true Hd.a_
         obtain ⟨i021, hi021, _, hsz21, _⟩ := info_parts info34
         have hroom21 : l0.length ≤ c0 := HC0.out
         have hC21 : Kd.C k34 _ A0 l0.length l0 := HR0.out
         have hcut21 := cut_to (P := Try.prog) 28 34 .i64 Try.underlying28 hi021 A0 l0.length c0 t446 (of_decide_eq_true Hd.a_) q21 hroom21
         have hr21 := Kd.C_take (m := (t446 : Int).toNat) hC21 (by omega)
         have hy21 : y451.length = (t446 : Int).toNat := (by rw [Ny451.out, List.length_take]; omega)
         rw [← Ny451.out] at hr21
         rw [← hy21] at hcut21
         have HR454 := Aside0.mk hr21
         have HC454 := Aside0.mk (show y451.length ≤ c0 from by omega)
         clear hr21 hC21 hroom21 hi021 hsz21
         have KY21 := Aside0.mk hy21
         clear hy21
         replace q21 := eq_true q21
         have q22 : ((ji15) : Int) ≤ ((l0.length : Int) : Int) := of_decide_eq_true Hd.a_
         obtain ⟨i022, hi022, _, hsz22, _⟩ := info_parts info34
         have hroom22 : l0.length ≤ c0 := HC0.out
         have hC22 : Kd.C k34 _ A0 l0.length l0 := HR0.out
         have q022 : (0 : Int) ≤ ((ji15) : Int) := of_decide_eq_true Hd.a_
         have hcut22 := cut_from (P := Try.prog) 28 34 .i64 Try.underlying28 hi022 5 hsz22 A0 l0.length c0 (ji15) q022 q22
         have hr22 := Kd.C_drop (m := ((ji15) : Int).toNat) (c := c0) hC22 (by omega) hroom22
         obtain ⟨A22, hA22⟩ : ∃ A1, A1 = (if c0 = ((ji15) : Int).toNat then A0 else (A0 : Option Addr).map (·.add (((ji15) : Int).toNat * 5))) := ⟨_, rfl⟩
         obtain ⟨c22, hc22⟩ : ∃ c1, c1 = c0 - ((ji15) : Int).toNat := ⟨_, rfl⟩
         have hy22 : y458.length = l0.length - ((ji15) : Int).toNat := (by rw [Ny458.out, List.length_drop] <;> omega)
         rw [show (l0).drop ((ji15) : Int).toNat = y458 from Ny458.out.symm] at hr22
         replace hr22 : Kd.C k34 _ A22 y458.length y458 := (by rw [hA22]; exact hr22)
         rw [← hy22, ← hA22, ← hc22] at hcut22
         have HR461 := Aside0.mk hr22
         have HC461 := Aside0.mk (show y458.length ≤ c22 from by rw [hy22, hc22]; exact Nat.sub_le_sub_right hroom22 _)
         clear hr22 hC22 hroom22 hi022 hsz22 hc22
         have KY22 := Aside0.mk hy22
         have KA22 := Aside0.mk hA22
         clear hy22 hA22
         replace q22 := eq_true q22
         refine start_ (n := 12) (S := fun w' => True) (ds := []) #[false, false, false, false, false, false, false, false, false, false, false, false] (by kernel_rfl) rfl rfl trivial (fun hHeld => ?_); refine with_tabW spec_TakeFeature.tab4 spec_TakeFeature.bits4 (fun HT_ HW_ => ?_)
         generalize wc.drew = w20 at HB HR454 HR461 hHeld ⊢
         refine Hd.p_ HT_ 0 (some 19) #[true, false, false, false, false, false, false, false, false, false, false, false] ?_
         refine Hd.p_ HT_ 1 (some 20) #[true, true, false, false, false, false, false, false, false, false, false, false] ?_
         refine Hd.p_ HT_ 2 (some 21) #[true, true, true, false, false, false, false, false, false, false, false, false] ?_
         refine Hd.p_ HT_ 4 (some 23) #[true, true, true, false, true, false, false, false, false, false, false, false] ?_
         refine Hd.p_ HT_ 5 (some 24) #[true, true, true, false, true, true, false, false, false, false, false, false] ?_
         refine Hd.p_ HT_ 6 (some 25) #[true, true, true, false, true, true, true, false, false, false, false, false] ?_
         refine Hd.p_ HT_ 7 (some 26) #[true, true, true, false, true, true, true, true, false, false, false, false] ?_
         refine Hd.o_ HT_ 3 (some 22) #[true, true, true, true, true, true, true, true, false, false, false, false] (fun K hK => ?_)
         refine goes_ Try.func34 (by kernel_rfl) rfl #[.slice A0 y451.length c0] (by rfl) rfl rfl Hd.m_ ?_
         with_reducible refine (spec_l9Copy.calls kj3 _ _ y451 t455 _ ?side1 ?side2 A14.out).mono ?_
         (case side1 => repeat (first | exact (Kd.C_below HR454.out HB.out) | (with_reducible refine Kd.C_alloc ?_ _) | (with_reducible refine Kd.C_drewN ?_ _) | (with_reducible refine Kd.C_drew ?_)))
         (case side2 => exact HC454.out)
         rintro e w23 ⟨v456, rfl, ho0, hb⟩
         refine ⟨_, rfl, ?_⟩
         have HO457 := Aside0.mk (Kd.N_lower (Kd.N_mono (ok' := fun k_ => (w.heap.size ≤ k_)) (Kd.S_N (Kd.S_bound ho0)) (fun k_ hk_ => (Nat.le_trans (below_size Hd.b_) hk_.2.1))) (below_size Hd.b_))
         replace HB := Aside0.mk (below_step Hd.b_ hb)
         (try clear hb)
         (try clear hb2)
         (try clear hk)
         (try clear hi)
         (try clear ho0)
         refine hK.out _ _ trivial (fun hHeld => ?_)
         clear hK K
         refine Hd.n_ (some 22) ?_
         refine Hd.o_ HT_ 8 (some 27) #[true, true, true, true, true, true, true, true, true, false, false, false] (fun K hK => ?_)
         refine goes_ Try.func34 (by kernel_rfl) rfl #[.slice A22 y458.length c22] (by rfl) rfl rfl Hd.m_ ?_
         with_reducible refine (spec_l9Copy.calls kj3 _ _ y458 t462 _ ?side1 ?side2 A18.out).mono ?_
         (case side1 => repeat (first | exact (Kd.C_below HR461.out HB.out) | (with_reducible refine Kd.C_alloc ?_ _) | (with_reducible refine Kd.C_drewN ?_ _) | (with_reducible refine Kd.C_drew ?_)))
         (case side2 => exact HC461.out)
         rintro e w24 ⟨v463, rfl, ho0, hb⟩
         refine ⟨_, rfl, ?_⟩
         have HO464 := Aside0.mk (Kd.N_lower (Kd.N_mono (ok' := fun k_ => (w.heap.size ≤ k_) ∧ some k_ ≠ (v456 : Value).ownBlock) (Kd.S_N (Kd.S_bound ho0)) (fun k_ hk_ => ⟨(Nat.le_trans (below_size Hd.b_) hk_.2.1), (Kd.fresh' (Kd.N_lt (by (with_reducible repeat (first | apply Kd.N_alloc | apply Kd.N_drewN | apply Kd.N_drew)); exact HO457.out)) k_ hk_.2.1)⟩)) (below_size Hd.b_))
         replace HO457 := Aside0.mk (Kd.N_elder' (by (with_reducible repeat (first | apply Kd.N_alloc | apply Kd.N_drewN | apply Kd.N_drew)); exact HO457.out) (Kd.S_base ho0) hb)
         replace HB := Aside0.mk (below_step Hd.b_ hb)
         (try clear hb)
         (try clear hb2)
         (try clear hk)
         (try clear hi)
         (try clear ho0)
         obtain ⟨Ao26, co26, eo26⟩ := Kd.N_slice HO464.out
         (first | subst eo26 | (injection eo26 with f1_ f2_ f3_; have f4_ := f1_.symm; have f5_ := f3_.symm; clear f1_ f2_ f3_; subst f4_; subst f5_))
         refine hK.out _ _ trivial (fun hHeld => ?_)
         clear hK K
         refine Hd.n_ (some 27) ?_
         refine Hd.o_ HT_ 9 (some 28) #[true, true, true, true, true, true, true, true, true, true, false, false] (fun K hK => ?_)
         refine Kd.N_append_rows_step k34 (w0 := w) w.heap.size (by rfl) (.tmp 22) (.tmp 27) 28 34 (.agg #[(.int .i64 0), (.int .i64 0), (.int .i64 0), (.string ⟨#[]⟩), (.slice none 0 0)]) 64 rfl Try.underlying28 info34 rfl (by decide) (by omega) v456 t455 t462 _ _ _ (fun k_ => (w.heap.size ≤ k_)) (fun k_ => ((fun k_ => (w.heap.size ≤ k_))) k_ ∧ some k_ ≠ (v456 : Value).ownBlock) rfl rfl ?aO ?aR (fun _ hk => hk) ?aF ?aB ?aS ?aL ?_
         (case aR => exact (by skip; exact Kd.N_F (Kd.N_mono (ok' := (fun k_ => ((fun k_ => (w.heap.size ≤ k_))) k_ ∧ some k_ ≠ (v456 : Value).ownBlock)) (HO464.out) (fun k_ hk => ⟨hk.1, hk.2⟩))))
         (case aB => exact Hd.b_)
         (case aF => exact (fun k_ hk => (Nat.le_trans (below_size Hd.b_) hk)))
         (case aO => exact (by (with_reducible repeat (first | apply Kd.N_alloc | apply Kd.N_drewN | apply Kd.N_drew)); exact Kd.N_mono HO457.out (fun _ hk => hk.1)))
         (case aS => exact (below_size Hd.b_))
         (case aL => have := LMc19.out; omega)
         intro v466 w25 ho hb hg hat
         rw [← Ny465.out] at ho
         have n0_ := Aside0.mk (Kd.N_afterv (ok := (fun k_ => (w.heap.size ≤ k_))) (by (with_reducible repeat (first | apply Kd.N_alloc | apply Kd.N_drewN | apply Kd.N_drew)); exact HO464.out) hg hat)
         have n1_ := Aside0.mk (hb)
         have n2_ := Aside0.mk (ho)
         clear HO464
         clear HB
         clear HO457
         have HO464 := n0_
         have HB := n1_
         have HO467 := n2_
         clear n0_ n1_ n2_
         clear ho hb hg hat
         refine hK.out _ _ trivial (fun hHeld => ?_)
         clear hK K
         refine Hd.n_ (some 28) ?_
         refine Hd.p_ HT_ 10 (some 4) #[true, true, true, true, true, true, true, true, true, true, true, false] ?_
         refine Hd.p_ HT_ 11 (some 5) #[true, true, true, true, true, true, true, true, true, true, true, true] ?_
         refine done_ (done_of HT_.out (by kernel_rfl)) ?_
         try go_wp2
         go_ret2
         exact ⟨_, by first | rfl | (simp [errW_none, errW_some] <;> rfl) | (simp only [← hji15]; first | rfl | (simp [errW_none, errW_some] <;> rfl)) | (simp [*, errW_none, errW_some] <;> rfl), by (with_reducible repeat (first | apply Kd.N_alloc | apply Kd.N_drewN | apply Kd.N_drew)); exact HO467.out, Hd.b_⟩
        ·
         rw [if_neg c19] at H
         exact absurd H (by simp)
       ·
        rw [if_neg c17] at H
        exact absurd H (by simp)
      ·
       rw [if_neg c16] at H
       exact absurd H (by simp)
     ·
      rw [if_neg c13] at H
      exact absurd H (by simp)
    ·
     rw [if_neg c12] at H
     exact absurd H (by simp)
def laws_FnExactTakeFeature.f (k : Nat) (l0 : List S25) (a1 : Int) : Option Bool := (laws_szFeatureS.f k l0 1048576).bind fun t0 => if t0 < 0 then some true else
  (laws_toFeatureS.f k l0).bind fun x => (spec_TakeFeature.f k x a1).bind fun s => (impl_TakeFeature.f k x a1).bind fun g =>
  (laws_eqFeatureS.f k g.1 s.1).bind fun e1 => (laws_eqFeatureS.f k x x).bind fun e2 => (laws_markFeatureS.f k x 1).bind fun my => (laws_markFeatureS.f k g.1 1).bind fun mg => (laws_heldFeatureS.f k mg.2 1).bind fun q =>
  if e1 = true ∧ e2 = true ∧ g.2 = s.2 ∧ 0 ≤ my.1 ∧ q = mg.1 ∧ 0 ≤ q then some true else none
section
variable {α : Type} {d : Kd α} {e b0 n c : Nat} {w W w' : World} {A : Option Addr} {v u z : Value} {xs ys zs : List α} {PY PS PG PR : Nat → Prop}
theorem laws_FnExactTakeFeature.s_ {P Q : Prop} (a : Aside0 P) (h : P → Q := by intro h_; (with_reducible repeat (first | apply Kd.S_alloc | apply Kd.S_drewN | apply Kd.S_drew)); exact h_) : Q := h a.out
theorem laws_FnExactTakeFeature.n_ {P Q : Prop} (a : Aside0 P) (h : P → Q := by intro h_; (with_reducible repeat (first | apply Kd.N_alloc | apply Kd.N_drewN | apply Kd.N_drew)); exact h_) : Q := h a.out
theorem laws_FnExactTakeFeature.own4 (hs : Kd.N d e W b0 PS u ys) (ho : Kd.S d e w' W.heap.size (fun _ => True) v xs) (hB : Below w.heap.size w W) (hb : Below W.heap.size W w') : ∃ a, w.heap.size ≤ a ∧ Kd.S d e w' w.heap.size (fun k => a ≤ k) v xs ∧ Kd.N d e w' 0 (fun k => k < a) u ys :=
  ⟨W.heap.size, hB.size, Kd.S_lower (Kd.S_mono (Kd.S_bound ho) (fun _ hk => hk.2.1)) hB.size, Kd.N_lower (Kd.N_mono (Kd.N_old hs hb) (fun _ hk => hk.2)) (Nat.zero_le _)⟩
theorem laws_FnExactTakeFeature.own5 {a : Nat} (hs : Kd.N d e W b0 (fun k => k < a) u ys) (hy : Kd.S d e W w.heap.size (fun k => a ≤ k) z zs) (ho : Kd.S d e w' W.heap.size (fun _ => True) v xs) (hB : Below w.heap.size w W) (hb : Below W.heap.size W w') :
    ∃ c, w.heap.size ≤ c ∧ Kd.S d e w' w.heap.size (fun k => c ≤ k) v xs ∧ Kd.S d e w' w.heap.size (fun k => a ≤ k ∧ k < c) z zs ∧ Kd.N d e w' b0 (fun k => k < a ∧ k < c) u ys :=
  ⟨W.heap.size, hB.size, Kd.S_lower (Kd.S_mono (Kd.S_bound ho) (fun _ hk => hk.2.1)) hB.size, Kd.S_mono (Kd.S_below (Kd.S_bound hy) hb) (fun _ hk => ⟨hk.1, hk.2.2.1⟩), Kd.N_old hs hb⟩
end
theorem laws_FnExactTakeFeature.held (k : Nat) (A : Option Addr) (n c : Nat) (l : List S34) (a r : Int) (w : World) (hn : n = l.length) (hr : Kd.C k34 w A l.length l) (hc : n ≤ c) (h : laws_heldFeatureS.f k l a = some r) :
    Calls Try.prog 17 #[.slice A n c, .int .i64 a] w fun e w' => e = .returned (.int .i64 r) ∧ Below w.heap.size w w' := by
  subst hn; exact laws_heldFeatureS.calls k A c l a r w hr hc h
set_option maxHeartbeats 8000000 in
set_option maxRecDepth 100000 in
theorem laws_FnExactTakeFeature.calls (k : Nat) (A0 : Option Addr) (c0 : Nat) (l0 : List S25) (a1 : Int) (r : Bool) (w : World) (hr0 : Kd.C k25 w A0 l0.length l0) (hc0 : l0.length ≤ c0) (h : laws_FnExactTakeFeature.f k l0 a1 = some r) :
    Calls Try.prog 6 #[.slice A0 l0.length c0, .int .i64 a1] w fun e w' => e = .returned (.bool r) ∧ Below w.heap.size w w' := by
  unfold laws_FnExactTakeFeature.f at h
  replace h := Option.bind_eq_some_iff.1 h; obtain ⟨t0, h0, h⟩ := h
  have HR := Aside0.mk hr0
  have HC := Aside0.mk hc0
  have H0 := Aside0.mk h0
  have HB := Aside0.mk (Below.refl w.heap.size w)
  clear hr0 hc0 h0
  by_cases c : t0 < 0
  · rw [if_pos c] at h
    obtain rfl := Option.some.inj h
    have b0 := decide_eq_true c
    clear h c
    go_enter Try.func6, Try.ntmps6
    go_wp2_with (first | (go_at_call 7; (with_reducible refine (laws_szFeatureS.calls k A0 c0 l0 1048576 t0 _ (Kd.C_below HR.out Hd.b_) HC.out H0.out).mono ?_); rintro e w1 ⟨rfl, hb⟩; replace HB := Aside0.mk (below_step Hd.b_ hb); clear hb))
    go_ret
    exact ⟨rfl, Hd.b_⟩
  rw [if_neg c] at h
  have b0 := decide_eq_false c
  clear c
  replace h := Option.bind_eq_some_iff.1 h; obtain ⟨x, hx, h⟩ := h
  replace h := Option.bind_eq_some_iff.1 h; obtain ⟨⟨s1, s2⟩, hs, h⟩ := h
  replace h := Option.bind_eq_some_iff.1 h; obtain ⟨⟨g1, g2⟩, hg, h⟩ := h
  replace h := Option.bind_eq_some_iff.1 h; obtain ⟨e1, he1, h⟩ := h
  replace h := Option.bind_eq_some_iff.1 h; obtain ⟨e2, he2, h⟩ := h
  replace h := Option.bind_eq_some_iff.1 h; obtain ⟨⟨y1, y2⟩, hy, h⟩ := h
  replace h := Option.bind_eq_some_iff.1 h; obtain ⟨⟨m1, m2⟩, hm, h⟩ := h
  replace h := Option.bind_eq_some_iff.1 h; obtain ⟨q, hq, h⟩ := h
  dsimp only at h he1 he2 hm hq
  by_cases hc : e1 = true ∧ e2 = true ∧ g2 = s2 ∧ 0 ≤ y1 ∧ q = m1 ∧ 0 ≤ q
  case neg => rw [if_neg hc] at h; cases h
  rw [if_pos hc] at h
  obtain rfl := Option.some.inj h
  obtain ⟨rfl, rfl, rfl, p1, rfl, p2⟩ := hc
  have b1 : decide (y1 < 0) = false := decide_eq_false (by omega)
  have b2 : decide (q < 0) = false := decide_eq_false (by omega)
  have b3 : (q != q) = false := by simp
  have b4 : (q == q) = true := by simp
  clear h p1 p2
  have HX := Aside0.mk hx
  have HSP := Aside0.mk hs
  have HIM := Aside0.mk hg
  have HE1 := Aside0.mk he1
  have HE2 := Aside0.mk he2
  have HMY := Aside0.mk hy
  have HMG := Aside0.mk hm
  have HQ := Aside0.mk hq
  clear hx hs hg he1 he2 hy hm hq
  have K1 := Aside0.mk trivial
  have K2 := Aside0.mk trivial
  have K3 := Aside0.mk trivial
  have K4 := Aside0.mk trivial
  have K5 := Aside0.mk trivial
  have K6 := Aside0.mk trivial
  have K7 := Aside0.mk trivial
  have K8 := Aside0.mk trivial
  have K9 := Aside0.mk trivial
  have KA := Aside0.mk trivial
  have KB := Aside0.mk trivial
  have KC := Aside0.mk trivial
  have KD := Aside0.mk trivial
  have KE := Aside0.mk trivial
  have KF := Aside0.mk trivial
  cases g2 <;> (
    go_enter Try.func6, Try.ntmps6
    go_wp2_with (first
      | (clear K1; go_at_call 7; (with_reducible refine (laws_szFeatureS.calls k A0 c0 l0 1048576 t0 _ (Kd.C_below HR.out Hd.b_) HC.out H0.out).mono ?_); rintro e w1 ⟨rfl, hb⟩; replace HB := Aside0.mk (below_step Hd.b_ hb); clear hb)
      | (clear K2; go_at_call 10; (with_reducible refine (laws_toFeatureS.calls k A0 c0 l0 x _ (Kd.C_below HR.out Hd.b_) HC.out HX.out).mono ?_); rintro e w2 ⟨vx, rfl, ho, hb⟩; obtain ⟨Ax, cx, rfl⟩ := Kd.S_slice ho; have HS := Aside0.mk ho; replace HB := Aside0.mk (below_step Hd.b_ hb); clear hb ho)
      | (clear K3; go_at_call 32; (with_reducible refine (spec_TakeFeature.calls k _ _ x a1 s1 _ _ (Kd.S_reads' (laws_FnExactTakeFeature.s_ HS)).2.2 (Kd.S_reads' HS.out).2.1 HSP.out).mono ?_); rintro e w3 ⟨vs, rfl, ho, hb⟩; obtain ⟨As, cs, rfl⟩ := Kd.N_slice ho; clear HS; have HS := Aside0.mk ho; replace HB := Aside0.mk (below_step Hd.b_ hb); clear hb ho)
      | (clear K4; go_at_call 10; (with_reducible refine (laws_toFeatureS.calls k A0 c0 l0 x _ (Kd.C_below HR.out Hd.b_) HC.out HX.out).mono ?_); rintro e w4 ⟨vy, rfl, ho, hb⟩; obtain ⟨a, ha, hy, hs⟩ := laws_FnExactTakeFeature.own4 (laws_FnExactTakeFeature.n_ HS) ho Hd.b_ hb; obtain ⟨Ay, cy, rfl⟩ := Kd.S_slice ho; clear HS; have HA := Aside0.mk ha; have HY := Aside0.mk hy; have HS := Aside0.mk hs; replace HB := Aside0.mk (below_step Hd.b_ hb); clear hb ho ha hy hs)
      | (clear K5; go_at_call 23; (with_reducible refine (impl_TakeFeature.calls k _ _ x a1 g1 _ _ (Kd.S_reads' (laws_FnExactTakeFeature.s_ HY)).2.2 (Kd.S_reads' HY.out).2.1 HIM.out).mono ?_); rintro e w5 ⟨vg, rfl, ho, hb⟩; obtain ⟨cc, hcc, hg, hy, hs⟩ := laws_FnExactTakeFeature.own5 (laws_FnExactTakeFeature.n_ HS) (laws_FnExactTakeFeature.s_ HY) ho Hd.b_ hb; obtain ⟨Ag, cg, rfl⟩ := Kd.S_slice ho; clear HS HY; have HCC := Aside0.mk hcc; have HG := Aside0.mk hg; have HY := Aside0.mk hy; have HS := Aside0.mk hs; replace HB := Aside0.mk (below_step Hd.b_ hb); clear hb ho hcc hg hy hs)
      | (clear K6; go_at_call 13; (with_reducible refine (laws_eqFeatureS.calls k _ _ g1 _ _ s1 _ _ (Kd.S_reads' (laws_FnExactTakeFeature.s_ HG)).2.2 (Kd.S_reads' HG.out).2.1 (Kd.N_reads' (laws_FnExactTakeFeature.n_ HS)).2.2 (Kd.N_reads' HS.out).2.1 HE1.out).mono ?_); rintro e w6 ⟨rfl, hb⟩; replace HG := Aside0.mk (Kd.S_below (laws_FnExactTakeFeature.s_ HG) hb); replace HY := Aside0.mk (Kd.S_below (laws_FnExactTakeFeature.s_ HY) hb); replace HS := Aside0.mk (Kd.N_below (laws_FnExactTakeFeature.n_ HS) hb); replace HB := Aside0.mk (below_step Hd.b_ hb); clear hb)
      | (clear K7; go_at_call 10; (with_reducible refine (laws_toFeatureS.calls k A0 c0 l0 x _ (Kd.C_below HR.out Hd.b_) HC.out HX.out).mono ?_); rintro e w7 ⟨vz, rfl, ho, hb⟩; obtain ⟨Az, cz, rfl⟩ := Kd.S_slice ho; have HZ := Aside0.mk ho; replace HG := Aside0.mk (Kd.S_below (laws_FnExactTakeFeature.s_ HG) hb); replace HY := Aside0.mk (Kd.S_below (laws_FnExactTakeFeature.s_ HY) hb); replace HS := Aside0.mk (Kd.N_below (laws_FnExactTakeFeature.n_ HS) hb); replace HB := Aside0.mk (below_step Hd.b_ hb); clear hb ho)
      | (clear K8; go_at_call 13; (with_reducible refine (laws_eqFeatureS.calls k _ _ x _ _ x _ _ (Kd.S_reads' (laws_FnExactTakeFeature.s_ HY)).2.2 (Kd.S_reads' HY.out).2.1 (Kd.S_reads' (laws_FnExactTakeFeature.s_ HZ)).2.2 (Kd.S_reads' HZ.out).2.1 HE2.out).mono ?_); rintro e w8 ⟨rfl, hb⟩; clear HZ; replace HG := Aside0.mk (Kd.S_below (laws_FnExactTakeFeature.s_ HG) hb); replace HY := Aside0.mk (Kd.S_below (laws_FnExactTakeFeature.s_ HY) hb); replace HS := Aside0.mk (Kd.N_below (laws_FnExactTakeFeature.n_ HS) hb); replace HB := Aside0.mk (below_step Hd.b_ hb); clear hb)
      | (clear K9; go_at_call 15; (with_reducible refine (laws_markFeatureS.calls k (fun k => a ≤ k ∧ k < cc) _ x _ y1 y2 w _ Hd.b_ (laws_FnExactTakeFeature.s_ HY) HMY.out).mono ?_); rintro e w9 ⟨rfl, hb, hkp, _⟩; replace HG := Aside0.mk (Kd.S_kept (laws_FnExactTakeFeature.s_ HG) hkp (fun k (h1 : cc ≤ k) (h2 : a ≤ k ∧ k < cc) => Nat.lt_irrefl _ (Nat.lt_of_le_of_lt h1 h2.2))); replace HS := Aside0.mk (Kd.N_kept (laws_FnExactTakeFeature.n_ HS) hkp (fun k (h1 : k < a ∧ k < cc) (h2 : a ≤ k ∧ k < cc) => Nat.lt_irrefl _ (Nat.lt_of_le_of_lt h2.1 h1.1))); replace HB := Aside0.mk hb; clear hb hkp HY)
      | (clear KA; go_at_call 13; (with_reducible refine (laws_eqFeatureS.calls k _ _ g1 _ _ s1 _ _ (Kd.S_reads' (laws_FnExactTakeFeature.s_ HG)).2.2 (Kd.S_reads' HG.out).2.1 (Kd.N_reads' (laws_FnExactTakeFeature.n_ HS)).2.2 (Kd.N_reads' HS.out).2.1 HE1.out).mono ?_); rintro e wa ⟨rfl, hb⟩; replace HG := Aside0.mk (Kd.S_below (laws_FnExactTakeFeature.s_ HG) hb); replace HS := Aside0.mk (Kd.N_below (laws_FnExactTakeFeature.n_ HS) hb); replace HB := Aside0.mk (below_step Hd.b_ hb); clear hb)
      | (clear KB; go_at_call 15; (with_reducible refine (laws_markFeatureS.calls k (fun k => cc ≤ k) _ g1 _ q m2 w _ Hd.b_ (laws_FnExactTakeFeature.s_ HG) HMG.out).mono ?_); rintro e wb ⟨rfl, hb, hkp, hg⟩; replace HS := Aside0.mk (Kd.N_kept (laws_FnExactTakeFeature.n_ HS) hkp (fun k (h1 : k < a ∧ k < cc) (h2 : cc ≤ k) => Nat.lt_irrefl _ (Nat.lt_of_le_of_lt h2 h1.2))); clear HG; have HG := Aside0.mk hg; replace HB := Aside0.mk hb; clear hb hkp hg)
      | (clear KC; go_at_call 17; (with_reducible refine (laws_FnExactTakeFeature.held k _ _ _ m2 _ q _ (Kd.S_reads' HG.out).1 (Kd.S_reads' (laws_FnExactTakeFeature.s_ HG)).2.2 (Kd.S_reads' HG.out).2.1 HQ.out).mono ?_); rintro e wc ⟨rfl, hb⟩; replace HG := Aside0.mk (Kd.S_below (laws_FnExactTakeFeature.s_ HG) hb); replace HS := Aside0.mk (Kd.N_below (laws_FnExactTakeFeature.n_ HS) hb); replace HB := Aside0.mk (below_step Hd.b_ hb); clear hb)
      | (clear KD; go_at_call 10; (with_reducible refine (laws_toFeatureS.calls k A0 c0 l0 x _ (Kd.C_below HR.out Hd.b_) HC.out HX.out).mono ?_); rintro e wd ⟨vz, rfl, ho, hb⟩; obtain ⟨Az, cz, rfl⟩ := Kd.S_slice ho; have HZ := Aside0.mk ho; replace HG := Aside0.mk (Kd.S_below (laws_FnExactTakeFeature.s_ HG) hb); replace HS := Aside0.mk (Kd.N_below (laws_FnExactTakeFeature.n_ HS) hb); replace HB := Aside0.mk (below_step Hd.b_ hb); clear hb ho)
      | (clear KE; go_at_call 23; (with_reducible refine (impl_TakeFeature.calls k _ _ x a1 g1 _ _ (Kd.S_reads' (laws_FnExactTakeFeature.s_ HZ)).2.2 (Kd.S_reads' HZ.out).2.1 HIM.out).mono ?_); rintro e we ⟨vh, rfl, ho, hb⟩; obtain ⟨Ah, ch, rfl⟩ := Kd.S_slice ho; clear HZ; have HZ := Aside0.mk ho; replace HG := Aside0.mk (Kd.S_below (laws_FnExactTakeFeature.s_ HG) hb); replace HS := Aside0.mk (Kd.N_below (laws_FnExactTakeFeature.n_ HS) hb); replace HB := Aside0.mk (below_step Hd.b_ hb); clear hb ho)
      | (clear KF; go_at_call 13; (with_reducible refine (laws_eqFeatureS.calls k _ _ g1 _ _ s1 _ _ (Kd.S_reads' (laws_FnExactTakeFeature.s_ HZ)).2.2 (Kd.S_reads' HZ.out).2.1 (Kd.N_reads' (laws_FnExactTakeFeature.n_ HS)).2.2 (Kd.N_reads' HS.out).2.1 HE1.out).mono ?_); rintro e wf ⟨rfl, hb⟩; clear HZ HS; replace HG := Aside0.mk (Kd.S_below (laws_FnExactTakeFeature.s_ HG) hb); replace HB := Aside0.mk (below_step Hd.b_ hb); clear hb)
      | (go_at_call 17; (with_reducible refine (laws_FnExactTakeFeature.held k _ _ _ m2 _ q _ (Kd.S_reads' HG.out).1 (Kd.S_reads' (laws_FnExactTakeFeature.s_ HG)).2.2 (Kd.S_reads' HG.out).2.1 HQ.out).mono ?_); rintro e wh ⟨rfl, hb⟩; replace HB := Aside0.mk (below_step Hd.b_ hb); clear hb HG))
    go_ret
    exact ⟨rfl, Hd.b_⟩)
end Go.Proofs.Ytbbdhlggnglfgaa.MFnExactTakeFeature
