-- Laid by this session's program pp.py, after the kit's print and texts of the session's own. Not trusted: Lean checks it.
import Derived.Test.YtbbdhlggnglfgaaZTakeFeatureMx0
import Derived.Test.YtbbdhlggnglfgaaZTakeFeatureMx1
import Derived.Test.YtbbdhlggnglfgaaZTakeFeatureMx11
import Derived.Test.YtbbdhlggnglfgaaZTakeFeatureMx12
namespace Go.Proofs.Ytbbdhlggnglfgaa.MFnExactTakeFeature
open Go.RowKit Go.Proofs.YtbbdhlggnglfgaaW.PrintWords Go.Proofs.YtbbdhlggnglfgaaW.PrintLast Go.Proofs.YtbbdhlggnglfgaaW.PrintMore
attribute [local go_sem] max2_int min2_int max_two min_two max_three min_three max_four min_four   -- for this text's walks alone
set_option linter.unusedVariables false
set_option linter.unusedSimpArgs false
attribute [local go_sem high] eqA75
mutual
def spec_l5Shared.l0 : Nat → List (S75) → List (S75) → Int → Int → Int → Int → Int → Int → Int → Int → Int → Option (Int)
 | 0, _, _, _, _, _, _, _, _, _, _, _ => none
 | k + 1, x5, x6, x7, x360000, x360001, x360002, x360003, x361000, x361001, x361002, x361003 => if x7 < 4 then (if x7 < 2 then (if 0 ≤ x7 then (if x7 < (x6.length : Int) then ((spec_IsOn.f x361000 x361001 x361002 x361003 ((rd_T75 x6 x7).f0) ((rd_T75 x6 x7).f1)).bind fun t368 => (if t368 = true then (spec_l5Shared.j1 k x5 x6 x7 true x360000 x360001 x360002 x360003 x361000 x361001 x361002 x361003) else (if x7 ≥ 2 then ((spec_IsOn.f x360000 x360001 x360002 x360003 ((rd_T75 x6 x7).f0) ((rd_T75 x6 x7).f1)).bind fun t370 => (spec_l5Shared.j1 k x5 x6 x7 t370 x360000 x360001 x360002 x360003 x361000 x361001 x361002 x361003)) else (spec_l5Shared.j1 k x5 x6 x7 false x360000 x360001 x360002 x360003 x361000 x361001 x361002 x361003)))) else (none)) else (none)) else (if x7 ≥ 2 then (if 0 ≤ x7 then (if x7 < (x6.length : Int) then ((spec_IsOn.f x360000 x360001 x360002 x360003 ((rd_T75 x6 x7).f0) ((rd_T75 x6 x7).f1)).bind fun t372 => (spec_l5Shared.j1 k x5 x6 x7 t372 x360000 x360001 x360002 x360003 x361000 x361001 x361002 x361003)) else (none)) else (none)) else (spec_l5Shared.j1 k x5 x6 x7 false x360000 x360001 x360002 x360003 x361000 x361001 x361002 x361003))) else (some (x5.length : Int))
def spec_l5Shared.j1 : Nat → List (S75) → List (S75) → Int → Bool → Int → Int → Int → Int → Int → Int → Int → Int → Option (Int)
 | 0, _, _, _, _, _, _, _, _, _, _, _, _ => none
 | k + 1, x5, x6, x7, x8, x360000, x360001, x360002, x360003, x361000, x361001, x361002, x361003 => spec_l5Shared.l1 k x5 x6 x7 x8 0 x360000 x360001 x360002 x360003 x361000 x361001 x361002 x361003
def spec_l5Shared.l1 : Nat → List (S75) → List (S75) → Int → Bool → Int → Int → Int → Int → Int → Int → Int → Int → Int → Option (Int)
 | 0, _, _, _, _, _, _, _, _, _, _, _, _, _ => none
 | k + 1, x5, x6, x7, x8, x9, x360000, x360001, x360002, x360003, x361000, x361001, x361002, x361003 => if x9 < (x5.length : Int) then (if x8 = true then (if 0 ≤ x9 then (if 0 ≤ x7 then (if x7 < (x6.length : Int) then (spec_l5Shared.l1 k x5 x6 x7 (!(((rd_T75 x5 x9).f0) == ((rd_T75 x6 x7).f0)) || (!(((rd_T75 x5 x9).f1) == ((rd_T75 x6 x7).f1)))) (wrap64 (x9 + 1)) x360000 x360001 x360002 x360003 x361000 x361001 x361002 x361003) else (none)) else (none)) else (none)) else (spec_l5Shared.l1 k x5 x6 x7 false (wrap64 (x9 + 1)) x360000 x360001 x360002 x360003 x361000 x361001 x361002 x361003)) else (if x8 = true then (if 0 ≤ x7 then (if x7 < (x6.length : Int) then (if x5.length < 8796093022208 then (spec_l5Shared.l0 k (x5 ++ [(⟨(rd_T75 x6 x7).f0, (rd_T75 x6 x7).f1⟩ : S75)]) x6 (wrap64 (x7 + 1)) x360000 x360001 x360002 x360003 x361000 x361001 x361002 x361003) else (none)) else (none)) else (none)) else (spec_l5Shared.l0 k x5 x6 (wrap64 (x7 + 1)) x360000 x360001 x360002 x360003 x361000 x361001 x361002 x361003))
end
def spec_l5Shared.f (k : Nat) (a0_0 : Int) (a0_1 : Int) (a0_2 : Int) (a0_3 : Int) (a1_0 : Int) (a1_1 : Int) (a1_2 : Int) (a1_3 : Int) : Option (Int) := spec_l5Shared.l0 k (([] : List (S75))) (([(⟨a0_0, a0_1⟩ : S75), (⟨a0_2, a0_3⟩ : S75), (⟨a1_0, a1_1⟩ : S75), (⟨a1_2, a1_3⟩ : S75)] : List (S75))) 0 a0_0 a0_1 a0_2 a0_3 a1_0 a1_1 a1_2 a1_3
set_option maxHeartbeats 8000000 in
set_option maxRecDepth 100000 in
theorem spec_l5Shared.calls (k : Nat) (a0_0 : Int) (a0_1 : Int) (a0_2 : Int) (a0_3 : Int) (a1_0 : Int) (a1_1 : Int) (a1_2 : Int) (a1_3 : Int) (r : Int) (w : World) (h : spec_l5Shared.f k a0_0 a0_1 a0_2 a0_3 a1_0 a1_1 a1_2 a1_3 = some r) :
  Calls Try.prog 110 #[.agg #[.int .i64 a0_0, .int .i64 a0_1, .int .i64 a0_2, .int .i64 a0_3], .agg #[.int .i64 a1_0, .int .i64 a1_1, .int .i64 a1_2, .int .i64 a1_3]] w fun e w' => e = .returned (.int .i64 r) ∧ Below w.heap.size w w' := by
 have hu101 := Try.underlying101
 have hu75 := Try.underlying75
 have HB := Aside0.mk (Below.refl w.heap.size w)
 have H : (spec_l5Shared.l0 k (([] : List (S75))) (([(⟨a0_0, a0_1⟩ : S75), (⟨a0_2, a0_3⟩ : S75), (⟨a1_0, a1_1⟩ : S75), (⟨a1_2, a1_3⟩ : S75)] : List (S75))) 0 a0_0 a0_1 a0_2 a0_3 a1_0 a1_1 a1_2 a1_3) = some r := h
 clear h
 obtain ⟨y361, hy361⟩ : ∃ y_ : List (S75), y_ = (([] : List (S75))) := ⟨_, rfl⟩
 replace H : (spec_l5Shared.l0 k y361 (([(⟨a0_0, a0_1⟩ : S75), (⟨a0_2, a0_3⟩ : S75), (⟨a1_0, a1_1⟩ : S75), (⟨a1_2, a1_3⟩ : S75)] : List (S75))) 0 a0_0 a0_1 a0_2 a0_3 a1_0 a1_1 a1_2 a1_3) = some r := by first | (rw [hy361]; with_reducible exact H) | (have H2_ := (Option.bind_some _ _).symm.trans H; rw [hy361]; with_reducible exact H2_) | (have H2_ := (Option.bind_some _ _).symm.trans H; with_reducible exact H2_) | with_reducible exact H | (rw [hy361]; exact H) | exact H
 have Ny361 := Aside0.mk hy361
 clear hy361
 obtain ⟨y364, hy364⟩ : ∃ y_ : List (S75), y_ = (([(⟨a0_0, a0_1⟩ : S75), (⟨a0_2, a0_3⟩ : S75), (⟨a1_0, a1_1⟩ : S75), (⟨a1_2, a1_3⟩ : S75)] : List (S75))) := ⟨_, rfl⟩
 replace H : (spec_l5Shared.l0 k y361 y364 0 a0_0 a0_1 a0_2 a0_3 a1_0 a1_1 a1_2 a1_3) = some r := by first | (rw [hy364]; with_reducible exact H) | (have H2_ := (Option.bind_some _ _).symm.trans H; rw [hy364]; with_reducible exact H2_) | (have H2_ := (Option.bind_some _ _).symm.trans H; with_reducible exact H2_) | with_reducible exact H | (rw [hy364]; exact H) | exact H
 have Ny364 := Aside0.mk hy364
 clear hy364
 have H' := Aside0.mk H
 clear H
 go_enter Try.func110, Try.ntmps110
 go_wp2_with (first | ((with_reducible refine gate_dst (N := 2) rfl ?_); refine Hd.box_ 2 (#[.int .i64 a0_0, .int .i64 a0_1, .int .i64 a0_2, .int .i64 a0_3]) 101 ?_; intro gb359 hg w3 hbox hb; have BK359 := Aside0.mk (hbox); have GW359 := Aside0.mk ((Hd.g_ hg Hd.b_ : w.heap.size ≤ gb359)); have GE359 := Aside0.mk ((Hd.g_ hg Hd.b_ : w.heap.size ≤ gb359)); replace HB := Aside0.mk (below_step Hd.b_ hb); clear hb hbox hg) | ((with_reducible refine gate_dst (N := 3) rfl ?_); refine Hd.box_ 3 (#[.int .i64 a1_0, .int .i64 a1_1, .int .i64 a1_2, .int .i64 a1_3]) 101 ?_; intro gb360 hg w4 hbox hb; have BK360 := Aside0.mk (hbox); have GW360 := Aside0.mk ((Hd.g_ hg Hd.b_ : w.heap.size ≤ gb360)); have GE360 := Aside0.mk ((Hd.g_ hg Hd.b_ : w.heap.size ≤ gb360)); replace HB := Aside0.mk (below_step Hd.b_ hb); have NB359_360 := Aside0.mk ((Hd.lt_ BK359 hg)); have NB360_359 := Aside0.mk ((Hd.gt_ BK359 hg)); replace BK359 := Aside0.mk (Hd.kb_ BK359 hb); clear hb hbox hg) | ((with_reducible refine gate_dst (N := 10) rfl ?_); refine Kd.R_lit k75 _ 75 ?hg (N := 10) ?hd (xs := ([] : List (S75))) (inner := []) (ok := fun _ => True) (okp := fun _ => True) ?hr ?hp (fun _ hk => hk) trivial (Below.refl _ _) (Nat.le_refl _) (by simp) ?_; (case hd => rfl); (case hg => rfl); (case hr => first | (go_simp; done) | (go_simp; rfl)); (case hp => exact (Reps.none _ _)); intro v362 w5 ho6 hb hg_ hnew_; clear hg_ hnew_; (first | rw [← Ny361.out] at ho6 | (simp only [Int.reduceToNat] at ho6; rw [← Ny361.out] at ho6)); have HO363 := Aside0.mk (Kd.R_lower ho6 (below_size Hd.b_)); replace BK359 := Aside0.mk (Hd.kb_ BK359 hb); replace BK360 := Aside0.mk (Hd.kb_ BK360 hb); replace HB := Aside0.mk (below_step Hd.b_ hb); clear hb ho6; have hnb7 := NB359_360.out; have hnc7 := NB360_359.out; obtain ⟨hcz8_0, hcz8_1, hcz8_2, hcz8_3⟩ := Hd.c4_ BK359.out; obtain ⟨hfz8_0, hfz8_1, hfz8_2, hfz8_3⟩ := Hd.f4_ BK359.out; obtain ⟨hcz9_0, hcz9_1, hcz9_2, hcz9_3⟩ := Hd.c4_ BK360.out; obtain ⟨hfz9_0, hfz9_1, hfz9_2, hfz9_3⟩ := Hd.f4_ BK360.out) | ((with_reducible refine gate_dst (N := 19) rfl ?_); refine Kd.R_lit k75 _ 75 ?hg (N := 19) ?hd (xs := ([(⟨a0_0, a0_1⟩ : S75), (⟨a0_2, a0_3⟩ : S75), (⟨a1_0, a1_1⟩ : S75), (⟨a1_2, a1_3⟩ : S75)] : List (S75))) (inner := [.int .i64 a0_0, .int .i64 a0_1, .int .i64 a0_2, .int .i64 a0_3, .int .i64 a1_0, .int .i64 a1_1, .int .i64 a1_2, .int .i64 a1_3]) (ok := fun _ => True) (okp := fun _ => True) ?hr ?hp (fun _ hk => hk) trivial (Below.refl _ _) (Nat.le_refl _) (by simp) ?_; (case hd => rfl); (case hg => rfl); (case hr => first | (go_simp; done) | (go_simp; rfl)); (case hp => exact (Reps.c2 (show Kd.M k75 _ _ _ (⟨a0_0, a0_1⟩ : S75) [.int .i64 a0_0, .int .i64 a0_1] from (k75_mkM _ _ _ (⟨a0_0, a0_1⟩ : S75) )) (Reps.c2 (show Kd.M k75 _ _ _ (⟨a0_2, a0_3⟩ : S75) [.int .i64 a0_2, .int .i64 a0_3] from (k75_mkM _ _ _ (⟨a0_2, a0_3⟩ : S75) )) (Reps.c2 (show Kd.M k75 _ _ _ (⟨a1_0, a1_1⟩ : S75) [.int .i64 a1_0, .int .i64 a1_1] from (k75_mkM _ _ _ (⟨a1_0, a1_1⟩ : S75) )) (Reps.c2 (show Kd.M k75 _ _ _ (⟨a1_2, a1_3⟩ : S75) [.int .i64 a1_2, .int .i64 a1_3] from (k75_mkM _ _ _ (⟨a1_2, a1_3⟩ : S75) )) (Reps.none _ _)))))); intro v365 w10 ho11 hb hg_ hnew_; clear hg_ hnew_; (first | rw [← Ny364.out] at ho11 | (simp only [Int.reduceToNat] at ho11; rw [← Ny364.out] at ho11)); have HO366 := Aside0.mk (Kd.R_lower (Kd.R_new' ho11 (Kd.R_lt (Hd.r_ HO363))) (below_size Hd.b_)); replace HO363 := Aside0.mk (Kd.R_elder' (Hd.r_ HO363) (Kd.R_base ho11) hb); replace BK359 := Aside0.mk (Hd.kb_ BK359 hb); replace BK360 := Aside0.mk (Hd.kb_ BK360 hb); replace HB := Aside0.mk (below_step Hd.b_ hb); clear hb ho11))
 go_loopg [5, 7] k (fun kq v5 v7 w' => ∃ (x5_1 : List (S75)) (x7_1 : Int), v7 = .int .i64 x7_1 ∧ Aside0 (spec_l5Shared.l0 kq x5_1 y364 x7_1 a0_0 a0_1 a0_2 a0_3 a1_0 a1_1 a1_2 a1_3 = some r) ∧ Aside0 (kq ≤ k) ∧ Aside0 (Kd.R k75 75 w' w.heap.size (fun k_ => some k_ ≠ (v365 : Value).ownBlock) v5 x5_1) ∧ Aside0 (Kd.R k75 75 w' w.heap.size (fun k_ => some k_ ≠ (v5 : Value).ownBlock) v365 y364) ∧ Aside0 (w'.heap[gb359]? = some (.cells #[.int .i64 a0_0, .int .i64 a0_1, .int .i64 a0_2, .int .i64 a0_3] 101 (0, 0))) ∧ Aside0 (w'.heap[gb360]? = some (.cells #[.int .i64 a1_0, .int .i64 a1_1, .int .i64 a1_2, .int .i64 a1_3] 101 (0, 0))) ∧ Aside0 (Below w.heap.size w w'))
 case atStart => exact ⟨(y361), (0), (by first | rfl | (simp; done) | (simp [*]; done)), H', ⟨Nat.le_refl _⟩, ⟨by (with_reducible repeat (first | apply Kd.R_alloc | apply Kd.R_drewN | apply Kd.R_drew)); exact Kd.R_mono HO363.out (fun _ hk => hk.2)⟩, ⟨by (with_reducible repeat (first | apply Kd.R_alloc | apply Kd.R_drewN | apply Kd.R_drew)); exact Kd.R_mono HO366.out (fun _ hk => hk.2)⟩, ⟨by (with_reducible repeat (first | refine blk_drewN ?_ _ | refine blk_drew ?_ | refine blk_alloc ?_ _)); exact BK359.out⟩, ⟨by (with_reducible repeat (first | refine blk_drewN ?_ _ | refine blk_drew ?_ | refine blk_alloc ?_ _)); exact BK360.out⟩, ⟨Hd.b_⟩⟩
 case round =>
  clear H'
  try clear c1
  try clear c2
  try clear p2
  try clear c7
  try clear c11
  try clear hcz8_0
  try clear hcz8_1
  try clear hcz8_2
  try clear hcz8_3
  try clear hcz9_0
  try clear hcz9_1
  try clear hcz9_2
  try clear hcz9_3
  try clear hfz8_0
  try clear hfz8_1
  try clear hfz8_2
  try clear hfz8_3
  try clear hfz9_0
  try clear hfz9_1
  try clear hfz9_2
  try clear hfz9_3
  obtain ⟨x5_1, x7_1, rfl, HA, HK1, HO_5, HO_6, BK359, BK360, HB⟩ := hrel
  cases gk with
  | zero => exact absurd HA.out (by simp [spec_l5Shared.l0])
  | succ k1 =>
   have H := HA.out
   clear HA
   simp only [spec_l5Shared.l0] at H
   by_cases c12 : x7_1 < 4
   ·
    rw [if_pos c12] at H
    have c12b0 : decide (x7_1 < 4) = true := decide_eq_true c12
    clear c12
    have HC13 := Aside0.mk H
    clear H
    go_upto_region 6 with (fail)
    go_cut [8] (fun v8 wc => ∃ (kq : Nat) (x8_12 : Bool), v8 = .bool x8_12 ∧ Aside0 (spec_l5Shared.j1 kq x5_1 y364 x7_1 x8_12 a0_0 a0_1 a0_2 a0_3 a1_0 a1_1 a1_2 a1_3 = some r) ∧ Aside0 (kq ≤ k1) ∧ Aside0 (Kd.R k75 75 wc w.heap.size (fun k_ => some k_ ≠ (v365 : Value).ownBlock) u5 x5_1) ∧ Aside0 (Kd.R k75 75 wc w.heap.size (fun k_ => some k_ ≠ (u5 : Value).ownBlock) v365 y364) ∧ Aside0 (wc.heap[gb359]? = some (.cells #[.int .i64 a0_0, .int .i64 a0_1, .int .i64 a0_2, .int .i64 a0_3] 101 (0, 0))) ∧ Aside0 (wc.heap[gb360]? = some (.cells #[.int .i64 a1_0, .int .i64 a1_1, .int .i64 a1_2, .int .i64 a1_3] 101 (0, 0))) ∧ Aside0 (Below w.heap.size w wc))
    case first =>
     have H := HC13.out
     clear HC13
     by_cases c14 : x7_1 < 2
     ·
      rw [if_pos c14] at H
      have c14b0 : decide (x7_1 < 2) = true := decide_eq_true c14
      clear c14
      (first | rw [c14b0] | (simp only [i64_w, i32_w]; rw [c14b0]) | skip)
      by_cases c15 : 0 ≤ x7_1
      ·
       rw [if_pos c15] at H
       have c15b0 : decide (0 ≤ x7_1) = true := decide_eq_true c15
       clear c15
       by_cases c16 : x7_1 < (y364.length : Int)
       ·
        rw [if_pos c16] at H
        have c16b0 : decide (x7_1 < (y364.length : Int)) = true := decide_eq_true c16
        clear c16
        replace H := Option.bind_eq_some_iff.mp H
        obtain ⟨t368, A170, H⟩ := H
        replace H : (if t368 = true then (spec_l5Shared.j1 k1 x5_1 y364 x7_1 true a0_0 a0_1 a0_2 a0_3 a1_0 a1_1 a1_2 a1_3) else (if x7_1 ≥ 2 then ((spec_IsOn.f a0_0 a0_1 a0_2 a0_3 ((rd_T75 y364 x7_1).f0) ((rd_T75 y364 x7_1).f1)).bind fun t370 => (spec_l5Shared.j1 k1 x5_1 y364 x7_1 t370 a0_0 a0_1 a0_2 a0_3 a1_0 a1_1 a1_2 a1_3)) else (spec_l5Shared.j1 k1 x5_1 y364 x7_1 false a0_0 a0_1 a0_2 a0_3 a1_0 a1_1 a1_2 a1_3))) = some r := H
        have A17 := Aside0.mk A170
        clear A170
        by_cases c18 : t368 = true
        ·
         subst c18
         have H1 : (spec_l5Shared.j1 k1 x5_1 y364 x7_1 true a0_0 a0_1 a0_2 a0_3 a1_0 a1_1 a1_2 a1_3) = some r := by rw [if_pos rfl] at H; exact H
         clear H
         have H := H1
         clear H1
         have H' := Aside0.mk H
         clear H
         try go_wp2
         replace HO_5 := Aside0.mk (Kd.R_drew HO_5.out)
         replace HO_6 := Aside0.mk (Kd.R_drew HO_6.out)
         replace BK359 := Aside0.mk (blk_drew BK359.out)
         replace BK360 := Aside0.mk (blk_drew BK360.out)
         replace HB := Aside0.mk (below_drew1 HB.out)
         obtain ⟨Ao20, co20, eo20⟩ := Kd.R_slice HO_6.out
         (first | subst eo20 | (injection eo20 with f1_ f2_ f3_; have f4_ := f1_.symm; have f5_ := f3_.symm; clear f1_ f2_ f3_; subst f4_; subst f5_))
         have p367 : 0 ≤ (x7_1 : Int) := of_decide_eq_true Hd.a_
         have q367 : x7_1 < (y364.length : Int) := of_decide_eq_true Hd.a_
         obtain ⟨ad367, e367, hx367_0, hx367_1⟩ := at_T75 (Kd.R_reads' HO_6.out).2.2 x7_1 p367 q367
         cases e367
         replace p367 := eq_true p367
         replace q367 := eq_true q367
         obtain ⟨s0_, s1_, s2_, s3_⟩ := Hd.HW.k4 (W0 := wr.drew) BK360
         have s4_ := Hd.HW.x (W0 := wr.drew) hx367_0
         have s5_ := Hd.HW.x (W0 := wr.drew) hx367_1
         refine Hd.HW.region (by kernel_rfl) (by kernel_rfl) ?_
         repeat (go_big_quiet_step ((first | (go_at_call 114; with_reducible exact Hd.HW.c (spec_IsOn.calls a1_0 a1_1 a1_2 a1_3 ((rd_T75 y364 x7_1).f0) ((rd_T75 y364 x7_1).f1) true _ A17.out)))))
         refine wpQuiet_nil ?_
         intro _ hq_
         obtain ⟨q_, rfl⟩ := hq_
         clear s0_ s1_ s2_ s3_ s4_ s5_
         replace HO_5 := Aside0.mk (Kd.R_below HO_5.out q_.b)
         replace HO_6 := Aside0.mk (Kd.R_below HO_6.out q_.b)
         replace BK359 := Aside0.mk (blk_below BK359.out q_.b)
         replace BK360 := Aside0.mk (blk_below BK360.out q_.b)
         replace HB := Aside0.mk (below_step HB.out q_.b)
         replace hx367_0 := q_.cell hx367_0
         replace hx367_1 := q_.cell hx367_1
         generalize q_.W = w21 at HO_5 HO_6 BK359 BK360 HB hx367_0 hx367_1 ⊢
         try simp only [i64_w, i32_w]
         try go_wp2
         go_meet
         case rel => exact ⟨_, (true), (by first | rfl | (simp; done) | (simp [*]; done)), H', ⟨by have := HK1.out; first | omega | exact Nat.le_refl _⟩, ⟨by (with_reducible repeat (first | apply Kd.R_alloc | apply Kd.R_drewN | apply Kd.R_drew)); exact HO_5.out⟩, ⟨by (with_reducible repeat (first | apply Kd.R_alloc | apply Kd.R_drewN | apply Kd.R_drew)); exact HO_6.out⟩, ⟨by (with_reducible repeat (first | refine blk_drewN ?_ _ | refine blk_drew ?_ | refine blk_alloc ?_ _)); exact BK359.out⟩, ⟨by (with_reducible repeat (first | refine blk_drewN ?_ _ | refine blk_drew ?_ | refine blk_alloc ?_ _)); exact BK360.out⟩, ⟨Hd.b_⟩⟩
        ·
         replace c18 := Bool.eq_false_iff.mpr c18
         subst c18
         have H1 : (if x7_1 ≥ 2 then ((spec_IsOn.f a0_0 a0_1 a0_2 a0_3 ((rd_T75 y364 x7_1).f0) ((rd_T75 y364 x7_1).f1)).bind fun t370 => (spec_l5Shared.j1 k1 x5_1 y364 x7_1 t370 a0_0 a0_1 a0_2 a0_3 a1_0 a1_1 a1_2 a1_3)) else (spec_l5Shared.j1 k1 x5_1 y364 x7_1 false a0_0 a0_1 a0_2 a0_3 a1_0 a1_1 a1_2 a1_3)) = some r := by rw [if_neg (show ¬ (false = true) by decide)] at H; exact H
         clear H
         have H := H1
         clear H1
         by_cases c22 : x7_1 ≥ 2
         ·
          rw [if_pos c22] at H
          have c22b0 : decide (2 ≤ x7_1) = true := decide_eq_true c22
          clear c22
          replace H := Option.bind_eq_some_iff.mp H
          obtain ⟨t370, A230, H⟩ := H
          replace H : (spec_l5Shared.j1 k1 x5_1 y364 x7_1 t370 a0_0 a0_1 a0_2 a0_3 a1_0 a1_1 a1_2 a1_3) = some r := H
          have A23 := Aside0.mk A230
          clear A230
          have H' := Aside0.mk H
          clear H
          try go_wp2
          replace HO_5 := Aside0.mk (Kd.R_drew HO_5.out)
          replace HO_6 := Aside0.mk (Kd.R_drew HO_6.out)
          replace BK359 := Aside0.mk (blk_drew BK359.out)
          replace BK360 := Aside0.mk (blk_drew BK360.out)
          replace HB := Aside0.mk (below_drew1 HB.out)
          obtain ⟨Ao25, co25, eo25⟩ := Kd.R_slice HO_6.out
          (first | subst eo25 | (injection eo25 with f1_ f2_ f3_; have f4_ := f1_.symm; have f5_ := f3_.symm; clear f1_ f2_ f3_; subst f4_; subst f5_))
          have p367 : 0 ≤ (x7_1 : Int) := of_decide_eq_true Hd.a_
          have q367 : x7_1 < (y364.length : Int) := of_decide_eq_true Hd.a_
          obtain ⟨ad367, e367, hx367_0, hx367_1⟩ := at_T75 (Kd.R_reads' HO_6.out).2.2 x7_1 p367 q367
          cases e367
          replace p367 := eq_true p367
          replace q367 := eq_true q367
          have p369 : 0 ≤ (x7_1 : Int) := of_decide_eq_true Hd.a_
          have q369 : x7_1 < (y364.length : Int) := of_decide_eq_true Hd.a_
          obtain ⟨ad369, e369, hx369_0, hx369_1⟩ := at_T75 (Kd.R_reads' HO_6.out).2.2 x7_1 p369 q369
          obtain rfl : ad367 = ad369 := (by injection e369)
          replace p369 := eq_true p369
          replace q369 := eq_true q369
          obtain ⟨s0_, s1_, s2_, s3_⟩ := Hd.HW.k4 (W0 := wr.drew) BK360
          obtain ⟨s4_, s5_, s6_, s7_⟩ := Hd.HW.k4 (W0 := wr.drew) BK359
          have s8_ := Hd.HW.x (W0 := wr.drew) hx367_0
          have s9_ := Hd.HW.x (W0 := wr.drew) hx367_1
          have s10_ := Hd.HW.x (W0 := wr.drew) hx369_0
          have s11_ := Hd.HW.x (W0 := wr.drew) hx369_1
          refine Hd.HW.region (by kernel_rfl) (by kernel_rfl) ?_
          repeat (go_big_quiet_step ((first | (go_at_call 114; with_reducible exact Hd.HW.c (spec_IsOn.calls a1_0 a1_1 a1_2 a1_3 ((rd_T75 y364 x7_1).f0) ((rd_T75 y364 x7_1).f1) false _ A17.out)) | (go_at_call 114; with_reducible exact Hd.HW.c (spec_IsOn.calls a0_0 a0_1 a0_2 a0_3 ((rd_T75 y364 x7_1).f0) ((rd_T75 y364 x7_1).f1) t370 _ A23.out)))))
          refine wpQuiet_nil ?_
          intro _ hq_
          obtain ⟨q_, rfl⟩ := hq_
          clear s0_ s1_ s2_ s3_ s4_ s5_ s6_ s7_ s8_ s9_ s10_ s11_
          replace HO_5 := Aside0.mk (Kd.R_below HO_5.out q_.b)
          replace HO_6 := Aside0.mk (Kd.R_below HO_6.out q_.b)
          replace BK359 := Aside0.mk (blk_below BK359.out q_.b)
          replace BK360 := Aside0.mk (blk_below BK360.out q_.b)
          replace HB := Aside0.mk (below_step HB.out q_.b)
          replace hx367_0 := q_.cell hx367_0
          replace hx367_1 := q_.cell hx367_1
          replace hx369_0 := q_.cell hx369_0
          replace hx369_1 := q_.cell hx369_1
          generalize q_.W = w27 at HO_5 HO_6 BK359 BK360 HB hx367_0 hx367_1 hx369_0 hx369_1 ⊢
          try simp only [i64_w, i32_w]
          try go_wp2
          go_meet
          case rel => exact ⟨_, (t370), (by first | rfl | (simp; done) | (simp [*]; done)), H', ⟨by have := HK1.out; first | omega | exact Nat.le_refl _⟩, ⟨by (with_reducible repeat (first | apply Kd.R_alloc | apply Kd.R_drewN | apply Kd.R_drew)); exact HO_5.out⟩, ⟨by (with_reducible repeat (first | apply Kd.R_alloc | apply Kd.R_drewN | apply Kd.R_drew)); exact HO_6.out⟩, ⟨by (with_reducible repeat (first | refine blk_drewN ?_ _ | refine blk_drew ?_ | refine blk_alloc ?_ _)); exact BK359.out⟩, ⟨by (with_reducible repeat (first | refine blk_drewN ?_ _ | refine blk_drew ?_ | refine blk_alloc ?_ _)); exact BK360.out⟩, ⟨Hd.b_⟩⟩
         ·
          rw [if_neg c22] at H
          have c22b0 : decide (2 ≤ x7_1) = false := decide_eq_false c22
          clear c22
          have H' := Aside0.mk H
          clear H
          try go_wp2
          replace HO_5 := Aside0.mk (Kd.R_drew HO_5.out)
          replace HO_6 := Aside0.mk (Kd.R_drew HO_6.out)
          replace BK359 := Aside0.mk (blk_drew BK359.out)
          replace BK360 := Aside0.mk (blk_drew BK360.out)
          replace HB := Aside0.mk (below_drew1 HB.out)
          obtain ⟨Ao29, co29, eo29⟩ := Kd.R_slice HO_6.out
          (first | subst eo29 | (injection eo29 with f1_ f2_ f3_; have f4_ := f1_.symm; have f5_ := f3_.symm; clear f1_ f2_ f3_; subst f4_; subst f5_))
          have p367 : 0 ≤ (x7_1 : Int) := of_decide_eq_true Hd.a_
          have q367 : x7_1 < (y364.length : Int) := of_decide_eq_true Hd.a_
          obtain ⟨ad367, e367, hx367_0, hx367_1⟩ := at_T75 (Kd.R_reads' HO_6.out).2.2 x7_1 p367 q367
          cases e367
          replace p367 := eq_true p367
          replace q367 := eq_true q367
          obtain ⟨s0_, s1_, s2_, s3_⟩ := Hd.HW.k4 (W0 := wr.drew) BK360
          have s4_ := Hd.HW.x (W0 := wr.drew) hx367_0
          have s5_ := Hd.HW.x (W0 := wr.drew) hx367_1
          refine Hd.HW.region (by kernel_rfl) (by kernel_rfl) ?_
          repeat (go_big_quiet_step ((first | (go_at_call 114; with_reducible exact Hd.HW.c (spec_IsOn.calls a1_0 a1_1 a1_2 a1_3 ((rd_T75 y364 x7_1).f0) ((rd_T75 y364 x7_1).f1) false _ A17.out)))))
          refine wpQuiet_nil ?_
          intro _ hq_
          obtain ⟨q_, rfl⟩ := hq_
          clear s0_ s1_ s2_ s3_ s4_ s5_
          replace HO_5 := Aside0.mk (Kd.R_below HO_5.out q_.b)
          replace HO_6 := Aside0.mk (Kd.R_below HO_6.out q_.b)
          replace BK359 := Aside0.mk (blk_below BK359.out q_.b)
          replace BK360 := Aside0.mk (blk_below BK360.out q_.b)
          replace HB := Aside0.mk (below_step HB.out q_.b)
          replace hx367_0 := q_.cell hx367_0
          replace hx367_1 := q_.cell hx367_1
          generalize q_.W = w30 at HO_5 HO_6 BK359 BK360 HB hx367_0 hx367_1 ⊢
          try simp only [i64_w, i32_w]
          try go_wp2
          go_meet
          case rel => exact ⟨_, (false), (by first | rfl | (simp; done) | (simp [*]; done)), H', ⟨by have := HK1.out; first | omega | exact Nat.le_refl _⟩, ⟨by (with_reducible repeat (first | apply Kd.R_alloc | apply Kd.R_drewN | apply Kd.R_drew)); exact HO_5.out⟩, ⟨by (with_reducible repeat (first | apply Kd.R_alloc | apply Kd.R_drewN | apply Kd.R_drew)); exact HO_6.out⟩, ⟨by (with_reducible repeat (first | refine blk_drewN ?_ _ | refine blk_drew ?_ | refine blk_alloc ?_ _)); exact BK359.out⟩, ⟨by (with_reducible repeat (first | refine blk_drewN ?_ _ | refine blk_drew ?_ | refine blk_alloc ?_ _)); exact BK360.out⟩, ⟨Hd.b_⟩⟩
       ·
        rw [if_neg c16] at H
        exact absurd H (by simp)
      ·
       rw [if_neg c15] at H
       exact absurd H (by simp)
     ·
      rw [if_neg c14] at H
      have c14b0 : decide (x7_1 < 2) = false := decide_eq_false c14
      clear c14
      (first | rw [c14b0] | (simp only [i64_w, i32_w]; rw [c14b0]) | skip)
      by_cases c31 : x7_1 ≥ 2
      ·
       rw [if_pos c31] at H
       have c31b0 : decide (2 ≤ x7_1) = true := decide_eq_true c31
       clear c31
       by_cases c32 : 0 ≤ x7_1
       ·
        rw [if_pos c32] at H
        have c32b0 : decide (0 ≤ x7_1) = true := decide_eq_true c32
        clear c32
        by_cases c33 : x7_1 < (y364.length : Int)
        ·
         rw [if_pos c33] at H
         have c33b0 : decide (x7_1 < (y364.length : Int)) = true := decide_eq_true c33
         clear c33
         replace H := Option.bind_eq_some_iff.mp H
         obtain ⟨t372, A340, H⟩ := H
         replace H : (spec_l5Shared.j1 k1 x5_1 y364 x7_1 t372 a0_0 a0_1 a0_2 a0_3 a1_0 a1_1 a1_2 a1_3) = some r := H
         have A34 := Aside0.mk A340
         clear A340
         have H' := Aside0.mk H
         clear H
         try go_wp2
         replace HO_5 := Aside0.mk (Kd.R_drew HO_5.out)
         replace HO_6 := Aside0.mk (Kd.R_drew HO_6.out)
         replace BK359 := Aside0.mk (blk_drew BK359.out)
         replace BK360 := Aside0.mk (blk_drew BK360.out)
         replace HB := Aside0.mk (below_drew1 HB.out)
         obtain ⟨Ao36, co36, eo36⟩ := Kd.R_slice HO_6.out
         (first | subst eo36 | (injection eo36 with f1_ f2_ f3_; have f4_ := f1_.symm; have f5_ := f3_.symm; clear f1_ f2_ f3_; subst f4_; subst f5_))
         have p371 : 0 ≤ (x7_1 : Int) := of_decide_eq_true Hd.a_
         have q371 : x7_1 < (y364.length : Int) := of_decide_eq_true Hd.a_
         obtain ⟨ad371, e371, hx371_0, hx371_1⟩ := at_T75 (Kd.R_reads' HO_6.out).2.2 x7_1 p371 q371
         cases e371
         replace p371 := eq_true p371
         replace q371 := eq_true q371
         obtain ⟨s0_, s1_, s2_, s3_⟩ := Hd.HW.k4 (W0 := wr.drew) BK359
         have s4_ := Hd.HW.x (W0 := wr.drew) hx371_0
         have s5_ := Hd.HW.x (W0 := wr.drew) hx371_1
         refine Hd.HW.region (by kernel_rfl) (by kernel_rfl) ?_
         repeat (go_big_quiet_step ((first | (go_at_call 114; with_reducible exact Hd.HW.c (spec_IsOn.calls a0_0 a0_1 a0_2 a0_3 ((rd_T75 y364 x7_1).f0) ((rd_T75 y364 x7_1).f1) t372 _ A34.out)))))
         refine wpQuiet_nil ?_
         intro _ hq_
         obtain ⟨q_, rfl⟩ := hq_
         clear s0_ s1_ s2_ s3_ s4_ s5_
         replace HO_5 := Aside0.mk (Kd.R_below HO_5.out q_.b)
         replace HO_6 := Aside0.mk (Kd.R_below HO_6.out q_.b)
         replace BK359 := Aside0.mk (blk_below BK359.out q_.b)
         replace BK360 := Aside0.mk (blk_below BK360.out q_.b)
         replace HB := Aside0.mk (below_step HB.out q_.b)
         replace hx371_0 := q_.cell hx371_0
         replace hx371_1 := q_.cell hx371_1
         generalize q_.W = w37 at HO_5 HO_6 BK359 BK360 HB hx371_0 hx371_1 ⊢
         try simp only [i64_w, i32_w]
         try go_wp2
         go_meet
         case rel => exact ⟨_, (t372), (by first | rfl | (simp; done) | (simp [*]; done)), H', ⟨by have := HK1.out; first | omega | exact Nat.le_refl _⟩, ⟨by (with_reducible repeat (first | apply Kd.R_alloc | apply Kd.R_drewN | apply Kd.R_drew)); exact HO_5.out⟩, ⟨by (with_reducible repeat (first | apply Kd.R_alloc | apply Kd.R_drewN | apply Kd.R_drew)); exact HO_6.out⟩, ⟨by (with_reducible repeat (first | refine blk_drewN ?_ _ | refine blk_drew ?_ | refine blk_alloc ?_ _)); exact BK359.out⟩, ⟨by (with_reducible repeat (first | refine blk_drewN ?_ _ | refine blk_drew ?_ | refine blk_alloc ?_ _)); exact BK360.out⟩, ⟨Hd.b_⟩⟩
        ·
         rw [if_neg c33] at H
         exact absurd H (by simp)
       ·
        rw [if_neg c32] at H
        exact absurd H (by simp)
      ·
       rw [if_neg c31] at H
       have c31b0 : decide (2 ≤ x7_1) = false := decide_eq_false c31
       clear c31
       have H' := Aside0.mk H
       clear H
       try go_wp2
       replace HO_5 := Aside0.mk (Kd.R_drew HO_5.out)
       replace HO_6 := Aside0.mk (Kd.R_drew HO_6.out)
       replace BK359 := Aside0.mk (blk_drew BK359.out)
       replace BK360 := Aside0.mk (blk_drew BK360.out)
       replace HB := Aside0.mk (below_drew1 HB.out)
       refine Hd.HW.region (by kernel_rfl) (by kernel_rfl) ?_
       repeat (go_big_quiet_step (fail))
       refine wpQuiet_nil ?_
       intro _ hq_
       obtain ⟨q_, rfl⟩ := hq_
       replace HO_5 := Aside0.mk (Kd.R_below HO_5.out q_.b)
       replace HO_6 := Aside0.mk (Kd.R_below HO_6.out q_.b)
       replace BK359 := Aside0.mk (blk_below BK359.out q_.b)
       replace BK360 := Aside0.mk (blk_below BK360.out q_.b)
       replace HB := Aside0.mk (below_step HB.out q_.b)
       generalize q_.W = w38 at HO_5 HO_6 BK359 BK360 HB ⊢
       try simp only [i64_w, i32_w]
       try go_wp2
       go_meet
       case rel => exact ⟨_, (false), (by first | rfl | (simp; done) | (simp [*]; done)), H', ⟨by have := HK1.out; first | omega | exact Nat.le_refl _⟩, ⟨by (with_reducible repeat (first | apply Kd.R_alloc | apply Kd.R_drewN | apply Kd.R_drew)); exact HO_5.out⟩, ⟨by (with_reducible repeat (first | apply Kd.R_alloc | apply Kd.R_drewN | apply Kd.R_drew)); exact HO_6.out⟩, ⟨by (with_reducible repeat (first | refine blk_drewN ?_ _ | refine blk_drew ?_ | refine blk_alloc ?_ _)); exact BK359.out⟩, ⟨by (with_reducible repeat (first | refine blk_drewN ?_ _ | refine blk_drew ?_ | refine blk_alloc ?_ _)); exact BK360.out⟩, ⟨Hd.b_⟩⟩
    case rest =>
     clear HC13
     try clear c1
     try clear p2
     try clear c3
     try clear p3
     try clear q3
     try clear hx3
     try clear c11
     try clear c14
     try clear c14b0
     try clear c15
     try clear c16
     try clear c31
     try clear c31b0
     try clear c32
     try clear c32b0
     try clear c33
     try clear c33b0
     try clear p37
     try clear q37
     try clear hx37
     try clear hx371_0
     try clear hx371_1
     try clear p371
     try clear q371
     obtain ⟨kq, x8_12, rfl, HA, HJ12, HO_5, HO_6, BK359, BK360, HB⟩ := hcut
     cases kq with
     | zero => exact absurd HA.out (by simp [spec_l5Shared.j1])
     | succ kj12 =>
      have H := HA.out
      clear HA
      simp only [spec_l5Shared.j1] at H
      have H' := Aside0.mk H
      clear H
      go_wp2
      go_loopg [8, 9] kj12 (fun kq v8 v9 w' => ∃ (x8_3 : Bool) (x9_3 : Int), v8 = .bool x8_3 ∧ v9 = .int .i64 x9_3 ∧ Aside0 (spec_l5Shared.l1 kq x5_1 y364 x7_1 x8_3 x9_3 a0_0 a0_1 a0_2 a0_3 a1_0 a1_1 a1_2 a1_3 = some r) ∧ Aside0 (kq ≤ kj12) ∧ Aside0 (Kd.R k75 75 w' w.heap.size (fun k_ => some k_ ≠ (v365 : Value).ownBlock) u5 x5_1) ∧ Aside0 (Kd.R k75 75 w' w.heap.size (fun k_ => some k_ ≠ (u5 : Value).ownBlock) v365 y364) ∧ Aside0 (w'.heap[gb359]? = some (.cells #[.int .i64 a0_0, .int .i64 a0_1, .int .i64 a0_2, .int .i64 a0_3] 101 (0, 0))) ∧ Aside0 (w'.heap[gb360]? = some (.cells #[.int .i64 a1_0, .int .i64 a1_1, .int .i64 a1_2, .int .i64 a1_3] 101 (0, 0))) ∧ Aside0 (Below w.heap.size w w'))
      case atStart => exact ⟨(x8_12), (0), (by first | rfl | (simp; done) | (simp [*]; done)), (by first | rfl | (simp; done) | (simp [*]; done)), H', ⟨Nat.le_refl _⟩, ⟨by (with_reducible repeat (first | apply Kd.R_alloc | apply Kd.R_drewN | apply Kd.R_drew)); exact HO_5.out⟩, ⟨by (with_reducible repeat (first | apply Kd.R_alloc | apply Kd.R_drewN | apply Kd.R_drew)); exact HO_6.out⟩, ⟨by (with_reducible repeat (first | refine blk_drewN ?_ _ | refine blk_drew ?_ | refine blk_alloc ?_ _)); exact BK359.out⟩, ⟨by (with_reducible repeat (first | refine blk_drewN ?_ _ | refine blk_drew ?_ | refine blk_alloc ?_ _)); exact BK360.out⟩, ⟨Hd.b_⟩⟩
      case round =>
       clear H'
       try clear c1
       try clear p2
       try clear c3
       try clear p3
       try clear q3
       try clear hx3
       try clear c11
       try clear c14
       try clear c14b0
       try clear c15
       try clear c16
       try clear c31
       try clear c31b0
       try clear c32
       try clear c32b0
       try clear c33
       try clear c33b0
       try clear p37
       try clear q37
       try clear hx37
       try clear hx371_0
       try clear hx371_1
       try clear p2
       try clear p3
       try clear p37
       try clear p371
       try clear q3
       try clear q37
       try clear q371
       obtain ⟨x8_3, x9_3, rfl, rfl, HA, HK3, HO_5, HO_6, BK359, BK360, HB⟩ := hrel
       cases gk with
       | zero => exact absurd HA.out (by simp [spec_l5Shared.l1])
       | succ k3 =>
        have H := HA.out
        clear HA
        simp only [spec_l5Shared.l1] at H
        by_cases c39 : x9_3 < (x5_1.length : Int)
        ·
         rw [if_pos c39] at H
         have c39b0 : decide (x9_3 < (x5_1.length : Int)) = true := decide_eq_true c39
         clear c39
         by_cases c40 : x8_3 = true
         ·
          subst c40
          have H1 : (if 0 ≤ x9_3 then (if 0 ≤ x7_1 then (if x7_1 < (y364.length : Int) then (spec_l5Shared.l1 k3 x5_1 y364 x7_1 (!(((rd_T75 x5_1 x9_3).f0) == ((rd_T75 y364 x7_1).f0)) || (!(((rd_T75 x5_1 x9_3).f1) == ((rd_T75 y364 x7_1).f1)))) (wrap64 (x9_3 + 1)) a0_0 a0_1 a0_2 a0_3 a1_0 a1_1 a1_2 a1_3) else (none)) else (none)) else (none)) = some r := by rw [if_pos rfl] at H; exact H
          clear H
          have H := H1
          clear H1
          by_cases c41 : 0 ≤ x9_3
          ·
           rw [if_pos c41] at H
           have c41b0 : decide (0 ≤ x9_3) = true := decide_eq_true c41
           clear c41
           by_cases c42 : 0 ≤ x7_1
           ·
            rw [if_pos c42] at H
            have c42b0 : decide (0 ≤ x7_1) = true := decide_eq_true c42
            clear c42
            by_cases c43 : x7_1 < (y364.length : Int)
            ·
             rw [if_pos c43] at H
             have c43b0 : decide (x7_1 < (y364.length : Int)) = true := decide_eq_true c43
             clear c43
             have H' := Aside0.mk H
             clear H
             obtain ⟨Ao44, co44, eo44⟩ := Kd.R_slice HO_5.out
             subst eo44
             try go_wp2
             replace HO_5 := Aside0.mk (Kd.R_drew HO_5.out)
             replace HO_6 := Aside0.mk (Kd.R_drew HO_6.out)
             replace BK359 := Aside0.mk (blk_drew BK359.out)
             replace BK360 := Aside0.mk (blk_drew BK360.out)
             replace HB := Aside0.mk (below_drew1 HB.out)
             have p373 : 0 ≤ (x9_3 : Int) := of_decide_eq_true Hd.a_
             have q373 : x9_3 < (x5_1.length : Int) := of_decide_eq_true Hd.a_
             obtain ⟨ad373, e373, hx373_0, hx373_1⟩ := at_T75 (Kd.R_reads' HO_5.out).2.2 x9_3 p373 q373
             cases e373
             replace p373 := eq_true p373
             replace q373 := eq_true q373
             obtain ⟨Ao46, co46, eo46⟩ := Kd.R_slice HO_6.out
             (first | subst eo46 | (injection eo46 with f1_ f2_ f3_; have f4_ := f1_.symm; have f5_ := f3_.symm; clear f1_ f2_ f3_; subst f4_; subst f5_))
             have p374 : 0 ≤ (x7_1 : Int) := of_decide_eq_true Hd.a_
             have q374 : x7_1 < (y364.length : Int) := of_decide_eq_true Hd.a_
             obtain ⟨ad374, e374, hx374_0, hx374_1⟩ := at_T75 (Kd.R_reads' HO_6.out).2.2 x7_1 p374 q374
             cases e374
             replace p374 := eq_true p374
             replace q374 := eq_true q374
             have s0_ := Hd.HW.x (W0 := wr.drew) hx373_0
             have s1_ := Hd.HW.x (W0 := wr.drew) hx373_1
             have s2_ := Hd.HW.x (W0 := wr.drew) hx374_0
             have s3_ := Hd.HW.x (W0 := wr.drew) hx374_1
             refine Hd.HW.region (by kernel_rfl) (by kernel_rfl) ?_
             repeat (go_big_quiet_step (fail))
             refine wpQuiet_nil ?_
             intro _ hq_
             obtain ⟨q_, rfl⟩ := hq_
             clear s0_ s1_ s2_ s3_
             replace HO_5 := Aside0.mk (Kd.R_below HO_5.out q_.b)
             replace HO_6 := Aside0.mk (Kd.R_below HO_6.out q_.b)
             replace BK359 := Aside0.mk (blk_below BK359.out q_.b)
             replace BK360 := Aside0.mk (blk_below BK360.out q_.b)
             replace HB := Aside0.mk (below_step HB.out q_.b)
             replace hx373_0 := q_.cell hx373_0
             replace hx373_1 := q_.cell hx373_1
             replace hx374_0 := q_.cell hx374_0
             replace hx374_1 := q_.cell hx374_1
             generalize q_.W = w45 at HO_5 HO_6 BK359 BK360 HB hx373_0 hx373_1 hx374_0 hx374_1 ⊢
             try simp only [i64_w, i32_w]
             try go_wp2
             go_roundg k3
             case measure => have := HK1.out; have := HJ12.out; have := HK3.out; omega
             case rel => exact ⟨((!(((rd_T75 x5_1 x9_3).f0) == ((rd_T75 y364 x7_1).f0)) || (!(((rd_T75 x5_1 x9_3).f1) == ((rd_T75 y364 x7_1).f1))))), (wrap64 (x9_3 + 1)), (by first | rfl | (simp; done) | (simp [*]; done)), (by first | rfl | (simp; done) | (simp [*]; done)), H', ⟨by have := HK1.out; have := HJ12.out; have := HK3.out; omega⟩, ⟨by (with_reducible repeat (first | apply Kd.R_alloc | apply Kd.R_drewN | apply Kd.R_drew)); exact HO_5.out⟩, ⟨by (with_reducible repeat (first | apply Kd.R_alloc | apply Kd.R_drewN | apply Kd.R_drew)); exact HO_6.out⟩, ⟨by (with_reducible repeat (first | refine blk_drewN ?_ _ | refine blk_drew ?_ | refine blk_alloc ?_ _)); exact BK359.out⟩, ⟨by (with_reducible repeat (first | refine blk_drewN ?_ _ | refine blk_drew ?_ | refine blk_alloc ?_ _)); exact BK360.out⟩, ⟨Hd.b_⟩⟩
            ·
             rw [if_neg c43] at H
             exact absurd H (by simp)
           ·
            rw [if_neg c42] at H
            exact absurd H (by simp)
          ·
           rw [if_neg c41] at H
           exact absurd H (by simp)
         ·
          replace c40 := Bool.eq_false_iff.mpr c40
          subst c40
          have H1 : (spec_l5Shared.l1 k3 x5_1 y364 x7_1 false (wrap64 (x9_3 + 1)) a0_0 a0_1 a0_2 a0_3 a1_0 a1_1 a1_2 a1_3) = some r := by rw [if_neg (show ¬ (false = true) by decide)] at H; exact H
          clear H
          have H := H1
          clear H1
          have H' := Aside0.mk H
          clear H
          obtain ⟨Ao47, co47, eo47⟩ := Kd.R_slice HO_5.out
          subst eo47
          try go_wp2
          replace HO_5 := Aside0.mk (Kd.R_drew HO_5.out)
          replace HO_6 := Aside0.mk (Kd.R_drew HO_6.out)
          replace BK359 := Aside0.mk (blk_drew BK359.out)
          replace BK360 := Aside0.mk (blk_drew BK360.out)
          replace HB := Aside0.mk (below_drew1 HB.out)
          refine Hd.HW.region (by kernel_rfl) (by kernel_rfl) ?_
          repeat (go_big_quiet_step (fail))
          refine wpQuiet_nil ?_
          intro _ hq_
          obtain ⟨q_, rfl⟩ := hq_
          replace HO_5 := Aside0.mk (Kd.R_below HO_5.out q_.b)
          replace HO_6 := Aside0.mk (Kd.R_below HO_6.out q_.b)
          replace BK359 := Aside0.mk (blk_below BK359.out q_.b)
          replace BK360 := Aside0.mk (blk_below BK360.out q_.b)
          replace HB := Aside0.mk (below_step HB.out q_.b)
          generalize q_.W = w48 at HO_5 HO_6 BK359 BK360 HB ⊢
          try simp only [i64_w, i32_w]
          try go_wp2
          go_roundg k3
          case measure => have := HK1.out; have := HJ12.out; have := HK3.out; omega
          case rel => exact ⟨(false), (wrap64 (x9_3 + 1)), (by first | rfl | (simp; done) | (simp [*]; done)), (by first | rfl | (simp; done) | (simp [*]; done)), H', ⟨by have := HK1.out; have := HJ12.out; have := HK3.out; omega⟩, ⟨by (with_reducible repeat (first | apply Kd.R_alloc | apply Kd.R_drewN | apply Kd.R_drew)); exact HO_5.out⟩, ⟨by (with_reducible repeat (first | apply Kd.R_alloc | apply Kd.R_drewN | apply Kd.R_drew)); exact HO_6.out⟩, ⟨by (with_reducible repeat (first | refine blk_drewN ?_ _ | refine blk_drew ?_ | refine blk_alloc ?_ _)); exact BK359.out⟩, ⟨by (with_reducible repeat (first | refine blk_drewN ?_ _ | refine blk_drew ?_ | refine blk_alloc ?_ _)); exact BK360.out⟩, ⟨Hd.b_⟩⟩
        ·
         rw [if_neg c39] at H
         have c39b0 : decide (x9_3 < (x5_1.length : Int)) = false := decide_eq_false c39
         clear c39
         by_cases c49 : x8_3 = true
         ·
          subst c49
          have H1 : (if 0 ≤ x7_1 then (if x7_1 < (y364.length : Int) then (if x5_1.length < 8796093022208 then (spec_l5Shared.l0 k3 (x5_1 ++ [(⟨(rd_T75 y364 x7_1).f0, (rd_T75 y364 x7_1).f1⟩ : S75)]) y364 (wrap64 (x7_1 + 1)) a0_0 a0_1 a0_2 a0_3 a1_0 a1_1 a1_2 a1_3) else (none)) else (none)) else (none)) = some r := by rw [if_pos rfl] at H; exact H
          clear H
          have H := H1
          clear H1
          by_cases c50 : 0 ≤ x7_1
          ·
           rw [if_pos c50] at H
           have c50b0 : decide (0 ≤ x7_1) = true := decide_eq_true c50
           clear c50
           by_cases c51 : x7_1 < (y364.length : Int)
           ·
            rw [if_pos c51] at H
            have c51b0 : decide (x7_1 < (y364.length : Int)) = true := decide_eq_true c51
            clear c51
            by_cases c52 : x5_1.length < 8796093022208
            ·
             rw [if_pos c52] at H
             have LMc52 := Aside0.mk c52
             clear c52
             obtain ⟨y376, hy376⟩ : ∃ y_ : List (S75), y_ = (x5_1 ++ [(⟨(rd_T75 y364 x7_1).f0, (rd_T75 y364 x7_1).f1⟩ : S75)]) := ⟨_, rfl⟩
             replace H : (spec_l5Shared.l0 k3 y376 y364 (wrap64 (x7_1 + 1)) a0_0 a0_1 a0_2 a0_3 a1_0 a1_1 a1_2 a1_3) = some r := by first | (rw [hy376]; with_reducible exact H) | (have H2_ := (Option.bind_some _ _).symm.trans H; rw [hy376]; with_reducible exact H2_) | (have H2_ := (Option.bind_some _ _).symm.trans H; with_reducible exact H2_) | with_reducible exact H | (rw [hy376]; exact H) | exact H
             have Ny376 := Aside0.mk hy376
             clear hy376
             have H' := Aside0.mk H
             clear H
             obtain ⟨Ao53, co53, eo53⟩ := Kd.R_slice HO_5.out
             subst eo53
             obtain ⟨Ao54, co54, eo54⟩ := Kd.R_slice HO_6.out
             subst eo54
             have p375 : 0 ≤ (x7_1 : Int) := of_decide_eq_true Hd.a_
             have q375 : x7_1 < (y364.length : Int) := of_decide_eq_true Hd.a_
             obtain ⟨ad375, e375, hx375_0, hx375_1⟩ := at_T75 (Kd.R_reads' HO_6.out).2.2 x7_1 p375 q375
             cases e375
             replace p375 := eq_true p375
             replace q375 := eq_true q375
             go_wp2_with (first | ((with_reducible refine gate_builtin (b := .append) (xs := #[.tmp 65, .tmp 70]) rfl ?_); at_builtin; refine Kd.R_append k75 (w0 := w) w.heap.size rfl (.tmp 65) (.tmp 70) 32 75 (.agg #[(.int .i64 0), (.int .i64 0)]) 16 rfl Try.underlying32 info75 rfl (by decide) (by omega) (.slice Ao53 x5_1.length co53) x5_1 (⟨(rd_T75 y364 x7_1).f0, (rd_T75 y364 x7_1).f1⟩ : S75) [.int .i64 ((rd_T75 y364 x7_1).f0), .int .i64 ((rd_T75 y364 x7_1).f1)] (fun k_ => some k_ ≠ (.slice (some ad375) y364.length co54 : Value).ownBlock) (fun _ => False) rfl rfl ?aP (fun _ hk => hk.elim) ?aF ?aO ?aB ?aS ?aL ?_; (case aP => exact k75_mkM _ _ _ (⟨(rd_T75 y364 x7_1).f0, (rd_T75 y364 x7_1).f1⟩ : S75)); (case aB => exact Hd.b_); (case aF => exact (fun k_ hk => Kd.fresh' (Kd.R_lt (Hd.r_ HO_6)) k_ hk)); (case aO => exact (Hd.r_ HO_5)); (case aS => exact (below_size Hd.b_)); (case aL => have := LMc52.out; omega); intro v377 w55 ho hb hg hat; rw [← Ny376.out] at ho; have n0_ := Aside0.mk (Kd.R_after (ok := (fun _ => True)) (by (with_reducible repeat (first | apply Kd.R_alloc | apply Kd.R_drewN | apply Kd.R_drew)); exact Kd.R_mono HO_6.out (fun _ hk => ⟨trivial, hk⟩)) hg hat); have n1_ := Aside0.mk (blk_grown (g := gb359) (o := .cells #[.int .i64 a0_0, .int .i64 a0_1, .int .i64 a0_2, .int .i64 a0_3] 101 (0, 0)) (Hd.k_ BK359) hg (Kd.R_ne HO_5.out BK359.out (by decide))); have n2_ := Aside0.mk (blk_grown (g := gb360) (o := .cells #[.int .i64 a1_0, .int .i64 a1_1, .int .i64 a1_2, .int .i64 a1_3] 101 (0, 0)) (Hd.k_ BK360) hg (Kd.R_ne HO_5.out BK360.out (by decide))); have n3_ := Aside0.mk (hb); have n4_ := Aside0.mk (ho); clear HO_6; clear BK359; clear BK360; clear HB; clear HO_5; have HO_6 := n0_; have BK359 := n1_; have BK360 := n2_; have HB := n3_; have HO378 := n4_; clear n0_ n1_ n2_ n3_ n4_; clear ho hb hg hat))
             go_roundg k3
             case measure => have := HK1.out; have := HJ12.out; have := HK3.out; omega
             case rel => exact ⟨(y376), (wrap64 (x7_1 + 1)), (by first | rfl | (simp; done) | (simp [*]; done)), H', ⟨by have := HK1.out; have := HJ12.out; have := HK3.out; omega⟩, ⟨by (with_reducible repeat (first | apply Kd.R_alloc | apply Kd.R_drewN | apply Kd.R_drew)); exact HO378.out⟩, ⟨by (with_reducible repeat (first | apply Kd.R_alloc | apply Kd.R_drewN | apply Kd.R_drew)); exact Kd.R_mono HO_6.out (fun _ hk => hk.2)⟩, ⟨by (with_reducible repeat (first | refine blk_drewN ?_ _ | refine blk_drew ?_ | refine blk_alloc ?_ _)); exact BK359.out⟩, ⟨by (with_reducible repeat (first | refine blk_drewN ?_ _ | refine blk_drew ?_ | refine blk_alloc ?_ _)); exact BK360.out⟩, ⟨Hd.b_⟩⟩
            ·
             rw [if_neg c52] at H
             exact absurd H (by simp)
           ·
            rw [if_neg c51] at H
            exact absurd H (by simp)
          ·
           rw [if_neg c50] at H
           exact absurd H (by simp)
         ·
          replace c49 := Bool.eq_false_iff.mpr c49
          subst c49
          have H1 : (spec_l5Shared.l0 k3 x5_1 y364 (wrap64 (x7_1 + 1)) a0_0 a0_1 a0_2 a0_3 a1_0 a1_1 a1_2 a1_3) = some r := by rw [if_neg (show ¬ (false = true) by decide)] at H; exact H
          clear H
          have H := H1
          clear H1
          have H' := Aside0.mk H
          clear H
          obtain ⟨Ao56, co56, eo56⟩ := Kd.R_slice HO_5.out
          subst eo56
          go_wp2
          go_roundg k3
          case measure => have := HK1.out; have := HJ12.out; have := HK3.out; omega
          case rel => exact ⟨(x5_1), (wrap64 (x7_1 + 1)), (by first | rfl | (simp; done) | (simp [*]; done)), H', ⟨by have := HK1.out; have := HJ12.out; have := HK3.out; omega⟩, ⟨by (with_reducible repeat (first | apply Kd.R_alloc | apply Kd.R_drewN | apply Kd.R_drew)); exact HO_5.out⟩, ⟨by (with_reducible repeat (first | apply Kd.R_alloc | apply Kd.R_drewN | apply Kd.R_drew)); exact HO_6.out⟩, ⟨by (with_reducible repeat (first | refine blk_drewN ?_ _ | refine blk_drew ?_ | refine blk_alloc ?_ _)); exact BK359.out⟩, ⟨by (with_reducible repeat (first | refine blk_drewN ?_ _ | refine blk_drew ?_ | refine blk_alloc ?_ _)); exact BK360.out⟩, ⟨Hd.b_⟩⟩
   ·
    rw [if_neg c12] at H
    have c12b0 : decide (x7_1 < 4) = false := decide_eq_false c12
    clear c12
    obtain rfl := Option.some.inj H
    obtain ⟨Ao57, co57, eo57⟩ := Kd.R_slice HO_5.out
    subst eo57
    go_wp2
    go_ret
    exact ⟨Hd.e_, Hd.b_⟩
def spec_SideOf.j0 : Nat → Bool → Int → Int → Int → Int → Int → Int → Option (Int)
 | 0, _, _, _, _, _, _, _ => none
 | k + 1, x20, x380000, x380001, x381000, x381001, x382000, x382001 => if x20 = true then (some 0) else ((spec_l4Cross.f x380000 x380001 x381000 x381001 x382000 x382001).bind fun t385 => (if t385 > 0 then (some 1) else (if t385 < 0 then (some (-1)) else (some 0))))
def spec_SideOf.f (k : Nat) (a0_0 : Int) (a0_1 : Int) (a1_0 : Int) (a1_1 : Int) (a2_0 : Int) (a2_1 : Int) : Option (Int) := (spec_IsPoint.f a0_0 a0_1).bind fun t382 => (if t382 = true then ((spec_IsPoint.f a1_0 a1_1).bind fun t383 => (if t383 = true then ((spec_IsPoint.f a2_0 a2_1).bind fun t384 => (spec_SideOf.j0 k (!t384) a0_0 a0_1 a1_0 a1_1 a2_0 a2_1)) else (spec_SideOf.j0 k true a0_0 a0_1 a1_0 a1_1 a2_0 a2_1))) else (spec_SideOf.j0 k true a0_0 a0_1 a1_0 a1_1 a2_0 a2_1))
set_option maxHeartbeats 8000000 in
set_option maxRecDepth 100000 in
theorem spec_SideOf.calls (k : Nat) (a0_0 : Int) (a0_1 : Int) (a1_0 : Int) (a1_1 : Int) (a2_0 : Int) (a2_1 : Int) (r : Int) (w : World) (h : spec_SideOf.f k a0_0 a0_1 a1_0 a1_1 a2_0 a2_1 = some r) :
  Calls Try.prog 111 #[.agg #[.int .i64 a0_0, .int .i64 a0_1], .agg #[.int .i64 a1_0, .int .i64 a1_1], .agg #[.int .i64 a2_0, .int .i64 a2_1]] w fun e w' => e = .returned (.int .i64 r) ∧ Below w.heap.size w w' := by
 have hu75 := Try.underlying75
 have HB := Aside0.mk (Below.refl w.heap.size w)
 have H : ((spec_IsPoint.f a0_0 a0_1).bind fun t382 => (if t382 = true then ((spec_IsPoint.f a1_0 a1_1).bind fun t383 => (if t383 = true then ((spec_IsPoint.f a2_0 a2_1).bind fun t384 => (spec_SideOf.j0 k (!t384) a0_0 a0_1 a1_0 a1_1 a2_0 a2_1)) else (spec_SideOf.j0 k true a0_0 a0_1 a1_0 a1_1 a2_0 a2_1))) else (spec_SideOf.j0 k true a0_0 a0_1 a1_0 a1_1 a2_0 a2_1))) = some r := h
 clear h
 have HC4 := Aside0.mk H
 clear H
 go_enter Try.func111, Try.ntmps111
 go_upto_region 1 with (first | ((with_reducible refine gate_dst (N := 3) rfl ?_); refine Hd.box_ 3 (#[.int .i64 a0_0, .int .i64 a0_1]) 75 ?_; intro gb379 hg w5 hbox hb; have BK379 := Aside0.mk (hbox); have GW379 := Aside0.mk ((Hd.g_ hg Hd.b_ : w.heap.size ≤ gb379)); have GE379 := Aside0.mk ((Hd.g_ hg Hd.b_ : w.heap.size ≤ gb379)); replace HB := Aside0.mk (below_step Hd.b_ hb); clear hb hbox hg) | ((with_reducible refine gate_dst (N := 4) rfl ?_); refine Hd.box_ 4 (#[.int .i64 a1_0, .int .i64 a1_1]) 75 ?_; intro gb380 hg w6 hbox hb; have BK380 := Aside0.mk (hbox); have GW380 := Aside0.mk ((Hd.g_ hg Hd.b_ : w.heap.size ≤ gb380)); have GE380 := Aside0.mk ((Hd.g_ hg Hd.b_ : w.heap.size ≤ gb380)); replace HB := Aside0.mk (below_step Hd.b_ hb); have NB379_380 := Aside0.mk ((Hd.lt_ BK379 hg)); have NB380_379 := Aside0.mk ((Hd.gt_ BK379 hg)); replace BK379 := Aside0.mk (Hd.kb_ BK379 hb); clear hb hbox hg) | ((with_reducible refine gate_dst (N := 5) rfl ?_); refine Hd.box_ 5 (#[.int .i64 a2_0, .int .i64 a2_1]) 75 ?_; intro gb381 hg w7 hbox hb; have BK381 := Aside0.mk (hbox); have GW381 := Aside0.mk ((Hd.g_ hg Hd.b_ : w.heap.size ≤ gb381)); have GE381 := Aside0.mk ((Hd.g_ hg Hd.b_ : w.heap.size ≤ gb381)); replace HB := Aside0.mk (below_step Hd.b_ hb); have NB379_381 := Aside0.mk ((Hd.lt_ BK379 hg)); have NB381_379 := Aside0.mk ((Hd.gt_ BK379 hg)); replace BK379 := Aside0.mk (Hd.kb_ BK379 hb); have NB380_381 := Aside0.mk ((Hd.lt_ BK380 hg)); have NB381_380 := Aside0.mk ((Hd.gt_ BK380 hg)); replace BK380 := Aside0.mk (Hd.kb_ BK380 hb); clear hb hbox hg))
 (try simp only [Act.put, List.setIfInBounds_toArray, List.set_cons_zero, List.set_cons_succ])
 go_cut [20] (fun v20 wc => ∃ (kq : Nat) (x20_3 : Bool), v20 = .bool x20_3 ∧ Aside0 (spec_SideOf.j0 kq x20_3 a0_0 a0_1 a1_0 a1_1 a2_0 a2_1 = some r) ∧ Aside0 (kq ≤ k) ∧ Aside0 (wc.heap[gb379]? = some (.cells #[.int .i64 a0_0, .int .i64 a0_1] 75 (0, 0))) ∧ Aside0 (wc.heap[gb380]? = some (.cells #[.int .i64 a1_0, .int .i64 a1_1] 75 (0, 0))) ∧ Aside0 (wc.heap[gb381]? = some (.cells #[.int .i64 a2_0, .int .i64 a2_1] 75 (0, 0))) ∧ Aside0 (Below w.heap.size w wc))
 case first =>
  have H := HC4.out
  clear HC4
  replace H := Option.bind_eq_some_iff.mp H
  obtain ⟨t382, A80, H⟩ := H
  replace H : (if t382 = true then ((spec_IsPoint.f a1_0 a1_1).bind fun t383 => (if t383 = true then ((spec_IsPoint.f a2_0 a2_1).bind fun t384 => (spec_SideOf.j0 k (!t384) a0_0 a0_1 a1_0 a1_1 a2_0 a2_1)) else (spec_SideOf.j0 k true a0_0 a0_1 a1_0 a1_1 a2_0 a2_1))) else (spec_SideOf.j0 k true a0_0 a0_1 a1_0 a1_1 a2_0 a2_1)) = some r := H
  have A8 := Aside0.mk A80
  clear A80
  by_cases c9 : t382 = true
  ·
   subst c9
   have H1 : ((spec_IsPoint.f a1_0 a1_1).bind fun t383 => (if t383 = true then ((spec_IsPoint.f a2_0 a2_1).bind fun t384 => (spec_SideOf.j0 k (!t384) a0_0 a0_1 a1_0 a1_1 a2_0 a2_1)) else (spec_SideOf.j0 k true a0_0 a0_1 a1_0 a1_1 a2_0 a2_1))) = some r := by rw [if_pos rfl] at H; exact H
   clear H
   have H := H1
   clear H1
   replace H := Option.bind_eq_some_iff.mp H
   obtain ⟨t383, A100, H⟩ := H
   replace H : (if t383 = true then ((spec_IsPoint.f a2_0 a2_1).bind fun t384 => (spec_SideOf.j0 k (!t384) a0_0 a0_1 a1_0 a1_1 a2_0 a2_1)) else (spec_SideOf.j0 k true a0_0 a0_1 a1_0 a1_1 a2_0 a2_1)) = some r := H
   have A10 := Aside0.mk A100
   clear A100
   by_cases c11 : t383 = true
   ·
    subst c11
    have H1 : ((spec_IsPoint.f a2_0 a2_1).bind fun t384 => (spec_SideOf.j0 k (!t384) a0_0 a0_1 a1_0 a1_1 a2_0 a2_1)) = some r := by rw [if_pos rfl] at H; exact H
    clear H
    have H := H1
    clear H1
    replace H := Option.bind_eq_some_iff.mp H
    obtain ⟨t384, A120, H⟩ := H
    replace H : (spec_SideOf.j0 k (!t384) a0_0 a0_1 a1_0 a1_1 a2_0 a2_1) = some r := H
    have A12 := Aside0.mk A120
    clear A120
    have H' := Aside0.mk H
    clear H
    have hnb13 := NB379_380.out
    have hnc13 := NB380_379.out
    have hnb14 := NB379_381.out
    have hnc14 := NB381_379.out
    obtain ⟨hcz15_0, hcz15_1⟩ := Hd.c2_ BK379.out
    obtain ⟨hfz15_0, hfz15_1⟩ := Hd.f2_ BK379.out
    go_wp2_with (first | ((with_reducible refine gate_callee (f := 81) rfl ?_); refine goesL_ (some 9) rfl rfl Try.func81 (by kernel_rfl) rfl #[.agg #[.int .i64 a0_0, .int .i64 a0_1]] rfl Hd.m_ ?_; (with_reducible refine (spec_IsPoint.calls a0_0 a0_1 true _ A8.out).mono ?_); rintro e w16 ⟨rfl, hb⟩; refine ⟨_, rfl, ?_⟩; replace BK379 := Aside0.mk (Hd.kb_ BK379 hb); replace BK380 := Aside0.mk (Hd.kb_ BK380 hb); replace BK381 := Aside0.mk (Hd.kb_ BK381 hb); replace HB := Aside0.mk (below_step Hd.b_ hb); (try clear hb); (try clear hb2); (try clear hk); (try clear hi); have hnb17 := NB380_381.out; have hnc17 := NB381_380.out; obtain ⟨hcz18_0, hcz18_1⟩ := Hd.c2_ BK380.out; obtain ⟨hfz18_0, hfz18_1⟩ := Hd.f2_ BK380.out) | (go_at_call 81; (with_reducible refine (spec_IsPoint.calls a1_0 a1_1 true _ A10.out).mono ?_); rintro e w19 ⟨rfl, hb⟩; replace BK379 := Aside0.mk (Hd.kb_ BK379 hb); replace BK380 := Aside0.mk (Hd.kb_ BK380 hb); replace BK381 := Aside0.mk (Hd.kb_ BK381 hb); replace HB := Aside0.mk (below_step Hd.b_ hb); (try clear hb); (try clear hb2); (try clear hk); (try clear hi); obtain ⟨hcz20_0, hcz20_1⟩ := Hd.c2_ BK381.out; obtain ⟨hfz20_0, hfz20_1⟩ := Hd.f2_ BK381.out) | (go_at_call 81; (with_reducible refine (spec_IsPoint.calls a2_0 a2_1 t384 _ A12.out).mono ?_); rintro e w21 ⟨rfl, hb⟩; replace BK379 := Aside0.mk (Hd.kb_ BK379 hb); replace BK380 := Aside0.mk (Hd.kb_ BK380 hb); replace BK381 := Aside0.mk (Hd.kb_ BK381 hb); replace HB := Aside0.mk (below_step Hd.b_ hb); (try clear hb); (try clear hb2); (try clear hk); (try clear hi)))
    go_meet
    case rel => exact ⟨_, (!t384), (by first | rfl | (simp; done) | (simp [*]; done)), H', ⟨by first | omega | exact Nat.le_refl _⟩, ⟨by (with_reducible repeat (first | refine blk_drewN ?_ _ | refine blk_drew ?_ | refine blk_alloc ?_ _)); exact BK379.out⟩, ⟨by (with_reducible repeat (first | refine blk_drewN ?_ _ | refine blk_drew ?_ | refine blk_alloc ?_ _)); exact BK380.out⟩, ⟨by (with_reducible repeat (first | refine blk_drewN ?_ _ | refine blk_drew ?_ | refine blk_alloc ?_ _)); exact BK381.out⟩, ⟨Hd.b_⟩⟩
   ·
    replace c11 := Bool.eq_false_iff.mpr c11
    subst c11
    have H1 : (spec_SideOf.j0 k true a0_0 a0_1 a1_0 a1_1 a2_0 a2_1) = some r := by rw [if_neg (show ¬ (false = true) by decide)] at H; exact H
    clear H
    have H := H1
    clear H1
    have H' := Aside0.mk H
    clear H
    have hnb22 := NB379_380.out
    have hnc22 := NB380_379.out
    have hnb23 := NB379_381.out
    have hnc23 := NB381_379.out
    obtain ⟨hcz24_0, hcz24_1⟩ := Hd.c2_ BK379.out
    obtain ⟨hfz24_0, hfz24_1⟩ := Hd.f2_ BK379.out
    go_wp2_with (first | ((with_reducible refine gate_callee (f := 81) rfl ?_); refine goesL_ (some 9) rfl rfl Try.func81 (by kernel_rfl) rfl #[.agg #[.int .i64 a0_0, .int .i64 a0_1]] rfl Hd.m_ ?_; (with_reducible refine (spec_IsPoint.calls a0_0 a0_1 true _ A8.out).mono ?_); rintro e w25 ⟨rfl, hb⟩; refine ⟨_, rfl, ?_⟩; replace BK379 := Aside0.mk (Hd.kb_ BK379 hb); replace BK380 := Aside0.mk (Hd.kb_ BK380 hb); replace BK381 := Aside0.mk (Hd.kb_ BK381 hb); replace HB := Aside0.mk (below_step Hd.b_ hb); (try clear hb); (try clear hb2); (try clear hk); (try clear hi); have hnb26 := NB380_381.out; have hnc26 := NB381_380.out; obtain ⟨hcz27_0, hcz27_1⟩ := Hd.c2_ BK380.out; obtain ⟨hfz27_0, hfz27_1⟩ := Hd.f2_ BK380.out) | (go_at_call 81; (with_reducible refine (spec_IsPoint.calls a1_0 a1_1 false _ A10.out).mono ?_); rintro e w28 ⟨rfl, hb⟩; replace BK379 := Aside0.mk (Hd.kb_ BK379 hb); replace BK380 := Aside0.mk (Hd.kb_ BK380 hb); replace BK381 := Aside0.mk (Hd.kb_ BK381 hb); replace HB := Aside0.mk (below_step Hd.b_ hb); (try clear hb); (try clear hb2); (try clear hk); (try clear hi)))
    go_meet
    case rel => exact ⟨_, (true), (by first | rfl | (simp; done) | (simp [*]; done)), H', ⟨by first | omega | exact Nat.le_refl _⟩, ⟨by (with_reducible repeat (first | refine blk_drewN ?_ _ | refine blk_drew ?_ | refine blk_alloc ?_ _)); exact BK379.out⟩, ⟨by (with_reducible repeat (first | refine blk_drewN ?_ _ | refine blk_drew ?_ | refine blk_alloc ?_ _)); exact BK380.out⟩, ⟨by (with_reducible repeat (first | refine blk_drewN ?_ _ | refine blk_drew ?_ | refine blk_alloc ?_ _)); exact BK381.out⟩, ⟨Hd.b_⟩⟩
  ·
   replace c9 := Bool.eq_false_iff.mpr c9
   subst c9
   have H1 : (spec_SideOf.j0 k true a0_0 a0_1 a1_0 a1_1 a2_0 a2_1) = some r := by rw [if_neg (show ¬ (false = true) by decide)] at H; exact H
   clear H
   have H := H1
   clear H1
   have H' := Aside0.mk H
   clear H
   have hnb29 := NB379_380.out
   have hnc29 := NB380_379.out
   have hnb30 := NB379_381.out
   have hnc30 := NB381_379.out
   obtain ⟨hcz31_0, hcz31_1⟩ := Hd.c2_ BK379.out
   obtain ⟨hfz31_0, hfz31_1⟩ := Hd.f2_ BK379.out
   go_wp2_with (first | ((with_reducible refine gate_callee (f := 81) rfl ?_); refine goesL_ (some 9) rfl rfl Try.func81 (by kernel_rfl) rfl #[.agg #[.int .i64 a0_0, .int .i64 a0_1]] rfl Hd.m_ ?_; (with_reducible refine (spec_IsPoint.calls a0_0 a0_1 false _ A8.out).mono ?_); rintro e w32 ⟨rfl, hb⟩; refine ⟨_, rfl, ?_⟩; replace BK379 := Aside0.mk (Hd.kb_ BK379 hb); replace BK380 := Aside0.mk (Hd.kb_ BK380 hb); replace BK381 := Aside0.mk (Hd.kb_ BK381 hb); replace HB := Aside0.mk (below_step Hd.b_ hb); (try clear hb); (try clear hb2); (try clear hk); (try clear hi)))
   go_meet
   case rel => exact ⟨_, (true), (by first | rfl | (simp; done) | (simp [*]; done)), H', ⟨by first | omega | exact Nat.le_refl _⟩, ⟨by (with_reducible repeat (first | refine blk_drewN ?_ _ | refine blk_drew ?_ | refine blk_alloc ?_ _)); exact BK379.out⟩, ⟨by (with_reducible repeat (first | refine blk_drewN ?_ _ | refine blk_drew ?_ | refine blk_alloc ?_ _)); exact BK380.out⟩, ⟨by (with_reducible repeat (first | refine blk_drewN ?_ _ | refine blk_drew ?_ | refine blk_alloc ?_ _)); exact BK381.out⟩, ⟨Hd.b_⟩⟩
 case rest =>
  clear HC4
  try clear c1
  try clear c2
  try clear p2
  try clear c3
  try clear c8
  try clear c9
  try clear c11
  try clear c13
  try clear c14
  try clear c17
  try clear c22
  try clear c23
  try clear c26
  try clear c29
  try clear c30
  try clear hcz15_0
  try clear hcz15_1
  try clear hcz18_0
  try clear hcz18_1
  try clear hcz20_0
  try clear hcz20_1
  try clear hcz24_0
  try clear hcz24_1
  try clear hcz27_0
  try clear hcz27_1
  try clear hcz31_0
  try clear hcz31_1
  try clear hfz15_0
  try clear hfz15_1
  try clear hfz18_0
  try clear hfz18_1
  try clear hfz20_0
  try clear hfz20_1
  try clear hfz24_0
  try clear hfz24_1
  try clear hfz27_0
  try clear hfz27_1
  try clear hfz31_0
  try clear hfz31_1
  obtain ⟨kq, x20_3, rfl, HA, HJ3, BK379, BK380, BK381, HB⟩ := hcut
  cases kq with
  | zero => exact absurd HA.out (by simp [spec_SideOf.j0])
  | succ kj3 =>
   have H := HA.out
   clear HA
   simp only [spec_SideOf.j0] at H
   by_cases c33 : x20_3 = true
   ·
    subst c33
    have H1 : (some 0) = some r := by rw [if_pos rfl] at H; exact H
    clear H
    have H := H1
    clear H1
    obtain rfl := Option.some.inj H
    go_wp2
    go_ret
    exact ⟨Hd.e_, Hd.b_⟩
   ·
    replace c33 := Bool.eq_false_iff.mpr c33
    subst c33
    have H1 : ((spec_l4Cross.f a0_0 a0_1 a1_0 a1_1 a2_0 a2_1).bind fun t385 => (if t385 > 0 then (some 1) else (if t385 < 0 then (some (-1)) else (some 0)))) = some r := by rw [if_neg (show ¬ (false = true) by decide)] at H; exact H
    clear H
    have H := H1
    clear H1
    replace H := Option.bind_eq_some_iff.mp H
    obtain ⟨t385, A340, H⟩ := H
    replace H : (if t385 > 0 then (some 1) else (if t385 < 0 then (some (-1)) else (some 0))) = some r := H
    have A34 := Aside0.mk A340
    clear A340
    by_cases c35 : t385 > 0
    ·
     rw [if_pos c35] at H
     have c35b0 : decide (0 < t385) = true := decide_eq_true c35
     clear c35
     obtain rfl := Option.some.inj H
     have hnb36 := NB379_380.out
     have hnc36 := NB380_379.out
     have hnb37 := NB379_381.out
     have hnc37 := NB381_379.out
     obtain ⟨hcz38_0, hcz38_1⟩ := Hd.c2_ BK379.out
     obtain ⟨hfz38_0, hfz38_1⟩ := Hd.f2_ BK379.out
     have hnb39 := NB380_381.out
     have hnc39 := NB381_380.out
     obtain ⟨hcz40_0, hcz40_1⟩ := Hd.c2_ BK380.out
     obtain ⟨hfz40_0, hfz40_1⟩ := Hd.f2_ BK380.out
     obtain ⟨hcz41_0, hcz41_1⟩ := Hd.c2_ BK381.out
     obtain ⟨hfz41_0, hfz41_1⟩ := Hd.f2_ BK381.out
     go_wp2_with (first | ((with_reducible refine gate_callee (f := 115) rfl ?_); refine goesL_ (some 24) rfl rfl Try.func115 (by kernel_rfl) rfl #[.agg #[.int .i64 a0_0, .int .i64 a0_1], .agg #[.int .i64 a1_0, .int .i64 a1_1], .agg #[.int .i64 a2_0, .int .i64 a2_1]] rfl Hd.m_ ?_; (with_reducible refine (spec_l4Cross.calls a0_0 a0_1 a1_0 a1_1 a2_0 a2_1 t385 _ A34.out).mono ?_); rintro e w42 ⟨rfl, hb⟩; refine ⟨_, rfl, ?_⟩; replace BK379 := Aside0.mk (Hd.kb_ BK379 hb); replace BK380 := Aside0.mk (Hd.kb_ BK380 hb); replace BK381 := Aside0.mk (Hd.kb_ BK381 hb); replace HB := Aside0.mk (below_step Hd.b_ hb); (try clear hb); (try clear hb2); (try clear hk); (try clear hi)))
     go_ret
     exact ⟨Hd.e_, Hd.b_⟩
    ·
     rw [if_neg c35] at H
     have c35b0 : decide (0 < t385) = false := decide_eq_false c35
     clear c35
     by_cases c43 : t385 < 0
     ·
      rw [if_pos c43] at H
      have c43b0 : decide (t385 < 0) = true := decide_eq_true c43
      clear c43
      obtain rfl := Option.some.inj H
      have hnb44 := NB379_380.out
      have hnc44 := NB380_379.out
      have hnb45 := NB379_381.out
      have hnc45 := NB381_379.out
      obtain ⟨hcz46_0, hcz46_1⟩ := Hd.c2_ BK379.out
      obtain ⟨hfz46_0, hfz46_1⟩ := Hd.f2_ BK379.out
      have hnb47 := NB380_381.out
      have hnc47 := NB381_380.out
      obtain ⟨hcz48_0, hcz48_1⟩ := Hd.c2_ BK380.out
      obtain ⟨hfz48_0, hfz48_1⟩ := Hd.f2_ BK380.out
      obtain ⟨hcz49_0, hcz49_1⟩ := Hd.c2_ BK381.out
      obtain ⟨hfz49_0, hfz49_1⟩ := Hd.f2_ BK381.out
      go_wp2_with (first | ((with_reducible refine gate_callee (f := 115) rfl ?_); refine goesL_ (some 24) rfl rfl Try.func115 (by kernel_rfl) rfl #[.agg #[.int .i64 a0_0, .int .i64 a0_1], .agg #[.int .i64 a1_0, .int .i64 a1_1], .agg #[.int .i64 a2_0, .int .i64 a2_1]] rfl Hd.m_ ?_; (with_reducible refine (spec_l4Cross.calls a0_0 a0_1 a1_0 a1_1 a2_0 a2_1 t385 _ A34.out).mono ?_); rintro e w50 ⟨rfl, hb⟩; refine ⟨_, rfl, ?_⟩; replace BK379 := Aside0.mk (Hd.kb_ BK379 hb); replace BK380 := Aside0.mk (Hd.kb_ BK380 hb); replace BK381 := Aside0.mk (Hd.kb_ BK381 hb); replace HB := Aside0.mk (below_step Hd.b_ hb); (try clear hb); (try clear hb2); (try clear hk); (try clear hi)))
      go_ret
      exact ⟨Hd.e_, Hd.b_⟩
     ·
      rw [if_neg c43] at H
      have c43b0 : decide (t385 < 0) = false := decide_eq_false c43
      clear c43
      obtain rfl := Option.some.inj H
      have hnb51 := NB379_380.out
      have hnc51 := NB380_379.out
      have hnb52 := NB379_381.out
      have hnc52 := NB381_379.out
      obtain ⟨hcz53_0, hcz53_1⟩ := Hd.c2_ BK379.out
      obtain ⟨hfz53_0, hfz53_1⟩ := Hd.f2_ BK379.out
      have hnb54 := NB380_381.out
      have hnc54 := NB381_380.out
      obtain ⟨hcz55_0, hcz55_1⟩ := Hd.c2_ BK380.out
      obtain ⟨hfz55_0, hfz55_1⟩ := Hd.f2_ BK380.out
      obtain ⟨hcz56_0, hcz56_1⟩ := Hd.c2_ BK381.out
      obtain ⟨hfz56_0, hfz56_1⟩ := Hd.f2_ BK381.out
      go_wp2_with (first | ((with_reducible refine gate_callee (f := 115) rfl ?_); refine goesL_ (some 24) rfl rfl Try.func115 (by kernel_rfl) rfl #[.agg #[.int .i64 a0_0, .int .i64 a0_1], .agg #[.int .i64 a1_0, .int .i64 a1_1], .agg #[.int .i64 a2_0, .int .i64 a2_1]] rfl Hd.m_ ?_; (with_reducible refine (spec_l4Cross.calls a0_0 a0_1 a1_0 a1_1 a2_0 a2_1 t385 _ A34.out).mono ?_); rintro e w57 ⟨rfl, hb⟩; refine ⟨_, rfl, ?_⟩; replace BK379 := Aside0.mk (Hd.kb_ BK379 hb); replace BK380 := Aside0.mk (Hd.kb_ BK380 hb); replace BK381 := Aside0.mk (Hd.kb_ BK381 hb); replace HB := Aside0.mk (below_step Hd.b_ hb); (try clear hb); (try clear hb2); (try clear hk); (try clear hi)))
      go_ret
      exact ⟨Hd.e_, Hd.b_⟩
end Go.Proofs.Ytbbdhlggnglfgaa.MFnExactTakeFeature
