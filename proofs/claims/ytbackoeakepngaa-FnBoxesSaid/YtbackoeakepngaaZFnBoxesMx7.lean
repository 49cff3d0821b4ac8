-- Laid by this session's program pp.py, after the kit's print and texts of the session's own. Not trusted: Lean checks it.
import Derived.Test.YtbackoeakepngaaZFnBoxesMx0
import Derived.Test.YtbackoeakepngaaZFnBoxesMx2
import Derived.Test.YtbackoeakepngaaZFnBoxesMx4
import Derived.Test.YtbackoeakepngaaZFnBoxesMx5
import Derived.Test.YtbackoeakepngaaZFnBoxesMx6
namespace Go.Proofs.Ytbackoeakepngaa.MFnBoxes
open Go.RowKit Go.Proofs.YtbackoeakepngaaW.PrintWords Go.Proofs.YtbackoeakepngaaW.PrintLast Go.Proofs.YtbackoeakepngaaW.PrintMore
attribute [local go_sem] max2_int min2_int max_two min_two max_three min_three max_four min_four   -- for this text's walks alone
set_option linter.unusedVariables false
set_option linter.unusedSimpArgs false
mutual
def laws_FnBoxes.l0 : Nat → List Int → List (S27) → Bool → Int → Int → Int → Int → Int → Option (Bool)
 | 0, _, _, _, _, _, _, _, _ => none
 | k + 1, x0, x3, x5, x6, x347000, x347001, x347002, x347003 => if x6 < (x3.length : Int) then (laws_FnBoxes.j1 k x0 x3 x5 x6 x5 x347000 x347001 x347002 x347003) else (laws_FnBoxes.j1 k x0 x3 x5 x6 false x347000 x347001 x347002 x347003)
def laws_FnBoxes.j1 : Nat → List Int → List (S27) → Bool → Int → Bool → Int → Int → Int → Int → Option (Bool)
 | 0, _, _, _, _, _, _, _, _, _ => none
 | k + 1, x0, x3, x5, x6, x30, x347000, x347001, x347002, x347003 => if x30 = true then (if 0 ≤ x6 then (if x6 < (x3.length : Int) then ((impl_InBox.f x347000 x347001 x347002 x347003 ((rd_T27 x3 x6).f0) ((rd_T27 x3 x6).f1)).bind fun t348 => (if t348 = true then (laws_FnBoxes.l0 k x0 x3 x5 (wrap64 (x6 + 1)) x347000 x347001 x347002 x347003) else (some false))) else (none)) else (none)) else ((spec_DrawBoxesMeet.f k x0).bind fun bt349 => ((impl_BoxesMeet.f bt349.1 bt349.2.1 bt349.2.2.1 bt349.2.2.2.1 bt349.2.2.2.2.1 bt349.2.2.2.2.2.1 bt349.2.2.2.2.2.2.1 bt349.2.2.2.2.2.2.2).bind fun t359 => ((spec_BoxesMeet.f bt349.1 bt349.2.1 bt349.2.2.1 bt349.2.2.2.1 bt349.2.2.2.2.1 bt349.2.2.2.2.2.1 bt349.2.2.2.2.2.2.1 bt349.2.2.2.2.2.2.2).bind fun t360 => (if (t359 != t360) = true then (some false) else ((impl_BoxesMeet.f bt349.1 bt349.2.1 bt349.2.2.1 bt349.2.2.2.1 bt349.2.2.2.2.1 bt349.2.2.2.2.2.1 bt349.2.2.2.2.2.2.1 bt349.2.2.2.2.2.2.2).bind fun t361 => ((impl_BoxesMeet.f bt349.2.2.2.2.1 bt349.2.2.2.2.2.1 bt349.2.2.2.2.2.2.1 bt349.2.2.2.2.2.2.2 bt349.1 bt349.2.1 bt349.2.2.1 bt349.2.2.2.1).bind fun t362 => (if (t361 != t362) = true then (laws_FnBoxes.j2 k x0 true bt349.1 bt349.2.1 bt349.2.2.1 bt349.2.2.2.1 bt349.2.2.2.2.1 bt349.2.2.2.2.2.1 bt349.2.2.2.2.2.2.1 bt349.2.2.2.2.2.2.2) else ((impl_BoxesOverlap.f bt349.1 bt349.2.1 bt349.2.2.1 bt349.2.2.2.1 bt349.2.2.2.2.1 bt349.2.2.2.2.2.1 bt349.2.2.2.2.2.2.1 bt349.2.2.2.2.2.2.2).bind fun t363 => ((impl_BoxesOverlap.f bt349.2.2.2.2.1 bt349.2.2.2.2.2.1 bt349.2.2.2.2.2.2.1 bt349.2.2.2.2.2.2.2 bt349.1 bt349.2.1 bt349.2.2.1 bt349.2.2.2.1).bind fun t364 => (if (t363 != t364) = true then (laws_FnBoxes.j2 k x0 true bt349.1 bt349.2.1 bt349.2.2.1 bt349.2.2.2.1 bt349.2.2.2.2.1 bt349.2.2.2.2.2.1 bt349.2.2.2.2.2.2.1 bt349.2.2.2.2.2.2.2) else ((impl_BoxesOverlap.f bt349.1 bt349.2.1 bt349.2.2.1 bt349.2.2.2.1 bt349.2.2.2.2.1 bt349.2.2.2.2.2.1 bt349.2.2.2.2.2.2.1 bt349.2.2.2.2.2.2.2).bind fun t365 => (if t365 = true then ((impl_BoxesMeet.f bt349.1 bt349.2.1 bt349.2.2.1 bt349.2.2.2.1 bt349.2.2.2.2.1 bt349.2.2.2.2.2.1 bt349.2.2.2.2.2.2.1 bt349.2.2.2.2.2.2.2).bind fun t366 => (laws_FnBoxes.j2 k x0 (!t366) bt349.1 bt349.2.1 bt349.2.2.1 bt349.2.2.2.1 bt349.2.2.2.2.1 bt349.2.2.2.2.2.1 bt349.2.2.2.2.2.2.1 bt349.2.2.2.2.2.2.2)) else (laws_FnBoxes.j2 k x0 false bt349.1 bt349.2.1 bt349.2.2.1 bt349.2.2.2.1 bt349.2.2.2.2.1 bt349.2.2.2.2.2.1 bt349.2.2.2.2.2.2.1 bt349.2.2.2.2.2.2.2)))))))))))))
def laws_FnBoxes.j2 : Nat → List Int → Bool → Int → Int → Int → Int → Int → Int → Int → Int → Option (Bool)
 | 0, _, _, _, _, _, _, _, _, _, _ => none
 | k + 1, x0, x78, x358000, x358001, x358002, x358003, x359000, x359001, x359002, x359003 => if x78 = true then (some false) else ((impl_JoinBoxes.f k x358000 x358001 x358002 x358003 x359000 x359001 x359002 x359003).bind fun bt367 => (if bt367.2.2.2.2 = true then ((impl_InBox.f bt367.1 bt367.2.1 bt367.2.2.1 bt367.2.2.2.1 x358000 x358001).bind fun t373 => (if t373 = true then ((impl_InBox.f bt367.1 bt367.2.1 bt367.2.2.1 bt367.2.2.2.1 x358002 x358003).bind fun t374 => (if t374 = true then ((impl_InBox.f bt367.1 bt367.2.1 bt367.2.2.1 bt367.2.2.2.1 x359000 x359001).bind fun t375 => (if t375 = true then ((impl_InBox.f bt367.1 bt367.2.1 bt367.2.2.1 bt367.2.2.2.1 x359002 x359003).bind fun t376 => (laws_FnBoxes.j3 k x0 (!t376))) else (laws_FnBoxes.j3 k x0 true))) else (laws_FnBoxes.j3 k x0 true))) else (laws_FnBoxes.j3 k x0 true))) else (laws_FnBoxes.j3 k x0 false)))
def laws_FnBoxes.j3 : Nat → List Int → Bool → Option (Bool)
 | 0, _, _ => none
 | k + 1, x0, x113 => if x113 = true then (some false) else ((spec_DrawGrowBox.f k x0).bind fun bt377 => ((impl_GrowBox.f bt377.1 bt377.2.1 bt377.2.2.1 bt377.2.2.2.1 bt377.2.2.2.2).bind fun bt383 => (if bt383.2.2.2.2 = true then ((impl_IsBox.f bt383.1 bt383.2.1 bt383.2.2.1 bt383.2.2.2.1).bind fun t389 => (if t389 = true then ((impl_InBox.f bt383.1 bt383.2.1 bt383.2.2.1 bt383.2.2.2.1 bt377.1 bt377.2.1).bind fun t390 => (if t390 = true then ((impl_InBox.f bt383.1 bt383.2.1 bt383.2.2.1 bt383.2.2.2.1 bt377.2.2.1 bt377.2.2.2.1).bind fun t391 => (some t391)) else (some false))) else (some false))) else (some true))))
end
def laws_FnBoxes.f (k : Nat) (l0 : List Int) : Option (Bool) := (laws_big.f l0).bind fun t337 => (if t337 = true then (some true) else ((spec_DrawBoxOf.f k l0).bind fun t338 => ((impl_BoxOf.f k t338).bind fun bt341 => (laws_FnBoxes.l0 k l0 t338 bt341.2.2.2.2 0 bt341.1 bt341.2.1 bt341.2.2.1 bt341.2.2.2.1))))
set_option maxHeartbeats 8000000 in
set_option maxRecDepth 100000 in
theorem laws_FnBoxes.calls (k : Nat) (A0 : Option Addr) (c0 : Nat) (l0 : List Int) (r : Bool) (w : World) (hr0 : Kd.C (Kd.int .u8) w A0 l0.length l0) (hc0 : l0.length ≤ c0) (h : laws_FnBoxes.f k l0 = some r) :
  Calls Try.prog 3 #[.slice A0 l0.length c0] w fun e w' => e = .returned (.bool r) ∧ Below w.heap.size w w' := by
 have hu29 := Try.underlying29
 have hu27 := Try.underlying27
 have HR0 := Aside0.mk hr0
 have HC0 := Aside0.mk hc0
 clear hr0 hc0
 have HB := Aside0.mk (Below.refl w.heap.size w)
 have H : ((laws_big.f l0).bind fun t337 => (if t337 = true then (some true) else ((spec_DrawBoxOf.f k l0).bind fun t338 => ((impl_BoxOf.f k t338).bind fun bt341 => (laws_FnBoxes.l0 k l0 t338 bt341.2.2.2.2 0 bt341.1 bt341.2.1 bt341.2.2.1 bt341.2.2.2.1))))) = some r := h
 clear h
 replace H := Option.bind_eq_some_iff.mp H
 obtain ⟨t337, A20, H⟩ := H
 replace H : (if t337 = true then (some true) else ((spec_DrawBoxOf.f k l0).bind fun t338 => ((impl_BoxOf.f k t338).bind fun bt341 => (laws_FnBoxes.l0 k l0 t338 bt341.2.2.2.2 0 bt341.1 bt341.2.1 bt341.2.2.1 bt341.2.2.2.1)))) = some r := H
 have A2 := Aside0.mk A20
 clear A20
 by_cases c3 : t337 = true
 ·
  subst c3
  have H1 : (some true) = some r := by rw [if_pos rfl] at H; exact H
  clear H
  have H := H1
  clear H1
  obtain rfl := Option.some.inj H
  go_enter Try.func3, Try.ntmps3
  go_wp2_with (first | ((with_reducible refine gate_callee (f := 10) rfl ?_); refine goesL_ (some 16) rfl rfl Try.func10 (by kernel_rfl) rfl #[.slice A0 l0.length c0] rfl Hd.m_ ?_; (with_reducible refine (laws_big.calls _ _ l0 true _ ?side1 ?side2 A2.out).mono ?_); (case side1 => repeat (first | exact HR0.out | (with_reducible refine Kd.C_alloc ?_ _) | (with_reducible refine Kd.C_drewN ?_ _) | (with_reducible refine Kd.C_drew ?_))); (case side2 => exact HC0.out); rintro e w' ⟨rfl, ⟨nd, rfl⟩⟩; refine ⟨_, rfl, ?_⟩))
  go_ret
  exact ⟨Hd.e_, Hd.b_⟩
 ·
  replace c3 := Bool.eq_false_iff.mpr c3
  subst c3
  have H1 : ((spec_DrawBoxOf.f k l0).bind fun t338 => ((impl_BoxOf.f k t338).bind fun bt341 => (laws_FnBoxes.l0 k l0 t338 bt341.2.2.2.2 0 bt341.1 bt341.2.1 bt341.2.2.1 bt341.2.2.2.1))) = some r := by rw [if_neg (show ¬ (false = true) by decide)] at H; exact H
  clear H
  have H := H1
  clear H1
  replace H := Option.bind_eq_some_iff.mp H
  obtain ⟨t338, A40, H⟩ := H
  replace H : ((impl_BoxOf.f k t338).bind fun bt341 => (laws_FnBoxes.l0 k l0 t338 bt341.2.2.2.2 0 bt341.1 bt341.2.1 bt341.2.2.1 bt341.2.2.2.1)) = some r := H
  have A4 := Aside0.mk A40
  clear A40
  replace H := Option.bind_eq_some_iff.mp H
  obtain ⟨⟨t341, t342, t343, t344, t345⟩, A50, H⟩ := H
  replace H : (laws_FnBoxes.l0 k l0 t338 t345 0 t341 t342 t343 t344) = some r := H
  have A5 := Aside0.mk A50
  clear A50
  have H' := Aside0.mk H
  clear H
  go_enter Try.func3, Try.ntmps3
  go_wp2_with (first | ((with_reducible refine gate_callee (f := 10) rfl ?_); refine goesL_ (some 16) rfl rfl Try.func10 (by kernel_rfl) rfl #[.slice A0 l0.length c0] rfl Hd.m_ ?_; (with_reducible refine (laws_big.calls _ _ l0 false _ ?side1 ?side2 A2.out).mono ?_); (case side1 => repeat (first | exact HR0.out | (with_reducible refine Kd.C_alloc ?_ _) | (with_reducible refine Kd.C_drewN ?_ _) | (with_reducible refine Kd.C_drew ?_))); (case side2 => exact HC0.out); rintro e w' ⟨rfl, ⟨nd, rfl⟩⟩; refine ⟨_, rfl, ?_⟩) | ((with_reducible refine gate_callee (f := 11) rfl ?_); refine goesL_ (some 18) rfl rfl Try.func11 (by kernel_rfl) rfl #[.slice A0 l0.length c0] rfl Hd.m_ ?_; (with_reducible refine (spec_DrawBoxOf.calls k _ _ l0 t338 _ ?side1 ?side2 A4.out).mono ?_); (case side1 => repeat (first | exact HR0.out | (with_reducible refine Kd.C_alloc ?_ _) | (with_reducible refine Kd.C_drewN ?_ _) | (with_reducible refine Kd.C_drew ?_))); (case side2 => exact HC0.out); rintro e w6 ⟨v339, rfl, ho0, hb⟩; refine ⟨_, rfl, ?_⟩; have HO340 := Aside0.mk (Kd.R_lower ho0 (below_size Hd.b_)); replace HB := Aside0.mk (below_step Hd.b_ hb); (try clear hb); (try clear hb2); (try clear hk); (try clear hi); (try clear ho0); obtain ⟨Ao7, co7, eo7⟩ := Kd.R_slice HO340.out; subst eo7) | ((with_reducible refine gate_callee (f := 12) rfl ?_); refine goesL_ (some 21) rfl rfl Try.func12 (by kernel_rfl) rfl #[.slice Ao7 t338.length co7] rfl Hd.m_ ?_; (with_reducible refine (impl_BoxOf.calls k _ _ t338 t341 t342 t343 t344 t345 _ ?side1 ?side2 A5.out).mono ?_); (case side1 => repeat (first | exact (Kd.R_reads' HO340.out).2.2 | (with_reducible refine Kd.C_alloc ?_ _) | (with_reducible refine Kd.C_drewN ?_ _) | (with_reducible refine Kd.C_drew ?_))); (case side2 => exact (Kd.R_reads' HO340.out).2.1); rintro e w8 ⟨rfl, hb⟩; refine ⟨_, rfl, ?_⟩; replace HO340 := Aside0.mk (Kd.R_below (Hd.r_ HO340) hb); replace HB := Aside0.mk (below_step Hd.b_ hb); (try clear hb); (try clear hb2); (try clear hk); (try clear hi)) | ((with_reducible refine gate_dst (N := 4) rfl ?_); refine Hd.box_ 4 (#[.int .i64 0, .int .i64 0, .int .i64 0, .int .i64 0]) 29 ?_; intro gb346 hg w9 hbox hb; replace HO340 := Aside0.mk (Kd.R_below (Hd.r_ HO340) hb); have BK346 := Aside0.mk (hbox); have GW346 := Aside0.mk ((Hd.g_ hg Hd.b_ : w.heap.size ≤ gb346)); have GE346 := Aside0.mk ((Hd.g_ hg Hd.b_ : w.heap.size ≤ gb346)); replace HB := Aside0.mk (below_step Hd.b_ hb); clear hb hbox hg; obtain ⟨hcz10_0, hcz10_1, hcz10_2, hcz10_3⟩ := Hd.c4_ BK346.out; obtain ⟨hfz10_0, hfz10_1, hfz10_2, hfz10_3⟩ := Hd.f4_ BK346.out))
  go_loopg [6] k (fun kq v6 w' => ∃ (x6_1 : Int), v6 = .int .i64 x6_1 ∧ Aside0 (laws_FnBoxes.l0 kq l0 t338 t345 x6_1 t341 t342 t343 t344 = some r) ∧ Aside0 (kq ≤ k) ∧ Aside0 (Kd.R k27 27 w' w.heap.size (fun _ => True) (.slice Ao7 t338.length co7) t338) ∧ Aside0 (w'.heap[gb346]? = some (.cells #[.int .i64 t341, .int .i64 t342, .int .i64 t343, .int .i64 t344] 29 (0, 0))) ∧ Aside0 (Below w.heap.size w w'))
  case atStart => exact ⟨(0), (by first | rfl | (simp; done) | (simp [*]; done)), H', ⟨Nat.le_refl _⟩, ⟨by (with_reducible repeat (first | apply Kd.R_alloc | apply Kd.R_drewN | apply Kd.R_drew)); exact Kd.R_mono (Kd.R_far (p := ⟨gb346, 3, none⟩) (Kd.R_far (p := ⟨gb346, 2, none⟩) (Kd.R_far (p := ⟨gb346, 1, none⟩) (Kd.R_far (p := ⟨gb346, 0, none⟩) (Kd.R_types HO340.out BK346.out (by decide)) (fun _ hk => hk.2) (.int .i64 t341)) (fun _ hk => hk.2) (.int .i64 t342)) (fun _ hk => hk.2) (.int .i64 t343)) (fun _ hk => hk.2) (.int .i64 t344)) (fun _ hk => trivial)⟩, ⟨by (with_reducible repeat (first | refine blk_drewN ?_ _ | refine blk_drew ?_ | refine blk_alloc ?_ _)); refine blk_put (cs := #[.int .i64 t341, .int .i64 t342, .int .i64 t343, .int .i64 0]) ?_ 3 _ rfl; (with_reducible repeat (first | refine blk_drewN ?_ _ | refine blk_drew ?_ | refine blk_alloc ?_ _)); refine blk_put (cs := #[.int .i64 t341, .int .i64 t342, .int .i64 0, .int .i64 0]) ?_ 2 _ rfl; (with_reducible repeat (first | refine blk_drewN ?_ _ | refine blk_drew ?_ | refine blk_alloc ?_ _)); refine blk_put (cs := #[.int .i64 t341, .int .i64 0, .int .i64 0, .int .i64 0]) ?_ 1 _ rfl; (with_reducible repeat (first | refine blk_drewN ?_ _ | refine blk_drew ?_ | refine blk_alloc ?_ _)); refine blk_put (cs := #[.int .i64 0, .int .i64 0, .int .i64 0, .int .i64 0]) ?_ 0 _ rfl; (with_reducible repeat (first | refine blk_drewN ?_ _ | refine blk_drew ?_ | refine blk_alloc ?_ _)); exact BK346.out⟩, ⟨Hd.b_⟩⟩
  case round =>
   clear H'
   try clear c1
   try clear p2
   try clear c3
   try clear c10
   try clear hcz10_0
   try clear hcz10_1
   try clear hcz10_2
   try clear hcz10_3
   try clear hfz10_0
   try clear hfz10_1
   try clear hfz10_2
   try clear hfz10_3
   obtain ⟨x6_1, rfl, HA, HK1, HO_3, BK346, HB⟩ := hrel
   cases gk with
   | zero => exact absurd HA.out (by simp [laws_FnBoxes.l0])
   | succ k1 =>
    have H := HA.out
    clear HA
    simp only [laws_FnBoxes.l0] at H
    have HC11 := Aside0.mk H
    clear H
    go_upto_region 6 with (fail)
    go_cut [30] (fun v30 wc => ∃ (kq : Nat) (x30_10 : Bool), v30 = .bool x30_10 ∧ Aside0 (laws_FnBoxes.j1 kq l0 t338 t345 x6_1 x30_10 t341 t342 t343 t344 = some r) ∧ Aside0 (kq ≤ k1) ∧ Aside0 (Kd.R k27 27 wc w.heap.size (fun _ => True) (.slice Ao7 t338.length co7) t338) ∧ Aside0 (wc.heap[gb346]? = some (.cells #[.int .i64 t341, .int .i64 t342, .int .i64 t343, .int .i64 t344] 29 (0, 0))) ∧ Aside0 (Below w.heap.size w wc))
    case first =>
     have H := HC11.out
     clear HC11
     by_cases c12 : x6_1 < (t338.length : Int)
     ·
      rw [if_pos c12] at H
      have c12b0 : decide (x6_1 < (t338.length : Int)) = true := decide_eq_true c12
      clear c12
      (first | rw [c12b0] | (simp only [i64_w, i32_w]; rw [c12b0]) | skip)
      have H' := Aside0.mk H
      clear H
      go_wp2
      go_meet
      case rel => exact ⟨_, (t345), (by first | rfl | (simp; done) | (simp [*]; done)), H', ⟨by have := HK1.out; first | omega | exact Nat.le_refl _⟩, ⟨by (with_reducible repeat (first | apply Kd.R_alloc | apply Kd.R_drewN | apply Kd.R_drew)); exact HO_3.out⟩, ⟨by (with_reducible repeat (first | refine blk_drewN ?_ _ | refine blk_drew ?_ | refine blk_alloc ?_ _)); exact BK346.out⟩, ⟨Hd.b_⟩⟩
     ·
      rw [if_neg c12] at H
      have c12b0 : decide (x6_1 < (t338.length : Int)) = false := decide_eq_false c12
      clear c12
      (first | rw [c12b0] | (simp only [i64_w, i32_w]; rw [c12b0]) | skip)
      have H' := Aside0.mk H
      clear H
      go_wp2
      go_meet
      case rel => exact ⟨_, (false), (by first | rfl | (simp; done) | (simp [*]; done)), H', ⟨by have := HK1.out; first | omega | exact Nat.le_refl _⟩, ⟨by (with_reducible repeat (first | apply Kd.R_alloc | apply Kd.R_drewN | apply Kd.R_drew)); exact HO_3.out⟩, ⟨by (with_reducible repeat (first | refine blk_drewN ?_ _ | refine blk_drew ?_ | refine blk_alloc ?_ _)); exact BK346.out⟩, ⟨Hd.b_⟩⟩
    case rest =>
     clear HC11
     try clear c1
     try clear p2
     try clear c3
     try clear c10
     try clear c11
     try clear c12
     try clear c12b0
     try clear hcz10_0
     try clear hcz10_1
     try clear hcz10_2
     try clear hcz10_3
     try clear hfz10_0
     try clear hfz10_1
     try clear hfz10_2
     try clear hfz10_3
     try clear p2
     obtain ⟨kq, x30_10, rfl, HA, HJ10, HO_3, BK346, HB⟩ := hcut
     cases kq with
     | zero => exact absurd HA.out (by simp [laws_FnBoxes.j1])
     | succ kj10 =>
      have H := HA.out
      clear HA
      simp only [laws_FnBoxes.j1] at H
      by_cases c13 : x30_10 = true
      ·
       subst c13
       have H1 : (if 0 ≤ x6_1 then (if x6_1 < (t338.length : Int) then ((impl_InBox.f t341 t342 t343 t344 ((rd_T27 t338 x6_1).f0) ((rd_T27 t338 x6_1).f1)).bind fun t348 => (if t348 = true then (laws_FnBoxes.l0 kj10 l0 t338 t345 (wrap64 (x6_1 + 1)) t341 t342 t343 t344) else (some false))) else (none)) else (none)) = some r := by rw [if_pos rfl] at H; exact H
       clear H
       have H := H1
       clear H1
       by_cases c14 : 0 ≤ x6_1
       ·
        rw [if_pos c14] at H
        have c14b0 : decide (0 ≤ x6_1) = true := decide_eq_true c14
        clear c14
        by_cases c15 : x6_1 < (t338.length : Int)
        ·
         rw [if_pos c15] at H
         have c15b0 : decide (x6_1 < (t338.length : Int)) = true := decide_eq_true c15
         clear c15
         replace H := Option.bind_eq_some_iff.mp H
         obtain ⟨t348, A160, H⟩ := H
         replace H : (if t348 = true then (laws_FnBoxes.l0 kj10 l0 t338 t345 (wrap64 (x6_1 + 1)) t341 t342 t343 t344) else (some false)) = some r := H
         have A16 := Aside0.mk A160
         clear A160
         by_cases c17 : t348 = true
         ·
          subst c17
          have H1 : (laws_FnBoxes.l0 kj10 l0 t338 t345 (wrap64 (x6_1 + 1)) t341 t342 t343 t344) = some r := by rw [if_pos rfl] at H; exact H
          clear H
          have H := H1
          clear H1
          have H' := Aside0.mk H
          clear H
          try go_wp2
          replace HO_3 := Aside0.mk (Kd.R_drew HO_3.out)
          replace BK346 := Aside0.mk (blk_drew BK346.out)
          replace HB := Aside0.mk (below_drew1 HB.out)
          have p347 : 0 ≤ (x6_1 : Int) := of_decide_eq_true Hd.a_
          have q347 : x6_1 < (t338.length : Int) := of_decide_eq_true Hd.a_
          obtain ⟨ad347, e347, hx347_0, hx347_1⟩ := at_T27 (Kd.R_reads' HO_3.out).2.2 x6_1 p347 q347
          cases e347
          replace p347 := eq_true p347
          replace q347 := eq_true q347
          obtain ⟨s0_, s1_, s2_, s3_⟩ := Hd.HW.k4 (W0 := wc.drew) BK346
          have s4_ := Hd.HW.x (W0 := wc.drew) hx347_0
          have s5_ := Hd.HW.x (W0 := wc.drew) hx347_1
          refine Hd.HW.region (by kernel_rfl) (by kernel_rfl) ?_
          repeat (go_big_quiet_step ((first | (go_at_call 13; with_reducible exact Hd.HW.c (impl_InBox.calls t341 t342 t343 t344 ((rd_T27 t338 x6_1).f0) ((rd_T27 t338 x6_1).f1) true _ A16.out)))))
          refine wpQuiet_nil ?_
          intro _ hq_
          obtain ⟨q_, rfl⟩ := hq_
          clear s0_ s1_ s2_ s3_ s4_ s5_
          replace HO_3 := Aside0.mk (Kd.R_below HO_3.out q_.b)
          replace BK346 := Aside0.mk (blk_below BK346.out q_.b)
          replace HB := Aside0.mk (below_step HB.out q_.b)
          replace hx347_0 := q_.cell hx347_0
          replace hx347_1 := q_.cell hx347_1
          generalize q_.W = w19 at HO_3 BK346 HB hx347_0 hx347_1 ⊢
          try simp only [i64_w, i32_w]
          try go_wp2
          go_roundg kj10
          case measure => have := HK1.out; have := HJ10.out; omega
          case rel => exact ⟨(wrap64 (x6_1 + 1)), (by first | rfl | (simp; done) | (simp [*]; done)), H', ⟨by have := HK1.out; have := HJ10.out; omega⟩, ⟨by (with_reducible repeat (first | apply Kd.R_alloc | apply Kd.R_drewN | apply Kd.R_drew)); exact HO_3.out⟩, ⟨by (with_reducible repeat (first | refine blk_drewN ?_ _ | refine blk_drew ?_ | refine blk_alloc ?_ _)); exact BK346.out⟩, ⟨Hd.b_⟩⟩
         ·
          replace c17 := Bool.eq_false_iff.mpr c17
          subst c17
          have H1 : (some false) = some r := by rw [if_neg (show ¬ (false = true) by decide)] at H; exact H
          clear H
          have H := H1
          clear H1
          obtain rfl := Option.some.inj H
          try go_wp2
          replace HO_3 := Aside0.mk (Kd.R_drew HO_3.out)
          replace BK346 := Aside0.mk (blk_drew BK346.out)
          replace HB := Aside0.mk (below_drew1 HB.out)
          have p347 : 0 ≤ (x6_1 : Int) := of_decide_eq_true Hd.a_
          have q347 : x6_1 < (t338.length : Int) := of_decide_eq_true Hd.a_
          obtain ⟨ad347, e347, hx347_0, hx347_1⟩ := at_T27 (Kd.R_reads' HO_3.out).2.2 x6_1 p347 q347
          cases e347
          replace p347 := eq_true p347
          replace q347 := eq_true q347
          obtain ⟨s0_, s1_, s2_, s3_⟩ := Hd.HW.k4 (W0 := wc.drew) BK346
          have s4_ := Hd.HW.x (W0 := wc.drew) hx347_0
          have s5_ := Hd.HW.x (W0 := wc.drew) hx347_1
          refine Hd.HW.region (by kernel_rfl) (by kernel_rfl) ?_
          repeat (go_big_quiet_step ((first | (go_at_call 13; with_reducible exact Hd.HW.c (impl_InBox.calls t341 t342 t343 t344 ((rd_T27 t338 x6_1).f0) ((rd_T27 t338 x6_1).f1) false _ A16.out)))))
          refine wpQuiet_nil ?_
          intro _ hq_
          obtain ⟨q_, rfl⟩ := hq_
          clear s0_ s1_ s2_ s3_ s4_ s5_
          replace HO_3 := Aside0.mk (Kd.R_below HO_3.out q_.b)
          replace BK346 := Aside0.mk (blk_below BK346.out q_.b)
          replace HB := Aside0.mk (below_step HB.out q_.b)
          replace hx347_0 := q_.cell hx347_0
          replace hx347_1 := q_.cell hx347_1
          generalize q_.W = w21 at HO_3 BK346 HB hx347_0 hx347_1 ⊢
          try simp only [i64_w, i32_w]
          try go_wp2
          go_ret
          exact ⟨Hd.e_, Hd.b_⟩
        ·
         rw [if_neg c15] at H
         exact absurd H (by simp)
       ·
        rw [if_neg c14] at H
        exact absurd H (by simp)
      ·
       replace c13 := Bool.eq_false_iff.mpr c13
       subst c13
       have H1 : ((spec_DrawBoxesMeet.f kj10 l0).bind fun bt349 => ((impl_BoxesMeet.f bt349.1 bt349.2.1 bt349.2.2.1 bt349.2.2.2.1 bt349.2.2.2.2.1 bt349.2.2.2.2.2.1 bt349.2.2.2.2.2.2.1 bt349.2.2.2.2.2.2.2).bind fun t359 => ((spec_BoxesMeet.f bt349.1 bt349.2.1 bt349.2.2.1 bt349.2.2.2.1 bt349.2.2.2.2.1 bt349.2.2.2.2.2.1 bt349.2.2.2.2.2.2.1 bt349.2.2.2.2.2.2.2).bind fun t360 => (if (t359 != t360) = true then (some false) else ((impl_BoxesMeet.f bt349.1 bt349.2.1 bt349.2.2.1 bt349.2.2.2.1 bt349.2.2.2.2.1 bt349.2.2.2.2.2.1 bt349.2.2.2.2.2.2.1 bt349.2.2.2.2.2.2.2).bind fun t361 => ((impl_BoxesMeet.f bt349.2.2.2.2.1 bt349.2.2.2.2.2.1 bt349.2.2.2.2.2.2.1 bt349.2.2.2.2.2.2.2 bt349.1 bt349.2.1 bt349.2.2.1 bt349.2.2.2.1).bind fun t362 => (if (t361 != t362) = true then (laws_FnBoxes.j2 kj10 l0 true bt349.1 bt349.2.1 bt349.2.2.1 bt349.2.2.2.1 bt349.2.2.2.2.1 bt349.2.2.2.2.2.1 bt349.2.2.2.2.2.2.1 bt349.2.2.2.2.2.2.2) else ((impl_BoxesOverlap.f bt349.1 bt349.2.1 bt349.2.2.1 bt349.2.2.2.1 bt349.2.2.2.2.1 bt349.2.2.2.2.2.1 bt349.2.2.2.2.2.2.1 bt349.2.2.2.2.2.2.2).bind fun t363 => ((impl_BoxesOverlap.f bt349.2.2.2.2.1 bt349.2.2.2.2.2.1 bt349.2.2.2.2.2.2.1 bt349.2.2.2.2.2.2.2 bt349.1 bt349.2.1 bt349.2.2.1 bt349.2.2.2.1).bind fun t364 => (if (t363 != t364) = true then (laws_FnBoxes.j2 kj10 l0 true bt349.1 bt349.2.1 bt349.2.2.1 bt349.2.2.2.1 bt349.2.2.2.2.1 bt349.2.2.2.2.2.1 bt349.2.2.2.2.2.2.1 bt349.2.2.2.2.2.2.2) else ((impl_BoxesOverlap.f bt349.1 bt349.2.1 bt349.2.2.1 bt349.2.2.2.1 bt349.2.2.2.2.1 bt349.2.2.2.2.2.1 bt349.2.2.2.2.2.2.1 bt349.2.2.2.2.2.2.2).bind fun t365 => (if t365 = true then ((impl_BoxesMeet.f bt349.1 bt349.2.1 bt349.2.2.1 bt349.2.2.2.1 bt349.2.2.2.2.1 bt349.2.2.2.2.2.1 bt349.2.2.2.2.2.2.1 bt349.2.2.2.2.2.2.2).bind fun t366 => (laws_FnBoxes.j2 kj10 l0 (!t366) bt349.1 bt349.2.1 bt349.2.2.1 bt349.2.2.2.1 bt349.2.2.2.2.1 bt349.2.2.2.2.2.1 bt349.2.2.2.2.2.2.1 bt349.2.2.2.2.2.2.2)) else (laws_FnBoxes.j2 kj10 l0 false bt349.1 bt349.2.1 bt349.2.2.1 bt349.2.2.2.1 bt349.2.2.2.2.1 bt349.2.2.2.2.2.1 bt349.2.2.2.2.2.2.1 bt349.2.2.2.2.2.2.2))))))))))))) = some r := by rw [if_neg (show ¬ (false = true) by decide)] at H; exact H
       clear H
       have H := H1
       clear H1
       replace H := Option.bind_eq_some_iff.mp H
       obtain ⟨⟨t349, t350, t351, t352, t353, t354, t355, t356⟩, A220, H⟩ := H
       replace H : ((impl_BoxesMeet.f t349 t350 t351 t352 t353 t354 t355 t356).bind fun t359 => ((spec_BoxesMeet.f t349 t350 t351 t352 t353 t354 t355 t356).bind fun t360 => (if (t359 != t360) = true then (some false) else ((impl_BoxesMeet.f t349 t350 t351 t352 t353 t354 t355 t356).bind fun t361 => ((impl_BoxesMeet.f t353 t354 t355 t356 t349 t350 t351 t352).bind fun t362 => (if (t361 != t362) = true then (laws_FnBoxes.j2 kj10 l0 true t349 t350 t351 t352 t353 t354 t355 t356) else ((impl_BoxesOverlap.f t349 t350 t351 t352 t353 t354 t355 t356).bind fun t363 => ((impl_BoxesOverlap.f t353 t354 t355 t356 t349 t350 t351 t352).bind fun t364 => (if (t363 != t364) = true then (laws_FnBoxes.j2 kj10 l0 true t349 t350 t351 t352 t353 t354 t355 t356) else ((impl_BoxesOverlap.f t349 t350 t351 t352 t353 t354 t355 t356).bind fun t365 => (if t365 = true then ((impl_BoxesMeet.f t349 t350 t351 t352 t353 t354 t355 t356).bind fun t366 => (laws_FnBoxes.j2 kj10 l0 (!t366) t349 t350 t351 t352 t353 t354 t355 t356)) else (laws_FnBoxes.j2 kj10 l0 false t349 t350 t351 t352 t353 t354 t355 t356)))))))))))) = some r := H
       have A22 := Aside0.mk A220
       clear A220
       replace H := Option.bind_eq_some_iff.mp H
       obtain ⟨t359, A230, H⟩ := H
       replace H : ((spec_BoxesMeet.f t349 t350 t351 t352 t353 t354 t355 t356).bind fun t360 => (if (t359 != t360) = true then (some false) else ((impl_BoxesMeet.f t349 t350 t351 t352 t353 t354 t355 t356).bind fun t361 => ((impl_BoxesMeet.f t353 t354 t355 t356 t349 t350 t351 t352).bind fun t362 => (if (t361 != t362) = true then (laws_FnBoxes.j2 kj10 l0 true t349 t350 t351 t352 t353 t354 t355 t356) else ((impl_BoxesOverlap.f t349 t350 t351 t352 t353 t354 t355 t356).bind fun t363 => ((impl_BoxesOverlap.f t353 t354 t355 t356 t349 t350 t351 t352).bind fun t364 => (if (t363 != t364) = true then (laws_FnBoxes.j2 kj10 l0 true t349 t350 t351 t352 t353 t354 t355 t356) else ((impl_BoxesOverlap.f t349 t350 t351 t352 t353 t354 t355 t356).bind fun t365 => (if t365 = true then ((impl_BoxesMeet.f t349 t350 t351 t352 t353 t354 t355 t356).bind fun t366 => (laws_FnBoxes.j2 kj10 l0 (!t366) t349 t350 t351 t352 t353 t354 t355 t356)) else (laws_FnBoxes.j2 kj10 l0 false t349 t350 t351 t352 t353 t354 t355 t356))))))))))) = some r := H
       have A23 := Aside0.mk A230
       clear A230
       replace H := Option.bind_eq_some_iff.mp H
       obtain ⟨t360, A240, H⟩ := H
       replace H : (if (t359 != t360) = true then (some false) else ((impl_BoxesMeet.f t349 t350 t351 t352 t353 t354 t355 t356).bind fun t361 => ((impl_BoxesMeet.f t353 t354 t355 t356 t349 t350 t351 t352).bind fun t362 => (if (t361 != t362) = true then (laws_FnBoxes.j2 kj10 l0 true t349 t350 t351 t352 t353 t354 t355 t356) else ((impl_BoxesOverlap.f t349 t350 t351 t352 t353 t354 t355 t356).bind fun t363 => ((impl_BoxesOverlap.f t353 t354 t355 t356 t349 t350 t351 t352).bind fun t364 => (if (t363 != t364) = true then (laws_FnBoxes.j2 kj10 l0 true t349 t350 t351 t352 t353 t354 t355 t356) else ((impl_BoxesOverlap.f t349 t350 t351 t352 t353 t354 t355 t356).bind fun t365 => (if t365 = true then ((impl_BoxesMeet.f t349 t350 t351 t352 t353 t354 t355 t356).bind fun t366 => (laws_FnBoxes.j2 kj10 l0 (!t366) t349 t350 t351 t352 t353 t354 t355 t356)) else (laws_FnBoxes.j2 kj10 l0 false t349 t350 t351 t352 t353 t354 t355 t356)))))))))) = some r := H
       have A24 := Aside0.mk A240
       clear A240
       by_cases c25 : (t359 != t360) = true
       ·
        rw [if_pos c25] at H
        have c25b0 : (t359 != t360) = true := c25
        (try (have c25b1 : decide (t359 = t360) = false := by simpa using c25))
        (try (have c25b2 : (t359 == t360) = false := by simpa using c25))
        (try (have c25b3 : ¬ (t359 = t360) := by simpa using c25))
        clear c25
        obtain rfl := Option.some.inj H
        try go_wp2_with (first | ((with_reducible refine gate_callee (f := 14) rfl ?_); refine goesL_ (some 42) rfl rfl Try.func14 (by kernel_rfl) rfl #[.slice A0 l0.length c0] rfl Hd.m_ ?_; (with_reducible refine (spec_DrawBoxesMeet.calls kj10 _ _ l0 t349 t350 t351 t352 t353 t354 t355 t356 _ ?side1 ?side2 A22.out).mono ?_); (case side1 => repeat (first | exact (Kd.C_below HR0.out HB.out) | (with_reducible refine Kd.C_alloc ?_ _) | (with_reducible refine Kd.C_drewN ?_ _) | (with_reducible refine Kd.C_drew ?_))); (case side2 => exact HC0.out); rintro e w26 ⟨rfl, hb⟩; refine ⟨_, rfl, ?_⟩; replace HO_3 := Aside0.mk (Kd.R_below (Hd.r_ HO_3) hb); replace BK346 := Aside0.mk (Hd.kb_ BK346 hb); replace HB := Aside0.mk (below_step Hd.b_ hb); (try clear hb); (try clear hb2); (try clear hk); (try clear hi)) | ((with_reducible refine gate_dst (N := 7) rfl ?_); refine Hd.box_ 7 (#[.int .i64 0, .int .i64 0, .int .i64 0, .int .i64 0]) 29 ?_; intro gb357 hg w27 hbox hb; replace HO_3 := Aside0.mk (Kd.R_below (Hd.r_ HO_3) hb); have BK357 := Aside0.mk (hbox); have GW357 := Aside0.mk ((Hd.g_ hg Hd.b_ : w.heap.size ≤ gb357)); have GE357 := Aside0.mk ((Hd.g_ hg Hd.b_ : w.heap.size ≤ gb357)); replace HB := Aside0.mk (below_step Hd.b_ hb); have NB346_357 := Aside0.mk ((Hd.lt_ BK346 hg)); have NB357_346 := Aside0.mk ((Hd.gt_ BK346 hg)); replace BK346 := Aside0.mk (Hd.kb_ BK346 hb); clear hb hbox hg) | ((with_reducible refine gate_dst (N := 8) rfl ?_); refine Hd.box_ 8 (#[.int .i64 0, .int .i64 0, .int .i64 0, .int .i64 0]) 29 ?_; intro gb358 hg w28 hbox hb; replace HO_3 := Aside0.mk (Kd.R_below (Hd.r_ HO_3) hb); have BK358 := Aside0.mk (hbox); have GW358 := Aside0.mk ((Hd.g_ hg Hd.b_ : w.heap.size ≤ gb358)); have GE358 := Aside0.mk ((Hd.g_ hg Hd.b_ : w.heap.size ≤ gb358)); replace HB := Aside0.mk (below_step Hd.b_ hb); have NB346_358 := Aside0.mk ((Hd.lt_ BK346 hg)); have NB358_346 := Aside0.mk ((Hd.gt_ BK346 hg)); replace BK346 := Aside0.mk (Hd.kb_ BK346 hb); have NB357_358 := Aside0.mk ((Hd.lt_ BK357 hg)); have NB358_357 := Aside0.mk ((Hd.gt_ BK357 hg)); replace BK357 := Aside0.mk (Hd.kb_ BK357 hb); clear hb hbox hg; have hnb29 := NB357_346.out; have hnc29 := NB346_357.out; have hnb30 := NB357_358.out; have hnc30 := NB358_357.out; obtain ⟨hcz31_0, hcz31_1, hcz31_2, hcz31_3⟩ := Hd.c4_ BK357.out; obtain ⟨hfz31_0, hfz31_1, hfz31_2, hfz31_3⟩ := Hd.f4_ BK357.out; have hnb32 := NB358_346.out; have hnc32 := NB346_358.out; obtain ⟨hcz33_0, hcz33_1, hcz33_2, hcz33_3⟩ := Hd.c4_ BK358.out; obtain ⟨hfz33_0, hfz33_1, hfz33_2, hfz33_3⟩ := Hd.f4_ BK358.out))
        have n0_ : Aside0 (Kd.R k27 27 ((((((((w28.setCell ⟨gb357, 0, none⟩ (.int .i64 t349)).setCell ⟨gb357, 1, none⟩ (.int .i64 t350)).setCell ⟨gb357, 2, none⟩ (.int .i64 t351)).setCell ⟨gb357, 3, none⟩ (.int .i64 t352)).setCell ⟨gb358, 0, none⟩ (.int .i64 t353)).setCell ⟨gb358, 1, none⟩ (.int .i64 t354)).setCell ⟨gb358, 2, none⟩ (.int .i64 t355)).setCell ⟨gb358, 3, none⟩ (.int .i64 t356)) w.heap.size (fun _ => True) (.slice Ao7 t338.length co7) t338) := ⟨by (with_reducible repeat (first | apply Kd.R_alloc | apply Kd.R_drewN | apply Kd.R_drew)); exact Kd.R_mono (Kd.R_far (p := ⟨gb358, 3, none⟩) (Kd.R_far (p := ⟨gb358, 2, none⟩) (Kd.R_far (p := ⟨gb358, 1, none⟩) (Kd.R_far (p := ⟨gb358, 0, none⟩) (Kd.R_far (p := ⟨gb357, 3, none⟩) (Kd.R_far (p := ⟨gb357, 2, none⟩) (Kd.R_far (p := ⟨gb357, 1, none⟩) (Kd.R_far (p := ⟨gb357, 0, none⟩) (Kd.R_types (Kd.R_types HO_3.out BK357.out (by decide)) BK358.out (by decide)) (fun _ hk => hk.1.2) (.int .i64 t349)) (fun _ hk => hk.1.2) (.int .i64 t350)) (fun _ hk => hk.1.2) (.int .i64 t351)) (fun _ hk => hk.1.2) (.int .i64 t352)) (fun _ hk => hk.2) (.int .i64 t353)) (fun _ hk => hk.2) (.int .i64 t354)) (fun _ hk => hk.2) (.int .i64 t355)) (fun _ hk => hk.2) (.int .i64 t356)) (fun _ hk => trivial)⟩
        have n1_ : Aside0 (((((((((w28.setCell ⟨gb357, 0, none⟩ (.int .i64 t349)).setCell ⟨gb357, 1, none⟩ (.int .i64 t350)).setCell ⟨gb357, 2, none⟩ (.int .i64 t351)).setCell ⟨gb357, 3, none⟩ (.int .i64 t352)).setCell ⟨gb358, 0, none⟩ (.int .i64 t353)).setCell ⟨gb358, 1, none⟩ (.int .i64 t354)).setCell ⟨gb358, 2, none⟩ (.int .i64 t355)).setCell ⟨gb358, 3, none⟩ (.int .i64 t356)).heap[gb346]? = some (.cells #[.int .i64 t341, .int .i64 t342, .int .i64 t343, .int .i64 t344] 29 (0, 0))) := ⟨by (with_reducible repeat (first | refine blk_drewN ?_ _ | refine blk_drew ?_ | refine blk_alloc ?_ _)); refine blk_far ?_ NB346_358.out _; (with_reducible repeat (first | refine blk_drewN ?_ _ | refine blk_drew ?_ | refine blk_alloc ?_ _)); refine blk_far ?_ NB346_358.out _; (with_reducible repeat (first | refine blk_drewN ?_ _ | refine blk_drew ?_ | refine blk_alloc ?_ _)); refine blk_far ?_ NB346_358.out _; (with_reducible repeat (first | refine blk_drewN ?_ _ | refine blk_drew ?_ | refine blk_alloc ?_ _)); refine blk_far ?_ NB346_358.out _; (with_reducible repeat (first | refine blk_drewN ?_ _ | refine blk_drew ?_ | refine blk_alloc ?_ _)); refine blk_far ?_ NB346_357.out _; (with_reducible repeat (first | refine blk_drewN ?_ _ | refine blk_drew ?_ | refine blk_alloc ?_ _)); refine blk_far ?_ NB346_357.out _; (with_reducible repeat (first | refine blk_drewN ?_ _ | refine blk_drew ?_ | refine blk_alloc ?_ _)); refine blk_far ?_ NB346_357.out _; (with_reducible repeat (first | refine blk_drewN ?_ _ | refine blk_drew ?_ | refine blk_alloc ?_ _)); refine blk_far ?_ NB346_357.out _; (with_reducible repeat (first | refine blk_drewN ?_ _ | refine blk_drew ?_ | refine blk_alloc ?_ _)); exact BK346.out⟩
        have n2_ : Aside0 (((((((((w28.setCell ⟨gb357, 0, none⟩ (.int .i64 t349)).setCell ⟨gb357, 1, none⟩ (.int .i64 t350)).setCell ⟨gb357, 2, none⟩ (.int .i64 t351)).setCell ⟨gb357, 3, none⟩ (.int .i64 t352)).setCell ⟨gb358, 0, none⟩ (.int .i64 t353)).setCell ⟨gb358, 1, none⟩ (.int .i64 t354)).setCell ⟨gb358, 2, none⟩ (.int .i64 t355)).setCell ⟨gb358, 3, none⟩ (.int .i64 t356)).heap[gb357]? = some (.cells #[.int .i64 t349, .int .i64 t350, .int .i64 t351, .int .i64 t352] 29 (0, 0))) := ⟨by (with_reducible repeat (first | refine blk_drewN ?_ _ | refine blk_drew ?_ | refine blk_alloc ?_ _)); refine blk_far ?_ NB357_358.out _; (with_reducible repeat (first | refine blk_drewN ?_ _ | refine blk_drew ?_ | refine blk_alloc ?_ _)); refine blk_far ?_ NB357_358.out _; (with_reducible repeat (first | refine blk_drewN ?_ _ | refine blk_drew ?_ | refine blk_alloc ?_ _)); refine blk_far ?_ NB357_358.out _; (with_reducible repeat (first | refine blk_drewN ?_ _ | refine blk_drew ?_ | refine blk_alloc ?_ _)); refine blk_far ?_ NB357_358.out _; (with_reducible repeat (first | refine blk_drewN ?_ _ | refine blk_drew ?_ | refine blk_alloc ?_ _)); refine blk_put (cs := #[.int .i64 t349, .int .i64 t350, .int .i64 t351, .int .i64 0]) ?_ 3 _ rfl; (with_reducible repeat (first | refine blk_drewN ?_ _ | refine blk_drew ?_ | refine blk_alloc ?_ _)); refine blk_put (cs := #[.int .i64 t349, .int .i64 t350, .int .i64 0, .int .i64 0]) ?_ 2 _ rfl; (with_reducible repeat (first | refine blk_drewN ?_ _ | refine blk_drew ?_ | refine blk_alloc ?_ _)); refine blk_put (cs := #[.int .i64 t349, .int .i64 0, .int .i64 0, .int .i64 0]) ?_ 1 _ rfl; (with_reducible repeat (first | refine blk_drewN ?_ _ | refine blk_drew ?_ | refine blk_alloc ?_ _)); refine blk_put (cs := #[.int .i64 0, .int .i64 0, .int .i64 0, .int .i64 0]) ?_ 0 _ rfl; (with_reducible repeat (first | refine blk_drewN ?_ _ | refine blk_drew ?_ | refine blk_alloc ?_ _)); exact BK357.out⟩
        have n3_ : Aside0 (((((((((w28.setCell ⟨gb357, 0, none⟩ (.int .i64 t349)).setCell ⟨gb357, 1, none⟩ (.int .i64 t350)).setCell ⟨gb357, 2, none⟩ (.int .i64 t351)).setCell ⟨gb357, 3, none⟩ (.int .i64 t352)).setCell ⟨gb358, 0, none⟩ (.int .i64 t353)).setCell ⟨gb358, 1, none⟩ (.int .i64 t354)).setCell ⟨gb358, 2, none⟩ (.int .i64 t355)).setCell ⟨gb358, 3, none⟩ (.int .i64 t356)).heap[gb358]? = some (.cells #[.int .i64 t353, .int .i64 t354, .int .i64 t355, .int .i64 t356] 29 (0, 0))) := ⟨by (with_reducible repeat (first | refine blk_drewN ?_ _ | refine blk_drew ?_ | refine blk_alloc ?_ _)); refine blk_put (cs := #[.int .i64 t353, .int .i64 t354, .int .i64 t355, .int .i64 0]) ?_ 3 _ rfl; (with_reducible repeat (first | refine blk_drewN ?_ _ | refine blk_drew ?_ | refine blk_alloc ?_ _)); refine blk_put (cs := #[.int .i64 t353, .int .i64 t354, .int .i64 0, .int .i64 0]) ?_ 2 _ rfl; (with_reducible repeat (first | refine blk_drewN ?_ _ | refine blk_drew ?_ | refine blk_alloc ?_ _)); refine blk_put (cs := #[.int .i64 t353, .int .i64 0, .int .i64 0, .int .i64 0]) ?_ 1 _ rfl; (with_reducible repeat (first | refine blk_drewN ?_ _ | refine blk_drew ?_ | refine blk_alloc ?_ _)); refine blk_put (cs := #[.int .i64 0, .int .i64 0, .int .i64 0, .int .i64 0]) ?_ 0 _ rfl; (with_reducible repeat (first | refine blk_drewN ?_ _ | refine blk_drew ?_ | refine blk_alloc ?_ _)); refine blk_far ?_ NB358_357.out _; (with_reducible repeat (first | refine blk_drewN ?_ _ | refine blk_drew ?_ | refine blk_alloc ?_ _)); refine blk_far ?_ NB358_357.out _; (with_reducible repeat (first | refine blk_drewN ?_ _ | refine blk_drew ?_ | refine blk_alloc ?_ _)); refine blk_far ?_ NB358_357.out _; (with_reducible repeat (first | refine blk_drewN ?_ _ | refine blk_drew ?_ | refine blk_alloc ?_ _)); refine blk_far ?_ NB358_357.out _; (with_reducible repeat (first | refine blk_drewN ?_ _ | refine blk_drew ?_ | refine blk_alloc ?_ _)); exact BK358.out⟩
        have n4_ : Aside0 (Below w.heap.size w ((((((((w28.setCell ⟨gb357, 0, none⟩ (.int .i64 t349)).setCell ⟨gb357, 1, none⟩ (.int .i64 t350)).setCell ⟨gb357, 2, none⟩ (.int .i64 t351)).setCell ⟨gb357, 3, none⟩ (.int .i64 t352)).setCell ⟨gb358, 0, none⟩ (.int .i64 t353)).setCell ⟨gb358, 1, none⟩ (.int .i64 t354)).setCell ⟨gb358, 2, none⟩ (.int .i64 t355)).setCell ⟨gb358, 3, none⟩ (.int .i64 t356))) := ⟨Hd.b_⟩
        (try clear HO_3)
        (try clear BK346)
        (try clear BK357)
        (try clear BK358)
        (try clear HB)
        generalize ((((((((w28.setCell ⟨gb357, 0, none⟩ (.int .i64 t349)).setCell ⟨gb357, 1, none⟩ (.int .i64 t350)).setCell ⟨gb357, 2, none⟩ (.int .i64 t351)).setCell ⟨gb357, 3, none⟩ (.int .i64 t352)).setCell ⟨gb358, 0, none⟩ (.int .i64 t353)).setCell ⟨gb358, 1, none⟩ (.int .i64 t354)).setCell ⟨gb358, 2, none⟩ (.int .i64 t355)).setCell ⟨gb358, 3, none⟩ (.int .i64 t356)) = w34 at n0_ n1_ n2_ n3_ n4_ ⊢
        have HO_3 := n0_
        have BK346 := n1_
        have BK357 := n2_
        have BK358 := n3_
        have HB := n4_
        clear n0_ n1_ n2_ n3_ n4_
        replace HO_3 := Aside0.mk (Kd.R_drew HO_3.out)
        replace BK346 := Aside0.mk (blk_drew BK346.out)
        replace BK357 := Aside0.mk (blk_drew BK357.out)
        replace BK358 := Aside0.mk (blk_drew BK358.out)
        replace HB := Aside0.mk (below_drew1 HB.out)
        obtain ⟨s0_, s1_, s2_, s3_⟩ := Hd.HW.k4 (W0 := w34.drew) BK357
        obtain ⟨s4_, s5_, s6_, s7_⟩ := Hd.HW.k4 (W0 := w34.drew) BK358
        refine Hd.HW.region (by kernel_rfl) (by kernel_rfl) ?_
        repeat (go_big_quiet_step ((first | (go_at_call 15; with_reducible exact Hd.HW.c (impl_BoxesMeet.calls t349 t350 t351 t352 t353 t354 t355 t356 t359 _ A23.out)) | (go_at_call 16; with_reducible exact Hd.HW.c (spec_BoxesMeet.calls t349 t350 t351 t352 t353 t354 t355 t356 t360 _ A24.out)))))
        refine wpQuiet_nil ?_
        intro _ hq_
        obtain ⟨q_, rfl⟩ := hq_
        clear s0_ s1_ s2_ s3_ s4_ s5_ s6_ s7_
        replace HO_3 := Aside0.mk (Kd.R_below HO_3.out q_.b)
        replace BK346 := Aside0.mk (blk_below BK346.out q_.b)
        replace BK357 := Aside0.mk (blk_below BK357.out q_.b)
        replace BK358 := Aside0.mk (blk_below BK358.out q_.b)
        replace HB := Aside0.mk (below_step HB.out q_.b)
        generalize q_.W = w37 at HO_3 BK346 BK357 BK358 HB ⊢
        try simp only [i64_w, i32_w]
        try go_wp2
        go_ret
        exact ⟨Hd.e_, Hd.b_⟩
       ·
        rw [if_neg c25] at H
        have c25b0 : (t359 != t360) = false := by simpa using c25
        (try (have c25b1 : decide (t359 = t360) = true := by simpa using c25))
        (try (have c25b2 : (t359 == t360) = true := by simpa using c25))
        clear c25
        have HC38 := Aside0.mk H
        clear H
        try go_wp2_with (first | ((with_reducible refine gate_callee (f := 14) rfl ?_); refine goesL_ (some 42) rfl rfl Try.func14 (by kernel_rfl) rfl #[.slice A0 l0.length c0] rfl Hd.m_ ?_; (with_reducible refine (spec_DrawBoxesMeet.calls kj10 _ _ l0 t349 t350 t351 t352 t353 t354 t355 t356 _ ?side1 ?side2 A22.out).mono ?_); (case side1 => repeat (first | exact (Kd.C_below HR0.out HB.out) | (with_reducible refine Kd.C_alloc ?_ _) | (with_reducible refine Kd.C_drewN ?_ _) | (with_reducible refine Kd.C_drew ?_))); (case side2 => exact HC0.out); rintro e w39 ⟨rfl, hb⟩; refine ⟨_, rfl, ?_⟩; replace HO_3 := Aside0.mk (Kd.R_below (Hd.r_ HO_3) hb); replace BK346 := Aside0.mk (Hd.kb_ BK346 hb); replace HB := Aside0.mk (below_step Hd.b_ hb); (try clear hb); (try clear hb2); (try clear hk); (try clear hi)) | ((with_reducible refine gate_dst (N := 7) rfl ?_); refine Hd.box_ 7 (#[.int .i64 0, .int .i64 0, .int .i64 0, .int .i64 0]) 29 ?_; intro gb357 hg w40 hbox hb; replace HO_3 := Aside0.mk (Kd.R_below (Hd.r_ HO_3) hb); have BK357 := Aside0.mk (hbox); have GW357 := Aside0.mk ((Hd.g_ hg Hd.b_ : w.heap.size ≤ gb357)); have GE357 := Aside0.mk ((Hd.g_ hg Hd.b_ : w.heap.size ≤ gb357)); replace HB := Aside0.mk (below_step Hd.b_ hb); have NB346_357 := Aside0.mk ((Hd.lt_ BK346 hg)); have NB357_346 := Aside0.mk ((Hd.gt_ BK346 hg)); replace BK346 := Aside0.mk (Hd.kb_ BK346 hb); clear hb hbox hg) | ((with_reducible refine gate_dst (N := 8) rfl ?_); refine Hd.box_ 8 (#[.int .i64 0, .int .i64 0, .int .i64 0, .int .i64 0]) 29 ?_; intro gb358 hg w41 hbox hb; replace HO_3 := Aside0.mk (Kd.R_below (Hd.r_ HO_3) hb); have BK358 := Aside0.mk (hbox); have GW358 := Aside0.mk ((Hd.g_ hg Hd.b_ : w.heap.size ≤ gb358)); have GE358 := Aside0.mk ((Hd.g_ hg Hd.b_ : w.heap.size ≤ gb358)); replace HB := Aside0.mk (below_step Hd.b_ hb); have NB346_358 := Aside0.mk ((Hd.lt_ BK346 hg)); have NB358_346 := Aside0.mk ((Hd.gt_ BK346 hg)); replace BK346 := Aside0.mk (Hd.kb_ BK346 hb); have NB357_358 := Aside0.mk ((Hd.lt_ BK357 hg)); have NB358_357 := Aside0.mk ((Hd.gt_ BK357 hg)); replace BK357 := Aside0.mk (Hd.kb_ BK357 hb); clear hb hbox hg; have hnb42 := NB357_346.out; have hnc42 := NB346_357.out; have hnb43 := NB357_358.out; have hnc43 := NB358_357.out; obtain ⟨hcz44_0, hcz44_1, hcz44_2, hcz44_3⟩ := Hd.c4_ BK357.out; obtain ⟨hfz44_0, hfz44_1, hfz44_2, hfz44_3⟩ := Hd.f4_ BK357.out; have hnb45 := NB358_346.out; have hnc45 := NB346_358.out; obtain ⟨hcz46_0, hcz46_1, hcz46_2, hcz46_3⟩ := Hd.c4_ BK358.out; obtain ⟨hfz46_0, hfz46_1, hfz46_2, hfz46_3⟩ := Hd.f4_ BK358.out))
        have n0_ : Aside0 (Kd.R k27 27 ((((((((w41.setCell ⟨gb357, 0, none⟩ (.int .i64 t349)).setCell ⟨gb357, 1, none⟩ (.int .i64 t350)).setCell ⟨gb357, 2, none⟩ (.int .i64 t351)).setCell ⟨gb357, 3, none⟩ (.int .i64 t352)).setCell ⟨gb358, 0, none⟩ (.int .i64 t353)).setCell ⟨gb358, 1, none⟩ (.int .i64 t354)).setCell ⟨gb358, 2, none⟩ (.int .i64 t355)).setCell ⟨gb358, 3, none⟩ (.int .i64 t356)) w.heap.size (fun _ => True) (.slice Ao7 t338.length co7) t338) := ⟨by (with_reducible repeat (first | apply Kd.R_alloc | apply Kd.R_drewN | apply Kd.R_drew)); exact Kd.R_mono (Kd.R_far (p := ⟨gb358, 3, none⟩) (Kd.R_far (p := ⟨gb358, 2, none⟩) (Kd.R_far (p := ⟨gb358, 1, none⟩) (Kd.R_far (p := ⟨gb358, 0, none⟩) (Kd.R_far (p := ⟨gb357, 3, none⟩) (Kd.R_far (p := ⟨gb357, 2, none⟩) (Kd.R_far (p := ⟨gb357, 1, none⟩) (Kd.R_far (p := ⟨gb357, 0, none⟩) (Kd.R_types (Kd.R_types HO_3.out BK357.out (by decide)) BK358.out (by decide)) (fun _ hk => hk.1.2) (.int .i64 t349)) (fun _ hk => hk.1.2) (.int .i64 t350)) (fun _ hk => hk.1.2) (.int .i64 t351)) (fun _ hk => hk.1.2) (.int .i64 t352)) (fun _ hk => hk.2) (.int .i64 t353)) (fun _ hk => hk.2) (.int .i64 t354)) (fun _ hk => hk.2) (.int .i64 t355)) (fun _ hk => hk.2) (.int .i64 t356)) (fun _ hk => trivial)⟩
        have n1_ : Aside0 (((((((((w41.setCell ⟨gb357, 0, none⟩ (.int .i64 t349)).setCell ⟨gb357, 1, none⟩ (.int .i64 t350)).setCell ⟨gb357, 2, none⟩ (.int .i64 t351)).setCell ⟨gb357, 3, none⟩ (.int .i64 t352)).setCell ⟨gb358, 0, none⟩ (.int .i64 t353)).setCell ⟨gb358, 1, none⟩ (.int .i64 t354)).setCell ⟨gb358, 2, none⟩ (.int .i64 t355)).setCell ⟨gb358, 3, none⟩ (.int .i64 t356)).heap[gb346]? = some (.cells #[.int .i64 t341, .int .i64 t342, .int .i64 t343, .int .i64 t344] 29 (0, 0))) := ⟨by (with_reducible repeat (first | refine blk_drewN ?_ _ | refine blk_drew ?_ | refine blk_alloc ?_ _)); refine blk_far ?_ NB346_358.out _; (with_reducible repeat (first | refine blk_drewN ?_ _ | refine blk_drew ?_ | refine blk_alloc ?_ _)); refine blk_far ?_ NB346_358.out _; (with_reducible repeat (first | refine blk_drewN ?_ _ | refine blk_drew ?_ | refine blk_alloc ?_ _)); refine blk_far ?_ NB346_358.out _; (with_reducible repeat (first | refine blk_drewN ?_ _ | refine blk_drew ?_ | refine blk_alloc ?_ _)); refine blk_far ?_ NB346_358.out _; (with_reducible repeat (first | refine blk_drewN ?_ _ | refine blk_drew ?_ | refine blk_alloc ?_ _)); refine blk_far ?_ NB346_357.out _; (with_reducible repeat (first | refine blk_drewN ?_ _ | refine blk_drew ?_ | refine blk_alloc ?_ _)); refine blk_far ?_ NB346_357.out _; (with_reducible repeat (first | refine blk_drewN ?_ _ | refine blk_drew ?_ | refine blk_alloc ?_ _)); refine blk_far ?_ NB346_357.out _; (with_reducible repeat (first | refine blk_drewN ?_ _ | refine blk_drew ?_ | refine blk_alloc ?_ _)); refine blk_far ?_ NB346_357.out _; (with_reducible repeat (first | refine blk_drewN ?_ _ | refine blk_drew ?_ | refine blk_alloc ?_ _)); exact BK346.out⟩
        have n2_ : Aside0 (((((((((w41.setCell ⟨gb357, 0, none⟩ (.int .i64 t349)).setCell ⟨gb357, 1, none⟩ (.int .i64 t350)).setCell ⟨gb357, 2, none⟩ (.int .i64 t351)).setCell ⟨gb357, 3, none⟩ (.int .i64 t352)).setCell ⟨gb358, 0, none⟩ (.int .i64 t353)).setCell ⟨gb358, 1, none⟩ (.int .i64 t354)).setCell ⟨gb358, 2, none⟩ (.int .i64 t355)).setCell ⟨gb358, 3, none⟩ (.int .i64 t356)).heap[gb357]? = some (.cells #[.int .i64 t349, .int .i64 t350, .int .i64 t351, .int .i64 t352] 29 (0, 0))) := ⟨by (with_reducible repeat (first | refine blk_drewN ?_ _ | refine blk_drew ?_ | refine blk_alloc ?_ _)); refine blk_far ?_ NB357_358.out _; (with_reducible repeat (first | refine blk_drewN ?_ _ | refine blk_drew ?_ | refine blk_alloc ?_ _)); refine blk_far ?_ NB357_358.out _; (with_reducible repeat (first | refine blk_drewN ?_ _ | refine blk_drew ?_ | refine blk_alloc ?_ _)); refine blk_far ?_ NB357_358.out _; (with_reducible repeat (first | refine blk_drewN ?_ _ | refine blk_drew ?_ | refine blk_alloc ?_ _)); refine blk_far ?_ NB357_358.out _; (with_reducible repeat (first | refine blk_drewN ?_ _ | refine blk_drew ?_ | refine blk_alloc ?_ _)); refine blk_put (cs := #[.int .i64 t349, .int .i64 t350, .int .i64 t351, .int .i64 0]) ?_ 3 _ rfl; (with_reducible repeat (first | refine blk_drewN ?_ _ | refine blk_drew ?_ | refine blk_alloc ?_ _)); refine blk_put (cs := #[.int .i64 t349, .int .i64 t350, .int .i64 0, .int .i64 0]) ?_ 2 _ rfl; (with_reducible repeat (first | refine blk_drewN ?_ _ | refine blk_drew ?_ | refine blk_alloc ?_ _)); refine blk_put (cs := #[.int .i64 t349, .int .i64 0, .int .i64 0, .int .i64 0]) ?_ 1 _ rfl; (with_reducible repeat (first | refine blk_drewN ?_ _ | refine blk_drew ?_ | refine blk_alloc ?_ _)); refine blk_put (cs := #[.int .i64 0, .int .i64 0, .int .i64 0, .int .i64 0]) ?_ 0 _ rfl; (with_reducible repeat (first | refine blk_drewN ?_ _ | refine blk_drew ?_ | refine blk_alloc ?_ _)); exact BK357.out⟩
        have n3_ : Aside0 (((((((((w41.setCell ⟨gb357, 0, none⟩ (.int .i64 t349)).setCell ⟨gb357, 1, none⟩ (.int .i64 t350)).setCell ⟨gb357, 2, none⟩ (.int .i64 t351)).setCell ⟨gb357, 3, none⟩ (.int .i64 t352)).setCell ⟨gb358, 0, none⟩ (.int .i64 t353)).setCell ⟨gb358, 1, none⟩ (.int .i64 t354)).setCell ⟨gb358, 2, none⟩ (.int .i64 t355)).setCell ⟨gb358, 3, none⟩ (.int .i64 t356)).heap[gb358]? = some (.cells #[.int .i64 t353, .int .i64 t354, .int .i64 t355, .int .i64 t356] 29 (0, 0))) := ⟨by (with_reducible repeat (first | refine blk_drewN ?_ _ | refine blk_drew ?_ | refine blk_alloc ?_ _)); refine blk_put (cs := #[.int .i64 t353, .int .i64 t354, .int .i64 t355, .int .i64 0]) ?_ 3 _ rfl; (with_reducible repeat (first | refine blk_drewN ?_ _ | refine blk_drew ?_ | refine blk_alloc ?_ _)); refine blk_put (cs := #[.int .i64 t353, .int .i64 t354, .int .i64 0, .int .i64 0]) ?_ 2 _ rfl; (with_reducible repeat (first | refine blk_drewN ?_ _ | refine blk_drew ?_ | refine blk_alloc ?_ _)); refine blk_put (cs := #[.int .i64 t353, .int .i64 0, .int .i64 0, .int .i64 0]) ?_ 1 _ rfl; (with_reducible repeat (first | refine blk_drewN ?_ _ | refine blk_drew ?_ | refine blk_alloc ?_ _)); refine blk_put (cs := #[.int .i64 0, .int .i64 0, .int .i64 0, .int .i64 0]) ?_ 0 _ rfl; (with_reducible repeat (first | refine blk_drewN ?_ _ | refine blk_drew ?_ | refine blk_alloc ?_ _)); refine blk_far ?_ NB358_357.out _; (with_reducible repeat (first | refine blk_drewN ?_ _ | refine blk_drew ?_ | refine blk_alloc ?_ _)); refine blk_far ?_ NB358_357.out _; (with_reducible repeat (first | refine blk_drewN ?_ _ | refine blk_drew ?_ | refine blk_alloc ?_ _)); refine blk_far ?_ NB358_357.out _; (with_reducible repeat (first | refine blk_drewN ?_ _ | refine blk_drew ?_ | refine blk_alloc ?_ _)); refine blk_far ?_ NB358_357.out _; (with_reducible repeat (first | refine blk_drewN ?_ _ | refine blk_drew ?_ | refine blk_alloc ?_ _)); exact BK358.out⟩
        have n4_ : Aside0 (Below w.heap.size w ((((((((w41.setCell ⟨gb357, 0, none⟩ (.int .i64 t349)).setCell ⟨gb357, 1, none⟩ (.int .i64 t350)).setCell ⟨gb357, 2, none⟩ (.int .i64 t351)).setCell ⟨gb357, 3, none⟩ (.int .i64 t352)).setCell ⟨gb358, 0, none⟩ (.int .i64 t353)).setCell ⟨gb358, 1, none⟩ (.int .i64 t354)).setCell ⟨gb358, 2, none⟩ (.int .i64 t355)).setCell ⟨gb358, 3, none⟩ (.int .i64 t356))) := ⟨Hd.b_⟩
        (try clear HO_3)
        (try clear BK346)
        (try clear BK357)
        (try clear BK358)
        (try clear HB)
        generalize ((((((((w41.setCell ⟨gb357, 0, none⟩ (.int .i64 t349)).setCell ⟨gb357, 1, none⟩ (.int .i64 t350)).setCell ⟨gb357, 2, none⟩ (.int .i64 t351)).setCell ⟨gb357, 3, none⟩ (.int .i64 t352)).setCell ⟨gb358, 0, none⟩ (.int .i64 t353)).setCell ⟨gb358, 1, none⟩ (.int .i64 t354)).setCell ⟨gb358, 2, none⟩ (.int .i64 t355)).setCell ⟨gb358, 3, none⟩ (.int .i64 t356)) = w47 at n0_ n1_ n2_ n3_ n4_ ⊢
        have HO_3 := n0_
        have BK346 := n1_
        have BK357 := n2_
        have BK358 := n3_
        have HB := n4_
        clear n0_ n1_ n2_ n3_ n4_
        replace HO_3 := Aside0.mk (Kd.R_drew HO_3.out)
        replace BK346 := Aside0.mk (blk_drew BK346.out)
        replace BK357 := Aside0.mk (blk_drew BK357.out)
        replace BK358 := Aside0.mk (blk_drew BK358.out)
        replace HB := Aside0.mk (below_drew1 HB.out)
        obtain ⟨s0_, s1_, s2_, s3_⟩ := Hd.HW.k4 (W0 := w47.drew) BK357
        obtain ⟨s4_, s5_, s6_, s7_⟩ := Hd.HW.k4 (W0 := w47.drew) BK358
        refine Hd.HW.region (by kernel_rfl) (by kernel_rfl) ?_
        repeat (go_big_quiet_step ((first | (go_at_call 15; with_reducible exact Hd.HW.c (impl_BoxesMeet.calls t349 t350 t351 t352 t353 t354 t355 t356 t359 _ A23.out)) | (go_at_call 16; with_reducible exact Hd.HW.c (spec_BoxesMeet.calls t349 t350 t351 t352 t353 t354 t355 t356 t360 _ A24.out)))))
        refine wpQuiet_nil ?_
        intro _ hq_
        obtain ⟨q_, rfl⟩ := hq_
        clear s0_ s1_ s2_ s3_ s4_ s5_ s6_ s7_
        replace HO_3 := Aside0.mk (Kd.R_below HO_3.out q_.b)
        replace BK346 := Aside0.mk (blk_below BK346.out q_.b)
        replace BK357 := Aside0.mk (blk_below BK357.out q_.b)
        replace BK358 := Aside0.mk (blk_below BK358.out q_.b)
        replace HB := Aside0.mk (below_step HB.out q_.b)
        generalize q_.W = w50 at HO_3 BK346 BK357 BK358 HB ⊢
        try simp only [i64_w, i32_w]
        go_upto_region 13 with (fail)
        go_cut [78] (fun v78 wc => ∃ (kq : Nat) (x78_37 : Bool), v78 = .bool x78_37 ∧ Aside0 (laws_FnBoxes.j2 kq l0 x78_37 t349 t350 t351 t352 t353 t354 t355 t356 = some r) ∧ Aside0 (kq ≤ kj10) ∧ Aside0 (wc.heap[gb346]? = some (.cells #[.int .i64 t341, .int .i64 t342, .int .i64 t343, .int .i64 t344] 29 (0, 0))) ∧ Aside0 (wc.heap[gb357]? = some (.cells #[.int .i64 t349, .int .i64 t350, .int .i64 t351, .int .i64 t352] 29 (0, 0))) ∧ Aside0 (wc.heap[gb358]? = some (.cells #[.int .i64 t353, .int .i64 t354, .int .i64 t355, .int .i64 t356] 29 (0, 0))) ∧ Aside0 (Below w.heap.size w wc))
        case first =>
         have H := HC38.out
         clear HC38
         replace H := Option.bind_eq_some_iff.mp H
         obtain ⟨t361, A510, H⟩ := H
         replace H : ((impl_BoxesMeet.f t353 t354 t355 t356 t349 t350 t351 t352).bind fun t362 => (if (t361 != t362) = true then (laws_FnBoxes.j2 kj10 l0 true t349 t350 t351 t352 t353 t354 t355 t356) else ((impl_BoxesOverlap.f t349 t350 t351 t352 t353 t354 t355 t356).bind fun t363 => ((impl_BoxesOverlap.f t353 t354 t355 t356 t349 t350 t351 t352).bind fun t364 => (if (t363 != t364) = true then (laws_FnBoxes.j2 kj10 l0 true t349 t350 t351 t352 t353 t354 t355 t356) else ((impl_BoxesOverlap.f t349 t350 t351 t352 t353 t354 t355 t356).bind fun t365 => (if t365 = true then ((impl_BoxesMeet.f t349 t350 t351 t352 t353 t354 t355 t356).bind fun t366 => (laws_FnBoxes.j2 kj10 l0 (!t366) t349 t350 t351 t352 t353 t354 t355 t356)) else (laws_FnBoxes.j2 kj10 l0 false t349 t350 t351 t352 t353 t354 t355 t356)))))))) = some r := H
         have A51 := Aside0.mk A510
         clear A510
         have E_ : t361 = t359 := Option.some.inj (A51.out.symm.trans A23.out)
         subst E_
         replace H := Option.bind_eq_some_iff.mp H
         obtain ⟨t362, A520, H⟩ := H
         replace H : (if (t361 != t362) = true then (laws_FnBoxes.j2 kj10 l0 true t349 t350 t351 t352 t353 t354 t355 t356) else ((impl_BoxesOverlap.f t349 t350 t351 t352 t353 t354 t355 t356).bind fun t363 => ((impl_BoxesOverlap.f t353 t354 t355 t356 t349 t350 t351 t352).bind fun t364 => (if (t363 != t364) = true then (laws_FnBoxes.j2 kj10 l0 true t349 t350 t351 t352 t353 t354 t355 t356) else ((impl_BoxesOverlap.f t349 t350 t351 t352 t353 t354 t355 t356).bind fun t365 => (if t365 = true then ((impl_BoxesMeet.f t349 t350 t351 t352 t353 t354 t355 t356).bind fun t366 => (laws_FnBoxes.j2 kj10 l0 (!t366) t349 t350 t351 t352 t353 t354 t355 t356)) else (laws_FnBoxes.j2 kj10 l0 false t349 t350 t351 t352 t353 t354 t355 t356))))))) = some r := H
         have A52 := Aside0.mk A520
         clear A520
         by_cases c53 : (t361 != t362) = true
         ·
          rw [if_pos c53] at H
          have c53b0 : (t361 != t362) = true := c53
          (try (have c53b1 : decide (t361 = t362) = false := by simpa using c53))
          (try (have c53b2 : (t361 == t362) = false := by simpa using c53))
          (try (have c53b3 : ¬ (t361 = t362) := by simpa using c53))
          clear c53
          (first | rw [c53b0] | (simp only [i64_w, i32_w]; rw [c53b0]) | skip)
          have H' := Aside0.mk H
          clear H
          try go_wp2
          replace HO_3 := Aside0.mk (Kd.R_drew HO_3.out)
          replace BK346 := Aside0.mk (blk_drew BK346.out)
          replace BK357 := Aside0.mk (blk_drew BK357.out)
          replace BK358 := Aside0.mk (blk_drew BK358.out)
          replace HB := Aside0.mk (below_drew1 HB.out)
          obtain ⟨s0_, s1_, s2_, s3_⟩ := Hd.HW.k4 (W0 := w50.drew) BK357
          obtain ⟨s4_, s5_, s6_, s7_⟩ := Hd.HW.k4 (W0 := w50.drew) BK358
          refine Hd.HW.region (by kernel_rfl) (by kernel_rfl) ?_
          repeat (go_big_quiet_step ((first | (go_at_call 15; with_reducible exact Hd.HW.c (impl_BoxesMeet.calls t349 t350 t351 t352 t353 t354 t355 t356 t361 _ A51.out)) | (go_at_call 15; with_reducible exact Hd.HW.c (impl_BoxesMeet.calls t353 t354 t355 t356 t349 t350 t351 t352 t362 _ A52.out)))))
          refine wpQuiet_nil ?_
          intro _ hq_
          obtain ⟨q_, rfl⟩ := hq_
          clear s0_ s1_ s2_ s3_ s4_ s5_ s6_ s7_
          replace HO_3 := Aside0.mk (Kd.R_below HO_3.out q_.b)
          replace BK346 := Aside0.mk (blk_below BK346.out q_.b)
          replace BK357 := Aside0.mk (blk_below BK357.out q_.b)
          replace BK358 := Aside0.mk (blk_below BK358.out q_.b)
          replace HB := Aside0.mk (below_step HB.out q_.b)
          generalize q_.W = w56 at HO_3 BK346 BK357 BK358 HB ⊢
          try simp only [i64_w, i32_w]
          try go_wp2
          go_meet
          case rel => exact ⟨_, (true), (by first | rfl | (simp; done) | (simp [*]; done)), H', ⟨by have := HK1.out; have := HJ10.out; first | omega | exact Nat.le_refl _⟩, ⟨by (with_reducible repeat (first | refine blk_drewN ?_ _ | refine blk_drew ?_ | refine blk_alloc ?_ _)); exact BK346.out⟩, ⟨by (with_reducible repeat (first | refine blk_drewN ?_ _ | refine blk_drew ?_ | refine blk_alloc ?_ _)); exact BK357.out⟩, ⟨by (with_reducible repeat (first | refine blk_drewN ?_ _ | refine blk_drew ?_ | refine blk_alloc ?_ _)); exact BK358.out⟩, ⟨Hd.b_⟩⟩
         ·
          rw [if_neg c53] at H
          have c53b0 : (t361 != t362) = false := by simpa using c53
          (try (have c53b1 : decide (t361 = t362) = true := by simpa using c53))
          (try (have c53b2 : (t361 == t362) = true := by simpa using c53))
          clear c53
          (first | rw [c53b0] | (simp only [i64_w, i32_w]; rw [c53b0]) | skip)
          replace H := Option.bind_eq_some_iff.mp H
          obtain ⟨t363, A570, H⟩ := H
          replace H : ((impl_BoxesOverlap.f t353 t354 t355 t356 t349 t350 t351 t352).bind fun t364 => (if (t363 != t364) = true then (laws_FnBoxes.j2 kj10 l0 true t349 t350 t351 t352 t353 t354 t355 t356) else ((impl_BoxesOverlap.f t349 t350 t351 t352 t353 t354 t355 t356).bind fun t365 => (if t365 = true then ((impl_BoxesMeet.f t349 t350 t351 t352 t353 t354 t355 t356).bind fun t366 => (laws_FnBoxes.j2 kj10 l0 (!t366) t349 t350 t351 t352 t353 t354 t355 t356)) else (laws_FnBoxes.j2 kj10 l0 false t349 t350 t351 t352 t353 t354 t355 t356))))) = some r := H
          have A57 := Aside0.mk A570
          clear A570
          replace H := Option.bind_eq_some_iff.mp H
          obtain ⟨t364, A580, H⟩ := H
          replace H : (if (t363 != t364) = true then (laws_FnBoxes.j2 kj10 l0 true t349 t350 t351 t352 t353 t354 t355 t356) else ((impl_BoxesOverlap.f t349 t350 t351 t352 t353 t354 t355 t356).bind fun t365 => (if t365 = true then ((impl_BoxesMeet.f t349 t350 t351 t352 t353 t354 t355 t356).bind fun t366 => (laws_FnBoxes.j2 kj10 l0 (!t366) t349 t350 t351 t352 t353 t354 t355 t356)) else (laws_FnBoxes.j2 kj10 l0 false t349 t350 t351 t352 t353 t354 t355 t356)))) = some r := H
          have A58 := Aside0.mk A580
          clear A580
          by_cases c59 : (t363 != t364) = true
          ·
           rw [if_pos c59] at H
           have c59b0 : (t363 != t364) = true := c59
           (try (have c59b1 : decide (t363 = t364) = false := by simpa using c59))
           (try (have c59b2 : (t363 == t364) = false := by simpa using c59))
           (try (have c59b3 : ¬ (t363 = t364) := by simpa using c59))
           clear c59
           have H' := Aside0.mk H
           clear H
           try go_wp2
           replace HO_3 := Aside0.mk (Kd.R_drew HO_3.out)
           replace BK346 := Aside0.mk (blk_drew BK346.out)
           replace BK357 := Aside0.mk (blk_drew BK357.out)
           replace BK358 := Aside0.mk (blk_drew BK358.out)
           replace HB := Aside0.mk (below_drew1 HB.out)
           obtain ⟨s0_, s1_, s2_, s3_⟩ := Hd.HW.k4 (W0 := w50.drew) BK357
           obtain ⟨s4_, s5_, s6_, s7_⟩ := Hd.HW.k4 (W0 := w50.drew) BK358
           refine Hd.HW.region (by kernel_rfl) (by kernel_rfl) ?_
           repeat (go_big_quiet_step ((first | (go_at_call 15; with_reducible exact Hd.HW.c (impl_BoxesMeet.calls t349 t350 t351 t352 t353 t354 t355 t356 t361 _ A51.out)) | (go_at_call 15; with_reducible exact Hd.HW.c (impl_BoxesMeet.calls t353 t354 t355 t356 t349 t350 t351 t352 t362 _ A52.out)) | (go_at_call 17; with_reducible exact Hd.HW.c (impl_BoxesOverlap.calls t349 t350 t351 t352 t353 t354 t355 t356 t363 _ A57.out)) | (go_at_call 17; with_reducible exact Hd.HW.c (impl_BoxesOverlap.calls t353 t354 t355 t356 t349 t350 t351 t352 t364 _ A58.out)))))
           refine wpQuiet_nil ?_
           intro _ hq_
           obtain ⟨q_, rfl⟩ := hq_
           clear s0_ s1_ s2_ s3_ s4_ s5_ s6_ s7_
           replace HO_3 := Aside0.mk (Kd.R_below HO_3.out q_.b)
           replace BK346 := Aside0.mk (blk_below BK346.out q_.b)
           replace BK357 := Aside0.mk (blk_below BK357.out q_.b)
           replace BK358 := Aside0.mk (blk_below BK358.out q_.b)
           replace HB := Aside0.mk (below_step HB.out q_.b)
           generalize q_.W = w64 at HO_3 BK346 BK357 BK358 HB ⊢
           try simp only [i64_w, i32_w]
           try go_wp2
           go_meet
           case rel => exact ⟨_, (true), (by first | rfl | (simp; done) | (simp [*]; done)), H', ⟨by have := HK1.out; have := HJ10.out; first | omega | exact Nat.le_refl _⟩, ⟨by (with_reducible repeat (first | refine blk_drewN ?_ _ | refine blk_drew ?_ | refine blk_alloc ?_ _)); exact BK346.out⟩, ⟨by (with_reducible repeat (first | refine blk_drewN ?_ _ | refine blk_drew ?_ | refine blk_alloc ?_ _)); exact BK357.out⟩, ⟨by (with_reducible repeat (first | refine blk_drewN ?_ _ | refine blk_drew ?_ | refine blk_alloc ?_ _)); exact BK358.out⟩, ⟨Hd.b_⟩⟩
          ·
           rw [if_neg c59] at H
           have c59b0 : (t363 != t364) = false := by simpa using c59
           (try (have c59b1 : decide (t363 = t364) = true := by simpa using c59))
           (try (have c59b2 : (t363 == t364) = true := by simpa using c59))
           clear c59
           replace H := Option.bind_eq_some_iff.mp H
           obtain ⟨t365, A650, H⟩ := H
           replace H : (if t365 = true then ((impl_BoxesMeet.f t349 t350 t351 t352 t353 t354 t355 t356).bind fun t366 => (laws_FnBoxes.j2 kj10 l0 (!t366) t349 t350 t351 t352 t353 t354 t355 t356)) else (laws_FnBoxes.j2 kj10 l0 false t349 t350 t351 t352 t353 t354 t355 t356)) = some r := H
           have A65 := Aside0.mk A650
           clear A650
           have E_ : t365 = t363 := Option.some.inj (A65.out.symm.trans A57.out)
           subst E_
           by_cases c66 : t365 = true
           ·
            subst c66
            have H1 : ((impl_BoxesMeet.f t349 t350 t351 t352 t353 t354 t355 t356).bind fun t366 => (laws_FnBoxes.j2 kj10 l0 (!t366) t349 t350 t351 t352 t353 t354 t355 t356)) = some r := by rw [if_pos rfl] at H; exact H
            clear H
            have H := H1
            clear H1
            replace H := Option.bind_eq_some_iff.mp H
            obtain ⟨t366, A670, H⟩ := H
            replace H : (laws_FnBoxes.j2 kj10 l0 (!t366) t349 t350 t351 t352 t353 t354 t355 t356) = some r := H
            have A67 := Aside0.mk A670
            clear A670
            have E_ : t366 = t361 := Option.some.inj (A67.out.symm.trans A51.out)
            subst E_
            have H' := Aside0.mk H
            clear H
            try go_wp2
            replace HO_3 := Aside0.mk (Kd.R_drew HO_3.out)
            replace BK346 := Aside0.mk (blk_drew BK346.out)
            replace BK357 := Aside0.mk (blk_drew BK357.out)
            replace BK358 := Aside0.mk (blk_drew BK358.out)
            replace HB := Aside0.mk (below_drew1 HB.out)
            obtain ⟨s0_, s1_, s2_, s3_⟩ := Hd.HW.k4 (W0 := w50.drew) BK357
            obtain ⟨s4_, s5_, s6_, s7_⟩ := Hd.HW.k4 (W0 := w50.drew) BK358
            refine Hd.HW.region (by kernel_rfl) (by kernel_rfl) ?_
            repeat (go_big_quiet_step ((first | (go_at_call 15; with_reducible exact Hd.HW.c (impl_BoxesMeet.calls t349 t350 t351 t352 t353 t354 t355 t356 t361 _ A51.out)) | (go_at_call 15; with_reducible exact Hd.HW.c (impl_BoxesMeet.calls t353 t354 t355 t356 t349 t350 t351 t352 t362 _ A52.out)) | (go_at_call 17; with_reducible exact Hd.HW.c (impl_BoxesOverlap.calls t349 t350 t351 t352 t353 t354 t355 t356 t363 _ A57.out)) | (go_at_call 17; with_reducible exact Hd.HW.c (impl_BoxesOverlap.calls t353 t354 t355 t356 t349 t350 t351 t352 t364 _ A58.out)) | (go_at_call 17; with_reducible exact Hd.HW.c (impl_BoxesOverlap.calls t349 t350 t351 t352 t353 t354 t355 t356 true _ A65.out)) | (go_at_call 15; with_reducible exact Hd.HW.c (impl_BoxesMeet.calls t349 t350 t351 t352 t353 t354 t355 t356 t366 _ A67.out)))))
            refine wpQuiet_nil ?_
            intro _ hq_
            obtain ⟨q_, rfl⟩ := hq_
            clear s0_ s1_ s2_ s3_ s4_ s5_ s6_ s7_
            replace HO_3 := Aside0.mk (Kd.R_below HO_3.out q_.b)
            replace BK346 := Aside0.mk (blk_below BK346.out q_.b)
            replace BK357 := Aside0.mk (blk_below BK357.out q_.b)
            replace BK358 := Aside0.mk (blk_below BK358.out q_.b)
            replace HB := Aside0.mk (below_step HB.out q_.b)
            generalize q_.W = w74 at HO_3 BK346 BK357 BK358 HB ⊢
            try simp only [i64_w, i32_w]
            try go_wp2
            go_meet
            case rel => exact ⟨_, (!t366), (by first | rfl | (simp; done) | (simp [*]; done)), H', ⟨by have := HK1.out; have := HJ10.out; first | omega | exact Nat.le_refl _⟩, ⟨by (with_reducible repeat (first | refine blk_drewN ?_ _ | refine blk_drew ?_ | refine blk_alloc ?_ _)); exact BK346.out⟩, ⟨by (with_reducible repeat (first | refine blk_drewN ?_ _ | refine blk_drew ?_ | refine blk_alloc ?_ _)); exact BK357.out⟩, ⟨by (with_reducible repeat (first | refine blk_drewN ?_ _ | refine blk_drew ?_ | refine blk_alloc ?_ _)); exact BK358.out⟩, ⟨Hd.b_⟩⟩
           ·
            replace c66 := Bool.eq_false_iff.mpr c66
            subst c66
            have H1 : (laws_FnBoxes.j2 kj10 l0 false t349 t350 t351 t352 t353 t354 t355 t356) = some r := by rw [if_neg (show ¬ (false = true) by decide)] at H; exact H
            clear H
            have H := H1
            clear H1
            have H' := Aside0.mk H
            clear H
            try go_wp2
            replace HO_3 := Aside0.mk (Kd.R_drew HO_3.out)
            replace BK346 := Aside0.mk (blk_drew BK346.out)
            replace BK357 := Aside0.mk (blk_drew BK357.out)
            replace BK358 := Aside0.mk (blk_drew BK358.out)
            replace HB := Aside0.mk (below_drew1 HB.out)
            obtain ⟨s0_, s1_, s2_, s3_⟩ := Hd.HW.k4 (W0 := w50.drew) BK357
            obtain ⟨s4_, s5_, s6_, s7_⟩ := Hd.HW.k4 (W0 := w50.drew) BK358
            refine Hd.HW.region (by kernel_rfl) (by kernel_rfl) ?_
            repeat (go_big_quiet_step ((first | (go_at_call 15; with_reducible exact Hd.HW.c (impl_BoxesMeet.calls t349 t350 t351 t352 t353 t354 t355 t356 t361 _ A51.out)) | (go_at_call 15; with_reducible exact Hd.HW.c (impl_BoxesMeet.calls t353 t354 t355 t356 t349 t350 t351 t352 t362 _ A52.out)) | (go_at_call 17; with_reducible exact Hd.HW.c (impl_BoxesOverlap.calls t349 t350 t351 t352 t353 t354 t355 t356 t363 _ A57.out)) | (go_at_call 17; with_reducible exact Hd.HW.c (impl_BoxesOverlap.calls t353 t354 t355 t356 t349 t350 t351 t352 t364 _ A58.out)) | (go_at_call 17; with_reducible exact Hd.HW.c (impl_BoxesOverlap.calls t349 t350 t351 t352 t353 t354 t355 t356 false _ A65.out)))))
            refine wpQuiet_nil ?_
            intro _ hq_
            obtain ⟨q_, rfl⟩ := hq_
            clear s0_ s1_ s2_ s3_ s4_ s5_ s6_ s7_
            replace HO_3 := Aside0.mk (Kd.R_below HO_3.out q_.b)
            replace BK346 := Aside0.mk (blk_below BK346.out q_.b)
            replace BK357 := Aside0.mk (blk_below BK357.out q_.b)
            replace BK358 := Aside0.mk (blk_below BK358.out q_.b)
            replace HB := Aside0.mk (below_step HB.out q_.b)
            generalize q_.W = w80 at HO_3 BK346 BK357 BK358 HB ⊢
            try simp only [i64_w, i32_w]
            try go_wp2
            go_meet
            case rel => exact ⟨_, (false), (by first | rfl | (simp; done) | (simp [*]; done)), H', ⟨by have := HK1.out; have := HJ10.out; first | omega | exact Nat.le_refl _⟩, ⟨by (with_reducible repeat (first | refine blk_drewN ?_ _ | refine blk_drew ?_ | refine blk_alloc ?_ _)); exact BK346.out⟩, ⟨by (with_reducible repeat (first | refine blk_drewN ?_ _ | refine blk_drew ?_ | refine blk_alloc ?_ _)); exact BK357.out⟩, ⟨by (with_reducible repeat (first | refine blk_drewN ?_ _ | refine blk_drew ?_ | refine blk_alloc ?_ _)); exact BK358.out⟩, ⟨Hd.b_⟩⟩
        case rest =>
         clear HC38
         try clear c1
         try clear p2
         try clear c6
         try clear c15
         try clear c17
         try clear c66
         obtain ⟨kq, x78_37, rfl, HA, HJ37, BK346, BK357, BK358, HB⟩ := hcut
         cases kq with
         | zero => exact absurd HA.out (by simp [laws_FnBoxes.j2])
         | succ kj37 =>
          have H := HA.out
          clear HA
          simp only [laws_FnBoxes.j2] at H
          by_cases c81 : x78_37 = true
          ·
           subst c81
           have H1 : (some false) = some r := by rw [if_pos rfl] at H; exact H
           clear H
           have H := H1
           clear H1
           obtain rfl := Option.some.inj H
           go_wp2
           go_ret
           exact ⟨Hd.e_, Hd.b_⟩
          ·
           replace c81 := Bool.eq_false_iff.mpr c81
           subst c81
           have H1 : ((impl_JoinBoxes.f kj37 t349 t350 t351 t352 t353 t354 t355 t356).bind fun bt367 => (if bt367.2.2.2.2 = true then ((impl_InBox.f bt367.1 bt367.2.1 bt367.2.2.1 bt367.2.2.2.1 t349 t350).bind fun t373 => (if t373 = true then ((impl_InBox.f bt367.1 bt367.2.1 bt367.2.2.1 bt367.2.2.2.1 t351 t352).bind fun t374 => (if t374 = true then ((impl_InBox.f bt367.1 bt367.2.1 bt367.2.2.1 bt367.2.2.2.1 t353 t354).bind fun t375 => (if t375 = true then ((impl_InBox.f bt367.1 bt367.2.1 bt367.2.2.1 bt367.2.2.2.1 t355 t356).bind fun t376 => (laws_FnBoxes.j3 kj37 l0 (!t376))) else (laws_FnBoxes.j3 kj37 l0 true))) else (laws_FnBoxes.j3 kj37 l0 true))) else (laws_FnBoxes.j3 kj37 l0 true))) else (laws_FnBoxes.j3 kj37 l0 false))) = some r := by rw [if_neg (show ¬ (false = true) by decide)] at H; exact H
           clear H
           have H := H1
           clear H1
           replace H := Option.bind_eq_some_iff.mp H
           obtain ⟨⟨t367, t368, t369, t370, t371⟩, A820, H⟩ := H
           replace H : (if t371 = true then ((impl_InBox.f t367 t368 t369 t370 t349 t350).bind fun t373 => (if t373 = true then ((impl_InBox.f t367 t368 t369 t370 t351 t352).bind fun t374 => (if t374 = true then ((impl_InBox.f t367 t368 t369 t370 t353 t354).bind fun t375 => (if t375 = true then ((impl_InBox.f t367 t368 t369 t370 t355 t356).bind fun t376 => (laws_FnBoxes.j3 kj37 l0 (!t376))) else (laws_FnBoxes.j3 kj37 l0 true))) else (laws_FnBoxes.j3 kj37 l0 true))) else (laws_FnBoxes.j3 kj37 l0 true))) else (laws_FnBoxes.j3 kj37 l0 false)) = some r := H
           have A82 := Aside0.mk A820
           clear A820
           have HC83 := Aside0.mk H
           clear H
           have hnb84 := NB357_346.out
           have hnc84 := NB346_357.out
           have hnb85 := NB357_358.out
           have hnc85 := NB358_357.out
           obtain ⟨hcz86_0, hcz86_1, hcz86_2, hcz86_3⟩ := Hd.c4_ BK357.out
           obtain ⟨hfz86_0, hfz86_1, hfz86_2, hfz86_3⟩ := Hd.f4_ BK357.out
           have hnb87 := NB358_346.out
           have hnc87 := NB346_358.out
           obtain ⟨hcz88_0, hcz88_1, hcz88_2, hcz88_3⟩ := Hd.c4_ BK358.out
           obtain ⟨hfz88_0, hfz88_1, hfz88_2, hfz88_3⟩ := Hd.f4_ BK358.out
           go_upto_region 16 with (first | ((with_reducible refine gate_callee (f := 18) rfl ?_); refine goesL_ (some 82) rfl rfl Try.func18 (by kernel_rfl) rfl #[.agg #[.int .i64 t349, .int .i64 t350, .int .i64 t351, .int .i64 t352], .agg #[.int .i64 t353, .int .i64 t354, .int .i64 t355, .int .i64 t356]] rfl Hd.m_ ?_; (with_reducible refine (impl_JoinBoxes.calls kj37 t349 t350 t351 t352 t353 t354 t355 t356 t367 t368 t369 t370 t371 _ A82.out).mono ?_); rintro e w89 ⟨rfl, hb⟩; refine ⟨_, rfl, ?_⟩; replace BK346 := Aside0.mk (Hd.kb_ BK346 hb); replace BK357 := Aside0.mk (Hd.kb_ BK357 hb); replace BK358 := Aside0.mk (Hd.kb_ BK358 hb); replace HB := Aside0.mk (below_step Hd.b_ hb); (try clear hb); (try clear hb2); (try clear hk); (try clear hi)) | ((with_reducible refine gate_dst (N := 9) rfl ?_); refine Hd.box_ 9 (#[.int .i64 0, .int .i64 0, .int .i64 0, .int .i64 0]) 29 ?_; intro gb372 hg w90 hbox hb; have BK372 := Aside0.mk (hbox); have GW372 := Aside0.mk ((Hd.g_ hg Hd.b_ : w.heap.size ≤ gb372)); have GE372 := Aside0.mk ((Hd.g_ hg Hd.b_ : w.heap.size ≤ gb372)); replace HB := Aside0.mk (below_step Hd.b_ hb); have NB346_372 := Aside0.mk ((Hd.lt_ BK346 hg)); have NB372_346 := Aside0.mk ((Hd.gt_ BK346 hg)); replace BK346 := Aside0.mk (Hd.kb_ BK346 hb); have NB357_372 := Aside0.mk ((Hd.lt_ BK357 hg)); have NB372_357 := Aside0.mk ((Hd.gt_ BK357 hg)); replace BK357 := Aside0.mk (Hd.kb_ BK357 hb); have NB358_372 := Aside0.mk ((Hd.lt_ BK358 hg)); have NB372_358 := Aside0.mk ((Hd.gt_ BK358 hg)); replace BK358 := Aside0.mk (Hd.kb_ BK358 hb); clear hb hbox hg; have hnb91 := NB372_346.out; have hnc91 := NB346_372.out; have hnb92 := NB372_357.out; have hnc92 := NB357_372.out; have hnb93 := NB372_358.out; have hnc93 := NB358_372.out; obtain ⟨hcz94_0, hcz94_1, hcz94_2, hcz94_3⟩ := Hd.c4_ BK372.out; obtain ⟨hfz94_0, hfz94_1, hfz94_2, hfz94_3⟩ := Hd.f4_ BK372.out))
           (try simp only [Act.put, List.setIfInBounds_toArray, List.set_cons_zero, List.set_cons_succ])
           go_cut [113] (fun v113 wc => ∃ (kq : Nat) (x113_82 : Bool), v113 = .bool x113_82 ∧ Aside0 (laws_FnBoxes.j3 kq l0 x113_82 = some r) ∧ Aside0 (kq ≤ kj37) ∧ Aside0 (wc.heap[gb346]? = some (.cells #[.int .i64 t341, .int .i64 t342, .int .i64 t343, .int .i64 t344] 29 (0, 0))) ∧ Aside0 (wc.heap[gb357]? = some (.cells #[.int .i64 t349, .int .i64 t350, .int .i64 t351, .int .i64 t352] 29 (0, 0))) ∧ Aside0 (wc.heap[gb358]? = some (.cells #[.int .i64 t353, .int .i64 t354, .int .i64 t355, .int .i64 t356] 29 (0, 0))) ∧ Aside0 (wc.heap[gb372]? = some (.cells #[.int .i64 t367, .int .i64 t368, .int .i64 t369, .int .i64 t370] 29 (0, 0))) ∧ Aside0 (Below w.heap.size w wc))
           case first =>
            have H := HC83.out
            clear HC83
            by_cases c95 : t371 = true
            ·
             subst c95
             have H1 : ((impl_InBox.f t367 t368 t369 t370 t349 t350).bind fun t373 => (if t373 = true then ((impl_InBox.f t367 t368 t369 t370 t351 t352).bind fun t374 => (if t374 = true then ((impl_InBox.f t367 t368 t369 t370 t353 t354).bind fun t375 => (if t375 = true then ((impl_InBox.f t367 t368 t369 t370 t355 t356).bind fun t376 => (laws_FnBoxes.j3 kj37 l0 (!t376))) else (laws_FnBoxes.j3 kj37 l0 true))) else (laws_FnBoxes.j3 kj37 l0 true))) else (laws_FnBoxes.j3 kj37 l0 true))) = some r := by rw [if_pos rfl] at H; exact H
             clear H
             have H := H1
             clear H1
             replace H := Option.bind_eq_some_iff.mp H
             obtain ⟨t373, A960, H⟩ := H
             replace H : (if t373 = true then ((impl_InBox.f t367 t368 t369 t370 t351 t352).bind fun t374 => (if t374 = true then ((impl_InBox.f t367 t368 t369 t370 t353 t354).bind fun t375 => (if t375 = true then ((impl_InBox.f t367 t368 t369 t370 t355 t356).bind fun t376 => (laws_FnBoxes.j3 kj37 l0 (!t376))) else (laws_FnBoxes.j3 kj37 l0 true))) else (laws_FnBoxes.j3 kj37 l0 true))) else (laws_FnBoxes.j3 kj37 l0 true)) = some r := H
             have A96 := Aside0.mk A960
             clear A960
             by_cases c97 : t373 = true
             ·
              subst c97
              have H1 : ((impl_InBox.f t367 t368 t369 t370 t351 t352).bind fun t374 => (if t374 = true then ((impl_InBox.f t367 t368 t369 t370 t353 t354).bind fun t375 => (if t375 = true then ((impl_InBox.f t367 t368 t369 t370 t355 t356).bind fun t376 => (laws_FnBoxes.j3 kj37 l0 (!t376))) else (laws_FnBoxes.j3 kj37 l0 true))) else (laws_FnBoxes.j3 kj37 l0 true))) = some r := by rw [if_pos rfl] at H; exact H
              clear H
              have H := H1
              clear H1
              replace H := Option.bind_eq_some_iff.mp H
              obtain ⟨t374, A980, H⟩ := H
              replace H : (if t374 = true then ((impl_InBox.f t367 t368 t369 t370 t353 t354).bind fun t375 => (if t375 = true then ((impl_InBox.f t367 t368 t369 t370 t355 t356).bind fun t376 => (laws_FnBoxes.j3 kj37 l0 (!t376))) else (laws_FnBoxes.j3 kj37 l0 true))) else (laws_FnBoxes.j3 kj37 l0 true)) = some r := H
              have A98 := Aside0.mk A980
              clear A980
              by_cases c99 : t374 = true
              ·
               subst c99
               have H1 : ((impl_InBox.f t367 t368 t369 t370 t353 t354).bind fun t375 => (if t375 = true then ((impl_InBox.f t367 t368 t369 t370 t355 t356).bind fun t376 => (laws_FnBoxes.j3 kj37 l0 (!t376))) else (laws_FnBoxes.j3 kj37 l0 true))) = some r := by rw [if_pos rfl] at H; exact H
               clear H
               have H := H1
               clear H1
               replace H := Option.bind_eq_some_iff.mp H
               obtain ⟨t375, A1000, H⟩ := H
               replace H : (if t375 = true then ((impl_InBox.f t367 t368 t369 t370 t355 t356).bind fun t376 => (laws_FnBoxes.j3 kj37 l0 (!t376))) else (laws_FnBoxes.j3 kj37 l0 true)) = some r := H
               have A100 := Aside0.mk A1000
               clear A1000
               by_cases c101 : t375 = true
               ·
                subst c101
                have H1 : ((impl_InBox.f t367 t368 t369 t370 t355 t356).bind fun t376 => (laws_FnBoxes.j3 kj37 l0 (!t376))) = some r := by rw [if_pos rfl] at H; exact H
                clear H
                have H := H1
                clear H1
                replace H := Option.bind_eq_some_iff.mp H
                obtain ⟨t376, A1020, H⟩ := H
                replace H : (laws_FnBoxes.j3 kj37 l0 (!t376)) = some r := H
                have A102 := Aside0.mk A1020
                clear A1020
                have H' := Aside0.mk H
                clear H
                have hnb103 := NB372_346.out
                have hnc103 := NB346_372.out
                have hnb104 := NB372_357.out
                have hnc104 := NB357_372.out
                have hnb105 := NB372_358.out
                have hnc105 := NB358_372.out
                obtain ⟨hcz106_0, hcz106_1, hcz106_2, hcz106_3⟩ := Hd.c4_ BK372.out
                obtain ⟨hfz106_0, hfz106_1, hfz106_2, hfz106_3⟩ := Hd.f4_ BK372.out
                have hnb107 := NB357_346.out
                have hnc107 := NB346_357.out
                have hnb108 := NB357_358.out
                have hnc108 := NB358_357.out
                obtain ⟨hcz109_0, hcz109_1, hcz109_2, hcz109_3⟩ := Hd.c4_ BK357.out
                obtain ⟨hfz109_0, hfz109_1, hfz109_2, hfz109_3⟩ := Hd.f4_ BK357.out
                go_wp2_with (first | (go_at_call 13; (with_reducible refine (impl_InBox.calls t367 t368 t369 t370 t349 t350 true _ A96.out).mono ?_); rintro e w110 ⟨rfl, hb⟩; replace BK346 := Aside0.mk (blk_below (g := gb346) (o := .cells #[.int .i64 t341, .int .i64 t342, .int .i64 t343, .int .i64 t344] 29 (0, 0)) (by (with_reducible repeat (first | refine blk_drewN ?_ _ | refine blk_drew ?_ | refine blk_alloc ?_ _)); refine blk_far ?_ NB346_372.out _; (with_reducible repeat (first | refine blk_drewN ?_ _ | refine blk_drew ?_ | refine blk_alloc ?_ _)); refine blk_far ?_ NB346_372.out _; (with_reducible repeat (first | refine blk_drewN ?_ _ | refine blk_drew ?_ | refine blk_alloc ?_ _)); refine blk_far ?_ NB346_372.out _; (with_reducible repeat (first | refine blk_drewN ?_ _ | refine blk_drew ?_ | refine blk_alloc ?_ _)); refine blk_far ?_ NB346_372.out _; (with_reducible repeat (first | refine blk_drewN ?_ _ | refine blk_drew ?_ | refine blk_alloc ?_ _)); exact BK346.out) hb); replace BK357 := Aside0.mk (blk_below (g := gb357) (o := .cells #[.int .i64 t349, .int .i64 t350, .int .i64 t351, .int .i64 t352] 29 (0, 0)) (by (with_reducible repeat (first | refine blk_drewN ?_ _ | refine blk_drew ?_ | refine blk_alloc ?_ _)); refine blk_far ?_ NB357_372.out _; (with_reducible repeat (first | refine blk_drewN ?_ _ | refine blk_drew ?_ | refine blk_alloc ?_ _)); refine blk_far ?_ NB357_372.out _; (with_reducible repeat (first | refine blk_drewN ?_ _ | refine blk_drew ?_ | refine blk_alloc ?_ _)); refine blk_far ?_ NB357_372.out _; (with_reducible repeat (first | refine blk_drewN ?_ _ | refine blk_drew ?_ | refine blk_alloc ?_ _)); refine blk_far ?_ NB357_372.out _; (with_reducible repeat (first | refine blk_drewN ?_ _ | refine blk_drew ?_ | refine blk_alloc ?_ _)); exact BK357.out) hb); replace BK358 := Aside0.mk (blk_below (g := gb358) (o := .cells #[.int .i64 t353, .int .i64 t354, .int .i64 t355, .int .i64 t356] 29 (0, 0)) (by (with_reducible repeat (first | refine blk_drewN ?_ _ | refine blk_drew ?_ | refine blk_alloc ?_ _)); refine blk_far ?_ NB358_372.out _; (with_reducible repeat (first | refine blk_drewN ?_ _ | refine blk_drew ?_ | refine blk_alloc ?_ _)); refine blk_far ?_ NB358_372.out _; (with_reducible repeat (first | refine blk_drewN ?_ _ | refine blk_drew ?_ | refine blk_alloc ?_ _)); refine blk_far ?_ NB358_372.out _; (with_reducible repeat (first | refine blk_drewN ?_ _ | refine blk_drew ?_ | refine blk_alloc ?_ _)); refine blk_far ?_ NB358_372.out _; (with_reducible repeat (first | refine blk_drewN ?_ _ | refine blk_drew ?_ | refine blk_alloc ?_ _)); exact BK358.out) hb); replace BK372 := Aside0.mk (blk_below (g := gb372) (o := .cells #[.int .i64 t367, .int .i64 t368, .int .i64 t369, .int .i64 t370] 29 (0, 0)) (by (with_reducible repeat (first | refine blk_drewN ?_ _ | refine blk_drew ?_ | refine blk_alloc ?_ _)); refine blk_put (cs := #[.int .i64 t367, .int .i64 t368, .int .i64 t369, .int .i64 0]) ?_ 3 _ rfl; (with_reducible repeat (first | refine blk_drewN ?_ _ | refine blk_drew ?_ | refine blk_alloc ?_ _)); refine blk_put (cs := #[.int .i64 t367, .int .i64 t368, .int .i64 0, .int .i64 0]) ?_ 2 _ rfl; (with_reducible repeat (first | refine blk_drewN ?_ _ | refine blk_drew ?_ | refine blk_alloc ?_ _)); refine blk_put (cs := #[.int .i64 t367, .int .i64 0, .int .i64 0, .int .i64 0]) ?_ 1 _ rfl; (with_reducible repeat (first | refine blk_drewN ?_ _ | refine blk_drew ?_ | refine blk_alloc ?_ _)); refine blk_put (cs := #[.int .i64 0, .int .i64 0, .int .i64 0, .int .i64 0]) ?_ 0 _ rfl; (with_reducible repeat (first | refine blk_drewN ?_ _ | refine blk_drew ?_ | refine blk_alloc ?_ _)); exact BK372.out) hb); replace HB := Aside0.mk (below_step Hd.b_ hb); (try clear hb); (try clear hb2); (try clear hk); (try clear hi); obtain ⟨hcz111_0, hcz111_1, hcz111_2, hcz111_3⟩ := Hd.c4_ BK372.out; obtain ⟨hfz111_0, hfz111_1, hfz111_2, hfz111_3⟩ := Hd.f4_ BK372.out; obtain ⟨hcz112_0, hcz112_1, hcz112_2, hcz112_3⟩ := Hd.c4_ BK357.out; obtain ⟨hfz112_0, hfz112_1, hfz112_2, hfz112_3⟩ := Hd.f4_ BK357.out) | (go_at_call 13; (with_reducible refine (impl_InBox.calls t367 t368 t369 t370 t351 t352 true _ A98.out).mono ?_); rintro e w113 ⟨rfl, hb⟩; replace BK346 := Aside0.mk (Hd.kb_ BK346 hb); replace BK357 := Aside0.mk (Hd.kb_ BK357 hb); replace BK358 := Aside0.mk (Hd.kb_ BK358 hb); replace BK372 := Aside0.mk (Hd.kb_ BK372 hb); replace HB := Aside0.mk (below_step Hd.b_ hb); (try clear hb); (try clear hb2); (try clear hk); (try clear hi); obtain ⟨hcz114_0, hcz114_1, hcz114_2, hcz114_3⟩ := Hd.c4_ BK372.out; obtain ⟨hfz114_0, hfz114_1, hfz114_2, hfz114_3⟩ := Hd.f4_ BK372.out; have hnb115 := NB358_346.out; have hnc115 := NB346_358.out; obtain ⟨hcz116_0, hcz116_1, hcz116_2, hcz116_3⟩ := Hd.c4_ BK358.out; obtain ⟨hfz116_0, hfz116_1, hfz116_2, hfz116_3⟩ := Hd.f4_ BK358.out) | (go_at_call 13; (with_reducible refine (impl_InBox.calls t367 t368 t369 t370 t353 t354 true _ A100.out).mono ?_); rintro e w117 ⟨rfl, hb⟩; replace BK346 := Aside0.mk (Hd.kb_ BK346 hb); replace BK357 := Aside0.mk (Hd.kb_ BK357 hb); replace BK358 := Aside0.mk (Hd.kb_ BK358 hb); replace BK372 := Aside0.mk (Hd.kb_ BK372 hb); replace HB := Aside0.mk (below_step Hd.b_ hb); (try clear hb); (try clear hb2); (try clear hk); (try clear hi); obtain ⟨hcz118_0, hcz118_1, hcz118_2, hcz118_3⟩ := Hd.c4_ BK372.out; obtain ⟨hfz118_0, hfz118_1, hfz118_2, hfz118_3⟩ := Hd.f4_ BK372.out; obtain ⟨hcz119_0, hcz119_1, hcz119_2, hcz119_3⟩ := Hd.c4_ BK358.out; obtain ⟨hfz119_0, hfz119_1, hfz119_2, hfz119_3⟩ := Hd.f4_ BK358.out) | (go_at_call 13; (with_reducible refine (impl_InBox.calls t367 t368 t369 t370 t355 t356 t376 _ A102.out).mono ?_); rintro e w120 ⟨rfl, hb⟩; replace BK346 := Aside0.mk (Hd.kb_ BK346 hb); replace BK357 := Aside0.mk (Hd.kb_ BK357 hb); replace BK358 := Aside0.mk (Hd.kb_ BK358 hb); replace BK372 := Aside0.mk (Hd.kb_ BK372 hb); replace HB := Aside0.mk (below_step Hd.b_ hb); (try clear hb); (try clear hb2); (try clear hk); (try clear hi)))
                go_meet
                case rel => exact ⟨_, (!t376), (by first | rfl | (simp; done) | (simp [*]; done)), H', ⟨by have := HK1.out; have := HJ10.out; have := HJ37.out; first | omega | exact Nat.le_refl _⟩, ⟨by (with_reducible repeat (first | refine blk_drewN ?_ _ | refine blk_drew ?_ | refine blk_alloc ?_ _)); exact BK346.out⟩, ⟨by (with_reducible repeat (first | refine blk_drewN ?_ _ | refine blk_drew ?_ | refine blk_alloc ?_ _)); exact BK357.out⟩, ⟨by (with_reducible repeat (first | refine blk_drewN ?_ _ | refine blk_drew ?_ | refine blk_alloc ?_ _)); exact BK358.out⟩, ⟨by (with_reducible repeat (first | refine blk_drewN ?_ _ | refine blk_drew ?_ | refine blk_alloc ?_ _)); exact BK372.out⟩, ⟨Hd.b_⟩⟩
               ·
                replace c101 := Bool.eq_false_iff.mpr c101
                subst c101
                have H1 : (laws_FnBoxes.j3 kj37 l0 true) = some r := by rw [if_neg (show ¬ (false = true) by decide)] at H; exact H
                clear H
                have H := H1
                clear H1
                have H' := Aside0.mk H
                clear H
                have hnb121 := NB372_346.out
                have hnc121 := NB346_372.out
                have hnb122 := NB372_357.out
                have hnc122 := NB357_372.out
                have hnb123 := NB372_358.out
                have hnc123 := NB358_372.out
                obtain ⟨hcz124_0, hcz124_1, hcz124_2, hcz124_3⟩ := Hd.c4_ BK372.out
                obtain ⟨hfz124_0, hfz124_1, hfz124_2, hfz124_3⟩ := Hd.f4_ BK372.out
                have hnb125 := NB357_346.out
                have hnc125 := NB346_357.out
                have hnb126 := NB357_358.out
                have hnc126 := NB358_357.out
                obtain ⟨hcz127_0, hcz127_1, hcz127_2, hcz127_3⟩ := Hd.c4_ BK357.out
                obtain ⟨hfz127_0, hfz127_1, hfz127_2, hfz127_3⟩ := Hd.f4_ BK357.out
                go_wp2_with (first | (go_at_call 13; (with_reducible refine (impl_InBox.calls t367 t368 t369 t370 t349 t350 true _ A96.out).mono ?_); rintro e w128 ⟨rfl, hb⟩; replace BK346 := Aside0.mk (blk_below (g := gb346) (o := .cells #[.int .i64 t341, .int .i64 t342, .int .i64 t343, .int .i64 t344] 29 (0, 0)) (by (with_reducible repeat (first | refine blk_drewN ?_ _ | refine blk_drew ?_ | refine blk_alloc ?_ _)); refine blk_far ?_ NB346_372.out _; (with_reducible repeat (first | refine blk_drewN ?_ _ | refine blk_drew ?_ | refine blk_alloc ?_ _)); refine blk_far ?_ NB346_372.out _; (with_reducible repeat (first | refine blk_drewN ?_ _ | refine blk_drew ?_ | refine blk_alloc ?_ _)); refine blk_far ?_ NB346_372.out _; (with_reducible repeat (first | refine blk_drewN ?_ _ | refine blk_drew ?_ | refine blk_alloc ?_ _)); refine blk_far ?_ NB346_372.out _; (with_reducible repeat (first | refine blk_drewN ?_ _ | refine blk_drew ?_ | refine blk_alloc ?_ _)); exact BK346.out) hb); replace BK357 := Aside0.mk (blk_below (g := gb357) (o := .cells #[.int .i64 t349, .int .i64 t350, .int .i64 t351, .int .i64 t352] 29 (0, 0)) (by (with_reducible repeat (first | refine blk_drewN ?_ _ | refine blk_drew ?_ | refine blk_alloc ?_ _)); refine blk_far ?_ NB357_372.out _; (with_reducible repeat (first | refine blk_drewN ?_ _ | refine blk_drew ?_ | refine blk_alloc ?_ _)); refine blk_far ?_ NB357_372.out _; (with_reducible repeat (first | refine blk_drewN ?_ _ | refine blk_drew ?_ | refine blk_alloc ?_ _)); refine blk_far ?_ NB357_372.out _; (with_reducible repeat (first | refine blk_drewN ?_ _ | refine blk_drew ?_ | refine blk_alloc ?_ _)); refine blk_far ?_ NB357_372.out _; (with_reducible repeat (first | refine blk_drewN ?_ _ | refine blk_drew ?_ | refine blk_alloc ?_ _)); exact BK357.out) hb); replace BK358 := Aside0.mk (blk_below (g := gb358) (o := .cells #[.int .i64 t353, .int .i64 t354, .int .i64 t355, .int .i64 t356] 29 (0, 0)) (by (with_reducible repeat (first | refine blk_drewN ?_ _ | refine blk_drew ?_ | refine blk_alloc ?_ _)); refine blk_far ?_ NB358_372.out _; (with_reducible repeat (first | refine blk_drewN ?_ _ | refine blk_drew ?_ | refine blk_alloc ?_ _)); refine blk_far ?_ NB358_372.out _; (with_reducible repeat (first | refine blk_drewN ?_ _ | refine blk_drew ?_ | refine blk_alloc ?_ _)); refine blk_far ?_ NB358_372.out _; (with_reducible repeat (first | refine blk_drewN ?_ _ | refine blk_drew ?_ | refine blk_alloc ?_ _)); refine blk_far ?_ NB358_372.out _; (with_reducible repeat (first | refine blk_drewN ?_ _ | refine blk_drew ?_ | refine blk_alloc ?_ _)); exact BK358.out) hb); replace BK372 := Aside0.mk (blk_below (g := gb372) (o := .cells #[.int .i64 t367, .int .i64 t368, .int .i64 t369, .int .i64 t370] 29 (0, 0)) (by (with_reducible repeat (first | refine blk_drewN ?_ _ | refine blk_drew ?_ | refine blk_alloc ?_ _)); refine blk_put (cs := #[.int .i64 t367, .int .i64 t368, .int .i64 t369, .int .i64 0]) ?_ 3 _ rfl; (with_reducible repeat (first | refine blk_drewN ?_ _ | refine blk_drew ?_ | refine blk_alloc ?_ _)); refine blk_put (cs := #[.int .i64 t367, .int .i64 t368, .int .i64 0, .int .i64 0]) ?_ 2 _ rfl; (with_reducible repeat (first | refine blk_drewN ?_ _ | refine blk_drew ?_ | refine blk_alloc ?_ _)); refine blk_put (cs := #[.int .i64 t367, .int .i64 0, .int .i64 0, .int .i64 0]) ?_ 1 _ rfl; (with_reducible repeat (first | refine blk_drewN ?_ _ | refine blk_drew ?_ | refine blk_alloc ?_ _)); refine blk_put (cs := #[.int .i64 0, .int .i64 0, .int .i64 0, .int .i64 0]) ?_ 0 _ rfl; (with_reducible repeat (first | refine blk_drewN ?_ _ | refine blk_drew ?_ | refine blk_alloc ?_ _)); exact BK372.out) hb); replace HB := Aside0.mk (below_step Hd.b_ hb); (try clear hb); (try clear hb2); (try clear hk); (try clear hi); obtain ⟨hcz129_0, hcz129_1, hcz129_2, hcz129_3⟩ := Hd.c4_ BK372.out; obtain ⟨hfz129_0, hfz129_1, hfz129_2, hfz129_3⟩ := Hd.f4_ BK372.out; obtain ⟨hcz130_0, hcz130_1, hcz130_2, hcz130_3⟩ := Hd.c4_ BK357.out; obtain ⟨hfz130_0, hfz130_1, hfz130_2, hfz130_3⟩ := Hd.f4_ BK357.out) | (go_at_call 13; (with_reducible refine (impl_InBox.calls t367 t368 t369 t370 t351 t352 true _ A98.out).mono ?_); rintro e w131 ⟨rfl, hb⟩; replace BK346 := Aside0.mk (Hd.kb_ BK346 hb); replace BK357 := Aside0.mk (Hd.kb_ BK357 hb); replace BK358 := Aside0.mk (Hd.kb_ BK358 hb); replace BK372 := Aside0.mk (Hd.kb_ BK372 hb); replace HB := Aside0.mk (below_step Hd.b_ hb); (try clear hb); (try clear hb2); (try clear hk); (try clear hi); obtain ⟨hcz132_0, hcz132_1, hcz132_2, hcz132_3⟩ := Hd.c4_ BK372.out; obtain ⟨hfz132_0, hfz132_1, hfz132_2, hfz132_3⟩ := Hd.f4_ BK372.out; have hnb133 := NB358_346.out; have hnc133 := NB346_358.out; obtain ⟨hcz134_0, hcz134_1, hcz134_2, hcz134_3⟩ := Hd.c4_ BK358.out; obtain ⟨hfz134_0, hfz134_1, hfz134_2, hfz134_3⟩ := Hd.f4_ BK358.out) | (go_at_call 13; (with_reducible refine (impl_InBox.calls t367 t368 t369 t370 t353 t354 false _ A100.out).mono ?_); rintro e w135 ⟨rfl, hb⟩; replace BK346 := Aside0.mk (Hd.kb_ BK346 hb); replace BK357 := Aside0.mk (Hd.kb_ BK357 hb); replace BK358 := Aside0.mk (Hd.kb_ BK358 hb); replace BK372 := Aside0.mk (Hd.kb_ BK372 hb); replace HB := Aside0.mk (below_step Hd.b_ hb); (try clear hb); (try clear hb2); (try clear hk); (try clear hi)))
                go_meet
                case rel => exact ⟨_, (true), (by first | rfl | (simp; done) | (simp [*]; done)), H', ⟨by have := HK1.out; have := HJ10.out; have := HJ37.out; first | omega | exact Nat.le_refl _⟩, ⟨by (with_reducible repeat (first | refine blk_drewN ?_ _ | refine blk_drew ?_ | refine blk_alloc ?_ _)); exact BK346.out⟩, ⟨by (with_reducible repeat (first | refine blk_drewN ?_ _ | refine blk_drew ?_ | refine blk_alloc ?_ _)); exact BK357.out⟩, ⟨by (with_reducible repeat (first | refine blk_drewN ?_ _ | refine blk_drew ?_ | refine blk_alloc ?_ _)); exact BK358.out⟩, ⟨by (with_reducible repeat (first | refine blk_drewN ?_ _ | refine blk_drew ?_ | refine blk_alloc ?_ _)); exact BK372.out⟩, ⟨Hd.b_⟩⟩
              ·
               replace c99 := Bool.eq_false_iff.mpr c99
               subst c99
               have H1 : (laws_FnBoxes.j3 kj37 l0 true) = some r := by rw [if_neg (show ¬ (false = true) by decide)] at H; exact H
               clear H
               have H := H1
               clear H1
               have H' := Aside0.mk H
               clear H
               have hnb136 := NB372_346.out
               have hnc136 := NB346_372.out
               have hnb137 := NB372_357.out
               have hnc137 := NB357_372.out
               have hnb138 := NB372_358.out
               have hnc138 := NB358_372.out
               obtain ⟨hcz139_0, hcz139_1, hcz139_2, hcz139_3⟩ := Hd.c4_ BK372.out
               obtain ⟨hfz139_0, hfz139_1, hfz139_2, hfz139_3⟩ := Hd.f4_ BK372.out
               have hnb140 := NB357_346.out
               have hnc140 := NB346_357.out
               have hnb141 := NB357_358.out
               have hnc141 := NB358_357.out
               obtain ⟨hcz142_0, hcz142_1, hcz142_2, hcz142_3⟩ := Hd.c4_ BK357.out
               obtain ⟨hfz142_0, hfz142_1, hfz142_2, hfz142_3⟩ := Hd.f4_ BK357.out
               go_wp2_with (first | (go_at_call 13; (with_reducible refine (impl_InBox.calls t367 t368 t369 t370 t349 t350 true _ A96.out).mono ?_); rintro e w143 ⟨rfl, hb⟩; replace BK346 := Aside0.mk (blk_below (g := gb346) (o := .cells #[.int .i64 t341, .int .i64 t342, .int .i64 t343, .int .i64 t344] 29 (0, 0)) (by (with_reducible repeat (first | refine blk_drewN ?_ _ | refine blk_drew ?_ | refine blk_alloc ?_ _)); refine blk_far ?_ NB346_372.out _; (with_reducible repeat (first | refine blk_drewN ?_ _ | refine blk_drew ?_ | refine blk_alloc ?_ _)); refine blk_far ?_ NB346_372.out _; (with_reducible repeat (first | refine blk_drewN ?_ _ | refine blk_drew ?_ | refine blk_alloc ?_ _)); refine blk_far ?_ NB346_372.out _; (with_reducible repeat (first | refine blk_drewN ?_ _ | refine blk_drew ?_ | refine blk_alloc ?_ _)); refine blk_far ?_ NB346_372.out _; (with_reducible repeat (first | refine blk_drewN ?_ _ | refine blk_drew ?_ | refine blk_alloc ?_ _)); exact BK346.out) hb); replace BK357 := Aside0.mk (blk_below (g := gb357) (o := .cells #[.int .i64 t349, .int .i64 t350, .int .i64 t351, .int .i64 t352] 29 (0, 0)) (by (with_reducible repeat (first | refine blk_drewN ?_ _ | refine blk_drew ?_ | refine blk_alloc ?_ _)); refine blk_far ?_ NB357_372.out _; (with_reducible repeat (first | refine blk_drewN ?_ _ | refine blk_drew ?_ | refine blk_alloc ?_ _)); refine blk_far ?_ NB357_372.out _; (with_reducible repeat (first | refine blk_drewN ?_ _ | refine blk_drew ?_ | refine blk_alloc ?_ _)); refine blk_far ?_ NB357_372.out _; (with_reducible repeat (first | refine blk_drewN ?_ _ | refine blk_drew ?_ | refine blk_alloc ?_ _)); refine blk_far ?_ NB357_372.out _; (with_reducible repeat (first | refine blk_drewN ?_ _ | refine blk_drew ?_ | refine blk_alloc ?_ _)); exact BK357.out) hb); replace BK358 := Aside0.mk (blk_below (g := gb358) (o := .cells #[.int .i64 t353, .int .i64 t354, .int .i64 t355, .int .i64 t356] 29 (0, 0)) (by (with_reducible repeat (first | refine blk_drewN ?_ _ | refine blk_drew ?_ | refine blk_alloc ?_ _)); refine blk_far ?_ NB358_372.out _; (with_reducible repeat (first | refine blk_drewN ?_ _ | refine blk_drew ?_ | refine blk_alloc ?_ _)); refine blk_far ?_ NB358_372.out _; (with_reducible repeat (first | refine blk_drewN ?_ _ | refine blk_drew ?_ | refine blk_alloc ?_ _)); refine blk_far ?_ NB358_372.out _; (with_reducible repeat (first | refine blk_drewN ?_ _ | refine blk_drew ?_ | refine blk_alloc ?_ _)); refine blk_far ?_ NB358_372.out _; (with_reducible repeat (first | refine blk_drewN ?_ _ | refine blk_drew ?_ | refine blk_alloc ?_ _)); exact BK358.out) hb); replace BK372 := Aside0.mk (blk_below (g := gb372) (o := .cells #[.int .i64 t367, .int .i64 t368, .int .i64 t369, .int .i64 t370] 29 (0, 0)) (by (with_reducible repeat (first | refine blk_drewN ?_ _ | refine blk_drew ?_ | refine blk_alloc ?_ _)); refine blk_put (cs := #[.int .i64 t367, .int .i64 t368, .int .i64 t369, .int .i64 0]) ?_ 3 _ rfl; (with_reducible repeat (first | refine blk_drewN ?_ _ | refine blk_drew ?_ | refine blk_alloc ?_ _)); refine blk_put (cs := #[.int .i64 t367, .int .i64 t368, .int .i64 0, .int .i64 0]) ?_ 2 _ rfl; (with_reducible repeat (first | refine blk_drewN ?_ _ | refine blk_drew ?_ | refine blk_alloc ?_ _)); refine blk_put (cs := #[.int .i64 t367, .int .i64 0, .int .i64 0, .int .i64 0]) ?_ 1 _ rfl; (with_reducible repeat (first | refine blk_drewN ?_ _ | refine blk_drew ?_ | refine blk_alloc ?_ _)); refine blk_put (cs := #[.int .i64 0, .int .i64 0, .int .i64 0, .int .i64 0]) ?_ 0 _ rfl; (with_reducible repeat (first | refine blk_drewN ?_ _ | refine blk_drew ?_ | refine blk_alloc ?_ _)); exact BK372.out) hb); replace HB := Aside0.mk (below_step Hd.b_ hb); (try clear hb); (try clear hb2); (try clear hk); (try clear hi); obtain ⟨hcz144_0, hcz144_1, hcz144_2, hcz144_3⟩ := Hd.c4_ BK372.out; obtain ⟨hfz144_0, hfz144_1, hfz144_2, hfz144_3⟩ := Hd.f4_ BK372.out; obtain ⟨hcz145_0, hcz145_1, hcz145_2, hcz145_3⟩ := Hd.c4_ BK357.out; obtain ⟨hfz145_0, hfz145_1, hfz145_2, hfz145_3⟩ := Hd.f4_ BK357.out) | (go_at_call 13; (with_reducible refine (impl_InBox.calls t367 t368 t369 t370 t351 t352 false _ A98.out).mono ?_); rintro e w146 ⟨rfl, hb⟩; replace BK346 := Aside0.mk (Hd.kb_ BK346 hb); replace BK357 := Aside0.mk (Hd.kb_ BK357 hb); replace BK358 := Aside0.mk (Hd.kb_ BK358 hb); replace BK372 := Aside0.mk (Hd.kb_ BK372 hb); replace HB := Aside0.mk (below_step Hd.b_ hb); (try clear hb); (try clear hb2); (try clear hk); (try clear hi)))
               go_meet
               case rel => exact ⟨_, (true), (by first | rfl | (simp; done) | (simp [*]; done)), H', ⟨by have := HK1.out; have := HJ10.out; have := HJ37.out; first | omega | exact Nat.le_refl _⟩, ⟨by (with_reducible repeat (first | refine blk_drewN ?_ _ | refine blk_drew ?_ | refine blk_alloc ?_ _)); exact BK346.out⟩, ⟨by (with_reducible repeat (first | refine blk_drewN ?_ _ | refine blk_drew ?_ | refine blk_alloc ?_ _)); exact BK357.out⟩, ⟨by (with_reducible repeat (first | refine blk_drewN ?_ _ | refine blk_drew ?_ | refine blk_alloc ?_ _)); exact BK358.out⟩, ⟨by (with_reducible repeat (first | refine blk_drewN ?_ _ | refine blk_drew ?_ | refine blk_alloc ?_ _)); exact BK372.out⟩, ⟨Hd.b_⟩⟩
             ·
              replace c97 := Bool.eq_false_iff.mpr c97
              subst c97
              have H1 : (laws_FnBoxes.j3 kj37 l0 true) = some r := by rw [if_neg (show ¬ (false = true) by decide)] at H; exact H
              clear H
              have H := H1
              clear H1
              have H' := Aside0.mk H
              clear H
              have hnb147 := NB372_346.out
              have hnc147 := NB346_372.out
              have hnb148 := NB372_357.out
              have hnc148 := NB357_372.out
              have hnb149 := NB372_358.out
              have hnc149 := NB358_372.out
              obtain ⟨hcz150_0, hcz150_1, hcz150_2, hcz150_3⟩ := Hd.c4_ BK372.out
              obtain ⟨hfz150_0, hfz150_1, hfz150_2, hfz150_3⟩ := Hd.f4_ BK372.out
              have hnb151 := NB357_346.out
              have hnc151 := NB346_357.out
              have hnb152 := NB357_358.out
              have hnc152 := NB358_357.out
              obtain ⟨hcz153_0, hcz153_1, hcz153_2, hcz153_3⟩ := Hd.c4_ BK357.out
              obtain ⟨hfz153_0, hfz153_1, hfz153_2, hfz153_3⟩ := Hd.f4_ BK357.out
              go_wp2_with (first | (go_at_call 13; (with_reducible refine (impl_InBox.calls t367 t368 t369 t370 t349 t350 false _ A96.out).mono ?_); rintro e w154 ⟨rfl, hb⟩; replace BK346 := Aside0.mk (blk_below (g := gb346) (o := .cells #[.int .i64 t341, .int .i64 t342, .int .i64 t343, .int .i64 t344] 29 (0, 0)) (by (with_reducible repeat (first | refine blk_drewN ?_ _ | refine blk_drew ?_ | refine blk_alloc ?_ _)); refine blk_far ?_ NB346_372.out _; (with_reducible repeat (first | refine blk_drewN ?_ _ | refine blk_drew ?_ | refine blk_alloc ?_ _)); refine blk_far ?_ NB346_372.out _; (with_reducible repeat (first | refine blk_drewN ?_ _ | refine blk_drew ?_ | refine blk_alloc ?_ _)); refine blk_far ?_ NB346_372.out _; (with_reducible repeat (first | refine blk_drewN ?_ _ | refine blk_drew ?_ | refine blk_alloc ?_ _)); refine blk_far ?_ NB346_372.out _; (with_reducible repeat (first | refine blk_drewN ?_ _ | refine blk_drew ?_ | refine blk_alloc ?_ _)); exact BK346.out) hb); replace BK357 := Aside0.mk (blk_below (g := gb357) (o := .cells #[.int .i64 t349, .int .i64 t350, .int .i64 t351, .int .i64 t352] 29 (0, 0)) (by (with_reducible repeat (first | refine blk_drewN ?_ _ | refine blk_drew ?_ | refine blk_alloc ?_ _)); refine blk_far ?_ NB357_372.out _; (with_reducible repeat (first | refine blk_drewN ?_ _ | refine blk_drew ?_ | refine blk_alloc ?_ _)); refine blk_far ?_ NB357_372.out _; (with_reducible repeat (first | refine blk_drewN ?_ _ | refine blk_drew ?_ | refine blk_alloc ?_ _)); refine blk_far ?_ NB357_372.out _; (with_reducible repeat (first | refine blk_drewN ?_ _ | refine blk_drew ?_ | refine blk_alloc ?_ _)); refine blk_far ?_ NB357_372.out _; (with_reducible repeat (first | refine blk_drewN ?_ _ | refine blk_drew ?_ | refine blk_alloc ?_ _)); exact BK357.out) hb); replace BK358 := Aside0.mk (blk_below (g := gb358) (o := .cells #[.int .i64 t353, .int .i64 t354, .int .i64 t355, .int .i64 t356] 29 (0, 0)) (by (with_reducible repeat (first | refine blk_drewN ?_ _ | refine blk_drew ?_ | refine blk_alloc ?_ _)); refine blk_far ?_ NB358_372.out _; (with_reducible repeat (first | refine blk_drewN ?_ _ | refine blk_drew ?_ | refine blk_alloc ?_ _)); refine blk_far ?_ NB358_372.out _; (with_reducible repeat (first | refine blk_drewN ?_ _ | refine blk_drew ?_ | refine blk_alloc ?_ _)); refine blk_far ?_ NB358_372.out _; (with_reducible repeat (first | refine blk_drewN ?_ _ | refine blk_drew ?_ | refine blk_alloc ?_ _)); refine blk_far ?_ NB358_372.out _; (with_reducible repeat (first | refine blk_drewN ?_ _ | refine blk_drew ?_ | refine blk_alloc ?_ _)); exact BK358.out) hb); replace BK372 := Aside0.mk (blk_below (g := gb372) (o := .cells #[.int .i64 t367, .int .i64 t368, .int .i64 t369, .int .i64 t370] 29 (0, 0)) (by (with_reducible repeat (first | refine blk_drewN ?_ _ | refine blk_drew ?_ | refine blk_alloc ?_ _)); refine blk_put (cs := #[.int .i64 t367, .int .i64 t368, .int .i64 t369, .int .i64 0]) ?_ 3 _ rfl; (with_reducible repeat (first | refine blk_drewN ?_ _ | refine blk_drew ?_ | refine blk_alloc ?_ _)); refine blk_put (cs := #[.int .i64 t367, .int .i64 t368, .int .i64 0, .int .i64 0]) ?_ 2 _ rfl; (with_reducible repeat (first | refine blk_drewN ?_ _ | refine blk_drew ?_ | refine blk_alloc ?_ _)); refine blk_put (cs := #[.int .i64 t367, .int .i64 0, .int .i64 0, .int .i64 0]) ?_ 1 _ rfl; (with_reducible repeat (first | refine blk_drewN ?_ _ | refine blk_drew ?_ | refine blk_alloc ?_ _)); refine blk_put (cs := #[.int .i64 0, .int .i64 0, .int .i64 0, .int .i64 0]) ?_ 0 _ rfl; (with_reducible repeat (first | refine blk_drewN ?_ _ | refine blk_drew ?_ | refine blk_alloc ?_ _)); exact BK372.out) hb); replace HB := Aside0.mk (below_step Hd.b_ hb); (try clear hb); (try clear hb2); (try clear hk); (try clear hi)))
              go_meet
              case rel => exact ⟨_, (true), (by first | rfl | (simp; done) | (simp [*]; done)), H', ⟨by have := HK1.out; have := HJ10.out; have := HJ37.out; first | omega | exact Nat.le_refl _⟩, ⟨by (with_reducible repeat (first | refine blk_drewN ?_ _ | refine blk_drew ?_ | refine blk_alloc ?_ _)); exact BK346.out⟩, ⟨by (with_reducible repeat (first | refine blk_drewN ?_ _ | refine blk_drew ?_ | refine blk_alloc ?_ _)); exact BK357.out⟩, ⟨by (with_reducible repeat (first | refine blk_drewN ?_ _ | refine blk_drew ?_ | refine blk_alloc ?_ _)); exact BK358.out⟩, ⟨by (with_reducible repeat (first | refine blk_drewN ?_ _ | refine blk_drew ?_ | refine blk_alloc ?_ _)); exact BK372.out⟩, ⟨Hd.b_⟩⟩
            ·
             replace c95 := Bool.eq_false_iff.mpr c95
             subst c95
             have H1 : (laws_FnBoxes.j3 kj37 l0 false) = some r := by rw [if_neg (show ¬ (false = true) by decide)] at H; exact H
             clear H
             have H := H1
             clear H1
             have H' := Aside0.mk H
             clear H
             go_wp2
             go_meet
             case rel => exact ⟨_, (false), (by first | rfl | (simp; done) | (simp [*]; done)), H', ⟨by have := HK1.out; have := HJ10.out; have := HJ37.out; first | omega | exact Nat.le_refl _⟩, ⟨by (with_reducible repeat (first | refine blk_drewN ?_ _ | refine blk_drew ?_ | refine blk_alloc ?_ _)); refine blk_far ?_ NB346_372.out _; (with_reducible repeat (first | refine blk_drewN ?_ _ | refine blk_drew ?_ | refine blk_alloc ?_ _)); refine blk_far ?_ NB346_372.out _; (with_reducible repeat (first | refine blk_drewN ?_ _ | refine blk_drew ?_ | refine blk_alloc ?_ _)); refine blk_far ?_ NB346_372.out _; (with_reducible repeat (first | refine blk_drewN ?_ _ | refine blk_drew ?_ | refine blk_alloc ?_ _)); refine blk_far ?_ NB346_372.out _; (with_reducible repeat (first | refine blk_drewN ?_ _ | refine blk_drew ?_ | refine blk_alloc ?_ _)); exact BK346.out⟩, ⟨by (with_reducible repeat (first | refine blk_drewN ?_ _ | refine blk_drew ?_ | refine blk_alloc ?_ _)); refine blk_far ?_ NB357_372.out _; (with_reducible repeat (first | refine blk_drewN ?_ _ | refine blk_drew ?_ | refine blk_alloc ?_ _)); refine blk_far ?_ NB357_372.out _; (with_reducible repeat (first | refine blk_drewN ?_ _ | refine blk_drew ?_ | refine blk_alloc ?_ _)); refine blk_far ?_ NB357_372.out _; (with_reducible repeat (first | refine blk_drewN ?_ _ | refine blk_drew ?_ | refine blk_alloc ?_ _)); refine blk_far ?_ NB357_372.out _; (with_reducible repeat (first | refine blk_drewN ?_ _ | refine blk_drew ?_ | refine blk_alloc ?_ _)); exact BK357.out⟩, ⟨by (with_reducible repeat (first | refine blk_drewN ?_ _ | refine blk_drew ?_ | refine blk_alloc ?_ _)); refine blk_far ?_ NB358_372.out _; (with_reducible repeat (first | refine blk_drewN ?_ _ | refine blk_drew ?_ | refine blk_alloc ?_ _)); refine blk_far ?_ NB358_372.out _; (with_reducible repeat (first | refine blk_drewN ?_ _ | refine blk_drew ?_ | refine blk_alloc ?_ _)); refine blk_far ?_ NB358_372.out _; (with_reducible repeat (first | refine blk_drewN ?_ _ | refine blk_drew ?_ | refine blk_alloc ?_ _)); refine blk_far ?_ NB358_372.out _; (with_reducible repeat (first | refine blk_drewN ?_ _ | refine blk_drew ?_ | refine blk_alloc ?_ _)); exact BK358.out⟩, ⟨by (with_reducible repeat (first | refine blk_drewN ?_ _ | refine blk_drew ?_ | refine blk_alloc ?_ _)); refine blk_put (cs := #[.int .i64 t367, .int .i64 t368, .int .i64 t369, .int .i64 0]) ?_ 3 _ rfl; (with_reducible repeat (first | refine blk_drewN ?_ _ | refine blk_drew ?_ | refine blk_alloc ?_ _)); refine blk_put (cs := #[.int .i64 t367, .int .i64 t368, .int .i64 0, .int .i64 0]) ?_ 2 _ rfl; (with_reducible repeat (first | refine blk_drewN ?_ _ | refine blk_drew ?_ | refine blk_alloc ?_ _)); refine blk_put (cs := #[.int .i64 t367, .int .i64 0, .int .i64 0, .int .i64 0]) ?_ 1 _ rfl; (with_reducible repeat (first | refine blk_drewN ?_ _ | refine blk_drew ?_ | refine blk_alloc ?_ _)); refine blk_put (cs := #[.int .i64 0, .int .i64 0, .int .i64 0, .int .i64 0]) ?_ 0 _ rfl; (with_reducible repeat (first | refine blk_drewN ?_ _ | refine blk_drew ?_ | refine blk_alloc ?_ _)); exact BK372.out⟩, ⟨Hd.b_⟩⟩
           case rest =>
            clear HC83
            try clear c1
            try clear p2
            try clear c6
            try clear c8
            try clear c9
            try clear c10
            try clear c11
            try clear c12
            try clear c13
            try clear c14
            try clear c15
            try clear c17
            try clear c18
            try clear c66
            try clear c81
            try clear c84
            try clear c85
            try clear c87
            try clear c91
            try clear c92
            try clear c93
            try clear c95
            try clear c97
            try clear c99
            try clear c101
            try clear c103
            try clear c104
            try clear c105
            try clear c107
            try clear c108
            try clear c115
            try clear c121
            try clear c122
            try clear c123
            try clear c125
            try clear c126
            try clear c133
            try clear c136
            try clear c137
            try clear c138
            try clear c140
            try clear c141
            try clear c147
            try clear c148
            try clear c149
            try clear c151
            try clear c152
            try clear hcz106_0
            try clear hcz106_1
            try clear hcz106_2
            try clear hcz106_3
            try clear hcz109_0
            try clear hcz109_1
            try clear hcz109_2
            try clear hcz109_3
            try clear hcz111_0
            try clear hcz111_1
            try clear hcz111_2
            try clear hcz111_3
            try clear hcz112_0
            try clear hcz112_1
            try clear hcz112_2
            try clear hcz112_3
            try clear hcz114_0
            try clear hcz114_1
            try clear hcz114_2
            try clear hcz114_3
            try clear hcz116_0
            try clear hcz116_1
            try clear hcz116_2
            try clear hcz116_3
            try clear hcz118_0
            try clear hcz118_1
            try clear hcz118_2
            try clear hcz118_3
            try clear hcz119_0
            try clear hcz119_1
            try clear hcz119_2
            try clear hcz119_3
            try clear hcz124_0
            try clear hcz124_1
            try clear hcz124_2
            try clear hcz124_3
            try clear hcz127_0
            try clear hcz127_1
            try clear hcz127_2
            try clear hcz127_3
            try clear hcz129_0
            try clear hcz129_1
            try clear hcz129_2
            try clear hcz129_3
            try clear hcz130_0
            try clear hcz130_1
            try clear hcz130_2
            try clear hcz130_3
            try clear hcz132_0
            try clear hcz132_1
            try clear hcz132_2
            try clear hcz132_3
            try clear hcz134_0
            try clear hcz134_1
            try clear hcz134_2
            try clear hcz134_3
            try clear hcz139_0
            try clear hcz139_1
            try clear hcz139_2
            try clear hcz139_3
            try clear hcz142_0
            try clear hcz142_1
            try clear hcz142_2
            try clear hcz142_3
            try clear hcz144_0
            try clear hcz144_1
            try clear hcz144_2
            try clear hcz144_3
            try clear hcz145_0
            try clear hcz145_1
            try clear hcz145_2
            try clear hcz145_3
            try clear hcz150_0
            try clear hcz150_1
            try clear hcz150_2
            try clear hcz150_3
            try clear hcz153_0
            try clear hcz153_1
            try clear hcz153_2
            try clear hcz153_3
            try clear hcz86_0
            try clear hcz86_1
            try clear hcz86_2
            try clear hcz86_3
            try clear hcz88_0
            try clear hcz88_1
            try clear hcz88_2
            try clear hcz88_3
            try clear hcz94_0
            try clear hcz94_1
            try clear hcz94_2
            try clear hcz94_3
            try clear hfz106_0
            try clear hfz106_1
            try clear hfz106_2
            try clear hfz106_3
            try clear hfz109_0
            try clear hfz109_1
            try clear hfz109_2
            try clear hfz109_3
            try clear hfz111_0
            try clear hfz111_1
            try clear hfz111_2
            try clear hfz111_3
            try clear hfz112_0
            try clear hfz112_1
            try clear hfz112_2
            try clear hfz112_3
            try clear hfz114_0
            try clear hfz114_1
            try clear hfz114_2
            try clear hfz114_3
            try clear hfz116_0
            try clear hfz116_1
            try clear hfz116_2
            try clear hfz116_3
            try clear hfz118_0
            try clear hfz118_1
            try clear hfz118_2
            try clear hfz118_3
            try clear hfz119_0
            try clear hfz119_1
            try clear hfz119_2
            try clear hfz119_3
            try clear hfz124_0
            try clear hfz124_1
            try clear hfz124_2
            try clear hfz124_3
            try clear hfz127_0
            try clear hfz127_1
            try clear hfz127_2
            try clear hfz127_3
            try clear hfz129_0
            try clear hfz129_1
            try clear hfz129_2
            try clear hfz129_3
            try clear hfz130_0
            try clear hfz130_1
            try clear hfz130_2
            try clear hfz130_3
            try clear hfz132_0
            try clear hfz132_1
            try clear hfz132_2
            try clear hfz132_3
            try clear hfz134_0
            try clear hfz134_1
            try clear hfz134_2
            try clear hfz134_3
            try clear hfz139_0
            try clear hfz139_1
            try clear hfz139_2
            try clear hfz139_3
            try clear hfz142_0
            try clear hfz142_1
            try clear hfz142_2
            try clear hfz142_3
            try clear hfz144_0
            try clear hfz144_1
            try clear hfz144_2
            try clear hfz144_3
            try clear hfz145_0
            try clear hfz145_1
            try clear hfz145_2
            try clear hfz145_3
            try clear hfz150_0
            try clear hfz150_1
            try clear hfz150_2
            try clear hfz150_3
            try clear hfz153_0
            try clear hfz153_1
            try clear hfz153_2
            try clear hfz153_3
            try clear hfz86_0
            try clear hfz86_1
            try clear hfz86_2
            try clear hfz86_3
            try clear hfz88_0
            try clear hfz88_1
            try clear hfz88_2
            try clear hfz88_3
            try clear hfz94_0
            try clear hfz94_1
            try clear hfz94_2
            try clear hfz94_3
            try clear p2
            obtain ⟨kq, x113_82, rfl, HA, HJ82, BK346, BK357, BK358, BK372, HB⟩ := hcut
            cases kq with
            | zero => exact absurd HA.out (by simp [laws_FnBoxes.j3])
            | succ kj82 =>
             have H := HA.out
             clear HA
             simp only [laws_FnBoxes.j3] at H
             by_cases c155 : x113_82 = true
             ·
              subst c155
              have H1 : (some false) = some r := by rw [if_pos rfl] at H; exact H
              clear H
              have H := H1
              clear H1
              obtain rfl := Option.some.inj H
              go_wp2
              go_ret
              exact ⟨Hd.e_, Hd.b_⟩
             ·
              replace c155 := Bool.eq_false_iff.mpr c155
              subst c155
              have H1 : ((spec_DrawGrowBox.f kj82 l0).bind fun bt377 => ((impl_GrowBox.f bt377.1 bt377.2.1 bt377.2.2.1 bt377.2.2.2.1 bt377.2.2.2.2).bind fun bt383 => (if bt383.2.2.2.2 = true then ((impl_IsBox.f bt383.1 bt383.2.1 bt383.2.2.1 bt383.2.2.2.1).bind fun t389 => (if t389 = true then ((impl_InBox.f bt383.1 bt383.2.1 bt383.2.2.1 bt383.2.2.2.1 bt377.1 bt377.2.1).bind fun t390 => (if t390 = true then ((impl_InBox.f bt383.1 bt383.2.1 bt383.2.2.1 bt383.2.2.2.1 bt377.2.2.1 bt377.2.2.2.1).bind fun t391 => (some t391)) else (some false))) else (some false))) else (some true)))) = some r := by rw [if_neg (show ¬ (false = true) by decide)] at H; exact H
              clear H
              have H := H1
              clear H1
              replace H := Option.bind_eq_some_iff.mp H
              obtain ⟨⟨t377, t378, t379, t380, t381⟩, A1560, H⟩ := H
              replace H : ((impl_GrowBox.f t377 t378 t379 t380 t381).bind fun bt383 => (if bt383.2.2.2.2 = true then ((impl_IsBox.f bt383.1 bt383.2.1 bt383.2.2.1 bt383.2.2.2.1).bind fun t389 => (if t389 = true then ((impl_InBox.f bt383.1 bt383.2.1 bt383.2.2.1 bt383.2.2.2.1 t377 t378).bind fun t390 => (if t390 = true then ((impl_InBox.f bt383.1 bt383.2.1 bt383.2.2.1 bt383.2.2.2.1 t379 t380).bind fun t391 => (some t391)) else (some false))) else (some false))) else (some true))) = some r := H
              have A156 := Aside0.mk A1560
              clear A1560
              replace H := Option.bind_eq_some_iff.mp H
              obtain ⟨⟨t383, t384, t385, t386, t387⟩, A1570, H⟩ := H
              replace H : (if t387 = true then ((impl_IsBox.f t383 t384 t385 t386).bind fun t389 => (if t389 = true then ((impl_InBox.f t383 t384 t385 t386 t377 t378).bind fun t390 => (if t390 = true then ((impl_InBox.f t383 t384 t385 t386 t379 t380).bind fun t391 => (some t391)) else (some false))) else (some false))) else (some true)) = some r := H
              have A157 := Aside0.mk A1570
              clear A1570
              by_cases c158 : t387 = true
              ·
               subst c158
               have H1 : ((impl_IsBox.f t383 t384 t385 t386).bind fun t389 => (if t389 = true then ((impl_InBox.f t383 t384 t385 t386 t377 t378).bind fun t390 => (if t390 = true then ((impl_InBox.f t383 t384 t385 t386 t379 t380).bind fun t391 => (some t391)) else (some false))) else (some false))) = some r := by rw [if_pos rfl] at H; exact H
               clear H
               have H := H1
               clear H1
               replace H := Option.bind_eq_some_iff.mp H
               obtain ⟨t389, A1590, H⟩ := H
               replace H : (if t389 = true then ((impl_InBox.f t383 t384 t385 t386 t377 t378).bind fun t390 => (if t390 = true then ((impl_InBox.f t383 t384 t385 t386 t379 t380).bind fun t391 => (some t391)) else (some false))) else (some false)) = some r := H
               have A159 := Aside0.mk A1590
               clear A1590
               by_cases c160 : t389 = true
               ·
                subst c160
                have H1 : ((impl_InBox.f t383 t384 t385 t386 t377 t378).bind fun t390 => (if t390 = true then ((impl_InBox.f t383 t384 t385 t386 t379 t380).bind fun t391 => (some t391)) else (some false))) = some r := by rw [if_pos rfl] at H; exact H
                clear H
                have H := H1
                clear H1
                replace H := Option.bind_eq_some_iff.mp H
                obtain ⟨t390, A1610, H⟩ := H
                replace H : (if t390 = true then ((impl_InBox.f t383 t384 t385 t386 t379 t380).bind fun t391 => (some t391)) else (some false)) = some r := H
                have A161 := Aside0.mk A1610
                clear A1610
                by_cases c162 : t390 = true
                ·
                 subst c162
                 have H1 : ((impl_InBox.f t383 t384 t385 t386 t379 t380).bind fun t391 => (some t391)) = some r := by rw [if_pos rfl] at H; exact H
                 clear H
                 have H := H1
                 clear H1
                 replace H := Option.bind_eq_some_iff.mp H
                 obtain ⟨t391, A1630, H⟩ := H
                 replace H : (some t391) = some r := H
                 have A163 := Aside0.mk A1630
                 clear A1630
                 obtain rfl := Option.some.inj H
                 go_wp2_with (first | ((with_reducible refine gate_callee (f := 19) rfl ?_); refine goesL_ (some 116) rfl rfl Try.func19 (by kernel_rfl) rfl #[.slice A0 l0.length c0] rfl Hd.m_ ?_; (with_reducible refine (spec_DrawGrowBox.calls kj82 _ _ l0 t377 t378 t379 t380 t381 _ ?side1 ?side2 A156.out).mono ?_); (case side1 => repeat (first | exact (Kd.C_below HR0.out HB.out) | (with_reducible refine Kd.C_alloc ?_ _) | (with_reducible refine Kd.C_drewN ?_ _) | (with_reducible refine Kd.C_drew ?_))); (case side2 => exact HC0.out); rintro e w164 ⟨rfl, hb⟩; refine ⟨_, rfl, ?_⟩; replace BK346 := Aside0.mk (Hd.kb_ BK346 hb); replace BK357 := Aside0.mk (Hd.kb_ BK357 hb); replace BK358 := Aside0.mk (Hd.kb_ BK358 hb); replace BK372 := Aside0.mk (Hd.kb_ BK372 hb); replace HB := Aside0.mk (below_step Hd.b_ hb); (try clear hb); (try clear hb2); (try clear hk); (try clear hi)) | ((with_reducible refine gate_dst (N := 11) rfl ?_); refine Hd.box_ 11 (#[.int .i64 0, .int .i64 0, .int .i64 0, .int .i64 0]) 29 ?_; intro gb382 hg w165 hbox hb; have BK382 := Aside0.mk (hbox); have GW382 := Aside0.mk ((Hd.g_ hg Hd.b_ : w.heap.size ≤ gb382)); have GE382 := Aside0.mk ((Hd.g_ hg Hd.b_ : w.heap.size ≤ gb382)); replace HB := Aside0.mk (below_step Hd.b_ hb); have NB346_382 := Aside0.mk ((Hd.lt_ BK346 hg)); have NB382_346 := Aside0.mk ((Hd.gt_ BK346 hg)); replace BK346 := Aside0.mk (Hd.kb_ BK346 hb); have NB357_382 := Aside0.mk ((Hd.lt_ BK357 hg)); have NB382_357 := Aside0.mk ((Hd.gt_ BK357 hg)); replace BK357 := Aside0.mk (Hd.kb_ BK357 hb); have NB358_382 := Aside0.mk ((Hd.lt_ BK358 hg)); have NB382_358 := Aside0.mk ((Hd.gt_ BK358 hg)); replace BK358 := Aside0.mk (Hd.kb_ BK358 hb); have NB372_382 := Aside0.mk ((Hd.lt_ BK372 hg)); have NB382_372 := Aside0.mk ((Hd.gt_ BK372 hg)); replace BK372 := Aside0.mk (Hd.kb_ BK372 hb); clear hb hbox hg; have hnb166 := NB382_346.out; have hnc166 := NB346_382.out; have hnb167 := NB382_357.out; have hnc167 := NB357_382.out; have hnb168 := NB382_358.out; have hnc168 := NB358_382.out; have hnb169 := NB382_372.out; have hnc169 := NB372_382.out; obtain ⟨hcz170_0, hcz170_1, hcz170_2, hcz170_3⟩ := Hd.c4_ BK382.out; obtain ⟨hfz170_0, hfz170_1, hfz170_2, hfz170_3⟩ := Hd.f4_ BK382.out) | ((with_reducible refine gate_callee (f := 20) rfl ?_); refine goesL_ (some 122) rfl rfl Try.func20 (by kernel_rfl) rfl #[.agg #[.int .i64 t377, .int .i64 t378, .int .i64 t379, .int .i64 t380], .int .i64 t381] rfl Hd.m_ ?_; (with_reducible refine (impl_GrowBox.calls t377 t378 t379 t380 t381 t383 t384 t385 t386 true _ A157.out).mono ?_); rintro e w171 ⟨rfl, hb⟩; refine ⟨_, rfl, ?_⟩; replace BK346 := Aside0.mk (blk_below (g := gb346) (o := .cells #[.int .i64 t341, .int .i64 t342, .int .i64 t343, .int .i64 t344] 29 (0, 0)) (by (with_reducible repeat (first | refine blk_drewN ?_ _ | refine blk_drew ?_ | refine blk_alloc ?_ _)); refine blk_far ?_ NB346_382.out _; (with_reducible repeat (first | refine blk_drewN ?_ _ | refine blk_drew ?_ | refine blk_alloc ?_ _)); refine blk_far ?_ NB346_382.out _; (with_reducible repeat (first | refine blk_drewN ?_ _ | refine blk_drew ?_ | refine blk_alloc ?_ _)); refine blk_far ?_ NB346_382.out _; (with_reducible repeat (first | refine blk_drewN ?_ _ | refine blk_drew ?_ | refine blk_alloc ?_ _)); refine blk_far ?_ NB346_382.out _; (with_reducible repeat (first | refine blk_drewN ?_ _ | refine blk_drew ?_ | refine blk_alloc ?_ _)); exact BK346.out) hb); replace BK357 := Aside0.mk (blk_below (g := gb357) (o := .cells #[.int .i64 t349, .int .i64 t350, .int .i64 t351, .int .i64 t352] 29 (0, 0)) (by (with_reducible repeat (first | refine blk_drewN ?_ _ | refine blk_drew ?_ | refine blk_alloc ?_ _)); refine blk_far ?_ NB357_382.out _; (with_reducible repeat (first | refine blk_drewN ?_ _ | refine blk_drew ?_ | refine blk_alloc ?_ _)); refine blk_far ?_ NB357_382.out _; (with_reducible repeat (first | refine blk_drewN ?_ _ | refine blk_drew ?_ | refine blk_alloc ?_ _)); refine blk_far ?_ NB357_382.out _; (with_reducible repeat (first | refine blk_drewN ?_ _ | refine blk_drew ?_ | refine blk_alloc ?_ _)); refine blk_far ?_ NB357_382.out _; (with_reducible repeat (first | refine blk_drewN ?_ _ | refine blk_drew ?_ | refine blk_alloc ?_ _)); exact BK357.out) hb); replace BK358 := Aside0.mk (blk_below (g := gb358) (o := .cells #[.int .i64 t353, .int .i64 t354, .int .i64 t355, .int .i64 t356] 29 (0, 0)) (by (with_reducible repeat (first | refine blk_drewN ?_ _ | refine blk_drew ?_ | refine blk_alloc ?_ _)); refine blk_far ?_ NB358_382.out _; (with_reducible repeat (first | refine blk_drewN ?_ _ | refine blk_drew ?_ | refine blk_alloc ?_ _)); refine blk_far ?_ NB358_382.out _; (with_reducible repeat (first | refine blk_drewN ?_ _ | refine blk_drew ?_ | refine blk_alloc ?_ _)); refine blk_far ?_ NB358_382.out _; (with_reducible repeat (first | refine blk_drewN ?_ _ | refine blk_drew ?_ | refine blk_alloc ?_ _)); refine blk_far ?_ NB358_382.out _; (with_reducible repeat (first | refine blk_drewN ?_ _ | refine blk_drew ?_ | refine blk_alloc ?_ _)); exact BK358.out) hb); replace BK372 := Aside0.mk (blk_below (g := gb372) (o := .cells #[.int .i64 t367, .int .i64 t368, .int .i64 t369, .int .i64 t370] 29 (0, 0)) (by (with_reducible repeat (first | refine blk_drewN ?_ _ | refine blk_drew ?_ | refine blk_alloc ?_ _)); refine blk_far ?_ NB372_382.out _; (with_reducible repeat (first | refine blk_drewN ?_ _ | refine blk_drew ?_ | refine blk_alloc ?_ _)); refine blk_far ?_ NB372_382.out _; (with_reducible repeat (first | refine blk_drewN ?_ _ | refine blk_drew ?_ | refine blk_alloc ?_ _)); refine blk_far ?_ NB372_382.out _; (with_reducible repeat (first | refine blk_drewN ?_ _ | refine blk_drew ?_ | refine blk_alloc ?_ _)); refine blk_far ?_ NB372_382.out _; (with_reducible repeat (first | refine blk_drewN ?_ _ | refine blk_drew ?_ | refine blk_alloc ?_ _)); exact BK372.out) hb); replace BK382 := Aside0.mk (blk_below (g := gb382) (o := .cells #[.int .i64 t377, .int .i64 t378, .int .i64 t379, .int .i64 t380] 29 (0, 0)) (by (with_reducible repeat (first | refine blk_drewN ?_ _ | refine blk_drew ?_ | refine blk_alloc ?_ _)); refine blk_put (cs := #[.int .i64 t377, .int .i64 t378, .int .i64 t379, .int .i64 0]) ?_ 3 _ rfl; (with_reducible repeat (first | refine blk_drewN ?_ _ | refine blk_drew ?_ | refine blk_alloc ?_ _)); refine blk_put (cs := #[.int .i64 t377, .int .i64 t378, .int .i64 0, .int .i64 0]) ?_ 2 _ rfl; (with_reducible repeat (first | refine blk_drewN ?_ _ | refine blk_drew ?_ | refine blk_alloc ?_ _)); refine blk_put (cs := #[.int .i64 t377, .int .i64 0, .int .i64 0, .int .i64 0]) ?_ 1 _ rfl; (with_reducible repeat (first | refine blk_drewN ?_ _ | refine blk_drew ?_ | refine blk_alloc ?_ _)); refine blk_put (cs := #[.int .i64 0, .int .i64 0, .int .i64 0, .int .i64 0]) ?_ 0 _ rfl; (with_reducible repeat (first | refine blk_drewN ?_ _ | refine blk_drew ?_ | refine blk_alloc ?_ _)); exact BK382.out) hb); replace HB := Aside0.mk (below_step Hd.b_ hb); (try clear hb); (try clear hb2); (try clear hk); (try clear hi)) | ((with_reducible refine gate_dst (N := 13) rfl ?_); refine Hd.box_ 13 (#[.int .i64 0, .int .i64 0, .int .i64 0, .int .i64 0]) 29 ?_; intro gb388 hg w172 hbox hb; have BK388 := Aside0.mk (hbox); have GW388 := Aside0.mk ((Hd.g_ hg Hd.b_ : w.heap.size ≤ gb388)); have GE388 := Aside0.mk ((Hd.g_ hg Hd.b_ : w.heap.size ≤ gb388)); replace HB := Aside0.mk (below_step Hd.b_ hb); have NB346_388 := Aside0.mk ((Hd.lt_ BK346 hg)); have NB388_346 := Aside0.mk ((Hd.gt_ BK346 hg)); replace BK346 := Aside0.mk (Hd.kb_ BK346 hb); have NB357_388 := Aside0.mk ((Hd.lt_ BK357 hg)); have NB388_357 := Aside0.mk ((Hd.gt_ BK357 hg)); replace BK357 := Aside0.mk (Hd.kb_ BK357 hb); have NB358_388 := Aside0.mk ((Hd.lt_ BK358 hg)); have NB388_358 := Aside0.mk ((Hd.gt_ BK358 hg)); replace BK358 := Aside0.mk (Hd.kb_ BK358 hb); have NB372_388 := Aside0.mk ((Hd.lt_ BK372 hg)); have NB388_372 := Aside0.mk ((Hd.gt_ BK372 hg)); replace BK372 := Aside0.mk (Hd.kb_ BK372 hb); have NB382_388 := Aside0.mk ((Hd.lt_ BK382 hg)); have NB388_382 := Aside0.mk ((Hd.gt_ BK382 hg)); replace BK382 := Aside0.mk (Hd.kb_ BK382 hb); clear hb hbox hg; have hnb173 := NB388_346.out; have hnc173 := NB346_388.out; have hnb174 := NB388_357.out; have hnc174 := NB357_388.out; have hnb175 := NB388_358.out; have hnc175 := NB358_388.out; have hnb176 := NB388_372.out; have hnc176 := NB372_388.out; have hnb177 := NB388_382.out; have hnc177 := NB382_388.out; obtain ⟨hcz178_0, hcz178_1, hcz178_2, hcz178_3⟩ := Hd.c4_ BK388.out; obtain ⟨hfz178_0, hfz178_1, hfz178_2, hfz178_3⟩ := Hd.f4_ BK388.out) | (go_at_call 21; (with_reducible refine (impl_IsBox.calls t383 t384 t385 t386 true _ A159.out).mono ?_); rintro e w179 ⟨rfl, hb⟩; replace BK346 := Aside0.mk (blk_below (g := gb346) (o := .cells #[.int .i64 t341, .int .i64 t342, .int .i64 t343, .int .i64 t344] 29 (0, 0)) (by (with_reducible repeat (first | refine blk_drewN ?_ _ | refine blk_drew ?_ | refine blk_alloc ?_ _)); refine blk_far ?_ NB346_388.out _; (with_reducible repeat (first | refine blk_drewN ?_ _ | refine blk_drew ?_ | refine blk_alloc ?_ _)); refine blk_far ?_ NB346_388.out _; (with_reducible repeat (first | refine blk_drewN ?_ _ | refine blk_drew ?_ | refine blk_alloc ?_ _)); refine blk_far ?_ NB346_388.out _; (with_reducible repeat (first | refine blk_drewN ?_ _ | refine blk_drew ?_ | refine blk_alloc ?_ _)); refine blk_far ?_ NB346_388.out _; (with_reducible repeat (first | refine blk_drewN ?_ _ | refine blk_drew ?_ | refine blk_alloc ?_ _)); exact BK346.out) hb); replace BK357 := Aside0.mk (blk_below (g := gb357) (o := .cells #[.int .i64 t349, .int .i64 t350, .int .i64 t351, .int .i64 t352] 29 (0, 0)) (by (with_reducible repeat (first | refine blk_drewN ?_ _ | refine blk_drew ?_ | refine blk_alloc ?_ _)); refine blk_far ?_ NB357_388.out _; (with_reducible repeat (first | refine blk_drewN ?_ _ | refine blk_drew ?_ | refine blk_alloc ?_ _)); refine blk_far ?_ NB357_388.out _; (with_reducible repeat (first | refine blk_drewN ?_ _ | refine blk_drew ?_ | refine blk_alloc ?_ _)); refine blk_far ?_ NB357_388.out _; (with_reducible repeat (first | refine blk_drewN ?_ _ | refine blk_drew ?_ | refine blk_alloc ?_ _)); refine blk_far ?_ NB357_388.out _; (with_reducible repeat (first | refine blk_drewN ?_ _ | refine blk_drew ?_ | refine blk_alloc ?_ _)); exact BK357.out) hb); replace BK358 := Aside0.mk (blk_below (g := gb358) (o := .cells #[.int .i64 t353, .int .i64 t354, .int .i64 t355, .int .i64 t356] 29 (0, 0)) (by (with_reducible repeat (first | refine blk_drewN ?_ _ | refine blk_drew ?_ | refine blk_alloc ?_ _)); refine blk_far ?_ NB358_388.out _; (with_reducible repeat (first | refine blk_drewN ?_ _ | refine blk_drew ?_ | refine blk_alloc ?_ _)); refine blk_far ?_ NB358_388.out _; (with_reducible repeat (first | refine blk_drewN ?_ _ | refine blk_drew ?_ | refine blk_alloc ?_ _)); refine blk_far ?_ NB358_388.out _; (with_reducible repeat (first | refine blk_drewN ?_ _ | refine blk_drew ?_ | refine blk_alloc ?_ _)); refine blk_far ?_ NB358_388.out _; (with_reducible repeat (first | refine blk_drewN ?_ _ | refine blk_drew ?_ | refine blk_alloc ?_ _)); exact BK358.out) hb); replace BK372 := Aside0.mk (blk_below (g := gb372) (o := .cells #[.int .i64 t367, .int .i64 t368, .int .i64 t369, .int .i64 t370] 29 (0, 0)) (by (with_reducible repeat (first | refine blk_drewN ?_ _ | refine blk_drew ?_ | refine blk_alloc ?_ _)); refine blk_far ?_ NB372_388.out _; (with_reducible repeat (first | refine blk_drewN ?_ _ | refine blk_drew ?_ | refine blk_alloc ?_ _)); refine blk_far ?_ NB372_388.out _; (with_reducible repeat (first | refine blk_drewN ?_ _ | refine blk_drew ?_ | refine blk_alloc ?_ _)); refine blk_far ?_ NB372_388.out _; (with_reducible repeat (first | refine blk_drewN ?_ _ | refine blk_drew ?_ | refine blk_alloc ?_ _)); refine blk_far ?_ NB372_388.out _; (with_reducible repeat (first | refine blk_drewN ?_ _ | refine blk_drew ?_ | refine blk_alloc ?_ _)); exact BK372.out) hb); replace BK382 := Aside0.mk (blk_below (g := gb382) (o := .cells #[.int .i64 t377, .int .i64 t378, .int .i64 t379, .int .i64 t380] 29 (0, 0)) (by (with_reducible repeat (first | refine blk_drewN ?_ _ | refine blk_drew ?_ | refine blk_alloc ?_ _)); refine blk_far ?_ NB382_388.out _; (with_reducible repeat (first | refine blk_drewN ?_ _ | refine blk_drew ?_ | refine blk_alloc ?_ _)); refine blk_far ?_ NB382_388.out _; (with_reducible repeat (first | refine blk_drewN ?_ _ | refine blk_drew ?_ | refine blk_alloc ?_ _)); refine blk_far ?_ NB382_388.out _; (with_reducible repeat (first | refine blk_drewN ?_ _ | refine blk_drew ?_ | refine blk_alloc ?_ _)); refine blk_far ?_ NB382_388.out _; (with_reducible repeat (first | refine blk_drewN ?_ _ | refine blk_drew ?_ | refine blk_alloc ?_ _)); exact BK382.out) hb); replace BK388 := Aside0.mk (blk_below (g := gb388) (o := .cells #[.int .i64 t383, .int .i64 t384, .int .i64 t385, .int .i64 t386] 29 (0, 0)) (by (with_reducible repeat (first | refine blk_drewN ?_ _ | refine blk_drew ?_ | refine blk_alloc ?_ _)); refine blk_put (cs := #[.int .i64 t383, .int .i64 t384, .int .i64 t385, .int .i64 0]) ?_ 3 _ rfl; (with_reducible repeat (first | refine blk_drewN ?_ _ | refine blk_drew ?_ | refine blk_alloc ?_ _)); refine blk_put (cs := #[.int .i64 t383, .int .i64 t384, .int .i64 0, .int .i64 0]) ?_ 2 _ rfl; (with_reducible repeat (first | refine blk_drewN ?_ _ | refine blk_drew ?_ | refine blk_alloc ?_ _)); refine blk_put (cs := #[.int .i64 t383, .int .i64 0, .int .i64 0, .int .i64 0]) ?_ 1 _ rfl; (with_reducible repeat (first | refine blk_drewN ?_ _ | refine blk_drew ?_ | refine blk_alloc ?_ _)); refine blk_put (cs := #[.int .i64 0, .int .i64 0, .int .i64 0, .int .i64 0]) ?_ 0 _ rfl; (with_reducible repeat (first | refine blk_drewN ?_ _ | refine blk_drew ?_ | refine blk_alloc ?_ _)); exact BK388.out) hb); replace HB := Aside0.mk (below_step Hd.b_ hb); (try clear hb); (try clear hb2); (try clear hk); (try clear hi); obtain ⟨hcz180_0, hcz180_1, hcz180_2, hcz180_3⟩ := Hd.c4_ BK388.out; obtain ⟨hfz180_0, hfz180_1, hfz180_2, hfz180_3⟩ := Hd.f4_ BK388.out; obtain ⟨hcz181_0, hcz181_1, hcz181_2, hcz181_3⟩ := Hd.c4_ BK382.out; obtain ⟨hfz181_0, hfz181_1, hfz181_2, hfz181_3⟩ := Hd.f4_ BK382.out) | (go_at_call 13; (with_reducible refine (impl_InBox.calls t383 t384 t385 t386 t377 t378 true _ A161.out).mono ?_); rintro e w182 ⟨rfl, hb⟩; replace BK346 := Aside0.mk (Hd.kb_ BK346 hb); replace BK357 := Aside0.mk (Hd.kb_ BK357 hb); replace BK358 := Aside0.mk (Hd.kb_ BK358 hb); replace BK372 := Aside0.mk (Hd.kb_ BK372 hb); replace BK382 := Aside0.mk (Hd.kb_ BK382 hb); replace BK388 := Aside0.mk (Hd.kb_ BK388 hb); replace HB := Aside0.mk (below_step Hd.b_ hb); (try clear hb); (try clear hb2); (try clear hk); (try clear hi); obtain ⟨hcz183_0, hcz183_1, hcz183_2, hcz183_3⟩ := Hd.c4_ BK388.out; obtain ⟨hfz183_0, hfz183_1, hfz183_2, hfz183_3⟩ := Hd.f4_ BK388.out; obtain ⟨hcz184_0, hcz184_1, hcz184_2, hcz184_3⟩ := Hd.c4_ BK382.out; obtain ⟨hfz184_0, hfz184_1, hfz184_2, hfz184_3⟩ := Hd.f4_ BK382.out) | (go_at_call 13; (with_reducible refine (impl_InBox.calls t383 t384 t385 t386 t379 t380 t391 _ A163.out).mono ?_); rintro e w185 ⟨rfl, hb⟩; replace BK346 := Aside0.mk (Hd.kb_ BK346 hb); replace BK357 := Aside0.mk (Hd.kb_ BK357 hb); replace BK358 := Aside0.mk (Hd.kb_ BK358 hb); replace BK372 := Aside0.mk (Hd.kb_ BK372 hb); replace BK382 := Aside0.mk (Hd.kb_ BK382 hb); replace BK388 := Aside0.mk (Hd.kb_ BK388 hb); replace HB := Aside0.mk (below_step Hd.b_ hb); (try clear hb); (try clear hb2); (try clear hk); (try clear hi)))
                 go_ret
                 exact ⟨Hd.e_, Hd.b_⟩
                ·
                 replace c162 := Bool.eq_false_iff.mpr c162
                 subst c162
                 have H1 : (some false) = some r := by rw [if_neg (show ¬ (false = true) by decide)] at H; exact H
                 clear H
                 have H := H1
                 clear H1
                 obtain rfl := Option.some.inj H
                 go_wp2_with (first | ((with_reducible refine gate_callee (f := 19) rfl ?_); refine goesL_ (some 116) rfl rfl Try.func19 (by kernel_rfl) rfl #[.slice A0 l0.length c0] rfl Hd.m_ ?_; (with_reducible refine (spec_DrawGrowBox.calls kj82 _ _ l0 t377 t378 t379 t380 t381 _ ?side1 ?side2 A156.out).mono ?_); (case side1 => repeat (first | exact (Kd.C_below HR0.out HB.out) | (with_reducible refine Kd.C_alloc ?_ _) | (with_reducible refine Kd.C_drewN ?_ _) | (with_reducible refine Kd.C_drew ?_))); (case side2 => exact HC0.out); rintro e w186 ⟨rfl, hb⟩; refine ⟨_, rfl, ?_⟩; replace BK346 := Aside0.mk (Hd.kb_ BK346 hb); replace BK357 := Aside0.mk (Hd.kb_ BK357 hb); replace BK358 := Aside0.mk (Hd.kb_ BK358 hb); replace BK372 := Aside0.mk (Hd.kb_ BK372 hb); replace HB := Aside0.mk (below_step Hd.b_ hb); (try clear hb); (try clear hb2); (try clear hk); (try clear hi)) | ((with_reducible refine gate_dst (N := 11) rfl ?_); refine Hd.box_ 11 (#[.int .i64 0, .int .i64 0, .int .i64 0, .int .i64 0]) 29 ?_; intro gb382 hg w187 hbox hb; have BK382 := Aside0.mk (hbox); have GW382 := Aside0.mk ((Hd.g_ hg Hd.b_ : w.heap.size ≤ gb382)); have GE382 := Aside0.mk ((Hd.g_ hg Hd.b_ : w.heap.size ≤ gb382)); replace HB := Aside0.mk (below_step Hd.b_ hb); have NB346_382 := Aside0.mk ((Hd.lt_ BK346 hg)); have NB382_346 := Aside0.mk ((Hd.gt_ BK346 hg)); replace BK346 := Aside0.mk (Hd.kb_ BK346 hb); have NB357_382 := Aside0.mk ((Hd.lt_ BK357 hg)); have NB382_357 := Aside0.mk ((Hd.gt_ BK357 hg)); replace BK357 := Aside0.mk (Hd.kb_ BK357 hb); have NB358_382 := Aside0.mk ((Hd.lt_ BK358 hg)); have NB382_358 := Aside0.mk ((Hd.gt_ BK358 hg)); replace BK358 := Aside0.mk (Hd.kb_ BK358 hb); have NB372_382 := Aside0.mk ((Hd.lt_ BK372 hg)); have NB382_372 := Aside0.mk ((Hd.gt_ BK372 hg)); replace BK372 := Aside0.mk (Hd.kb_ BK372 hb); clear hb hbox hg; have hnb188 := NB382_346.out; have hnc188 := NB346_382.out; have hnb189 := NB382_357.out; have hnc189 := NB357_382.out; have hnb190 := NB382_358.out; have hnc190 := NB358_382.out; have hnb191 := NB382_372.out; have hnc191 := NB372_382.out; obtain ⟨hcz192_0, hcz192_1, hcz192_2, hcz192_3⟩ := Hd.c4_ BK382.out; obtain ⟨hfz192_0, hfz192_1, hfz192_2, hfz192_3⟩ := Hd.f4_ BK382.out) | ((with_reducible refine gate_callee (f := 20) rfl ?_); refine goesL_ (some 122) rfl rfl Try.func20 (by kernel_rfl) rfl #[.agg #[.int .i64 t377, .int .i64 t378, .int .i64 t379, .int .i64 t380], .int .i64 t381] rfl Hd.m_ ?_; (with_reducible refine (impl_GrowBox.calls t377 t378 t379 t380 t381 t383 t384 t385 t386 true _ A157.out).mono ?_); rintro e w193 ⟨rfl, hb⟩; refine ⟨_, rfl, ?_⟩; replace BK346 := Aside0.mk (blk_below (g := gb346) (o := .cells #[.int .i64 t341, .int .i64 t342, .int .i64 t343, .int .i64 t344] 29 (0, 0)) (by (with_reducible repeat (first | refine blk_drewN ?_ _ | refine blk_drew ?_ | refine blk_alloc ?_ _)); refine blk_far ?_ NB346_382.out _; (with_reducible repeat (first | refine blk_drewN ?_ _ | refine blk_drew ?_ | refine blk_alloc ?_ _)); refine blk_far ?_ NB346_382.out _; (with_reducible repeat (first | refine blk_drewN ?_ _ | refine blk_drew ?_ | refine blk_alloc ?_ _)); refine blk_far ?_ NB346_382.out _; (with_reducible repeat (first | refine blk_drewN ?_ _ | refine blk_drew ?_ | refine blk_alloc ?_ _)); refine blk_far ?_ NB346_382.out _; (with_reducible repeat (first | refine blk_drewN ?_ _ | refine blk_drew ?_ | refine blk_alloc ?_ _)); exact BK346.out) hb); replace BK357 := Aside0.mk (blk_below (g := gb357) (o := .cells #[.int .i64 t349, .int .i64 t350, .int .i64 t351, .int .i64 t352] 29 (0, 0)) (by (with_reducible repeat (first | refine blk_drewN ?_ _ | refine blk_drew ?_ | refine blk_alloc ?_ _)); refine blk_far ?_ NB357_382.out _; (with_reducible repeat (first | refine blk_drewN ?_ _ | refine blk_drew ?_ | refine blk_alloc ?_ _)); refine blk_far ?_ NB357_382.out _; (with_reducible repeat (first | refine blk_drewN ?_ _ | refine blk_drew ?_ | refine blk_alloc ?_ _)); refine blk_far ?_ NB357_382.out _; (with_reducible repeat (first | refine blk_drewN ?_ _ | refine blk_drew ?_ | refine blk_alloc ?_ _)); refine blk_far ?_ NB357_382.out _; (with_reducible repeat (first | refine blk_drewN ?_ _ | refine blk_drew ?_ | refine blk_alloc ?_ _)); exact BK357.out) hb); replace BK358 := Aside0.mk (blk_below (g := gb358) (o := .cells #[.int .i64 t353, .int .i64 t354, .int .i64 t355, .int .i64 t356] 29 (0, 0)) (by (with_reducible repeat (first | refine blk_drewN ?_ _ | refine blk_drew ?_ | refine blk_alloc ?_ _)); refine blk_far ?_ NB358_382.out _; (with_reducible repeat (first | refine blk_drewN ?_ _ | refine blk_drew ?_ | refine blk_alloc ?_ _)); refine blk_far ?_ NB358_382.out _; (with_reducible repeat (first | refine blk_drewN ?_ _ | refine blk_drew ?_ | refine blk_alloc ?_ _)); refine blk_far ?_ NB358_382.out _; (with_reducible repeat (first | refine blk_drewN ?_ _ | refine blk_drew ?_ | refine blk_alloc ?_ _)); refine blk_far ?_ NB358_382.out _; (with_reducible repeat (first | refine blk_drewN ?_ _ | refine blk_drew ?_ | refine blk_alloc ?_ _)); exact BK358.out) hb); replace BK372 := Aside0.mk (blk_below (g := gb372) (o := .cells #[.int .i64 t367, .int .i64 t368, .int .i64 t369, .int .i64 t370] 29 (0, 0)) (by (with_reducible repeat (first | refine blk_drewN ?_ _ | refine blk_drew ?_ | refine blk_alloc ?_ _)); refine blk_far ?_ NB372_382.out _; (with_reducible repeat (first | refine blk_drewN ?_ _ | refine blk_drew ?_ | refine blk_alloc ?_ _)); refine blk_far ?_ NB372_382.out _; (with_reducible repeat (first | refine blk_drewN ?_ _ | refine blk_drew ?_ | refine blk_alloc ?_ _)); refine blk_far ?_ NB372_382.out _; (with_reducible repeat (first | refine blk_drewN ?_ _ | refine blk_drew ?_ | refine blk_alloc ?_ _)); refine blk_far ?_ NB372_382.out _; (with_reducible repeat (first | refine blk_drewN ?_ _ | refine blk_drew ?_ | refine blk_alloc ?_ _)); exact BK372.out) hb); replace BK382 := Aside0.mk (blk_below (g := gb382) (o := .cells #[.int .i64 t377, .int .i64 t378, .int .i64 t379, .int .i64 t380] 29 (0, 0)) (by (with_reducible repeat (first | refine blk_drewN ?_ _ | refine blk_drew ?_ | refine blk_alloc ?_ _)); refine blk_put (cs := #[.int .i64 t377, .int .i64 t378, .int .i64 t379, .int .i64 0]) ?_ 3 _ rfl; (with_reducible repeat (first | refine blk_drewN ?_ _ | refine blk_drew ?_ | refine blk_alloc ?_ _)); refine blk_put (cs := #[.int .i64 t377, .int .i64 t378, .int .i64 0, .int .i64 0]) ?_ 2 _ rfl; (with_reducible repeat (first | refine blk_drewN ?_ _ | refine blk_drew ?_ | refine blk_alloc ?_ _)); refine blk_put (cs := #[.int .i64 t377, .int .i64 0, .int .i64 0, .int .i64 0]) ?_ 1 _ rfl; (with_reducible repeat (first | refine blk_drewN ?_ _ | refine blk_drew ?_ | refine blk_alloc ?_ _)); refine blk_put (cs := #[.int .i64 0, .int .i64 0, .int .i64 0, .int .i64 0]) ?_ 0 _ rfl; (with_reducible repeat (first | refine blk_drewN ?_ _ | refine blk_drew ?_ | refine blk_alloc ?_ _)); exact BK382.out) hb); replace HB := Aside0.mk (below_step Hd.b_ hb); (try clear hb); (try clear hb2); (try clear hk); (try clear hi)) | ((with_reducible refine gate_dst (N := 13) rfl ?_); refine Hd.box_ 13 (#[.int .i64 0, .int .i64 0, .int .i64 0, .int .i64 0]) 29 ?_; intro gb388 hg w194 hbox hb; have BK388 := Aside0.mk (hbox); have GW388 := Aside0.mk ((Hd.g_ hg Hd.b_ : w.heap.size ≤ gb388)); have GE388 := Aside0.mk ((Hd.g_ hg Hd.b_ : w.heap.size ≤ gb388)); replace HB := Aside0.mk (below_step Hd.b_ hb); have NB346_388 := Aside0.mk ((Hd.lt_ BK346 hg)); have NB388_346 := Aside0.mk ((Hd.gt_ BK346 hg)); replace BK346 := Aside0.mk (Hd.kb_ BK346 hb); have NB357_388 := Aside0.mk ((Hd.lt_ BK357 hg)); have NB388_357 := Aside0.mk ((Hd.gt_ BK357 hg)); replace BK357 := Aside0.mk (Hd.kb_ BK357 hb); have NB358_388 := Aside0.mk ((Hd.lt_ BK358 hg)); have NB388_358 := Aside0.mk ((Hd.gt_ BK358 hg)); replace BK358 := Aside0.mk (Hd.kb_ BK358 hb); have NB372_388 := Aside0.mk ((Hd.lt_ BK372 hg)); have NB388_372 := Aside0.mk ((Hd.gt_ BK372 hg)); replace BK372 := Aside0.mk (Hd.kb_ BK372 hb); have NB382_388 := Aside0.mk ((Hd.lt_ BK382 hg)); have NB388_382 := Aside0.mk ((Hd.gt_ BK382 hg)); replace BK382 := Aside0.mk (Hd.kb_ BK382 hb); clear hb hbox hg; have hnb195 := NB388_346.out; have hnc195 := NB346_388.out; have hnb196 := NB388_357.out; have hnc196 := NB357_388.out; have hnb197 := NB388_358.out; have hnc197 := NB358_388.out; have hnb198 := NB388_372.out; have hnc198 := NB372_388.out; have hnb199 := NB388_382.out; have hnc199 := NB382_388.out; obtain ⟨hcz200_0, hcz200_1, hcz200_2, hcz200_3⟩ := Hd.c4_ BK388.out; obtain ⟨hfz200_0, hfz200_1, hfz200_2, hfz200_3⟩ := Hd.f4_ BK388.out) | (go_at_call 21; (with_reducible refine (impl_IsBox.calls t383 t384 t385 t386 true _ A159.out).mono ?_); rintro e w201 ⟨rfl, hb⟩; replace BK346 := Aside0.mk (blk_below (g := gb346) (o := .cells #[.int .i64 t341, .int .i64 t342, .int .i64 t343, .int .i64 t344] 29 (0, 0)) (by (with_reducible repeat (first | refine blk_drewN ?_ _ | refine blk_drew ?_ | refine blk_alloc ?_ _)); refine blk_far ?_ NB346_388.out _; (with_reducible repeat (first | refine blk_drewN ?_ _ | refine blk_drew ?_ | refine blk_alloc ?_ _)); refine blk_far ?_ NB346_388.out _; (with_reducible repeat (first | refine blk_drewN ?_ _ | refine blk_drew ?_ | refine blk_alloc ?_ _)); refine blk_far ?_ NB346_388.out _; (with_reducible repeat (first | refine blk_drewN ?_ _ | refine blk_drew ?_ | refine blk_alloc ?_ _)); refine blk_far ?_ NB346_388.out _; (with_reducible repeat (first | refine blk_drewN ?_ _ | refine blk_drew ?_ | refine blk_alloc ?_ _)); exact BK346.out) hb); replace BK357 := Aside0.mk (blk_below (g := gb357) (o := .cells #[.int .i64 t349, .int .i64 t350, .int .i64 t351, .int .i64 t352] 29 (0, 0)) (by (with_reducible repeat (first | refine blk_drewN ?_ _ | refine blk_drew ?_ | refine blk_alloc ?_ _)); refine blk_far ?_ NB357_388.out _; (with_reducible repeat (first | refine blk_drewN ?_ _ | refine blk_drew ?_ | refine blk_alloc ?_ _)); refine blk_far ?_ NB357_388.out _; (with_reducible repeat (first | refine blk_drewN ?_ _ | refine blk_drew ?_ | refine blk_alloc ?_ _)); refine blk_far ?_ NB357_388.out _; (with_reducible repeat (first | refine blk_drewN ?_ _ | refine blk_drew ?_ | refine blk_alloc ?_ _)); refine blk_far ?_ NB357_388.out _; (with_reducible repeat (first | refine blk_drewN ?_ _ | refine blk_drew ?_ | refine blk_alloc ?_ _)); exact BK357.out) hb); replace BK358 := Aside0.mk (blk_below (g := gb358) (o := .cells #[.int .i64 t353, .int .i64 t354, .int .i64 t355, .int .i64 t356] 29 (0, 0)) (by (with_reducible repeat (first | refine blk_drewN ?_ _ | refine blk_drew ?_ | refine blk_alloc ?_ _)); refine blk_far ?_ NB358_388.out _; (with_reducible repeat (first | refine blk_drewN ?_ _ | refine blk_drew ?_ | refine blk_alloc ?_ _)); refine blk_far ?_ NB358_388.out _; (with_reducible repeat (first | refine blk_drewN ?_ _ | refine blk_drew ?_ | refine blk_alloc ?_ _)); refine blk_far ?_ NB358_388.out _; (with_reducible repeat (first | refine blk_drewN ?_ _ | refine blk_drew ?_ | refine blk_alloc ?_ _)); refine blk_far ?_ NB358_388.out _; (with_reducible repeat (first | refine blk_drewN ?_ _ | refine blk_drew ?_ | refine blk_alloc ?_ _)); exact BK358.out) hb); replace BK372 := Aside0.mk (blk_below (g := gb372) (o := .cells #[.int .i64 t367, .int .i64 t368, .int .i64 t369, .int .i64 t370] 29 (0, 0)) (by (with_reducible repeat (first | refine blk_drewN ?_ _ | refine blk_drew ?_ | refine blk_alloc ?_ _)); refine blk_far ?_ NB372_388.out _; (with_reducible repeat (first | refine blk_drewN ?_ _ | refine blk_drew ?_ | refine blk_alloc ?_ _)); refine blk_far ?_ NB372_388.out _; (with_reducible repeat (first | refine blk_drewN ?_ _ | refine blk_drew ?_ | refine blk_alloc ?_ _)); refine blk_far ?_ NB372_388.out _; (with_reducible repeat (first | refine blk_drewN ?_ _ | refine blk_drew ?_ | refine blk_alloc ?_ _)); refine blk_far ?_ NB372_388.out _; (with_reducible repeat (first | refine blk_drewN ?_ _ | refine blk_drew ?_ | refine blk_alloc ?_ _)); exact BK372.out) hb); replace BK382 := Aside0.mk (blk_below (g := gb382) (o := .cells #[.int .i64 t377, .int .i64 t378, .int .i64 t379, .int .i64 t380] 29 (0, 0)) (by (with_reducible repeat (first | refine blk_drewN ?_ _ | refine blk_drew ?_ | refine blk_alloc ?_ _)); refine blk_far ?_ NB382_388.out _; (with_reducible repeat (first | refine blk_drewN ?_ _ | refine blk_drew ?_ | refine blk_alloc ?_ _)); refine blk_far ?_ NB382_388.out _; (with_reducible repeat (first | refine blk_drewN ?_ _ | refine blk_drew ?_ | refine blk_alloc ?_ _)); refine blk_far ?_ NB382_388.out _; (with_reducible repeat (first | refine blk_drewN ?_ _ | refine blk_drew ?_ | refine blk_alloc ?_ _)); refine blk_far ?_ NB382_388.out _; (with_reducible repeat (first | refine blk_drewN ?_ _ | refine blk_drew ?_ | refine blk_alloc ?_ _)); exact BK382.out) hb); replace BK388 := Aside0.mk (blk_below (g := gb388) (o := .cells #[.int .i64 t383, .int .i64 t384, .int .i64 t385, .int .i64 t386] 29 (0, 0)) (by (with_reducible repeat (first | refine blk_drewN ?_ _ | refine blk_drew ?_ | refine blk_alloc ?_ _)); refine blk_put (cs := #[.int .i64 t383, .int .i64 t384, .int .i64 t385, .int .i64 0]) ?_ 3 _ rfl; (with_reducible repeat (first | refine blk_drewN ?_ _ | refine blk_drew ?_ | refine blk_alloc ?_ _)); refine blk_put (cs := #[.int .i64 t383, .int .i64 t384, .int .i64 0, .int .i64 0]) ?_ 2 _ rfl; (with_reducible repeat (first | refine blk_drewN ?_ _ | refine blk_drew ?_ | refine blk_alloc ?_ _)); refine blk_put (cs := #[.int .i64 t383, .int .i64 0, .int .i64 0, .int .i64 0]) ?_ 1 _ rfl; (with_reducible repeat (first | refine blk_drewN ?_ _ | refine blk_drew ?_ | refine blk_alloc ?_ _)); refine blk_put (cs := #[.int .i64 0, .int .i64 0, .int .i64 0, .int .i64 0]) ?_ 0 _ rfl; (with_reducible repeat (first | refine blk_drewN ?_ _ | refine blk_drew ?_ | refine blk_alloc ?_ _)); exact BK388.out) hb); replace HB := Aside0.mk (below_step Hd.b_ hb); (try clear hb); (try clear hb2); (try clear hk); (try clear hi); obtain ⟨hcz202_0, hcz202_1, hcz202_2, hcz202_3⟩ := Hd.c4_ BK388.out; obtain ⟨hfz202_0, hfz202_1, hfz202_2, hfz202_3⟩ := Hd.f4_ BK388.out; obtain ⟨hcz203_0, hcz203_1, hcz203_2, hcz203_3⟩ := Hd.c4_ BK382.out; obtain ⟨hfz203_0, hfz203_1, hfz203_2, hfz203_3⟩ := Hd.f4_ BK382.out) | (go_at_call 13; (with_reducible refine (impl_InBox.calls t383 t384 t385 t386 t377 t378 false _ A161.out).mono ?_); rintro e w204 ⟨rfl, hb⟩; replace BK346 := Aside0.mk (Hd.kb_ BK346 hb); replace BK357 := Aside0.mk (Hd.kb_ BK357 hb); replace BK358 := Aside0.mk (Hd.kb_ BK358 hb); replace BK372 := Aside0.mk (Hd.kb_ BK372 hb); replace BK382 := Aside0.mk (Hd.kb_ BK382 hb); replace BK388 := Aside0.mk (Hd.kb_ BK388 hb); replace HB := Aside0.mk (below_step Hd.b_ hb); (try clear hb); (try clear hb2); (try clear hk); (try clear hi)))
                 go_ret
                 exact ⟨Hd.e_, Hd.b_⟩
               ·
                replace c160 := Bool.eq_false_iff.mpr c160
                subst c160
                have H1 : (some false) = some r := by rw [if_neg (show ¬ (false = true) by decide)] at H; exact H
                clear H
                have H := H1
                clear H1
                obtain rfl := Option.some.inj H
                go_wp2_with (first | ((with_reducible refine gate_callee (f := 19) rfl ?_); refine goesL_ (some 116) rfl rfl Try.func19 (by kernel_rfl) rfl #[.slice A0 l0.length c0] rfl Hd.m_ ?_; (with_reducible refine (spec_DrawGrowBox.calls kj82 _ _ l0 t377 t378 t379 t380 t381 _ ?side1 ?side2 A156.out).mono ?_); (case side1 => repeat (first | exact (Kd.C_below HR0.out HB.out) | (with_reducible refine Kd.C_alloc ?_ _) | (with_reducible refine Kd.C_drewN ?_ _) | (with_reducible refine Kd.C_drew ?_))); (case side2 => exact HC0.out); rintro e w205 ⟨rfl, hb⟩; refine ⟨_, rfl, ?_⟩; replace BK346 := Aside0.mk (Hd.kb_ BK346 hb); replace BK357 := Aside0.mk (Hd.kb_ BK357 hb); replace BK358 := Aside0.mk (Hd.kb_ BK358 hb); replace BK372 := Aside0.mk (Hd.kb_ BK372 hb); replace HB := Aside0.mk (below_step Hd.b_ hb); (try clear hb); (try clear hb2); (try clear hk); (try clear hi)) | ((with_reducible refine gate_dst (N := 11) rfl ?_); refine Hd.box_ 11 (#[.int .i64 0, .int .i64 0, .int .i64 0, .int .i64 0]) 29 ?_; intro gb382 hg w206 hbox hb; have BK382 := Aside0.mk (hbox); have GW382 := Aside0.mk ((Hd.g_ hg Hd.b_ : w.heap.size ≤ gb382)); have GE382 := Aside0.mk ((Hd.g_ hg Hd.b_ : w.heap.size ≤ gb382)); replace HB := Aside0.mk (below_step Hd.b_ hb); have NB346_382 := Aside0.mk ((Hd.lt_ BK346 hg)); have NB382_346 := Aside0.mk ((Hd.gt_ BK346 hg)); replace BK346 := Aside0.mk (Hd.kb_ BK346 hb); have NB357_382 := Aside0.mk ((Hd.lt_ BK357 hg)); have NB382_357 := Aside0.mk ((Hd.gt_ BK357 hg)); replace BK357 := Aside0.mk (Hd.kb_ BK357 hb); have NB358_382 := Aside0.mk ((Hd.lt_ BK358 hg)); have NB382_358 := Aside0.mk ((Hd.gt_ BK358 hg)); replace BK358 := Aside0.mk (Hd.kb_ BK358 hb); have NB372_382 := Aside0.mk ((Hd.lt_ BK372 hg)); have NB382_372 := Aside0.mk ((Hd.gt_ BK372 hg)); replace BK372 := Aside0.mk (Hd.kb_ BK372 hb); clear hb hbox hg; have hnb207 := NB382_346.out; have hnc207 := NB346_382.out; have hnb208 := NB382_357.out; have hnc208 := NB357_382.out; have hnb209 := NB382_358.out; have hnc209 := NB358_382.out; have hnb210 := NB382_372.out; have hnc210 := NB372_382.out; obtain ⟨hcz211_0, hcz211_1, hcz211_2, hcz211_3⟩ := Hd.c4_ BK382.out; obtain ⟨hfz211_0, hfz211_1, hfz211_2, hfz211_3⟩ := Hd.f4_ BK382.out) | ((with_reducible refine gate_callee (f := 20) rfl ?_); refine goesL_ (some 122) rfl rfl Try.func20 (by kernel_rfl) rfl #[.agg #[.int .i64 t377, .int .i64 t378, .int .i64 t379, .int .i64 t380], .int .i64 t381] rfl Hd.m_ ?_; (with_reducible refine (impl_GrowBox.calls t377 t378 t379 t380 t381 t383 t384 t385 t386 true _ A157.out).mono ?_); rintro e w212 ⟨rfl, hb⟩; refine ⟨_, rfl, ?_⟩; replace BK346 := Aside0.mk (blk_below (g := gb346) (o := .cells #[.int .i64 t341, .int .i64 t342, .int .i64 t343, .int .i64 t344] 29 (0, 0)) (by (with_reducible repeat (first | refine blk_drewN ?_ _ | refine blk_drew ?_ | refine blk_alloc ?_ _)); refine blk_far ?_ NB346_382.out _; (with_reducible repeat (first | refine blk_drewN ?_ _ | refine blk_drew ?_ | refine blk_alloc ?_ _)); refine blk_far ?_ NB346_382.out _; (with_reducible repeat (first | refine blk_drewN ?_ _ | refine blk_drew ?_ | refine blk_alloc ?_ _)); refine blk_far ?_ NB346_382.out _; (with_reducible repeat (first | refine blk_drewN ?_ _ | refine blk_drew ?_ | refine blk_alloc ?_ _)); refine blk_far ?_ NB346_382.out _; (with_reducible repeat (first | refine blk_drewN ?_ _ | refine blk_drew ?_ | refine blk_alloc ?_ _)); exact BK346.out) hb); replace BK357 := Aside0.mk (blk_below (g := gb357) (o := .cells #[.int .i64 t349, .int .i64 t350, .int .i64 t351, .int .i64 t352] 29 (0, 0)) (by (with_reducible repeat (first | refine blk_drewN ?_ _ | refine blk_drew ?_ | refine blk_alloc ?_ _)); refine blk_far ?_ NB357_382.out _; (with_reducible repeat (first | refine blk_drewN ?_ _ | refine blk_drew ?_ | refine blk_alloc ?_ _)); refine blk_far ?_ NB357_382.out _; (with_reducible repeat (first | refine blk_drewN ?_ _ | refine blk_drew ?_ | refine blk_alloc ?_ _)); refine blk_far ?_ NB357_382.out _; (with_reducible repeat (first | refine blk_drewN ?_ _ | refine blk_drew ?_ | refine blk_alloc ?_ _)); refine blk_far ?_ NB357_382.out _; (with_reducible repeat (first | refine blk_drewN ?_ _ | refine blk_drew ?_ | refine blk_alloc ?_ _)); exact BK357.out) hb); replace BK358 := Aside0.mk (blk_below (g := gb358) (o := .cells #[.int .i64 t353, .int .i64 t354, .int .i64 t355, .int .i64 t356] 29 (0, 0)) (by (with_reducible repeat (first | refine blk_drewN ?_ _ | refine blk_drew ?_ | refine blk_alloc ?_ _)); refine blk_far ?_ NB358_382.out _; (with_reducible repeat (first | refine blk_drewN ?_ _ | refine blk_drew ?_ | refine blk_alloc ?_ _)); refine blk_far ?_ NB358_382.out _; (with_reducible repeat (first | refine blk_drewN ?_ _ | refine blk_drew ?_ | refine blk_alloc ?_ _)); refine blk_far ?_ NB358_382.out _; (with_reducible repeat (first | refine blk_drewN ?_ _ | refine blk_drew ?_ | refine blk_alloc ?_ _)); refine blk_far ?_ NB358_382.out _; (with_reducible repeat (first | refine blk_drewN ?_ _ | refine blk_drew ?_ | refine blk_alloc ?_ _)); exact BK358.out) hb); replace BK372 := Aside0.mk (blk_below (g := gb372) (o := .cells #[.int .i64 t367, .int .i64 t368, .int .i64 t369, .int .i64 t370] 29 (0, 0)) (by (with_reducible repeat (first | refine blk_drewN ?_ _ | refine blk_drew ?_ | refine blk_alloc ?_ _)); refine blk_far ?_ NB372_382.out _; (with_reducible repeat (first | refine blk_drewN ?_ _ | refine blk_drew ?_ | refine blk_alloc ?_ _)); refine blk_far ?_ NB372_382.out _; (with_reducible repeat (first | refine blk_drewN ?_ _ | refine blk_drew ?_ | refine blk_alloc ?_ _)); refine blk_far ?_ NB372_382.out _; (with_reducible repeat (first | refine blk_drewN ?_ _ | refine blk_drew ?_ | refine blk_alloc ?_ _)); refine blk_far ?_ NB372_382.out _; (with_reducible repeat (first | refine blk_drewN ?_ _ | refine blk_drew ?_ | refine blk_alloc ?_ _)); exact BK372.out) hb); replace BK382 := Aside0.mk (blk_below (g := gb382) (o := .cells #[.int .i64 t377, .int .i64 t378, .int .i64 t379, .int .i64 t380] 29 (0, 0)) (by (with_reducible repeat (first | refine blk_drewN ?_ _ | refine blk_drew ?_ | refine blk_alloc ?_ _)); refine blk_put (cs := #[.int .i64 t377, .int .i64 t378, .int .i64 t379, .int .i64 0]) ?_ 3 _ rfl; (with_reducible repeat (first | refine blk_drewN ?_ _ | refine blk_drew ?_ | refine blk_alloc ?_ _)); refine blk_put (cs := #[.int .i64 t377, .int .i64 t378, .int .i64 0, .int .i64 0]) ?_ 2 _ rfl; (with_reducible repeat (first | refine blk_drewN ?_ _ | refine blk_drew ?_ | refine blk_alloc ?_ _)); refine blk_put (cs := #[.int .i64 t377, .int .i64 0, .int .i64 0, .int .i64 0]) ?_ 1 _ rfl; (with_reducible repeat (first | refine blk_drewN ?_ _ | refine blk_drew ?_ | refine blk_alloc ?_ _)); refine blk_put (cs := #[.int .i64 0, .int .i64 0, .int .i64 0, .int .i64 0]) ?_ 0 _ rfl; (with_reducible repeat (first | refine blk_drewN ?_ _ | refine blk_drew ?_ | refine blk_alloc ?_ _)); exact BK382.out) hb); replace HB := Aside0.mk (below_step Hd.b_ hb); (try clear hb); (try clear hb2); (try clear hk); (try clear hi)) | ((with_reducible refine gate_dst (N := 13) rfl ?_); refine Hd.box_ 13 (#[.int .i64 0, .int .i64 0, .int .i64 0, .int .i64 0]) 29 ?_; intro gb388 hg w213 hbox hb; have BK388 := Aside0.mk (hbox); have GW388 := Aside0.mk ((Hd.g_ hg Hd.b_ : w.heap.size ≤ gb388)); have GE388 := Aside0.mk ((Hd.g_ hg Hd.b_ : w.heap.size ≤ gb388)); replace HB := Aside0.mk (below_step Hd.b_ hb); have NB346_388 := Aside0.mk ((Hd.lt_ BK346 hg)); have NB388_346 := Aside0.mk ((Hd.gt_ BK346 hg)); replace BK346 := Aside0.mk (Hd.kb_ BK346 hb); have NB357_388 := Aside0.mk ((Hd.lt_ BK357 hg)); have NB388_357 := Aside0.mk ((Hd.gt_ BK357 hg)); replace BK357 := Aside0.mk (Hd.kb_ BK357 hb); have NB358_388 := Aside0.mk ((Hd.lt_ BK358 hg)); have NB388_358 := Aside0.mk ((Hd.gt_ BK358 hg)); replace BK358 := Aside0.mk (Hd.kb_ BK358 hb); have NB372_388 := Aside0.mk ((Hd.lt_ BK372 hg)); have NB388_372 := Aside0.mk ((Hd.gt_ BK372 hg)); replace BK372 := Aside0.mk (Hd.kb_ BK372 hb); have NB382_388 := Aside0.mk ((Hd.lt_ BK382 hg)); have NB388_382 := Aside0.mk ((Hd.gt_ BK382 hg)); replace BK382 := Aside0.mk (Hd.kb_ BK382 hb); clear hb hbox hg; have hnb214 := NB388_346.out; have hnc214 := NB346_388.out; have hnb215 := NB388_357.out; have hnc215 := NB357_388.out; have hnb216 := NB388_358.out; have hnc216 := NB358_388.out; have hnb217 := NB388_372.out; have hnc217 := NB372_388.out; have hnb218 := NB388_382.out; have hnc218 := NB382_388.out; obtain ⟨hcz219_0, hcz219_1, hcz219_2, hcz219_3⟩ := Hd.c4_ BK388.out; obtain ⟨hfz219_0, hfz219_1, hfz219_2, hfz219_3⟩ := Hd.f4_ BK388.out) | (go_at_call 21; (with_reducible refine (impl_IsBox.calls t383 t384 t385 t386 false _ A159.out).mono ?_); rintro e w220 ⟨rfl, hb⟩; replace BK346 := Aside0.mk (blk_below (g := gb346) (o := .cells #[.int .i64 t341, .int .i64 t342, .int .i64 t343, .int .i64 t344] 29 (0, 0)) (by (with_reducible repeat (first | refine blk_drewN ?_ _ | refine blk_drew ?_ | refine blk_alloc ?_ _)); refine blk_far ?_ NB346_388.out _; (with_reducible repeat (first | refine blk_drewN ?_ _ | refine blk_drew ?_ | refine blk_alloc ?_ _)); refine blk_far ?_ NB346_388.out _; (with_reducible repeat (first | refine blk_drewN ?_ _ | refine blk_drew ?_ | refine blk_alloc ?_ _)); refine blk_far ?_ NB346_388.out _; (with_reducible repeat (first | refine blk_drewN ?_ _ | refine blk_drew ?_ | refine blk_alloc ?_ _)); refine blk_far ?_ NB346_388.out _; (with_reducible repeat (first | refine blk_drewN ?_ _ | refine blk_drew ?_ | refine blk_alloc ?_ _)); exact BK346.out) hb); replace BK357 := Aside0.mk (blk_below (g := gb357) (o := .cells #[.int .i64 t349, .int .i64 t350, .int .i64 t351, .int .i64 t352] 29 (0, 0)) (by (with_reducible repeat (first | refine blk_drewN ?_ _ | refine blk_drew ?_ | refine blk_alloc ?_ _)); refine blk_far ?_ NB357_388.out _; (with_reducible repeat (first | refine blk_drewN ?_ _ | refine blk_drew ?_ | refine blk_alloc ?_ _)); refine blk_far ?_ NB357_388.out _; (with_reducible repeat (first | refine blk_drewN ?_ _ | refine blk_drew ?_ | refine blk_alloc ?_ _)); refine blk_far ?_ NB357_388.out _; (with_reducible repeat (first | refine blk_drewN ?_ _ | refine blk_drew ?_ | refine blk_alloc ?_ _)); refine blk_far ?_ NB357_388.out _; (with_reducible repeat (first | refine blk_drewN ?_ _ | refine blk_drew ?_ | refine blk_alloc ?_ _)); exact BK357.out) hb); replace BK358 := Aside0.mk (blk_below (g := gb358) (o := .cells #[.int .i64 t353, .int .i64 t354, .int .i64 t355, .int .i64 t356] 29 (0, 0)) (by (with_reducible repeat (first | refine blk_drewN ?_ _ | refine blk_drew ?_ | refine blk_alloc ?_ _)); refine blk_far ?_ NB358_388.out _; (with_reducible repeat (first | refine blk_drewN ?_ _ | refine blk_drew ?_ | refine blk_alloc ?_ _)); refine blk_far ?_ NB358_388.out _; (with_reducible repeat (first | refine blk_drewN ?_ _ | refine blk_drew ?_ | refine blk_alloc ?_ _)); refine blk_far ?_ NB358_388.out _; (with_reducible repeat (first | refine blk_drewN ?_ _ | refine blk_drew ?_ | refine blk_alloc ?_ _)); refine blk_far ?_ NB358_388.out _; (with_reducible repeat (first | refine blk_drewN ?_ _ | refine blk_drew ?_ | refine blk_alloc ?_ _)); exact BK358.out) hb); replace BK372 := Aside0.mk (blk_below (g := gb372) (o := .cells #[.int .i64 t367, .int .i64 t368, .int .i64 t369, .int .i64 t370] 29 (0, 0)) (by (with_reducible repeat (first | refine blk_drewN ?_ _ | refine blk_drew ?_ | refine blk_alloc ?_ _)); refine blk_far ?_ NB372_388.out _; (with_reducible repeat (first | refine blk_drewN ?_ _ | refine blk_drew ?_ | refine blk_alloc ?_ _)); refine blk_far ?_ NB372_388.out _; (with_reducible repeat (first | refine blk_drewN ?_ _ | refine blk_drew ?_ | refine blk_alloc ?_ _)); refine blk_far ?_ NB372_388.out _; (with_reducible repeat (first | refine blk_drewN ?_ _ | refine blk_drew ?_ | refine blk_alloc ?_ _)); refine blk_far ?_ NB372_388.out _; (with_reducible repeat (first | refine blk_drewN ?_ _ | refine blk_drew ?_ | refine blk_alloc ?_ _)); exact BK372.out) hb); replace BK382 := Aside0.mk (blk_below (g := gb382) (o := .cells #[.int .i64 t377, .int .i64 t378, .int .i64 t379, .int .i64 t380] 29 (0, 0)) (by (with_reducible repeat (first | refine blk_drewN ?_ _ | refine blk_drew ?_ | refine blk_alloc ?_ _)); refine blk_far ?_ NB382_388.out _; (with_reducible repeat (first | refine blk_drewN ?_ _ | refine blk_drew ?_ | refine blk_alloc ?_ _)); refine blk_far ?_ NB382_388.out _; (with_reducible repeat (first | refine blk_drewN ?_ _ | refine blk_drew ?_ | refine blk_alloc ?_ _)); refine blk_far ?_ NB382_388.out _; (with_reducible repeat (first | refine blk_drewN ?_ _ | refine blk_drew ?_ | refine blk_alloc ?_ _)); refine blk_far ?_ NB382_388.out _; (with_reducible repeat (first | refine blk_drewN ?_ _ | refine blk_drew ?_ | refine blk_alloc ?_ _)); exact BK382.out) hb); replace BK388 := Aside0.mk (blk_below (g := gb388) (o := .cells #[.int .i64 t383, .int .i64 t384, .int .i64 t385, .int .i64 t386] 29 (0, 0)) (by (with_reducible repeat (first | refine blk_drewN ?_ _ | refine blk_drew ?_ | refine blk_alloc ?_ _)); refine blk_put (cs := #[.int .i64 t383, .int .i64 t384, .int .i64 t385, .int .i64 0]) ?_ 3 _ rfl; (with_reducible repeat (first | refine blk_drewN ?_ _ | refine blk_drew ?_ | refine blk_alloc ?_ _)); refine blk_put (cs := #[.int .i64 t383, .int .i64 t384, .int .i64 0, .int .i64 0]) ?_ 2 _ rfl; (with_reducible repeat (first | refine blk_drewN ?_ _ | refine blk_drew ?_ | refine blk_alloc ?_ _)); refine blk_put (cs := #[.int .i64 t383, .int .i64 0, .int .i64 0, .int .i64 0]) ?_ 1 _ rfl; (with_reducible repeat (first | refine blk_drewN ?_ _ | refine blk_drew ?_ | refine blk_alloc ?_ _)); refine blk_put (cs := #[.int .i64 0, .int .i64 0, .int .i64 0, .int .i64 0]) ?_ 0 _ rfl; (with_reducible repeat (first | refine blk_drewN ?_ _ | refine blk_drew ?_ | refine blk_alloc ?_ _)); exact BK388.out) hb); replace HB := Aside0.mk (below_step Hd.b_ hb); (try clear hb); (try clear hb2); (try clear hk); (try clear hi)))
                go_ret
                exact ⟨Hd.e_, Hd.b_⟩
              ·
               replace c158 := Bool.eq_false_iff.mpr c158
               subst c158
               have H1 : (some true) = some r := by rw [if_neg (show ¬ (false = true) by decide)] at H; exact H
               clear H
               have H := H1
               clear H1
               obtain rfl := Option.some.inj H
               go_wp2_with (first | ((with_reducible refine gate_callee (f := 19) rfl ?_); refine goesL_ (some 116) rfl rfl Try.func19 (by kernel_rfl) rfl #[.slice A0 l0.length c0] rfl Hd.m_ ?_; (with_reducible refine (spec_DrawGrowBox.calls kj82 _ _ l0 t377 t378 t379 t380 t381 _ ?side1 ?side2 A156.out).mono ?_); (case side1 => repeat (first | exact (Kd.C_below HR0.out HB.out) | (with_reducible refine Kd.C_alloc ?_ _) | (with_reducible refine Kd.C_drewN ?_ _) | (with_reducible refine Kd.C_drew ?_))); (case side2 => exact HC0.out); rintro e w221 ⟨rfl, hb⟩; refine ⟨_, rfl, ?_⟩; replace BK346 := Aside0.mk (Hd.kb_ BK346 hb); replace BK357 := Aside0.mk (Hd.kb_ BK357 hb); replace BK358 := Aside0.mk (Hd.kb_ BK358 hb); replace BK372 := Aside0.mk (Hd.kb_ BK372 hb); replace HB := Aside0.mk (below_step Hd.b_ hb); (try clear hb); (try clear hb2); (try clear hk); (try clear hi)) | ((with_reducible refine gate_dst (N := 11) rfl ?_); refine Hd.box_ 11 (#[.int .i64 0, .int .i64 0, .int .i64 0, .int .i64 0]) 29 ?_; intro gb382 hg w222 hbox hb; have BK382 := Aside0.mk (hbox); have GW382 := Aside0.mk ((Hd.g_ hg Hd.b_ : w.heap.size ≤ gb382)); have GE382 := Aside0.mk ((Hd.g_ hg Hd.b_ : w.heap.size ≤ gb382)); replace HB := Aside0.mk (below_step Hd.b_ hb); have NB346_382 := Aside0.mk ((Hd.lt_ BK346 hg)); have NB382_346 := Aside0.mk ((Hd.gt_ BK346 hg)); replace BK346 := Aside0.mk (Hd.kb_ BK346 hb); have NB357_382 := Aside0.mk ((Hd.lt_ BK357 hg)); have NB382_357 := Aside0.mk ((Hd.gt_ BK357 hg)); replace BK357 := Aside0.mk (Hd.kb_ BK357 hb); have NB358_382 := Aside0.mk ((Hd.lt_ BK358 hg)); have NB382_358 := Aside0.mk ((Hd.gt_ BK358 hg)); replace BK358 := Aside0.mk (Hd.kb_ BK358 hb); have NB372_382 := Aside0.mk ((Hd.lt_ BK372 hg)); have NB382_372 := Aside0.mk ((Hd.gt_ BK372 hg)); replace BK372 := Aside0.mk (Hd.kb_ BK372 hb); clear hb hbox hg; have hnb223 := NB382_346.out; have hnc223 := NB346_382.out; have hnb224 := NB382_357.out; have hnc224 := NB357_382.out; have hnb225 := NB382_358.out; have hnc225 := NB358_382.out; have hnb226 := NB382_372.out; have hnc226 := NB372_382.out; obtain ⟨hcz227_0, hcz227_1, hcz227_2, hcz227_3⟩ := Hd.c4_ BK382.out; obtain ⟨hfz227_0, hfz227_1, hfz227_2, hfz227_3⟩ := Hd.f4_ BK382.out) | ((with_reducible refine gate_callee (f := 20) rfl ?_); refine goesL_ (some 122) rfl rfl Try.func20 (by kernel_rfl) rfl #[.agg #[.int .i64 t377, .int .i64 t378, .int .i64 t379, .int .i64 t380], .int .i64 t381] rfl Hd.m_ ?_; (with_reducible refine (impl_GrowBox.calls t377 t378 t379 t380 t381 t383 t384 t385 t386 false _ A157.out).mono ?_); rintro e w228 ⟨rfl, hb⟩; refine ⟨_, rfl, ?_⟩; replace BK346 := Aside0.mk (blk_below (g := gb346) (o := .cells #[.int .i64 t341, .int .i64 t342, .int .i64 t343, .int .i64 t344] 29 (0, 0)) (by (with_reducible repeat (first | refine blk_drewN ?_ _ | refine blk_drew ?_ | refine blk_alloc ?_ _)); refine blk_far ?_ NB346_382.out _; (with_reducible repeat (first | refine blk_drewN ?_ _ | refine blk_drew ?_ | refine blk_alloc ?_ _)); refine blk_far ?_ NB346_382.out _; (with_reducible repeat (first | refine blk_drewN ?_ _ | refine blk_drew ?_ | refine blk_alloc ?_ _)); refine blk_far ?_ NB346_382.out _; (with_reducible repeat (first | refine blk_drewN ?_ _ | refine blk_drew ?_ | refine blk_alloc ?_ _)); refine blk_far ?_ NB346_382.out _; (with_reducible repeat (first | refine blk_drewN ?_ _ | refine blk_drew ?_ | refine blk_alloc ?_ _)); exact BK346.out) hb); replace BK357 := Aside0.mk (blk_below (g := gb357) (o := .cells #[.int .i64 t349, .int .i64 t350, .int .i64 t351, .int .i64 t352] 29 (0, 0)) (by (with_reducible repeat (first | refine blk_drewN ?_ _ | refine blk_drew ?_ | refine blk_alloc ?_ _)); refine blk_far ?_ NB357_382.out _; (with_reducible repeat (first | refine blk_drewN ?_ _ | refine blk_drew ?_ | refine blk_alloc ?_ _)); refine blk_far ?_ NB357_382.out _; (with_reducible repeat (first | refine blk_drewN ?_ _ | refine blk_drew ?_ | refine blk_alloc ?_ _)); refine blk_far ?_ NB357_382.out _; (with_reducible repeat (first | refine blk_drewN ?_ _ | refine blk_drew ?_ | refine blk_alloc ?_ _)); refine blk_far ?_ NB357_382.out _; (with_reducible repeat (first | refine blk_drewN ?_ _ | refine blk_drew ?_ | refine blk_alloc ?_ _)); exact BK357.out) hb); replace BK358 := Aside0.mk (blk_below (g := gb358) (o := .cells #[.int .i64 t353, .int .i64 t354, .int .i64 t355, .int .i64 t356] 29 (0, 0)) (by (with_reducible repeat (first | refine blk_drewN ?_ _ | refine blk_drew ?_ | refine blk_alloc ?_ _)); refine blk_far ?_ NB358_382.out _; (with_reducible repeat (first | refine blk_drewN ?_ _ | refine blk_drew ?_ | refine blk_alloc ?_ _)); refine blk_far ?_ NB358_382.out _; (with_reducible repeat (first | refine blk_drewN ?_ _ | refine blk_drew ?_ | refine blk_alloc ?_ _)); refine blk_far ?_ NB358_382.out _; (with_reducible repeat (first | refine blk_drewN ?_ _ | refine blk_drew ?_ | refine blk_alloc ?_ _)); refine blk_far ?_ NB358_382.out _; (with_reducible repeat (first | refine blk_drewN ?_ _ | refine blk_drew ?_ | refine blk_alloc ?_ _)); exact BK358.out) hb); replace BK372 := Aside0.mk (blk_below (g := gb372) (o := .cells #[.int .i64 t367, .int .i64 t368, .int .i64 t369, .int .i64 t370] 29 (0, 0)) (by (with_reducible repeat (first | refine blk_drewN ?_ _ | refine blk_drew ?_ | refine blk_alloc ?_ _)); refine blk_far ?_ NB372_382.out _; (with_reducible repeat (first | refine blk_drewN ?_ _ | refine blk_drew ?_ | refine blk_alloc ?_ _)); refine blk_far ?_ NB372_382.out _; (with_reducible repeat (first | refine blk_drewN ?_ _ | refine blk_drew ?_ | refine blk_alloc ?_ _)); refine blk_far ?_ NB372_382.out _; (with_reducible repeat (first | refine blk_drewN ?_ _ | refine blk_drew ?_ | refine blk_alloc ?_ _)); refine blk_far ?_ NB372_382.out _; (with_reducible repeat (first | refine blk_drewN ?_ _ | refine blk_drew ?_ | refine blk_alloc ?_ _)); exact BK372.out) hb); replace BK382 := Aside0.mk (blk_below (g := gb382) (o := .cells #[.int .i64 t377, .int .i64 t378, .int .i64 t379, .int .i64 t380] 29 (0, 0)) (by (with_reducible repeat (first | refine blk_drewN ?_ _ | refine blk_drew ?_ | refine blk_alloc ?_ _)); refine blk_put (cs := #[.int .i64 t377, .int .i64 t378, .int .i64 t379, .int .i64 0]) ?_ 3 _ rfl; (with_reducible repeat (first | refine blk_drewN ?_ _ | refine blk_drew ?_ | refine blk_alloc ?_ _)); refine blk_put (cs := #[.int .i64 t377, .int .i64 t378, .int .i64 0, .int .i64 0]) ?_ 2 _ rfl; (with_reducible repeat (first | refine blk_drewN ?_ _ | refine blk_drew ?_ | refine blk_alloc ?_ _)); refine blk_put (cs := #[.int .i64 t377, .int .i64 0, .int .i64 0, .int .i64 0]) ?_ 1 _ rfl; (with_reducible repeat (first | refine blk_drewN ?_ _ | refine blk_drew ?_ | refine blk_alloc ?_ _)); refine blk_put (cs := #[.int .i64 0, .int .i64 0, .int .i64 0, .int .i64 0]) ?_ 0 _ rfl; (with_reducible repeat (first | refine blk_drewN ?_ _ | refine blk_drew ?_ | refine blk_alloc ?_ _)); exact BK382.out) hb); replace HB := Aside0.mk (below_step Hd.b_ hb); (try clear hb); (try clear hb2); (try clear hk); (try clear hi)) | ((with_reducible refine gate_dst (N := 13) rfl ?_); refine Hd.box_ 13 (#[.int .i64 0, .int .i64 0, .int .i64 0, .int .i64 0]) 29 ?_; intro gb388 hg w229 hbox hb; have BK388 := Aside0.mk (hbox); have GW388 := Aside0.mk ((Hd.g_ hg Hd.b_ : w.heap.size ≤ gb388)); have GE388 := Aside0.mk ((Hd.g_ hg Hd.b_ : w.heap.size ≤ gb388)); replace HB := Aside0.mk (below_step Hd.b_ hb); have NB346_388 := Aside0.mk ((Hd.lt_ BK346 hg)); have NB388_346 := Aside0.mk ((Hd.gt_ BK346 hg)); replace BK346 := Aside0.mk (Hd.kb_ BK346 hb); have NB357_388 := Aside0.mk ((Hd.lt_ BK357 hg)); have NB388_357 := Aside0.mk ((Hd.gt_ BK357 hg)); replace BK357 := Aside0.mk (Hd.kb_ BK357 hb); have NB358_388 := Aside0.mk ((Hd.lt_ BK358 hg)); have NB388_358 := Aside0.mk ((Hd.gt_ BK358 hg)); replace BK358 := Aside0.mk (Hd.kb_ BK358 hb); have NB372_388 := Aside0.mk ((Hd.lt_ BK372 hg)); have NB388_372 := Aside0.mk ((Hd.gt_ BK372 hg)); replace BK372 := Aside0.mk (Hd.kb_ BK372 hb); have NB382_388 := Aside0.mk ((Hd.lt_ BK382 hg)); have NB388_382 := Aside0.mk ((Hd.gt_ BK382 hg)); replace BK382 := Aside0.mk (Hd.kb_ BK382 hb); clear hb hbox hg; have hnb230 := NB388_346.out; have hnc230 := NB346_388.out; have hnb231 := NB388_357.out; have hnc231 := NB357_388.out; have hnb232 := NB388_358.out; have hnc232 := NB358_388.out; have hnb233 := NB388_372.out; have hnc233 := NB372_388.out; have hnb234 := NB388_382.out; have hnc234 := NB382_388.out; obtain ⟨hcz235_0, hcz235_1, hcz235_2, hcz235_3⟩ := Hd.c4_ BK388.out; obtain ⟨hfz235_0, hfz235_1, hfz235_2, hfz235_3⟩ := Hd.f4_ BK388.out))
               go_ret
               exact ⟨Hd.e_, Hd.b_⟩
end Go.Proofs.Ytbackoeakepngaa.MFnBoxes
