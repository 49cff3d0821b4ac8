-- Laid by this session's program pp.py, after the kit's print and texts of the session's own. Not trusted: Lean checks it.
import Derived.Test.YtchmbcembbbplabMFnExactIsInsidex0
import Derived.Test.YtchmbcembbbplabMFnExactIsInsidex1
import Derived.Test.YtchmbcembbbplabMFnExactIsInsidex2
import Derived.Test.YtchmbcembbbplabMFnExactIsInsidex3
import Derived.Test.YtchmbcembbbplabMFnExactIsInsidex6
namespace Go.Proofs.Ytchmbcembbbplab.MFnExactIsInside
open Go.RowKit Go.Proofs.YtchmbcembbbplabW.PrintWords Go.Proofs.YtchmbcembbbplabW.PrintLast Go.Proofs.YtchmbcembbbplabW.PrintMore
attribute [local go_sem] max2_int min2_int max_two min_two max_three min_three max_four min_four   -- for this text's walks alone
set_option linter.unusedVariables false
set_option linter.unusedSimpArgs false

attribute [local go_sem high] eqA27
/-! ### impl_IsInside: function 62 -/
def impl_IsInside.l0 : Nat → Bool → List (S60) → Int → Int → Int → Int → Option (Bool)
 | 0, _, _, _, _, _, _ => none
 | k + 1, x5, x13, x14, x15, x206000, x206001 => if x15 < x14 then (if 0 ≤ x15 then (if x15 < (x13.length : Int) then ((impl_IsOn.f k ((rd_T60 x13 x15).f0.f0) ((rd_T60 x13 x15).f0.f1) ((rd_T60 x13 x15).f1.f0) ((rd_T60 x13 x15).f1.f1) x206000 x206001).bind fun t212 => (if t212 = true then (some true) else (if ((decide (((rd_T60 x13 x15).f1.f1) > x206001)) != (decide (((rd_T60 x13 x15).f0.f1) > x206001))) = true then ((impl_SideOf.f k ((rd_T60 x13 x15).f0.f0) ((rd_T60 x13 x15).f0.f1) ((rd_T60 x13 x15).f1.f0) ((rd_T60 x13 x15).f1.f1) x206000 x206001).bind fun t213 => (if ((decide (t213 > 0)) == (decide (((rd_T60 x13 x15).f1.f1) > x206001))) = true then (impl_IsInside.l0 k (!x5) x13 x14 (wrap64 (x15 + 1)) x206000 x206001) else (impl_IsInside.l0 k x5 x13 x14 (wrap64 (x15 + 1)) x206000 x206001))) else (impl_IsInside.l0 k x5 x13 x14 (wrap64 (x15 + 1)) x206000 x206001)))) else (none)) else (none)) else (some x5)
def impl_IsInside.f (k : Nat) (l0 : List (S27)) (a1_0 : Int) (a1_1 : Int) : Option (Bool) := (impl_IsPoint.f a1_0 a1_1).bind fun t206 => (if t206 = true then ((impl_RingSegments.f k l0).bind fun t207 => (impl_IsInside.l0 k false t207 (t207.length : Int) 0 a1_0 a1_1)) else (some false))
theorem impl_IsInside.mono_l : ∀ k, (∀ y0 y1 y2 y3 y4 y5, LeO (impl_IsInside.l0 k y0 y1 y2 y3 y4 y5) (impl_IsInside.l0 (k + 1) y0 y1 y2 y3 y4 y5))
 | 0 => fun _ _ _ _ _ _ r h => by simp [impl_IsInside.l0] at h
 | k + 1 => by
  have ih0 := impl_IsInside.mono_l k
  ·
   intro y0 y1 y2 y3 y4 y5
   unfold impl_IsInside.l0
   repeat' first
   | (with_reducible exact ih0 _ _ _ _ _ _)
   | (with_reducible exact impl_IsOn.mono _ _ _ _ _ _ _)
   | (with_reducible exact impl_RingSegments.mono _ _)
   | (with_reducible exact impl_SideOf.mono _ _ _ _ _ _ _)
   | (with_reducible exact LeO.refl _)
   | (with_reducible exact LeO.none _)
   | (with_reducible refine LeO.ite ?_ ?_)
   | (with_reducible refine LeO.bind ?_ (fun _ => ?_))
   | exact ih0 _ _ _ _ _ _
   | exact impl_IsOn.mono _ _ _ _ _ _ _
   | exact impl_RingSegments.mono _ _
   | exact impl_SideOf.mono _ _ _ _ _ _ _
   | exact LeO.none _
   | refine LeO.ite ?_ ?_
   | refine LeO.bind ?_ (fun _ => ?_)
theorem impl_IsInside.mono : ∀ a0 a1 a2 k, LeO (impl_IsInside.f k a0 a1 a2) (impl_IsInside.f (k + 1) a0 a1 a2) := by
 intro a0 a1 a2 k
 have ih0 := impl_IsInside.mono_l k
 unfold impl_IsInside.f
 repeat' first
   | (with_reducible exact ih0 _ _ _ _ _ _)
   | (with_reducible exact impl_IsOn.mono _ _ _ _ _ _ _)
   | (with_reducible exact impl_RingSegments.mono _ _)
   | (with_reducible exact impl_SideOf.mono _ _ _ _ _ _ _)
   | (with_reducible exact LeO.refl _)
   | (with_reducible exact LeO.none _)
   | (with_reducible refine LeO.ite ?_ ?_)
   | (with_reducible refine LeO.bind ?_ (fun _ => ?_))
   | exact ih0 _ _ _ _ _ _
   | exact impl_IsOn.mono _ _ _ _ _ _ _
   | exact impl_RingSegments.mono _ _
   | exact impl_SideOf.mono _ _ _ _ _ _ _
   | exact LeO.none _
   | refine LeO.ite ?_ ?_
   | refine LeO.bind ?_ (fun _ => ?_)
set_option maxHeartbeats 8000000 in
set_option maxRecDepth 100000 in
theorem impl_IsInside.calls (k : Nat) (A0 : Option Addr) (c0 : Nat) (l0 : List (S27)) (a1_0 : Int) (a1_1 : Int) (r : Bool) (w : World) (hr0 : Kd.C k27 w A0 l0.length l0) (hc0 : l0.length ≤ c0) (h : impl_IsInside.f k l0 a1_0 a1_1 = some r) :
  Calls Try.prog 62 #[.slice A0 l0.length c0, .agg #[.int .i64 a1_0, .int .i64 a1_1]] w fun e w' => e = .returned (.bool r) ∧ Below w.heap.size w w' := by
 have hu27 := Try.underlying27
 have hu60 := Try.underlying60
 have HR0 := Aside0.mk hr0
 have HC0 := Aside0.mk hc0
 clear hr0 hc0
 have HB := Aside0.mk (Below.refl w.heap.size w)
 have H : ((impl_IsPoint.f a1_0 a1_1).bind fun t206 => (if t206 = true then ((impl_RingSegments.f k l0).bind fun t207 => (impl_IsInside.l0 k false t207 (t207.length : Int) 0 a1_0 a1_1)) else (some false))) = some r := h
 clear h
 replace H := Option.bind_eq_some_iff.mp H
 obtain ⟨t206, A30, H⟩ := H
 replace H : (if t206 = true then ((impl_RingSegments.f k l0).bind fun t207 => (impl_IsInside.l0 k false t207 (t207.length : Int) 0 a1_0 a1_1)) else (some false)) = some r := H
 have A3 := Aside0.mk A30
 clear A30
 by_cases c4 : t206 = true
 ·
  subst c4
  have H1 : ((impl_RingSegments.f k l0).bind fun t207 => (impl_IsInside.l0 k false t207 (t207.length : Int) 0 a1_0 a1_1)) = some r := by rw [if_pos rfl] at H; exact H
  clear H
  have H := H1
  clear H1
  replace H := Option.bind_eq_some_iff.mp H
  obtain ⟨t207, A50, H⟩ := H
  replace H : (impl_IsInside.l0 k false t207 (t207.length : Int) 0 a1_0 a1_1) = some r := H
  have A5 := Aside0.mk A50
  clear A50
  have H' := Aside0.mk H
  clear H
  go_enter Try.func62, Try.ntmps62
  go_wp2_with (first | ((with_reducible refine gate_dst (N := 3) rfl ?_); refine Hd.box_ 3 (#[.int .i64 a1_0, .int .i64 a1_1]) 27 ?_; intro gb205 hg w6 hbox hb; have BK205 := Aside0.mk (hbox); have GW205 := Aside0.mk ((Hd.g_ hg Hd.b_ : w.heap.size ≤ gb205)); have GE205 := Aside0.mk ((Hd.g_ hg Hd.b_ : w.heap.size ≤ gb205)); replace HB := Aside0.mk (below_step Hd.b_ hb); clear hb hbox hg; obtain ⟨hcz7_0, hcz7_1⟩ := Hd.c2_ BK205.out; obtain ⟨hfz7_0, hfz7_1⟩ := Hd.f2_ BK205.out) | ((with_reducible refine gate_callee (f := 63) rfl ?_); refine goesL_ (some 10) rfl rfl Try.func63 (by kernel_rfl) rfl #[.agg #[.int .i64 a1_0, .int .i64 a1_1]] rfl Hd.m_ ?_; (with_reducible refine (impl_IsPoint.calls a1_0 a1_1 true _ A3.out).mono ?_); rintro e w8 ⟨rfl, hb⟩; refine ⟨_, rfl, ?_⟩; replace BK205 := Aside0.mk (Hd.kb_ BK205 hb); replace HB := Aside0.mk (below_step Hd.b_ hb); (try clear hb); (try clear hb2); (try clear hk); (try clear hi)) | ((with_reducible refine gate_callee (f := 64) rfl ?_); refine goesL_ (some 13) rfl rfl Try.func64 (by kernel_rfl) rfl #[.slice A0 l0.length c0] rfl Hd.m_ ?_; (with_reducible refine (impl_RingSegments.calls k _ _ l0 t207 _ ?side1 ?side2 A5.out).mono ?_); (case side1 => repeat (first | exact (Kd.C_below HR0.out HB.out) | (with_reducible refine Kd.C_alloc ?_ _) | (with_reducible refine Kd.C_drewN ?_ _) | (with_reducible refine Kd.C_drew ?_))); (case side2 => exact HC0.out); rintro e w9 ⟨v208, rfl, ho0, hb⟩; refine ⟨_, rfl, ?_⟩; have HO209 := Aside0.mk (Kd.R_lower ho0 (below_size Hd.b_)); replace BK205 := Aside0.mk (Hd.kb_ BK205 hb); replace HB := Aside0.mk (below_step Hd.b_ hb); (try clear hb); (try clear hb2); (try clear hk); (try clear hi); (try clear ho0); obtain ⟨Ao10, co10, eo10⟩ := Kd.R_slice HO209.out; subst eo10))
  go_loopg [5, 15] k (fun kq v5 v15 w' => ∃ (x5_1 : Bool) (x15_1 : Int), v5 = .bool x5_1 ∧ v15 = .int .i64 x15_1 ∧ Aside0 (impl_IsInside.l0 kq x5_1 t207 (t207.length : Int) x15_1 a1_0 a1_1 = some r) ∧ Aside0 (kq ≤ k) ∧ Aside0 (Kd.R k60 60 w' w.heap.size (fun _ => True) (.slice Ao10 t207.length co10) t207) ∧ Aside0 (w'.heap[gb205]? = some (.cells #[.int .i64 a1_0, .int .i64 a1_1] 27 (0, 0))) ∧ Aside0 (Below w.heap.size w w'))
  case atStart => exact ⟨(false), (0), (by first | rfl | (simp; done) | (simp [*]; done)), (by first | rfl | (simp; done) | (simp [*]; done)), H', ⟨Nat.le_refl _⟩, ⟨by (with_reducible repeat (first | apply Kd.R_alloc | apply Kd.R_drewN | apply Kd.R_drew)); exact HO209.out⟩, ⟨by (with_reducible repeat (first | refine blk_drewN ?_ _ | refine blk_drew ?_ | refine blk_alloc ?_ _)); exact BK205.out⟩, ⟨Hd.b_⟩⟩
  case round =>
   clear H'
   try clear p2
   try clear c4
   try clear c6
   try clear hcz7_0
   try clear hcz7_1
   try clear hfz7_0
   try clear hfz7_1
   obtain ⟨x5_1, x15_1, rfl, rfl, HA, HK1, HO_13, BK205, HB⟩ := hrel
   cases gk with
   | zero => exact absurd HA.out (by simp [impl_IsInside.l0])
   | succ k1 =>
    have H := HA.out
    clear HA
    simp only [impl_IsInside.l0] at H
    by_cases c11 : x15_1 < (t207.length : Int)
    ·
     rw [if_pos c11] at H
     have c11b0 : decide (x15_1 < (t207.length : Int)) = true := decide_eq_true c11
     clear c11
     by_cases c12 : 0 ≤ x15_1
     ·
      rw [if_pos c12] at H
      have c12b0 : decide (0 ≤ x15_1) = true := decide_eq_true c12
      clear c12
      by_cases c13 : x15_1 < (t207.length : Int)
      ·
       rw [if_pos c13] at H
       have c13b0 : decide (x15_1 < (t207.length : Int)) = true := decide_eq_true c13
       clear c13
       replace H := Option.bind_eq_some_iff.mp H
       obtain ⟨t212, A140, H⟩ := H
       replace H : (if t212 = true then (some true) else (if ((decide (((rd_T60 t207 x15_1).f1.f1) > a1_1)) != (decide (((rd_T60 t207 x15_1).f0.f1) > a1_1))) = true then ((impl_SideOf.f k1 ((rd_T60 t207 x15_1).f0.f0) ((rd_T60 t207 x15_1).f0.f1) ((rd_T60 t207 x15_1).f1.f0) ((rd_T60 t207 x15_1).f1.f1) a1_0 a1_1).bind fun t213 => (if ((decide (t213 > 0)) == (decide (((rd_T60 t207 x15_1).f1.f1) > a1_1))) = true then (impl_IsInside.l0 k1 (!x5_1) t207 (t207.length : Int) (wrap64 (x15_1 + 1)) a1_0 a1_1) else (impl_IsInside.l0 k1 x5_1 t207 (t207.length : Int) (wrap64 (x15_1 + 1)) a1_0 a1_1))) else (impl_IsInside.l0 k1 x5_1 t207 (t207.length : Int) (wrap64 (x15_1 + 1)) a1_0 a1_1))) = some r := H
       have A14 := Aside0.mk A140
       clear A140
       by_cases c15 : t212 = true
       ·
        subst c15
        have H1 : (some true) = some r := by rw [if_pos rfl] at H; exact H
        clear H
        have H := H1
        clear H1
        obtain rfl := Option.some.inj H
        have p210 : 0 ≤ (x15_1 : Int) := of_decide_eq_true Hd.a_
        have q210 : x15_1 < (t207.length : Int) := of_decide_eq_true Hd.a_
        obtain ⟨ad210, e210, hx210_0, hx210_1, hx210_2, hx210_3⟩ := at_T60 (Kd.R_reads' HO_13.out).2.2 x15_1 p210 q210
        cases e210
        replace p210 := eq_true p210
        replace q210 := eq_true q210
        go_wp2_with (first | ((with_reducible refine gate_dst (N := 7) rfl ?_); refine Hd.box_ 7 (#[.int .i64 0, .int .i64 0, .int .i64 0, .int .i64 0]) 60 ?_; intro gb211 hg w16 hbox hb; replace HO_13 := Aside0.mk (Kd.R_below (Kd.R_elderB (Hd.r_ HO_13) gb211 (Nat.le_of_eq hg.symm)) hb); have BK211 := Aside0.mk (hbox); have GW211 := Aside0.mk ((Hd.g_ hg Hd.b_ : w.heap.size ≤ gb211)); have GE211 := Aside0.mk ((Hd.g_ hg Hd.b_ : w.heap.size ≤ gb211)); replace HB := Aside0.mk (below_step Hd.b_ hb); have NB205_211 := Aside0.mk ((Hd.lt_ BK205 hg)); have NB211_205 := Aside0.mk ((Hd.gt_ BK205 hg)); replace BK205 := Aside0.mk (Hd.kb_ BK205 hb); clear hb hbox hg; have hnb17 := NB211_205.out; have hnc17 := NB205_211.out; obtain ⟨hcz18_0, hcz18_1, hcz18_2, hcz18_3⟩ := Hd.c4_ BK211.out; obtain ⟨hfz18_0, hfz18_1, hfz18_2, hfz18_3⟩ := Hd.f4_ BK211.out; obtain ⟨hcz19_0, hcz19_1⟩ := Hd.c2_ BK205.out; obtain ⟨hfz19_0, hfz19_1⟩ := Hd.f2_ BK205.out) | ((with_reducible refine gate_callee (f := 109) rfl ?_); refine goesL_ (some 21) rfl rfl Try.func109 (by kernel_rfl) rfl #[.agg #[.int .i64 ((rd_T60 t207 x15_1).f0.f0), .int .i64 ((rd_T60 t207 x15_1).f0.f1), .int .i64 ((rd_T60 t207 x15_1).f1.f0), .int .i64 ((rd_T60 t207 x15_1).f1.f1)], .agg #[.int .i64 a1_0, .int .i64 a1_1]] rfl Hd.m_ ?_; (with_reducible refine (impl_IsOn.calls k1 ((rd_T60 t207 x15_1).f0.f0) ((rd_T60 t207 x15_1).f0.f1) ((rd_T60 t207 x15_1).f1.f0) ((rd_T60 t207 x15_1).f1.f1) a1_0 a1_1 true _ A14.out).mono ?_); rintro e w20 ⟨rfl, hb⟩; refine ⟨_, rfl, ?_⟩; replace HO_13 := Aside0.mk (Kd.R_below (by (with_reducible repeat (first | apply Kd.R_alloc | apply Kd.R_drewN | apply Kd.R_drew)); exact (Kd.R_mono (Kd.R_far (p := ⟨gb211, 3, none⟩) (Kd.R_far (p := ⟨gb211, 2, none⟩) (Kd.R_far (p := ⟨gb211, 1, none⟩) (Kd.R_far (p := ⟨gb211, 0, none⟩) (Kd.R_mono HO_13.out (fun k_ hk => (⟨hk, hk.2⟩ : _ ∧ k_ ≠ gb211))) (fun _ hk => hk.2) (.int .i64 ((rd_T60 t207 x15_1).f0.f0))) (fun _ hk => hk.2) (.int .i64 ((rd_T60 t207 x15_1).f0.f1))) (fun _ hk => hk.2) (.int .i64 ((rd_T60 t207 x15_1).f1.f0))) (fun _ hk => hk.2) (.int .i64 ((rd_T60 t207 x15_1).f1.f1))) (fun _ h_ => h_.1))) hb); replace BK205 := Aside0.mk (blk_below (g := gb205) (o := .cells #[.int .i64 a1_0, .int .i64 a1_1] 27 (0, 0)) (by (with_reducible repeat (first | refine blk_drewN ?_ _ | refine blk_drew ?_ | refine blk_alloc ?_ _)); refine blk_far ?_ NB205_211.out _; (with_reducible repeat (first | refine blk_drewN ?_ _ | refine blk_drew ?_ | refine blk_alloc ?_ _)); refine blk_far ?_ NB205_211.out _; (with_reducible repeat (first | refine blk_drewN ?_ _ | refine blk_drew ?_ | refine blk_alloc ?_ _)); refine blk_far ?_ NB205_211.out _; (with_reducible repeat (first | refine blk_drewN ?_ _ | refine blk_drew ?_ | refine blk_alloc ?_ _)); refine blk_far ?_ NB205_211.out _; (with_reducible repeat (first | refine blk_drewN ?_ _ | refine blk_drew ?_ | refine blk_alloc ?_ _)); exact BK205.out) hb); replace BK211 := Aside0.mk (blk_below (g := gb211) (o := .cells #[.int .i64 ((rd_T60 t207 x15_1).f0.f0), .int .i64 ((rd_T60 t207 x15_1).f0.f1), .int .i64 ((rd_T60 t207 x15_1).f1.f0), .int .i64 ((rd_T60 t207 x15_1).f1.f1)] 60 (0, 0)) (by (with_reducible repeat (first | refine blk_drewN ?_ _ | refine blk_drew ?_ | refine blk_alloc ?_ _)); refine blk_put (cs := #[.int .i64 ((rd_T60 t207 x15_1).f0.f0), .int .i64 ((rd_T60 t207 x15_1).f0.f1), .int .i64 ((rd_T60 t207 x15_1).f1.f0), .int .i64 0]) ?_ 3 _ rfl; (with_reducible repeat (first | refine blk_drewN ?_ _ | refine blk_drew ?_ | refine blk_alloc ?_ _)); refine blk_put (cs := #[.int .i64 ((rd_T60 t207 x15_1).f0.f0), .int .i64 ((rd_T60 t207 x15_1).f0.f1), .int .i64 0, .int .i64 0]) ?_ 2 _ rfl; (with_reducible repeat (first | refine blk_drewN ?_ _ | refine blk_drew ?_ | refine blk_alloc ?_ _)); refine blk_put (cs := #[.int .i64 ((rd_T60 t207 x15_1).f0.f0), .int .i64 0, .int .i64 0, .int .i64 0]) ?_ 1 _ rfl; (with_reducible repeat (first | refine blk_drewN ?_ _ | refine blk_drew ?_ | refine blk_alloc ?_ _)); refine blk_put (cs := #[.int .i64 0, .int .i64 0, .int .i64 0, .int .i64 0]) ?_ 0 _ rfl; (with_reducible repeat (first | refine blk_drewN ?_ _ | refine blk_drew ?_ | refine blk_alloc ?_ _)); exact BK211.out) hb); replace HB := Aside0.mk (below_step Hd.b_ hb); (try clear hb); (try clear hb2); (try clear hk); (try clear hi)))
        go_ret
        exact ⟨Hd.e_, Hd.b_⟩
       ·
        replace c15 := Bool.eq_false_iff.mpr c15
        subst c15
        have H1 : (if ((decide (((rd_T60 t207 x15_1).f1.f1) > a1_1)) != (decide (((rd_T60 t207 x15_1).f0.f1) > a1_1))) = true then ((impl_SideOf.f k1 ((rd_T60 t207 x15_1).f0.f0) ((rd_T60 t207 x15_1).f0.f1) ((rd_T60 t207 x15_1).f1.f0) ((rd_T60 t207 x15_1).f1.f1) a1_0 a1_1).bind fun t213 => (if ((decide (t213 > 0)) == (decide (((rd_T60 t207 x15_1).f1.f1) > a1_1))) = true then (impl_IsInside.l0 k1 (!x5_1) t207 (t207.length : Int) (wrap64 (x15_1 + 1)) a1_0 a1_1) else (impl_IsInside.l0 k1 x5_1 t207 (t207.length : Int) (wrap64 (x15_1 + 1)) a1_0 a1_1))) else (impl_IsInside.l0 k1 x5_1 t207 (t207.length : Int) (wrap64 (x15_1 + 1)) a1_0 a1_1)) = some r := by rw [if_neg (show ¬ (false = true) by decide)] at H; exact H
        clear H
        have H := H1
        clear H1
        by_cases c21 : ((decide (((rd_T60 t207 x15_1).f1.f1) > a1_1)) != (decide (((rd_T60 t207 x15_1).f0.f1) > a1_1))) = true
        ·
         rw [if_pos c21] at H
         have c21b0 : ((decide (((rd_T60 t207 x15_1).f1.f1) > a1_1)) != (decide (((rd_T60 t207 x15_1).f0.f1) > a1_1))) = true := c21
         (try (have c21b1 : decide ((decide (((rd_T60 t207 x15_1).f1.f1) > a1_1)) = (decide (((rd_T60 t207 x15_1).f0.f1) > a1_1))) = false := by simpa using c21))
         (try (have c21b2 : ((decide (((rd_T60 t207 x15_1).f1.f1) > a1_1)) == (decide (((rd_T60 t207 x15_1).f0.f1) > a1_1))) = false := by simpa using c21))
         (try (have c21b3 : ¬ ((decide (((rd_T60 t207 x15_1).f1.f1) > a1_1)) = (decide (((rd_T60 t207 x15_1).f0.f1) > a1_1))) := by simpa using c21))
         clear c21
         replace H := Option.bind_eq_some_iff.mp H
         obtain ⟨t213, A220, H⟩ := H
         replace H : (if ((decide (t213 > 0)) == (decide (((rd_T60 t207 x15_1).f1.f1) > a1_1))) = true then (impl_IsInside.l0 k1 (!x5_1) t207 (t207.length : Int) (wrap64 (x15_1 + 1)) a1_0 a1_1) else (impl_IsInside.l0 k1 x5_1 t207 (t207.length : Int) (wrap64 (x15_1 + 1)) a1_0 a1_1)) = some r := H
         have A22 := Aside0.mk A220
         clear A220
         by_cases c23 : ((decide (t213 > 0)) == (decide (((rd_T60 t207 x15_1).f1.f1) > a1_1))) = true
         ·
          rw [if_pos c23] at H
          have c23b0 : ((decide (t213 > 0)) == (decide (((rd_T60 t207 x15_1).f1.f1) > a1_1))) = true := c23
          (try (have c23b1 : decide ((decide (t213 > 0)) = (decide (((rd_T60 t207 x15_1).f1.f1) > a1_1))) = true := by simpa using c23))
          (try (have c23b2 : ((decide (t213 > 0)) == (decide (((rd_T60 t207 x15_1).f1.f1) > a1_1))) = true := by simpa using c23))
          clear c23
          have H' := Aside0.mk H
          clear H
          have p210 : 0 ≤ (x15_1 : Int) := of_decide_eq_true Hd.a_
          have q210 : x15_1 < (t207.length : Int) := of_decide_eq_true Hd.a_
          obtain ⟨ad210, e210, hx210_0, hx210_1, hx210_2, hx210_3⟩ := at_T60 (Kd.R_reads' HO_13.out).2.2 x15_1 p210 q210
          cases e210
          replace p210 := eq_true p210
          replace q210 := eq_true q210
          go_wp2_with (first | ((with_reducible refine gate_dst (N := 7) rfl ?_); refine Hd.box_ 7 (#[.int .i64 0, .int .i64 0, .int .i64 0, .int .i64 0]) 60 ?_; intro gb211 hg w24 hbox hb; replace HO_13 := Aside0.mk (Kd.R_below (Kd.R_elderB (Hd.r_ HO_13) gb211 (Nat.le_of_eq hg.symm)) hb); have BK211 := Aside0.mk (hbox); have GW211 := Aside0.mk ((Hd.g_ hg Hd.b_ : w.heap.size ≤ gb211)); have GE211 := Aside0.mk ((Hd.g_ hg Hd.b_ : w.heap.size ≤ gb211)); replace HB := Aside0.mk (below_step Hd.b_ hb); have NB205_211 := Aside0.mk ((Hd.lt_ BK205 hg)); have NB211_205 := Aside0.mk ((Hd.gt_ BK205 hg)); replace BK205 := Aside0.mk (Hd.kb_ BK205 hb); clear hb hbox hg; have hnb25 := NB211_205.out; have hnc25 := NB205_211.out; obtain ⟨hcz26_0, hcz26_1, hcz26_2, hcz26_3⟩ := Hd.c4_ BK211.out; obtain ⟨hfz26_0, hfz26_1, hfz26_2, hfz26_3⟩ := Hd.f4_ BK211.out; obtain ⟨hcz27_0, hcz27_1⟩ := Hd.c2_ BK205.out; obtain ⟨hfz27_0, hfz27_1⟩ := Hd.f2_ BK205.out) | ((with_reducible refine gate_callee (f := 109) rfl ?_); refine goesL_ (some 21) rfl rfl Try.func109 (by kernel_rfl) rfl #[.agg #[.int .i64 ((rd_T60 t207 x15_1).f0.f0), .int .i64 ((rd_T60 t207 x15_1).f0.f1), .int .i64 ((rd_T60 t207 x15_1).f1.f0), .int .i64 ((rd_T60 t207 x15_1).f1.f1)], .agg #[.int .i64 a1_0, .int .i64 a1_1]] rfl Hd.m_ ?_; (with_reducible refine (impl_IsOn.calls k1 ((rd_T60 t207 x15_1).f0.f0) ((rd_T60 t207 x15_1).f0.f1) ((rd_T60 t207 x15_1).f1.f0) ((rd_T60 t207 x15_1).f1.f1) a1_0 a1_1 false _ A14.out).mono ?_); rintro e w28 ⟨rfl, hb⟩; refine ⟨_, rfl, ?_⟩; replace HO_13 := Aside0.mk (Kd.R_below (by (with_reducible repeat (first | apply Kd.R_alloc | apply Kd.R_drewN | apply Kd.R_drew)); exact (Kd.R_mono (Kd.R_far (p := ⟨gb211, 3, none⟩) (Kd.R_far (p := ⟨gb211, 2, none⟩) (Kd.R_far (p := ⟨gb211, 1, none⟩) (Kd.R_far (p := ⟨gb211, 0, none⟩) (Kd.R_mono HO_13.out (fun k_ hk => (⟨hk, hk.2⟩ : _ ∧ k_ ≠ gb211))) (fun _ hk => hk.2) (.int .i64 ((rd_T60 t207 x15_1).f0.f0))) (fun _ hk => hk.2) (.int .i64 ((rd_T60 t207 x15_1).f0.f1))) (fun _ hk => hk.2) (.int .i64 ((rd_T60 t207 x15_1).f1.f0))) (fun _ hk => hk.2) (.int .i64 ((rd_T60 t207 x15_1).f1.f1))) (fun _ h_ => h_.1))) hb); replace BK205 := Aside0.mk (blk_below (g := gb205) (o := .cells #[.int .i64 a1_0, .int .i64 a1_1] 27 (0, 0)) (by (with_reducible repeat (first | refine blk_drewN ?_ _ | refine blk_drew ?_ | refine blk_alloc ?_ _)); refine blk_far ?_ NB205_211.out _; (with_reducible repeat (first | refine blk_drewN ?_ _ | refine blk_drew ?_ | refine blk_alloc ?_ _)); refine blk_far ?_ NB205_211.out _; (with_reducible repeat (first | refine blk_drewN ?_ _ | refine blk_drew ?_ | refine blk_alloc ?_ _)); refine blk_far ?_ NB205_211.out _; (with_reducible repeat (first | refine blk_drewN ?_ _ | refine blk_drew ?_ | refine blk_alloc ?_ _)); refine blk_far ?_ NB205_211.out _; (with_reducible repeat (first | refine blk_drewN ?_ _ | refine blk_drew ?_ | refine blk_alloc ?_ _)); exact BK205.out) hb); replace BK211 := Aside0.mk (blk_below (g := gb211) (o := .cells #[.int .i64 ((rd_T60 t207 x15_1).f0.f0), .int .i64 ((rd_T60 t207 x15_1).f0.f1), .int .i64 ((rd_T60 t207 x15_1).f1.f0), .int .i64 ((rd_T60 t207 x15_1).f1.f1)] 60 (0, 0)) (by (with_reducible repeat (first | refine blk_drewN ?_ _ | refine blk_drew ?_ | refine blk_alloc ?_ _)); refine blk_put (cs := #[.int .i64 ((rd_T60 t207 x15_1).f0.f0), .int .i64 ((rd_T60 t207 x15_1).f0.f1), .int .i64 ((rd_T60 t207 x15_1).f1.f0), .int .i64 0]) ?_ 3 _ rfl; (with_reducible repeat (first | refine blk_drewN ?_ _ | refine blk_drew ?_ | refine blk_alloc ?_ _)); refine blk_put (cs := #[.int .i64 ((rd_T60 t207 x15_1).f0.f0), .int .i64 ((rd_T60 t207 x15_1).f0.f1), .int .i64 0, .int .i64 0]) ?_ 2 _ rfl; (with_reducible repeat (first | refine blk_drewN ?_ _ | refine blk_drew ?_ | refine blk_alloc ?_ _)); refine blk_put (cs := #[.int .i64 ((rd_T60 t207 x15_1).f0.f0), .int .i64 0, .int .i64 0, .int .i64 0]) ?_ 1 _ rfl; (with_reducible repeat (first | refine blk_drewN ?_ _ | refine blk_drew ?_ | refine blk_alloc ?_ _)); refine blk_put (cs := #[.int .i64 0, .int .i64 0, .int .i64 0, .int .i64 0]) ?_ 0 _ rfl; (with_reducible repeat (first | refine blk_drewN ?_ _ | refine blk_drew ?_ | refine blk_alloc ?_ _)); exact BK211.out) hb); replace HB := Aside0.mk (below_step Hd.b_ hb); (try clear hb); (try clear hb2); (try clear hk); (try clear hi); obtain ⟨hcz29_0, hcz29_1, hcz29_2, hcz29_3⟩ := Hd.c4_ BK211.out; obtain ⟨hfz29_0, hfz29_1, hfz29_2, hfz29_3⟩ := Hd.f4_ BK211.out; obtain ⟨hcz30_0, hcz30_1⟩ := Hd.c2_ BK205.out; obtain ⟨hfz30_0, hfz30_1⟩ := Hd.f2_ BK205.out) | (go_at_call 110; (with_reducible refine (impl_SideOf.calls k1 ((rd_T60 t207 x15_1).f0.f0) ((rd_T60 t207 x15_1).f0.f1) ((rd_T60 t207 x15_1).f1.f0) ((rd_T60 t207 x15_1).f1.f1) a1_0 a1_1 t213 _ A22.out).mono ?_); rintro e w31 ⟨rfl, hb⟩; replace HO_13 := Aside0.mk (Kd.R_below (Hd.r_ HO_13) hb); replace BK205 := Aside0.mk (Hd.kb_ BK205 hb); replace BK211 := Aside0.mk (Hd.kb_ BK211 hb); replace HB := Aside0.mk (below_step Hd.b_ hb); (try clear hb); (try clear hb2); (try clear hk); (try clear hi)))
          go_roundg k1
          case measure => have := HK1.out; omega
          case rel => exact ⟨(!x5_1), (wrap64 (x15_1 + 1)), (by first | rfl | (simp; done) | (simp [*]; done)), (by first | rfl | (simp; done) | (simp [*]; done)), H', ⟨by have := HK1.out; omega⟩, ⟨by (with_reducible repeat (first | apply Kd.R_alloc | apply Kd.R_drewN | apply Kd.R_drew)); exact Kd.R_mono HO_13.out (fun _ hk => trivial)⟩, ⟨by (with_reducible repeat (first | refine blk_drewN ?_ _ | refine blk_drew ?_ | refine blk_alloc ?_ _)); exact BK205.out⟩, ⟨Hd.b_⟩⟩
         ·
          rw [if_neg c23] at H
          have c23b0 : ((decide (t213 > 0)) == (decide (((rd_T60 t207 x15_1).f1.f1) > a1_1))) = false := by simpa using c23
          (try (have c23b1 : decide ((decide (t213 > 0)) = (decide (((rd_T60 t207 x15_1).f1.f1) > a1_1))) = false := by simpa using c23))
          (try (have c23b2 : ((decide (t213 > 0)) == (decide (((rd_T60 t207 x15_1).f1.f1) > a1_1))) = false := by simpa using c23))
          (try (have c23b3 : ¬ ((decide (t213 > 0)) = (decide (((rd_T60 t207 x15_1).f1.f1) > a1_1))) := by simpa using c23))
          clear c23
          have H' := Aside0.mk H
          clear H
          have p210 : 0 ≤ (x15_1 : Int) := of_decide_eq_true Hd.a_
          have q210 : x15_1 < (t207.length : Int) := of_decide_eq_true Hd.a_
          obtain ⟨ad210, e210, hx210_0, hx210_1, hx210_2, hx210_3⟩ := at_T60 (Kd.R_reads' HO_13.out).2.2 x15_1 p210 q210
          cases e210
          replace p210 := eq_true p210
          replace q210 := eq_true q210
          go_wp2_with (first | ((with_reducible refine gate_dst (N := 7) rfl ?_); refine Hd.box_ 7 (#[.int .i64 0, .int .i64 0, .int .i64 0, .int .i64 0]) 60 ?_; intro gb211 hg w32 hbox hb; replace HO_13 := Aside0.mk (Kd.R_below (Kd.R_elderB (Hd.r_ HO_13) gb211 (Nat.le_of_eq hg.symm)) hb); have BK211 := Aside0.mk (hbox); have GW211 := Aside0.mk ((Hd.g_ hg Hd.b_ : w.heap.size ≤ gb211)); have GE211 := Aside0.mk ((Hd.g_ hg Hd.b_ : w.heap.size ≤ gb211)); replace HB := Aside0.mk (below_step Hd.b_ hb); have NB205_211 := Aside0.mk ((Hd.lt_ BK205 hg)); have NB211_205 := Aside0.mk ((Hd.gt_ BK205 hg)); replace BK205 := Aside0.mk (Hd.kb_ BK205 hb); clear hb hbox hg; have hnb33 := NB211_205.out; have hnc33 := NB205_211.out; obtain ⟨hcz34_0, hcz34_1, hcz34_2, hcz34_3⟩ := Hd.c4_ BK211.out; obtain ⟨hfz34_0, hfz34_1, hfz34_2, hfz34_3⟩ := Hd.f4_ BK211.out; obtain ⟨hcz35_0, hcz35_1⟩ := Hd.c2_ BK205.out; obtain ⟨hfz35_0, hfz35_1⟩ := Hd.f2_ BK205.out) | ((with_reducible refine gate_callee (f := 109) rfl ?_); refine goesL_ (some 21) rfl rfl Try.func109 (by kernel_rfl) rfl #[.agg #[.int .i64 ((rd_T60 t207 x15_1).f0.f0), .int .i64 ((rd_T60 t207 x15_1).f0.f1), .int .i64 ((rd_T60 t207 x15_1).f1.f0), .int .i64 ((rd_T60 t207 x15_1).f1.f1)], .agg #[.int .i64 a1_0, .int .i64 a1_1]] rfl Hd.m_ ?_; (with_reducible refine (impl_IsOn.calls k1 ((rd_T60 t207 x15_1).f0.f0) ((rd_T60 t207 x15_1).f0.f1) ((rd_T60 t207 x15_1).f1.f0) ((rd_T60 t207 x15_1).f1.f1) a1_0 a1_1 false _ A14.out).mono ?_); rintro e w36 ⟨rfl, hb⟩; refine ⟨_, rfl, ?_⟩; replace HO_13 := Aside0.mk (Kd.R_below (by (with_reducible repeat (first | apply Kd.R_alloc | apply Kd.R_drewN | apply Kd.R_drew)); exact (Kd.R_mono (Kd.R_far (p := ⟨gb211, 3, none⟩) (Kd.R_far (p := ⟨gb211, 2, none⟩) (Kd.R_far (p := ⟨gb211, 1, none⟩) (Kd.R_far (p := ⟨gb211, 0, none⟩) (Kd.R_mono HO_13.out (fun k_ hk => (⟨hk, hk.2⟩ : _ ∧ k_ ≠ gb211))) (fun _ hk => hk.2) (.int .i64 ((rd_T60 t207 x15_1).f0.f0))) (fun _ hk => hk.2) (.int .i64 ((rd_T60 t207 x15_1).f0.f1))) (fun _ hk => hk.2) (.int .i64 ((rd_T60 t207 x15_1).f1.f0))) (fun _ hk => hk.2) (.int .i64 ((rd_T60 t207 x15_1).f1.f1))) (fun _ h_ => h_.1))) hb); replace BK205 := Aside0.mk (blk_below (g := gb205) (o := .cells #[.int .i64 a1_0, .int .i64 a1_1] 27 (0, 0)) (by (with_reducible repeat (first | refine blk_drewN ?_ _ | refine blk_drew ?_ | refine blk_alloc ?_ _)); refine blk_far ?_ NB205_211.out _; (with_reducible repeat (first | refine blk_drewN ?_ _ | refine blk_drew ?_ | refine blk_alloc ?_ _)); refine blk_far ?_ NB205_211.out _; (with_reducible repeat (first | refine blk_drewN ?_ _ | refine blk_drew ?_ | refine blk_alloc ?_ _)); refine blk_far ?_ NB205_211.out _; (with_reducible repeat (first | refine blk_drewN ?_ _ | refine blk_drew ?_ | refine blk_alloc ?_ _)); refine blk_far ?_ NB205_211.out _; (with_reducible repeat (first | refine blk_drewN ?_ _ | refine blk_drew ?_ | refine blk_alloc ?_ _)); exact BK205.out) hb); replace BK211 := Aside0.mk (blk_below (g := gb211) (o := .cells #[.int .i64 ((rd_T60 t207 x15_1).f0.f0), .int .i64 ((rd_T60 t207 x15_1).f0.f1), .int .i64 ((rd_T60 t207 x15_1).f1.f0), .int .i64 ((rd_T60 t207 x15_1).f1.f1)] 60 (0, 0)) (by (with_reducible repeat (first | refine blk_drewN ?_ _ | refine blk_drew ?_ | refine blk_alloc ?_ _)); refine blk_put (cs := #[.int .i64 ((rd_T60 t207 x15_1).f0.f0), .int .i64 ((rd_T60 t207 x15_1).f0.f1), .int .i64 ((rd_T60 t207 x15_1).f1.f0), .int .i64 0]) ?_ 3 _ rfl; (with_reducible repeat (first | refine blk_drewN ?_ _ | refine blk_drew ?_ | refine blk_alloc ?_ _)); refine blk_put (cs := #[.int .i64 ((rd_T60 t207 x15_1).f0.f0), .int .i64 ((rd_T60 t207 x15_1).f0.f1), .int .i64 0, .int .i64 0]) ?_ 2 _ rfl; (with_reducible repeat (first | refine blk_drewN ?_ _ | refine blk_drew ?_ | refine blk_alloc ?_ _)); refine blk_put (cs := #[.int .i64 ((rd_T60 t207 x15_1).f0.f0), .int .i64 0, .int .i64 0, .int .i64 0]) ?_ 1 _ rfl; (with_reducible repeat (first | refine blk_drewN ?_ _ | refine blk_drew ?_ | refine blk_alloc ?_ _)); refine blk_put (cs := #[.int .i64 0, .int .i64 0, .int .i64 0, .int .i64 0]) ?_ 0 _ rfl; (with_reducible repeat (first | refine blk_drewN ?_ _ | refine blk_drew ?_ | refine blk_alloc ?_ _)); exact BK211.out) hb); replace HB := Aside0.mk (below_step Hd.b_ hb); (try clear hb); (try clear hb2); (try clear hk); (try clear hi); obtain ⟨hcz37_0, hcz37_1, hcz37_2, hcz37_3⟩ := Hd.c4_ BK211.out; obtain ⟨hfz37_0, hfz37_1, hfz37_2, hfz37_3⟩ := Hd.f4_ BK211.out; obtain ⟨hcz38_0, hcz38_1⟩ := Hd.c2_ BK205.out; obtain ⟨hfz38_0, hfz38_1⟩ := Hd.f2_ BK205.out) | (go_at_call 110; (with_reducible refine (impl_SideOf.calls k1 ((rd_T60 t207 x15_1).f0.f0) ((rd_T60 t207 x15_1).f0.f1) ((rd_T60 t207 x15_1).f1.f0) ((rd_T60 t207 x15_1).f1.f1) a1_0 a1_1 t213 _ A22.out).mono ?_); rintro e w39 ⟨rfl, hb⟩; replace HO_13 := Aside0.mk (Kd.R_below (Hd.r_ HO_13) hb); replace BK205 := Aside0.mk (Hd.kb_ BK205 hb); replace BK211 := Aside0.mk (Hd.kb_ BK211 hb); replace HB := Aside0.mk (below_step Hd.b_ hb); (try clear hb); (try clear hb2); (try clear hk); (try clear hi)))
          go_roundg k1
          case measure => have := HK1.out; omega
          case rel => exact ⟨(x5_1), (wrap64 (x15_1 + 1)), (by first | rfl | (simp; done) | (simp [*]; done)), (by first | rfl | (simp; done) | (simp [*]; done)), H', ⟨by have := HK1.out; omega⟩, ⟨by (with_reducible repeat (first | apply Kd.R_alloc | apply Kd.R_drewN | apply Kd.R_drew)); exact Kd.R_mono HO_13.out (fun _ hk => trivial)⟩, ⟨by (with_reducible repeat (first | refine blk_drewN ?_ _ | refine blk_drew ?_ | refine blk_alloc ?_ _)); exact BK205.out⟩, ⟨Hd.b_⟩⟩
        ·
         rw [if_neg c21] at H
         have c21b0 : ((decide (((rd_T60 t207 x15_1).f1.f1) > a1_1)) != (decide (((rd_T60 t207 x15_1).f0.f1) > a1_1))) = false := by simpa using c21
         (try (have c21b1 : decide ((decide (((rd_T60 t207 x15_1).f1.f1) > a1_1)) = (decide (((rd_T60 t207 x15_1).f0.f1) > a1_1))) = true := by simpa using c21))
         (try (have c21b2 : ((decide (((rd_T60 t207 x15_1).f1.f1) > a1_1)) == (decide (((rd_T60 t207 x15_1).f0.f1) > a1_1))) = true := by simpa using c21))
         clear c21
         have H' := Aside0.mk H
         clear H
         have p210 : 0 ≤ (x15_1 : Int) := of_decide_eq_true Hd.a_
         have q210 : x15_1 < (t207.length : Int) := of_decide_eq_true Hd.a_
         obtain ⟨ad210, e210, hx210_0, hx210_1, hx210_2, hx210_3⟩ := at_T60 (Kd.R_reads' HO_13.out).2.2 x15_1 p210 q210
         cases e210
         replace p210 := eq_true p210
         replace q210 := eq_true q210
         go_wp2_with (first | ((with_reducible refine gate_dst (N := 7) rfl ?_); refine Hd.box_ 7 (#[.int .i64 0, .int .i64 0, .int .i64 0, .int .i64 0]) 60 ?_; intro gb211 hg w40 hbox hb; replace HO_13 := Aside0.mk (Kd.R_below (Kd.R_elderB (Hd.r_ HO_13) gb211 (Nat.le_of_eq hg.symm)) hb); have BK211 := Aside0.mk (hbox); have GW211 := Aside0.mk ((Hd.g_ hg Hd.b_ : w.heap.size ≤ gb211)); have GE211 := Aside0.mk ((Hd.g_ hg Hd.b_ : w.heap.size ≤ gb211)); replace HB := Aside0.mk (below_step Hd.b_ hb); have NB205_211 := Aside0.mk ((Hd.lt_ BK205 hg)); have NB211_205 := Aside0.mk ((Hd.gt_ BK205 hg)); replace BK205 := Aside0.mk (Hd.kb_ BK205 hb); clear hb hbox hg; have hnb41 := NB211_205.out; have hnc41 := NB205_211.out; obtain ⟨hcz42_0, hcz42_1, hcz42_2, hcz42_3⟩ := Hd.c4_ BK211.out; obtain ⟨hfz42_0, hfz42_1, hfz42_2, hfz42_3⟩ := Hd.f4_ BK211.out; obtain ⟨hcz43_0, hcz43_1⟩ := Hd.c2_ BK205.out; obtain ⟨hfz43_0, hfz43_1⟩ := Hd.f2_ BK205.out) | ((with_reducible refine gate_callee (f := 109) rfl ?_); refine goesL_ (some 21) rfl rfl Try.func109 (by kernel_rfl) rfl #[.agg #[.int .i64 ((rd_T60 t207 x15_1).f0.f0), .int .i64 ((rd_T60 t207 x15_1).f0.f1), .int .i64 ((rd_T60 t207 x15_1).f1.f0), .int .i64 ((rd_T60 t207 x15_1).f1.f1)], .agg #[.int .i64 a1_0, .int .i64 a1_1]] rfl Hd.m_ ?_; (with_reducible refine (impl_IsOn.calls k1 ((rd_T60 t207 x15_1).f0.f0) ((rd_T60 t207 x15_1).f0.f1) ((rd_T60 t207 x15_1).f1.f0) ((rd_T60 t207 x15_1).f1.f1) a1_0 a1_1 false _ A14.out).mono ?_); rintro e w44 ⟨rfl, hb⟩; refine ⟨_, rfl, ?_⟩; replace HO_13 := Aside0.mk (Kd.R_below (by (with_reducible repeat (first | apply Kd.R_alloc | apply Kd.R_drewN | apply Kd.R_drew)); exact (Kd.R_mono (Kd.R_far (p := ⟨gb211, 3, none⟩) (Kd.R_far (p := ⟨gb211, 2, none⟩) (Kd.R_far (p := ⟨gb211, 1, none⟩) (Kd.R_far (p := ⟨gb211, 0, none⟩) (Kd.R_mono HO_13.out (fun k_ hk => (⟨hk, hk.2⟩ : _ ∧ k_ ≠ gb211))) (fun _ hk => hk.2) (.int .i64 ((rd_T60 t207 x15_1).f0.f0))) (fun _ hk => hk.2) (.int .i64 ((rd_T60 t207 x15_1).f0.f1))) (fun _ hk => hk.2) (.int .i64 ((rd_T60 t207 x15_1).f1.f0))) (fun _ hk => hk.2) (.int .i64 ((rd_T60 t207 x15_1).f1.f1))) (fun _ h_ => h_.1))) hb); replace BK205 := Aside0.mk (blk_below (g := gb205) (o := .cells #[.int .i64 a1_0, .int .i64 a1_1] 27 (0, 0)) (by (with_reducible repeat (first | refine blk_drewN ?_ _ | refine blk_drew ?_ | refine blk_alloc ?_ _)); refine blk_far ?_ NB205_211.out _; (with_reducible repeat (first | refine blk_drewN ?_ _ | refine blk_drew ?_ | refine blk_alloc ?_ _)); refine blk_far ?_ NB205_211.out _; (with_reducible repeat (first | refine blk_drewN ?_ _ | refine blk_drew ?_ | refine blk_alloc ?_ _)); refine blk_far ?_ NB205_211.out _; (with_reducible repeat (first | refine blk_drewN ?_ _ | refine blk_drew ?_ | refine blk_alloc ?_ _)); refine blk_far ?_ NB205_211.out _; (with_reducible repeat (first | refine blk_drewN ?_ _ | refine blk_drew ?_ | refine blk_alloc ?_ _)); exact BK205.out) hb); replace BK211 := Aside0.mk (blk_below (g := gb211) (o := .cells #[.int .i64 ((rd_T60 t207 x15_1).f0.f0), .int .i64 ((rd_T60 t207 x15_1).f0.f1), .int .i64 ((rd_T60 t207 x15_1).f1.f0), .int .i64 ((rd_T60 t207 x15_1).f1.f1)] 60 (0, 0)) (by (with_reducible repeat (first | refine blk_drewN ?_ _ | refine blk_drew ?_ | refine blk_alloc ?_ _)); refine blk_put (cs := #[.int .i64 ((rd_T60 t207 x15_1).f0.f0), .int .i64 ((rd_T60 t207 x15_1).f0.f1), .int .i64 ((rd_T60 t207 x15_1).f1.f0), .int .i64 0]) ?_ 3 _ rfl; (with_reducible repeat (first | refine blk_drewN ?_ _ | refine blk_drew ?_ | refine blk_alloc ?_ _)); refine blk_put (cs := #[.int .i64 ((rd_T60 t207 x15_1).f0.f0), .int .i64 ((rd_T60 t207 x15_1).f0.f1), .int .i64 0, .int .i64 0]) ?_ 2 _ rfl; (with_reducible repeat (first | refine blk_drewN ?_ _ | refine blk_drew ?_ | refine blk_alloc ?_ _)); refine blk_put (cs := #[.int .i64 ((rd_T60 t207 x15_1).f0.f0), .int .i64 0, .int .i64 0, .int .i64 0]) ?_ 1 _ rfl; (with_reducible repeat (first | refine blk_drewN ?_ _ | refine blk_drew ?_ | refine blk_alloc ?_ _)); refine blk_put (cs := #[.int .i64 0, .int .i64 0, .int .i64 0, .int .i64 0]) ?_ 0 _ rfl; (with_reducible repeat (first | refine blk_drewN ?_ _ | refine blk_drew ?_ | refine blk_alloc ?_ _)); exact BK211.out) hb); replace HB := Aside0.mk (below_step Hd.b_ hb); (try clear hb); (try clear hb2); (try clear hk); (try clear hi); obtain ⟨hcz45_0, hcz45_1, hcz45_2, hcz45_3⟩ := Hd.c4_ BK211.out; obtain ⟨hfz45_0, hfz45_1, hfz45_2, hfz45_3⟩ := Hd.f4_ BK211.out; obtain ⟨hcz46_0, hcz46_1⟩ := Hd.c2_ BK205.out; obtain ⟨hfz46_0, hfz46_1⟩ := Hd.f2_ BK205.out))
         go_roundg k1
         case measure => have := HK1.out; omega
         case rel => exact ⟨(x5_1), (wrap64 (x15_1 + 1)), (by first | rfl | (simp; done) | (simp [*]; done)), (by first | rfl | (simp; done) | (simp [*]; done)), H', ⟨by have := HK1.out; omega⟩, ⟨by (with_reducible repeat (first | apply Kd.R_alloc | apply Kd.R_drewN | apply Kd.R_drew)); exact Kd.R_mono HO_13.out (fun _ hk => trivial)⟩, ⟨by (with_reducible repeat (first | refine blk_drewN ?_ _ | refine blk_drew ?_ | refine blk_alloc ?_ _)); exact BK205.out⟩, ⟨Hd.b_⟩⟩
      ·
       rw [if_neg c13] at H
       exact absurd H (by simp)
     ·
      rw [if_neg c12] at H
      exact absurd H (by simp)
    ·
     rw [if_neg c11] at H
     have c11b0 : decide (x15_1 < (t207.length : Int)) = false := decide_eq_false c11
     clear c11
     obtain rfl := Option.some.inj H
     go_wp2
     go_ret
     exact ⟨Hd.e_, Hd.b_⟩
 ·
  replace c4 := Bool.eq_false_iff.mpr c4
  subst c4
  have H1 : (some false) = some r := by rw [if_neg (show ¬ (false = true) by decide)] at H; exact H
  clear H
  have H := H1
  clear H1
  obtain rfl := Option.some.inj H
  go_enter Try.func62, Try.ntmps62
  go_wp2_with (first | ((with_reducible refine gate_dst (N := 3) rfl ?_); refine Hd.box_ 3 (#[.int .i64 a1_0, .int .i64 a1_1]) 27 ?_; intro gb205 hg w47 hbox hb; have BK205 := Aside0.mk (hbox); have GW205 := Aside0.mk ((Hd.g_ hg Hd.b_ : w.heap.size ≤ gb205)); have GE205 := Aside0.mk ((Hd.g_ hg Hd.b_ : w.heap.size ≤ gb205)); replace HB := Aside0.mk (below_step Hd.b_ hb); clear hb hbox hg; obtain ⟨hcz48_0, hcz48_1⟩ := Hd.c2_ BK205.out; obtain ⟨hfz48_0, hfz48_1⟩ := Hd.f2_ BK205.out) | ((with_reducible refine gate_callee (f := 63) rfl ?_); refine goesL_ (some 10) rfl rfl Try.func63 (by kernel_rfl) rfl #[.agg #[.int .i64 a1_0, .int .i64 a1_1]] rfl Hd.m_ ?_; (with_reducible refine (impl_IsPoint.calls a1_0 a1_1 false _ A3.out).mono ?_); rintro e w49 ⟨rfl, hb⟩; refine ⟨_, rfl, ?_⟩; replace BK205 := Aside0.mk (Hd.kb_ BK205 hb); replace HB := Aside0.mk (below_step Hd.b_ hb); (try clear hb); (try clear hb2); (try clear hk); (try clear hi)))
  go_ret
  exact ⟨Hd.e_, Hd.b_⟩

/-! ### spec_l1In: function 88 -/
def spec_l1In.f (a0 : Int) (a1 : Int) (a2 : Int) : Option (Bool) := if a0 ≥ a1 then (some (decide (a0 ≤ a2))) else (some false)
set_option maxHeartbeats 8000000 in
set_option maxRecDepth 100000 in
theorem spec_l1In.calls (a0 : Int) (a1 : Int) (a2 : Int) (r : Bool) (w : World) (h : spec_l1In.f a0 a1 a2 = some r) :
  Calls Try.prog 88 #[.int .i64 a0, .int .i64 a1, .int .i64 a2] w fun e w' => e = .returned (.bool r) ∧ Drawn0 w w' := by
 have H : (if a0 ≥ a1 then (some (decide (a0 ≤ a2))) else (some false)) = some r := h
 clear h
 by_cases c4 : a0 ≥ a1
 ·
  rw [if_pos c4] at H
  have c4b0 : decide (a1 ≤ a0) = true := decide_eq_true c4
  clear c4
  obtain rfl := Option.some.inj H
  go_enter Try.func88, Try.ntmps88
  go_wp2
  go_ret
  exact ⟨by first | rfl | (simp; done) | (simp [*]; done), by repeat (first | exact Drawn0.refl _ | apply Drawn0.step)⟩
 ·
  rw [if_neg c4] at H
  have c4b0 : decide (a1 ≤ a0) = false := decide_eq_false c4
  clear c4
  obtain rfl := Option.some.inj H
  go_enter Try.func88, Try.ntmps88
  go_wp2
  go_ret
  exact ⟨by first | rfl | (simp; done) | (simp [*]; done), by repeat (first | exact Drawn0.refl _ | apply Drawn0.step)⟩

/-! ### spec_l7Segments: function 112 -/
def spec_l7Segments.l0 : Nat → List (S27) → List (S60) → Int → Option ((List (S60)))
 | 0, _, _, _ => none
 | k + 1, x0, x3, x4 => if x4 < (x0.length : Int) then (if 0 ≤ x4 then (if (x0.length : Int) = 0 then (none) else (if 0 ≤ (Int.tmod (wrap64 (x4 + 1)) (x0.length : Int)) then (if (Int.tmod (wrap64 (x4 + 1)) (x0.length : Int)) < (x0.length : Int) then (if x3.length < 4398046511104 then (spec_l7Segments.l0 k x0 (x3 ++ [(⟨(⟨(rd_T27 x0 x4).f0, (rd_T27 x0 x4).f1⟩ : S27), (⟨(rd_T27 x0 (Int.tmod (wrap64 (x4 + 1)) (x0.length : Int))).f0, (rd_T27 x0 (Int.tmod (wrap64 (x4 + 1)) (x0.length : Int))).f1⟩ : S27)⟩ : S60)]) (wrap64 (x4 + 1))) else (none)) else (none)) else (none))) else (none)) else (some x3)
def spec_l7Segments.f (k : Nat) (l0 : List (S27)) : Option ((List (S60))) := spec_l7Segments.l0 k l0 (([] : List (S60))) 0
theorem spec_l7Segments.mono_l : ∀ k, (∀ y0 y1 y2, LeO (spec_l7Segments.l0 k y0 y1 y2) (spec_l7Segments.l0 (k + 1) y0 y1 y2))
 | 0 => fun _ _ _ r h => by simp [spec_l7Segments.l0] at h
 | k + 1 => by
  have ih0 := spec_l7Segments.mono_l k
  ·
   intro y0 y1 y2
   unfold spec_l7Segments.l0
   repeat' first
   | (with_reducible exact ih0 _ _ _)
   | (with_reducible exact LeO.refl _)
   | (with_reducible exact LeO.none _)
   | (with_reducible refine LeO.ite ?_ ?_)
   | (with_reducible refine LeO.bind ?_ (fun _ => ?_))
   | exact ih0 _ _ _
   | exact LeO.none _
   | refine LeO.ite ?_ ?_
   | refine LeO.bind ?_ (fun _ => ?_)
theorem spec_l7Segments.mono : ∀ a0 k, LeO (spec_l7Segments.f k a0) (spec_l7Segments.f (k + 1) a0) := by
 intro a0 k
 have ih0 := spec_l7Segments.mono_l k
 unfold spec_l7Segments.f
 repeat' first
   | (with_reducible exact ih0 _ _ _)
   | (with_reducible exact LeO.refl _)
   | (with_reducible exact LeO.none _)
   | (with_reducible refine LeO.ite ?_ ?_)
   | (with_reducible refine LeO.bind ?_ (fun _ => ?_))
   | exact ih0 _ _ _
   | exact LeO.none _
   | refine LeO.ite ?_ ?_
   | refine LeO.bind ?_ (fun _ => ?_)
def spec_l7Segments.T5 : Bool × List (List Nat × List Nat) := (true, [([], []), ([], []), ([], []), ([1, 2], [1, 2]), ([3], [3]), ([], []), ([], []), ([6], [6]), ([], []), ([8], [8]), ([7, 9], [7, 9]), ([5, 10], [5, 10]), ([11], [11]), ([4, 12], [4, 12]), ([13], [13]), ([0, 14], [0, 14]), ([15, 15, 0, 1, 2, 3, 4, 5, 6, 7, 8, 9, 10, 11, 12, 13, 14, 15], [0, 15])])
def spec_l7Segments.B5 : List Nat := [0, 0, 0, 6, 14, 0, 0, 64, 0, 256, 960, 2016, 4064, 8190, 16382, 32767, 65535]
theorem spec_l7Segments.tab5 : rtab .any (opsOf Try.f112 5) = spec_l7Segments.T5 := by kernel_rfl
theorem spec_l7Segments.bits5 : waitsOk spec_l7Segments.T5.2 spec_l7Segments.B5 = true := by kernel_rfl
set_option maxHeartbeats 8000000 in
set_option maxRecDepth 100000 in
theorem spec_l7Segments.calls (k : Nat) (A0 : Option Addr) (c0 : Nat) (l0 : List (S27)) (r : List (S60)) (w : World) (hr0 : Kd.C k27 w A0 l0.length l0) (hc0 : l0.length ≤ c0) (h : spec_l7Segments.f k l0 = some r) :
  Calls Try.prog 112 #[.slice A0 l0.length c0] w fun e w' => ∃ v0_ : Value, e = .returned (v0_) ∧ Kd.R k60 60 w' w.heap.size (fun _ => True) v0_ r ∧ Below w.heap.size w w' := by
 have hu27 := Try.underlying27
 have hu60 := Try.underlying60
 have HR0 := Aside0.mk hr0
 have HC0 := Aside0.mk hc0
 clear hr0 hc0
 have HB := Aside0.mk (Below.refl w.heap.size w)
 have H : (spec_l7Segments.l0 k l0 (([] : List (S60))) 0) = some r := h
 clear h
 obtain ⟨y214, hy214⟩ : ∃ y_ : List (S60), y_ = (([] : List (S60))) := ⟨_, rfl⟩
 replace H : (spec_l7Segments.l0 k l0 y214 0) = some r := by first | (rw [hy214]; with_reducible exact H) | (have H2_ := (Option.bind_some _ _).symm.trans H; rw [hy214]; with_reducible exact H2_) | (have H2_ := (Option.bind_some _ _).symm.trans H; with_reducible exact H2_) | with_reducible exact H | (rw [hy214]; exact H) | exact H
 have Ny214 := Aside0.mk hy214
 clear hy214
 have H' := Aside0.mk H
 clear H
 go_enter Try.func112, Try.ntmps112
 go_wp2_with (first | ((with_reducible refine gate_dst (N := 5) rfl ?_); refine Kd.R_lit k60 _ 60 ?hg (N := 5) ?hd (xs := ([] : List (S60))) (inner := []) (ok := fun _ => True) (okp := fun _ => True) ?hr ?hp (fun _ hk => hk) trivial (Below.refl _ _) (Nat.le_refl _) (by simp) ?_; (case hd => rfl); (case hg => rfl); (case hr => first | (go_simp; done) | (go_simp; rfl)); (case hp => exact (Reps.none _ _)); intro v215 w2 ho3 hb hg_ hnew_; clear hg_ hnew_; (first | rw [← Ny214.out] at ho3 | (simp only [Int.reduceToNat] at ho3; rw [← Ny214.out] at ho3)); have HO216 := Aside0.mk (Kd.R_lower ho3 (below_size Hd.b_)); replace HB := Aside0.mk (below_step Hd.b_ hb); clear hb ho3))
 go_loopg [3, 4] k (fun kq v3 v4 w' => ∃ (x3_1 : List (S60)) (x4_1 : Int), v4 = .int .i64 x4_1 ∧ Aside0 (spec_l7Segments.l0 kq l0 x3_1 x4_1 = some r) ∧ Aside0 (kq ≤ k) ∧ Aside0 (Kd.R k60 60 w' w.heap.size (fun _ => True) v3 x3_1) ∧ Aside0 (Below w.heap.size w w'))
 case atStart => exact ⟨(y214), (0), (by first | rfl | (simp; done) | (simp [*]; done)), H', ⟨Nat.le_refl _⟩, ⟨by (with_reducible repeat (first | apply Kd.R_alloc | apply Kd.R_drewN | apply Kd.R_drew)); exact HO216.out⟩, ⟨Hd.b_⟩⟩
 case round =>
  clear H'
  try clear c1
  try clear p2
  obtain ⟨x3_1, x4_1, rfl, HA, HK1, HO_3, HB⟩ := hrel
  cases gk with
  | zero => exact absurd HA.out (by simp [spec_l7Segments.l0])
  | succ k1 =>
   have H := HA.out
   clear HA
   simp only [spec_l7Segments.l0] at H
   by_cases c4 : x4_1 < (l0.length : Int)
   ·
    rw [if_pos c4] at H
    have c4b0 : decide (x4_1 < (l0.length : Int)) = true := decide_eq_true c4
    clear c4
    by_cases c5 : 0 ≤ x4_1
    ·
     rw [if_pos c5] at H
     have c5b0 : decide (0 ≤ x4_1) = true := decide_eq_true c5
     clear c5
     by_cases c6 : (l0.length : Int) = 0
     ·
      rw [if_pos c6] at H
      exact absurd H (by simp)
     ·
      rw [if_neg c6] at H
      have c6b0 : ((l0.length : Int) == 0) = false := beq_eq_false_iff_ne.mpr c6
      have c6b1 : ((l0.length : Int) != 0) = true := bne_iff_ne.mpr c6
      have c6b2 : ¬ (l0 = []) := fun h_ => c6 (by rw [h_]; rfl)
      obtain ⟨ji7, hji7⟩ : ∃ j_ : Int, (Int.tmod (wrap64 (x4_1 + 1)) (l0.length : Int)) = j_ := ⟨_, rfl⟩
      replace H : (if 0 ≤ (ji7) then (if (ji7) < (l0.length : Int) then (if x3_1.length < 4398046511104 then (spec_l7Segments.l0 k1 l0 (x3_1 ++ [(⟨(⟨(rd_T27 l0 x4_1).f0, (rd_T27 l0 x4_1).f1⟩ : S27), (⟨(rd_T27 l0 (ji7)).f0, (rd_T27 l0 (ji7)).f1⟩ : S27)⟩ : S60)]) (wrap64 (x4_1 + 1))) else (none)) else (none)) else (none)) = some r := by first | (rw [hji7] at H; exact H) | (simp only [hji7] at H ⊢; exact H)
      by_cases c8 : 0 ≤ (ji7)
      ·
       rw [if_pos c8] at H
       have c8b0 : decide (0 ≤ (ji7)) = true := decide_eq_true c8
       clear c8
       by_cases c9 : (ji7) < (l0.length : Int)
       ·
        rw [if_pos c9] at H
        have c9b0 : decide ((ji7) < (l0.length : Int)) = true := decide_eq_true c9
        clear c9
        by_cases c10 : x3_1.length < 4398046511104
        ·
         rw [if_pos c10] at H
         have LMc10 := Aside0.mk c10
         clear c10
         obtain ⟨y219, hy219⟩ : ∃ y_ : List (S60), y_ = (x3_1 ++ [(⟨(⟨(rd_T27 l0 x4_1).f0, (rd_T27 l0 x4_1).f1⟩ : S27), (⟨(rd_T27 l0 (ji7)).f0, (rd_T27 l0 (ji7)).f1⟩ : S27)⟩ : S60)]) := ⟨_, rfl⟩
         replace H : (spec_l7Segments.l0 k1 l0 y219 (wrap64 (x4_1 + 1))) = some r := by first | (rw [hy219]; with_reducible exact H) | (have H2_ := (Option.bind_some _ _).symm.trans H; rw [hy219]; with_reducible exact H2_) | (have H2_ := (Option.bind_some _ _).symm.trans H; with_reducible exact H2_) | with_reducible exact H | (rw [hy219]; exact H) | exact H
         have Ny219 := Aside0.mk hy219
         clear hy219
         have H' := Aside0.mk H
         clear H
         try go_wp2
         replace HO_3 := Aside0.mk (Kd.R_drew HO_3.out)
         replace HB := Aside0.mk (below_drew1 HB.out)
         have p217 : 0 ≤ (x4_1 : Int) := of_decide_eq_true Hd.a_
         have q217 : x4_1 < (l0.length : Int) := of_decide_eq_true Hd.a_
         obtain ⟨ad217, e217, hx217_0, hx217_1⟩ := at_T27 HR0.out x4_1 p217 q217
         have hw217_1 := hx217_1
         have hw217_0 := hx217_0
         cases e217
         replace hx217_0 := (HB.out.cell (World.block_lt_of_cell? w _ hx217_0)).trans hx217_0
         replace hx217_1 := (HB.out.cell (World.block_lt_of_cell? w _ hx217_1)).trans hx217_1
         replace p217 := eq_true p217
         replace q217 := eq_true q217
         have p218 : 0 ≤ ((ji7) : Int) := of_decide_eq_true Hd.a_
         have q218 : (ji7) < (l0.length : Int) := of_decide_eq_true Hd.a_
         obtain ⟨ad218, e218, hx218_0, hx218_1⟩ := at_T27 HR0.out (ji7) p218 q218
         have hw218_1 := hx218_1
         have hw218_0 := hx218_0
         obtain rfl : ad217 = ad218 := (by injection e218)
         replace hx218_0 := (HB.out.cell (World.block_lt_of_cell? w _ hx218_0)).trans hx218_0
         replace hx218_1 := (HB.out.cell (World.block_lt_of_cell? w _ hx218_1)).trans hx218_1
         replace p218 := eq_true p218
         replace q218 := eq_true q218
         refine start_ (n := 17) (S := fun w' => w'.cell? (ad217.add ((x4_1).toNat * 2)) = some (.int .i64 ((rd_T27 l0 x4_1).f0)) ∧ w'.cell? ⟨(ad217.add ((x4_1).toNat * 2)).block, (ad217.add ((x4_1).toNat * 2)).off + 1, none⟩ = some (.int .i64 ((rd_T27 l0 x4_1).f1)) ∧ w'.cell? (ad217.add (((ji7)).toNat * 2)) = some (.int .i64 ((rd_T27 l0 (ji7)).f0)) ∧ w'.cell? ⟨(ad217.add (((ji7)).toNat * 2)).block, (ad217.add (((ji7)).toNat * 2)).off + 1, none⟩ = some (.int .i64 ((rd_T27 l0 (ji7)).f1))) (ds := []) #[false, false, false, false, false, false, false, false, false, false, false, false, false, false, false, false, false] (by kernel_rfl) rfl rfl ⟨((HB.out.cell (World.block_lt_of_cell? w _ hw217_0)).trans hw217_0), ((HB.out.cell (World.block_lt_of_cell? w _ hw217_1)).trans hw217_1), ((HB.out.cell (World.block_lt_of_cell? w _ hw218_0)).trans hw218_0), ((HB.out.cell (World.block_lt_of_cell? w _ hw218_1)).trans hw218_1)⟩ (fun hHeld => ?_); refine with_tabW spec_l7Segments.tab5 spec_l7Segments.bits5 (fun HT_ HW_ => ?_)
         generalize wr.drew = w11 at HO_3 HB hx217_0 hx217_1 hx218_0 hx218_1 hHeld ⊢
         refine pure_ (i := 0) (N := some 12) (v := ?_) (a' := ?_) #[true, false, false, false, false, false, false, false, false, false, false, false, false, false, false, false, false] rfl rfl (any_of HT_.out (by kernel_rfl)) (fun _ _ _ h => h) (Or.inl ⟨by rfl, ?_⟩) ?_ ?_
         rotate_left
         ·
          intro w'
          go_simp
          with_reducible rfl
         rotate_left
         ·
          simp only [Act.put, List.setIfInBounds_toArray, List.set_cons_zero, List.set_cons_succ, i64_w, i32_w]
          rfl
         refine pure_ (i := 1) (N := some 13) (v := ?_) (a' := ?_) #[true, true, false, false, false, false, false, false, false, false, false, false, false, false, false, false, false] rfl rfl (any_of HT_.out (by kernel_rfl)) (fun _ _ _ h => h) (Or.inl ⟨by rfl, ?_⟩) ?_ ?_
         rotate_left
         ·
          intro w'
          go_simp
          with_reducible rfl
         rotate_left
         ·
          simp only [Act.put, List.setIfInBounds_toArray, List.set_cons_zero, List.set_cons_succ, i64_w, i32_w]
          rfl
         refine pure_ (i := 2) (N := some 14) (v := ?_) (a' := ?_) #[true, true, true, false, false, false, false, false, false, false, false, false, false, false, false, false, false] rfl rfl (any_of HT_.out (by kernel_rfl)) (fun _ _ _ h => h) (Or.inl ⟨by rfl, ?_⟩) ?_ ?_
         rotate_left
         ·
          intro w'
          go_simp
          with_reducible rfl
         rotate_left
         ·
          simp only [Act.put, List.setIfInBounds_toArray, List.set_cons_zero, List.set_cons_succ, i64_w, i32_w]
          rfl
         refine pure_ (i := 3) (N := some 15) (v := ?_) (a' := ?_) #[true, true, true, true, false, false, false, false, false, false, false, false, false, false, false, false, false] rfl rfl (any_of HT_.out (by kernel_rfl)) (fun _ _ _ h => h) (Or.inl ⟨by rfl, ?_⟩) ?_ ?_
         rotate_left
         ·
          intro w'
          go_simp
          with_reducible rfl
         rotate_left
         ·
          simp only [Act.put, List.setIfInBounds_toArray, List.set_cons_zero, List.set_cons_succ, i64_w, i32_w]
          rfl
         refine pure_ (i := 5) (N := some 17) (v := ?_) (a' := ?_) #[true, true, true, true, false, true, false, false, false, false, false, false, false, false, false, false, false] rfl rfl (any_of HT_.out (by kernel_rfl)) (fun _ _ _ h => h) (Or.inl ⟨by rfl, ?_⟩) ?_ ?_
         rotate_left
         ·
          intro w'
          go_simp
          with_reducible rfl
         rotate_left
         ·
          simp only [Act.put, List.setIfInBounds_toArray, List.set_cons_zero, List.set_cons_succ, i64_w, i32_w]
          rfl
         refine pure_ (i := 6) (N := some 18) (v := ?_) (a' := ?_) #[true, true, true, true, false, true, true, false, false, false, false, false, false, false, false, false, false] rfl rfl (any_of HT_.out (by kernel_rfl)) (fun _ _ _ h => h) (Or.inl ⟨by rfl, ?_⟩) ?_ ?_
         rotate_left
         ·
          intro w'
          go_simp
          with_reducible rfl
         rotate_left
         ·
          simp only [Act.put, List.setIfInBounds_toArray, List.set_cons_zero, List.set_cons_succ, i64_w, i32_w]
          rfl
         refine pure_ (i := 7) (N := some 19) (v := ?_) (a' := ?_) #[true, true, true, true, false, true, true, true, false, false, false, false, false, false, false, false, false] rfl rfl (any_of HT_.out (by kernel_rfl)) (fun _ _ _ h => h) (Or.inl ⟨by rfl, ?_⟩) ?_ ?_
         rotate_left
         ·
          intro w'
          go_simp
          with_reducible rfl
         rotate_left
         ·
          simp only [Act.put, List.setIfInBounds_toArray, List.set_cons_zero, List.set_cons_succ, i64_w, i32_w]
          rfl
         refine pure_ (i := 8) (N := some 20) (v := ?_) (a' := ?_) #[true, true, true, true, false, true, true, true, true, false, false, false, false, false, false, false, false] rfl rfl (any_of HT_.out (by kernel_rfl)) (fun _ _ _ h => h) (Or.inl ⟨by rfl, ?_⟩) ?_ ?_
         rotate_left
         ·
          intro w'
          go_simp
          with_reducible rfl
         rotate_left
         ·
          simp only [Act.put, List.setIfInBounds_toArray, List.set_cons_zero, List.set_cons_succ, i64_w, i32_w]
          rfl
         refine pure_ (i := 9) (N := some 21) (v := ?_) (a' := ?_) #[true, true, true, true, false, true, true, true, true, true, false, false, false, false, false, false, false] rfl rfl (any_of HT_.out (by kernel_rfl)) (fun _ _ _ h => h) (Or.inl ⟨by rfl, ?_⟩) ?_ ?_
         rotate_left
         ·
          intro w'
          go_simp
          with_reducible rfl
         rotate_left
         ·
          simp only [Act.put, List.setIfInBounds_toArray, List.set_cons_zero, List.set_cons_succ, i64_w, i32_w]
          rfl
         refine pure_ (i := 10) (N := some 22) (v := ?_) (a' := ?_) #[true, true, true, true, false, true, true, true, true, true, true, false, false, false, false, false, false] rfl rfl (any_of HT_.out (by kernel_rfl)) (fun _ _ _ h => h) (Or.inl ⟨by rfl, ?_⟩) ?_ ?_
         rotate_left
         ·
          intro w'
          go_simp
          with_reducible rfl
         rotate_left
         ·
          simp only [Act.put, List.setIfInBounds_toArray, List.set_cons_zero, List.set_cons_succ, i64_w, i32_w]
          rfl
         refine pure_ (i := 11) (N := some 23) (v := ?_) (a' := ?_) #[true, true, true, true, false, true, true, true, true, true, true, true, false, false, false, false, false] rfl rfl (any_of HT_.out (by kernel_rfl)) (fun _ _ _ h => h) (Or.inl ⟨by rfl, ?_⟩) ?_ ?_
         rotate_left
         ·
          intro w'
          go_simp
          with_reducible rfl
         rotate_left
         ·
          simp only [Act.put, List.setIfInBounds_toArray, List.set_cons_zero, List.set_cons_succ, i64_w, i32_w]
          rfl
         refine take_ (i := 4) (N := some 16) (v := ?_) (a' := ?_) #[true, true, true, true, true, true, true, true, true, true, true, true, false, false, false, false, false] rfl rfl (take_ofW HT_.out HW_.out (by kernel_rfl)) (fun _ _ _ h => h) (Or.inl ⟨by rfl, ?_⟩) hHeld ?_ ?_
         rotate_left
         ·
          rintro w' ⟨s0, s1, s2, s3⟩
          go_simp
          with_reducible rfl
         rotate_left
         ·
          simp only [Act.put, List.setIfInBounds_toArray, List.set_cons_zero, List.set_cons_succ, i64_w, i32_w]
          rfl
         refine take_ (i := 12) (N := some 24) (v := ?_) (a' := ?_) #[true, true, true, true, true, true, true, true, true, true, true, true, true, false, false, false, false] rfl rfl (take_ofW HT_.out HW_.out (by kernel_rfl)) (fun _ _ _ h => h) (Or.inl ⟨by rfl, ?_⟩) hHeld ?_ ?_
         rotate_left
         ·
          rintro w' ⟨s0, s1, s2, s3⟩
          go_simp
          with_reducible rfl
         rotate_left
         ·
          simp only [Act.put, List.setIfInBounds_toArray, List.set_cons_zero, List.set_cons_succ, i64_w, i32_w]
          rfl
         refine pure_ (i := 13) (N := some 25) (v := ?_) (a' := ?_) #[true, true, true, true, true, true, true, true, true, true, true, true, true, true, false, false, false] rfl rfl (any_of HT_.out (by kernel_rfl)) (fun _ _ _ h => h) (Or.inl ⟨by rfl, ?_⟩) ?_ ?_
         rotate_left
         ·
          intro w'
          go_simp
          with_reducible rfl
         rotate_left
         ·
          simp only [Act.put, List.setIfInBounds_toArray, List.set_cons_zero, List.set_cons_succ, i64_w, i32_w]
          rfl
         refine one_ (i := 14) (N := some 26) #[true, true, true, true, true, true, true, true, true, true, true, true, true, true, true, false, false] rfl rfl (one_of HT_.out (by kernel_rfl)) (by decide) (fun K hK => ?_)
         refine value_ (w1 := ?_) (v := ?_) (by rfl) rfl ?_ ?_
         rotate_left 2
         ·
          go_simp
          constructor
          ·
           rfl
          ·
           rfl
         refine hK.out _ _ ⟨(World.cell?_alloc_lt _ _ _ (World.block_lt_of_cell? _ _ (((HB.out.cell (World.block_lt_of_cell? w _ hw217_0)).trans hw217_0)))).trans (((HB.out.cell (World.block_lt_of_cell? w _ hw217_0)).trans hw217_0)), (World.cell?_alloc_lt _ _ _ (World.block_lt_of_cell? _ _ (((HB.out.cell (World.block_lt_of_cell? w _ hw217_1)).trans hw217_1)))).trans (((HB.out.cell (World.block_lt_of_cell? w _ hw217_1)).trans hw217_1)), (World.cell?_alloc_lt _ _ _ (World.block_lt_of_cell? _ _ (((HB.out.cell (World.block_lt_of_cell? w _ hw218_0)).trans hw218_0)))).trans (((HB.out.cell (World.block_lt_of_cell? w _ hw218_0)).trans hw218_0)), (World.cell?_alloc_lt _ _ _ (World.block_lt_of_cell? _ _ (((HB.out.cell (World.block_lt_of_cell? w _ hw218_1)).trans hw218_1)))).trans (((HB.out.cell (World.block_lt_of_cell? w _ hw218_1)).trans hw218_1))⟩ (fun hHeld => ?_)
         clear hK K
         refine norm_ (a' := ?_) ?_ ?_
         rotate_left
         ·
          show Act.put _ (some 26) _ = _
          simp only [Act.put, List.setIfInBounds_toArray, List.set_cons_zero, List.set_cons_succ, i64_w, i32_w]
          rfl
         refine one_ (i := 15) (N := some 27) #[true, true, true, true, true, true, true, true, true, true, true, true, true, true, true, true, false] rfl rfl (one_of HT_.out (by kernel_rfl)) (by decide) (fun K hK => ?_)
         refine Kd.R_append_step k60 (w0 := w) w.heap.size (by rfl) (.tmp 12) (.tmp 26) 75 60 (.agg #[(.int .i64 0), (.int .i64 0), (.int .i64 0), (.int .i64 0)]) 32 rfl Try.underlying75 info60 rfl (by decide) (by omega) u3 x3_1 (⟨(⟨(rd_T27 l0 x4_1).f0, (rd_T27 l0 x4_1).f1⟩ : S27), (⟨(rd_T27 l0 (ji7)).f0, (rd_T27 l0 (ji7)).f1⟩ : S27)⟩ : S60) [.int .i64 ((rd_T27 l0 x4_1).f0), .int .i64 ((rd_T27 l0 x4_1).f1), .int .i64 ((rd_T27 l0 (ji7)).f0), .int .i64 ((rd_T27 l0 (ji7)).f1)] (fun _ => True) (fun _ => False) rfl rfl ?aP (fun _ hk => hk.elim) ?aF ?aO ?aB ?aS ?aL ?_
         (case aP => exact k60_mkM _ _ _ (⟨(⟨(rd_T27 l0 x4_1).f0, (rd_T27 l0 x4_1).f1⟩ : S27), (⟨(rd_T27 l0 (ji7)).f0, (rd_T27 l0 (ji7)).f1⟩ : S27)⟩ : S60))
         (case aB => exact Hd.b_)
         (case aF => exact (fun _ _ => trivial))
         (case aO => exact (Hd.r_ HO_3))
         (case aS => exact (below_size Hd.b_))
         (case aL => have := LMc10.out; omega)
         intro v220 w12 ho hb hg hat
         rw [← Ny219.out] at ho
         have n0_ := Aside0.mk (hb)
         have n1_ := Aside0.mk (ho)
         clear HB
         clear HO_3
         have HB := n0_
         have HO221 := n1_
         clear n0_ n1_
         clear ho hb hg hat
         refine hK.out _ _ ⟨((HB.out.cell (World.block_lt_of_cell? w _ hw217_0)).trans hw217_0), ((HB.out.cell (World.block_lt_of_cell? w _ hw217_1)).trans hw217_1), ((HB.out.cell (World.block_lt_of_cell? w _ hw218_0)).trans hw218_0), ((HB.out.cell (World.block_lt_of_cell? w _ hw218_1)).trans hw218_1)⟩ (fun hHeld => ?_)
         clear hK K
         refine norm_ (a' := ?_) ?_ ?_
         rotate_left
         ·
          show Act.put _ (some 27) _ = _
          simp only [Act.put, List.setIfInBounds_toArray, List.set_cons_zero, List.set_cons_succ, i64_w, i32_w]
          rfl
         refine pure_ (i := 16) (N := some 3) (v := ?_) (a' := ?_) #[true, true, true, true, true, true, true, true, true, true, true, true, true, true, true, true, true] rfl rfl (any_of HT_.out (by kernel_rfl)) (fun _ _ _ h => h) (Or.inl ⟨by rfl, ?_⟩) ?_ ?_
         rotate_left
         ·
          intro w'
          go_simp
          with_reducible rfl
         rotate_left
         ·
          simp only [Act.put, List.setIfInBounds_toArray, List.set_cons_zero, List.set_cons_succ, i64_w, i32_w]
          rfl
         refine done_ (done_of HT_.out (by kernel_rfl)) ?_
         try go_wp2
         go_roundg k1
         case measure => have := HK1.out; omega
         case rel => exact ⟨(y219), (wrap64 (x4_1 + 1)), (by first | rfl | (simp; done) | (simp [*]; done)), H', ⟨by have := HK1.out; omega⟩, ⟨by (with_reducible repeat (first | apply Kd.R_alloc | apply Kd.R_drewN | apply Kd.R_drew)); exact HO221.out⟩, ⟨Hd.b_⟩⟩
        ·
         rw [if_neg c10] at H
         exact absurd H (by simp)
       ·
        rw [if_neg c9] at H
        exact absurd H (by simp)
      ·
       rw [if_neg c8] at H
       exact absurd H (by simp)
    ·
     rw [if_neg c5] at H
     exact absurd H (by simp)
   ·
    rw [if_neg c4] at H
    have c4b0 : decide (x4_1 < (l0.length : Int)) = false := decide_eq_false c4
    clear c4
    obtain rfl := Option.some.inj H
    go_wp2
    go_ret
    exact ⟨_, Hd.e_, by (with_reducible repeat (first | apply Kd.R_alloc | apply Kd.R_drewN | apply Kd.R_drew)); exact HO_3.out, Hd.b_⟩

/-! ### spec_IsPoint: function 111 -/
def spec_IsPoint.f (a0_0 : Int) (a0_1 : Int) : Option (Bool) := (spec_l1In.f a0_0 0 200).bind fun t223 => (if t223 = true then ((spec_l1In.f a0_1 0 200).bind fun t224 => (some t224)) else (some false))
set_option maxHeartbeats 8000000 in
set_option maxRecDepth 100000 in
theorem spec_IsPoint.calls (a0_0 : Int) (a0_1 : Int) (r : Bool) (w : World) (h : spec_IsPoint.f a0_0 a0_1 = some r) :
  Calls Try.prog 111 #[.agg #[.int .i64 a0_0, .int .i64 a0_1]] w fun e w' => e = .returned (.bool r) ∧ Below w.heap.size w w' := by
 have hu27 := Try.underlying27
 have HB := Aside0.mk (Below.refl w.heap.size w)
 have H : ((spec_l1In.f a0_0 0 200).bind fun t223 => (if t223 = true then ((spec_l1In.f a0_1 0 200).bind fun t224 => (some t224)) else (some false))) = some r := h
 clear h
 replace H := Option.bind_eq_some_iff.mp H
 obtain ⟨t223, A20, H⟩ := H
 replace H : (if t223 = true then ((spec_l1In.f a0_1 0 200).bind fun t224 => (some t224)) else (some false)) = some r := H
 have A2 := Aside0.mk A20
 clear A20
 by_cases c3 : t223 = true
 ·
  subst c3
  have H1 : ((spec_l1In.f a0_1 0 200).bind fun t224 => (some t224)) = some r := by rw [if_pos rfl] at H; exact H
  clear H
  have H := H1
  clear H1
  replace H := Option.bind_eq_some_iff.mp H
  obtain ⟨t224, A40, H⟩ := H
  replace H : (some t224) = some r := H
  have A4 := Aside0.mk A40
  clear A40
  obtain rfl := Option.some.inj H
  go_enter Try.func111, Try.ntmps111
  go_wp2_with (first | ((with_reducible refine gate_dst (N := 1) rfl ?_); refine Hd.box_ 1 (#[.int .i64 a0_0, .int .i64 a0_1]) 27 ?_; intro gb222 hg w5 hbox hb; have BK222 := Aside0.mk (hbox); have GW222 := Aside0.mk ((Hd.g_ hg Hd.b_ : w.heap.size ≤ gb222)); have GE222 := Aside0.mk ((Hd.g_ hg Hd.b_ : w.heap.size ≤ gb222)); replace HB := Aside0.mk (below_step Hd.b_ hb); clear hb hbox hg; obtain ⟨hcz6_0, hcz6_1⟩ := Hd.c2_ BK222.out; obtain ⟨hfz6_0, hfz6_1⟩ := Hd.f2_ BK222.out) | ((with_reducible refine gate_callee (f := 88) rfl ?_); refine goesL_ (some 5) rfl rfl Try.func88 (by kernel_rfl) rfl #[.int .i64 a0_0, .int .i64 0, .int .i64 200] rfl Hd.m_ ?_; (with_reducible refine (spec_l1In.calls a0_0 0 200 true _ A2.out).mono ?_); rintro e w' ⟨rfl, ⟨nd, rfl⟩⟩; refine ⟨_, rfl, ?_⟩) | (go_at_call 88; (with_reducible refine (spec_l1In.calls a0_1 0 200 t224 _ A4.out).mono ?_); rintro e w' ⟨rfl, ⟨nd, rfl⟩⟩))
  go_ret
  exact ⟨Hd.e_, Hd.b_⟩
 ·
  replace c3 := Bool.eq_false_iff.mpr c3
  subst c3
  have H1 : (some false) = some r := by rw [if_neg (show ¬ (false = true) by decide)] at H; exact H
  clear H
  have H := H1
  clear H1
  obtain rfl := Option.some.inj H
  go_enter Try.func111, Try.ntmps111
  go_wp2_with (first | ((with_reducible refine gate_dst (N := 1) rfl ?_); refine Hd.box_ 1 (#[.int .i64 a0_0, .int .i64 a0_1]) 27 ?_; intro gb222 hg w7 hbox hb; have BK222 := Aside0.mk (hbox); have GW222 := Aside0.mk ((Hd.g_ hg Hd.b_ : w.heap.size ≤ gb222)); have GE222 := Aside0.mk ((Hd.g_ hg Hd.b_ : w.heap.size ≤ gb222)); replace HB := Aside0.mk (below_step Hd.b_ hb); clear hb hbox hg; obtain ⟨hcz8_0, hcz8_1⟩ := Hd.c2_ BK222.out; obtain ⟨hfz8_0, hfz8_1⟩ := Hd.f2_ BK222.out) | ((with_reducible refine gate_callee (f := 88) rfl ?_); refine goesL_ (some 5) rfl rfl Try.func88 (by kernel_rfl) rfl #[.int .i64 a0_0, .int .i64 0, .int .i64 200] rfl Hd.m_ ?_; (with_reducible refine (spec_l1In.calls a0_0 0 200 false _ A2.out).mono ?_); rintro e w' ⟨rfl, ⟨nd, rfl⟩⟩; refine ⟨_, rfl, ?_⟩))
  go_ret
  exact ⟨Hd.e_, Hd.b_⟩

/-! ### spec_IsSegment: function 118 -/
def spec_IsSegment.f (a0_0 : Int) (a0_1 : Int) (a0_2 : Int) (a0_3 : Int) : Option (Bool) := (spec_IsPoint.f a0_0 a0_1).bind fun t226 => (if t226 = true then ((spec_IsPoint.f a0_2 a0_3).bind fun t227 => (if t227 = true then (some (!(a0_0 == a0_2) || (!(a0_1 == a0_3)))) else (some false))) else (some false))
set_option maxHeartbeats 8000000 in
set_option maxRecDepth 100000 in
theorem spec_IsSegment.calls (a0_0 : Int) (a0_1 : Int) (a0_2 : Int) (a0_3 : Int) (r : Bool) (w : World) (h : spec_IsSegment.f a0_0 a0_1 a0_2 a0_3 = some r) :
  Calls Try.prog 118 #[.agg #[.int .i64 a0_0, .int .i64 a0_1, .int .i64 a0_2, .int .i64 a0_3]] w fun e w' => e = .returned (.bool r) ∧ Below w.heap.size w w' := by
 have hu60 := Try.underlying60
 have hu27 := Try.underlying27
 have HB := Aside0.mk (Below.refl w.heap.size w)
 have H : ((spec_IsPoint.f a0_0 a0_1).bind fun t226 => (if t226 = true then ((spec_IsPoint.f a0_2 a0_3).bind fun t227 => (if t227 = true then (some (!(a0_0 == a0_2) || (!(a0_1 == a0_3)))) else (some false))) else (some false))) = some r := h
 clear h
 replace H := Option.bind_eq_some_iff.mp H
 obtain ⟨t226, A20, H⟩ := H
 replace H : (if t226 = true then ((spec_IsPoint.f a0_2 a0_3).bind fun t227 => (if t227 = true then (some (!(a0_0 == a0_2) || (!(a0_1 == a0_3)))) else (some false))) else (some false)) = some r := H
 have A2 := Aside0.mk A20
 clear A20
 by_cases c3 : t226 = true
 ·
  subst c3
  have H1 : ((spec_IsPoint.f a0_2 a0_3).bind fun t227 => (if t227 = true then (some (!(a0_0 == a0_2) || (!(a0_1 == a0_3)))) else (some false))) = some r := by rw [if_pos rfl] at H; exact H
  clear H
  have H := H1
  clear H1
  replace H := Option.bind_eq_some_iff.mp H
  obtain ⟨t227, A40, H⟩ := H
  replace H : (if t227 = true then (some (!(a0_0 == a0_2) || (!(a0_1 == a0_3)))) else (some false)) = some r := H
  have A4 := Aside0.mk A40
  clear A40
  by_cases c5 : t227 = true
  ·
   subst c5
   have H1 : (some (!(a0_0 == a0_2) || (!(a0_1 == a0_3)))) = some r := by rw [if_pos rfl] at H; exact H
   clear H
   have H := H1
   clear H1
   obtain rfl := Option.some.inj H
   go_enter Try.func118, Try.ntmps118
   go_wp2_with (first | ((with_reducible refine gate_dst (N := 1) rfl ?_); refine Hd.box_ 1 (#[.int .i64 a0_0, .int .i64 a0_1, .int .i64 a0_2, .int .i64 a0_3]) 60 ?_; intro gb225 hg w6 hbox hb; have BK225 := Aside0.mk (hbox); have GW225 := Aside0.mk ((Hd.g_ hg Hd.b_ : w.heap.size ≤ gb225)); have GE225 := Aside0.mk ((Hd.g_ hg Hd.b_ : w.heap.size ≤ gb225)); replace HB := Aside0.mk (below_step Hd.b_ hb); clear hb hbox hg; obtain ⟨hcz7_0, hcz7_1, hcz7_2, hcz7_3⟩ := Hd.c4_ BK225.out; obtain ⟨hfz7_0, hfz7_1, hfz7_2, hfz7_3⟩ := Hd.f4_ BK225.out) | ((with_reducible refine gate_callee (f := 111) rfl ?_); refine goesL_ (some 5) rfl rfl Try.func111 (by kernel_rfl) rfl #[.agg #[.int .i64 a0_0, .int .i64 a0_1]] rfl Hd.m_ ?_; (with_reducible refine (spec_IsPoint.calls a0_0 a0_1 true _ A2.out).mono ?_); rintro e w8 ⟨rfl, hb⟩; refine ⟨_, rfl, ?_⟩; replace BK225 := Aside0.mk (Hd.kb_ BK225 hb); replace HB := Aside0.mk (below_step Hd.b_ hb); (try clear hb); (try clear hb2); (try clear hk); (try clear hi); obtain ⟨hcz9_0, hcz9_1, hcz9_2, hcz9_3⟩ := Hd.c4_ BK225.out; obtain ⟨hfz9_0, hfz9_1, hfz9_2, hfz9_3⟩ := Hd.f4_ BK225.out) | (go_at_call 111; (with_reducible refine (spec_IsPoint.calls a0_2 a0_3 true _ A4.out).mono ?_); rintro e w10 ⟨rfl, hb⟩; replace BK225 := Aside0.mk (Hd.kb_ BK225 hb); replace HB := Aside0.mk (below_step Hd.b_ hb); (try clear hb); (try clear hb2); (try clear hk); (try clear hi); obtain ⟨hcz11_0, hcz11_1, hcz11_2, hcz11_3⟩ := Hd.c4_ BK225.out; obtain ⟨hfz11_0, hfz11_1, hfz11_2, hfz11_3⟩ := Hd.f4_ BK225.out))
   go_ret
   exact ⟨Hd.e_, Hd.b_⟩
  ·
   replace c5 := Bool.eq_false_iff.mpr c5
   subst c5
   have H1 : (some false) = some r := by rw [if_neg (show ¬ (false = true) by decide)] at H; exact H
   clear H
   have H := H1
   clear H1
   obtain rfl := Option.some.inj H
   go_enter Try.func118, Try.ntmps118
   go_wp2_with (first | ((with_reducible refine gate_dst (N := 1) rfl ?_); refine Hd.box_ 1 (#[.int .i64 a0_0, .int .i64 a0_1, .int .i64 a0_2, .int .i64 a0_3]) 60 ?_; intro gb225 hg w12 hbox hb; have BK225 := Aside0.mk (hbox); have GW225 := Aside0.mk ((Hd.g_ hg Hd.b_ : w.heap.size ≤ gb225)); have GE225 := Aside0.mk ((Hd.g_ hg Hd.b_ : w.heap.size ≤ gb225)); replace HB := Aside0.mk (below_step Hd.b_ hb); clear hb hbox hg; obtain ⟨hcz13_0, hcz13_1, hcz13_2, hcz13_3⟩ := Hd.c4_ BK225.out; obtain ⟨hfz13_0, hfz13_1, hfz13_2, hfz13_3⟩ := Hd.f4_ BK225.out) | ((with_reducible refine gate_callee (f := 111) rfl ?_); refine goesL_ (some 5) rfl rfl Try.func111 (by kernel_rfl) rfl #[.agg #[.int .i64 a0_0, .int .i64 a0_1]] rfl Hd.m_ ?_; (with_reducible refine (spec_IsPoint.calls a0_0 a0_1 true _ A2.out).mono ?_); rintro e w14 ⟨rfl, hb⟩; refine ⟨_, rfl, ?_⟩; replace BK225 := Aside0.mk (Hd.kb_ BK225 hb); replace HB := Aside0.mk (below_step Hd.b_ hb); (try clear hb); (try clear hb2); (try clear hk); (try clear hi); obtain ⟨hcz15_0, hcz15_1, hcz15_2, hcz15_3⟩ := Hd.c4_ BK225.out; obtain ⟨hfz15_0, hfz15_1, hfz15_2, hfz15_3⟩ := Hd.f4_ BK225.out) | (go_at_call 111; (with_reducible refine (spec_IsPoint.calls a0_2 a0_3 false _ A4.out).mono ?_); rintro e w16 ⟨rfl, hb⟩; replace BK225 := Aside0.mk (Hd.kb_ BK225 hb); replace HB := Aside0.mk (below_step Hd.b_ hb); (try clear hb); (try clear hb2); (try clear hk); (try clear hi)))
   go_ret
   exact ⟨Hd.e_, Hd.b_⟩
 ·
  replace c3 := Bool.eq_false_iff.mpr c3
  subst c3
  have H1 : (some false) = some r := by rw [if_neg (show ¬ (false = true) by decide)] at H; exact H
  clear H
  have H := H1
  clear H1
  obtain rfl := Option.some.inj H
  go_enter Try.func118, Try.ntmps118
  go_wp2_with (first | ((with_reducible refine gate_dst (N := 1) rfl ?_); refine Hd.box_ 1 (#[.int .i64 a0_0, .int .i64 a0_1, .int .i64 a0_2, .int .i64 a0_3]) 60 ?_; intro gb225 hg w17 hbox hb; have BK225 := Aside0.mk (hbox); have GW225 := Aside0.mk ((Hd.g_ hg Hd.b_ : w.heap.size ≤ gb225)); have GE225 := Aside0.mk ((Hd.g_ hg Hd.b_ : w.heap.size ≤ gb225)); replace HB := Aside0.mk (below_step Hd.b_ hb); clear hb hbox hg; obtain ⟨hcz18_0, hcz18_1, hcz18_2, hcz18_3⟩ := Hd.c4_ BK225.out; obtain ⟨hfz18_0, hfz18_1, hfz18_2, hfz18_3⟩ := Hd.f4_ BK225.out) | ((with_reducible refine gate_callee (f := 111) rfl ?_); refine goesL_ (some 5) rfl rfl Try.func111 (by kernel_rfl) rfl #[.agg #[.int .i64 a0_0, .int .i64 a0_1]] rfl Hd.m_ ?_; (with_reducible refine (spec_IsPoint.calls a0_0 a0_1 false _ A2.out).mono ?_); rintro e w19 ⟨rfl, hb⟩; refine ⟨_, rfl, ?_⟩; replace BK225 := Aside0.mk (Hd.kb_ BK225 hb); replace HB := Aside0.mk (below_step Hd.b_ hb); (try clear hb); (try clear hb2); (try clear hk); (try clear hi)))
  go_ret
  exact ⟨Hd.e_, Hd.b_⟩

/-! ### spec_Max: function 100 -/
def spec_Max.f (a0 : Int) (a1 : Int) : Option (Int) := if a1 > a0 then (some a1) else (some a0)
set_option maxHeartbeats 8000000 in
set_option maxRecDepth 100000 in
theorem spec_Max.calls (a0 : Int) (a1 : Int) (r : Int) (w : World) (h : spec_Max.f a0 a1 = some r) :
  Calls Try.prog 100 #[.int .i64 a0, .int .i64 a1] w fun e w' => e = .returned (.int .i64 r) ∧ Drawn0 w w' := by
 have H : (if a1 > a0 then (some a1) else (some a0)) = some r := h
 clear h
 by_cases c3 : a1 > a0
 ·
  rw [if_pos c3] at H
  have c3b0 : decide (a0 < a1) = true := decide_eq_true c3
  clear c3
  obtain rfl := Option.some.inj H
  go_enter Try.func100, Try.ntmps100
  go_wp2
  go_ret
  exact ⟨by first | rfl | (simp; done) | (simp [*]; done), by repeat (first | exact Drawn0.refl _ | apply Drawn0.step)⟩
 ·
  rw [if_neg c3] at H
  have c3b0 : decide (a0 < a1) = false := decide_eq_false c3
  clear c3
  obtain rfl := Option.some.inj H
  go_enter Try.func100, Try.ntmps100
  go_wp2
  go_ret
  exact ⟨by first | rfl | (simp; done) | (simp [*]; done), by repeat (first | exact Drawn0.refl _ | apply Drawn0.step)⟩

/-! ### spec_Min: function 134 -/
def spec_Min.f (a0 : Int) (a1 : Int) : Option (Int) := if a1 < a0 then (some a1) else (some a0)
set_option maxHeartbeats 8000000 in
set_option maxRecDepth 100000 in
theorem spec_Min.calls (a0 : Int) (a1 : Int) (r : Int) (w : World) (h : spec_Min.f a0 a1 = some r) :
  Calls Try.prog 134 #[.int .i64 a0, .int .i64 a1] w fun e w' => e = .returned (.int .i64 r) ∧ Drawn0 w w' := by
 have H : (if a1 < a0 then (some a1) else (some a0)) = some r := h
 clear h
 by_cases c3 : a1 < a0
 ·
  rw [if_pos c3] at H
  have c3b0 : decide (a1 < a0) = true := decide_eq_true c3
  clear c3
  obtain rfl := Option.some.inj H
  go_enter Try.func134, Try.ntmps134
  go_wp2
  go_ret
  exact ⟨by first | rfl | (simp; done) | (simp [*]; done), by repeat (first | exact Drawn0.refl _ | apply Drawn0.step)⟩
 ·
  rw [if_neg c3] at H
  have c3b0 : decide (a1 < a0) = false := decide_eq_false c3
  clear c3
  obtain rfl := Option.some.inj H
  go_enter Try.func134, Try.ntmps134
  go_wp2
  go_ret
  exact ⟨by first | rfl | (simp; done) | (simp [*]; done), by repeat (first | exact Drawn0.refl _ | apply Drawn0.step)⟩

/-! ### spec_l4Cross: function 99 -/
def spec_l4Cross.f (a0_0 : Int) (a0_1 : Int) (a1_0 : Int) (a1_1 : Int) (a2_0 : Int) (a2_1 : Int) : Option (Int) := some (wrap64 ((wrap64 ((wrap64 (a1_0 - a0_0)) * (wrap64 (a2_1 - a0_1)))) - (wrap64 ((wrap64 (a1_1 - a0_1)) * (wrap64 (a2_0 - a0_0))))))
set_option maxHeartbeats 8000000 in
set_option maxRecDepth 100000 in
theorem spec_l4Cross.calls (a0_0 : Int) (a0_1 : Int) (a1_0 : Int) (a1_1 : Int) (a2_0 : Int) (a2_1 : Int) (r : Int) (w : World) (h : spec_l4Cross.f a0_0 a0_1 a1_0 a1_1 a2_0 a2_1 = some r) :
  Calls Try.prog 99 #[.agg #[.int .i64 a0_0, .int .i64 a0_1], .agg #[.int .i64 a1_0, .int .i64 a1_1], .agg #[.int .i64 a2_0, .int .i64 a2_1]] w fun e w' => e = .returned (.int .i64 r) ∧ Below w.heap.size w w' := by
 have hu27 := Try.underlying27
 have HB := Aside0.mk (Below.refl w.heap.size w)
 have H : (some (wrap64 ((wrap64 ((wrap64 (a1_0 - a0_0)) * (wrap64 (a2_1 - a0_1)))) - (wrap64 ((wrap64 (a1_1 - a0_1)) * (wrap64 (a2_0 - a0_0))))))) = some r := h
 clear h
 obtain rfl := Option.some.inj H
 go_enter Try.func99, Try.ntmps99
 go_wp2_with (first | ((with_reducible refine gate_dst (N := 3) rfl ?_); refine Hd.box_ 3 (#[.int .i64 a0_0, .int .i64 a0_1]) 27 ?_; intro gb228 hg w4 hbox hb; have BK228 := Aside0.mk (hbox); have GW228 := Aside0.mk ((Hd.g_ hg Hd.b_ : w.heap.size ≤ gb228)); have GE228 := Aside0.mk ((Hd.g_ hg Hd.b_ : w.heap.size ≤ gb228)); replace HB := Aside0.mk (below_step Hd.b_ hb); clear hb hbox hg) | ((with_reducible refine gate_dst (N := 4) rfl ?_); refine Hd.box_ 4 (#[.int .i64 a1_0, .int .i64 a1_1]) 27 ?_; intro gb229 hg w5 hbox hb; have BK229 := Aside0.mk (hbox); have GW229 := Aside0.mk ((Hd.g_ hg Hd.b_ : w.heap.size ≤ gb229)); have GE229 := Aside0.mk ((Hd.g_ hg Hd.b_ : w.heap.size ≤ gb229)); replace HB := Aside0.mk (below_step Hd.b_ hb); have NB228_229 := Aside0.mk ((Hd.lt_ BK228 hg)); have NB229_228 := Aside0.mk ((Hd.gt_ BK228 hg)); replace BK228 := Aside0.mk (Hd.kb_ BK228 hb); clear hb hbox hg) | ((with_reducible refine gate_dst (N := 5) rfl ?_); refine Hd.box_ 5 (#[.int .i64 a2_0, .int .i64 a2_1]) 27 ?_; intro gb230 hg w6 hbox hb; have BK230 := Aside0.mk (hbox); have GW230 := Aside0.mk ((Hd.g_ hg Hd.b_ : w.heap.size ≤ gb230)); have GE230 := Aside0.mk ((Hd.g_ hg Hd.b_ : w.heap.size ≤ gb230)); replace HB := Aside0.mk (below_step Hd.b_ hb); have NB228_230 := Aside0.mk ((Hd.lt_ BK228 hg)); have NB230_228 := Aside0.mk ((Hd.gt_ BK228 hg)); replace BK228 := Aside0.mk (Hd.kb_ BK228 hb); have NB229_230 := Aside0.mk ((Hd.lt_ BK229 hg)); have NB230_229 := Aside0.mk ((Hd.gt_ BK229 hg)); replace BK229 := Aside0.mk (Hd.kb_ BK229 hb); clear hb hbox hg; have hnb7 := NB229_228.out; have hnc7 := NB228_229.out; have hnb8 := NB229_230.out; have hnc8 := NB230_229.out; obtain ⟨hcz9_0, hcz9_1⟩ := Hd.c2_ BK229.out; obtain ⟨hfz9_0, hfz9_1⟩ := Hd.f2_ BK229.out; have hnb10 := NB228_230.out; have hnc10 := NB230_228.out; obtain ⟨hcz11_0, hcz11_1⟩ := Hd.c2_ BK228.out; obtain ⟨hfz11_0, hfz11_1⟩ := Hd.f2_ BK228.out; obtain ⟨hcz12_0, hcz12_1⟩ := Hd.c2_ BK230.out; obtain ⟨hfz12_0, hfz12_1⟩ := Hd.f2_ BK230.out))
 go_ret
 exact ⟨Hd.e_, Hd.b_⟩

end Go.Proofs.Ytchmbcembbbplab.MFnExactIsInside
