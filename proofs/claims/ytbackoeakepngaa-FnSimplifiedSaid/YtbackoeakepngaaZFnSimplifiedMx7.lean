-- Laid by this session's program pp.py, after the kit's print and texts of the session's own. Not trusted: Lean checks it.
import Derived.Test.YtbackoeakepngaaZFnSimplifiedMx0
import Derived.Test.YtbackoeakepngaaZFnSimplifiedMx1
import Derived.Test.YtbackoeakepngaaZFnSimplifiedMx2
import Derived.Test.YtbackoeakepngaaZFnSimplifiedMx4
import Derived.Test.YtbackoeakepngaaZFnSimplifiedMx6
namespace Go.Proofs.Ytbackoeakepngaa.MFnSimplified
open Go.RowKit Go.Proofs.YtbackoeakepngaaW.PrintWords Go.Proofs.YtbackoeakepngaaW.PrintLast Go.Proofs.YtbackoeakepngaaW.PrintMore
attribute [local go_sem] max2_int min2_int max_two min_two max_three min_three max_four min_four   -- for this text's walks alone
set_option linter.unusedVariables false
set_option linter.unusedSimpArgs false
attribute [local go_sem high] eqA27
mutual
def impl_IsFaithful.j0 : Nat → List (S27) → List (S27) → Int → Bool → Option (Bool)
 | 0, _, _, _, _ => none
 | k + 1, x0, x1, x2, x44 => if x44 = true then (some false) else ((impl_SegmentsOf.f k x1).bind fun t303 => (impl_IsFaithful.l0 k x2 t303 x0 (x0.length : Int) 0))
def impl_IsFaithful.l0 : Nat → Int → List (S53) → List (S27) → Int → Int → Option (Bool)
 | 0, _, _, _, _, _ => none
 | k + 1, x2, x7, x47, x48, x49 => if x49 < x48 then (if 0 ≤ x49 then (if x49 < (x47.length : Int) then (impl_IsFaithful.l1 k x2 x7 false x47 x48 x49 x7 (x7.length : Int) 0 ((rd_T27 x47 x49).f0) ((rd_T27 x47 x49).f1)) else (none)) else (none)) else (some true)
def impl_IsFaithful.l1 : Nat → Int → List (S53) → Bool → List (S27) → Int → Int → List (S53) → Int → Int → Int → Int → Option (Bool)
 | 0, _, _, _, _, _, _, _, _, _, _, _ => none
 | k + 1, x2, x7, x10, x47, x48, x49, x53, x54, x55, x308000, x308001 => if x55 < x54 then (if 0 ≤ x55 then (if x55 < (x53.length : Int) then (if x10 = true then (impl_IsFaithful.l1 k x2 x7 true x47 x48 x49 x53 x54 (wrap64 (x55 + 1)) x308000 x308001) else ((impl_IsNear.f ((rd_T53 x53 x55).f0.f0) ((rd_T53 x53 x55).f0.f1) ((rd_T53 x53 x55).f1.f0) ((rd_T53 x53 x55).f1.f1) x308000 x308001 x2).bind fun t310 => (impl_IsFaithful.l1 k x2 x7 t310 x47 x48 x49 x53 x54 (wrap64 (x55 + 1)) x308000 x308001))) else (none)) else (none)) else (if x10 = true then (impl_IsFaithful.l0 k x2 x7 x47 x48 (wrap64 (x49 + 1))) else (some false))
end
def impl_IsFaithful.f (k : Nat) (l0 : List (S27)) (l1 : List (S27)) (a2 : Int) : Option (Bool) := (impl_IsLine.f k l0).bind fun t297 => (if t297 = true then ((impl_IsLine.f k l1).bind fun t298 => (if t298 = true then (if 0 < (l0.length : Int) then (if 0 < (l1.length : Int) then (if (!(((rd_T27 l0 0).f0) == ((rd_T27 l1 0).f0)) || (!(((rd_T27 l0 0).f1) == ((rd_T27 l1 0).f1)))) = true then (impl_IsFaithful.j0 k l0 l1 a2 true) else (if 0 ≤ (wrap64 ((l0.length : Int) - 1)) then (if (wrap64 ((l0.length : Int) - 1)) < (l0.length : Int) then (if 0 ≤ (wrap64 ((l1.length : Int) - 1)) then (if (wrap64 ((l1.length : Int) - 1)) < (l1.length : Int) then (impl_IsFaithful.j0 k l0 l1 a2 (!(((rd_T27 l0 (wrap64 ((l0.length : Int) - 1))).f0) == ((rd_T27 l1 (wrap64 ((l1.length : Int) - 1))).f0)) || (!(((rd_T27 l0 (wrap64 ((l0.length : Int) - 1))).f1) == ((rd_T27 l1 (wrap64 ((l1.length : Int) - 1))).f1))))) else (none)) else (none)) else (none)) else (none))) else (none)) else (none)) else (impl_IsFaithful.j0 k l0 l1 a2 true))) else (impl_IsFaithful.j0 k l0 l1 a2 true))
set_option maxHeartbeats 8000000 in
set_option maxRecDepth 100000 in
theorem impl_IsFaithful.calls (k : Nat) (A0 : Option Addr) (c0 : Nat) (l0 : List (S27)) (A1 : Option Addr) (c1 : Nat) (l1 : List (S27)) (a2 : Int) (r : Bool) (w : World) (hr0 : Kd.C k27 w A0 l0.length l0) (hc0 : l0.length ≤ c0) (hr1 : Kd.C k27 w A1 l1.length l1) (hc1 : l1.length ≤ c1) (h : impl_IsFaithful.f k l0 l1 a2 = some r) :
  Calls Try.prog 34 #[.slice A0 l0.length c0, .slice A1 l1.length c1, .int .i64 a2] w fun e w' => e = .returned (.bool r) ∧ Below w.heap.size w w' := by
 have hu27 := Try.underlying27
 have hu53 := Try.underlying53
 have HR0 := Aside0.mk hr0
 have HC0 := Aside0.mk hc0
 clear hr0 hc0
 have HR1 := Aside0.mk hr1
 have HC1 := Aside0.mk hc1
 clear hr1 hc1
 have HB := Aside0.mk (Below.refl w.heap.size w)
 have H : ((impl_IsLine.f k l0).bind fun t297 => (if t297 = true then ((impl_IsLine.f k l1).bind fun t298 => (if t298 = true then (if 0 < (l0.length : Int) then (if 0 < (l1.length : Int) then (if (!(((rd_T27 l0 0).f0) == ((rd_T27 l1 0).f0)) || (!(((rd_T27 l0 0).f1) == ((rd_T27 l1 0).f1)))) = true then (impl_IsFaithful.j0 k l0 l1 a2 true) else (if 0 ≤ (wrap64 ((l0.length : Int) - 1)) then (if (wrap64 ((l0.length : Int) - 1)) < (l0.length : Int) then (if 0 ≤ (wrap64 ((l1.length : Int) - 1)) then (if (wrap64 ((l1.length : Int) - 1)) < (l1.length : Int) then (impl_IsFaithful.j0 k l0 l1 a2 (!(((rd_T27 l0 (wrap64 ((l0.length : Int) - 1))).f0) == ((rd_T27 l1 (wrap64 ((l1.length : Int) - 1))).f0)) || (!(((rd_T27 l0 (wrap64 ((l0.length : Int) - 1))).f1) == ((rd_T27 l1 (wrap64 ((l1.length : Int) - 1))).f1))))) else (none)) else (none)) else (none)) else (none))) else (none)) else (none)) else (impl_IsFaithful.j0 k l0 l1 a2 true))) else (impl_IsFaithful.j0 k l0 l1 a2 true))) = some r := h
 clear h
 have HC4 := Aside0.mk H
 clear H
 go_enter Try.func34, Try.ntmps34
 go_upto_region 1 with (fail)
 go_cut [44] (fun v44 wc => ∃ (kq : Nat) (x44_3 : Bool), v44 = .bool x44_3 ∧ Aside0 (impl_IsFaithful.j0 kq l0 l1 a2 x44_3 = some r) ∧ Aside0 (kq ≤ k) ∧ Aside0 (Below w.heap.size w wc))
 case first =>
  have H := HC4.out
  clear HC4
  replace H := Option.bind_eq_some_iff.mp H
  obtain ⟨t297, A50, H⟩ := H
  replace H : (if t297 = true then ((impl_IsLine.f k l1).bind fun t298 => (if t298 = true then (if 0 < (l0.length : Int) then (if 0 < (l1.length : Int) then (if (!(((rd_T27 l0 0).f0) == ((rd_T27 l1 0).f0)) || (!(((rd_T27 l0 0).f1) == ((rd_T27 l1 0).f1)))) = true then (impl_IsFaithful.j0 k l0 l1 a2 true) else (if 0 ≤ (wrap64 ((l0.length : Int) - 1)) then (if (wrap64 ((l0.length : Int) - 1)) < (l0.length : Int) then (if 0 ≤ (wrap64 ((l1.length : Int) - 1)) then (if (wrap64 ((l1.length : Int) - 1)) < (l1.length : Int) then (impl_IsFaithful.j0 k l0 l1 a2 (!(((rd_T27 l0 (wrap64 ((l0.length : Int) - 1))).f0) == ((rd_T27 l1 (wrap64 ((l1.length : Int) - 1))).f0)) || (!(((rd_T27 l0 (wrap64 ((l0.length : Int) - 1))).f1) == ((rd_T27 l1 (wrap64 ((l1.length : Int) - 1))).f1))))) else (none)) else (none)) else (none)) else (none))) else (none)) else (none)) else (impl_IsFaithful.j0 k l0 l1 a2 true))) else (impl_IsFaithful.j0 k l0 l1 a2 true)) = some r := H
  have A5 := Aside0.mk A50
  clear A50
  by_cases c6 : t297 = true
  ·
   subst c6
   have H1 : ((impl_IsLine.f k l1).bind fun t298 => (if t298 = true then (if 0 < (l0.length : Int) then (if 0 < (l1.length : Int) then (if (!(((rd_T27 l0 0).f0) == ((rd_T27 l1 0).f0)) || (!(((rd_T27 l0 0).f1) == ((rd_T27 l1 0).f1)))) = true then (impl_IsFaithful.j0 k l0 l1 a2 true) else (if 0 ≤ (wrap64 ((l0.length : Int) - 1)) then (if (wrap64 ((l0.length : Int) - 1)) < (l0.length : Int) then (if 0 ≤ (wrap64 ((l1.length : Int) - 1)) then (if (wrap64 ((l1.length : Int) - 1)) < (l1.length : Int) then (impl_IsFaithful.j0 k l0 l1 a2 (!(((rd_T27 l0 (wrap64 ((l0.length : Int) - 1))).f0) == ((rd_T27 l1 (wrap64 ((l1.length : Int) - 1))).f0)) || (!(((rd_T27 l0 (wrap64 ((l0.length : Int) - 1))).f1) == ((rd_T27 l1 (wrap64 ((l1.length : Int) - 1))).f1))))) else (none)) else (none)) else (none)) else (none))) else (none)) else (none)) else (impl_IsFaithful.j0 k l0 l1 a2 true))) = some r := by rw [if_pos rfl] at H; exact H
   clear H
   have H := H1
   clear H1
   replace H := Option.bind_eq_some_iff.mp H
   obtain ⟨t298, A70, H⟩ := H
   replace H : (if t298 = true then (if 0 < (l0.length : Int) then (if 0 < (l1.length : Int) then (if (!(((rd_T27 l0 0).f0) == ((rd_T27 l1 0).f0)) || (!(((rd_T27 l0 0).f1) == ((rd_T27 l1 0).f1)))) = true then (impl_IsFaithful.j0 k l0 l1 a2 true) else (if 0 ≤ (wrap64 ((l0.length : Int) - 1)) then (if (wrap64 ((l0.length : Int) - 1)) < (l0.length : Int) then (if 0 ≤ (wrap64 ((l1.length : Int) - 1)) then (if (wrap64 ((l1.length : Int) - 1)) < (l1.length : Int) then (impl_IsFaithful.j0 k l0 l1 a2 (!(((rd_T27 l0 (wrap64 ((l0.length : Int) - 1))).f0) == ((rd_T27 l1 (wrap64 ((l1.length : Int) - 1))).f0)) || (!(((rd_T27 l0 (wrap64 ((l0.length : Int) - 1))).f1) == ((rd_T27 l1 (wrap64 ((l1.length : Int) - 1))).f1))))) else (none)) else (none)) else (none)) else (none))) else (none)) else (none)) else (impl_IsFaithful.j0 k l0 l1 a2 true)) = some r := H
   have A7 := Aside0.mk A70
   clear A70
   by_cases c8 : t298 = true
   ·
    subst c8
    have H1 : (if 0 < (l0.length : Int) then (if 0 < (l1.length : Int) then (if (!(((rd_T27 l0 0).f0) == ((rd_T27 l1 0).f0)) || (!(((rd_T27 l0 0).f1) == ((rd_T27 l1 0).f1)))) = true then (impl_IsFaithful.j0 k l0 l1 a2 true) else (if 0 ≤ (wrap64 ((l0.length : Int) - 1)) then (if (wrap64 ((l0.length : Int) - 1)) < (l0.length : Int) then (if 0 ≤ (wrap64 ((l1.length : Int) - 1)) then (if (wrap64 ((l1.length : Int) - 1)) < (l1.length : Int) then (impl_IsFaithful.j0 k l0 l1 a2 (!(((rd_T27 l0 (wrap64 ((l0.length : Int) - 1))).f0) == ((rd_T27 l1 (wrap64 ((l1.length : Int) - 1))).f0)) || (!(((rd_T27 l0 (wrap64 ((l0.length : Int) - 1))).f1) == ((rd_T27 l1 (wrap64 ((l1.length : Int) - 1))).f1))))) else (none)) else (none)) else (none)) else (none))) else (none)) else (none)) = some r := by rw [if_pos rfl] at H; exact H
    clear H
    have H := H1
    clear H1
    by_cases c9 : 0 < (l0.length : Int)
    ·
     rw [if_pos c9] at H
     have c9b0 : decide (0 < (l0.length : Int)) = true := decide_eq_true c9
     have c9b1 : decide (0 < l0.length) = true := decide_eq_true (by omega)
     clear c9
     (first | rw [c9b0] | (simp only [i64_w, i32_w]; rw [c9b0]) | skip)
     by_cases c10 : 0 < (l1.length : Int)
     ·
      rw [if_pos c10] at H
      have c10b0 : decide (0 < (l1.length : Int)) = true := decide_eq_true c10
      have c10b1 : decide (0 < l1.length) = true := decide_eq_true (by omega)
      clear c10
      by_cases c11 : (!(((rd_T27 l0 0).f0) == ((rd_T27 l1 0).f0)) || (!(((rd_T27 l0 0).f1) == ((rd_T27 l1 0).f1)))) = true
      ·
       rw [if_pos c11] at H
       have c11b0 : (!(((rd_T27 l0 0).f0) == ((rd_T27 l1 0).f0)) || (!(((rd_T27 l0 0).f1) == ((rd_T27 l1 0).f1)))) = true := c11
       clear c11
       have H' := Aside0.mk H
       clear H
       try go_wp2
       replace HB := Aside0.mk (below_drew1 HB.out)
       have p299 : 0 ≤ (0 : Int) := (by omega)
       have q299 : 0 < (l0.length : Int) := of_decide_eq_true Hd.a_
       obtain ⟨ad299, e299, hx299_0, hx299_1⟩ := at_T27 HR0.out 0 p299 q299
       have hw299_1 := hx299_1
       (try rw [show ((0 : Int)).toNat = 0 from rfl] at hw299_1)
       (try rw [show 0 * 2 = 0 from rfl] at hw299_1)
       (try rw [Addr.add_zero'] at hw299_1)
       have hw299_0 := hx299_0
       (try rw [show ((0 : Int)).toNat = 0 from rfl] at hw299_0)
       (try rw [show 0 * 2 = 0 from rfl] at hw299_0)
       (try rw [Addr.add_zero'] at hw299_0)
       cases e299
       have qi299 : (0 < l0.length) = True := eq_true (by omega)
       (try rw [show ((0 : Int)).toNat = 0 from rfl] at hx299_0)
       (try rw [show 0 * 2 = 0 from rfl] at hx299_0)
       (try rw [Addr.add_zero'] at hx299_0)
       (try rw [show ((0 : Int)).toNat = 0 from rfl] at hx299_1)
       (try rw [show 0 * 2 = 0 from rfl] at hx299_1)
       (try rw [Addr.add_zero'] at hx299_1)
       replace hx299_0 := (HB.out.cell (World.block_lt_of_cell? w _ hx299_0)).trans hx299_0
       replace hx299_1 := (HB.out.cell (World.block_lt_of_cell? w _ hx299_1)).trans hx299_1
       replace p299 := eq_true p299
       replace q299 := eq_true q299
       have p300 : 0 ≤ (0 : Int) := (by omega)
       have q300 : 0 < (l1.length : Int) := of_decide_eq_true Hd.a_
       obtain ⟨ad300, e300, hx300_0, hx300_1⟩ := at_T27 HR1.out 0 p300 q300
       have hw300_1 := hx300_1
       (try rw [show ((0 : Int)).toNat = 0 from rfl] at hw300_1)
       (try rw [show 0 * 2 = 0 from rfl] at hw300_1)
       (try rw [Addr.add_zero'] at hw300_1)
       have hw300_0 := hx300_0
       (try rw [show ((0 : Int)).toNat = 0 from rfl] at hw300_0)
       (try rw [show 0 * 2 = 0 from rfl] at hw300_0)
       (try rw [Addr.add_zero'] at hw300_0)
       cases e300
       have qi300 : (0 < l1.length) = True := eq_true (by omega)
       (try rw [show ((0 : Int)).toNat = 0 from rfl] at hx300_0)
       (try rw [show 0 * 2 = 0 from rfl] at hx300_0)
       (try rw [Addr.add_zero'] at hx300_0)
       (try rw [show ((0 : Int)).toNat = 0 from rfl] at hx300_1)
       (try rw [show 0 * 2 = 0 from rfl] at hx300_1)
       (try rw [Addr.add_zero'] at hx300_1)
       replace hx300_0 := (HB.out.cell (World.block_lt_of_cell? w _ hx300_0)).trans hx300_0
       replace hx300_1 := (HB.out.cell (World.block_lt_of_cell? w _ hx300_1)).trans hx300_1
       replace p300 := eq_true p300
       replace q300 := eq_true q300
       have s0_ := Hd.HW.x (W0 := w.drew) ((HB.out.cell (World.block_lt_of_cell? w _ hw299_0)).trans hw299_0)
       have s1_ := Hd.HW.x (W0 := w.drew) ((HB.out.cell (World.block_lt_of_cell? w _ hw299_1)).trans hw299_1)
       have s2_ := Hd.HW.x (W0 := w.drew) ((HB.out.cell (World.block_lt_of_cell? w _ hw300_0)).trans hw300_0)
       have s3_ := Hd.HW.x (W0 := w.drew) ((HB.out.cell (World.block_lt_of_cell? w _ hw300_1)).trans hw300_1)
       refine Hd.HW.region (by kernel_rfl) (by kernel_rfl) ?_
       try dsimp only [List.append]
       repeat (go_big_quiet_step ((first | (go_at_call 33; with_reducible exact Hd.HW.c (impl_IsLine.calls k _ _ l0 true _ (Kd.C_below HR0.out (Hd.HW.bel HB.out)) HC0.out A5.out)) | (go_at_call 33; with_reducible exact Hd.HW.c (impl_IsLine.calls k _ _ l1 true _ (Kd.C_below HR1.out (Hd.HW.bel HB.out)) HC1.out A7.out)))))
       refine wpQuiet_nil ?_
       intro _ hq_
       obtain ⟨q_, rfl⟩ := hq_
       clear s0_ s1_ s2_ s3_
       replace HB := Aside0.mk (below_step HB.out q_.b)
       replace hx299_0 := q_.cell hx299_0
       replace hx299_1 := q_.cell hx299_1
       replace hx300_0 := q_.cell hx300_0
       replace hx300_1 := q_.cell hx300_1
       generalize q_.W = w14 at HB hx299_0 hx299_1 hx300_0 hx300_1 ⊢
       try simp only [i64_w, i32_w]
       try go_wp2
       go_meet
       case rel => exact ⟨_, (true), (by first | rfl | (simp; done) | (simp [*]; done)), H', ⟨by first | omega | exact Nat.le_refl _⟩, ⟨Hd.b_⟩⟩
      ·
       rw [if_neg c11] at H
       have c11b0 : (!(((rd_T27 l0 0).f0) == ((rd_T27 l1 0).f0)) || (!(((rd_T27 l0 0).f1) == ((rd_T27 l1 0).f1)))) = false := by simpa using c11
       clear c11
       obtain ⟨ji15, hji15⟩ : ∃ j_ : Int, (wrap64 ((l0.length : Int) - 1)) = j_ := ⟨_, rfl⟩
       replace H : (if 0 ≤ (ji15) then (if (ji15) < (l0.length : Int) then (if 0 ≤ (wrap64 ((l1.length : Int) - 1)) then (if (wrap64 ((l1.length : Int) - 1)) < (l1.length : Int) then (impl_IsFaithful.j0 k l0 l1 a2 (!(((rd_T27 l0 (ji15)).f0) == ((rd_T27 l1 (wrap64 ((l1.length : Int) - 1))).f0)) || (!(((rd_T27 l0 (ji15)).f1) == ((rd_T27 l1 (wrap64 ((l1.length : Int) - 1))).f1))))) else (none)) else (none)) else (none)) else (none)) = some r := by first | (rw [hji15] at H; exact H) | (simp only [hji15] at H ⊢; exact H)
       (try rw [hji15] at A5)
       (try rw [hji15] at A7)
       have hji15w : (IntKind.i64.wrap ((l0.length : Int) - 1)) = ji15 := (i64_w _).trans hji15
       by_cases c16 : 0 ≤ (ji15)
       ·
        rw [if_pos c16] at H
        have c16b0 : decide (0 ≤ (ji15)) = true := decide_eq_true c16
        clear c16
        by_cases c17 : (ji15) < (l0.length : Int)
        ·
         rw [if_pos c17] at H
         have c17b0 : decide ((ji15) < (l0.length : Int)) = true := decide_eq_true c17
         clear c17
         obtain ⟨ji18, hji18⟩ : ∃ j_ : Int, (wrap64 ((l1.length : Int) - 1)) = j_ := ⟨_, rfl⟩
         replace H : (if 0 ≤ (ji18) then (if (ji18) < (l1.length : Int) then (impl_IsFaithful.j0 k l0 l1 a2 (!(((rd_T27 l0 (ji15)).f0) == ((rd_T27 l1 (ji18)).f0)) || (!(((rd_T27 l0 (ji15)).f1) == ((rd_T27 l1 (ji18)).f1))))) else (none)) else (none)) = some r := by first | (rw [hji18] at H; exact H) | (simp only [hji18] at H ⊢; exact H)
         (try rw [hji18] at A5)
         (try rw [hji18] at A7)
         have hji18w : (IntKind.i64.wrap ((l1.length : Int) - 1)) = ji18 := (i64_w _).trans hji18
         by_cases c19 : 0 ≤ (ji18)
         ·
          rw [if_pos c19] at H
          have c19b0 : decide (0 ≤ (ji18)) = true := decide_eq_true c19
          clear c19
          by_cases c20 : (ji18) < (l1.length : Int)
          ·
           rw [if_pos c20] at H
           have c20b0 : decide ((ji18) < (l1.length : Int)) = true := decide_eq_true c20
           clear c20
           have H' := Aside0.mk H
           clear H
           try go_wp2
           replace HB := Aside0.mk (below_drew1 HB.out)
           have p299 : 0 ≤ (0 : Int) := (by omega)
           have q299 : 0 < (l0.length : Int) := of_decide_eq_true Hd.a_
           obtain ⟨ad299, e299, hx299_0, hx299_1⟩ := at_T27 HR0.out 0 p299 q299
           have hw299_1 := hx299_1
           (try rw [show ((0 : Int)).toNat = 0 from rfl] at hw299_1)
           (try rw [show 0 * 2 = 0 from rfl] at hw299_1)
           (try rw [Addr.add_zero'] at hw299_1)
           have hw299_0 := hx299_0
           (try rw [show ((0 : Int)).toNat = 0 from rfl] at hw299_0)
           (try rw [show 0 * 2 = 0 from rfl] at hw299_0)
           (try rw [Addr.add_zero'] at hw299_0)
           cases e299
           have qi299 : (0 < l0.length) = True := eq_true (by omega)
           (try rw [show ((0 : Int)).toNat = 0 from rfl] at hx299_0)
           (try rw [show 0 * 2 = 0 from rfl] at hx299_0)
           (try rw [Addr.add_zero'] at hx299_0)
           (try rw [show ((0 : Int)).toNat = 0 from rfl] at hx299_1)
           (try rw [show 0 * 2 = 0 from rfl] at hx299_1)
           (try rw [Addr.add_zero'] at hx299_1)
           replace hx299_0 := (HB.out.cell (World.block_lt_of_cell? w _ hx299_0)).trans hx299_0
           replace hx299_1 := (HB.out.cell (World.block_lt_of_cell? w _ hx299_1)).trans hx299_1
           replace p299 := eq_true p299
           replace q299 := eq_true q299
           have p300 : 0 ≤ (0 : Int) := (by omega)
           have q300 : 0 < (l1.length : Int) := of_decide_eq_true Hd.a_
           obtain ⟨ad300, e300, hx300_0, hx300_1⟩ := at_T27 HR1.out 0 p300 q300
           have hw300_1 := hx300_1
           (try rw [show ((0 : Int)).toNat = 0 from rfl] at hw300_1)
           (try rw [show 0 * 2 = 0 from rfl] at hw300_1)
           (try rw [Addr.add_zero'] at hw300_1)
           have hw300_0 := hx300_0
           (try rw [show ((0 : Int)).toNat = 0 from rfl] at hw300_0)
           (try rw [show 0 * 2 = 0 from rfl] at hw300_0)
           (try rw [Addr.add_zero'] at hw300_0)
           cases e300
           have qi300 : (0 < l1.length) = True := eq_true (by omega)
           (try rw [show ((0 : Int)).toNat = 0 from rfl] at hx300_0)
           (try rw [show 0 * 2 = 0 from rfl] at hx300_0)
           (try rw [Addr.add_zero'] at hx300_0)
           (try rw [show ((0 : Int)).toNat = 0 from rfl] at hx300_1)
           (try rw [show 0 * 2 = 0 from rfl] at hx300_1)
           (try rw [Addr.add_zero'] at hx300_1)
           replace hx300_0 := (HB.out.cell (World.block_lt_of_cell? w _ hx300_0)).trans hx300_0
           replace hx300_1 := (HB.out.cell (World.block_lt_of_cell? w _ hx300_1)).trans hx300_1
           replace p300 := eq_true p300
           replace q300 := eq_true q300
           have p301 : 0 ≤ ((ji15) : Int) := of_decide_eq_true Hd.a_
           have q301 : (ji15) < (l0.length : Int) := of_decide_eq_true Hd.a_
           obtain ⟨ad301, e301, hx301_0, hx301_1⟩ := at_T27 HR0.out (ji15) p301 q301
           have hw301_1 := hx301_1
           have hw301_0 := hx301_0
           obtain rfl : ad299 = ad301 := (by injection e301)
           replace hx301_0 := (HB.out.cell (World.block_lt_of_cell? w _ hx301_0)).trans hx301_0
           replace hx301_1 := (HB.out.cell (World.block_lt_of_cell? w _ hx301_1)).trans hx301_1
           replace p301 := eq_true p301
           replace q301 := eq_true q301
           have p302 : 0 ≤ ((ji18) : Int) := of_decide_eq_true Hd.a_
           have q302 : (ji18) < (l1.length : Int) := of_decide_eq_true Hd.a_
           obtain ⟨ad302, e302, hx302_0, hx302_1⟩ := at_T27 HR1.out (ji18) p302 q302
           have hw302_1 := hx302_1
           have hw302_0 := hx302_0
           obtain rfl : ad300 = ad302 := (by injection e302)
           replace hx302_0 := (HB.out.cell (World.block_lt_of_cell? w _ hx302_0)).trans hx302_0
           replace hx302_1 := (HB.out.cell (World.block_lt_of_cell? w _ hx302_1)).trans hx302_1
           replace p302 := eq_true p302
           replace q302 := eq_true q302
           have s0_ := Hd.HW.x (W0 := w.drew) ((HB.out.cell (World.block_lt_of_cell? w _ hw299_0)).trans hw299_0)
           have s1_ := Hd.HW.x (W0 := w.drew) ((HB.out.cell (World.block_lt_of_cell? w _ hw299_1)).trans hw299_1)
           have s2_ := Hd.HW.x (W0 := w.drew) ((HB.out.cell (World.block_lt_of_cell? w _ hw300_0)).trans hw300_0)
           have s3_ := Hd.HW.x (W0 := w.drew) ((HB.out.cell (World.block_lt_of_cell? w _ hw300_1)).trans hw300_1)
           have s4_ := Hd.HW.x (W0 := w.drew) ((HB.out.cell (World.block_lt_of_cell? w _ hw301_0)).trans hw301_0)
           have s5_ := Hd.HW.x (W0 := w.drew) ((HB.out.cell (World.block_lt_of_cell? w _ hw301_1)).trans hw301_1)
           have s6_ := Hd.HW.x (W0 := w.drew) ((HB.out.cell (World.block_lt_of_cell? w _ hw302_0)).trans hw302_0)
           have s7_ := Hd.HW.x (W0 := w.drew) ((HB.out.cell (World.block_lt_of_cell? w _ hw302_1)).trans hw302_1)
           refine Hd.HW.region (by kernel_rfl) (by kernel_rfl) ?_
           try dsimp only [List.append]
           repeat (go_big_quiet_step ((first | (go_at_call 33; with_reducible exact Hd.HW.c (impl_IsLine.calls k _ _ l0 true _ (Kd.C_below HR0.out (Hd.HW.bel HB.out)) HC0.out A5.out)) | (go_at_call 33; with_reducible exact Hd.HW.c (impl_IsLine.calls k _ _ l1 true _ (Kd.C_below HR1.out (Hd.HW.bel HB.out)) HC1.out A7.out)))))
           refine wpQuiet_nil ?_
           intro _ hq_
           obtain ⟨q_, rfl⟩ := hq_
           clear s0_ s1_ s2_ s3_ s4_ s5_ s6_ s7_
           replace HB := Aside0.mk (below_step HB.out q_.b)
           replace hx299_0 := q_.cell hx299_0
           replace hx299_1 := q_.cell hx299_1
           replace hx300_0 := q_.cell hx300_0
           replace hx300_1 := q_.cell hx300_1
           replace hx301_0 := q_.cell hx301_0
           replace hx301_1 := q_.cell hx301_1
           replace hx302_0 := q_.cell hx302_0
           replace hx302_1 := q_.cell hx302_1
           generalize q_.W = w23 at HB hx299_0 hx299_1 hx300_0 hx300_1 hx301_0 hx301_1 hx302_0 hx302_1 ⊢
           try simp only [i64_w, i32_w]
           try go_wp2
           go_meet
           case rel => exact ⟨_, ((!(((rd_T27 l0 (ji15)).f0) == ((rd_T27 l1 (ji18)).f0)) || (!(((rd_T27 l0 (ji15)).f1) == ((rd_T27 l1 (ji18)).f1))))), (by first | rfl | (simp; done) | (simp only [← hji15, ← hji18] <;> (first | rfl | simp)) | (simp [*]; done)), H', ⟨by first | omega | exact Nat.le_refl _⟩, ⟨Hd.b_⟩⟩
          ·
           rw [if_neg c20] at H
           exact absurd H (by simp)
         ·
          rw [if_neg c19] at H
          exact absurd H (by simp)
        ·
         rw [if_neg c17] at H
         exact absurd H (by simp)
       ·
        rw [if_neg c16] at H
        exact absurd H (by simp)
     ·
      rw [if_neg c10] at H
      exact absurd H (by simp)
    ·
     rw [if_neg c9] at H
     exact absurd H (by simp)
   ·
    replace c8 := Bool.eq_false_iff.mpr c8
    subst c8
    have H1 : (impl_IsFaithful.j0 k l0 l1 a2 true) = some r := by rw [if_neg (show ¬ (false = true) by decide)] at H; exact H
    clear H
    have H := H1
    clear H1
    have H' := Aside0.mk H
    clear H
    try go_wp2
    replace HB := Aside0.mk (below_drew1 HB.out)
    refine Hd.HW.region (by kernel_rfl) (by kernel_rfl) ?_
    try dsimp only [List.append]
    repeat (go_big_quiet_step ((first | (go_at_call 33; with_reducible exact Hd.HW.c (impl_IsLine.calls k _ _ l0 true _ (Kd.C_below HR0.out (Hd.HW.bel HB.out)) HC0.out A5.out)) | (go_at_call 33; with_reducible exact Hd.HW.c (impl_IsLine.calls k _ _ l1 false _ (Kd.C_below HR1.out (Hd.HW.bel HB.out)) HC1.out A7.out)))))
    refine wpQuiet_nil ?_
    intro _ hq_
    obtain ⟨q_, rfl⟩ := hq_
    replace HB := Aside0.mk (below_step HB.out q_.b)
    generalize q_.W = w26 at HB ⊢
    try simp only [i64_w, i32_w]
    try go_wp2
    go_meet
    case rel => exact ⟨_, (true), (by first | rfl | (simp; done) | (simp [*]; done)), H', ⟨by first | omega | exact Nat.le_refl _⟩, ⟨Hd.b_⟩⟩
  ·
   replace c6 := Bool.eq_false_iff.mpr c6
   subst c6
   have H1 : (impl_IsFaithful.j0 k l0 l1 a2 true) = some r := by rw [if_neg (show ¬ (false = true) by decide)] at H; exact H
   clear H
   have H := H1
   clear H1
   have H' := Aside0.mk H
   clear H
   try go_wp2
   replace HB := Aside0.mk (below_drew1 HB.out)
   refine Hd.HW.region (by kernel_rfl) (by kernel_rfl) ?_
   try dsimp only [List.append]
   repeat (go_big_quiet_step ((first | (go_at_call 33; with_reducible exact Hd.HW.c (impl_IsLine.calls k _ _ l0 false _ (Kd.C_below HR0.out (Hd.HW.bel HB.out)) HC0.out A5.out)))))
   refine wpQuiet_nil ?_
   intro _ hq_
   obtain ⟨q_, rfl⟩ := hq_
   replace HB := Aside0.mk (below_step HB.out q_.b)
   generalize q_.W = w28 at HB ⊢
   try simp only [i64_w, i32_w]
   try go_wp2
   go_meet
   case rel => exact ⟨_, (true), (by first | rfl | (simp; done) | (simp [*]; done)), H', ⟨by first | omega | exact Nat.le_refl _⟩, ⟨Hd.b_⟩⟩
 case rest =>
  clear HC4
  try clear c1
  try clear c2
  try clear p2
  try clear c3
  try clear c6
  try clear c8
  try clear c9
  try clear c10
  try clear c16
  try clear c17
  try clear c19
  try clear c20
  obtain ⟨kq, x44_3, rfl, HA, HJ3, HB⟩ := hcut
  cases kq with
  | zero => exact absurd HA.out (by simp [impl_IsFaithful.j0])
  | succ kj3 =>
   have H := HA.out
   clear HA
   simp only [impl_IsFaithful.j0] at H
   by_cases c29 : x44_3 = true
   ·
    subst c29
    have H1 : (some false) = some r := by rw [if_pos rfl] at H; exact H
    clear H
    have H := H1
    clear H1
    obtain rfl := Option.some.inj H
    go_wp2
    go_ret
    exact ⟨Hd.e_, Hd.b_⟩
   ·
    replace c29 := Bool.eq_false_iff.mpr c29
    subst c29
    have H1 : ((impl_SegmentsOf.f kj3 l1).bind fun t303 => (impl_IsFaithful.l0 kj3 a2 t303 l0 (l0.length : Int) 0)) = some r := by rw [if_neg (show ¬ (false = true) by decide)] at H; exact H
    clear H
    have H := H1
    clear H1
    replace H := Option.bind_eq_some_iff.mp H
    obtain ⟨t303, A300, H⟩ := H
    replace H : (impl_IsFaithful.l0 kj3 a2 t303 l0 (l0.length : Int) 0) = some r := H
    have A30 := Aside0.mk A300
    clear A300
    have H' := Aside0.mk H
    clear H
    go_wp2_with (first | ((with_reducible refine gate_callee (f := 80) rfl ?_); refine goesL_ (some 46) rfl rfl Try.func80 (by kernel_rfl) rfl #[.slice A1 l1.length c1] rfl Hd.m_ ?_; (with_reducible refine (impl_SegmentsOf.calls kj3 _ _ l1 t303 _ ?side1 ?side2 A30.out).mono ?_); (case side1 => repeat (first | exact (Kd.C_below HR1.out HB.out) | (with_reducible refine Kd.C_alloc ?_ _) | (with_reducible refine Kd.C_drewN ?_ _) | (with_reducible refine Kd.C_drew ?_))); (case side2 => exact HC1.out); rintro e w31 ⟨v304, rfl, ho0, hb⟩; refine ⟨_, rfl, ?_⟩; have HO305 := Aside0.mk (Kd.R_lower ho0 (below_size Hd.b_)); replace HB := Aside0.mk (below_step Hd.b_ hb); (try clear hb); (try clear hb2); (try clear hk); (try clear hi); (try clear ho0)))
    go_loopg [49] kj3 (fun kq v49 w' => ∃ (x49_2 : Int), v49 = .int .i64 x49_2 ∧ Aside0 (impl_IsFaithful.l0 kq a2 t303 l0 (l0.length : Int) x49_2 = some r) ∧ Aside0 (kq ≤ kj3) ∧ Aside0 (Kd.R k53 53 w' w.heap.size (fun _ => True) v304 t303) ∧ Aside0 (Below w.heap.size w w'))
    case atStart => exact ⟨(0), (by first | rfl | (simp; done) | (simp [*]; done)), H', ⟨Nat.le_refl _⟩, ⟨by (with_reducible repeat (first | apply Kd.R_alloc | apply Kd.R_drewN | apply Kd.R_drew)); exact HO305.out⟩, ⟨Hd.b_⟩⟩
    case round =>
     clear H'
     try clear c1
     try clear c2
     try clear p2
     try clear c3
     try clear c6
     try clear c8
     try clear c9
     try clear c10
     try clear c16
     try clear c17
     try clear c19
     try clear c20
     try clear c29
     try clear p2
     obtain ⟨x49_2, rfl, HA, HK2, HO_7, HB⟩ := hrel
     cases gk with
     | zero => exact absurd HA.out (by simp [impl_IsFaithful.l0])
     | succ k2 =>
      have H := HA.out
      clear HA
      simp only [impl_IsFaithful.l0] at H
      by_cases c32 : x49_2 < (l0.length : Int)
      ·
       rw [if_pos c32] at H
       have c32b0 : decide (x49_2 < (l0.length : Int)) = true := decide_eq_true c32
       clear c32
       by_cases c33 : 0 ≤ x49_2
       ·
        rw [if_pos c33] at H
        have c33b0 : decide (0 ≤ x49_2) = true := decide_eq_true c33
        clear c33
        by_cases c34 : x49_2 < (l0.length : Int)
        ·
         rw [if_pos c34] at H
         have c34b0 : decide (x49_2 < (l0.length : Int)) = true := decide_eq_true c34
         clear c34
         have H' := Aside0.mk H
         clear H
         have p306 : 0 ≤ (x49_2 : Int) := of_decide_eq_true Hd.a_
         have q306 : x49_2 < (l0.length : Int) := of_decide_eq_true Hd.a_
         obtain ⟨ad306, e306, hx306_0, hx306_1⟩ := at_T27 HR0.out x49_2 p306 q306
         cases e306
         replace hx306_0 := (HB.out.cell (World.block_lt_of_cell? w _ hx306_0)).trans hx306_0
         replace hx306_1 := (HB.out.cell (World.block_lt_of_cell? w _ hx306_1)).trans hx306_1
         replace p306 := eq_true p306
         replace q306 := eq_true q306
         go_wp2_with (first | ((with_reducible refine gate_dst (N := 9) rfl ?_); (try (refine gate_guard (by rfl) ?_; dsimp only)); refine Hd.box_ 9 (#[.int .i64 0, .int .i64 0]) 27 ?_; intro gb307 hg w35 hbox hb; replace HO_7 := Aside0.mk (Kd.R_below (Hd.r_ HO_7) hb); have BK307 := Aside0.mk (hbox); have GW307 := Aside0.mk ((Hd.g_ hg Hd.b_ : w.heap.size ≤ gb307)); have GE307 := Aside0.mk ((Hd.g_ hg Hd.b_ : w.heap.size ≤ gb307)); replace HB := Aside0.mk (below_step Hd.b_ hb); clear hb hbox hg; obtain ⟨hcz36_0, hcz36_1⟩ := Hd.c2_ BK307.out; obtain ⟨hfz36_0, hfz36_1⟩ := Hd.f2_ BK307.out; obtain ⟨Ao37, co37, eo37⟩ := Kd.R_slice HO_7.out; subst eo37))
         go_loopg [10, 55] k2 (fun kq v10 v55 w' => ∃ (x10_3 : Bool) (x55_3 : Int), v10 = .bool x10_3 ∧ v55 = .int .i64 x55_3 ∧ Aside0 (impl_IsFaithful.l1 kq a2 t303 x10_3 l0 (l0.length : Int) x49_2 t303 (t303.length : Int) x55_3 ((rd_T27 l0 x49_2).f0) ((rd_T27 l0 x49_2).f1) = some r) ∧ Aside0 (kq ≤ k2) ∧ Aside0 (Kd.R k53 53 w' w.heap.size (fun _ => True) (.slice Ao37 t303.length co37) t303) ∧ Aside0 (Kd.R k53 53 w' w.heap.size (fun _ => True) (.slice Ao37 t303.length co37) t303) ∧ Aside0 (w'.heap[gb307]? = some (.cells #[.int .i64 ((rd_T27 l0 x49_2).f0), .int .i64 ((rd_T27 l0 x49_2).f1)] 27 (0, 0))) ∧ Aside0 (Below w.heap.size w w'))
         case atStart => exact ⟨(false), (0), (by first | rfl | (simp; done) | (simp [*]; done)), (by first | rfl | (simp; done) | (simp [*]; done)), H', ⟨Nat.le_refl _⟩, ⟨by (with_reducible repeat (first | apply Kd.R_alloc | apply Kd.R_drewN | apply Kd.R_drew)); exact Kd.R_mono (Kd.R_far (p := ⟨gb307, 1, none⟩) (Kd.R_far (p := ⟨gb307, 0, none⟩) (Kd.R_types HO_7.out BK307.out (by decide)) (fun _ hk => hk.2) (.int .i64 ((rd_T27 l0 x49_2).f0))) (fun _ hk => hk.2) (.int .i64 ((rd_T27 l0 x49_2).f1))) (fun _ hk => trivial)⟩, ⟨by (with_reducible repeat (first | apply Kd.R_alloc | apply Kd.R_drewN | apply Kd.R_drew)); exact Kd.R_mono (Kd.R_far (p := ⟨gb307, 1, none⟩) (Kd.R_far (p := ⟨gb307, 0, none⟩) (Kd.R_types HO_7.out BK307.out (by decide)) (fun _ hk => hk.2) (.int .i64 ((rd_T27 l0 x49_2).f0))) (fun _ hk => hk.2) (.int .i64 ((rd_T27 l0 x49_2).f1))) (fun _ hk => trivial)⟩, ⟨by (with_reducible repeat (first | refine blk_drewN ?_ _ | refine blk_drew ?_ | refine blk_alloc ?_ _)); refine blk_put (cs := #[.int .i64 ((rd_T27 l0 x49_2).f0), .int .i64 0]) ?_ 1 _ rfl; (with_reducible repeat (first | refine blk_drewN ?_ _ | refine blk_drew ?_ | refine blk_alloc ?_ _)); refine blk_put (cs := #[.int .i64 0, .int .i64 0]) ?_ 0 _ rfl; (with_reducible repeat (first | refine blk_drewN ?_ _ | refine blk_drew ?_ | refine blk_alloc ?_ _)); exact BK307.out⟩, ⟨Hd.b_⟩⟩
         case round =>
          clear H'
          try clear c1
          try clear c2
          try clear p2
          try clear c3
          try clear p3
          try clear q3
          try clear hx3
          try clear c6
          try clear c8
          try clear c9
          try clear c10
          try clear c16
          try clear c17
          try clear c19
          try clear c20
          try clear c29
          try clear p30
          try clear q30
          try clear hx30
          try clear c32
          try clear c32b0
          try clear c33
          try clear c33b0
          try clear c34
          try clear c34b0
          try clear hcz36_0
          try clear hcz36_1
          try clear hfz36_0
          try clear hfz36_1
          try clear hx306_0
          try clear hx306_1
          try clear p2
          try clear p306
          try clear q306
          obtain ⟨x10_3, x55_3, rfl, rfl, HA, HK3, HO_7, HO_53, BK307, HB⟩ := hrel
          cases gk with
          | zero => exact absurd HA.out (by simp [impl_IsFaithful.l1])
          | succ k3 =>
           have H := HA.out
           clear HA
           simp only [impl_IsFaithful.l1] at H
           by_cases c38 : x55_3 < (t303.length : Int)
           ·
            rw [if_pos c38] at H
            have c38b0 : decide (x55_3 < (t303.length : Int)) = true := decide_eq_true c38
            clear c38
            by_cases c39 : 0 ≤ x55_3
            ·
             rw [if_pos c39] at H
             have c39b0 : decide (0 ≤ x55_3) = true := decide_eq_true c39
             clear c39
             by_cases c40 : x55_3 < (t303.length : Int)
             ·
              rw [if_pos c40] at H
              have c40b0 : decide (x55_3 < (t303.length : Int)) = true := decide_eq_true c40
              clear c40
              by_cases c41 : x10_3 = true
              ·
               subst c41
               have H1 : (impl_IsFaithful.l1 k3 a2 t303 true l0 (l0.length : Int) x49_2 t303 (t303.length : Int) (wrap64 (x55_3 + 1)) ((rd_T27 l0 x49_2).f0) ((rd_T27 l0 x49_2).f1)) = some r := by rw [if_pos rfl] at H; exact H
               clear H
               have H := H1
               clear H1
               have H' := Aside0.mk H
               clear H
               have p308 : 0 ≤ (x55_3 : Int) := of_decide_eq_true Hd.a_
               have q308 : x55_3 < (t303.length : Int) := of_decide_eq_true Hd.a_
               obtain ⟨ad308, e308, hx308_0, hx308_1, hx308_2, hx308_3⟩ := at_T53 (Kd.R_reads' HO_53.out).2.2 x55_3 p308 q308
               cases e308
               replace p308 := eq_true p308
               replace q308 := eq_true q308
               go_wp2_with (first | ((with_reducible refine gate_dst (N := 12) rfl ?_); (try (refine gate_guard (by rfl) ?_; dsimp only)); refine Hd.box_ 12 (#[.int .i64 0, .int .i64 0, .int .i64 0, .int .i64 0]) 53 ?_; intro gb309 hg w42 hbox hb; replace HO_7 := Aside0.mk (Kd.R_below (Kd.R_elderB (Hd.r_ HO_7) gb309 (Nat.le_of_eq hg.symm)) hb); replace HO_53 := Aside0.mk (Kd.R_below (Kd.R_elderB (Hd.r_ HO_53) gb309 (Nat.le_of_eq hg.symm)) hb); have BK309 := Aside0.mk (hbox); have GW309 := Aside0.mk ((Hd.g_ hg Hd.b_ : w.heap.size ≤ gb309)); have GE309 := Aside0.mk ((Hd.g_ hg Hd.b_ : w.heap.size ≤ gb309)); replace HB := Aside0.mk (below_step Hd.b_ hb); have NB307_309 := Aside0.mk ((Hd.lt_ BK307 hg)); have NB309_307 := Aside0.mk ((Hd.gt_ BK307 hg)); replace BK307 := Aside0.mk (Hd.kb_ BK307 hb); clear hb hbox hg; have hnb43 := NB309_307.out; have hnc43 := NB307_309.out; obtain ⟨hcz44_0, hcz44_1, hcz44_2, hcz44_3⟩ := Hd.c4_ BK309.out; obtain ⟨hfz44_0, hfz44_1, hfz44_2, hfz44_3⟩ := Hd.f4_ BK309.out))
               go_roundg k3
               case measure => have := HJ3.out; have := HK2.out; have := HK3.out; omega
               case rel => exact ⟨(true), (wrap64 (x55_3 + 1)), (by first | rfl | (simp; done) | (simp [*]; done)), (by first | rfl | (simp; done) | (simp [*]; done)), H', ⟨by have := HJ3.out; have := HK2.out; have := HK3.out; omega⟩, ⟨by (with_reducible repeat (first | apply Kd.R_alloc | apply Kd.R_drewN | apply Kd.R_drew)); exact Kd.R_mono (Kd.R_far (p := ⟨gb309, 3, none⟩) (Kd.R_far (p := ⟨gb309, 2, none⟩) (Kd.R_far (p := ⟨gb309, 1, none⟩) (Kd.R_far (p := ⟨gb309, 0, none⟩) (Kd.R_mono HO_7.out (fun k_ hk => (⟨hk, hk.2⟩ : _ ∧ k_ ≠ gb309))) (fun _ hk => hk.2) (.int .i64 ((rd_T53 t303 x55_3).f0.f0))) (fun _ hk => hk.2) (.int .i64 ((rd_T53 t303 x55_3).f0.f1))) (fun _ hk => hk.2) (.int .i64 ((rd_T53 t303 x55_3).f1.f0))) (fun _ hk => hk.2) (.int .i64 ((rd_T53 t303 x55_3).f1.f1))) (fun _ hk => trivial)⟩, ⟨by (with_reducible repeat (first | apply Kd.R_alloc | apply Kd.R_drewN | apply Kd.R_drew)); exact Kd.R_mono (Kd.R_far (p := ⟨gb309, 3, none⟩) (Kd.R_far (p := ⟨gb309, 2, none⟩) (Kd.R_far (p := ⟨gb309, 1, none⟩) (Kd.R_far (p := ⟨gb309, 0, none⟩) (Kd.R_mono HO_53.out (fun k_ hk => (⟨hk, hk.2⟩ : _ ∧ k_ ≠ gb309))) (fun _ hk => hk.2) (.int .i64 ((rd_T53 t303 x55_3).f0.f0))) (fun _ hk => hk.2) (.int .i64 ((rd_T53 t303 x55_3).f0.f1))) (fun _ hk => hk.2) (.int .i64 ((rd_T53 t303 x55_3).f1.f0))) (fun _ hk => hk.2) (.int .i64 ((rd_T53 t303 x55_3).f1.f1))) (fun _ hk => trivial)⟩, ⟨by (with_reducible repeat (first | refine blk_drewN ?_ _ | refine blk_drew ?_ | refine blk_alloc ?_ _)); refine blk_far ?_ NB307_309.out _; (with_reducible repeat (first | refine blk_drewN ?_ _ | refine blk_drew ?_ | refine blk_alloc ?_ _)); refine blk_far ?_ NB307_309.out _; (with_reducible repeat (first | refine blk_drewN ?_ _ | refine blk_drew ?_ | refine blk_alloc ?_ _)); refine blk_far ?_ NB307_309.out _; (with_reducible repeat (first | refine blk_drewN ?_ _ | refine blk_drew ?_ | refine blk_alloc ?_ _)); refine blk_far ?_ NB307_309.out _; (with_reducible repeat (first | refine blk_drewN ?_ _ | refine blk_drew ?_ | refine blk_alloc ?_ _)); exact BK307.out⟩, ⟨Hd.b_⟩⟩
              ·
               replace c41 := Bool.eq_false_iff.mpr c41
               subst c41
               have H1 : ((impl_IsNear.f ((rd_T53 t303 x55_3).f0.f0) ((rd_T53 t303 x55_3).f0.f1) ((rd_T53 t303 x55_3).f1.f0) ((rd_T53 t303 x55_3).f1.f1) ((rd_T27 l0 x49_2).f0) ((rd_T27 l0 x49_2).f1) a2).bind fun t310 => (impl_IsFaithful.l1 k3 a2 t303 t310 l0 (l0.length : Int) x49_2 t303 (t303.length : Int) (wrap64 (x55_3 + 1)) ((rd_T27 l0 x49_2).f0) ((rd_T27 l0 x49_2).f1))) = some r := by rw [if_neg (show ¬ (false = true) by decide)] at H; exact H
               clear H
               have H := H1
               clear H1
               replace H := Option.bind_eq_some_iff.mp H
               obtain ⟨t310, A450, H⟩ := H
               replace H : (impl_IsFaithful.l1 k3 a2 t303 t310 l0 (l0.length : Int) x49_2 t303 (t303.length : Int) (wrap64 (x55_3 + 1)) ((rd_T27 l0 x49_2).f0) ((rd_T27 l0 x49_2).f1)) = some r := H
               have A45 := Aside0.mk A450
               clear A450
               have H' := Aside0.mk H
               clear H
               have p308 : 0 ≤ (x55_3 : Int) := of_decide_eq_true Hd.a_
               have q308 : x55_3 < (t303.length : Int) := of_decide_eq_true Hd.a_
               obtain ⟨ad308, e308, hx308_0, hx308_1, hx308_2, hx308_3⟩ := at_T53 (Kd.R_reads' HO_53.out).2.2 x55_3 p308 q308
               cases e308
               replace p308 := eq_true p308
               replace q308 := eq_true q308
               go_wp2_with (first | ((with_reducible refine gate_dst (N := 12) rfl ?_); (try (refine gate_guard (by rfl) ?_; dsimp only)); refine Hd.box_ 12 (#[.int .i64 0, .int .i64 0, .int .i64 0, .int .i64 0]) 53 ?_; intro gb309 hg w46 hbox hb; replace HO_7 := Aside0.mk (Kd.R_below (Kd.R_elderB (Hd.r_ HO_7) gb309 (Nat.le_of_eq hg.symm)) hb); replace HO_53 := Aside0.mk (Kd.R_below (Kd.R_elderB (Hd.r_ HO_53) gb309 (Nat.le_of_eq hg.symm)) hb); have BK309 := Aside0.mk (hbox); have GW309 := Aside0.mk ((Hd.g_ hg Hd.b_ : w.heap.size ≤ gb309)); have GE309 := Aside0.mk ((Hd.g_ hg Hd.b_ : w.heap.size ≤ gb309)); replace HB := Aside0.mk (below_step Hd.b_ hb); have NB307_309 := Aside0.mk ((Hd.lt_ BK307 hg)); have NB309_307 := Aside0.mk ((Hd.gt_ BK307 hg)); replace BK307 := Aside0.mk (Hd.kb_ BK307 hb); clear hb hbox hg; have hnb47 := NB309_307.out; have hnc47 := NB307_309.out; obtain ⟨hcz48_0, hcz48_1, hcz48_2, hcz48_3⟩ := Hd.c4_ BK309.out; obtain ⟨hfz48_0, hfz48_1, hfz48_2, hfz48_3⟩ := Hd.f4_ BK309.out; obtain ⟨hcz49_0, hcz49_1⟩ := Hd.c2_ BK307.out; obtain ⟨hfz49_0, hfz49_1⟩ := Hd.f2_ BK307.out) | (go_at_call 36; (with_reducible refine (impl_IsNear.calls ((rd_T53 t303 x55_3).f0.f0) ((rd_T53 t303 x55_3).f0.f1) ((rd_T53 t303 x55_3).f1.f0) ((rd_T53 t303 x55_3).f1.f1) ((rd_T27 l0 x49_2).f0) ((rd_T27 l0 x49_2).f1) a2 t310 _ A45.out).mono ?_); rintro e w50 ⟨rfl, hb⟩; replace HO_7 := Aside0.mk (Kd.R_below (by (with_reducible repeat (first | apply Kd.R_alloc | apply Kd.R_drewN | apply Kd.R_drew)); exact (Kd.R_mono (Kd.R_far (p := ⟨gb309, 3, none⟩) (Kd.R_far (p := ⟨gb309, 2, none⟩) (Kd.R_far (p := ⟨gb309, 1, none⟩) (Kd.R_far (p := ⟨gb309, 0, none⟩) (Kd.R_mono HO_7.out (fun k_ hk => (⟨hk, hk.2⟩ : _ ∧ k_ ≠ gb309))) (fun _ hk => hk.2) (.int .i64 ((rd_T53 t303 x55_3).f0.f0))) (fun _ hk => hk.2) (.int .i64 ((rd_T53 t303 x55_3).f0.f1))) (fun _ hk => hk.2) (.int .i64 ((rd_T53 t303 x55_3).f1.f0))) (fun _ hk => hk.2) (.int .i64 ((rd_T53 t303 x55_3).f1.f1))) (fun _ h_ => h_.1))) hb); replace HO_53 := Aside0.mk (Kd.R_below (by (with_reducible repeat (first | apply Kd.R_alloc | apply Kd.R_drewN | apply Kd.R_drew)); exact (Kd.R_mono (Kd.R_far (p := ⟨gb309, 3, none⟩) (Kd.R_far (p := ⟨gb309, 2, none⟩) (Kd.R_far (p := ⟨gb309, 1, none⟩) (Kd.R_far (p := ⟨gb309, 0, none⟩) (Kd.R_mono HO_53.out (fun k_ hk => (⟨hk, hk.2⟩ : _ ∧ k_ ≠ gb309))) (fun _ hk => hk.2) (.int .i64 ((rd_T53 t303 x55_3).f0.f0))) (fun _ hk => hk.2) (.int .i64 ((rd_T53 t303 x55_3).f0.f1))) (fun _ hk => hk.2) (.int .i64 ((rd_T53 t303 x55_3).f1.f0))) (fun _ hk => hk.2) (.int .i64 ((rd_T53 t303 x55_3).f1.f1))) (fun _ h_ => h_.1))) hb); replace BK307 := Aside0.mk (blk_below (g := gb307) (o := .cells #[.int .i64 ((rd_T27 l0 x49_2).f0), .int .i64 ((rd_T27 l0 x49_2).f1)] 27 (0, 0)) (by (with_reducible repeat (first | refine blk_drewN ?_ _ | refine blk_drew ?_ | refine blk_alloc ?_ _)); refine blk_far ?_ NB307_309.out _; (with_reducible repeat (first | refine blk_drewN ?_ _ | refine blk_drew ?_ | refine blk_alloc ?_ _)); refine blk_far ?_ NB307_309.out _; (with_reducible repeat (first | refine blk_drewN ?_ _ | refine blk_drew ?_ | refine blk_alloc ?_ _)); refine blk_far ?_ NB307_309.out _; (with_reducible repeat (first | refine blk_drewN ?_ _ | refine blk_drew ?_ | refine blk_alloc ?_ _)); refine blk_far ?_ NB307_309.out _; (with_reducible repeat (first | refine blk_drewN ?_ _ | refine blk_drew ?_ | refine blk_alloc ?_ _)); exact BK307.out) hb); replace BK309 := Aside0.mk (blk_below (g := gb309) (o := .cells #[.int .i64 ((rd_T53 t303 x55_3).f0.f0), .int .i64 ((rd_T53 t303 x55_3).f0.f1), .int .i64 ((rd_T53 t303 x55_3).f1.f0), .int .i64 ((rd_T53 t303 x55_3).f1.f1)] 53 (0, 0)) (by (with_reducible repeat (first | refine blk_drewN ?_ _ | refine blk_drew ?_ | refine blk_alloc ?_ _)); refine blk_put (cs := #[.int .i64 ((rd_T53 t303 x55_3).f0.f0), .int .i64 ((rd_T53 t303 x55_3).f0.f1), .int .i64 ((rd_T53 t303 x55_3).f1.f0), .int .i64 0]) ?_ 3 _ rfl; (with_reducible repeat (first | refine blk_drewN ?_ _ | refine blk_drew ?_ | refine blk_alloc ?_ _)); refine blk_put (cs := #[.int .i64 ((rd_T53 t303 x55_3).f0.f0), .int .i64 ((rd_T53 t303 x55_3).f0.f1), .int .i64 0, .int .i64 0]) ?_ 2 _ rfl; (with_reducible repeat (first | refine blk_drewN ?_ _ | refine blk_drew ?_ | refine blk_alloc ?_ _)); refine blk_put (cs := #[.int .i64 ((rd_T53 t303 x55_3).f0.f0), .int .i64 0, .int .i64 0, .int .i64 0]) ?_ 1 _ rfl; (with_reducible repeat (first | refine blk_drewN ?_ _ | refine blk_drew ?_ | refine blk_alloc ?_ _)); refine blk_put (cs := #[.int .i64 0, .int .i64 0, .int .i64 0, .int .i64 0]) ?_ 0 _ rfl; (with_reducible repeat (first | refine blk_drewN ?_ _ | refine blk_drew ?_ | refine blk_alloc ?_ _)); exact BK309.out) hb); replace HB := Aside0.mk (below_step Hd.b_ hb); (try clear hb); (try clear hb2); (try clear hk); (try clear hi)))
               go_roundg k3
               case measure => have := HJ3.out; have := HK2.out; have := HK3.out; omega
               case rel => exact ⟨(t310), (wrap64 (x55_3 + 1)), (by first | rfl | (simp; done) | (simp [*]; done)), (by first | rfl | (simp; done) | (simp [*]; done)), H', ⟨by have := HJ3.out; have := HK2.out; have := HK3.out; omega⟩, ⟨by (with_reducible repeat (first | apply Kd.R_alloc | apply Kd.R_drewN | apply Kd.R_drew)); exact Kd.R_mono HO_7.out (fun _ hk => trivial)⟩, ⟨by (with_reducible repeat (first | apply Kd.R_alloc | apply Kd.R_drewN | apply Kd.R_drew)); exact Kd.R_mono HO_53.out (fun _ hk => trivial)⟩, ⟨by (with_reducible repeat (first | refine blk_drewN ?_ _ | refine blk_drew ?_ | refine blk_alloc ?_ _)); exact BK307.out⟩, ⟨Hd.b_⟩⟩
             ·
              rw [if_neg c40] at H
              exact absurd H (by simp)
            ·
             rw [if_neg c39] at H
             exact absurd H (by simp)
           ·
            rw [if_neg c38] at H
            have c38b0 : decide (x55_3 < (t303.length : Int)) = false := decide_eq_false c38
            clear c38
            by_cases c51 : x10_3 = true
            ·
             subst c51
             have H1 : (impl_IsFaithful.l0 k3 a2 t303 l0 (l0.length : Int) (wrap64 (x49_2 + 1))) = some r := by rw [if_pos rfl] at H; exact H
             clear H
             have H := H1
             clear H1
             have H' := Aside0.mk H
             clear H
             go_wp2
             go_roundg k3
             case measure => have := HJ3.out; have := HK2.out; have := HK3.out; omega
             case rel => exact ⟨(wrap64 (x49_2 + 1)), (by first | rfl | (simp; done) | (simp [*]; done)), H', ⟨by have := HJ3.out; have := HK2.out; have := HK3.out; omega⟩, ⟨by (with_reducible repeat (first | apply Kd.R_alloc | apply Kd.R_drewN | apply Kd.R_drew)); exact HO_7.out⟩, ⟨Hd.b_⟩⟩
            ·
             replace c51 := Bool.eq_false_iff.mpr c51
             subst c51
             have H1 : (some false) = some r := by rw [if_neg (show ¬ (false = true) by decide)] at H; exact H
             clear H
             have H := H1
             clear H1
             obtain rfl := Option.some.inj H
             go_wp2
             go_ret
             exact ⟨Hd.e_, Hd.b_⟩
        ·
         rw [if_neg c34] at H
         exact absurd H (by simp)
       ·
        rw [if_neg c33] at H
        exact absurd H (by simp)
      ·
       rw [if_neg c32] at H
       have c32b0 : decide (x49_2 < (l0.length : Int)) = false := decide_eq_false c32
       clear c32
       obtain rfl := Option.some.inj H
       go_wp2
       go_ret
       exact ⟨Hd.e_, Hd.b_⟩
def spec_l1Once.f (s0_0 : List Int) (s0_1 : Int) (s0_2 : Int) (a1 : Int) : Option (Bool × Int × Int) := (spec_l1Below.f s0_0 s0_1 s0_2 a1).bind fun bt311 => (some ((bt311.1 == 0), bt311.2.1, bt311.2.2))
set_option maxHeartbeats 8000000 in
set_option maxRecDepth 100000 in
theorem spec_l1Once.calls (g : Nat) (s0_0 : List Int) (s0_1 : Int) (s0_2 : Int) (a1 : Int) (r1 : Bool) (r2 : Int) (r3 : Int) (w0 w : World) (hI : IsS109 w0 w g s0_0 s0_1 s0_2) (hB : Below w0.heap.size w0 w) (h : spec_l1Once.f s0_0 s0_1 s0_2 a1 = some (r1, r2, r3)) :
  Calls Try.prog 99 #[.pointer (some ⟨g, 0, none⟩), .int .i64 a1] w fun e w' => e = .returned (.bool r1) ∧ IsS109 w0 w' g s0_0 r2 r3 ∧ Below w0.heap.size w0 w' ∧ KeepBut w w' g none := by
 have HI0 := Aside0.mk hI
 have HK := Aside0.mk (KeepBut.refl w g none)
 have HL := Aside0.mk hB.size
 clear hI
 have HW0 := Aside0.mk hB.size
 have HB := Aside0.mk hB
 clear hB
 have H : ((spec_l1Below.f s0_0 s0_1 s0_2 a1).bind fun bt311 => (some ((bt311.1 == 0), bt311.2.1, bt311.2.2))) = some (r1, r2, r3) := h
 clear h
 replace H := Option.bind_eq_some_iff.mp H
 obtain ⟨⟨t311, t312, t313⟩, A30, H⟩ := H
 replace H : (some ((t311 == 0), t312, t313)) = some (r1, r2, r3) := H
 have A3 := Aside0.mk A30
 clear A30
 simp only [Option.some.injEq, Prod.mk.injEq] at H
 obtain ⟨rfl, rfl, rfl⟩ := H
 go_enter Try.func99, Try.ntmps99
 go_wp2_with (first | ((with_reducible refine gate_callee (f := 89) rfl ?_); refine goesL_ (some 7) rfl rfl Try.func89 (by kernel_rfl) rfl #[.pointer (some ⟨g, 0, none⟩), .int .i64 a1] rfl Hd.m_ ?_; (with_reducible refine (spec_l1Below.calls g s0_0 s0_1 s0_2 a1 t311 t312 t313 w0 _ ?side1 ?side2 A3.out).mono ?_); (case side1 => repeat (first | (with_reducible first | exact HI0.out | apply IsS109.alloc | apply IsS109.drewN | apply IsS109.drew | apply IsS109.set_1 | apply IsS109.set_2) | exact HI0.out)); (case side2 => repeat (first | (with_reducible first | exact HB.out | apply below_alloc | apply pw_below_drewN | apply below_drew1 | refine below_set ?_ (IsS109.ge HI0.out)) | exact HB.out)); rintro e w4 ⟨rfl, hi, hb, hk⟩; refine ⟨_, rfl, ?_⟩; replace HK := Aside0.mk (KeepBut.trans (by repeat (first | (with_reducible first | exact HK.out | apply KeepBut.set_ | apply keep_drewN | apply keep_drew | apply keep_alloc) | exact HK.out)) hk (.inl rfl)); replace HB := Aside0.mk (hb); replace HI0 := Aside0.mk (hi); (try clear hb); (try clear hb2); (try clear hk); (try clear hi)))
 go_ret
 exact ⟨Hd.e_, by repeat (first | (with_reducible first | exact HI0.out | apply IsS109.alloc | apply IsS109.drewN | apply IsS109.drew | apply IsS109.set_1 | apply IsS109.set_2) | exact HI0.out), by repeat (first | (with_reducible first | exact HB.out | apply below_alloc | apply pw_below_drewN | apply below_drew1 | refine below_set ?_ (IsS109.ge HI0.out)) | exact HB.out), by repeat (first | (with_reducible first | exact HK.out | apply KeepBut.set_ | apply keep_drewN | apply keep_drew | apply keep_alloc) | exact HK.out)⟩
end Go.Proofs.Ytbackoeakepngaa.MFnSimplified
