-- Laid by this session's program pp.py, after the kit's print and texts of the session's own. Not trusted: Lean checks it.
import Derived.Test.YtchmbcembbbplacMFnExactIsFeaturex0
import Derived.Test.YtchmbcembbbplacMFnExactIsFeaturex1
import Derived.Test.YtchmbcembbbplacMFnExactIsFeaturex2
namespace Go.Proofs.Ytchmbcembbbplac.MFnExactIsFeature
open Go.RowKit Go.Proofs.YtchmbcembbbplacW.PrintWords Go.Proofs.YtchmbcembbbplacW.PrintLast Go.Proofs.YtchmbcembbbplacW.PrintMore
attribute [local go_sem] max2_int min2_int max_two min_two max_three min_three max_four min_four   -- for this text's walks alone
set_option linter.unusedVariables false
set_option linter.unusedSimpArgs false

attribute [local go_sem high] eqA49
/-! ### spec_IsLine: function 154 -/
def spec_IsLine.l0 : Nat → List (S49) → Int → Option (Bool)
 | 0, _, _ => none
 | k + 1, x0, x3 => if x3 < (x0.length : Int) then (if 0 ≤ x3 then ((spec_IsPoint.f ((rd_T49 x0 x3).f0) ((rd_T49 x0 x3).f1)).bind fun t188 => (if t188 = true then (if x3 > 0 then (if 0 ≤ (wrap64 (x3 - 1)) then (if (wrap64 (x3 - 1)) < (x0.length : Int) then (if (((rd_T49 x0 (wrap64 (x3 - 1))).f0) == ((rd_T49 x0 x3).f0) && (((rd_T49 x0 (wrap64 (x3 - 1))).f1) == ((rd_T49 x0 x3).f1))) = true then (some false) else (spec_IsLine.l0 k x0 (wrap64 (x3 + 1)))) else (none)) else (none)) else (spec_IsLine.l0 k x0 (wrap64 (x3 + 1)))) else (some false))) else (none)) else ((spec_l1In.f (x0.length : Int) 2 10).bind fun t191 => (some t191))
def spec_IsLine.f (k : Nat) (l0 : List (S49)) : Option (Bool) := spec_IsLine.l0 k l0 0
theorem spec_IsLine.mono_l : ∀ k, (∀ y0 y1, LeO (spec_IsLine.l0 k y0 y1) (spec_IsLine.l0 (k + 1) y0 y1))
 | 0 => fun _ _ r h => by simp [spec_IsLine.l0] at h
 | k + 1 => by
  have ih0 := spec_IsLine.mono_l k
  ·
   intro y0 y1
   unfold spec_IsLine.l0
   repeat' first
   | (with_reducible exact ih0 _ _)
   | (with_reducible exact LeO.refl _)
   | (with_reducible exact LeO.none _)
   | (with_reducible refine LeO.ite ?_ ?_)
   | (with_reducible refine LeO.bind ?_ (fun _ => ?_))
   | exact ih0 _ _
   | exact LeO.none _
   | refine LeO.ite ?_ ?_
   | refine LeO.bind ?_ (fun _ => ?_)
theorem spec_IsLine.mono : ∀ a0 k, LeO (spec_IsLine.f k a0) (spec_IsLine.f (k + 1) a0) := by
 intro a0 k
 have ih0 := spec_IsLine.mono_l k
 unfold spec_IsLine.f
 repeat' first
   | (with_reducible exact ih0 _ _)
   | (with_reducible exact LeO.refl _)
   | (with_reducible exact LeO.none _)
   | (with_reducible refine LeO.ite ?_ ?_)
   | (with_reducible refine LeO.bind ?_ (fun _ => ?_))
   | exact ih0 _ _
   | exact LeO.none _
   | refine LeO.ite ?_ ?_
   | refine LeO.bind ?_ (fun _ => ?_)
def spec_IsLine.T4 : Bool × List (List Nat × List Nat) := (true, [([], []), ([], []), ([0, 1], [0, 1]), ([2], [2]), ([3], [3]), ([4], [4]), ([5, 4], [5]), ([6], [6]), ([7, 6], [6, 7]), ([8, 6, 6], [6, 8]), ([9], [9]), ([9], [9]), ([11, 9], [9, 11]), ([10, 12, 9], [9, 10, 12]), ([13, 9], [9, 13]), ([9], [9]), ([9], [9]), ([15, 16, 9], [9, 15, 16]), ([17, 9], [9, 17]), ([14, 18, 9], [9, 14, 18]), ([9, 19, 6], [6, 9, 19]), ([6, 20], [6, 20])])
def spec_IsLine.B4 : List Nat := [0, 0, 3, 7, 15, 31, 63, 127, 255, 511, 1023, 1023, 3071, 8191, 16383, 1023, 1023, 99327, 230399, 524287, 1048575, 2097151]
theorem spec_IsLine.tab4 : rtab .any (opsOf Try.f154 4) = spec_IsLine.T4 := by kernel_rfl
theorem spec_IsLine.bits4 : waitsOk spec_IsLine.T4.2 spec_IsLine.B4 = true := by kernel_rfl
set_option maxHeartbeats 8000000 in
set_option maxRecDepth 100000 in
theorem spec_IsLine.calls (k : Nat) (A0 : Option Addr) (c0 : Nat) (l0 : List (S49)) (r : Bool) (w : World) (hr0 : Kd.C k49 w A0 l0.length l0) (hc0 : l0.length ≤ c0) (h : spec_IsLine.f k l0 = some r) :
  Calls Try.prog 154 #[.slice A0 l0.length c0] w fun e w' => e = .returned (.bool r) ∧ Below w.heap.size w w' := by
 have hu49 := Try.underlying49
 have HR0 := Aside0.mk hr0
 have HC0 := Aside0.mk hc0
 clear hr0 hc0
 have HB := Aside0.mk (Below.refl w.heap.size w)
 have H : (spec_IsLine.l0 k l0 0) = some r := h
 clear h
 have H' := Aside0.mk H
 clear H
 go_enter Try.func154, Try.ntmps154
 go_wp2
 go_loopg [3] k (fun kq v3 w' => ∃ (x3_1 : Int), v3 = .int .i64 x3_1 ∧ Aside0 (spec_IsLine.l0 kq l0 x3_1 = some r) ∧ Aside0 (kq ≤ k) ∧ Aside0 (Below w.heap.size w w'))
 case atStart => exact ⟨(0), (by first | rfl | (simp; done) | (simp [*]; done)), H', ⟨Nat.le_refl _⟩, ⟨Hd.b_⟩⟩
 case round =>
  clear H'
  try clear c1
  obtain ⟨x3_1, rfl, HA, HK1, HB⟩ := hrel
  cases gk with
  | zero => exact absurd HA.out (by simp [spec_IsLine.l0])
  | succ k1 =>
   have H := HA.out
   clear HA
   simp only [spec_IsLine.l0] at H
   by_cases c2 : x3_1 < (l0.length : Int)
   ·
    rw [if_pos c2] at H
    have c2b0 : decide (x3_1 < (l0.length : Int)) = true := decide_eq_true c2
    clear c2
    by_cases c3 : 0 ≤ x3_1
    ·
     rw [if_pos c3] at H
     have c3b0 : decide (0 ≤ x3_1) = true := decide_eq_true c3
     clear c3
     replace H := Option.bind_eq_some_iff.mp H
     obtain ⟨t188, A40, H⟩ := H
     replace H : (if t188 = true then (if x3_1 > 0 then (if 0 ≤ (wrap64 (x3_1 - 1)) then (if (wrap64 (x3_1 - 1)) < (l0.length : Int) then (if (((rd_T49 l0 (wrap64 (x3_1 - 1))).f0) == ((rd_T49 l0 x3_1).f0) && (((rd_T49 l0 (wrap64 (x3_1 - 1))).f1) == ((rd_T49 l0 x3_1).f1))) = true then (some false) else (spec_IsLine.l0 k1 l0 (wrap64 (x3_1 + 1)))) else (none)) else (none)) else (spec_IsLine.l0 k1 l0 (wrap64 (x3_1 + 1)))) else (some false)) = some r := H
     have A4 := Aside0.mk A40
     clear A40
     by_cases c5 : t188 = true
     ·
      subst c5
      have H1 : (if x3_1 > 0 then (if 0 ≤ (wrap64 (x3_1 - 1)) then (if (wrap64 (x3_1 - 1)) < (l0.length : Int) then (if (((rd_T49 l0 (wrap64 (x3_1 - 1))).f0) == ((rd_T49 l0 x3_1).f0) && (((rd_T49 l0 (wrap64 (x3_1 - 1))).f1) == ((rd_T49 l0 x3_1).f1))) = true then (some false) else (spec_IsLine.l0 k1 l0 (wrap64 (x3_1 + 1)))) else (none)) else (none)) else (spec_IsLine.l0 k1 l0 (wrap64 (x3_1 + 1)))) = some r := by rw [if_pos rfl] at H; exact H
      clear H
      have H := H1
      clear H1
      by_cases c6 : x3_1 > 0
      ·
       rw [if_pos c6] at H
       have c6b0 : decide (0 < x3_1) = true := decide_eq_true c6
       clear c6
       obtain ⟨ji7, hji7⟩ : ∃ j_ : Int, (wrap64 (x3_1 - 1)) = j_ := ⟨_, rfl⟩
       replace H : (if 0 ≤ (ji7) then (if (ji7) < (l0.length : Int) then (if (((rd_T49 l0 (ji7)).f0) == ((rd_T49 l0 x3_1).f0) && (((rd_T49 l0 (ji7)).f1) == ((rd_T49 l0 x3_1).f1))) = true then (some false) else (spec_IsLine.l0 k1 l0 (wrap64 (x3_1 + 1)))) else (none)) else (none)) = some r := by first | (rw [hji7] at H; exact H) | (simp only [hji7] at H ⊢; exact H)
       (try rw [hji7] at A4)
       have hji7w : (IntKind.i64.wrap (x3_1 - 1)) = ji7 := (i64_w _).trans hji7
       by_cases c8 : 0 ≤ (ji7)
       ·
        rw [if_pos c8] at H
        have c8b0 : decide (0 ≤ (ji7)) = true := decide_eq_true c8
        clear c8
        by_cases c9 : (ji7) < (l0.length : Int)
        ·
         rw [if_pos c9] at H
         have c9b0 : decide ((ji7) < (l0.length : Int)) = true := decide_eq_true c9
         clear c9
         by_cases c10 : (((rd_T49 l0 (ji7)).f0) == ((rd_T49 l0 x3_1).f0) && (((rd_T49 l0 (ji7)).f1) == ((rd_T49 l0 x3_1).f1))) = true
         ·
          rw [if_pos c10] at H
          have c10b0 : (((rd_T49 l0 (ji7)).f0) == ((rd_T49 l0 x3_1).f0) && (((rd_T49 l0 (ji7)).f1) == ((rd_T49 l0 x3_1).f1))) = true := c10
          (try (have c10b1 : decide (((rd_T49 l0 (ji7)).f0) = ((rd_T49 l0 x3_1).f0) && (((rd_T49 l0 (ji7)).f1) == ((rd_T49 l0 x3_1).f1))) = true := by simpa using c10))
          (try (have c10b2 : (((rd_T49 l0 (ji7)).f0) == ((rd_T49 l0 x3_1).f0) && (((rd_T49 l0 (ji7)).f1) == ((rd_T49 l0 x3_1).f1))) = true := by simpa using c10))
          clear c10
          obtain rfl := Option.some.inj H
          try go_wp2
          replace HB := Aside0.mk (below_drew1 HB.out)
          have p187 : 0 ≤ (x3_1 : Int) := of_decide_eq_true Hd.a_
          have q187 : x3_1 < (l0.length : Int) := of_decide_eq_true Hd.a_
          obtain ⟨ad187, e187, hx187_0, hx187_1⟩ := at_T49 HR0.out x3_1 p187 q187
          have hw187_1 := hx187_1
          have hw187_0 := hx187_0
          cases e187
          replace hx187_0 := (HB.out.cell (World.block_lt_of_cell? w _ hx187_0)).trans hx187_0
          replace hx187_1 := (HB.out.cell (World.block_lt_of_cell? w _ hx187_1)).trans hx187_1
          replace p187 := eq_true p187
          replace q187 := eq_true q187
          have p189 : 0 ≤ ((ji7) : Int) := of_decide_eq_true Hd.a_
          have q189 : (ji7) < (l0.length : Int) := of_decide_eq_true Hd.a_
          obtain ⟨ad189, e189, hx189_0, hx189_1⟩ := at_T49 HR0.out (ji7) p189 q189
          have hw189_1 := hx189_1
          have hw189_0 := hx189_0
          obtain rfl : ad187 = ad189 := (by injection e189)
          replace hx189_0 := (HB.out.cell (World.block_lt_of_cell? w _ hx189_0)).trans hx189_0
          replace hx189_1 := (HB.out.cell (World.block_lt_of_cell? w _ hx189_1)).trans hx189_1
          replace p189 := eq_true p189
          replace q189 := eq_true q189
          have p190 : 0 ≤ (x3_1 : Int) := of_decide_eq_true Hd.a_
          have q190 : x3_1 < (l0.length : Int) := of_decide_eq_true Hd.a_
          obtain ⟨ad190, e190, hx190_0, hx190_1⟩ := at_T49 HR0.out x3_1 p190 q190
          have hw190_1 := hx190_1
          have hw190_0 := hx190_0
          obtain rfl : ad187 = ad190 := (by injection e190)
          replace hx190_0 := (HB.out.cell (World.block_lt_of_cell? w _ hx190_0)).trans hx190_0
          replace hx190_1 := (HB.out.cell (World.block_lt_of_cell? w _ hx190_1)).trans hx190_1
          replace p190 := eq_true p190
          replace q190 := eq_true q190
          have S_ : (fun w' : World => w'.cell? (ad187.add ((x3_1).toNat * 2)) = some (.int .i64 ((rd_T49 l0 x3_1).f0)) ∧ w'.cell? ⟨(ad187.add ((x3_1).toNat * 2)).block, (ad187.add ((x3_1).toNat * 2)).off + 1, none⟩ = some (.int .i64 ((rd_T49 l0 x3_1).f1)) ∧ w'.cell? (ad187.add (((ji7)).toNat * 2)) = some (.int .i64 ((rd_T49 l0 (ji7)).f0)) ∧ w'.cell? ⟨(ad187.add (((ji7)).toNat * 2)).block, (ad187.add (((ji7)).toNat * 2)).off + 1, none⟩ = some (.int .i64 ((rd_T49 l0 (ji7)).f1)) ∧ w'.cell? (ad187.add ((x3_1).toNat * 2)) = some (.int .i64 ((rd_T49 l0 x3_1).f0)) ∧ w'.cell? ⟨(ad187.add ((x3_1).toNat * 2)).block, (ad187.add ((x3_1).toNat * 2)).off + 1, none⟩ = some (.int .i64 ((rd_T49 l0 x3_1).f1))) wr.drew := ⟨((HB.out.cell (World.block_lt_of_cell? w _ hw187_0)).trans hw187_0), ((HB.out.cell (World.block_lt_of_cell? w _ hw187_1)).trans hw187_1), ((HB.out.cell (World.block_lt_of_cell? w _ hw189_0)).trans hw189_0), ((HB.out.cell (World.block_lt_of_cell? w _ hw189_1)).trans hw189_1), ((HB.out.cell (World.block_lt_of_cell? w _ hw190_0)).trans hw190_0), ((HB.out.cell (World.block_lt_of_cell? w _ hw190_1)).trans hw190_1)⟩
          obtain ⟨s0_, s1_, s2_, s3_, s4_, s5_⟩ := S_
          replace s0_ := fun q : Hd.HW wr.drew => q.cell s0_
          replace s1_ := fun q : Hd.HW wr.drew => q.cell s1_
          replace s2_ := fun q : Hd.HW wr.drew => q.cell s2_
          replace s3_ := fun q : Hd.HW wr.drew => q.cell s3_
          replace s4_ := fun q : Hd.HW wr.drew => q.cell s4_
          replace s5_ := fun q : Hd.HW wr.drew => q.cell s5_
          refine Hd.HW.region (by kernel_rfl) (by kernel_rfl) ?_
          repeat (go_big_quiet_step ((first | (go_at_call 125; with_reducible exact Hd.HW.c (spec_IsPoint.calls ((rd_T49 l0 x3_1).f0) ((rd_T49 l0 x3_1).f1) true _ A4.out)))))
          refine wpQuiet_nil ?_
          intro _ hq_
          obtain ⟨q_, rfl⟩ := hq_
          clear s0_ s1_ s2_ s3_ s4_ s5_
          replace HB := Aside0.mk (below_step HB.out q_.b)
          replace hx187_0 := q_.cell hx187_0
          replace hx187_1 := q_.cell hx187_1
          replace hx189_0 := q_.cell hx189_0
          replace hx189_1 := q_.cell hx189_1
          replace hx190_0 := q_.cell hx190_0
          replace hx190_1 := q_.cell hx190_1
          generalize q_.W = w12 at HB hx187_0 hx187_1 hx189_0 hx189_1 hx190_0 hx190_1 ⊢
          try simp only [i64_w, i32_w]
          try go_wp2
          go_ret
          exact ⟨by first | rfl | (simp [errW_none, errW_some] <;> rfl) | (simp only [← hji7]; first | rfl | (simp [errW_none, errW_some] <;> rfl)) | (simp [*, errW_none, errW_some] <;> rfl), Hd.b_⟩
         ·
          rw [if_neg c10] at H
          have c10b0 : (((rd_T49 l0 (ji7)).f0) == ((rd_T49 l0 x3_1).f0) && (((rd_T49 l0 (ji7)).f1) == ((rd_T49 l0 x3_1).f1))) = false := by simpa using c10
          (try (have c10b1 : decide (((rd_T49 l0 (ji7)).f0) = ((rd_T49 l0 x3_1).f0) && (((rd_T49 l0 (ji7)).f1) == ((rd_T49 l0 x3_1).f1))) = false := by simpa using c10))
          (try (have c10b2 : (((rd_T49 l0 (ji7)).f0) == ((rd_T49 l0 x3_1).f0) && (((rd_T49 l0 (ji7)).f1) == ((rd_T49 l0 x3_1).f1))) = false := by simpa using c10))
          (try (have c10b3 : ¬ (((rd_T49 l0 (ji7)).f0) = ((rd_T49 l0 x3_1).f0) && (((rd_T49 l0 (ji7)).f1) == ((rd_T49 l0 x3_1).f1))) := by simpa using c10))
          clear c10
          have H' := Aside0.mk H
          clear H
          try go_wp2
          replace HB := Aside0.mk (below_drew1 HB.out)
          have p187 : 0 ≤ (x3_1 : Int) := of_decide_eq_true Hd.a_
          have q187 : x3_1 < (l0.length : Int) := of_decide_eq_true Hd.a_
          obtain ⟨ad187, e187, hx187_0, hx187_1⟩ := at_T49 HR0.out x3_1 p187 q187
          have hw187_1 := hx187_1
          have hw187_0 := hx187_0
          cases e187
          replace hx187_0 := (HB.out.cell (World.block_lt_of_cell? w _ hx187_0)).trans hx187_0
          replace hx187_1 := (HB.out.cell (World.block_lt_of_cell? w _ hx187_1)).trans hx187_1
          replace p187 := eq_true p187
          replace q187 := eq_true q187
          have p189 : 0 ≤ ((ji7) : Int) := of_decide_eq_true Hd.a_
          have q189 : (ji7) < (l0.length : Int) := of_decide_eq_true Hd.a_
          obtain ⟨ad189, e189, hx189_0, hx189_1⟩ := at_T49 HR0.out (ji7) p189 q189
          have hw189_1 := hx189_1
          have hw189_0 := hx189_0
          obtain rfl : ad187 = ad189 := (by injection e189)
          replace hx189_0 := (HB.out.cell (World.block_lt_of_cell? w _ hx189_0)).trans hx189_0
          replace hx189_1 := (HB.out.cell (World.block_lt_of_cell? w _ hx189_1)).trans hx189_1
          replace p189 := eq_true p189
          replace q189 := eq_true q189
          have p190 : 0 ≤ (x3_1 : Int) := of_decide_eq_true Hd.a_
          have q190 : x3_1 < (l0.length : Int) := of_decide_eq_true Hd.a_
          obtain ⟨ad190, e190, hx190_0, hx190_1⟩ := at_T49 HR0.out x3_1 p190 q190
          have hw190_1 := hx190_1
          have hw190_0 := hx190_0
          obtain rfl : ad187 = ad190 := (by injection e190)
          replace hx190_0 := (HB.out.cell (World.block_lt_of_cell? w _ hx190_0)).trans hx190_0
          replace hx190_1 := (HB.out.cell (World.block_lt_of_cell? w _ hx190_1)).trans hx190_1
          replace p190 := eq_true p190
          replace q190 := eq_true q190
          have S_ : (fun w' : World => w'.cell? (ad187.add ((x3_1).toNat * 2)) = some (.int .i64 ((rd_T49 l0 x3_1).f0)) ∧ w'.cell? ⟨(ad187.add ((x3_1).toNat * 2)).block, (ad187.add ((x3_1).toNat * 2)).off + 1, none⟩ = some (.int .i64 ((rd_T49 l0 x3_1).f1)) ∧ w'.cell? (ad187.add (((ji7)).toNat * 2)) = some (.int .i64 ((rd_T49 l0 (ji7)).f0)) ∧ w'.cell? ⟨(ad187.add (((ji7)).toNat * 2)).block, (ad187.add (((ji7)).toNat * 2)).off + 1, none⟩ = some (.int .i64 ((rd_T49 l0 (ji7)).f1)) ∧ w'.cell? (ad187.add ((x3_1).toNat * 2)) = some (.int .i64 ((rd_T49 l0 x3_1).f0)) ∧ w'.cell? ⟨(ad187.add ((x3_1).toNat * 2)).block, (ad187.add ((x3_1).toNat * 2)).off + 1, none⟩ = some (.int .i64 ((rd_T49 l0 x3_1).f1))) wr.drew := ⟨((HB.out.cell (World.block_lt_of_cell? w _ hw187_0)).trans hw187_0), ((HB.out.cell (World.block_lt_of_cell? w _ hw187_1)).trans hw187_1), ((HB.out.cell (World.block_lt_of_cell? w _ hw189_0)).trans hw189_0), ((HB.out.cell (World.block_lt_of_cell? w _ hw189_1)).trans hw189_1), ((HB.out.cell (World.block_lt_of_cell? w _ hw190_0)).trans hw190_0), ((HB.out.cell (World.block_lt_of_cell? w _ hw190_1)).trans hw190_1)⟩
          obtain ⟨s0_, s1_, s2_, s3_, s4_, s5_⟩ := S_
          replace s0_ := fun q : Hd.HW wr.drew => q.cell s0_
          replace s1_ := fun q : Hd.HW wr.drew => q.cell s1_
          replace s2_ := fun q : Hd.HW wr.drew => q.cell s2_
          replace s3_ := fun q : Hd.HW wr.drew => q.cell s3_
          replace s4_ := fun q : Hd.HW wr.drew => q.cell s4_
          replace s5_ := fun q : Hd.HW wr.drew => q.cell s5_
          refine Hd.HW.region (by kernel_rfl) (by kernel_rfl) ?_
          repeat (go_big_quiet_step ((first | (go_at_call 125; with_reducible exact Hd.HW.c (spec_IsPoint.calls ((rd_T49 l0 x3_1).f0) ((rd_T49 l0 x3_1).f1) true _ A4.out)))))
          refine wpQuiet_nil ?_
          intro _ hq_
          obtain ⟨q_, rfl⟩ := hq_
          clear s0_ s1_ s2_ s3_ s4_ s5_
          replace HB := Aside0.mk (below_step HB.out q_.b)
          replace hx187_0 := q_.cell hx187_0
          replace hx187_1 := q_.cell hx187_1
          replace hx189_0 := q_.cell hx189_0
          replace hx189_1 := q_.cell hx189_1
          replace hx190_0 := q_.cell hx190_0
          replace hx190_1 := q_.cell hx190_1
          generalize q_.W = w14 at HB hx187_0 hx187_1 hx189_0 hx189_1 hx190_0 hx190_1 ⊢
          try simp only [i64_w, i32_w]
          try go_wp2
          go_roundg k1
          case measure => have := HK1.out; omega
          case rel => exact ⟨(wrap64 (x3_1 + 1)), (by first | rfl | (simp; done) | (simp [*]; done)), H', ⟨by have := HK1.out; omega⟩, ⟨Hd.b_⟩⟩
        ·
         rw [if_neg c9] at H
         exact absurd H (by simp)
       ·
        rw [if_neg c8] at H
        exact absurd H (by simp)
      ·
       rw [if_neg c6] at H
       have c6b0 : decide (0 < x3_1) = false := decide_eq_false c6
       clear c6
       have H' := Aside0.mk H
       clear H
       try go_wp2
       replace HB := Aside0.mk (below_drew1 HB.out)
       have p187 : 0 ≤ (x3_1 : Int) := of_decide_eq_true Hd.a_
       have q187 : x3_1 < (l0.length : Int) := of_decide_eq_true Hd.a_
       obtain ⟨ad187, e187, hx187_0, hx187_1⟩ := at_T49 HR0.out x3_1 p187 q187
       have hw187_1 := hx187_1
       have hw187_0 := hx187_0
       cases e187
       replace hx187_0 := (HB.out.cell (World.block_lt_of_cell? w _ hx187_0)).trans hx187_0
       replace hx187_1 := (HB.out.cell (World.block_lt_of_cell? w _ hx187_1)).trans hx187_1
       replace p187 := eq_true p187
       replace q187 := eq_true q187
       have S_ : (fun w' : World => w'.cell? (ad187.add ((x3_1).toNat * 2)) = some (.int .i64 ((rd_T49 l0 x3_1).f0)) ∧ w'.cell? ⟨(ad187.add ((x3_1).toNat * 2)).block, (ad187.add ((x3_1).toNat * 2)).off + 1, none⟩ = some (.int .i64 ((rd_T49 l0 x3_1).f1))) wr.drew := ⟨((HB.out.cell (World.block_lt_of_cell? w _ hw187_0)).trans hw187_0), ((HB.out.cell (World.block_lt_of_cell? w _ hw187_1)).trans hw187_1)⟩
       obtain ⟨s0_, s1_⟩ := S_
       replace s0_ := fun q : Hd.HW wr.drew => q.cell s0_
       replace s1_ := fun q : Hd.HW wr.drew => q.cell s1_
       refine Hd.HW.region (by kernel_rfl) (by kernel_rfl) ?_
       repeat (go_big_quiet_step ((first | (go_at_call 125; with_reducible exact Hd.HW.c (spec_IsPoint.calls ((rd_T49 l0 x3_1).f0) ((rd_T49 l0 x3_1).f1) true _ A4.out)))))
       refine wpQuiet_nil ?_
       intro _ hq_
       obtain ⟨q_, rfl⟩ := hq_
       clear s0_ s1_
       replace HB := Aside0.mk (below_step HB.out q_.b)
       replace hx187_0 := q_.cell hx187_0
       replace hx187_1 := q_.cell hx187_1
       generalize q_.W = w16 at HB hx187_0 hx187_1 ⊢
       try simp only [i64_w, i32_w]
       try go_wp2
       go_roundg k1
       case measure => have := HK1.out; omega
       case rel => exact ⟨(wrap64 (x3_1 + 1)), (by first | rfl | (simp; done) | (simp [*]; done)), H', ⟨by have := HK1.out; omega⟩, ⟨Hd.b_⟩⟩
     ·
      replace c5 := Bool.eq_false_iff.mpr c5
      subst c5
      have H1 : (some false) = some r := by rw [if_neg (show ¬ (false = true) by decide)] at H; exact H
      clear H
      have H := H1
      clear H1
      obtain rfl := Option.some.inj H
      try go_wp2
      replace HB := Aside0.mk (below_drew1 HB.out)
      have p187 : 0 ≤ (x3_1 : Int) := of_decide_eq_true Hd.a_
      have q187 : x3_1 < (l0.length : Int) := of_decide_eq_true Hd.a_
      obtain ⟨ad187, e187, hx187_0, hx187_1⟩ := at_T49 HR0.out x3_1 p187 q187
      have hw187_1 := hx187_1
      have hw187_0 := hx187_0
      cases e187
      replace hx187_0 := (HB.out.cell (World.block_lt_of_cell? w _ hx187_0)).trans hx187_0
      replace hx187_1 := (HB.out.cell (World.block_lt_of_cell? w _ hx187_1)).trans hx187_1
      replace p187 := eq_true p187
      replace q187 := eq_true q187
      have S_ : (fun w' : World => w'.cell? (ad187.add ((x3_1).toNat * 2)) = some (.int .i64 ((rd_T49 l0 x3_1).f0)) ∧ w'.cell? ⟨(ad187.add ((x3_1).toNat * 2)).block, (ad187.add ((x3_1).toNat * 2)).off + 1, none⟩ = some (.int .i64 ((rd_T49 l0 x3_1).f1))) wr.drew := ⟨((HB.out.cell (World.block_lt_of_cell? w _ hw187_0)).trans hw187_0), ((HB.out.cell (World.block_lt_of_cell? w _ hw187_1)).trans hw187_1)⟩
      obtain ⟨s0_, s1_⟩ := S_
      replace s0_ := fun q : Hd.HW wr.drew => q.cell s0_
      replace s1_ := fun q : Hd.HW wr.drew => q.cell s1_
      refine Hd.HW.region (by kernel_rfl) (by kernel_rfl) ?_
      repeat (go_big_quiet_step ((first | (go_at_call 125; with_reducible exact Hd.HW.c (spec_IsPoint.calls ((rd_T49 l0 x3_1).f0) ((rd_T49 l0 x3_1).f1) false _ A4.out)))))
      refine wpQuiet_nil ?_
      intro _ hq_
      obtain ⟨q_, rfl⟩ := hq_
      clear s0_ s1_
      replace HB := Aside0.mk (below_step HB.out q_.b)
      replace hx187_0 := q_.cell hx187_0
      replace hx187_1 := q_.cell hx187_1
      generalize q_.W = w18 at HB hx187_0 hx187_1 ⊢
      try simp only [i64_w, i32_w]
      try go_wp2
      go_ret
      exact ⟨Hd.e_, Hd.b_⟩
    ·
     rw [if_neg c3] at H
     exact absurd H (by simp)
   ·
    rw [if_neg c2] at H
    have c2b0 : decide (x3_1 < (l0.length : Int)) = false := decide_eq_false c2
    clear c2
    replace H := Option.bind_eq_some_iff.mp H
    obtain ⟨t191, A190, H⟩ := H
    replace H : (some t191) = some r := H
    have A19 := Aside0.mk A190
    clear A190
    obtain rfl := Option.some.inj H
    go_wp2_with (first | ((with_reducible refine gate_callee (f := 83) rfl ?_); refine goesL_ (some 34) rfl rfl Try.func83 (by kernel_rfl) rfl #[.int .i64 (l0.length : Int), .int .i64 2, .int .i64 10] rfl Hd.m_ ?_; (with_reducible refine (spec_l1In.calls (l0.length : Int) 2 10 t191 _ A19.out).mono ?_); rintro e w' ⟨rfl, ⟨nd, rfl⟩⟩; refine ⟨_, rfl, ?_⟩))
    go_ret
    exact ⟨Hd.e_, Hd.b_⟩

/-! ### spec_SegmentsOf: function 132 -/
def spec_SegmentsOf.l0 : Nat → List (S49) → List (S111) → Int → Option ((List (S111)))
 | 0, _, _, _ => none
 | k + 1, x0, x3, x4 => if x4 < (x0.length : Int) then ((spec_IsLine.f k x0).bind fun t195 => (if t195 = true then (if 0 ≤ (wrap64 (x4 - 1)) then (if (wrap64 (x4 - 1)) < (x0.length : Int) then (if 0 ≤ x4 then (if x3.length < 4398046511104 then (spec_SegmentsOf.l0 k x0 (x3 ++ [(⟨(⟨(rd_T49 x0 (wrap64 (x4 - 1))).f0, (rd_T49 x0 (wrap64 (x4 - 1))).f1⟩ : S49), (⟨(rd_T49 x0 x4).f0, (rd_T49 x0 x4).f1⟩ : S49)⟩ : S111)]) (wrap64 (x4 + 1))) else (none)) else (none)) else (none)) else (none)) else (some x3))) else (some x3)
def spec_SegmentsOf.f (k : Nat) (l0 : List (S49)) : Option ((List (S111))) := spec_SegmentsOf.l0 k l0 (([] : List (S111))) 1
theorem spec_SegmentsOf.mono_l : ∀ k, (∀ y0 y1 y2, LeO (spec_SegmentsOf.l0 k y0 y1 y2) (spec_SegmentsOf.l0 (k + 1) y0 y1 y2))
 | 0 => fun _ _ _ r h => by simp [spec_SegmentsOf.l0] at h
 | k + 1 => by
  have ih0 := spec_SegmentsOf.mono_l k
  ·
   intro y0 y1 y2
   unfold spec_SegmentsOf.l0
   repeat' first
   | (with_reducible exact ih0 _ _ _)
   | (with_reducible exact spec_IsLine.mono _ _)
   | (with_reducible exact LeO.refl _)
   | (with_reducible exact LeO.none _)
   | (with_reducible refine LeO.ite ?_ ?_)
   | (with_reducible refine LeO.bind ?_ (fun _ => ?_))
   | exact ih0 _ _ _
   | exact spec_IsLine.mono _ _
   | exact LeO.none _
   | refine LeO.ite ?_ ?_
   | refine LeO.bind ?_ (fun _ => ?_)
theorem spec_SegmentsOf.mono : ∀ a0 k, LeO (spec_SegmentsOf.f k a0) (spec_SegmentsOf.f (k + 1) a0) := by
 intro a0 k
 have ih0 := spec_SegmentsOf.mono_l k
 unfold spec_SegmentsOf.f
 repeat' first
   | (with_reducible exact ih0 _ _ _)
   | (with_reducible exact spec_IsLine.mono _ _)
   | (with_reducible exact LeO.refl _)
   | (with_reducible exact LeO.none _)
   | (with_reducible refine LeO.ite ?_ ?_)
   | (with_reducible refine LeO.bind ?_ (fun _ => ?_))
   | exact ih0 _ _ _
   | exact spec_IsLine.mono _ _
   | exact LeO.none _
   | refine LeO.ite ?_ ?_
   | refine LeO.bind ?_ (fun _ => ?_)
def spec_SegmentsOf.T5 : Bool × List (List Nat × List Nat) := (true, [([], []), ([], []), ([], []), ([2], [2]), ([1, 3], [1, 3]), ([4], [4]), ([], []), ([], []), ([6, 7], [6, 7]), ([8], [8]), ([5, 9], [5, 9]), ([10], [10]), ([0, 11], [0, 11]), ([12, 12, 0, 1, 2, 3, 4, 5, 6, 7, 8, 9, 10, 11, 12], [0, 12])])
def spec_SegmentsOf.B5 : List Nat := [0, 0, 0, 4, 14, 30, 0, 0, 192, 448, 1022, 2046, 4095, 8191]
theorem spec_SegmentsOf.tab5 : rtab .any (opsOf Try.f132 5) = spec_SegmentsOf.T5 := by kernel_rfl
theorem spec_SegmentsOf.bits5 : waitsOk spec_SegmentsOf.T5.2 spec_SegmentsOf.B5 = true := by kernel_rfl
set_option maxHeartbeats 8000000 in
set_option maxRecDepth 100000 in
theorem spec_SegmentsOf.calls (k : Nat) (A0 : Option Addr) (c0 : Nat) (l0 : List (S49)) (r : List (S111)) (w : World) (hr0 : Kd.C k49 w A0 l0.length l0) (hc0 : l0.length ≤ c0) (h : spec_SegmentsOf.f k l0 = some r) :
  Calls Try.prog 132 #[.slice A0 l0.length c0] w fun e w' => ∃ v0_ : Value, e = .returned (v0_) ∧ Kd.R k111 111 w' w.heap.size (fun _ => True) v0_ r ∧ Below w.heap.size w w' := by
 have hu49 := Try.underlying49
 have hu111 := Try.underlying111
 have HR0 := Aside0.mk hr0
 have HC0 := Aside0.mk hc0
 clear hr0 hc0
 have HB := Aside0.mk (Below.refl w.heap.size w)
 have H : (spec_SegmentsOf.l0 k l0 (([] : List (S111))) 1) = some r := h
 clear h
 obtain ⟨y192, hy192⟩ : ∃ y_ : List (S111), y_ = (([] : List (S111))) := ⟨_, rfl⟩
 replace H : (spec_SegmentsOf.l0 k l0 y192 1) = some r := by first | (rw [hy192]; with_reducible exact H) | (have H2_ := (Option.bind_some _ _).symm.trans H; rw [hy192]; with_reducible exact H2_) | (have H2_ := (Option.bind_some _ _).symm.trans H; with_reducible exact H2_) | with_reducible exact H | (rw [hy192]; exact H) | exact H
 have Ny192 := Aside0.mk hy192
 clear hy192
 have H' := Aside0.mk H
 clear H
 go_enter Try.func132, Try.ntmps132
 go_wp2_with (first | ((with_reducible refine gate_dst (N := 5) rfl ?_); refine Kd.R_lit k111 _ 111 ?hg (N := 5) ?hd (xs := ([] : List (S111))) (inner := []) (ok := fun _ => True) (okp := fun _ => True) ?hr ?hp (fun _ hk => hk) trivial (Below.refl _ _) (Nat.le_refl _) (by simp) ?_; (case hd => rfl); (case hg => rfl); (case hr => first | (go_simp; done) | (go_simp; rfl)); (case hp => exact (Reps.none _ _)); intro v193 w2 ho3 hb hg_ hnew_; clear hg_ hnew_; (first | rw [← Ny192.out] at ho3 | (simp only [Int.reduceToNat] at ho3; rw [← Ny192.out] at ho3)); have HO194 := Aside0.mk (Kd.R_lower ho3 (below_size Hd.b_)); replace HB := Aside0.mk (below_step Hd.b_ hb); clear hb ho3))
 go_loopg [3, 4] k (fun kq v3 v4 w' => ∃ (x3_1 : List (S111)) (x4_1 : Int), v4 = .int .i64 x4_1 ∧ Aside0 (spec_SegmentsOf.l0 kq l0 x3_1 x4_1 = some r) ∧ Aside0 (kq ≤ k) ∧ Aside0 (Kd.R k111 111 w' w.heap.size (fun _ => True) v3 x3_1) ∧ Aside0 (Below w.heap.size w w'))
 case atStart => exact ⟨(y192), (1), (by first | rfl | (simp; done) | (simp [*]; done)), H', ⟨Nat.le_refl _⟩, ⟨by (with_reducible repeat (first | apply Kd.R_alloc | apply Kd.R_drewN | apply Kd.R_drew)); exact HO194.out⟩, ⟨Hd.b_⟩⟩
 case round =>
  clear H'
  try clear c1
  try clear p2
  obtain ⟨x3_1, x4_1, rfl, HA, HK1, HO_3, HB⟩ := hrel
  cases gk with
  | zero => exact absurd HA.out (by simp [spec_SegmentsOf.l0])
  | succ k1 =>
   have H := HA.out
   clear HA
   simp only [spec_SegmentsOf.l0] at H
   by_cases c4 : x4_1 < (l0.length : Int)
   ·
    rw [if_pos c4] at H
    have c4b0 : decide (x4_1 < (l0.length : Int)) = true := decide_eq_true c4
    clear c4
    replace H := Option.bind_eq_some_iff.mp H
    obtain ⟨t195, A50, H⟩ := H
    replace H : (if t195 = true then (if 0 ≤ (wrap64 (x4_1 - 1)) then (if (wrap64 (x4_1 - 1)) < (l0.length : Int) then (if 0 ≤ x4_1 then (if x3_1.length < 4398046511104 then (spec_SegmentsOf.l0 k1 l0 (x3_1 ++ [(⟨(⟨(rd_T49 l0 (wrap64 (x4_1 - 1))).f0, (rd_T49 l0 (wrap64 (x4_1 - 1))).f1⟩ : S49), (⟨(rd_T49 l0 x4_1).f0, (rd_T49 l0 x4_1).f1⟩ : S49)⟩ : S111)]) (wrap64 (x4_1 + 1))) else (none)) else (none)) else (none)) else (none)) else (some x3_1)) = some r := H
    have A5 := Aside0.mk A50
    clear A50
    by_cases c6 : t195 = true
    ·
     subst c6
     have H1 : (if 0 ≤ (wrap64 (x4_1 - 1)) then (if (wrap64 (x4_1 - 1)) < (l0.length : Int) then (if 0 ≤ x4_1 then (if x3_1.length < 4398046511104 then (spec_SegmentsOf.l0 k1 l0 (x3_1 ++ [(⟨(⟨(rd_T49 l0 (wrap64 (x4_1 - 1))).f0, (rd_T49 l0 (wrap64 (x4_1 - 1))).f1⟩ : S49), (⟨(rd_T49 l0 x4_1).f0, (rd_T49 l0 x4_1).f1⟩ : S49)⟩ : S111)]) (wrap64 (x4_1 + 1))) else (none)) else (none)) else (none)) else (none)) = some r := by rw [if_pos rfl] at H; exact H
     clear H
     have H := H1
     clear H1
     obtain ⟨ji7, hji7⟩ : ∃ j_ : Int, (wrap64 (x4_1 - 1)) = j_ := ⟨_, rfl⟩
     replace H : (if 0 ≤ (ji7) then (if (ji7) < (l0.length : Int) then (if 0 ≤ x4_1 then (if x3_1.length < 4398046511104 then (spec_SegmentsOf.l0 k1 l0 (x3_1 ++ [(⟨(⟨(rd_T49 l0 (ji7)).f0, (rd_T49 l0 (ji7)).f1⟩ : S49), (⟨(rd_T49 l0 x4_1).f0, (rd_T49 l0 x4_1).f1⟩ : S49)⟩ : S111)]) (wrap64 (x4_1 + 1))) else (none)) else (none)) else (none)) else (none)) = some r := by first | (rw [hji7] at H; exact H) | (simp only [hji7] at H ⊢; exact H)
     (try rw [hji7] at A5)
     have hji7w : (IntKind.i64.wrap (x4_1 - 1)) = ji7 := (i64_w _).trans hji7
     by_cases c8 : 0 ≤ (ji7)
     ·
      rw [if_pos c8] at H
      have c8b0 : decide (0 ≤ (ji7)) = true := decide_eq_true c8
      clear c8
      by_cases c9 : (ji7) < (l0.length : Int)
      ·
       rw [if_pos c9] at H
       have c9b0 : decide ((ji7) < (l0.length : Int)) = true := decide_eq_true c9
       clear c9
       by_cases c10 : 0 ≤ x4_1
       ·
        rw [if_pos c10] at H
        have c10b0 : decide (0 ≤ x4_1) = true := decide_eq_true c10
        clear c10
        by_cases c11 : x3_1.length < 4398046511104
        ·
         rw [if_pos c11] at H
         have LMc11 := Aside0.mk c11
         clear c11
         obtain ⟨y198, hy198⟩ : ∃ y_ : List (S111), y_ = (x3_1 ++ [(⟨(⟨(rd_T49 l0 (ji7)).f0, (rd_T49 l0 (ji7)).f1⟩ : S49), (⟨(rd_T49 l0 x4_1).f0, (rd_T49 l0 x4_1).f1⟩ : S49)⟩ : S111)]) := ⟨_, rfl⟩
         replace H : (spec_SegmentsOf.l0 k1 l0 y198 (wrap64 (x4_1 + 1))) = some r := by first | (rw [hy198]; with_reducible exact H) | (have H2_ := (Option.bind_some _ _).symm.trans H; rw [hy198]; with_reducible exact H2_) | (have H2_ := (Option.bind_some _ _).symm.trans H; with_reducible exact H2_) | with_reducible exact H | (rw [hy198]; exact H) | exact H
         have Ny198 := Aside0.mk hy198
         clear hy198
         have H' := Aside0.mk H
         clear H
         try go_wp2_with (first | (go_at_call 154; (with_reducible refine (spec_IsLine.calls k1 _ _ l0 true _ ?side1 ?side2 A5.out).mono ?_); (case side1 => repeat (first | exact (Kd.C_below HR0.out HB.out) | (with_reducible refine Kd.C_alloc ?_ _) | (with_reducible refine Kd.C_drewN ?_ _) | (with_reducible refine Kd.C_drew ?_))); (case side2 => exact HC0.out); rintro e w12 ⟨rfl, hb⟩; replace HO_3 := Aside0.mk (Kd.R_below (Hd.r_ HO_3) hb); replace HB := Aside0.mk (below_step Hd.b_ hb); (try clear hb); (try clear hb2); (try clear hk); (try clear hi)))
         replace HO_3 := Aside0.mk (Kd.R_drew HO_3.out)
         replace HB := Aside0.mk (below_drew1 HB.out)
         have p196 : 0 ≤ ((ji7) : Int) := of_decide_eq_true Hd.a_
         have q196 : (ji7) < (l0.length : Int) := of_decide_eq_true Hd.a_
         obtain ⟨ad196, e196, hx196_0, hx196_1⟩ := at_T49 HR0.out (ji7) p196 q196
         have hw196_1 := hx196_1
         have hw196_0 := hx196_0
         cases e196
         replace hx196_0 := (HB.out.cell (World.block_lt_of_cell? w _ hx196_0)).trans hx196_0
         replace hx196_1 := (HB.out.cell (World.block_lt_of_cell? w _ hx196_1)).trans hx196_1
         replace p196 := eq_true p196
         replace q196 := eq_true q196
         have p197 : 0 ≤ (x4_1 : Int) := of_decide_eq_true Hd.a_
         have q197 : x4_1 < (l0.length : Int) := of_decide_eq_true Hd.a_
         obtain ⟨ad197, e197, hx197_0, hx197_1⟩ := at_T49 HR0.out x4_1 p197 q197
         have hw197_1 := hx197_1
         have hw197_0 := hx197_0
         obtain rfl : ad196 = ad197 := (by injection e197)
         replace hx197_0 := (HB.out.cell (World.block_lt_of_cell? w _ hx197_0)).trans hx197_0
         replace hx197_1 := (HB.out.cell (World.block_lt_of_cell? w _ hx197_1)).trans hx197_1
         replace p197 := eq_true p197
         replace q197 := eq_true q197
         refine start_ (n := 14) (S := fun w' => w'.cell? (ad196.add (((ji7)).toNat * 2)) = some (.int .i64 ((rd_T49 l0 (ji7)).f0)) ∧ w'.cell? ⟨(ad196.add (((ji7)).toNat * 2)).block, (ad196.add (((ji7)).toNat * 2)).off + 1, none⟩ = some (.int .i64 ((rd_T49 l0 (ji7)).f1)) ∧ w'.cell? (ad196.add ((x4_1).toNat * 2)) = some (.int .i64 ((rd_T49 l0 x4_1).f0)) ∧ w'.cell? ⟨(ad196.add ((x4_1).toNat * 2)).block, (ad196.add ((x4_1).toNat * 2)).off + 1, none⟩ = some (.int .i64 ((rd_T49 l0 x4_1).f1))) (ds := []) #[false, false, false, false, false, false, false, false, false, false, false, false, false, false] (by kernel_rfl) rfl rfl ⟨((HB.out.cell (World.block_lt_of_cell? w _ hw196_0)).trans hw196_0), ((HB.out.cell (World.block_lt_of_cell? w _ hw196_1)).trans hw196_1), ((HB.out.cell (World.block_lt_of_cell? w _ hw197_0)).trans hw197_0), ((HB.out.cell (World.block_lt_of_cell? w _ hw197_1)).trans hw197_1)⟩ (fun hHeld => ?_); refine with_tabW spec_SegmentsOf.tab5 spec_SegmentsOf.bits5 (fun HT_ HW_ => ?_)
         generalize w12.drew = w13 at HO_3 HB hx196_0 hx196_1 hx197_0 hx197_1 hHeld ⊢
         refine pure_ (i := 0) (N := some 16) (v := ?_) (a' := ?_) #[true, false, false, false, false, false, false, false, false, false, false, false, false, false] rfl rfl (any_of HT_.out (by kernel_rfl)) (fun _ _ _ h => h) (Or.inl ⟨by rfl, ?_⟩) ?_ ?_
         rotate_left
         ·
          intro w'
          go_simp
          with_reducible rfl
         rotate_left
         ·
          simp only [Act.put, List.setIfInBounds_toArray, List.set_cons_zero, List.set_cons_succ, i64_w, i32_w]
          rfl
         refine pure_ (i := 1) (N := some 17) (v := ?_) (a' := ?_) #[true, true, false, false, false, false, false, false, false, false, false, false, false, false] rfl rfl (any_of HT_.out (by kernel_rfl)) (fun _ _ _ h => h) (Or.inl ⟨by rfl, ?_⟩) ?_ ?_
         rotate_left
         ·
          intro w'
          go_simp
          with_reducible rfl
         rotate_left
         ·
          simp only [Act.put, List.setIfInBounds_toArray, List.set_cons_zero, List.set_cons_succ, i64_w, i32_w]
          rfl
         refine pure_ (i := 2) (N := some 18) (v := ?_) (a' := ?_) #[true, true, true, false, false, false, false, false, false, false, false, false, false, false] rfl rfl (any_of HT_.out (by kernel_rfl)) (fun _ _ _ h => h) (Or.inl ⟨by rfl, ?_⟩) ?_ ?_
         rotate_left
         ·
          intro w'
          go_simp
          with_reducible rfl
         rotate_left
         ·
          simp only [Act.put, List.setIfInBounds_toArray, List.set_cons_zero, List.set_cons_succ, i64_w, i32_w]
          rfl
         refine pure_ (i := 3) (N := some 19) (v := ?_) (a' := ?_) #[true, true, true, true, false, false, false, false, false, false, false, false, false, false] rfl rfl (any_of HT_.out (by kernel_rfl)) (fun _ _ _ h => h) (Or.inl ⟨by rfl, ?_⟩) ?_ ?_
         rotate_left
         ·
          intro w'
          go_simp
          with_reducible rfl
         rotate_left
         ·
          simp only [Act.put, List.setIfInBounds_toArray, List.set_cons_zero, List.set_cons_succ, i64_w, i32_w]
          rfl
         refine pure_ (i := 4) (N := some 20) (v := ?_) (a' := ?_) #[true, true, true, true, true, false, false, false, false, false, false, false, false, false] rfl rfl (any_of HT_.out (by kernel_rfl)) (fun _ _ _ h => h) (Or.inl ⟨by rfl, ?_⟩) ?_ ?_
         rotate_left
         ·
          intro w'
          go_simp
          with_reducible rfl
         rotate_left
         ·
          simp only [Act.put, List.setIfInBounds_toArray, List.set_cons_zero, List.set_cons_succ, i64_w, i32_w]
          rfl
         refine pure_ (i := 6) (N := some 22) (v := ?_) (a' := ?_) #[true, true, true, true, true, false, true, false, false, false, false, false, false, false] rfl rfl (any_of HT_.out (by kernel_rfl)) (fun _ _ _ h => h) (Or.inl ⟨by rfl, ?_⟩) ?_ ?_
         rotate_left
         ·
          intro w'
          go_simp
          with_reducible rfl
         rotate_left
         ·
          simp only [Act.put, List.setIfInBounds_toArray, List.set_cons_zero, List.set_cons_succ, i64_w, i32_w]
          rfl
         refine pure_ (i := 7) (N := some 23) (v := ?_) (a' := ?_) #[true, true, true, true, true, false, true, true, false, false, false, false, false, false] rfl rfl (any_of HT_.out (by kernel_rfl)) (fun _ _ _ h => h) (Or.inl ⟨by rfl, ?_⟩) ?_ ?_
         rotate_left
         ·
          intro w'
          go_simp
          with_reducible rfl
         rotate_left
         ·
          simp only [Act.put, List.setIfInBounds_toArray, List.set_cons_zero, List.set_cons_succ, i64_w, i32_w]
          rfl
         refine pure_ (i := 8) (N := some 24) (v := ?_) (a' := ?_) #[true, true, true, true, true, false, true, true, true, false, false, false, false, false] rfl rfl (any_of HT_.out (by kernel_rfl)) (fun _ _ _ h => h) (Or.inl ⟨by rfl, ?_⟩) ?_ ?_
         rotate_left
         ·
          intro w'
          go_simp
          with_reducible rfl
         rotate_left
         ·
          simp only [Act.put, List.setIfInBounds_toArray, List.set_cons_zero, List.set_cons_succ, i64_w, i32_w]
          rfl
         refine take_ (i := 5) (N := some 21) (v := ?_) (a' := ?_) #[true, true, true, true, true, true, true, true, true, false, false, false, false, false] rfl rfl (take_ofW HT_.out HW_.out (by kernel_rfl)) (fun _ _ _ h => h) (Or.inl ⟨by rfl, ?_⟩) hHeld ?_ ?_
         rotate_left
         ·
          rintro w' ⟨s0, s1, s2, s3⟩
          go_simp
          with_reducible rfl
         rotate_left
         ·
          simp only [Act.put, List.setIfInBounds_toArray, List.set_cons_zero, List.set_cons_succ, i64_w, i32_w]
          rfl
         refine take_ (i := 9) (N := some 25) (v := ?_) (a' := ?_) #[true, true, true, true, true, true, true, true, true, true, false, false, false, false] rfl rfl (take_ofW HT_.out HW_.out (by kernel_rfl)) (fun _ _ _ h => h) (Or.inl ⟨by rfl, ?_⟩) hHeld ?_ ?_
         rotate_left
         ·
          rintro w' ⟨s0, s1, s2, s3⟩
          go_simp
          with_reducible rfl
         rotate_left
         ·
          simp only [Act.put, List.setIfInBounds_toArray, List.set_cons_zero, List.set_cons_succ, i64_w, i32_w]
          rfl
         refine pure_ (i := 10) (N := some 26) (v := ?_) (a' := ?_) #[true, true, true, true, true, true, true, true, true, true, true, false, false, false] rfl rfl (any_of HT_.out (by kernel_rfl)) (fun _ _ _ h => h) (Or.inl ⟨by rfl, ?_⟩) ?_ ?_
         rotate_left
         ·
          intro w'
          go_simp
          with_reducible rfl
         rotate_left
         ·
          simp only [Act.put, List.setIfInBounds_toArray, List.set_cons_zero, List.set_cons_succ, i64_w, i32_w]
          rfl
         refine one_ (i := 11) (N := some 27) #[true, true, true, true, true, true, true, true, true, true, true, true, false, false] rfl rfl (one_of HT_.out (by kernel_rfl)) (by decide) (fun K hK => ?_)
         refine value_ (w1 := ?_) (v := ?_) (by rfl) rfl ?_ ?_
         rotate_left 2
         ·
          go_simp
          constructor
          ·
           rfl
          ·
           rfl
         refine hK.out _ _ ⟨(World.cell?_alloc_lt _ _ _ (World.block_lt_of_cell? _ _ (((HB.out.cell (World.block_lt_of_cell? w _ hw196_0)).trans hw196_0)))).trans (((HB.out.cell (World.block_lt_of_cell? w _ hw196_0)).trans hw196_0)), (World.cell?_alloc_lt _ _ _ (World.block_lt_of_cell? _ _ (((HB.out.cell (World.block_lt_of_cell? w _ hw196_1)).trans hw196_1)))).trans (((HB.out.cell (World.block_lt_of_cell? w _ hw196_1)).trans hw196_1)), (World.cell?_alloc_lt _ _ _ (World.block_lt_of_cell? _ _ (((HB.out.cell (World.block_lt_of_cell? w _ hw197_0)).trans hw197_0)))).trans (((HB.out.cell (World.block_lt_of_cell? w _ hw197_0)).trans hw197_0)), (World.cell?_alloc_lt _ _ _ (World.block_lt_of_cell? _ _ (((HB.out.cell (World.block_lt_of_cell? w _ hw197_1)).trans hw197_1)))).trans (((HB.out.cell (World.block_lt_of_cell? w _ hw197_1)).trans hw197_1))⟩ (fun hHeld => ?_)
         clear hK K
         refine norm_ (a' := ?_) ?_ ?_
         rotate_left
         ·
          show Act.put _ (some 27) _ = _
          simp only [Act.put, List.setIfInBounds_toArray, List.set_cons_zero, List.set_cons_succ, i64_w, i32_w]
          rfl
         refine one_ (i := 12) (N := some 28) #[true, true, true, true, true, true, true, true, true, true, true, true, true, false] rfl rfl (one_of HT_.out (by kernel_rfl)) (by decide) (fun K hK => ?_)
         refine Kd.R_append_step k111 (w0 := w) w.heap.size (by rfl) (.tmp 16) (.tmp 27) 91 111 (.agg #[(.int .i64 0), (.int .i64 0), (.int .i64 0), (.int .i64 0)]) 32 rfl Try.underlying91 info111 rfl (by decide) (by omega) u3 x3_1 (⟨(⟨(rd_T49 l0 (ji7)).f0, (rd_T49 l0 (ji7)).f1⟩ : S49), (⟨(rd_T49 l0 x4_1).f0, (rd_T49 l0 x4_1).f1⟩ : S49)⟩ : S111) [.int .i64 ((rd_T49 l0 (ji7)).f0), .int .i64 ((rd_T49 l0 (ji7)).f1), .int .i64 ((rd_T49 l0 x4_1).f0), .int .i64 ((rd_T49 l0 x4_1).f1)] (fun _ => True) (fun _ => False) rfl rfl ?aP (fun _ hk => hk.elim) ?aF ?aO ?aB ?aS ?aL ?_
         (case aP => exact k111_mkM _ _ _ (⟨(⟨(rd_T49 l0 (ji7)).f0, (rd_T49 l0 (ji7)).f1⟩ : S49), (⟨(rd_T49 l0 x4_1).f0, (rd_T49 l0 x4_1).f1⟩ : S49)⟩ : S111))
         (case aB => exact Hd.b_)
         (case aF => exact (fun _ _ => trivial))
         (case aO => exact (Hd.r_ HO_3))
         (case aS => exact (below_size Hd.b_))
         (case aL => have := LMc11.out; omega)
         intro v199 w14 ho hb hg hat
         rw [← Ny198.out] at ho
         have n0_ := Aside0.mk (hb)
         have n1_ := Aside0.mk (ho)
         clear HB
         clear HO_3
         have HB := n0_
         have HO200 := n1_
         clear n0_ n1_
         clear ho hb hg hat
         refine hK.out _ _ ⟨((HB.out.cell (World.block_lt_of_cell? w _ hw196_0)).trans hw196_0), ((HB.out.cell (World.block_lt_of_cell? w _ hw196_1)).trans hw196_1), ((HB.out.cell (World.block_lt_of_cell? w _ hw197_0)).trans hw197_0), ((HB.out.cell (World.block_lt_of_cell? w _ hw197_1)).trans hw197_1)⟩ (fun hHeld => ?_)
         clear hK K
         refine norm_ (a' := ?_) ?_ ?_
         rotate_left
         ·
          show Act.put _ (some 28) _ = _
          simp only [Act.put, List.setIfInBounds_toArray, List.set_cons_zero, List.set_cons_succ, i64_w, i32_w]
          rfl
         refine pure_ (i := 13) (N := some 3) (v := ?_) (a' := ?_) #[true, true, true, true, true, true, true, true, true, true, true, true, true, true] rfl rfl (any_of HT_.out (by kernel_rfl)) (fun _ _ _ h => h) (Or.inl ⟨by rfl, ?_⟩) ?_ ?_
         rotate_left
         ·
          intro w'
          go_simp
          with_reducible rfl
         rotate_left
         ·
          simp only [Act.put, List.setIfInBounds_toArray, List.set_cons_zero, List.set_cons_succ, i64_w, i32_w]
          rfl
         refine done_ (done_of HT_.out (by kernel_rfl)) ?_
         try go_wp2
         go_roundg k1
         case measure => have := HK1.out; omega
         case rel => exact ⟨(y198), (wrap64 (x4_1 + 1)), (by first | rfl | (simp; done) | (simp [*]; done)), H', ⟨by have := HK1.out; omega⟩, ⟨by (with_reducible repeat (first | apply Kd.R_alloc | apply Kd.R_drewN | apply Kd.R_drew)); exact HO200.out⟩, ⟨Hd.b_⟩⟩
        ·
         rw [if_neg c11] at H
         exact absurd H (by simp)
       ·
        rw [if_neg c10] at H
        exact absurd H (by simp)
      ·
       rw [if_neg c9] at H
       exact absurd H (by simp)
     ·
      rw [if_neg c8] at H
      exact absurd H (by simp)
    ·
     replace c6 := Bool.eq_false_iff.mpr c6
     subst c6
     have H1 : (some x3_1) = some r := by rw [if_neg (show ¬ (false = true) by decide)] at H; exact H
     clear H
     have H := H1
     clear H1
     obtain rfl := Option.some.inj H
     go_wp2_with (first | (go_at_call 154; (with_reducible refine (spec_IsLine.calls k1 _ _ l0 false _ ?side1 ?side2 A5.out).mono ?_); (case side1 => repeat (first | exact (Kd.C_below HR0.out HB.out) | (with_reducible refine Kd.C_alloc ?_ _) | (with_reducible refine Kd.C_drewN ?_ _) | (with_reducible refine Kd.C_drew ?_))); (case side2 => exact HC0.out); rintro e w15 ⟨rfl, hb⟩; replace HO_3 := Aside0.mk (Kd.R_below (Hd.r_ HO_3) hb); replace HB := Aside0.mk (below_step Hd.b_ hb); (try clear hb); (try clear hb2); (try clear hk); (try clear hi)))
     go_ret
     exact ⟨_, Hd.e_, by (with_reducible repeat (first | apply Kd.R_alloc | apply Kd.R_drewN | apply Kd.R_drew)); exact HO_3.out, Hd.b_⟩
   ·
    rw [if_neg c4] at H
    have c4b0 : decide (x4_1 < (l0.length : Int)) = false := decide_eq_false c4
    clear c4
    obtain rfl := Option.some.inj H
    go_wp2
    go_ret
    exact ⟨_, Hd.e_, by (with_reducible repeat (first | apply Kd.R_alloc | apply Kd.R_drewN | apply Kd.R_drew)); exact HO_3.out, Hd.b_⟩

end Go.Proofs.Ytchmbcembbbplac.MFnExactIsFeature
