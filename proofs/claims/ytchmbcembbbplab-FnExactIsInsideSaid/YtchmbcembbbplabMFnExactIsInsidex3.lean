-- Laid by this session's program pp.py, after the kit's print and texts of the session's own. Not trusted: Lean checks it.
import Derived.Test.YtchmbcembbbplabMFnExactIsInsidex0
import Derived.Test.YtchmbcembbbplabMFnExactIsInsidex2
namespace Go.Proofs.Ytchmbcembbbplab.MFnExactIsInside
open Go.RowKit Go.Proofs.YtchmbcembbbplabW.PrintWords Go.Proofs.YtchmbcembbbplabW.PrintLast Go.Proofs.YtchmbcembbbplabW.PrintMore
attribute [local go_sem] max2_int min2_int max_two min_two max_three min_three max_four min_four   -- for this text's walks alone
set_option linter.unusedVariables false
set_option linter.unusedSimpArgs false

/-! ### impl_around: function 105 -/
def impl_around.l0 : Nat → List (S27) → List (S60) → List (S27) → Int → Int → Option ((List (S60)))
 | 0, _, _, _, _, _ => none
 | k + 1, x0, x3, x7, x8, x9 => if x9 < x8 then (if 0 ≤ x9 then (if x9 < (x7.length : Int) then (if (x0.length : Int) = 0 then (none) else (if 0 ≤ (Int.tmod (wrap64 (x9 + 1)) (x0.length : Int)) then (if (Int.tmod (wrap64 (x9 + 1)) (x0.length : Int)) < (x0.length : Int) then (if x3.length < 4398046511104 then (impl_around.l0 k x0 (x3 ++ [(⟨(⟨(rd_T27 x7 x9).f0, (rd_T27 x7 x9).f1⟩ : S27), (⟨(rd_T27 x0 (Int.tmod (wrap64 (x9 + 1)) (x0.length : Int))).f0, (rd_T27 x0 (Int.tmod (wrap64 (x9 + 1)) (x0.length : Int))).f1⟩ : S27)⟩ : S60)]) x7 x8 (wrap64 (x9 + 1))) else (none)) else (none)) else (none))) else (none)) else (none)) else (some x3)
def impl_around.f (k : Nat) (l0 : List (S27)) : Option ((List (S60))) := impl_around.l0 k l0 (([] : List (S60))) l0 (l0.length : Int) 0
theorem impl_around.mono_l : ∀ k, (∀ y0 y1 y2 y3 y4, LeO (impl_around.l0 k y0 y1 y2 y3 y4) (impl_around.l0 (k + 1) y0 y1 y2 y3 y4))
 | 0 => fun _ _ _ _ _ r h => by simp [impl_around.l0] at h
 | k + 1 => by
  have ih0 := impl_around.mono_l k
  ·
   intro y0 y1 y2 y3 y4
   unfold impl_around.l0
   repeat' first
   | (with_reducible exact ih0 _ _ _ _ _)
   | (with_reducible exact LeO.refl _)
   | (with_reducible exact LeO.none _)
   | (with_reducible refine LeO.ite ?_ ?_)
   | (with_reducible refine LeO.bind ?_ (fun _ => ?_))
   | exact ih0 _ _ _ _ _
   | exact LeO.none _
   | refine LeO.ite ?_ ?_
   | refine LeO.bind ?_ (fun _ => ?_)
theorem impl_around.mono : ∀ a0 k, LeO (impl_around.f k a0) (impl_around.f (k + 1) a0) := by
 intro a0 k
 have ih0 := impl_around.mono_l k
 unfold impl_around.f
 repeat' first
   | (with_reducible exact ih0 _ _ _ _ _)
   | (with_reducible exact LeO.refl _)
   | (with_reducible exact LeO.none _)
   | (with_reducible refine LeO.ite ?_ ?_)
   | (with_reducible refine LeO.bind ?_ (fun _ => ?_))
   | exact ih0 _ _ _ _ _
   | exact LeO.none _
   | refine LeO.ite ?_ ?_
   | refine LeO.bind ?_ (fun _ => ?_)
def impl_around.T5 : Bool × List (List Nat × List Nat) := (true, [([], []), ([], []), ([], []), ([], []), ([3], [3]), ([], []), ([5], [5]), ([4, 6], [4, 6]), ([2, 7], [2, 7]), ([8], [8]), ([1, 9], [1, 9]), ([10], [10]), ([0, 11], [0, 11]), ([12, 12, 0, 1, 2, 3, 4, 5, 6, 7, 8, 9, 10, 11, 12], [0, 12])])
def impl_around.B5 : List Nat := [0, 0, 0, 0, 8, 0, 32, 120, 252, 508, 1022, 2046, 4095, 8191]
theorem impl_around.tab5 : rtab .any (opsOf Try.f105 5) = impl_around.T5 := by kernel_rfl
theorem impl_around.bits5 : waitsOk impl_around.T5.2 impl_around.B5 = true := by kernel_rfl
set_option maxHeartbeats 8000000 in
set_option maxRecDepth 100000 in
theorem impl_around.calls (k : Nat) (A0 : Option Addr) (c0 : Nat) (l0 : List (S27)) (r : List (S60)) (w : World) (hr0 : Kd.C k27 w A0 l0.length l0) (hc0 : l0.length ≤ c0) (h : impl_around.f k l0 = some r) :
  Calls Try.prog 105 #[.slice A0 l0.length c0] w fun e w' => ∃ v0_ : Value, e = .returned (v0_) ∧ Kd.R k60 60 w' w.heap.size (fun _ => True) v0_ r ∧ Below w.heap.size w w' := by
 have hu27 := Try.underlying27
 have hu60 := Try.underlying60
 have HR0 := Aside0.mk hr0
 have HC0 := Aside0.mk hc0
 clear hr0 hc0
 have HB := Aside0.mk (Below.refl w.heap.size w)
 have H : (impl_around.l0 k l0 (([] : List (S60))) l0 (l0.length : Int) 0) = some r := h
 clear h
 obtain ⟨y122, hy122⟩ : ∃ y_ : List (S60), y_ = (([] : List (S60))) := ⟨_, rfl⟩
 replace H : (impl_around.l0 k l0 y122 l0 (l0.length : Int) 0) = some r := by first | (rw [hy122]; with_reducible exact H) | (have H2_ := (Option.bind_some _ _).symm.trans H; rw [hy122]; with_reducible exact H2_) | (have H2_ := (Option.bind_some _ _).symm.trans H; with_reducible exact H2_) | with_reducible exact H | (rw [hy122]; exact H) | exact H
 have Ny122 := Aside0.mk hy122
 clear hy122
 have H' := Aside0.mk H
 clear H
 go_enter Try.func105, Try.ntmps105
 go_wp2_with (first | ((with_reducible refine gate_dst (N := 6) rfl ?_); refine Kd.R_lit k60 _ 60 ?hg (N := 6) ?hd (xs := ([] : List (S60))) (inner := []) (ok := fun _ => True) (okp := fun _ => True) ?hr ?hp (fun _ hk => hk) trivial (Below.refl _ _) (Nat.le_refl _) (by simp) ?_; (case hd => rfl); (case hg => rfl); (case hr => first | (go_simp; done) | (go_simp; rfl)); (case hp => exact (Reps.none _ _)); intro v123 w2 ho3 hb hg_ hnew_; clear hg_ hnew_; (first | rw [← Ny122.out] at ho3 | (simp only [Int.reduceToNat] at ho3; rw [← Ny122.out] at ho3)); have HO124 := Aside0.mk (Kd.R_lower ho3 (below_size Hd.b_)); replace HB := Aside0.mk (below_step Hd.b_ hb); clear hb ho3))
 go_loopg [3, 9] k (fun kq v3 v9 w' => ∃ (x3_1 : List (S60)) (x9_1 : Int), v9 = .int .i64 x9_1 ∧ Aside0 (impl_around.l0 kq l0 x3_1 l0 (l0.length : Int) x9_1 = some r) ∧ Aside0 (kq ≤ k) ∧ Aside0 (Kd.R k60 60 w' w.heap.size (fun _ => True) v3 x3_1) ∧ Aside0 (Below w.heap.size w w'))
 case atStart => exact ⟨(y122), (0), (by first | rfl | (simp; done) | (simp [*]; done)), H', ⟨Nat.le_refl _⟩, ⟨by (with_reducible repeat (first | apply Kd.R_alloc | apply Kd.R_drewN | apply Kd.R_drew)); exact HO124.out⟩, ⟨Hd.b_⟩⟩
 case round =>
  clear H'
  try clear c1
  try clear p2
  obtain ⟨x3_1, x9_1, rfl, HA, HK1, HO_3, HB⟩ := hrel
  cases gk with
  | zero => exact absurd HA.out (by simp [impl_around.l0])
  | succ k1 =>
   have H := HA.out
   clear HA
   simp only [impl_around.l0] at H
   by_cases c4 : x9_1 < (l0.length : Int)
   ·
    rw [if_pos c4] at H
    have c4b0 : decide (x9_1 < (l0.length : Int)) = true := decide_eq_true c4
    clear c4
    by_cases c5 : 0 ≤ x9_1
    ·
     rw [if_pos c5] at H
     have c5b0 : decide (0 ≤ x9_1) = true := decide_eq_true c5
     clear c5
     by_cases c6 : x9_1 < (l0.length : Int)
     ·
      rw [if_pos c6] at H
      have c6b0 : decide (x9_1 < (l0.length : Int)) = true := decide_eq_true c6
      clear c6
      by_cases c7 : (l0.length : Int) = 0
      ·
       rw [if_pos c7] at H
       exact absurd H (by simp)
      ·
       rw [if_neg c7] at H
       have c7b0 : ((l0.length : Int) == 0) = false := beq_eq_false_iff_ne.mpr c7
       have c7b1 : ((l0.length : Int) != 0) = true := bne_iff_ne.mpr c7
       have c7b2 : ¬ (l0 = []) := fun h_ => c7 (by rw [h_]; rfl)
       obtain ⟨ji8, hji8⟩ : ∃ j_ : Int, (Int.tmod (wrap64 (x9_1 + 1)) (l0.length : Int)) = j_ := ⟨_, rfl⟩
       replace H : (if 0 ≤ (ji8) then (if (ji8) < (l0.length : Int) then (if x3_1.length < 4398046511104 then (impl_around.l0 k1 l0 (x3_1 ++ [(⟨(⟨(rd_T27 l0 x9_1).f0, (rd_T27 l0 x9_1).f1⟩ : S27), (⟨(rd_T27 l0 (ji8)).f0, (rd_T27 l0 (ji8)).f1⟩ : S27)⟩ : S60)]) l0 (l0.length : Int) (wrap64 (x9_1 + 1))) else (none)) else (none)) else (none)) = some r := by first | (rw [hji8] at H; exact H) | (simp only [hji8] at H ⊢; exact H)
       by_cases c9 : 0 ≤ (ji8)
       ·
        rw [if_pos c9] at H
        have c9b0 : decide (0 ≤ (ji8)) = true := decide_eq_true c9
        clear c9
        by_cases c10 : (ji8) < (l0.length : Int)
        ·
         rw [if_pos c10] at H
         have c10b0 : decide ((ji8) < (l0.length : Int)) = true := decide_eq_true c10
         clear c10
         by_cases c11 : x3_1.length < 4398046511104
         ·
          rw [if_pos c11] at H
          have LMc11 := Aside0.mk c11
          clear c11
          obtain ⟨y128, hy128⟩ : ∃ y_ : List (S60), y_ = (x3_1 ++ [(⟨(⟨(rd_T27 l0 x9_1).f0, (rd_T27 l0 x9_1).f1⟩ : S27), (⟨(rd_T27 l0 (ji8)).f0, (rd_T27 l0 (ji8)).f1⟩ : S27)⟩ : S60)]) := ⟨_, rfl⟩
          replace H : (impl_around.l0 k1 l0 y128 l0 (l0.length : Int) (wrap64 (x9_1 + 1))) = some r := by first | (rw [hy128]; with_reducible exact H) | (have H2_ := (Option.bind_some _ _).symm.trans H; rw [hy128]; with_reducible exact H2_) | (have H2_ := (Option.bind_some _ _).symm.trans H; with_reducible exact H2_) | with_reducible exact H | (rw [hy128]; exact H) | exact H
          have Ny128 := Aside0.mk hy128
          clear hy128
          have H' := Aside0.mk H
          clear H
          have p125 : 0 ≤ (x9_1 : Int) := of_decide_eq_true Hd.a_
          have q125 : x9_1 < (l0.length : Int) := of_decide_eq_true Hd.a_
          obtain ⟨ad125, e125, hx125_0, hx125_1⟩ := at_T27 HR0.out x9_1 p125 q125
          cases e125
          replace hx125_0 := (HB.out.cell (World.block_lt_of_cell? w _ hx125_0)).trans hx125_0
          replace hx125_1 := (HB.out.cell (World.block_lt_of_cell? w _ hx125_1)).trans hx125_1
          replace p125 := eq_true p125
          replace q125 := eq_true q125
          try go_wp2_with (first | ((with_reducible refine gate_dst (N := 5) rfl ?_); refine Hd.box_ 5 (#[.int .i64 0, .int .i64 0]) 27 ?_; intro gb126 hg w12 hbox hb; replace HO_3 := Aside0.mk (Kd.R_below (Hd.r_ HO_3) hb); have BK126 := Aside0.mk (hbox); have GW126 := Aside0.mk ((Hd.g_ hg Hd.b_ : w.heap.size ≤ gb126)); have GE126 := Aside0.mk ((Hd.g_ hg Hd.b_ : w.heap.size ≤ gb126)); replace HB := Aside0.mk (below_step Hd.b_ hb); clear hb hbox hg; obtain ⟨hcz13_0, hcz13_1⟩ := Hd.c2_ BK126.out; obtain ⟨hfz13_0, hfz13_1⟩ := Hd.f2_ BK126.out))
          have n0_ : Aside0 (Kd.R k60 60 ((w12.setCell ⟨gb126, 0, none⟩ (.int .i64 ((rd_T27 l0 x9_1).f0))).setCell ⟨gb126, 1, none⟩ (.int .i64 ((rd_T27 l0 x9_1).f1))) w.heap.size (fun _ => True) u3 x3_1) := ⟨by (with_reducible repeat (first | apply Kd.R_alloc | apply Kd.R_drewN | apply Kd.R_drew)); exact Kd.R_mono (Kd.R_far (p := ⟨gb126, 1, none⟩) (Kd.R_far (p := ⟨gb126, 0, none⟩) (Kd.R_types HO_3.out BK126.out (by decide)) (fun _ hk => hk.2) (.int .i64 ((rd_T27 l0 x9_1).f0))) (fun _ hk => hk.2) (.int .i64 ((rd_T27 l0 x9_1).f1))) (fun _ hk => trivial)⟩
          have n1_ : Aside0 (((w12.setCell ⟨gb126, 0, none⟩ (.int .i64 ((rd_T27 l0 x9_1).f0))).setCell ⟨gb126, 1, none⟩ (.int .i64 ((rd_T27 l0 x9_1).f1))).heap[gb126]? = some (.cells #[.int .i64 ((rd_T27 l0 x9_1).f0), .int .i64 ((rd_T27 l0 x9_1).f1)] 27 (0, 0))) := ⟨by (with_reducible repeat (first | refine blk_drewN ?_ _ | refine blk_drew ?_ | refine blk_alloc ?_ _)); refine blk_put (cs := #[.int .i64 ((rd_T27 l0 x9_1).f0), .int .i64 0]) ?_ 1 _ rfl; (with_reducible repeat (first | refine blk_drewN ?_ _ | refine blk_drew ?_ | refine blk_alloc ?_ _)); refine blk_put (cs := #[.int .i64 0, .int .i64 0]) ?_ 0 _ rfl; (with_reducible repeat (first | refine blk_drewN ?_ _ | refine blk_drew ?_ | refine blk_alloc ?_ _)); exact BK126.out⟩
          have n2_ : Aside0 (Below w.heap.size w ((w12.setCell ⟨gb126, 0, none⟩ (.int .i64 ((rd_T27 l0 x9_1).f0))).setCell ⟨gb126, 1, none⟩ (.int .i64 ((rd_T27 l0 x9_1).f1)))) := ⟨Hd.b_⟩
          (try clear HO_3)
          (try clear BK126)
          (try clear HB)
          generalize ((w12.setCell ⟨gb126, 0, none⟩ (.int .i64 ((rd_T27 l0 x9_1).f0))).setCell ⟨gb126, 1, none⟩ (.int .i64 ((rd_T27 l0 x9_1).f1))) = w14 at n0_ n1_ n2_ ⊢
          have HO_3 := n0_
          have BK126 := n1_
          have HB := n2_
          clear n0_ n1_ n2_
          replace HO_3 := Aside0.mk (Kd.R_drew HO_3.out)
          replace BK126 := Aside0.mk (blk_drew BK126.out)
          replace HB := Aside0.mk (below_drew1 HB.out)
          have p127 : 0 ≤ ((ji8) : Int) := of_decide_eq_true Hd.a_
          have q127 : (ji8) < (l0.length : Int) := of_decide_eq_true Hd.a_
          obtain ⟨ad127, e127, hx127_0, hx127_1⟩ := at_T27 HR0.out (ji8) p127 q127
          have hw127_1 := hx127_1
          have hw127_0 := hx127_0
          obtain rfl : ad125 = ad127 := (by injection e127)
          replace hx127_0 := (HB.out.cell (World.block_lt_of_cell? w _ hx127_0)).trans hx127_0
          replace hx127_1 := (HB.out.cell (World.block_lt_of_cell? w _ hx127_1)).trans hx127_1
          replace p127 := eq_true p127
          replace q127 := eq_true q127
          refine start_ (n := 14) (S := fun w' => w'.cell? ⟨gb126, 0, none⟩ = some (.int .i64 ((rd_T27 l0 x9_1).f0)) ∧ w'.cell? ⟨gb126, 1, none⟩ = some (.int .i64 ((rd_T27 l0 x9_1).f1)) ∧ w'.cell? (ad125.add (((ji8)).toNat * 2)) = some (.int .i64 ((rd_T27 l0 (ji8)).f0)) ∧ w'.cell? ⟨(ad125.add (((ji8)).toNat * 2)).block, (ad125.add (((ji8)).toNat * 2)).off + 1, none⟩ = some (.int .i64 ((rd_T27 l0 (ji8)).f1))) (ds := []) #[false, false, false, false, false, false, false, false, false, false, false, false, false, false] (by kernel_rfl) rfl rfl ⟨(blk_cell BK126.out 0).trans rfl, (blk_cell BK126.out 1).trans rfl, ((HB.out.cell (World.block_lt_of_cell? w _ hw127_0)).trans hw127_0), ((HB.out.cell (World.block_lt_of_cell? w _ hw127_1)).trans hw127_1)⟩ (fun hHeld => ?_); refine with_tabW impl_around.tab5 impl_around.bits5 (fun HT_ HW_ => ?_)
          generalize w14.drew = w15 at HO_3 BK126 HB hx127_0 hx127_1 hHeld ⊢
          refine pure_ (i := 0) (N := some 14) (v := ?_) (a' := ?_) #[true, false, false, false, false, false, false, false, false, false, false, false, false, false] rfl rfl (any_of HT_.out (by kernel_rfl)) (fun _ _ _ h => h) (Or.inl ⟨by rfl, ?_⟩) ?_ ?_
          rotate_left
          ·
           intro w'
           go_simp
           with_reducible rfl
          rotate_left
          ·
           simp only [Act.put, List.setIfInBounds_toArray, List.set_cons_zero, List.set_cons_succ, i64_w, i32_w]
           rfl
          refine pure_ (i := 2) (N := some 16) (v := ?_) (a' := ?_) #[true, false, true, false, false, false, false, false, false, false, false, false, false, false] rfl rfl (any_of HT_.out (by kernel_rfl)) (fun _ _ _ h => h) (Or.inl ⟨by rfl, ?_⟩) ?_ ?_
          rotate_left
          ·
           intro w'
           go_simp
           with_reducible rfl
          rotate_left
          ·
           simp only [Act.put, List.setIfInBounds_toArray, List.set_cons_zero, List.set_cons_succ, i64_w, i32_w]
           rfl
          refine pure_ (i := 3) (N := some 17) (v := ?_) (a' := ?_) #[true, false, true, true, false, false, false, false, false, false, false, false, false, false] rfl rfl (any_of HT_.out (by kernel_rfl)) (fun _ _ _ h => h) (Or.inl ⟨by rfl, ?_⟩) ?_ ?_
          rotate_left
          ·
           intro w'
           go_simp
           with_reducible rfl
          rotate_left
          ·
           simp only [Act.put, List.setIfInBounds_toArray, List.set_cons_zero, List.set_cons_succ, i64_w, i32_w]
           rfl
          refine pure_ (i := 4) (N := some 18) (v := ?_) (a' := ?_) #[true, false, true, true, true, false, false, false, false, false, false, false, false, false] rfl rfl (any_of HT_.out (by kernel_rfl)) (fun _ _ _ h => h) (Or.inl ⟨by rfl, ?_⟩) ?_ ?_
          rotate_left
          ·
           intro w'
           go_simp
           with_reducible rfl
          rotate_left
          ·
           simp only [Act.put, List.setIfInBounds_toArray, List.set_cons_zero, List.set_cons_succ, i64_w, i32_w]
           rfl
          refine pure_ (i := 5) (N := some 19) (v := ?_) (a' := ?_) #[true, false, true, true, true, true, false, false, false, false, false, false, false, false] rfl rfl (any_of HT_.out (by kernel_rfl)) (fun _ _ _ h => h) (Or.inl ⟨by rfl, ?_⟩) ?_ ?_
          rotate_left
          ·
           intro w'
           go_simp
           with_reducible rfl
          rotate_left
          ·
           simp only [Act.put, List.setIfInBounds_toArray, List.set_cons_zero, List.set_cons_succ, i64_w, i32_w]
           rfl
          refine pure_ (i := 6) (N := some 20) (v := ?_) (a' := ?_) #[true, false, true, true, true, true, true, false, false, false, false, false, false, false] rfl rfl (any_of HT_.out (by kernel_rfl)) (fun _ _ _ h => h) (Or.inl ⟨by rfl, ?_⟩) ?_ ?_
          rotate_left
          ·
           intro w'
           go_simp
           with_reducible rfl
          rotate_left
          ·
           simp only [Act.put, List.setIfInBounds_toArray, List.set_cons_zero, List.set_cons_succ, i64_w, i32_w]
           rfl
          refine pure_ (i := 7) (N := some 21) (v := ?_) (a' := ?_) #[true, false, true, true, true, true, true, true, false, false, false, false, false, false] rfl rfl (any_of HT_.out (by kernel_rfl)) (fun _ _ _ h => h) (Or.inl ⟨by rfl, ?_⟩) ?_ ?_
          rotate_left
          ·
           intro w'
           go_simp
           with_reducible rfl
          rotate_left
          ·
           simp only [Act.put, List.setIfInBounds_toArray, List.set_cons_zero, List.set_cons_succ, i64_w, i32_w]
           rfl
          refine pure_ (i := 8) (N := some 22) (v := ?_) (a' := ?_) #[true, false, true, true, true, true, true, true, true, false, false, false, false, false] rfl rfl (any_of HT_.out (by kernel_rfl)) (fun _ _ _ h => h) (Or.inl ⟨by rfl, ?_⟩) ?_ ?_
          rotate_left
          ·
           intro w'
           go_simp
           with_reducible rfl
          rotate_left
          ·
           simp only [Act.put, List.setIfInBounds_toArray, List.set_cons_zero, List.set_cons_succ, i64_w, i32_w]
           rfl
          refine take_ (i := 1) (N := some 15) (v := ?_) (a' := ?_) #[true, true, true, true, true, true, true, true, true, false, false, false, false, false] rfl rfl (take_ofW HT_.out HW_.out (by kernel_rfl)) (fun _ _ _ h => h) (Or.inl ⟨by rfl, ?_⟩) hHeld ?_ ?_
          rotate_left
          ·
           rintro w' ⟨s0, s1, s2, s3⟩
           go_simp
           with_reducible rfl
          rotate_left
          ·
           simp only [Act.put, List.setIfInBounds_toArray, List.set_cons_zero, List.set_cons_succ, i64_w, i32_w]
           rfl
          refine take_ (i := 9) (N := some 23) (v := ?_) (a' := ?_) #[true, true, true, true, true, true, true, true, true, true, false, false, false, false] rfl rfl (take_ofW HT_.out HW_.out (by kernel_rfl)) (fun _ _ _ h => h) (Or.inl ⟨by rfl, ?_⟩) hHeld ?_ ?_
          rotate_left
          ·
           rintro w' ⟨s0, s1, s2, s3⟩
           go_simp
           with_reducible rfl
          rotate_left
          ·
           simp only [Act.put, List.setIfInBounds_toArray, List.set_cons_zero, List.set_cons_succ, i64_w, i32_w]
           rfl
          refine pure_ (i := 10) (N := some 24) (v := ?_) (a' := ?_) #[true, true, true, true, true, true, true, true, true, true, true, false, false, false] rfl rfl (any_of HT_.out (by kernel_rfl)) (fun _ _ _ h => h) (Or.inl ⟨by rfl, ?_⟩) ?_ ?_
          rotate_left
          ·
           intro w'
           go_simp
           with_reducible rfl
          rotate_left
          ·
           simp only [Act.put, List.setIfInBounds_toArray, List.set_cons_zero, List.set_cons_succ, i64_w, i32_w]
           rfl
          refine one_ (i := 11) (N := some 25) #[true, true, true, true, true, true, true, true, true, true, true, true, false, false] rfl rfl (one_of HT_.out (by kernel_rfl)) (by decide) (fun K hK => ?_)
          refine value_ (w1 := ?_) (v := ?_) (by rfl) rfl ?_ ?_
          rotate_left 2
          ·
           go_simp
           constructor
           ·
            rfl
           ·
            rfl
          refine hK.out _ _ ⟨(blk_cell (blk_alloc BK126.out _) 0).trans rfl, (blk_cell (blk_alloc BK126.out _) 1).trans rfl, (World.cell?_alloc_lt _ _ _ (World.block_lt_of_cell? _ _ (((HB.out.cell (World.block_lt_of_cell? w _ hw127_0)).trans hw127_0)))).trans (((HB.out.cell (World.block_lt_of_cell? w _ hw127_0)).trans hw127_0)), (World.cell?_alloc_lt _ _ _ (World.block_lt_of_cell? _ _ (((HB.out.cell (World.block_lt_of_cell? w _ hw127_1)).trans hw127_1)))).trans (((HB.out.cell (World.block_lt_of_cell? w _ hw127_1)).trans hw127_1))⟩ (fun hHeld => ?_)
          clear hK K
          refine norm_ (a' := ?_) ?_ ?_
          rotate_left
          ·
           show Act.put _ (some 25) _ = _
           simp only [Act.put, List.setIfInBounds_toArray, List.set_cons_zero, List.set_cons_succ, i64_w, i32_w]
           rfl
          refine one_ (i := 12) (N := some 26) #[true, true, true, true, true, true, true, true, true, true, true, true, true, false] rfl rfl (one_of HT_.out (by kernel_rfl)) (by decide) (fun K hK => ?_)
          refine Kd.R_append_step k60 (w0 := w) w.heap.size (by rfl) (.tmp 14) (.tmp 25) 75 60 (.agg #[(.int .i64 0), (.int .i64 0), (.int .i64 0), (.int .i64 0)]) 32 rfl Try.underlying75 info60 rfl (by decide) (by omega) u3 x3_1 (⟨(⟨(rd_T27 l0 x9_1).f0, (rd_T27 l0 x9_1).f1⟩ : S27), (⟨(rd_T27 l0 (ji8)).f0, (rd_T27 l0 (ji8)).f1⟩ : S27)⟩ : S60) [.int .i64 ((rd_T27 l0 x9_1).f0), .int .i64 ((rd_T27 l0 x9_1).f1), .int .i64 ((rd_T27 l0 (ji8)).f0), .int .i64 ((rd_T27 l0 (ji8)).f1)] (fun _ => True) (fun _ => False) rfl rfl ?aP (fun _ hk => hk.elim) ?aF ?aO ?aB ?aS ?aL ?_
          (case aP => exact k60_mkM _ _ _ (⟨(⟨(rd_T27 l0 x9_1).f0, (rd_T27 l0 x9_1).f1⟩ : S27), (⟨(rd_T27 l0 (ji8)).f0, (rd_T27 l0 (ji8)).f1⟩ : S27)⟩ : S60))
          (case aB => exact Hd.b_)
          (case aF => exact (fun _ _ => trivial))
          (case aO => exact (Hd.r_ HO_3))
          (case aS => exact (below_size Hd.b_))
          (case aL => have := LMc11.out; omega)
          intro v129 w16 ho hb hg hat
          rw [← Ny128.out] at ho
          have n0_ := Aside0.mk (blk_grown (g := gb126) (o := .cells #[.int .i64 ((rd_T27 l0 x9_1).f0), .int .i64 ((rd_T27 l0 x9_1).f1)] 27 (0, 0)) (Hd.k_ BK126) hg (Kd.R_ne HO_3.out BK126.out (by decide)))
          have n1_ := Aside0.mk (hb)
          have n2_ := Aside0.mk (ho)
          clear BK126
          clear HB
          clear HO_3
          have BK126 := n0_
          have HB := n1_
          have HO130 := n2_
          clear n0_ n1_ n2_
          clear ho hb hg hat
          refine hK.out _ _ ⟨(blk_cell BK126.out 0).trans rfl, (blk_cell BK126.out 1).trans rfl, ((HB.out.cell (World.block_lt_of_cell? w _ hw127_0)).trans hw127_0), ((HB.out.cell (World.block_lt_of_cell? w _ hw127_1)).trans hw127_1)⟩ (fun hHeld => ?_)
          clear hK K
          refine norm_ (a' := ?_) ?_ ?_
          rotate_left
          ·
           show Act.put _ (some 26) _ = _
           simp only [Act.put, List.setIfInBounds_toArray, List.set_cons_zero, List.set_cons_succ, i64_w, i32_w]
           rfl
          refine pure_ (i := 13) (N := some 3) (v := ?_) (a' := ?_) #[true, true, true, true, true, true, true, true, true, true, true, true, true, true] rfl rfl (any_of HT_.out (by kernel_rfl)) (fun _ _ _ h => h) (Or.inl ⟨by rfl, ?_⟩) ?_ ?_
          rotate_left
          ·
           intro w'
           go_simp
           with_reducible rfl
          rotate_left
          ·
           simp only [Act.put, List.setIfInBounds_toArray, List.set_cons_zero, List.set_cons_succ, i64_w, i32_w]
           rfl
          refine done_ (done_of HT_.out (by kernel_rfl)) ?_
          try go_wp2
          go_roundg k1
          case measure => have := HK1.out; omega
          case rel => exact ⟨(y128), (wrap64 (x9_1 + 1)), (by first | rfl | (simp; done) | (simp [*]; done)), H', ⟨by have := HK1.out; omega⟩, ⟨by (with_reducible repeat (first | apply Kd.R_alloc | apply Kd.R_drewN | apply Kd.R_drew)); exact HO130.out⟩, ⟨Hd.b_⟩⟩
         ·
          rw [if_neg c11] at H
          exact absurd H (by simp)
        ·
         rw [if_neg c10] at H
         exact absurd H (by simp)
       ·
        rw [if_neg c9] at H
        exact absurd H (by simp)
     ·
      rw [if_neg c6] at H
      exact absurd H (by simp)
    ·
     rw [if_neg c5] at H
     exact absurd H (by simp)
   ·
    rw [if_neg c4] at H
    have c4b0 : decide (x9_1 < (l0.length : Int)) = false := decide_eq_false c4
    clear c4
    obtain rfl := Option.some.inj H
    go_wp2
    go_ret
    exact ⟨_, Hd.e_, by (with_reducible repeat (first | apply Kd.R_alloc | apply Kd.R_drewN | apply Kd.R_drew)); exact HO_3.out, Hd.b_⟩

/-! ### impl_cross: function 126 -/
def impl_cross.f (a0_0 : Int) (a0_1 : Int) (a1_0 : Int) (a1_1 : Int) (a2_0 : Int) (a2_1 : Int) : Option (Int) := some (wrap64 ((wrap64 ((wrap64 (a1_0 - a0_0)) * (wrap64 (a2_1 - a0_1)))) - (wrap64 ((wrap64 (a1_1 - a0_1)) * (wrap64 (a2_0 - a0_0))))))
set_option maxHeartbeats 8000000 in
set_option maxRecDepth 100000 in
theorem impl_cross.calls (a0_0 : Int) (a0_1 : Int) (a1_0 : Int) (a1_1 : Int) (a2_0 : Int) (a2_1 : Int) (r : Int) (w : World) (h : impl_cross.f a0_0 a0_1 a1_0 a1_1 a2_0 a2_1 = some r) :
  Calls Try.prog 126 #[.agg #[.int .i64 a0_0, .int .i64 a0_1], .agg #[.int .i64 a1_0, .int .i64 a1_1], .agg #[.int .i64 a2_0, .int .i64 a2_1]] w fun e w' => e = .returned (.int .i64 r) ∧ Below w.heap.size w w' := by
 have hu27 := Try.underlying27
 have HB := Aside0.mk (Below.refl w.heap.size w)
 have H : (some (wrap64 ((wrap64 ((wrap64 (a1_0 - a0_0)) * (wrap64 (a2_1 - a0_1)))) - (wrap64 ((wrap64 (a1_1 - a0_1)) * (wrap64 (a2_0 - a0_0))))))) = some r := h
 clear h
 obtain rfl := Option.some.inj H
 go_enter Try.func126, Try.ntmps126
 go_wp2_with (first | ((with_reducible refine gate_dst (N := 3) rfl ?_); refine Hd.box_ 3 (#[.int .i64 a0_0, .int .i64 a0_1]) 27 ?_; intro gb131 hg w4 hbox hb; have BK131 := Aside0.mk (hbox); have GW131 := Aside0.mk ((Hd.g_ hg Hd.b_ : w.heap.size ≤ gb131)); have GE131 := Aside0.mk ((Hd.g_ hg Hd.b_ : w.heap.size ≤ gb131)); replace HB := Aside0.mk (below_step Hd.b_ hb); clear hb hbox hg) | ((with_reducible refine gate_dst (N := 4) rfl ?_); refine Hd.box_ 4 (#[.int .i64 a1_0, .int .i64 a1_1]) 27 ?_; intro gb132 hg w5 hbox hb; have BK132 := Aside0.mk (hbox); have GW132 := Aside0.mk ((Hd.g_ hg Hd.b_ : w.heap.size ≤ gb132)); have GE132 := Aside0.mk ((Hd.g_ hg Hd.b_ : w.heap.size ≤ gb132)); replace HB := Aside0.mk (below_step Hd.b_ hb); have NB131_132 := Aside0.mk ((Hd.lt_ BK131 hg)); have NB132_131 := Aside0.mk ((Hd.gt_ BK131 hg)); replace BK131 := Aside0.mk (Hd.kb_ BK131 hb); clear hb hbox hg) | ((with_reducible refine gate_dst (N := 5) rfl ?_); refine Hd.box_ 5 (#[.int .i64 a2_0, .int .i64 a2_1]) 27 ?_; intro gb133 hg w6 hbox hb; have BK133 := Aside0.mk (hbox); have GW133 := Aside0.mk ((Hd.g_ hg Hd.b_ : w.heap.size ≤ gb133)); have GE133 := Aside0.mk ((Hd.g_ hg Hd.b_ : w.heap.size ≤ gb133)); replace HB := Aside0.mk (below_step Hd.b_ hb); have NB131_133 := Aside0.mk ((Hd.lt_ BK131 hg)); have NB133_131 := Aside0.mk ((Hd.gt_ BK131 hg)); replace BK131 := Aside0.mk (Hd.kb_ BK131 hb); have NB132_133 := Aside0.mk ((Hd.lt_ BK132 hg)); have NB133_132 := Aside0.mk ((Hd.gt_ BK132 hg)); replace BK132 := Aside0.mk (Hd.kb_ BK132 hb); clear hb hbox hg; have hnb7 := NB132_131.out; have hnc7 := NB131_132.out; have hnb8 := NB132_133.out; have hnc8 := NB133_132.out; obtain ⟨hcz9_0, hcz9_1⟩ := Hd.c2_ BK132.out; obtain ⟨hfz9_0, hfz9_1⟩ := Hd.f2_ BK132.out; have hnb10 := NB131_133.out; have hnc10 := NB133_131.out; obtain ⟨hcz11_0, hcz11_1⟩ := Hd.c2_ BK131.out; obtain ⟨hfz11_0, hfz11_1⟩ := Hd.f2_ BK131.out; obtain ⟨hcz12_0, hcz12_1⟩ := Hd.c2_ BK133.out; obtain ⟨hfz12_0, hfz12_1⟩ := Hd.f2_ BK133.out))
 go_ret
 exact ⟨Hd.e_, Hd.b_⟩

/-! ### cmp_isNaN_int: function 140 -/
def cmp_isNaN_int.f (a0 : Int) : Option (Bool) := some (a0 != a0)
set_option maxHeartbeats 8000000 in
set_option maxRecDepth 100000 in
theorem cmp_isNaN_int.calls (a0 : Int) (r : Bool) (w : World) (h : cmp_isNaN_int.f a0 = some r) :
  Calls Try.prog 140 #[.int .i64 a0] w fun e w' => e = .returned (.bool r) ∧ Drawn0 w w' := by
 have H : (some (a0 != a0)) = some r := h
 clear h
 obtain rfl := Option.some.inj H
 go_enter Try.func140, Try.ntmps140
 go_wp2
 go_ret
 exact ⟨by first | rfl | (simp; done) | (simp [*]; done), by repeat (first | exact Drawn0.refl _ | apply Drawn0.step)⟩

/-! ### cmp_Compare_int: function 133 -/
def cmp_Compare_int.f (a0 : Int) (a1 : Int) : Option (Int) := (cmp_isNaN_int.f a0).bind fun t134 => ((cmp_isNaN_int.f a1).bind fun t135 => (if t134 = true then (if t135 = true then (some 0) else (some (-1))) else (if t135 = true then (some 1) else (if a0 < a1 then (some (-1)) else (if a0 > a1 then (some 1) else (some 0))))))
set_option maxHeartbeats 8000000 in
set_option maxRecDepth 100000 in
theorem cmp_Compare_int.calls (a0 : Int) (a1 : Int) (r : Int) (w : World) (h : cmp_Compare_int.f a0 a1 = some r) :
  Calls Try.prog 133 #[.int .i64 a0, .int .i64 a1] w fun e w' => e = .returned (.int .i64 r) ∧ Drawn0 w w' := by
 have H : ((cmp_isNaN_int.f a0).bind fun t134 => ((cmp_isNaN_int.f a1).bind fun t135 => (if t134 = true then (if t135 = true then (some 0) else (some (-1))) else (if t135 = true then (some 1) else (if a0 < a1 then (some (-1)) else (if a0 > a1 then (some 1) else (some 0))))))) = some r := h
 clear h
 replace H := Option.bind_eq_some_iff.mp H
 obtain ⟨t134, A30, H⟩ := H
 replace H : ((cmp_isNaN_int.f a1).bind fun t135 => (if t134 = true then (if t135 = true then (some 0) else (some (-1))) else (if t135 = true then (some 1) else (if a0 < a1 then (some (-1)) else (if a0 > a1 then (some 1) else (some 0)))))) = some r := H
 have A3 := Aside0.mk A30
 clear A30
 replace H := Option.bind_eq_some_iff.mp H
 obtain ⟨t135, A40, H⟩ := H
 replace H : (if t134 = true then (if t135 = true then (some 0) else (some (-1))) else (if t135 = true then (some 1) else (if a0 < a1 then (some (-1)) else (if a0 > a1 then (some 1) else (some 0))))) = some r := H
 have A4 := Aside0.mk A40
 clear A40
 by_cases c5 : t134 = true
 ·
  subst c5
  have H1 : (if t135 = true then (some 0) else (some (-1))) = some r := by rw [if_pos rfl] at H; exact H
  clear H
  have H := H1
  clear H1
  by_cases c6 : t135 = true
  ·
   subst c6
   have H1 : (some 0) = some r := by rw [if_pos rfl] at H; exact H
   clear H
   have H := H1
   clear H1
   obtain rfl := Option.some.inj H
   go_enter Try.func133, Try.ntmps133
   go_wp2_with (first | ((with_reducible refine gate_callee (f := 140) rfl ?_); refine goesL_ (some 8) rfl rfl Try.func140 (by kernel_rfl) rfl #[.int .i64 a0] rfl Hd.m_ ?_; (with_reducible refine (cmp_isNaN_int.calls a0 true _ A3.out).mono ?_); rintro e w' ⟨rfl, ⟨nd, rfl⟩⟩; refine ⟨_, rfl, ?_⟩) | ((with_reducible refine gate_callee (f := 140) rfl ?_); refine goesL_ (some 10) rfl rfl Try.func140 (by kernel_rfl) rfl #[.int .i64 a1] rfl Hd.m_ ?_; (with_reducible refine (cmp_isNaN_int.calls a1 true _ A4.out).mono ?_); rintro e w' ⟨rfl, ⟨nd, rfl⟩⟩; refine ⟨_, rfl, ?_⟩))
   go_ret
   exact ⟨by first | rfl | (simp; done) | (simp [*]; done), by repeat (first | exact Drawn0.refl _ | apply Drawn0.step)⟩
  ·
   replace c6 := Bool.eq_false_iff.mpr c6
   subst c6
   have H1 : (some (-1)) = some r := by rw [if_neg (show ¬ (false = true) by decide)] at H; exact H
   clear H
   have H := H1
   clear H1
   obtain rfl := Option.some.inj H
   go_enter Try.func133, Try.ntmps133
   go_wp2_with (first | ((with_reducible refine gate_callee (f := 140) rfl ?_); refine goesL_ (some 8) rfl rfl Try.func140 (by kernel_rfl) rfl #[.int .i64 a0] rfl Hd.m_ ?_; (with_reducible refine (cmp_isNaN_int.calls a0 true _ A3.out).mono ?_); rintro e w' ⟨rfl, ⟨nd, rfl⟩⟩; refine ⟨_, rfl, ?_⟩) | ((with_reducible refine gate_callee (f := 140) rfl ?_); refine goesL_ (some 10) rfl rfl Try.func140 (by kernel_rfl) rfl #[.int .i64 a1] rfl Hd.m_ ?_; (with_reducible refine (cmp_isNaN_int.calls a1 false _ A4.out).mono ?_); rintro e w' ⟨rfl, ⟨nd, rfl⟩⟩; refine ⟨_, rfl, ?_⟩))
   go_ret
   exact ⟨by first | rfl | (simp; done) | (simp [*]; done), by repeat (first | exact Drawn0.refl _ | apply Drawn0.step)⟩
 ·
  replace c5 := Bool.eq_false_iff.mpr c5
  subst c5
  have H1 : (if t135 = true then (some 1) else (if a0 < a1 then (some (-1)) else (if a0 > a1 then (some 1) else (some 0)))) = some r := by rw [if_neg (show ¬ (false = true) by decide)] at H; exact H
  clear H
  have H := H1
  clear H1
  by_cases c7 : t135 = true
  ·
   subst c7
   have H1 : (some 1) = some r := by rw [if_pos rfl] at H; exact H
   clear H
   have H := H1
   clear H1
   obtain rfl := Option.some.inj H
   go_enter Try.func133, Try.ntmps133
   go_wp2_with (first | ((with_reducible refine gate_callee (f := 140) rfl ?_); refine goesL_ (some 8) rfl rfl Try.func140 (by kernel_rfl) rfl #[.int .i64 a0] rfl Hd.m_ ?_; (with_reducible refine (cmp_isNaN_int.calls a0 false _ A3.out).mono ?_); rintro e w' ⟨rfl, ⟨nd, rfl⟩⟩; refine ⟨_, rfl, ?_⟩) | ((with_reducible refine gate_callee (f := 140) rfl ?_); refine goesL_ (some 10) rfl rfl Try.func140 (by kernel_rfl) rfl #[.int .i64 a1] rfl Hd.m_ ?_; (with_reducible refine (cmp_isNaN_int.calls a1 true _ A4.out).mono ?_); rintro e w' ⟨rfl, ⟨nd, rfl⟩⟩; refine ⟨_, rfl, ?_⟩))
   go_ret
   exact ⟨by first | rfl | (simp; done) | (simp [*]; done), by repeat (first | exact Drawn0.refl _ | apply Drawn0.step)⟩
  ·
   replace c7 := Bool.eq_false_iff.mpr c7
   subst c7
   have H1 : (if a0 < a1 then (some (-1)) else (if a0 > a1 then (some 1) else (some 0))) = some r := by rw [if_neg (show ¬ (false = true) by decide)] at H; exact H
   clear H
   have H := H1
   clear H1
   by_cases c8 : a0 < a1
   ·
    rw [if_pos c8] at H
    have c8b0 : decide (a0 < a1) = true := decide_eq_true c8
    clear c8
    obtain rfl := Option.some.inj H
    go_enter Try.func133, Try.ntmps133
    go_wp2_with (first | ((with_reducible refine gate_callee (f := 140) rfl ?_); refine goesL_ (some 8) rfl rfl Try.func140 (by kernel_rfl) rfl #[.int .i64 a0] rfl Hd.m_ ?_; (with_reducible refine (cmp_isNaN_int.calls a0 false _ A3.out).mono ?_); rintro e w' ⟨rfl, ⟨nd, rfl⟩⟩; refine ⟨_, rfl, ?_⟩) | ((with_reducible refine gate_callee (f := 140) rfl ?_); refine goesL_ (some 10) rfl rfl Try.func140 (by kernel_rfl) rfl #[.int .i64 a1] rfl Hd.m_ ?_; (with_reducible refine (cmp_isNaN_int.calls a1 false _ A4.out).mono ?_); rintro e w' ⟨rfl, ⟨nd, rfl⟩⟩; refine ⟨_, rfl, ?_⟩))
    go_ret
    exact ⟨by first | rfl | (simp; done) | (simp [*]; done), by repeat (first | exact Drawn0.refl _ | apply Drawn0.step)⟩
   ·
    rw [if_neg c8] at H
    have c8b0 : decide (a0 < a1) = false := decide_eq_false c8
    clear c8
    by_cases c9 : a0 > a1
    ·
     rw [if_pos c9] at H
     have c9b0 : decide (a1 < a0) = true := decide_eq_true c9
     clear c9
     obtain rfl := Option.some.inj H
     go_enter Try.func133, Try.ntmps133
     go_wp2_with (first | ((with_reducible refine gate_callee (f := 140) rfl ?_); refine goesL_ (some 8) rfl rfl Try.func140 (by kernel_rfl) rfl #[.int .i64 a0] rfl Hd.m_ ?_; (with_reducible refine (cmp_isNaN_int.calls a0 false _ A3.out).mono ?_); rintro e w' ⟨rfl, ⟨nd, rfl⟩⟩; refine ⟨_, rfl, ?_⟩) | ((with_reducible refine gate_callee (f := 140) rfl ?_); refine goesL_ (some 10) rfl rfl Try.func140 (by kernel_rfl) rfl #[.int .i64 a1] rfl Hd.m_ ?_; (with_reducible refine (cmp_isNaN_int.calls a1 false _ A4.out).mono ?_); rintro e w' ⟨rfl, ⟨nd, rfl⟩⟩; refine ⟨_, rfl, ?_⟩))
     go_ret
     exact ⟨by first | rfl | (simp; done) | (simp [*]; done), by repeat (first | exact Drawn0.refl _ | apply Drawn0.step)⟩
    ·
     rw [if_neg c9] at H
     have c9b0 : decide (a1 < a0) = false := decide_eq_false c9
     clear c9
     obtain rfl := Option.some.inj H
     go_enter Try.func133, Try.ntmps133
     go_wp2_with (first | ((with_reducible refine gate_callee (f := 140) rfl ?_); refine goesL_ (some 8) rfl rfl Try.func140 (by kernel_rfl) rfl #[.int .i64 a0] rfl Hd.m_ ?_; (with_reducible refine (cmp_isNaN_int.calls a0 false _ A3.out).mono ?_); rintro e w' ⟨rfl, ⟨nd, rfl⟩⟩; refine ⟨_, rfl, ?_⟩) | ((with_reducible refine gate_callee (f := 140) rfl ?_); refine goesL_ (some 10) rfl rfl Try.func140 (by kernel_rfl) rfl #[.int .i64 a1] rfl Hd.m_ ?_; (with_reducible refine (cmp_isNaN_int.calls a1 false _ A4.out).mono ?_); rintro e w' ⟨rfl, ⟨nd, rfl⟩⟩; refine ⟨_, rfl, ?_⟩))
     go_ret
     exact ⟨by first | rfl | (simp; done) | (simp [*]; done), by repeat (first | exact Drawn0.refl _ | apply Drawn0.step)⟩

/-! ### impl_SideOf: function 110 -/
def impl_SideOf.j0 : Nat → Bool → Int → Int → Int → Int → Int → Int → Option (Int)
 | 0, _, _, _, _, _, _, _ => none
 | k + 1, x19, x137000, x137001, x138000, x138001, x139000, x139001 => if x19 = true then (some 0) else ((impl_cross.f x137000 x137001 x138000 x138001 x139000 x139001).bind fun t142 => ((cmp_Compare_int.f t142 0).bind fun t143 => (some t143)))
def impl_SideOf.f (k : Nat) (a0_0 : Int) (a0_1 : Int) (a1_0 : Int) (a1_1 : Int) (a2_0 : Int) (a2_1 : Int) : Option (Int) := (impl_IsPoint.f a0_0 a0_1).bind fun t139 => (if t139 = true then ((impl_IsPoint.f a1_0 a1_1).bind fun t140 => (if t140 = true then ((impl_IsPoint.f a2_0 a2_1).bind fun t141 => (impl_SideOf.j0 k (!t141) a0_0 a0_1 a1_0 a1_1 a2_0 a2_1)) else (impl_SideOf.j0 k true a0_0 a0_1 a1_0 a1_1 a2_0 a2_1))) else (impl_SideOf.j0 k true a0_0 a0_1 a1_0 a1_1 a2_0 a2_1))
theorem impl_SideOf.mono_l : ∀ k, (∀ y0 y1 y2 y3 y4 y5 y6, LeO (impl_SideOf.j0 k y0 y1 y2 y3 y4 y5 y6) (impl_SideOf.j0 (k + 1) y0 y1 y2 y3 y4 y5 y6))
 | 0 => fun _ _ _ _ _ _ _ r h => by simp [impl_SideOf.j0] at h
 | k + 1 => by
  have ih0 := impl_SideOf.mono_l k
  ·
   intro y0 y1 y2 y3 y4 y5 y6
   unfold impl_SideOf.j0
   repeat' first
   | (with_reducible exact ih0 _ _ _ _ _ _ _)
   | (with_reducible exact LeO.refl _)
   | (with_reducible exact LeO.none _)
   | (with_reducible refine LeO.ite ?_ ?_)
   | (with_reducible refine LeO.bind ?_ (fun _ => ?_))
   | exact ih0 _ _ _ _ _ _ _
   | exact LeO.none _
   | refine LeO.ite ?_ ?_
   | refine LeO.bind ?_ (fun _ => ?_)
theorem impl_SideOf.mono : ∀ a0 a1 a2 a3 a4 a5 k, LeO (impl_SideOf.f k a0 a1 a2 a3 a4 a5) (impl_SideOf.f (k + 1) a0 a1 a2 a3 a4 a5) := by
 intro a0 a1 a2 a3 a4 a5 k
 have ih0 := impl_SideOf.mono_l k
 unfold impl_SideOf.f
 repeat' first
   | (with_reducible exact ih0 _ _ _ _ _ _ _)
   | (with_reducible exact LeO.refl _)
   | (with_reducible exact LeO.none _)
   | (with_reducible refine LeO.ite ?_ ?_)
   | (with_reducible refine LeO.bind ?_ (fun _ => ?_))
   | exact ih0 _ _ _ _ _ _ _
   | exact LeO.none _
   | refine LeO.ite ?_ ?_
   | refine LeO.bind ?_ (fun _ => ?_)
set_option maxHeartbeats 8000000 in
set_option maxRecDepth 100000 in
theorem impl_SideOf.calls (k : Nat) (a0_0 : Int) (a0_1 : Int) (a1_0 : Int) (a1_1 : Int) (a2_0 : Int) (a2_1 : Int) (r : Int) (w : World) (h : impl_SideOf.f k a0_0 a0_1 a1_0 a1_1 a2_0 a2_1 = some r) :
  Calls Try.prog 110 #[.agg #[.int .i64 a0_0, .int .i64 a0_1], .agg #[.int .i64 a1_0, .int .i64 a1_1], .agg #[.int .i64 a2_0, .int .i64 a2_1]] w fun e w' => e = .returned (.int .i64 r) ∧ Below w.heap.size w w' := by
 have hu27 := Try.underlying27
 have HB := Aside0.mk (Below.refl w.heap.size w)
 have H : ((impl_IsPoint.f a0_0 a0_1).bind fun t139 => (if t139 = true then ((impl_IsPoint.f a1_0 a1_1).bind fun t140 => (if t140 = true then ((impl_IsPoint.f a2_0 a2_1).bind fun t141 => (impl_SideOf.j0 k (!t141) a0_0 a0_1 a1_0 a1_1 a2_0 a2_1)) else (impl_SideOf.j0 k true a0_0 a0_1 a1_0 a1_1 a2_0 a2_1))) else (impl_SideOf.j0 k true a0_0 a0_1 a1_0 a1_1 a2_0 a2_1))) = some r := h
 clear h
 have HC4 := Aside0.mk H
 clear H
 go_enter Try.func110, Try.ntmps110
 go_upto_region 1 with (first | ((with_reducible refine gate_dst (N := 3) rfl ?_); refine Hd.box_ 3 (#[.int .i64 a0_0, .int .i64 a0_1]) 27 ?_; intro gb136 hg w5 hbox hb; have BK136 := Aside0.mk (hbox); have GW136 := Aside0.mk ((Hd.g_ hg Hd.b_ : w.heap.size ≤ gb136)); have GE136 := Aside0.mk ((Hd.g_ hg Hd.b_ : w.heap.size ≤ gb136)); replace HB := Aside0.mk (below_step Hd.b_ hb); clear hb hbox hg) | ((with_reducible refine gate_dst (N := 4) rfl ?_); refine Hd.box_ 4 (#[.int .i64 a1_0, .int .i64 a1_1]) 27 ?_; intro gb137 hg w6 hbox hb; have BK137 := Aside0.mk (hbox); have GW137 := Aside0.mk ((Hd.g_ hg Hd.b_ : w.heap.size ≤ gb137)); have GE137 := Aside0.mk ((Hd.g_ hg Hd.b_ : w.heap.size ≤ gb137)); replace HB := Aside0.mk (below_step Hd.b_ hb); have NB136_137 := Aside0.mk ((Hd.lt_ BK136 hg)); have NB137_136 := Aside0.mk ((Hd.gt_ BK136 hg)); replace BK136 := Aside0.mk (Hd.kb_ BK136 hb); clear hb hbox hg) | ((with_reducible refine gate_dst (N := 5) rfl ?_); refine Hd.box_ 5 (#[.int .i64 a2_0, .int .i64 a2_1]) 27 ?_; intro gb138 hg w7 hbox hb; have BK138 := Aside0.mk (hbox); have GW138 := Aside0.mk ((Hd.g_ hg Hd.b_ : w.heap.size ≤ gb138)); have GE138 := Aside0.mk ((Hd.g_ hg Hd.b_ : w.heap.size ≤ gb138)); replace HB := Aside0.mk (below_step Hd.b_ hb); have NB136_138 := Aside0.mk ((Hd.lt_ BK136 hg)); have NB138_136 := Aside0.mk ((Hd.gt_ BK136 hg)); replace BK136 := Aside0.mk (Hd.kb_ BK136 hb); have NB137_138 := Aside0.mk ((Hd.lt_ BK137 hg)); have NB138_137 := Aside0.mk ((Hd.gt_ BK137 hg)); replace BK137 := Aside0.mk (Hd.kb_ BK137 hb); clear hb hbox hg))
 (try simp only [Act.put, List.setIfInBounds_toArray, List.set_cons_zero, List.set_cons_succ])
 go_cut [19] (fun v19 wc => ∃ (kq : Nat) (x19_3 : Bool), v19 = .bool x19_3 ∧ Aside0 (impl_SideOf.j0 kq x19_3 a0_0 a0_1 a1_0 a1_1 a2_0 a2_1 = some r) ∧ Aside0 (kq ≤ k) ∧ Aside0 (wc.heap[gb136]? = some (.cells #[.int .i64 a0_0, .int .i64 a0_1] 27 (0, 0))) ∧ Aside0 (wc.heap[gb137]? = some (.cells #[.int .i64 a1_0, .int .i64 a1_1] 27 (0, 0))) ∧ Aside0 (wc.heap[gb138]? = some (.cells #[.int .i64 a2_0, .int .i64 a2_1] 27 (0, 0))) ∧ Aside0 (Below w.heap.size w wc))
 case first =>
  have H := HC4.out
  clear HC4
  replace H := Option.bind_eq_some_iff.mp H
  obtain ⟨t139, A80, H⟩ := H
  replace H : (if t139 = true then ((impl_IsPoint.f a1_0 a1_1).bind fun t140 => (if t140 = true then ((impl_IsPoint.f a2_0 a2_1).bind fun t141 => (impl_SideOf.j0 k (!t141) a0_0 a0_1 a1_0 a1_1 a2_0 a2_1)) else (impl_SideOf.j0 k true a0_0 a0_1 a1_0 a1_1 a2_0 a2_1))) else (impl_SideOf.j0 k true a0_0 a0_1 a1_0 a1_1 a2_0 a2_1)) = some r := H
  have A8 := Aside0.mk A80
  clear A80
  by_cases c9 : t139 = true
  ·
   subst c9
   have H1 : ((impl_IsPoint.f a1_0 a1_1).bind fun t140 => (if t140 = true then ((impl_IsPoint.f a2_0 a2_1).bind fun t141 => (impl_SideOf.j0 k (!t141) a0_0 a0_1 a1_0 a1_1 a2_0 a2_1)) else (impl_SideOf.j0 k true a0_0 a0_1 a1_0 a1_1 a2_0 a2_1))) = some r := by rw [if_pos rfl] at H; exact H
   clear H
   have H := H1
   clear H1
   replace H := Option.bind_eq_some_iff.mp H
   obtain ⟨t140, A100, H⟩ := H
   replace H : (if t140 = true then ((impl_IsPoint.f a2_0 a2_1).bind fun t141 => (impl_SideOf.j0 k (!t141) a0_0 a0_1 a1_0 a1_1 a2_0 a2_1)) else (impl_SideOf.j0 k true a0_0 a0_1 a1_0 a1_1 a2_0 a2_1)) = some r := H
   have A10 := Aside0.mk A100
   clear A100
   by_cases c11 : t140 = true
   ·
    subst c11
    have H1 : ((impl_IsPoint.f a2_0 a2_1).bind fun t141 => (impl_SideOf.j0 k (!t141) a0_0 a0_1 a1_0 a1_1 a2_0 a2_1)) = some r := by rw [if_pos rfl] at H; exact H
    clear H
    have H := H1
    clear H1
    replace H := Option.bind_eq_some_iff.mp H
    obtain ⟨t141, A120, H⟩ := H
    replace H : (impl_SideOf.j0 k (!t141) a0_0 a0_1 a1_0 a1_1 a2_0 a2_1) = some r := H
    have A12 := Aside0.mk A120
    clear A120
    have H' := Aside0.mk H
    clear H
    have hnb13 := NB136_137.out
    have hnc13 := NB137_136.out
    have hnb14 := NB136_138.out
    have hnc14 := NB138_136.out
    obtain ⟨hcz15_0, hcz15_1⟩ := Hd.c2_ BK136.out
    obtain ⟨hfz15_0, hfz15_1⟩ := Hd.f2_ BK136.out
    go_wp2_with (first | ((with_reducible refine gate_callee (f := 63) rfl ?_); refine goesL_ (some 8) rfl rfl Try.func63 (by kernel_rfl) rfl #[.agg #[.int .i64 a0_0, .int .i64 a0_1]] rfl Hd.m_ ?_; (with_reducible refine (impl_IsPoint.calls a0_0 a0_1 true _ A8.out).mono ?_); rintro e w16 ⟨rfl, hb⟩; refine ⟨_, rfl, ?_⟩; replace BK136 := Aside0.mk (Hd.kb_ BK136 hb); replace BK137 := Aside0.mk (Hd.kb_ BK137 hb); replace BK138 := Aside0.mk (Hd.kb_ BK138 hb); replace HB := Aside0.mk (below_step Hd.b_ hb); (try clear hb); (try clear hb2); (try clear hk); (try clear hi); have hnb17 := NB137_138.out; have hnc17 := NB138_137.out; obtain ⟨hcz18_0, hcz18_1⟩ := Hd.c2_ BK137.out; obtain ⟨hfz18_0, hfz18_1⟩ := Hd.f2_ BK137.out) | (go_at_call 63; (with_reducible refine (impl_IsPoint.calls a1_0 a1_1 true _ A10.out).mono ?_); rintro e w19 ⟨rfl, hb⟩; replace BK136 := Aside0.mk (Hd.kb_ BK136 hb); replace BK137 := Aside0.mk (Hd.kb_ BK137 hb); replace BK138 := Aside0.mk (Hd.kb_ BK138 hb); replace HB := Aside0.mk (below_step Hd.b_ hb); (try clear hb); (try clear hb2); (try clear hk); (try clear hi); obtain ⟨hcz20_0, hcz20_1⟩ := Hd.c2_ BK138.out; obtain ⟨hfz20_0, hfz20_1⟩ := Hd.f2_ BK138.out) | (go_at_call 63; (with_reducible refine (impl_IsPoint.calls a2_0 a2_1 t141 _ A12.out).mono ?_); rintro e w21 ⟨rfl, hb⟩; replace BK136 := Aside0.mk (Hd.kb_ BK136 hb); replace BK137 := Aside0.mk (Hd.kb_ BK137 hb); replace BK138 := Aside0.mk (Hd.kb_ BK138 hb); replace HB := Aside0.mk (below_step Hd.b_ hb); (try clear hb); (try clear hb2); (try clear hk); (try clear hi)))
    go_meet
    case rel => exact ⟨_, (!t141), (by first | rfl | (simp; done) | (simp [*]; done)), H', ⟨by first | omega | exact Nat.le_refl _⟩, ⟨by (with_reducible repeat (first | refine blk_drewN ?_ _ | refine blk_drew ?_ | refine blk_alloc ?_ _)); exact BK136.out⟩, ⟨by (with_reducible repeat (first | refine blk_drewN ?_ _ | refine blk_drew ?_ | refine blk_alloc ?_ _)); exact BK137.out⟩, ⟨by (with_reducible repeat (first | refine blk_drewN ?_ _ | refine blk_drew ?_ | refine blk_alloc ?_ _)); exact BK138.out⟩, ⟨Hd.b_⟩⟩
   ·
    replace c11 := Bool.eq_false_iff.mpr c11
    subst c11
    have H1 : (impl_SideOf.j0 k true a0_0 a0_1 a1_0 a1_1 a2_0 a2_1) = some r := by rw [if_neg (show ¬ (false = true) by decide)] at H; exact H
    clear H
    have H := H1
    clear H1
    have H' := Aside0.mk H
    clear H
    have hnb22 := NB136_137.out
    have hnc22 := NB137_136.out
    have hnb23 := NB136_138.out
    have hnc23 := NB138_136.out
    obtain ⟨hcz24_0, hcz24_1⟩ := Hd.c2_ BK136.out
    obtain ⟨hfz24_0, hfz24_1⟩ := Hd.f2_ BK136.out
    go_wp2_with (first | ((with_reducible refine gate_callee (f := 63) rfl ?_); refine goesL_ (some 8) rfl rfl Try.func63 (by kernel_rfl) rfl #[.agg #[.int .i64 a0_0, .int .i64 a0_1]] rfl Hd.m_ ?_; (with_reducible refine (impl_IsPoint.calls a0_0 a0_1 true _ A8.out).mono ?_); rintro e w25 ⟨rfl, hb⟩; refine ⟨_, rfl, ?_⟩; replace BK136 := Aside0.mk (Hd.kb_ BK136 hb); replace BK137 := Aside0.mk (Hd.kb_ BK137 hb); replace BK138 := Aside0.mk (Hd.kb_ BK138 hb); replace HB := Aside0.mk (below_step Hd.b_ hb); (try clear hb); (try clear hb2); (try clear hk); (try clear hi); have hnb26 := NB137_138.out; have hnc26 := NB138_137.out; obtain ⟨hcz27_0, hcz27_1⟩ := Hd.c2_ BK137.out; obtain ⟨hfz27_0, hfz27_1⟩ := Hd.f2_ BK137.out) | (go_at_call 63; (with_reducible refine (impl_IsPoint.calls a1_0 a1_1 false _ A10.out).mono ?_); rintro e w28 ⟨rfl, hb⟩; replace BK136 := Aside0.mk (Hd.kb_ BK136 hb); replace BK137 := Aside0.mk (Hd.kb_ BK137 hb); replace BK138 := Aside0.mk (Hd.kb_ BK138 hb); replace HB := Aside0.mk (below_step Hd.b_ hb); (try clear hb); (try clear hb2); (try clear hk); (try clear hi)))
    go_meet
    case rel => exact ⟨_, (true), (by first | rfl | (simp; done) | (simp [*]; done)), H', ⟨by first | omega | exact Nat.le_refl _⟩, ⟨by (with_reducible repeat (first | refine blk_drewN ?_ _ | refine blk_drew ?_ | refine blk_alloc ?_ _)); exact BK136.out⟩, ⟨by (with_reducible repeat (first | refine blk_drewN ?_ _ | refine blk_drew ?_ | refine blk_alloc ?_ _)); exact BK137.out⟩, ⟨by (with_reducible repeat (first | refine blk_drewN ?_ _ | refine blk_drew ?_ | refine blk_alloc ?_ _)); exact BK138.out⟩, ⟨Hd.b_⟩⟩
  ·
   replace c9 := Bool.eq_false_iff.mpr c9
   subst c9
   have H1 : (impl_SideOf.j0 k true a0_0 a0_1 a1_0 a1_1 a2_0 a2_1) = some r := by rw [if_neg (show ¬ (false = true) by decide)] at H; exact H
   clear H
   have H := H1
   clear H1
   have H' := Aside0.mk H
   clear H
   have hnb29 := NB136_137.out
   have hnc29 := NB137_136.out
   have hnb30 := NB136_138.out
   have hnc30 := NB138_136.out
   obtain ⟨hcz31_0, hcz31_1⟩ := Hd.c2_ BK136.out
   obtain ⟨hfz31_0, hfz31_1⟩ := Hd.f2_ BK136.out
   go_wp2_with (first | ((with_reducible refine gate_callee (f := 63) rfl ?_); refine goesL_ (some 8) rfl rfl Try.func63 (by kernel_rfl) rfl #[.agg #[.int .i64 a0_0, .int .i64 a0_1]] rfl Hd.m_ ?_; (with_reducible refine (impl_IsPoint.calls a0_0 a0_1 false _ A8.out).mono ?_); rintro e w32 ⟨rfl, hb⟩; refine ⟨_, rfl, ?_⟩; replace BK136 := Aside0.mk (Hd.kb_ BK136 hb); replace BK137 := Aside0.mk (Hd.kb_ BK137 hb); replace BK138 := Aside0.mk (Hd.kb_ BK138 hb); replace HB := Aside0.mk (below_step Hd.b_ hb); (try clear hb); (try clear hb2); (try clear hk); (try clear hi)))
   go_meet
   case rel => exact ⟨_, (true), (by first | rfl | (simp; done) | (simp [*]; done)), H', ⟨by first | omega | exact Nat.le_refl _⟩, ⟨by (with_reducible repeat (first | refine blk_drewN ?_ _ | refine blk_drew ?_ | refine blk_alloc ?_ _)); exact BK136.out⟩, ⟨by (with_reducible repeat (first | refine blk_drewN ?_ _ | refine blk_drew ?_ | refine blk_alloc ?_ _)); exact BK137.out⟩, ⟨by (with_reducible repeat (first | refine blk_drewN ?_ _ | refine blk_drew ?_ | refine blk_alloc ?_ _)); exact BK138.out⟩, ⟨Hd.b_⟩⟩
 case rest =>
  clear HC4
  try clear c1
  try clear c2
  try clear p2
  try clear c3
  try clear c6
  try clear c9
  try clear c11
  try clear c13
  try clear c14
  try clear c17
  try clear c22
  try clear c23
  try clear c26
  try clear c29
  try clear c30
  try clear hcz15_0
  try clear hcz15_1
  try clear hcz18_0
  try clear hcz18_1
  try clear hcz20_0
  try clear hcz20_1
  try clear hcz24_0
  try clear hcz24_1
  try clear hcz27_0
  try clear hcz27_1
  try clear hcz31_0
  try clear hcz31_1
  try clear hfz15_0
  try clear hfz15_1
  try clear hfz18_0
  try clear hfz18_1
  try clear hfz20_0
  try clear hfz20_1
  try clear hfz24_0
  try clear hfz24_1
  try clear hfz27_0
  try clear hfz27_1
  try clear hfz31_0
  try clear hfz31_1
  obtain ⟨kq, x19_3, rfl, HA, HJ3, BK136, BK137, BK138, HB⟩ := hcut
  cases kq with
  | zero => exact absurd HA.out (by simp [impl_SideOf.j0])
  | succ kj3 =>
   have H := HA.out
   clear HA
   simp only [impl_SideOf.j0] at H
   by_cases c33 : x19_3 = true
   ·
    subst c33
    have H1 : (some 0) = some r := by rw [if_pos rfl] at H; exact H
    clear H
    have H := H1
    clear H1
    obtain rfl := Option.some.inj H
    go_wp2
    go_ret
    exact ⟨Hd.e_, Hd.b_⟩
   ·
    replace c33 := Bool.eq_false_iff.mpr c33
    subst c33
    have H1 : ((impl_cross.f a0_0 a0_1 a1_0 a1_1 a2_0 a2_1).bind fun t142 => ((cmp_Compare_int.f t142 0).bind fun t143 => (some t143))) = some r := by rw [if_neg (show ¬ (false = true) by decide)] at H; exact H
    clear H
    have H := H1
    clear H1
    replace H := Option.bind_eq_some_iff.mp H
    obtain ⟨t142, A340, H⟩ := H
    replace H : ((cmp_Compare_int.f t142 0).bind fun t143 => (some t143)) = some r := H
    have A34 := Aside0.mk A340
    clear A340
    replace H := Option.bind_eq_some_iff.mp H
    obtain ⟨t143, A350, H⟩ := H
    replace H : (some t143) = some r := H
    have A35 := Aside0.mk A350
    clear A350
    obtain rfl := Option.some.inj H
    have hnb36 := NB136_137.out
    have hnc36 := NB137_136.out
    have hnb37 := NB136_138.out
    have hnc37 := NB138_136.out
    obtain ⟨hcz38_0, hcz38_1⟩ := Hd.c2_ BK136.out
    obtain ⟨hfz38_0, hfz38_1⟩ := Hd.f2_ BK136.out
    have hnb39 := NB137_138.out
    have hnc39 := NB138_137.out
    obtain ⟨hcz40_0, hcz40_1⟩ := Hd.c2_ BK137.out
    obtain ⟨hfz40_0, hfz40_1⟩ := Hd.f2_ BK137.out
    obtain ⟨hcz41_0, hcz41_1⟩ := Hd.c2_ BK138.out
    obtain ⟨hfz41_0, hfz41_1⟩ := Hd.f2_ BK138.out
    go_wp2_with (first | ((with_reducible refine gate_callee (f := 126) rfl ?_); refine goesL_ (some 23) rfl rfl Try.func126 (by kernel_rfl) rfl #[.agg #[.int .i64 a0_0, .int .i64 a0_1], .agg #[.int .i64 a1_0, .int .i64 a1_1], .agg #[.int .i64 a2_0, .int .i64 a2_1]] rfl Hd.m_ ?_; (with_reducible refine (impl_cross.calls a0_0 a0_1 a1_0 a1_1 a2_0 a2_1 t142 _ A34.out).mono ?_); rintro e w42 ⟨rfl, hb⟩; refine ⟨_, rfl, ?_⟩; replace BK136 := Aside0.mk (Hd.kb_ BK136 hb); replace BK137 := Aside0.mk (Hd.kb_ BK137 hb); replace BK138 := Aside0.mk (Hd.kb_ BK138 hb); replace HB := Aside0.mk (below_step Hd.b_ hb); (try clear hb); (try clear hb2); (try clear hk); (try clear hi)) | ((with_reducible refine gate_callee (f := 133) rfl ?_); refine goesL_ (some 24) rfl rfl Try.func133 (by kernel_rfl) rfl #[.int .i64 t142, .int .i64 0] rfl Hd.m_ ?_; (with_reducible refine (cmp_Compare_int.calls t142 0 t143 _ A35.out).mono ?_); rintro e w' ⟨rfl, ⟨nd, rfl⟩⟩; refine ⟨_, rfl, ?_⟩))
    go_ret
    exact ⟨Hd.e_, Hd.b_⟩

/-! ### impl_IsOn: function 109 -/
def impl_IsOn.f (k : Nat) (a0_0 : Int) (a0_1 : Int) (a0_2 : Int) (a0_3 : Int) (a1_0 : Int) (a1_1 : Int) : Option (Bool) := (impl_IsSegment.f a0_0 a0_1 a0_2 a0_3).bind fun t146 => (if t146 = true then ((impl_IsPoint.f a1_0 a1_1).bind fun t147 => (if t147 = true then ((impl_SideOf.f k a0_0 a0_1 a0_2 a0_3 a1_0 a1_1).bind fun t148 => (if t148 = 0 then ((impl_InRange.f a1_0 (mn a0_0 a0_2) (mx a0_0 a0_2)).bind fun t149 => (if t149 = true then ((impl_InRange.f a1_1 (mn a0_1 a0_3) (mx a0_1 a0_3)).bind fun t150 => (some t150)) else (some false))) else (some false))) else (some false))) else (some false))
theorem impl_IsOn.mono : ∀ a0 a1 a2 a3 a4 a5 k, LeO (impl_IsOn.f k a0 a1 a2 a3 a4 a5) (impl_IsOn.f (k + 1) a0 a1 a2 a3 a4 a5) := by
 intro a0 a1 a2 a3 a4 a5 k
 unfold impl_IsOn.f
 repeat' first
   | (with_reducible exact impl_SideOf.mono _ _ _ _ _ _ _)
   | (with_reducible exact LeO.refl _)
   | (with_reducible exact LeO.none _)
   | (with_reducible refine LeO.ite ?_ ?_)
   | (with_reducible refine LeO.bind ?_ (fun _ => ?_))
   | exact impl_SideOf.mono _ _ _ _ _ _ _
   | exact LeO.none _
   | refine LeO.ite ?_ ?_
   | refine LeO.bind ?_ (fun _ => ?_)
set_option maxHeartbeats 8000000 in
set_option maxRecDepth 100000 in
theorem impl_IsOn.calls (k : Nat) (a0_0 : Int) (a0_1 : Int) (a0_2 : Int) (a0_3 : Int) (a1_0 : Int) (a1_1 : Int) (r : Bool) (w : World) (h : impl_IsOn.f k a0_0 a0_1 a0_2 a0_3 a1_0 a1_1 = some r) :
  Calls Try.prog 109 #[.agg #[.int .i64 a0_0, .int .i64 a0_1, .int .i64 a0_2, .int .i64 a0_3], .agg #[.int .i64 a1_0, .int .i64 a1_1]] w fun e w' => e = .returned (.bool r) ∧ Below w.heap.size w w' := by
 have hu60 := Try.underlying60
 have hu27 := Try.underlying27
 have HB := Aside0.mk (Below.refl w.heap.size w)
 have H : ((impl_IsSegment.f a0_0 a0_1 a0_2 a0_3).bind fun t146 => (if t146 = true then ((impl_IsPoint.f a1_0 a1_1).bind fun t147 => (if t147 = true then ((impl_SideOf.f k a0_0 a0_1 a0_2 a0_3 a1_0 a1_1).bind fun t148 => (if t148 = 0 then ((impl_InRange.f a1_0 (mn a0_0 a0_2) (mx a0_0 a0_2)).bind fun t149 => (if t149 = true then ((impl_InRange.f a1_1 (mn a0_1 a0_3) (mx a0_1 a0_3)).bind fun t150 => (some t150)) else (some false))) else (some false))) else (some false))) else (some false))) = some r := h
 clear h
 replace H := Option.bind_eq_some_iff.mp H
 obtain ⟨t146, A30, H⟩ := H
 replace H : (if t146 = true then ((impl_IsPoint.f a1_0 a1_1).bind fun t147 => (if t147 = true then ((impl_SideOf.f k a0_0 a0_1 a0_2 a0_3 a1_0 a1_1).bind fun t148 => (if t148 = 0 then ((impl_InRange.f a1_0 (mn a0_0 a0_2) (mx a0_0 a0_2)).bind fun t149 => (if t149 = true then ((impl_InRange.f a1_1 (mn a0_1 a0_3) (mx a0_1 a0_3)).bind fun t150 => (some t150)) else (some false))) else (some false))) else (some false))) else (some false)) = some r := H
 have A3 := Aside0.mk A30
 clear A30
 by_cases c4 : t146 = true
 ·
  subst c4
  have H1 : ((impl_IsPoint.f a1_0 a1_1).bind fun t147 => (if t147 = true then ((impl_SideOf.f k a0_0 a0_1 a0_2 a0_3 a1_0 a1_1).bind fun t148 => (if t148 = 0 then ((impl_InRange.f a1_0 (mn a0_0 a0_2) (mx a0_0 a0_2)).bind fun t149 => (if t149 = true then ((impl_InRange.f a1_1 (mn a0_1 a0_3) (mx a0_1 a0_3)).bind fun t150 => (some t150)) else (some false))) else (some false))) else (some false))) = some r := by rw [if_pos rfl] at H; exact H
  clear H
  have H := H1
  clear H1
  replace H := Option.bind_eq_some_iff.mp H
  obtain ⟨t147, A50, H⟩ := H
  replace H : (if t147 = true then ((impl_SideOf.f k a0_0 a0_1 a0_2 a0_3 a1_0 a1_1).bind fun t148 => (if t148 = 0 then ((impl_InRange.f a1_0 (mn a0_0 a0_2) (mx a0_0 a0_2)).bind fun t149 => (if t149 = true then ((impl_InRange.f a1_1 (mn a0_1 a0_3) (mx a0_1 a0_3)).bind fun t150 => (some t150)) else (some false))) else (some false))) else (some false)) = some r := H
  have A5 := Aside0.mk A50
  clear A50
  by_cases c6 : t147 = true
  ·
   subst c6
   have H1 : ((impl_SideOf.f k a0_0 a0_1 a0_2 a0_3 a1_0 a1_1).bind fun t148 => (if t148 = 0 then ((impl_InRange.f a1_0 (mn a0_0 a0_2) (mx a0_0 a0_2)).bind fun t149 => (if t149 = true then ((impl_InRange.f a1_1 (mn a0_1 a0_3) (mx a0_1 a0_3)).bind fun t150 => (some t150)) else (some false))) else (some false))) = some r := by rw [if_pos rfl] at H; exact H
   clear H
   have H := H1
   clear H1
   replace H := Option.bind_eq_some_iff.mp H
   obtain ⟨t148, A70, H⟩ := H
   replace H : (if t148 = 0 then ((impl_InRange.f a1_0 (mn a0_0 a0_2) (mx a0_0 a0_2)).bind fun t149 => (if t149 = true then ((impl_InRange.f a1_1 (mn a0_1 a0_3) (mx a0_1 a0_3)).bind fun t150 => (some t150)) else (some false))) else (some false)) = some r := H
   have A7 := Aside0.mk A70
   clear A70
   by_cases c8 : t148 = 0
   ·
    rw [if_pos c8] at H
    have c8b0 : (t148 == 0) = true := beq_iff_eq.mpr c8
    have c8b1 : (t148 != 0) = false := bne_eq_false_iff_eq.mpr c8
    clear c8
    obtain ⟨ji9, hji9⟩ : ∃ j_ : Int, (mn a0_0 a0_2) = j_ := ⟨_, rfl⟩
    replace H : ((impl_InRange.f a1_0 (ji9) (mx a0_0 a0_2)).bind fun t149 => (if t149 = true then ((impl_InRange.f a1_1 (mn a0_1 a0_3) (mx a0_1 a0_3)).bind fun t150 => (some t150)) else (some false))) = some r := by first | (rw [hji9] at H; exact H) | (simp only [hji9] at H ⊢; exact H)
    (try rw [hji9] at A3)
    (try rw [hji9] at A5)
    (try rw [hji9] at A7)
    have hji9_ : (if a0_2 < a0_0 then a0_2 else a0_0) = ji9 := hji9
    obtain ⟨ji10, hji10⟩ : ∃ j_ : Int, (mx a0_0 a0_2) = j_ := ⟨_, rfl⟩
    replace H : ((impl_InRange.f a1_0 (ji9) (ji10)).bind fun t149 => (if t149 = true then ((impl_InRange.f a1_1 (mn a0_1 a0_3) (mx a0_1 a0_3)).bind fun t150 => (some t150)) else (some false))) = some r := by first | (rw [hji10] at H; exact H) | (simp only [hji10] at H ⊢; exact H)
    (try rw [hji10] at A3)
    (try rw [hji10] at A5)
    (try rw [hji10] at A7)
    have hji10_ : (if a0_0 < a0_2 then a0_2 else a0_0) = ji10 := hji10
    replace H := Option.bind_eq_some_iff.mp H
    obtain ⟨t149, A110, H⟩ := H
    replace H : (if t149 = true then ((impl_InRange.f a1_1 (mn a0_1 a0_3) (mx a0_1 a0_3)).bind fun t150 => (some t150)) else (some false)) = some r := H
    have A11 := Aside0.mk A110
    clear A110
    by_cases c12 : t149 = true
    ·
     subst c12
     have H1 : ((impl_InRange.f a1_1 (mn a0_1 a0_3) (mx a0_1 a0_3)).bind fun t150 => (some t150)) = some r := by rw [if_pos rfl] at H; exact H
     clear H
     have H := H1
     clear H1
     obtain ⟨ji13, hji13⟩ : ∃ j_ : Int, (mn a0_1 a0_3) = j_ := ⟨_, rfl⟩
     replace H : ((impl_InRange.f a1_1 (ji13) (mx a0_1 a0_3)).bind fun t150 => (some t150)) = some r := by first | (rw [hji13] at H; exact H) | (simp only [hji13] at H ⊢; exact H)
     (try rw [hji13] at A3)
     (try rw [hji13] at A5)
     (try rw [hji13] at A7)
     (try rw [hji13] at A11)
     have hji13_ : (if a0_3 < a0_1 then a0_3 else a0_1) = ji13 := hji13
     obtain ⟨ji14, hji14⟩ : ∃ j_ : Int, (mx a0_1 a0_3) = j_ := ⟨_, rfl⟩
     replace H : ((impl_InRange.f a1_1 (ji13) (ji14)).bind fun t150 => (some t150)) = some r := by first | (rw [hji14] at H; exact H) | (simp only [hji14] at H ⊢; exact H)
     (try rw [hji14] at A3)
     (try rw [hji14] at A5)
     (try rw [hji14] at A7)
     (try rw [hji14] at A11)
     have hji14_ : (if a0_1 < a0_3 then a0_3 else a0_1) = ji14 := hji14
     replace H := Option.bind_eq_some_iff.mp H
     obtain ⟨t150, A150, H⟩ := H
     replace H : (some t150) = some r := H
     have A15 := Aside0.mk A150
     clear A150
     obtain rfl := Option.some.inj H
     go_enter Try.func109, Try.ntmps109
     go_wp2_with (first | ((with_reducible refine gate_dst (N := 2) rfl ?_); refine Hd.box_ 2 (#[.int .i64 a0_0, .int .i64 a0_1, .int .i64 a0_2, .int .i64 a0_3]) 60 ?_; intro gb144 hg w16 hbox hb; have BK144 := Aside0.mk (hbox); have GW144 := Aside0.mk ((Hd.g_ hg Hd.b_ : w.heap.size ≤ gb144)); have GE144 := Aside0.mk ((Hd.g_ hg Hd.b_ : w.heap.size ≤ gb144)); replace HB := Aside0.mk (below_step Hd.b_ hb); clear hb hbox hg) | ((with_reducible refine gate_dst (N := 3) rfl ?_); refine Hd.box_ 3 (#[.int .i64 a1_0, .int .i64 a1_1]) 27 ?_; intro gb145 hg w17 hbox hb; have BK145 := Aside0.mk (hbox); have GW145 := Aside0.mk ((Hd.g_ hg Hd.b_ : w.heap.size ≤ gb145)); have GE145 := Aside0.mk ((Hd.g_ hg Hd.b_ : w.heap.size ≤ gb145)); replace HB := Aside0.mk (below_step Hd.b_ hb); have NB144_145 := Aside0.mk ((Hd.lt_ BK144 hg)); have NB145_144 := Aside0.mk ((Hd.gt_ BK144 hg)); replace BK144 := Aside0.mk (Hd.kb_ BK144 hb); clear hb hbox hg; have hnb18 := NB144_145.out; have hnc18 := NB145_144.out; obtain ⟨hcz19_0, hcz19_1, hcz19_2, hcz19_3⟩ := Hd.c4_ BK144.out; obtain ⟨hfz19_0, hfz19_1, hfz19_2, hfz19_3⟩ := Hd.f4_ BK144.out) | ((with_reducible refine gate_callee (f := 96) rfl ?_); refine goesL_ (some 6) rfl rfl Try.func96 (by kernel_rfl) rfl #[.agg #[.int .i64 a0_0, .int .i64 a0_1, .int .i64 a0_2, .int .i64 a0_3]] rfl Hd.m_ ?_; (with_reducible refine (impl_IsSegment.calls a0_0 a0_1 a0_2 a0_3 true _ A3.out).mono ?_); rintro e w20 ⟨rfl, hb⟩; refine ⟨_, rfl, ?_⟩; replace BK144 := Aside0.mk (Hd.kb_ BK144 hb); replace BK145 := Aside0.mk (Hd.kb_ BK145 hb); replace HB := Aside0.mk (below_step Hd.b_ hb); (try clear hb); (try clear hb2); (try clear hk); (try clear hi); obtain ⟨hcz21_0, hcz21_1⟩ := Hd.c2_ BK145.out; obtain ⟨hfz21_0, hfz21_1⟩ := Hd.f2_ BK145.out) | (go_at_call 63; (with_reducible refine (impl_IsPoint.calls a1_0 a1_1 true _ A5.out).mono ?_); rintro e w22 ⟨rfl, hb⟩; replace BK144 := Aside0.mk (Hd.kb_ BK144 hb); replace BK145 := Aside0.mk (Hd.kb_ BK145 hb); replace HB := Aside0.mk (below_step Hd.b_ hb); (try clear hb); (try clear hb2); (try clear hk); (try clear hi); obtain ⟨hcz23_0, hcz23_1, hcz23_2, hcz23_3⟩ := Hd.c4_ BK144.out; obtain ⟨hfz23_0, hfz23_1, hfz23_2, hfz23_3⟩ := Hd.f4_ BK144.out; obtain ⟨hcz24_0, hcz24_1⟩ := Hd.c2_ BK145.out; obtain ⟨hfz24_0, hfz24_1⟩ := Hd.f2_ BK145.out) | (go_at_call 110; (with_reducible refine (impl_SideOf.calls k a0_0 a0_1 a0_2 a0_3 a1_0 a1_1 t148 _ A7.out).mono ?_); rintro e w25 ⟨rfl, hb⟩; replace BK144 := Aside0.mk (Hd.kb_ BK144 hb); replace BK145 := Aside0.mk (Hd.kb_ BK145 hb); replace HB := Aside0.mk (below_step Hd.b_ hb); (try clear hb); (try clear hb2); (try clear hk); (try clear hi); obtain ⟨hcz26_0, hcz26_1⟩ := Hd.c2_ BK145.out; obtain ⟨hfz26_0, hfz26_1⟩ := Hd.f2_ BK145.out; obtain ⟨hcz27_0, hcz27_1, hcz27_2, hcz27_3⟩ := Hd.c4_ BK144.out; obtain ⟨hfz27_0, hfz27_1, hfz27_2, hfz27_3⟩ := Hd.f4_ BK144.out) | (go_at_call 72; (with_reducible refine (impl_InRange.calls a1_0 ji9 ji10 true _ A11.out).mono ?_); rintro e w' ⟨rfl, ⟨nd, rfl⟩⟩) | (go_at_call 72; (with_reducible refine (impl_InRange.calls a1_1 ji13 ji14 t150 _ A15.out).mono ?_); rintro e w' ⟨rfl, ⟨nd, rfl⟩⟩))
     go_ret
     exact ⟨by first | rfl | (simp [errW_none, errW_some] <;> rfl) | (simp only [← hji9, ← hji10, ← hji13, ← hji14]; first | rfl | (simp [errW_none, errW_some] <;> rfl)) | (simp [*, errW_none, errW_some] <;> rfl), Hd.b_⟩
    ·
     replace c12 := Bool.eq_false_iff.mpr c12
     subst c12
     have H1 : (some false) = some r := by rw [if_neg (show ¬ (false = true) by decide)] at H; exact H
     clear H
     have H := H1
     clear H1
     obtain rfl := Option.some.inj H
     go_enter Try.func109, Try.ntmps109
     go_wp2_with (first | ((with_reducible refine gate_dst (N := 2) rfl ?_); refine Hd.box_ 2 (#[.int .i64 a0_0, .int .i64 a0_1, .int .i64 a0_2, .int .i64 a0_3]) 60 ?_; intro gb144 hg w28 hbox hb; have BK144 := Aside0.mk (hbox); have GW144 := Aside0.mk ((Hd.g_ hg Hd.b_ : w.heap.size ≤ gb144)); have GE144 := Aside0.mk ((Hd.g_ hg Hd.b_ : w.heap.size ≤ gb144)); replace HB := Aside0.mk (below_step Hd.b_ hb); clear hb hbox hg) | ((with_reducible refine gate_dst (N := 3) rfl ?_); refine Hd.box_ 3 (#[.int .i64 a1_0, .int .i64 a1_1]) 27 ?_; intro gb145 hg w29 hbox hb; have BK145 := Aside0.mk (hbox); have GW145 := Aside0.mk ((Hd.g_ hg Hd.b_ : w.heap.size ≤ gb145)); have GE145 := Aside0.mk ((Hd.g_ hg Hd.b_ : w.heap.size ≤ gb145)); replace HB := Aside0.mk (below_step Hd.b_ hb); have NB144_145 := Aside0.mk ((Hd.lt_ BK144 hg)); have NB145_144 := Aside0.mk ((Hd.gt_ BK144 hg)); replace BK144 := Aside0.mk (Hd.kb_ BK144 hb); clear hb hbox hg; have hnb30 := NB144_145.out; have hnc30 := NB145_144.out; obtain ⟨hcz31_0, hcz31_1, hcz31_2, hcz31_3⟩ := Hd.c4_ BK144.out; obtain ⟨hfz31_0, hfz31_1, hfz31_2, hfz31_3⟩ := Hd.f4_ BK144.out) | ((with_reducible refine gate_callee (f := 96) rfl ?_); refine goesL_ (some 6) rfl rfl Try.func96 (by kernel_rfl) rfl #[.agg #[.int .i64 a0_0, .int .i64 a0_1, .int .i64 a0_2, .int .i64 a0_3]] rfl Hd.m_ ?_; (with_reducible refine (impl_IsSegment.calls a0_0 a0_1 a0_2 a0_3 true _ A3.out).mono ?_); rintro e w32 ⟨rfl, hb⟩; refine ⟨_, rfl, ?_⟩; replace BK144 := Aside0.mk (Hd.kb_ BK144 hb); replace BK145 := Aside0.mk (Hd.kb_ BK145 hb); replace HB := Aside0.mk (below_step Hd.b_ hb); (try clear hb); (try clear hb2); (try clear hk); (try clear hi); obtain ⟨hcz33_0, hcz33_1⟩ := Hd.c2_ BK145.out; obtain ⟨hfz33_0, hfz33_1⟩ := Hd.f2_ BK145.out) | (go_at_call 63; (with_reducible refine (impl_IsPoint.calls a1_0 a1_1 true _ A5.out).mono ?_); rintro e w34 ⟨rfl, hb⟩; replace BK144 := Aside0.mk (Hd.kb_ BK144 hb); replace BK145 := Aside0.mk (Hd.kb_ BK145 hb); replace HB := Aside0.mk (below_step Hd.b_ hb); (try clear hb); (try clear hb2); (try clear hk); (try clear hi); obtain ⟨hcz35_0, hcz35_1, hcz35_2, hcz35_3⟩ := Hd.c4_ BK144.out; obtain ⟨hfz35_0, hfz35_1, hfz35_2, hfz35_3⟩ := Hd.f4_ BK144.out; obtain ⟨hcz36_0, hcz36_1⟩ := Hd.c2_ BK145.out; obtain ⟨hfz36_0, hfz36_1⟩ := Hd.f2_ BK145.out) | (go_at_call 110; (with_reducible refine (impl_SideOf.calls k a0_0 a0_1 a0_2 a0_3 a1_0 a1_1 t148 _ A7.out).mono ?_); rintro e w37 ⟨rfl, hb⟩; replace BK144 := Aside0.mk (Hd.kb_ BK144 hb); replace BK145 := Aside0.mk (Hd.kb_ BK145 hb); replace HB := Aside0.mk (below_step Hd.b_ hb); (try clear hb); (try clear hb2); (try clear hk); (try clear hi); obtain ⟨hcz38_0, hcz38_1⟩ := Hd.c2_ BK145.out; obtain ⟨hfz38_0, hfz38_1⟩ := Hd.f2_ BK145.out; obtain ⟨hcz39_0, hcz39_1, hcz39_2, hcz39_3⟩ := Hd.c4_ BK144.out; obtain ⟨hfz39_0, hfz39_1, hfz39_2, hfz39_3⟩ := Hd.f4_ BK144.out) | (go_at_call 72; (with_reducible refine (impl_InRange.calls a1_0 ji9 ji10 false _ A11.out).mono ?_); rintro e w' ⟨rfl, ⟨nd, rfl⟩⟩))
     go_ret
     exact ⟨by first | rfl | (simp [errW_none, errW_some] <;> rfl) | (simp only [← hji9, ← hji10]; first | rfl | (simp [errW_none, errW_some] <;> rfl)) | (simp [*, errW_none, errW_some] <;> rfl), Hd.b_⟩
   ·
    rw [if_neg c8] at H
    have c8b0 : (t148 == 0) = false := beq_eq_false_iff_ne.mpr c8
    have c8b1 : (t148 != 0) = true := bne_iff_ne.mpr c8
    obtain rfl := Option.some.inj H
    go_enter Try.func109, Try.ntmps109
    go_wp2_with (first | ((with_reducible refine gate_dst (N := 2) rfl ?_); refine Hd.box_ 2 (#[.int .i64 a0_0, .int .i64 a0_1, .int .i64 a0_2, .int .i64 a0_3]) 60 ?_; intro gb144 hg w40 hbox hb; have BK144 := Aside0.mk (hbox); have GW144 := Aside0.mk ((Hd.g_ hg Hd.b_ : w.heap.size ≤ gb144)); have GE144 := Aside0.mk ((Hd.g_ hg Hd.b_ : w.heap.size ≤ gb144)); replace HB := Aside0.mk (below_step Hd.b_ hb); clear hb hbox hg) | ((with_reducible refine gate_dst (N := 3) rfl ?_); refine Hd.box_ 3 (#[.int .i64 a1_0, .int .i64 a1_1]) 27 ?_; intro gb145 hg w41 hbox hb; have BK145 := Aside0.mk (hbox); have GW145 := Aside0.mk ((Hd.g_ hg Hd.b_ : w.heap.size ≤ gb145)); have GE145 := Aside0.mk ((Hd.g_ hg Hd.b_ : w.heap.size ≤ gb145)); replace HB := Aside0.mk (below_step Hd.b_ hb); have NB144_145 := Aside0.mk ((Hd.lt_ BK144 hg)); have NB145_144 := Aside0.mk ((Hd.gt_ BK144 hg)); replace BK144 := Aside0.mk (Hd.kb_ BK144 hb); clear hb hbox hg; have hnb42 := NB144_145.out; have hnc42 := NB145_144.out; obtain ⟨hcz43_0, hcz43_1, hcz43_2, hcz43_3⟩ := Hd.c4_ BK144.out; obtain ⟨hfz43_0, hfz43_1, hfz43_2, hfz43_3⟩ := Hd.f4_ BK144.out) | ((with_reducible refine gate_callee (f := 96) rfl ?_); refine goesL_ (some 6) rfl rfl Try.func96 (by kernel_rfl) rfl #[.agg #[.int .i64 a0_0, .int .i64 a0_1, .int .i64 a0_2, .int .i64 a0_3]] rfl Hd.m_ ?_; (with_reducible refine (impl_IsSegment.calls a0_0 a0_1 a0_2 a0_3 true _ A3.out).mono ?_); rintro e w44 ⟨rfl, hb⟩; refine ⟨_, rfl, ?_⟩; replace BK144 := Aside0.mk (Hd.kb_ BK144 hb); replace BK145 := Aside0.mk (Hd.kb_ BK145 hb); replace HB := Aside0.mk (below_step Hd.b_ hb); (try clear hb); (try clear hb2); (try clear hk); (try clear hi); obtain ⟨hcz45_0, hcz45_1⟩ := Hd.c2_ BK145.out; obtain ⟨hfz45_0, hfz45_1⟩ := Hd.f2_ BK145.out) | (go_at_call 63; (with_reducible refine (impl_IsPoint.calls a1_0 a1_1 true _ A5.out).mono ?_); rintro e w46 ⟨rfl, hb⟩; replace BK144 := Aside0.mk (Hd.kb_ BK144 hb); replace BK145 := Aside0.mk (Hd.kb_ BK145 hb); replace HB := Aside0.mk (below_step Hd.b_ hb); (try clear hb); (try clear hb2); (try clear hk); (try clear hi); obtain ⟨hcz47_0, hcz47_1, hcz47_2, hcz47_3⟩ := Hd.c4_ BK144.out; obtain ⟨hfz47_0, hfz47_1, hfz47_2, hfz47_3⟩ := Hd.f4_ BK144.out; obtain ⟨hcz48_0, hcz48_1⟩ := Hd.c2_ BK145.out; obtain ⟨hfz48_0, hfz48_1⟩ := Hd.f2_ BK145.out) | (go_at_call 110; (with_reducible refine (impl_SideOf.calls k a0_0 a0_1 a0_2 a0_3 a1_0 a1_1 t148 _ A7.out).mono ?_); rintro e w49 ⟨rfl, hb⟩; replace BK144 := Aside0.mk (Hd.kb_ BK144 hb); replace BK145 := Aside0.mk (Hd.kb_ BK145 hb); replace HB := Aside0.mk (below_step Hd.b_ hb); (try clear hb); (try clear hb2); (try clear hk); (try clear hi)))
    go_ret
    exact ⟨Hd.e_, Hd.b_⟩
  ·
   replace c6 := Bool.eq_false_iff.mpr c6
   subst c6
   have H1 : (some false) = some r := by rw [if_neg (show ¬ (false = true) by decide)] at H; exact H
   clear H
   have H := H1
   clear H1
   obtain rfl := Option.some.inj H
   go_enter Try.func109, Try.ntmps109
   go_wp2_with (first | ((with_reducible refine gate_dst (N := 2) rfl ?_); refine Hd.box_ 2 (#[.int .i64 a0_0, .int .i64 a0_1, .int .i64 a0_2, .int .i64 a0_3]) 60 ?_; intro gb144 hg w50 hbox hb; have BK144 := Aside0.mk (hbox); have GW144 := Aside0.mk ((Hd.g_ hg Hd.b_ : w.heap.size ≤ gb144)); have GE144 := Aside0.mk ((Hd.g_ hg Hd.b_ : w.heap.size ≤ gb144)); replace HB := Aside0.mk (below_step Hd.b_ hb); clear hb hbox hg) | ((with_reducible refine gate_dst (N := 3) rfl ?_); refine Hd.box_ 3 (#[.int .i64 a1_0, .int .i64 a1_1]) 27 ?_; intro gb145 hg w51 hbox hb; have BK145 := Aside0.mk (hbox); have GW145 := Aside0.mk ((Hd.g_ hg Hd.b_ : w.heap.size ≤ gb145)); have GE145 := Aside0.mk ((Hd.g_ hg Hd.b_ : w.heap.size ≤ gb145)); replace HB := Aside0.mk (below_step Hd.b_ hb); have NB144_145 := Aside0.mk ((Hd.lt_ BK144 hg)); have NB145_144 := Aside0.mk ((Hd.gt_ BK144 hg)); replace BK144 := Aside0.mk (Hd.kb_ BK144 hb); clear hb hbox hg; have hnb52 := NB144_145.out; have hnc52 := NB145_144.out; obtain ⟨hcz53_0, hcz53_1, hcz53_2, hcz53_3⟩ := Hd.c4_ BK144.out; obtain ⟨hfz53_0, hfz53_1, hfz53_2, hfz53_3⟩ := Hd.f4_ BK144.out) | ((with_reducible refine gate_callee (f := 96) rfl ?_); refine goesL_ (some 6) rfl rfl Try.func96 (by kernel_rfl) rfl #[.agg #[.int .i64 a0_0, .int .i64 a0_1, .int .i64 a0_2, .int .i64 a0_3]] rfl Hd.m_ ?_; (with_reducible refine (impl_IsSegment.calls a0_0 a0_1 a0_2 a0_3 true _ A3.out).mono ?_); rintro e w54 ⟨rfl, hb⟩; refine ⟨_, rfl, ?_⟩; replace BK144 := Aside0.mk (Hd.kb_ BK144 hb); replace BK145 := Aside0.mk (Hd.kb_ BK145 hb); replace HB := Aside0.mk (below_step Hd.b_ hb); (try clear hb); (try clear hb2); (try clear hk); (try clear hi); obtain ⟨hcz55_0, hcz55_1⟩ := Hd.c2_ BK145.out; obtain ⟨hfz55_0, hfz55_1⟩ := Hd.f2_ BK145.out) | (go_at_call 63; (with_reducible refine (impl_IsPoint.calls a1_0 a1_1 false _ A5.out).mono ?_); rintro e w56 ⟨rfl, hb⟩; replace BK144 := Aside0.mk (Hd.kb_ BK144 hb); replace BK145 := Aside0.mk (Hd.kb_ BK145 hb); replace HB := Aside0.mk (below_step Hd.b_ hb); (try clear hb); (try clear hb2); (try clear hk); (try clear hi)))
   go_ret
   exact ⟨Hd.e_, Hd.b_⟩
 ·
  replace c4 := Bool.eq_false_iff.mpr c4
  subst c4
  have H1 : (some false) = some r := by rw [if_neg (show ¬ (false = true) by decide)] at H; exact H
  clear H
  have H := H1
  clear H1
  obtain rfl := Option.some.inj H
  go_enter Try.func109, Try.ntmps109
  go_wp2_with (first | ((with_reducible refine gate_dst (N := 2) rfl ?_); refine Hd.box_ 2 (#[.int .i64 a0_0, .int .i64 a0_1, .int .i64 a0_2, .int .i64 a0_3]) 60 ?_; intro gb144 hg w57 hbox hb; have BK144 := Aside0.mk (hbox); have GW144 := Aside0.mk ((Hd.g_ hg Hd.b_ : w.heap.size ≤ gb144)); have GE144 := Aside0.mk ((Hd.g_ hg Hd.b_ : w.heap.size ≤ gb144)); replace HB := Aside0.mk (below_step Hd.b_ hb); clear hb hbox hg) | ((with_reducible refine gate_dst (N := 3) rfl ?_); refine Hd.box_ 3 (#[.int .i64 a1_0, .int .i64 a1_1]) 27 ?_; intro gb145 hg w58 hbox hb; have BK145 := Aside0.mk (hbox); have GW145 := Aside0.mk ((Hd.g_ hg Hd.b_ : w.heap.size ≤ gb145)); have GE145 := Aside0.mk ((Hd.g_ hg Hd.b_ : w.heap.size ≤ gb145)); replace HB := Aside0.mk (below_step Hd.b_ hb); have NB144_145 := Aside0.mk ((Hd.lt_ BK144 hg)); have NB145_144 := Aside0.mk ((Hd.gt_ BK144 hg)); replace BK144 := Aside0.mk (Hd.kb_ BK144 hb); clear hb hbox hg; have hnb59 := NB144_145.out; have hnc59 := NB145_144.out; obtain ⟨hcz60_0, hcz60_1, hcz60_2, hcz60_3⟩ := Hd.c4_ BK144.out; obtain ⟨hfz60_0, hfz60_1, hfz60_2, hfz60_3⟩ := Hd.f4_ BK144.out) | ((with_reducible refine gate_callee (f := 96) rfl ?_); refine goesL_ (some 6) rfl rfl Try.func96 (by kernel_rfl) rfl #[.agg #[.int .i64 a0_0, .int .i64 a0_1, .int .i64 a0_2, .int .i64 a0_3]] rfl Hd.m_ ?_; (with_reducible refine (impl_IsSegment.calls a0_0 a0_1 a0_2 a0_3 false _ A3.out).mono ?_); rintro e w61 ⟨rfl, hb⟩; refine ⟨_, rfl, ?_⟩; replace BK144 := Aside0.mk (Hd.kb_ BK144 hb); replace BK145 := Aside0.mk (Hd.kb_ BK145 hb); replace HB := Aside0.mk (below_step Hd.b_ hb); (try clear hb); (try clear hb2); (try clear hk); (try clear hi)))
  go_ret
  exact ⟨Hd.e_, Hd.b_⟩

end Go.Proofs.Ytchmbcembbbplab.MFnExactIsInside
