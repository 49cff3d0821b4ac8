-- Laid by this session's program pp.py, after the kit's print and texts of the session's own. Not trusted: Lean checks it.
import Derived.Test.YtbbdhlggnglfgaaZTakeFeatureMx0
import Derived.Test.YtbbdhlggnglfgaaZTakeFeatureMx1
import Derived.Test.YtbbdhlggnglfgaaZTakeFeatureMx11
namespace Go.Proofs.Ytbbdhlggnglfgaa.MFnExactTakeFeature
open Go.RowKit Go.Proofs.YtbbdhlggnglfgaaW.PrintWords Go.Proofs.YtbbdhlggnglfgaaW.PrintLast Go.Proofs.YtbbdhlggnglfgaaW.PrintMore
attribute [local go_sem] max2_int min2_int max_two min_two max_three min_three max_four min_four   -- for this text's walks alone
set_option linter.unusedVariables false
set_option linter.unusedSimpArgs false
attribute [local go_sem high] eqA75
def spec_SegmentsOf.l0 : Nat → List (S75) → List (S101) → Int → Option ((List (S101)))
 | 0, _, _, _ => none
 | k + 1, x0, x3, x4 => if x4 < (x0.length : Int) then ((spec_IsLine.f k x0).bind fun t336 => (if t336 = true then (if 0 ≤ (wrap64 (x4 - 1)) then (if (wrap64 (x4 - 1)) < (x0.length : Int) then (if 0 ≤ x4 then (if x3.length < 4398046511104 then (spec_SegmentsOf.l0 k x0 (x3 ++ [(⟨(⟨(rd_T75 x0 (wrap64 (x4 - 1))).f0, (rd_T75 x0 (wrap64 (x4 - 1))).f1⟩ : S75), (⟨(rd_T75 x0 x4).f0, (rd_T75 x0 x4).f1⟩ : S75)⟩ : S101)]) (wrap64 (x4 + 1))) else (none)) else (none)) else (none)) else (none)) else (some x3))) else (some x3)
def spec_SegmentsOf.f (k : Nat) (l0 : List (S75)) : Option ((List (S101))) := spec_SegmentsOf.l0 k l0 (([] : List (S101))) 1
def spec_SegmentsOf.T5 : Bool × List (List Nat × List Nat) := (true, [([], []), ([], []), ([], []), ([2], [2]), ([1, 3], [1, 3]), ([4], [4]), ([], []), ([], []), ([6, 7], [6, 7]), ([8], [8]), ([5, 9], [5, 9]), ([10], [10]), ([0, 11], [0, 11]), ([12, 12, 0, 1, 2, 3, 4, 5, 6, 7, 8, 9, 10, 11, 12], [0, 12])])
def spec_SegmentsOf.B5 : List Nat := [0, 0, 0, 4, 14, 30, 0, 0, 192, 448, 1022, 2046, 4095, 8191]
theorem spec_SegmentsOf.tab5 : rtab .any (opsOf Try.f95 5) = spec_SegmentsOf.T5 := by kernel_rfl
theorem spec_SegmentsOf.bits5 : waitsOk spec_SegmentsOf.T5.2 spec_SegmentsOf.B5 = true := by kernel_rfl
set_option maxHeartbeats 8000000 in
set_option maxRecDepth 100000 in
theorem spec_SegmentsOf.calls (k : Nat) (A0 : Option Addr) (c0 : Nat) (l0 : List (S75)) (r : List (S101)) (w : World) (hr0 : Kd.C k75 w A0 l0.length l0) (hc0 : l0.length ≤ c0) (h : spec_SegmentsOf.f k l0 = some r) :
  Calls Try.prog 95 #[.slice A0 l0.length c0] w fun e w' => ∃ v0_ : Value, e = .returned (v0_) ∧ Kd.R k101 101 w' w.heap.size (fun _ => True) v0_ r ∧ Below w.heap.size w w' := by
 have hu75 := Try.underlying75
 have hu101 := Try.underlying101
 have HR0 := Aside0.mk hr0
 have HC0 := Aside0.mk hc0
 clear hr0 hc0
 have HB := Aside0.mk (Below.refl w.heap.size w)
 have H : (spec_SegmentsOf.l0 k l0 (([] : List (S101))) 1) = some r := h
 clear h
 obtain ⟨y333, hy333⟩ : ∃ y_ : List (S101), y_ = (([] : List (S101))) := ⟨_, rfl⟩
 replace H : (spec_SegmentsOf.l0 k l0 y333 1) = some r := by first | (rw [hy333]; with_reducible exact H) | (have H2_ := (Option.bind_some _ _).symm.trans H; rw [hy333]; with_reducible exact H2_) | (have H2_ := (Option.bind_some _ _).symm.trans H; with_reducible exact H2_) | with_reducible exact H | (rw [hy333]; exact H) | exact H
 have Ny333 := Aside0.mk hy333
 clear hy333
 have H' := Aside0.mk H
 clear H
 go_enter Try.func95, Try.ntmps95
 go_wp2_with (first | ((with_reducible refine gate_dst (N := 5) rfl ?_); refine Kd.R_lit k101 _ 101 ?hg (N := 5) ?hd (xs := ([] : List (S101))) (inner := []) (ok := fun _ => True) (okp := fun _ => True) ?hr ?hp (fun _ hk => hk) trivial (Below.refl _ _) (Nat.le_refl _) (by simp) ?_; (case hd => rfl); (case hg => rfl); (case hr => first | (go_simp; done) | (go_simp; rfl)); (case hp => exact (Reps.none _ _)); intro v334 w2 ho3 hb hg_ hnew_; clear hg_ hnew_; (first | rw [← Ny333.out] at ho3 | (simp only [Int.reduceToNat] at ho3; rw [← Ny333.out] at ho3)); have HO335 := Aside0.mk (Kd.R_lower ho3 (below_size Hd.b_)); replace HB := Aside0.mk (below_step Hd.b_ hb); clear hb ho3))
 go_loopg [3, 4] k (fun kq v3 v4 w' => ∃ (x3_1 : List (S101)) (x4_1 : Int), v4 = .int .i64 x4_1 ∧ Aside0 (spec_SegmentsOf.l0 kq l0 x3_1 x4_1 = some r) ∧ Aside0 (kq ≤ k) ∧ Aside0 (Kd.R k101 101 w' w.heap.size (fun _ => True) v3 x3_1) ∧ Aside0 (Below w.heap.size w w'))
 case atStart => exact ⟨(y333), (1), (by first | rfl | (simp; done) | (simp [*]; done)), H', ⟨Nat.le_refl _⟩, ⟨by (with_reducible repeat (first | apply Kd.R_alloc | apply Kd.R_drewN | apply Kd.R_drew)); exact HO335.out⟩, ⟨Hd.b_⟩⟩
 case round =>
  clear H'
  try clear p2
  obtain ⟨x3_1, x4_1, rfl, HA, HK1, HO_3, HB⟩ := hrel
  cases gk with
  | zero => exact absurd HA.out (by simp [spec_SegmentsOf.l0])
  | succ k1 =>
   have H := HA.out
   clear HA
   simp only [spec_SegmentsOf.l0] at H
   by_cases c4 : x4_1 < (l0.length : Int)
   ·
    rw [if_pos c4] at H
    have c4b0 : decide (x4_1 < (l0.length : Int)) = true := decide_eq_true c4
    clear c4
    replace H := Option.bind_eq_some_iff.mp H
    obtain ⟨t336, A50, H⟩ := H
    replace H : (if t336 = true then (if 0 ≤ (wrap64 (x4_1 - 1)) then (if (wrap64 (x4_1 - 1)) < (l0.length : Int) then (if 0 ≤ x4_1 then (if x3_1.length < 4398046511104 then (spec_SegmentsOf.l0 k1 l0 (x3_1 ++ [(⟨(⟨(rd_T75 l0 (wrap64 (x4_1 - 1))).f0, (rd_T75 l0 (wrap64 (x4_1 - 1))).f1⟩ : S75), (⟨(rd_T75 l0 x4_1).f0, (rd_T75 l0 x4_1).f1⟩ : S75)⟩ : S101)]) (wrap64 (x4_1 + 1))) else (none)) else (none)) else (none)) else (none)) else (some x3_1)) = some r := H
    have A5 := Aside0.mk A50
    clear A50
    by_cases c6 : t336 = true
    ·
     subst c6
     have H1 : (if 0 ≤ (wrap64 (x4_1 - 1)) then (if (wrap64 (x4_1 - 1)) < (l0.length : Int) then (if 0 ≤ x4_1 then (if x3_1.length < 4398046511104 then (spec_SegmentsOf.l0 k1 l0 (x3_1 ++ [(⟨(⟨(rd_T75 l0 (wrap64 (x4_1 - 1))).f0, (rd_T75 l0 (wrap64 (x4_1 - 1))).f1⟩ : S75), (⟨(rd_T75 l0 x4_1).f0, (rd_T75 l0 x4_1).f1⟩ : S75)⟩ : S101)]) (wrap64 (x4_1 + 1))) else (none)) else (none)) else (none)) else (none)) = some r := by rw [if_pos rfl] at H; exact H
     clear H
     have H := H1
     clear H1
     obtain ⟨ji7, hji7⟩ : ∃ j_ : Int, (wrap64 (x4_1 - 1)) = j_ := ⟨_, rfl⟩
     replace H : (if 0 ≤ (ji7) then (if (ji7) < (l0.length : Int) then (if 0 ≤ x4_1 then (if x3_1.length < 4398046511104 then (spec_SegmentsOf.l0 k1 l0 (x3_1 ++ [(⟨(⟨(rd_T75 l0 (ji7)).f0, (rd_T75 l0 (ji7)).f1⟩ : S75), (⟨(rd_T75 l0 x4_1).f0, (rd_T75 l0 x4_1).f1⟩ : S75)⟩ : S101)]) (wrap64 (x4_1 + 1))) else (none)) else (none)) else (none)) else (none)) = some r := by first | (rw [hji7] at H; exact H) | (simp only [hji7] at H ⊢; exact H)
     (try rw [hji7] at A5)
     have hji7w : (IntKind.i64.wrap (x4_1 - 1)) = ji7 := (i64_w _).trans hji7
     by_cases c8 : 0 ≤ (ji7)
     ·
      rw [if_pos c8] at H
      have c8b0 : decide (0 ≤ (ji7)) = true := decide_eq_true c8
      clear c8
      by_cases c9 : (ji7) < (l0.length : Int)
      ·
       rw [if_pos c9] at H
       have c9b0 : decide ((ji7) < (l0.length : Int)) = true := decide_eq_true c9
       clear c9
       by_cases c10 : 0 ≤ x4_1
       ·
        rw [if_pos c10] at H
        have c10b0 : decide (0 ≤ x4_1) = true := decide_eq_true c10
        clear c10
        by_cases c11 : x3_1.length < 4398046511104
        ·
         rw [if_pos c11] at H
         have LMc11 := Aside0.mk c11
         clear c11
         obtain ⟨y339, hy339⟩ : ∃ y_ : List (S101), y_ = (x3_1 ++ [(⟨(⟨(rd_T75 l0 (ji7)).f0, (rd_T75 l0 (ji7)).f1⟩ : S75), (⟨(rd_T75 l0 x4_1).f0, (rd_T75 l0 x4_1).f1⟩ : S75)⟩ : S101)]) := ⟨_, rfl⟩
         replace H : (spec_SegmentsOf.l0 k1 l0 y339 (wrap64 (x4_1 + 1))) = some r := by first | (rw [hy339]; with_reducible exact H) | (have H2_ := (Option.bind_some _ _).symm.trans H; rw [hy339]; with_reducible exact H2_) | (have H2_ := (Option.bind_some _ _).symm.trans H; with_reducible exact H2_) | with_reducible exact H | (rw [hy339]; exact H) | exact H
         have Ny339 := Aside0.mk hy339
         clear hy339
         have H' := Aside0.mk H
         clear H
         try go_wp2_with (first | (go_at_call 97; (with_reducible refine (spec_IsLine.calls k1 _ _ l0 true _ ?side1 ?side2 A5.out).mono ?_); (case side1 => repeat (first | exact (Kd.C_below HR0.out HB.out) | (with_reducible refine Kd.C_alloc ?_ _) | (with_reducible refine Kd.C_drewN ?_ _) | (with_reducible refine Kd.C_drew ?_))); (case side2 => exact HC0.out); rintro e w12 ⟨rfl, hb⟩; replace HO_3 := Aside0.mk (Kd.R_below (Hd.r_ HO_3) hb); replace HB := Aside0.mk (below_step Hd.b_ hb); (try clear hb); (try clear hb2); (try clear hk); (try clear hi)))
         replace HO_3 := Aside0.mk (Kd.R_drew HO_3.out)
         replace HB := Aside0.mk (below_drew1 HB.out)
         have p337 : 0 ≤ ((ji7) : Int) := of_decide_eq_true Hd.a_
         have q337 : (ji7) < (l0.length : Int) := of_decide_eq_true Hd.a_
         obtain ⟨ad337, e337, hx337_0, hx337_1⟩ := at_T75 HR0.out (ji7) p337 q337
         have hw337_1 := hx337_1
         have hw337_0 := hx337_0
         cases e337
         replace hx337_0 := (HB.out.cell (World.block_lt_of_cell? w _ hx337_0)).trans hx337_0
         replace hx337_1 := (HB.out.cell (World.block_lt_of_cell? w _ hx337_1)).trans hx337_1
         replace p337 := eq_true p337
         replace q337 := eq_true q337
         have p338 : 0 ≤ (x4_1 : Int) := of_decide_eq_true Hd.a_
         have q338 : x4_1 < (l0.length : Int) := of_decide_eq_true Hd.a_
         obtain ⟨ad338, e338, hx338_0, hx338_1⟩ := at_T75 HR0.out x4_1 p338 q338
         have hw338_1 := hx338_1
         have hw338_0 := hx338_0
         obtain rfl : ad337 = ad338 := (by injection e338)
         replace hx338_0 := (HB.out.cell (World.block_lt_of_cell? w _ hx338_0)).trans hx338_0
         replace hx338_1 := (HB.out.cell (World.block_lt_of_cell? w _ hx338_1)).trans hx338_1
         replace p338 := eq_true p338
         replace q338 := eq_true q338
         refine start_ (n := 14) (S := fun w' => w'.cell? (ad337.add (((ji7)).toNat * 2)) = some (.int .i64 ((rd_T75 l0 (ji7)).f0)) ∧ w'.cell? ⟨(ad337.add (((ji7)).toNat * 2)).block, (ad337.add (((ji7)).toNat * 2)).off + 1, none⟩ = some (.int .i64 ((rd_T75 l0 (ji7)).f1)) ∧ w'.cell? (ad337.add ((x4_1).toNat * 2)) = some (.int .i64 ((rd_T75 l0 x4_1).f0)) ∧ w'.cell? ⟨(ad337.add ((x4_1).toNat * 2)).block, (ad337.add ((x4_1).toNat * 2)).off + 1, none⟩ = some (.int .i64 ((rd_T75 l0 x4_1).f1))) (ds := []) #[false, false, false, false, false, false, false, false, false, false, false, false, false, false] (by kernel_rfl) rfl rfl ⟨((HB.out.cell (World.block_lt_of_cell? w _ hw337_0)).trans hw337_0), ((HB.out.cell (World.block_lt_of_cell? w _ hw337_1)).trans hw337_1), ((HB.out.cell (World.block_lt_of_cell? w _ hw338_0)).trans hw338_0), ((HB.out.cell (World.block_lt_of_cell? w _ hw338_1)).trans hw338_1)⟩ (fun hHeld => ?_); refine with_tabW spec_SegmentsOf.tab5 spec_SegmentsOf.bits5 (fun HT_ HW_ => ?_)
         generalize w12.drew = w13 at HO_3 HB hx337_0 hx337_1 hx338_0 hx338_1 hHeld ⊢
         refine Hd.p_ HT_ 0 (some 16) #[true, false, false, false, false, false, false, false, false, false, false, false, false, false] ?_
         refine Hd.p_ HT_ 1 (some 17) #[true, true, false, false, false, false, false, false, false, false, false, false, false, false] ?_
         refine Hd.p_ HT_ 2 (some 18) #[true, true, true, false, false, false, false, false, false, false, false, false, false, false] ?_
         refine Hd.p_ HT_ 3 (some 19) #[true, true, true, true, false, false, false, false, false, false, false, false, false, false] ?_
         refine Hd.p_ HT_ 4 (some 20) #[true, true, true, true, true, false, false, false, false, false, false, false, false, false] ?_
         refine Hd.p_ HT_ 6 (some 22) #[true, true, true, true, true, false, true, false, false, false, false, false, false, false] ?_
         refine Hd.p_ HT_ 7 (some 23) #[true, true, true, true, true, false, true, true, false, false, false, false, false, false] ?_
         refine Hd.p_ HT_ 8 (some 24) #[true, true, true, true, true, false, true, true, true, false, false, false, false, false] ?_
         refine Hd.t_ HT_ HW_ hHeld 5 (some 21) #[true, true, true, true, true, true, true, true, true, false, false, false, false, false] ?_
         refine Hd.t_ HT_ HW_ hHeld 9 (some 25) #[true, true, true, true, true, true, true, true, true, true, false, false, false, false] ?_
         refine Hd.p_ HT_ 10 (some 26) #[true, true, true, true, true, true, true, true, true, true, true, false, false, false] ?_
         refine Hd.o_ HT_ 11 (some 27) #[true, true, true, true, true, true, true, true, true, true, true, true, false, false] (fun K hK => ?_)
         refine value_ (w1 := ?_) (v := ?_) (by rfl) rfl ?_ ?_
         rotate_left 2
         ·
          go_simp
          constructor
          ·
           rfl
          ·
           rfl
         refine hK.out _ _ ⟨(World.cell?_alloc_lt _ _ _ (World.block_lt_of_cell? _ _ (((HB.out.cell (World.block_lt_of_cell? w _ hw337_0)).trans hw337_0)))).trans (((HB.out.cell (World.block_lt_of_cell? w _ hw337_0)).trans hw337_0)), (World.cell?_alloc_lt _ _ _ (World.block_lt_of_cell? _ _ (((HB.out.cell (World.block_lt_of_cell? w _ hw337_1)).trans hw337_1)))).trans (((HB.out.cell (World.block_lt_of_cell? w _ hw337_1)).trans hw337_1)), (World.cell?_alloc_lt _ _ _ (World.block_lt_of_cell? _ _ (((HB.out.cell (World.block_lt_of_cell? w _ hw338_0)).trans hw338_0)))).trans (((HB.out.cell (World.block_lt_of_cell? w _ hw338_0)).trans hw338_0)), (World.cell?_alloc_lt _ _ _ (World.block_lt_of_cell? _ _ (((HB.out.cell (World.block_lt_of_cell? w _ hw338_1)).trans hw338_1)))).trans (((HB.out.cell (World.block_lt_of_cell? w _ hw338_1)).trans hw338_1))⟩ (fun hHeld => ?_)
         clear hK K
         refine Hd.n_ (some 27) ?_
         refine Hd.o_ HT_ 12 (some 28) #[true, true, true, true, true, true, true, true, true, true, true, true, true, false] (fun K hK => ?_)
         refine Kd.R_append_step k101 (w0 := w) w.heap.size (by rfl) (.tmp 16) (.tmp 27) 79 101 (.agg #[(.int .i64 0), (.int .i64 0), (.int .i64 0), (.int .i64 0)]) 32 rfl Try.underlying79 info101 rfl (by decide) (by omega) u3 x3_1 (⟨(⟨(rd_T75 l0 (ji7)).f0, (rd_T75 l0 (ji7)).f1⟩ : S75), (⟨(rd_T75 l0 x4_1).f0, (rd_T75 l0 x4_1).f1⟩ : S75)⟩ : S101) [.int .i64 ((rd_T75 l0 (ji7)).f0), .int .i64 ((rd_T75 l0 (ji7)).f1), .int .i64 ((rd_T75 l0 x4_1).f0), .int .i64 ((rd_T75 l0 x4_1).f1)] (fun _ => True) (fun _ => False) rfl rfl ?aP (fun _ hk => hk.elim) ?aF ?aO ?aB ?aS ?aL ?_
         (case aP => exact k101_mkM _ _ _ (⟨(⟨(rd_T75 l0 (ji7)).f0, (rd_T75 l0 (ji7)).f1⟩ : S75), (⟨(rd_T75 l0 x4_1).f0, (rd_T75 l0 x4_1).f1⟩ : S75)⟩ : S101))
         (case aB => exact Hd.b_)
         (case aF => exact (fun _ _ => trivial))
         (case aO => exact (Hd.r_ HO_3))
         (case aS => exact (below_size Hd.b_))
         (case aL => have := LMc11.out; omega)
         intro v340 w14 ho hb hg hat
         rw [← Ny339.out] at ho
         have n0_ := Aside0.mk (hb)
         have n1_ := Aside0.mk (ho)
         clear HB
         clear HO_3
         have HB := n0_
         have HO341 := n1_
         clear n0_ n1_
         clear ho hb hg hat
         refine hK.out _ _ ⟨((HB.out.cell (World.block_lt_of_cell? w _ hw337_0)).trans hw337_0), ((HB.out.cell (World.block_lt_of_cell? w _ hw337_1)).trans hw337_1), ((HB.out.cell (World.block_lt_of_cell? w _ hw338_0)).trans hw338_0), ((HB.out.cell (World.block_lt_of_cell? w _ hw338_1)).trans hw338_1)⟩ (fun hHeld => ?_)
         clear hK K
         refine Hd.n_ (some 28) ?_
         refine Hd.p_ HT_ 13 (some 3) #[true, true, true, true, true, true, true, true, true, true, true, true, true, true] ?_
         refine done_ (done_of HT_.out (by kernel_rfl)) ?_
         try go_wp2
         go_roundg k1
         case measure => have := HK1.out; omega
         case rel => exact ⟨(y339), (wrap64 (x4_1 + 1)), (by first | rfl | (simp; done) | (simp [*]; done)), H', ⟨by have := HK1.out; omega⟩, ⟨by (with_reducible repeat (first | apply Kd.R_alloc | apply Kd.R_drewN | apply Kd.R_drew)); exact HO341.out⟩, ⟨Hd.b_⟩⟩
        ·
         rw [if_neg c11] at H
         exact absurd H (by simp)
       ·
        rw [if_neg c10] at H
        exact absurd H (by simp)
      ·
       rw [if_neg c9] at H
       exact absurd H (by simp)
     ·
      rw [if_neg c8] at H
      exact absurd H (by simp)
    ·
     replace c6 := Bool.eq_false_iff.mpr c6
     subst c6
     have H1 : (some x3_1) = some r := by rw [if_neg (show ¬ (false = true) by decide)] at H; exact H
     clear H
     have H := H1
     clear H1
     obtain rfl := Option.some.inj H
     go_wp2_with (first | (go_at_call 97; (with_reducible refine (spec_IsLine.calls k1 _ _ l0 false _ ?side1 ?side2 A5.out).mono ?_); (case side1 => repeat (first | exact (Kd.C_below HR0.out HB.out) | (with_reducible refine Kd.C_alloc ?_ _) | (with_reducible refine Kd.C_drewN ?_ _) | (with_reducible refine Kd.C_drew ?_))); (case side2 => exact HC0.out); rintro e w15 ⟨rfl, hb⟩; replace HO_3 := Aside0.mk (Kd.R_below (Hd.r_ HO_3) hb); replace HB := Aside0.mk (below_step Hd.b_ hb); (try clear hb); (try clear hb2); (try clear hk); (try clear hi)))
     go_ret
     exact ⟨_, Hd.e_, by (with_reducible repeat (first | apply Kd.R_alloc | apply Kd.R_drewN | apply Kd.R_drew)); exact HO_3.out, Hd.b_⟩
   ·
    rw [if_neg c4] at H
    have c4b0 : decide (x4_1 < (l0.length : Int)) = false := decide_eq_false c4
    clear c4
    obtain rfl := Option.some.inj H
    go_wp2
    go_ret
    exact ⟨_, Hd.e_, by (with_reducible repeat (first | apply Kd.R_alloc | apply Kd.R_drewN | apply Kd.R_drew)); exact HO_3.out, Hd.b_⟩
def spec_IsSegment.f (a0_0 : Int) (a0_1 : Int) (a0_2 : Int) (a0_3 : Int) : Option (Bool) := (spec_IsPoint.f a0_0 a0_1).bind fun t343 => (if t343 = true then ((spec_IsPoint.f a0_2 a0_3).bind fun t344 => (if t344 = true then (some (!(a0_0 == a0_2) || (!(a0_1 == a0_3)))) else (some false))) else (some false))
set_option maxHeartbeats 8000000 in
set_option maxRecDepth 100000 in
theorem spec_IsSegment.calls (a0_0 : Int) (a0_1 : Int) (a0_2 : Int) (a0_3 : Int) (r : Bool) (w : World) (h : spec_IsSegment.f a0_0 a0_1 a0_2 a0_3 = some r) :
  Calls Try.prog 99 #[.agg #[.int .i64 a0_0, .int .i64 a0_1, .int .i64 a0_2, .int .i64 a0_3]] w fun e w' => e = .returned (.bool r) ∧ Below w.heap.size w w' := by
 have hu101 := Try.underlying101
 have hu75 := Try.underlying75
 have HB := Aside0.mk (Below.refl w.heap.size w)
 have H : ((spec_IsPoint.f a0_0 a0_1).bind fun t343 => (if t343 = true then ((spec_IsPoint.f a0_2 a0_3).bind fun t344 => (if t344 = true then (some (!(a0_0 == a0_2) || (!(a0_1 == a0_3)))) else (some false))) else (some false))) = some r := h
 clear h
 replace H := Option.bind_eq_some_iff.mp H
 obtain ⟨t343, A20, H⟩ := H
 replace H : (if t343 = true then ((spec_IsPoint.f a0_2 a0_3).bind fun t344 => (if t344 = true then (some (!(a0_0 == a0_2) || (!(a0_1 == a0_3)))) else (some false))) else (some false)) = some r := H
 have A2 := Aside0.mk A20
 clear A20
 by_cases c3 : t343 = true
 ·
  subst c3
  have H1 : ((spec_IsPoint.f a0_2 a0_3).bind fun t344 => (if t344 = true then (some (!(a0_0 == a0_2) || (!(a0_1 == a0_3)))) else (some false))) = some r := by rw [if_pos rfl] at H; exact H
  clear H
  have H := H1
  clear H1
  replace H := Option.bind_eq_some_iff.mp H
  obtain ⟨t344, A40, H⟩ := H
  replace H : (if t344 = true then (some (!(a0_0 == a0_2) || (!(a0_1 == a0_3)))) else (some false)) = some r := H
  have A4 := Aside0.mk A40
  clear A40
  by_cases c5 : t344 = true
  ·
   subst c5
   have H1 : (some (!(a0_0 == a0_2) || (!(a0_1 == a0_3)))) = some r := by rw [if_pos rfl] at H; exact H
   clear H
   have H := H1
   clear H1
   obtain rfl := Option.some.inj H
   go_enter Try.func99, Try.ntmps99
   go_wp2_with (first | ((with_reducible refine gate_dst (N := 1) rfl ?_); refine Hd.box_ 1 (#[.int .i64 a0_0, .int .i64 a0_1, .int .i64 a0_2, .int .i64 a0_3]) 101 ?_; intro gb342 hg w6 hbox hb; have BK342 := Aside0.mk (hbox); have GW342 := Aside0.mk ((Hd.g_ hg Hd.b_ : w.heap.size ≤ gb342)); have GE342 := Aside0.mk ((Hd.g_ hg Hd.b_ : w.heap.size ≤ gb342)); replace HB := Aside0.mk (below_step Hd.b_ hb); clear hb hbox hg; obtain ⟨hcz7_0, hcz7_1, hcz7_2, hcz7_3⟩ := Hd.c4_ BK342.out; obtain ⟨hfz7_0, hfz7_1, hfz7_2, hfz7_3⟩ := Hd.f4_ BK342.out) | ((with_reducible refine gate_callee (f := 81) rfl ?_); refine goesL_ (some 5) rfl rfl Try.func81 (by kernel_rfl) rfl #[.agg #[.int .i64 a0_0, .int .i64 a0_1]] rfl Hd.m_ ?_; (with_reducible refine (spec_IsPoint.calls a0_0 a0_1 true _ A2.out).mono ?_); rintro e w8 ⟨rfl, hb⟩; refine ⟨_, rfl, ?_⟩; replace BK342 := Aside0.mk (Hd.kb_ BK342 hb); replace HB := Aside0.mk (below_step Hd.b_ hb); (try clear hb); (try clear hb2); (try clear hk); (try clear hi); obtain ⟨hcz9_0, hcz9_1, hcz9_2, hcz9_3⟩ := Hd.c4_ BK342.out; obtain ⟨hfz9_0, hfz9_1, hfz9_2, hfz9_3⟩ := Hd.f4_ BK342.out) | (go_at_call 81; (with_reducible refine (spec_IsPoint.calls a0_2 a0_3 true _ A4.out).mono ?_); rintro e w10 ⟨rfl, hb⟩; replace BK342 := Aside0.mk (Hd.kb_ BK342 hb); replace HB := Aside0.mk (below_step Hd.b_ hb); (try clear hb); (try clear hb2); (try clear hk); (try clear hi); obtain ⟨hcz11_0, hcz11_1, hcz11_2, hcz11_3⟩ := Hd.c4_ BK342.out; obtain ⟨hfz11_0, hfz11_1, hfz11_2, hfz11_3⟩ := Hd.f4_ BK342.out))
   go_ret
   exact ⟨Hd.e_, Hd.b_⟩
  ·
   replace c5 := Bool.eq_false_iff.mpr c5
   subst c5
   have H1 : (some false) = some r := by rw [if_neg (show ¬ (false = true) by decide)] at H; exact H
   clear H
   have H := H1
   clear H1
   obtain rfl := Option.some.inj H
   go_enter Try.func99, Try.ntmps99
   go_wp2_with (first | ((with_reducible refine gate_dst (N := 1) rfl ?_); refine Hd.box_ 1 (#[.int .i64 a0_0, .int .i64 a0_1, .int .i64 a0_2, .int .i64 a0_3]) 101 ?_; intro gb342 hg w12 hbox hb; have BK342 := Aside0.mk (hbox); have GW342 := Aside0.mk ((Hd.g_ hg Hd.b_ : w.heap.size ≤ gb342)); have GE342 := Aside0.mk ((Hd.g_ hg Hd.b_ : w.heap.size ≤ gb342)); replace HB := Aside0.mk (below_step Hd.b_ hb); clear hb hbox hg; obtain ⟨hcz13_0, hcz13_1, hcz13_2, hcz13_3⟩ := Hd.c4_ BK342.out; obtain ⟨hfz13_0, hfz13_1, hfz13_2, hfz13_3⟩ := Hd.f4_ BK342.out) | ((with_reducible refine gate_callee (f := 81) rfl ?_); refine goesL_ (some 5) rfl rfl Try.func81 (by kernel_rfl) rfl #[.agg #[.int .i64 a0_0, .int .i64 a0_1]] rfl Hd.m_ ?_; (with_reducible refine (spec_IsPoint.calls a0_0 a0_1 true _ A2.out).mono ?_); rintro e w14 ⟨rfl, hb⟩; refine ⟨_, rfl, ?_⟩; replace BK342 := Aside0.mk (Hd.kb_ BK342 hb); replace HB := Aside0.mk (below_step Hd.b_ hb); (try clear hb); (try clear hb2); (try clear hk); (try clear hi); obtain ⟨hcz15_0, hcz15_1, hcz15_2, hcz15_3⟩ := Hd.c4_ BK342.out; obtain ⟨hfz15_0, hfz15_1, hfz15_2, hfz15_3⟩ := Hd.f4_ BK342.out) | (go_at_call 81; (with_reducible refine (spec_IsPoint.calls a0_2 a0_3 false _ A4.out).mono ?_); rintro e w16 ⟨rfl, hb⟩; replace BK342 := Aside0.mk (Hd.kb_ BK342 hb); replace HB := Aside0.mk (below_step Hd.b_ hb); (try clear hb); (try clear hb2); (try clear hk); (try clear hi)))
   go_ret
   exact ⟨Hd.e_, Hd.b_⟩
 ·
  replace c3 := Bool.eq_false_iff.mpr c3
  subst c3
  have H1 : (some false) = some r := by rw [if_neg (show ¬ (false = true) by decide)] at H; exact H
  clear H
  have H := H1
  clear H1
  obtain rfl := Option.some.inj H
  go_enter Try.func99, Try.ntmps99
  go_wp2_with (first | ((with_reducible refine gate_dst (N := 1) rfl ?_); refine Hd.box_ 1 (#[.int .i64 a0_0, .int .i64 a0_1, .int .i64 a0_2, .int .i64 a0_3]) 101 ?_; intro gb342 hg w17 hbox hb; have BK342 := Aside0.mk (hbox); have GW342 := Aside0.mk ((Hd.g_ hg Hd.b_ : w.heap.size ≤ gb342)); have GE342 := Aside0.mk ((Hd.g_ hg Hd.b_ : w.heap.size ≤ gb342)); replace HB := Aside0.mk (below_step Hd.b_ hb); clear hb hbox hg; obtain ⟨hcz18_0, hcz18_1, hcz18_2, hcz18_3⟩ := Hd.c4_ BK342.out; obtain ⟨hfz18_0, hfz18_1, hfz18_2, hfz18_3⟩ := Hd.f4_ BK342.out) | ((with_reducible refine gate_callee (f := 81) rfl ?_); refine goesL_ (some 5) rfl rfl Try.func81 (by kernel_rfl) rfl #[.agg #[.int .i64 a0_0, .int .i64 a0_1]] rfl Hd.m_ ?_; (with_reducible refine (spec_IsPoint.calls a0_0 a0_1 false _ A2.out).mono ?_); rintro e w19 ⟨rfl, hb⟩; refine ⟨_, rfl, ?_⟩; replace BK342 := Aside0.mk (Hd.kb_ BK342 hb); replace HB := Aside0.mk (below_step Hd.b_ hb); (try clear hb); (try clear hb2); (try clear hk); (try clear hi)))
  go_ret
  exact ⟨Hd.e_, Hd.b_⟩
def spec_Min.f (a0 : Int) (a1 : Int) : Option (Int) := if a1 < a0 then (some a1) else (some a0)
set_option maxHeartbeats 8000000 in
set_option maxRecDepth 100000 in
theorem spec_Min.calls (a0 : Int) (a1 : Int) (r : Int) (w : World) (h : spec_Min.f a0 a1 = some r) :
  Calls Try.prog 104 #[.int .i64 a0, .int .i64 a1] w fun e w' => e = .returned (.int .i64 r) ∧ Drawn0 w w' := by
 have H : (if a1 < a0 then (some a1) else (some a0)) = some r := h
 clear h
 by_cases c3 : a1 < a0
 ·
  rw [if_pos c3] at H
  have c3b0 : decide (a1 < a0) = true := decide_eq_true c3
  clear c3
  obtain rfl := Option.some.inj H
  go_enter Try.func104, Try.ntmps104
  go_wp2
  go_ret
  exact ⟨by first | rfl | (simp; done) | (simp [*]; done), by repeat (first | exact Drawn0.refl _ | apply Drawn0.step)⟩
 ·
  rw [if_neg c3] at H
  have c3b0 : decide (a1 < a0) = false := decide_eq_false c3
  clear c3
  obtain rfl := Option.some.inj H
  go_enter Try.func104, Try.ntmps104
  go_wp2
  go_ret
  exact ⟨by first | rfl | (simp; done) | (simp [*]; done), by repeat (first | exact Drawn0.refl _ | apply Drawn0.step)⟩
def spec_Max.f (a0 : Int) (a1 : Int) : Option (Int) := if a1 > a0 then (some a1) else (some a0)
set_option maxHeartbeats 8000000 in
set_option maxRecDepth 100000 in
theorem spec_Max.calls (a0 : Int) (a1 : Int) (r : Int) (w : World) (h : spec_Max.f a0 a1 = some r) :
  Calls Try.prog 109 #[.int .i64 a0, .int .i64 a1] w fun e w' => e = .returned (.int .i64 r) ∧ Drawn0 w w' := by
 have H : (if a1 > a0 then (some a1) else (some a0)) = some r := h
 clear h
 by_cases c3 : a1 > a0
 ·
  rw [if_pos c3] at H
  have c3b0 : decide (a0 < a1) = true := decide_eq_true c3
  clear c3
  obtain rfl := Option.some.inj H
  go_enter Try.func109, Try.ntmps109
  go_wp2
  go_ret
  exact ⟨by first | rfl | (simp; done) | (simp [*]; done), by repeat (first | exact Drawn0.refl _ | apply Drawn0.step)⟩
 ·
  rw [if_neg c3] at H
  have c3b0 : decide (a0 < a1) = false := decide_eq_false c3
  clear c3
  obtain rfl := Option.some.inj H
  go_enter Try.func109, Try.ntmps109
  go_wp2
  go_ret
  exact ⟨by first | rfl | (simp; done) | (simp [*]; done), by repeat (first | exact Drawn0.refl _ | apply Drawn0.step)⟩
def spec_l4Cross.f (a0_0 : Int) (a0_1 : Int) (a1_0 : Int) (a1_1 : Int) (a2_0 : Int) (a2_1 : Int) : Option (Int) := some (wrap64 ((wrap64 ((wrap64 (a1_0 - a0_0)) * (wrap64 (a2_1 - a0_1)))) - (wrap64 ((wrap64 (a1_1 - a0_1)) * (wrap64 (a2_0 - a0_0))))))
set_option maxHeartbeats 8000000 in
set_option maxRecDepth 100000 in
theorem spec_l4Cross.calls (a0_0 : Int) (a0_1 : Int) (a1_0 : Int) (a1_1 : Int) (a2_0 : Int) (a2_1 : Int) (r : Int) (w : World) (h : spec_l4Cross.f a0_0 a0_1 a1_0 a1_1 a2_0 a2_1 = some r) :
  Calls Try.prog 115 #[.agg #[.int .i64 a0_0, .int .i64 a0_1], .agg #[.int .i64 a1_0, .int .i64 a1_1], .agg #[.int .i64 a2_0, .int .i64 a2_1]] w fun e w' => e = .returned (.int .i64 r) ∧ Below w.heap.size w w' := by
 have hu75 := Try.underlying75
 have HB := Aside0.mk (Below.refl w.heap.size w)
 have H : (some (wrap64 ((wrap64 ((wrap64 (a1_0 - a0_0)) * (wrap64 (a2_1 - a0_1)))) - (wrap64 ((wrap64 (a1_1 - a0_1)) * (wrap64 (a2_0 - a0_0))))))) = some r := h
 clear h
 obtain rfl := Option.some.inj H
 go_enter Try.func115, Try.ntmps115
 go_wp2_with (first | ((with_reducible refine gate_dst (N := 3) rfl ?_); refine Hd.box_ 3 (#[.int .i64 a0_0, .int .i64 a0_1]) 75 ?_; intro gb345 hg w4 hbox hb; have BK345 := Aside0.mk (hbox); have GW345 := Aside0.mk ((Hd.g_ hg Hd.b_ : w.heap.size ≤ gb345)); have GE345 := Aside0.mk ((Hd.g_ hg Hd.b_ : w.heap.size ≤ gb345)); replace HB := Aside0.mk (below_step Hd.b_ hb); clear hb hbox hg) | ((with_reducible refine gate_dst (N := 4) rfl ?_); refine Hd.box_ 4 (#[.int .i64 a1_0, .int .i64 a1_1]) 75 ?_; intro gb346 hg w5 hbox hb; have BK346 := Aside0.mk (hbox); have GW346 := Aside0.mk ((Hd.g_ hg Hd.b_ : w.heap.size ≤ gb346)); have GE346 := Aside0.mk ((Hd.g_ hg Hd.b_ : w.heap.size ≤ gb346)); replace HB := Aside0.mk (below_step Hd.b_ hb); have NB345_346 := Aside0.mk ((Hd.lt_ BK345 hg)); have NB346_345 := Aside0.mk ((Hd.gt_ BK345 hg)); replace BK345 := Aside0.mk (Hd.kb_ BK345 hb); clear hb hbox hg) | ((with_reducible refine gate_dst (N := 5) rfl ?_); refine Hd.box_ 5 (#[.int .i64 a2_0, .int .i64 a2_1]) 75 ?_; intro gb347 hg w6 hbox hb; have BK347 := Aside0.mk (hbox); have GW347 := Aside0.mk ((Hd.g_ hg Hd.b_ : w.heap.size ≤ gb347)); have GE347 := Aside0.mk ((Hd.g_ hg Hd.b_ : w.heap.size ≤ gb347)); replace HB := Aside0.mk (below_step Hd.b_ hb); have NB345_347 := Aside0.mk ((Hd.lt_ BK345 hg)); have NB347_345 := Aside0.mk ((Hd.gt_ BK345 hg)); replace BK345 := Aside0.mk (Hd.kb_ BK345 hb); have NB346_347 := Aside0.mk ((Hd.lt_ BK346 hg)); have NB347_346 := Aside0.mk ((Hd.gt_ BK346 hg)); replace BK346 := Aside0.mk (Hd.kb_ BK346 hb); clear hb hbox hg; have hnb7 := NB346_345.out; have hnc7 := NB345_346.out; have hnb8 := NB346_347.out; have hnc8 := NB347_346.out; obtain ⟨hcz9_0, hcz9_1⟩ := Hd.c2_ BK346.out; obtain ⟨hfz9_0, hfz9_1⟩ := Hd.f2_ BK346.out; have hnb10 := NB345_347.out; have hnc10 := NB347_345.out; obtain ⟨hcz11_0, hcz11_1⟩ := Hd.c2_ BK345.out; obtain ⟨hfz11_0, hfz11_1⟩ := Hd.f2_ BK345.out; obtain ⟨hcz12_0, hcz12_1⟩ := Hd.c2_ BK347.out; obtain ⟨hfz12_0, hfz12_1⟩ := Hd.f2_ BK347.out))
 go_ret
 exact ⟨Hd.e_, Hd.b_⟩
def spec_IsOn.f (a0_0 : Int) (a0_1 : Int) (a0_2 : Int) (a0_3 : Int) (a1_0 : Int) (a1_1 : Int) : Option (Bool) := (spec_IsSegment.f a0_0 a0_1 a0_2 a0_3).bind fun t350 => (if t350 = true then ((spec_IsPoint.f a1_0 a1_1).bind fun t351 => (if t351 = true then ((spec_l4Cross.f a0_0 a0_1 a0_2 a0_3 a1_0 a1_1).bind fun t352 => (if t352 = 0 then ((spec_Min.f a0_0 a0_2).bind fun t353 => ((spec_Max.f a0_0 a0_2).bind fun t354 => ((spec_l1In.f a1_0 t353 t354).bind fun t355 => (if t355 = true then ((spec_Min.f a0_1 a0_3).bind fun t356 => ((spec_Max.f a0_1 a0_3).bind fun t357 => ((spec_l1In.f a1_1 t356 t357).bind fun t358 => (some t358)))) else (some false))))) else (some false))) else (some false))) else (some false))
set_option maxHeartbeats 8000000 in
set_option maxRecDepth 100000 in
theorem spec_IsOn.calls (a0_0 : Int) (a0_1 : Int) (a0_2 : Int) (a0_3 : Int) (a1_0 : Int) (a1_1 : Int) (r : Bool) (w : World) (h : spec_IsOn.f a0_0 a0_1 a0_2 a0_3 a1_0 a1_1 = some r) :
  Calls Try.prog 114 #[.agg #[.int .i64 a0_0, .int .i64 a0_1, .int .i64 a0_2, .int .i64 a0_3], .agg #[.int .i64 a1_0, .int .i64 a1_1]] w fun e w' => e = .returned (.bool r) ∧ Below w.heap.size w w' := by
 have hu101 := Try.underlying101
 have hu75 := Try.underlying75
 have HB := Aside0.mk (Below.refl w.heap.size w)
 have H : ((spec_IsSegment.f a0_0 a0_1 a0_2 a0_3).bind fun t350 => (if t350 = true then ((spec_IsPoint.f a1_0 a1_1).bind fun t351 => (if t351 = true then ((spec_l4Cross.f a0_0 a0_1 a0_2 a0_3 a1_0 a1_1).bind fun t352 => (if t352 = 0 then ((spec_Min.f a0_0 a0_2).bind fun t353 => ((spec_Max.f a0_0 a0_2).bind fun t354 => ((spec_l1In.f a1_0 t353 t354).bind fun t355 => (if t355 = true then ((spec_Min.f a0_1 a0_3).bind fun t356 => ((spec_Max.f a0_1 a0_3).bind fun t357 => ((spec_l1In.f a1_1 t356 t357).bind fun t358 => (some t358)))) else (some false))))) else (some false))) else (some false))) else (some false))) = some r := h
 clear h
 replace H := Option.bind_eq_some_iff.mp H
 obtain ⟨t350, A30, H⟩ := H
 replace H : (if t350 = true then ((spec_IsPoint.f a1_0 a1_1).bind fun t351 => (if t351 = true then ((spec_l4Cross.f a0_0 a0_1 a0_2 a0_3 a1_0 a1_1).bind fun t352 => (if t352 = 0 then ((spec_Min.f a0_0 a0_2).bind fun t353 => ((spec_Max.f a0_0 a0_2).bind fun t354 => ((spec_l1In.f a1_0 t353 t354).bind fun t355 => (if t355 = true then ((spec_Min.f a0_1 a0_3).bind fun t356 => ((spec_Max.f a0_1 a0_3).bind fun t357 => ((spec_l1In.f a1_1 t356 t357).bind fun t358 => (some t358)))) else (some false))))) else (some false))) else (some false))) else (some false)) = some r := H
 have A3 := Aside0.mk A30
 clear A30
 by_cases c4 : t350 = true
 ·
  subst c4
  have H1 : ((spec_IsPoint.f a1_0 a1_1).bind fun t351 => (if t351 = true then ((spec_l4Cross.f a0_0 a0_1 a0_2 a0_3 a1_0 a1_1).bind fun t352 => (if t352 = 0 then ((spec_Min.f a0_0 a0_2).bind fun t353 => ((spec_Max.f a0_0 a0_2).bind fun t354 => ((spec_l1In.f a1_0 t353 t354).bind fun t355 => (if t355 = true then ((spec_Min.f a0_1 a0_3).bind fun t356 => ((spec_Max.f a0_1 a0_3).bind fun t357 => ((spec_l1In.f a1_1 t356 t357).bind fun t358 => (some t358)))) else (some false))))) else (some false))) else (some false))) = some r := by rw [if_pos rfl] at H; exact H
  clear H
  have H := H1
  clear H1
  replace H := Option.bind_eq_some_iff.mp H
  obtain ⟨t351, A50, H⟩ := H
  replace H : (if t351 = true then ((spec_l4Cross.f a0_0 a0_1 a0_2 a0_3 a1_0 a1_1).bind fun t352 => (if t352 = 0 then ((spec_Min.f a0_0 a0_2).bind fun t353 => ((spec_Max.f a0_0 a0_2).bind fun t354 => ((spec_l1In.f a1_0 t353 t354).bind fun t355 => (if t355 = true then ((spec_Min.f a0_1 a0_3).bind fun t356 => ((spec_Max.f a0_1 a0_3).bind fun t357 => ((spec_l1In.f a1_1 t356 t357).bind fun t358 => (some t358)))) else (some false))))) else (some false))) else (some false)) = some r := H
  have A5 := Aside0.mk A50
  clear A50
  by_cases c6 : t351 = true
  ·
   subst c6
   have H1 : ((spec_l4Cross.f a0_0 a0_1 a0_2 a0_3 a1_0 a1_1).bind fun t352 => (if t352 = 0 then ((spec_Min.f a0_0 a0_2).bind fun t353 => ((spec_Max.f a0_0 a0_2).bind fun t354 => ((spec_l1In.f a1_0 t353 t354).bind fun t355 => (if t355 = true then ((spec_Min.f a0_1 a0_3).bind fun t356 => ((spec_Max.f a0_1 a0_3).bind fun t357 => ((spec_l1In.f a1_1 t356 t357).bind fun t358 => (some t358)))) else (some false))))) else (some false))) = some r := by rw [if_pos rfl] at H; exact H
   clear H
   have H := H1
   clear H1
   replace H := Option.bind_eq_some_iff.mp H
   obtain ⟨t352, A70, H⟩ := H
   replace H : (if t352 = 0 then ((spec_Min.f a0_0 a0_2).bind fun t353 => ((spec_Max.f a0_0 a0_2).bind fun t354 => ((spec_l1In.f a1_0 t353 t354).bind fun t355 => (if t355 = true then ((spec_Min.f a0_1 a0_3).bind fun t356 => ((spec_Max.f a0_1 a0_3).bind fun t357 => ((spec_l1In.f a1_1 t356 t357).bind fun t358 => (some t358)))) else (some false))))) else (some false)) = some r := H
   have A7 := Aside0.mk A70
   clear A70
   by_cases c8 : t352 = 0
   ·
    rw [if_pos c8] at H
    have c8b0 : (t352 == 0) = true := beq_iff_eq.mpr c8
    have c8b1 : (t352 != 0) = false := bne_eq_false_iff_eq.mpr c8
    clear c8
    replace H := Option.bind_eq_some_iff.mp H
    obtain ⟨t353, A90, H⟩ := H
    replace H : ((spec_Max.f a0_0 a0_2).bind fun t354 => ((spec_l1In.f a1_0 t353 t354).bind fun t355 => (if t355 = true then ((spec_Min.f a0_1 a0_3).bind fun t356 => ((spec_Max.f a0_1 a0_3).bind fun t357 => ((spec_l1In.f a1_1 t356 t357).bind fun t358 => (some t358)))) else (some false)))) = some r := H
    have A9 := Aside0.mk A90
    clear A90
    replace H := Option.bind_eq_some_iff.mp H
    obtain ⟨t354, A100, H⟩ := H
    replace H : ((spec_l1In.f a1_0 t353 t354).bind fun t355 => (if t355 = true then ((spec_Min.f a0_1 a0_3).bind fun t356 => ((spec_Max.f a0_1 a0_3).bind fun t357 => ((spec_l1In.f a1_1 t356 t357).bind fun t358 => (some t358)))) else (some false))) = some r := H
    have A10 := Aside0.mk A100
    clear A100
    replace H := Option.bind_eq_some_iff.mp H
    obtain ⟨t355, A110, H⟩ := H
    replace H : (if t355 = true then ((spec_Min.f a0_1 a0_3).bind fun t356 => ((spec_Max.f a0_1 a0_3).bind fun t357 => ((spec_l1In.f a1_1 t356 t357).bind fun t358 => (some t358)))) else (some false)) = some r := H
    have A11 := Aside0.mk A110
    clear A110
    by_cases c12 : t355 = true
    ·
     subst c12
     have H1 : ((spec_Min.f a0_1 a0_3).bind fun t356 => ((spec_Max.f a0_1 a0_3).bind fun t357 => ((spec_l1In.f a1_1 t356 t357).bind fun t358 => (some t358)))) = some r := by rw [if_pos rfl] at H; exact H
     clear H
     have H := H1
     clear H1
     replace H := Option.bind_eq_some_iff.mp H
     obtain ⟨t356, A130, H⟩ := H
     replace H : ((spec_Max.f a0_1 a0_3).bind fun t357 => ((spec_l1In.f a1_1 t356 t357).bind fun t358 => (some t358))) = some r := H
     have A13 := Aside0.mk A130
     clear A130
     replace H := Option.bind_eq_some_iff.mp H
     obtain ⟨t357, A140, H⟩ := H
     replace H : ((spec_l1In.f a1_1 t356 t357).bind fun t358 => (some t358)) = some r := H
     have A14 := Aside0.mk A140
     clear A140
     replace H := Option.bind_eq_some_iff.mp H
     obtain ⟨t358, A150, H⟩ := H
     replace H : (some t358) = some r := H
     have A15 := Aside0.mk A150
     clear A150
     obtain rfl := Option.some.inj H
     go_enter Try.func114, Try.ntmps114
     try go_wp2_with (first | ((with_reducible refine gate_dst (N := 2) rfl ?_); refine Hd.box_ 2 (#[.int .i64 a0_0, .int .i64 a0_1, .int .i64 a0_2, .int .i64 a0_3]) 101 ?_; intro gb348 hg w16 hbox hb; have BK348 := Aside0.mk (hbox); have GW348 := Aside0.mk ((Hd.g_ hg Hd.b_ : w.heap.size ≤ gb348)); have GE348 := Aside0.mk ((Hd.g_ hg Hd.b_ : w.heap.size ≤ gb348)); replace HB := Aside0.mk (below_step Hd.b_ hb); clear hb hbox hg) | ((with_reducible refine gate_dst (N := 3) rfl ?_); refine Hd.box_ 3 (#[.int .i64 a1_0, .int .i64 a1_1]) 75 ?_; intro gb349 hg w17 hbox hb; have BK349 := Aside0.mk (hbox); have GW349 := Aside0.mk ((Hd.g_ hg Hd.b_ : w.heap.size ≤ gb349)); have GE349 := Aside0.mk ((Hd.g_ hg Hd.b_ : w.heap.size ≤ gb349)); replace HB := Aside0.mk (below_step Hd.b_ hb); have NB348_349 := Aside0.mk ((Hd.lt_ BK348 hg)); have NB349_348 := Aside0.mk ((Hd.gt_ BK348 hg)); replace BK348 := Aside0.mk (Hd.kb_ BK348 hb); clear hb hbox hg))
     replace BK348 := Aside0.mk (blk_drew BK348.out)
     replace BK349 := Aside0.mk (blk_drew BK349.out)
     replace HB := Aside0.mk (below_drew1 HB.out)
     obtain ⟨s0_, s1_, s2_, s3_⟩ := Hd.HW.k4 (W0 := w17.drew) BK348
     obtain ⟨s4_, s5_⟩ := Hd.HW.k2 (W0 := w17.drew) BK349
     refine Hd.HW.region (by kernel_rfl) (by kernel_rfl) ?_
     try dsimp only [List.append]
     repeat (go_big_quiet_step ((first | (go_at_call 99; with_reducible exact Hd.HW.c (spec_IsSegment.calls a0_0 a0_1 a0_2 a0_3 true _ A3.out)) | (go_at_call 81; with_reducible exact Hd.HW.c (spec_IsPoint.calls a1_0 a1_1 true _ A5.out)) | (go_at_call 115; with_reducible exact Hd.HW.c (spec_l4Cross.calls a0_0 a0_1 a0_2 a0_3 a1_0 a1_1 t352 _ A7.out)) | (go_at_call 104; with_reducible exact Hd.HW.d (spec_Min.calls a0_0 a0_2 t353 _ A9.out)) | (go_at_call 109; with_reducible exact Hd.HW.d (spec_Max.calls a0_0 a0_2 t354 _ A10.out)) | (go_at_call 79; with_reducible exact Hd.HW.d (spec_l1In.calls a1_0 t353 t354 true _ A11.out)) | (go_at_call 104; with_reducible exact Hd.HW.d (spec_Min.calls a0_1 a0_3 t356 _ A13.out)) | (go_at_call 109; with_reducible exact Hd.HW.d (spec_Max.calls a0_1 a0_3 t357 _ A14.out)) | (go_at_call 79; with_reducible exact Hd.HW.d (spec_l1In.calls a1_1 t356 t357 t358 _ A15.out)))))
     refine wpQuiet_nil ?_
     intro _ hq_
     obtain ⟨q_, rfl⟩ := hq_
     clear s0_ s1_ s2_ s3_ s4_ s5_
     replace BK348 := Aside0.mk (blk_below BK348.out q_.b)
     replace BK349 := Aside0.mk (blk_below BK349.out q_.b)
     replace HB := Aside0.mk (below_step HB.out q_.b)
     generalize q_.W = w21 at BK348 BK349 HB ⊢
     try simp only [i64_w, i32_w]
     try go_wp2
     go_ret
     exact ⟨Hd.e_, Hd.b_⟩
    ·
     replace c12 := Bool.eq_false_iff.mpr c12
     subst c12
     have H1 : (some false) = some r := by rw [if_neg (show ¬ (false = true) by decide)] at H; exact H
     clear H
     have H := H1
     clear H1
     obtain rfl := Option.some.inj H
     go_enter Try.func114, Try.ntmps114
     try go_wp2_with (first | ((with_reducible refine gate_dst (N := 2) rfl ?_); refine Hd.box_ 2 (#[.int .i64 a0_0, .int .i64 a0_1, .int .i64 a0_2, .int .i64 a0_3]) 101 ?_; intro gb348 hg w22 hbox hb; have BK348 := Aside0.mk (hbox); have GW348 := Aside0.mk ((Hd.g_ hg Hd.b_ : w.heap.size ≤ gb348)); have GE348 := Aside0.mk ((Hd.g_ hg Hd.b_ : w.heap.size ≤ gb348)); replace HB := Aside0.mk (below_step Hd.b_ hb); clear hb hbox hg) | ((with_reducible refine gate_dst (N := 3) rfl ?_); refine Hd.box_ 3 (#[.int .i64 a1_0, .int .i64 a1_1]) 75 ?_; intro gb349 hg w23 hbox hb; have BK349 := Aside0.mk (hbox); have GW349 := Aside0.mk ((Hd.g_ hg Hd.b_ : w.heap.size ≤ gb349)); have GE349 := Aside0.mk ((Hd.g_ hg Hd.b_ : w.heap.size ≤ gb349)); replace HB := Aside0.mk (below_step Hd.b_ hb); have NB348_349 := Aside0.mk ((Hd.lt_ BK348 hg)); have NB349_348 := Aside0.mk ((Hd.gt_ BK348 hg)); replace BK348 := Aside0.mk (Hd.kb_ BK348 hb); clear hb hbox hg))
     replace BK348 := Aside0.mk (blk_drew BK348.out)
     replace BK349 := Aside0.mk (blk_drew BK349.out)
     replace HB := Aside0.mk (below_drew1 HB.out)
     obtain ⟨s0_, s1_, s2_, s3_⟩ := Hd.HW.k4 (W0 := w23.drew) BK348
     obtain ⟨s4_, s5_⟩ := Hd.HW.k2 (W0 := w23.drew) BK349
     refine Hd.HW.region (by kernel_rfl) (by kernel_rfl) ?_
     try dsimp only [List.append]
     repeat (go_big_quiet_step ((first | (go_at_call 99; with_reducible exact Hd.HW.c (spec_IsSegment.calls a0_0 a0_1 a0_2 a0_3 true _ A3.out)) | (go_at_call 81; with_reducible exact Hd.HW.c (spec_IsPoint.calls a1_0 a1_1 true _ A5.out)) | (go_at_call 115; with_reducible exact Hd.HW.c (spec_l4Cross.calls a0_0 a0_1 a0_2 a0_3 a1_0 a1_1 t352 _ A7.out)) | (go_at_call 104; with_reducible exact Hd.HW.d (spec_Min.calls a0_0 a0_2 t353 _ A9.out)) | (go_at_call 109; with_reducible exact Hd.HW.d (spec_Max.calls a0_0 a0_2 t354 _ A10.out)) | (go_at_call 79; with_reducible exact Hd.HW.d (spec_l1In.calls a1_0 t353 t354 false _ A11.out)))))
     refine wpQuiet_nil ?_
     intro _ hq_
     obtain ⟨q_, rfl⟩ := hq_
     clear s0_ s1_ s2_ s3_ s4_ s5_
     replace BK348 := Aside0.mk (blk_below BK348.out q_.b)
     replace BK349 := Aside0.mk (blk_below BK349.out q_.b)
     replace HB := Aside0.mk (below_step HB.out q_.b)
     generalize q_.W = w27 at BK348 BK349 HB ⊢
     try simp only [i64_w, i32_w]
     try go_wp2
     go_ret
     exact ⟨Hd.e_, Hd.b_⟩
   ·
    rw [if_neg c8] at H
    have c8b0 : (t352 == 0) = false := beq_eq_false_iff_ne.mpr c8
    have c8b1 : (t352 != 0) = true := bne_iff_ne.mpr c8
    obtain rfl := Option.some.inj H
    go_enter Try.func114, Try.ntmps114
    try go_wp2_with (first | ((with_reducible refine gate_dst (N := 2) rfl ?_); refine Hd.box_ 2 (#[.int .i64 a0_0, .int .i64 a0_1, .int .i64 a0_2, .int .i64 a0_3]) 101 ?_; intro gb348 hg w28 hbox hb; have BK348 := Aside0.mk (hbox); have GW348 := Aside0.mk ((Hd.g_ hg Hd.b_ : w.heap.size ≤ gb348)); have GE348 := Aside0.mk ((Hd.g_ hg Hd.b_ : w.heap.size ≤ gb348)); replace HB := Aside0.mk (below_step Hd.b_ hb); clear hb hbox hg) | ((with_reducible refine gate_dst (N := 3) rfl ?_); refine Hd.box_ 3 (#[.int .i64 a1_0, .int .i64 a1_1]) 75 ?_; intro gb349 hg w29 hbox hb; have BK349 := Aside0.mk (hbox); have GW349 := Aside0.mk ((Hd.g_ hg Hd.b_ : w.heap.size ≤ gb349)); have GE349 := Aside0.mk ((Hd.g_ hg Hd.b_ : w.heap.size ≤ gb349)); replace HB := Aside0.mk (below_step Hd.b_ hb); have NB348_349 := Aside0.mk ((Hd.lt_ BK348 hg)); have NB349_348 := Aside0.mk ((Hd.gt_ BK348 hg)); replace BK348 := Aside0.mk (Hd.kb_ BK348 hb); clear hb hbox hg))
    replace BK348 := Aside0.mk (blk_drew BK348.out)
    replace BK349 := Aside0.mk (blk_drew BK349.out)
    replace HB := Aside0.mk (below_drew1 HB.out)
    obtain ⟨s0_, s1_, s2_, s3_⟩ := Hd.HW.k4 (W0 := w29.drew) BK348
    obtain ⟨s4_, s5_⟩ := Hd.HW.k2 (W0 := w29.drew) BK349
    refine Hd.HW.region (by kernel_rfl) (by kernel_rfl) ?_
    try dsimp only [List.append]
    repeat (go_big_quiet_step ((first | (go_at_call 99; with_reducible exact Hd.HW.c (spec_IsSegment.calls a0_0 a0_1 a0_2 a0_3 true _ A3.out)) | (go_at_call 81; with_reducible exact Hd.HW.c (spec_IsPoint.calls a1_0 a1_1 true _ A5.out)) | (go_at_call 115; with_reducible exact Hd.HW.c (spec_l4Cross.calls a0_0 a0_1 a0_2 a0_3 a1_0 a1_1 t352 _ A7.out)))))
    refine wpQuiet_nil ?_
    intro _ hq_
    obtain ⟨q_, rfl⟩ := hq_
    clear s0_ s1_ s2_ s3_ s4_ s5_
    replace BK348 := Aside0.mk (blk_below BK348.out q_.b)
    replace BK349 := Aside0.mk (blk_below BK349.out q_.b)
    replace HB := Aside0.mk (below_step HB.out q_.b)
    generalize q_.W = w33 at BK348 BK349 HB ⊢
    try simp only [i64_w, i32_w]
    try go_wp2
    go_ret
    exact ⟨Hd.e_, Hd.b_⟩
  ·
   replace c6 := Bool.eq_false_iff.mpr c6
   subst c6
   have H1 : (some false) = some r := by rw [if_neg (show ¬ (false = true) by decide)] at H; exact H
   clear H
   have H := H1
   clear H1
   obtain rfl := Option.some.inj H
   go_enter Try.func114, Try.ntmps114
   try go_wp2_with (first | ((with_reducible refine gate_dst (N := 2) rfl ?_); refine Hd.box_ 2 (#[.int .i64 a0_0, .int .i64 a0_1, .int .i64 a0_2, .int .i64 a0_3]) 101 ?_; intro gb348 hg w34 hbox hb; have BK348 := Aside0.mk (hbox); have GW348 := Aside0.mk ((Hd.g_ hg Hd.b_ : w.heap.size ≤ gb348)); have GE348 := Aside0.mk ((Hd.g_ hg Hd.b_ : w.heap.size ≤ gb348)); replace HB := Aside0.mk (below_step Hd.b_ hb); clear hb hbox hg) | ((with_reducible refine gate_dst (N := 3) rfl ?_); refine Hd.box_ 3 (#[.int .i64 a1_0, .int .i64 a1_1]) 75 ?_; intro gb349 hg w35 hbox hb; have BK349 := Aside0.mk (hbox); have GW349 := Aside0.mk ((Hd.g_ hg Hd.b_ : w.heap.size ≤ gb349)); have GE349 := Aside0.mk ((Hd.g_ hg Hd.b_ : w.heap.size ≤ gb349)); replace HB := Aside0.mk (below_step Hd.b_ hb); have NB348_349 := Aside0.mk ((Hd.lt_ BK348 hg)); have NB349_348 := Aside0.mk ((Hd.gt_ BK348 hg)); replace BK348 := Aside0.mk (Hd.kb_ BK348 hb); clear hb hbox hg))
   replace BK348 := Aside0.mk (blk_drew BK348.out)
   replace BK349 := Aside0.mk (blk_drew BK349.out)
   replace HB := Aside0.mk (below_drew1 HB.out)
   obtain ⟨s0_, s1_, s2_, s3_⟩ := Hd.HW.k4 (W0 := w35.drew) BK348
   obtain ⟨s4_, s5_⟩ := Hd.HW.k2 (W0 := w35.drew) BK349
   refine Hd.HW.region (by kernel_rfl) (by kernel_rfl) ?_
   try dsimp only [List.append]
   repeat (go_big_quiet_step ((first | (go_at_call 99; with_reducible exact Hd.HW.c (spec_IsSegment.calls a0_0 a0_1 a0_2 a0_3 true _ A3.out)) | (go_at_call 81; with_reducible exact Hd.HW.c (spec_IsPoint.calls a1_0 a1_1 false _ A5.out)))))
   refine wpQuiet_nil ?_
   intro _ hq_
   obtain ⟨q_, rfl⟩ := hq_
   clear s0_ s1_ s2_ s3_ s4_ s5_
   replace BK348 := Aside0.mk (blk_below BK348.out q_.b)
   replace BK349 := Aside0.mk (blk_below BK349.out q_.b)
   replace HB := Aside0.mk (below_step HB.out q_.b)
   generalize q_.W = w38 at BK348 BK349 HB ⊢
   try simp only [i64_w, i32_w]
   try go_wp2
   go_ret
   exact ⟨Hd.e_, Hd.b_⟩
 ·
  replace c4 := Bool.eq_false_iff.mpr c4
  subst c4
  have H1 : (some false) = some r := by rw [if_neg (show ¬ (false = true) by decide)] at H; exact H
  clear H
  have H := H1
  clear H1
  obtain rfl := Option.some.inj H
  go_enter Try.func114, Try.ntmps114
  try go_wp2_with (first | ((with_reducible refine gate_dst (N := 2) rfl ?_); refine Hd.box_ 2 (#[.int .i64 a0_0, .int .i64 a0_1, .int .i64 a0_2, .int .i64 a0_3]) 101 ?_; intro gb348 hg w39 hbox hb; have BK348 := Aside0.mk (hbox); have GW348 := Aside0.mk ((Hd.g_ hg Hd.b_ : w.heap.size ≤ gb348)); have GE348 := Aside0.mk ((Hd.g_ hg Hd.b_ : w.heap.size ≤ gb348)); replace HB := Aside0.mk (below_step Hd.b_ hb); clear hb hbox hg) | ((with_reducible refine gate_dst (N := 3) rfl ?_); refine Hd.box_ 3 (#[.int .i64 a1_0, .int .i64 a1_1]) 75 ?_; intro gb349 hg w40 hbox hb; have BK349 := Aside0.mk (hbox); have GW349 := Aside0.mk ((Hd.g_ hg Hd.b_ : w.heap.size ≤ gb349)); have GE349 := Aside0.mk ((Hd.g_ hg Hd.b_ : w.heap.size ≤ gb349)); replace HB := Aside0.mk (below_step Hd.b_ hb); have NB348_349 := Aside0.mk ((Hd.lt_ BK348 hg)); have NB349_348 := Aside0.mk ((Hd.gt_ BK348 hg)); replace BK348 := Aside0.mk (Hd.kb_ BK348 hb); clear hb hbox hg))
  replace BK348 := Aside0.mk (blk_drew BK348.out)
  replace BK349 := Aside0.mk (blk_drew BK349.out)
  replace HB := Aside0.mk (below_drew1 HB.out)
  obtain ⟨s0_, s1_, s2_, s3_⟩ := Hd.HW.k4 (W0 := w40.drew) BK348
  refine Hd.HW.region (by kernel_rfl) (by kernel_rfl) ?_
  try dsimp only [List.append]
  repeat (go_big_quiet_step ((first | (go_at_call 99; with_reducible exact Hd.HW.c (spec_IsSegment.calls a0_0 a0_1 a0_2 a0_3 false _ A3.out)))))
  refine wpQuiet_nil ?_
  intro _ hq_
  obtain ⟨q_, rfl⟩ := hq_
  clear s0_ s1_ s2_ s3_
  replace BK348 := Aside0.mk (blk_below BK348.out q_.b)
  replace BK349 := Aside0.mk (blk_below BK349.out q_.b)
  replace HB := Aside0.mk (below_step HB.out q_.b)
  generalize q_.W = w42 at BK348 BK349 HB ⊢
  try simp only [i64_w, i32_w]
  try go_wp2
  go_ret
  exact ⟨Hd.e_, Hd.b_⟩
end Go.Proofs.Ytbbdhlggnglfgaa.MFnExactTakeFeature
