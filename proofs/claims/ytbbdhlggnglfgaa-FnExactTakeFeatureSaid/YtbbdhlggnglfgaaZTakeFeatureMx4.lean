-- Laid by this session's program pp.py, after the kit's print and texts of the session's own. Not trusted: Lean checks it.
import Derived.Test.YtbbdhlggnglfgaaZTakeFeatureMx0
import Derived.Test.YtbbdhlggnglfgaaZTakeFeatureMx3
namespace Go.Proofs.Ytbbdhlggnglfgaa.MFnExactTakeFeature
open Go.RowKit Go.Proofs.YtbbdhlggnglfgaaW.PrintWords Go.Proofs.YtbbdhlggnglfgaaW.PrintLast Go.Proofs.YtbbdhlggnglfgaaW.PrintMore
attribute [local go_sem] max2_int min2_int max_two min_two max_three min_three max_four min_four   -- for this text's walks alone
set_option linter.unusedVariables false
set_option linter.unusedSimpArgs false
def laws_heldFeatureS.l0 : Nat → List (S34) → Int → Int → Option (Int)
 | 0, _, _, _ => none
 | k + 1, x0, x1, x5 => if x5 < (x0.length : Int) then (if 0 ≤ x5 then (if ((rd_T34 x0 x5).f0) = x1 then (if ((rd_T34 x0 x5).f1) = (wrap64 (x1 + 1)) then (if ((rd_T34 x0 x5).f2) = (wrap64 ((wrap64 (x1 + 1)) + 1)) then ((laws_markText.f k (wrap64 ((wrap64 ((wrap64 (x1 + 1)) + 1)) + 1))).bind fun t155 => (if ((rd_T34 x0 x5).f3).toList = t155.toList then ((laws_heldPointS.f k ((rd_T34 x0 x5).f4) (wrap64 ((wrap64 ((wrap64 ((wrap64 (x1 + 1)) + 1)) + 1)) + 1))).bind fun t157 => (if t157 < 0 then (some (-1)) else (laws_heldFeatureS.l0 k x0 t157 (wrap64 (x5 + 1))))) else (some (-1)))) else (some (-1))) else (some (-1))) else (some (-1))) else (none)) else (some x1)
def laws_heldFeatureS.f (k : Nat) (l0 : List (S34)) (a1 : Int) : Option (Int) := laws_heldFeatureS.l0 k l0 a1 0
def laws_heldFeatureS.T13 : Bool × List (List Nat × List Nat) := (true, [([], []), ([], []), ([0, 1], [0, 1]), ([2], [2]), ([3], [3]), ([], []), ([5], [5]), ([4, 6], [4, 6])])
def laws_heldFeatureS.B13 : List Nat := [0, 0, 3, 7, 15, 0, 32, 127]
theorem laws_heldFeatureS.tab13 : rtab .any (opsOf Try.f17 13) = laws_heldFeatureS.T13 := by kernel_rfl
theorem laws_heldFeatureS.bits13 : waitsOk laws_heldFeatureS.T13.2 laws_heldFeatureS.B13 = true := by kernel_rfl
set_option maxHeartbeats 8000000 in
set_option maxRecDepth 100000 in
theorem laws_heldFeatureS.calls (k : Nat) (A0 : Option Addr) (c0 : Nat) (l0 : List (S34)) (a1 : Int) (r : Int) (w : World) (hr0 : Kd.C k34 w A0 l0.length l0) (hc0 : l0.length ≤ c0) (h : laws_heldFeatureS.f k l0 a1 = some r) :
  Calls Try.prog 17 #[.slice A0 l0.length c0, .int .i64 a1] w fun e w' => e = .returned (.int .i64 r) ∧ Below w.heap.size w w' := by
 have HR0 := Aside0.mk hr0
 have HC0 := Aside0.mk hc0
 clear hr0 hc0
 have HB := Aside0.mk (Below.refl w.heap.size w)
 have H : (laws_heldFeatureS.l0 k l0 a1 0) = some r := h
 clear h
 have H' := Aside0.mk H
 clear H
 go_enter Try.func17, Try.ntmps17
 go_wp2
 go_loopg [1, 5] k (fun kq v1 v5 w' => ∃ (x1_1 : Int) (x5_1 : Int), v1 = .int .i64 x1_1 ∧ v5 = .int .i64 x5_1 ∧ Aside0 (laws_heldFeatureS.l0 kq l0 x1_1 x5_1 = some r) ∧ Aside0 (kq ≤ k) ∧ Aside0 (Below w.heap.size w w'))
 case atStart => exact ⟨(a1), (0), (by first | rfl | (simp; done) | (simp [*]; done)), (by first | rfl | (simp; done) | (simp [*]; done)), H', ⟨Nat.le_refl _⟩, ⟨Hd.b_⟩⟩
 case round =>
  clear H'
  try clear c1
  try clear p2
  obtain ⟨x1_1, x5_1, rfl, rfl, HA, HK1, HB⟩ := hrel
  cases gk with
  | zero => exact absurd HA.out (by simp [laws_heldFeatureS.l0])
  | succ k1 =>
   have H := HA.out
   clear HA
   simp only [laws_heldFeatureS.l0] at H
   by_cases c3 : x5_1 < (l0.length : Int)
   ·
    rw [if_pos c3] at H
    have c3b0 : decide (x5_1 < (l0.length : Int)) = true := decide_eq_true c3
    clear c3
    by_cases c4 : 0 ≤ x5_1
    ·
     rw [if_pos c4] at H
     have c4b0 : decide (0 ≤ x5_1) = true := decide_eq_true c4
     clear c4
     by_cases c5 : ((rd_T34 l0 x5_1).f0) = x1_1
     ·
      rw [if_pos c5] at H
      have c5b0 : (((rd_T34 l0 x5_1).f0) == x1_1) = true := beq_iff_eq.mpr c5
      have c5b1 : (((rd_T34 l0 x5_1).f0) != x1_1) = false := bne_eq_false_iff_eq.mpr c5
      clear c5
      by_cases c6 : ((rd_T34 l0 x5_1).f1) = (wrap64 (x1_1 + 1))
      ·
       rw [if_pos c6] at H
       have c6b0 : (((rd_T34 l0 x5_1).f1) == (wrap64 (x1_1 + 1))) = true := beq_iff_eq.mpr c6
       have c6b1 : (((rd_T34 l0 x5_1).f1) != (wrap64 (x1_1 + 1))) = false := bne_eq_false_iff_eq.mpr c6
       clear c6
       by_cases c7 : ((rd_T34 l0 x5_1).f2) = (wrap64 ((wrap64 (x1_1 + 1)) + 1))
       ·
        rw [if_pos c7] at H
        have c7b0 : (((rd_T34 l0 x5_1).f2) == (wrap64 ((wrap64 (x1_1 + 1)) + 1))) = true := beq_iff_eq.mpr c7
        have c7b1 : (((rd_T34 l0 x5_1).f2) != (wrap64 ((wrap64 (x1_1 + 1)) + 1))) = false := bne_eq_false_iff_eq.mpr c7
        clear c7
        replace H := Option.bind_eq_some_iff.mp H
        obtain ⟨t155, A80, H⟩ := H
        replace H : (if ((rd_T34 l0 x5_1).f3).toList = t155.toList then ((laws_heldPointS.f k1 ((rd_T34 l0 x5_1).f4) (wrap64 ((wrap64 ((wrap64 ((wrap64 (x1_1 + 1)) + 1)) + 1)) + 1))).bind fun t157 => (if t157 < 0 then (some (-1)) else (laws_heldFeatureS.l0 k1 l0 t157 (wrap64 (x5_1 + 1))))) else (some (-1))) = some r := H
        have A8 := Aside0.mk A80
        clear A80
        by_cases c9 : ((rd_T34 l0 x5_1).f3).toList = t155.toList
        ·
         rw [if_pos c9] at H
         have c9b0 : (((rd_T34 l0 x5_1).f3).toList == t155.toList) = true := beq_iff_eq.mpr c9
         have c9b1 : (((rd_T34 l0 x5_1).f3).toList != t155.toList) = false := bne_eq_false_iff_eq.mpr c9
         clear c9
         replace H := Option.bind_eq_some_iff.mp H
         obtain ⟨t157, A100, H⟩ := H
         replace H : (if t157 < 0 then (some (-1)) else (laws_heldFeatureS.l0 k1 l0 t157 (wrap64 (x5_1 + 1)))) = some r := H
         have A10 := Aside0.mk A100
         clear A100
         by_cases c11 : t157 < 0
         ·
          rw [if_pos c11] at H
          have c11b0 : decide (t157 < 0) = true := decide_eq_true c11
          clear c11
          obtain rfl := Option.some.inj H
          have p151 : 0 ≤ (x5_1 : Int) := of_decide_eq_true Hd.a_
          have q151 : x5_1 < (l0.length : Int) := of_decide_eq_true Hd.a_
          obtain ⟨ad151, A151_4, c151_4, e151, hx151_0, hx151_1, hx151_2, hx151_3, hx151_4, hl151_4, hi151_4⟩ := at_T34 HR0.out x5_1 p151 q151
          cases e151
          replace hx151_0 := (HB.out.cell (World.block_lt_of_cell? w _ hx151_0)).trans hx151_0
          replace hx151_1 := (HB.out.cell (World.block_lt_of_cell? w _ hx151_1)).trans hx151_1
          replace hx151_2 := (HB.out.cell (World.block_lt_of_cell? w _ hx151_2)).trans hx151_2
          replace hx151_3 := (HB.out.cell (World.block_lt_of_cell? w _ hx151_3)).trans hx151_3
          replace hx151_4 := (HB.out.cell (World.block_lt_of_cell? w _ hx151_4)).trans hx151_4
          have HR151_4 := Aside0.mk hi151_4
          have HC151_4 := Aside0.mk hl151_4
          clear hi151_4 hl151_4
          replace p151 := eq_true p151
          replace q151 := eq_true q151
          have p152 : 0 ≤ (x5_1 : Int) := of_decide_eq_true Hd.a_
          have q152 : x5_1 < (l0.length : Int) := of_decide_eq_true Hd.a_
          obtain ⟨ad152, A152_4, c152_4, e152, hx152_0, hx152_1, hx152_2, hx152_3, hx152_4, hl152_4, hi152_4⟩ := at_T34 HR0.out x5_1 p152 q152
          obtain rfl : ad151 = ad152 := (by injection e152)
          replace hx152_0 := (HB.out.cell (World.block_lt_of_cell? w _ hx152_0)).trans hx152_0
          replace hx152_1 := (HB.out.cell (World.block_lt_of_cell? w _ hx152_1)).trans hx152_1
          replace hx152_2 := (HB.out.cell (World.block_lt_of_cell? w _ hx152_2)).trans hx152_2
          replace hx152_3 := (HB.out.cell (World.block_lt_of_cell? w _ hx152_3)).trans hx152_3
          replace hx152_4 := (HB.out.cell (World.block_lt_of_cell? w _ hx152_4)).trans hx152_4
          have HR152_4 := Aside0.mk hi152_4
          have HC152_4 := Aside0.mk hl152_4
          clear hi152_4 hl152_4
          replace p152 := eq_true p152
          replace q152 := eq_true q152
          have ea_ := Option.some.inj (hx151_4.symm.trans hx152_4)
          injection ea_ with ea_ en_ ec_
          subst ea_
          subst ec_
          clear en_
          have p153 : 0 ≤ (x5_1 : Int) := of_decide_eq_true Hd.a_
          have q153 : x5_1 < (l0.length : Int) := of_decide_eq_true Hd.a_
          obtain ⟨ad153, A153_4, c153_4, e153, hx153_0, hx153_1, hx153_2, hx153_3, hx153_4, hl153_4, hi153_4⟩ := at_T34 HR0.out x5_1 p153 q153
          obtain rfl : ad151 = ad153 := (by injection e153)
          replace hx153_0 := (HB.out.cell (World.block_lt_of_cell? w _ hx153_0)).trans hx153_0
          replace hx153_1 := (HB.out.cell (World.block_lt_of_cell? w _ hx153_1)).trans hx153_1
          replace hx153_2 := (HB.out.cell (World.block_lt_of_cell? w _ hx153_2)).trans hx153_2
          replace hx153_3 := (HB.out.cell (World.block_lt_of_cell? w _ hx153_3)).trans hx153_3
          replace hx153_4 := (HB.out.cell (World.block_lt_of_cell? w _ hx153_4)).trans hx153_4
          have HR153_4 := Aside0.mk hi153_4
          have HC153_4 := Aside0.mk hl153_4
          clear hi153_4 hl153_4
          replace p153 := eq_true p153
          replace q153 := eq_true q153
          have ea_ := Option.some.inj (hx151_4.symm.trans hx153_4)
          injection ea_ with ea_ en_ ec_
          subst ea_
          subst ec_
          clear en_
          try go_wp2
          replace HB := Aside0.mk (below_drew1 HB.out)
          have p154 : 0 ≤ (x5_1 : Int) := of_decide_eq_true Hd.a_
          have q154 : x5_1 < (l0.length : Int) := of_decide_eq_true Hd.a_
          obtain ⟨ad154, A154_4, c154_4, e154, hx154_0, hx154_1, hx154_2, hx154_3, hx154_4, hl154_4, hi154_4⟩ := at_T34 HR0.out x5_1 p154 q154
          have hw154_4 := hx154_4
          have hw154_3 := hx154_3
          have hw154_2 := hx154_2
          have hw154_1 := hx154_1
          have hw154_0 := hx154_0
          obtain rfl : ad151 = ad154 := (by injection e154)
          replace hx154_0 := (HB.out.cell (World.block_lt_of_cell? w _ hx154_0)).trans hx154_0
          replace hx154_1 := (HB.out.cell (World.block_lt_of_cell? w _ hx154_1)).trans hx154_1
          replace hx154_2 := (HB.out.cell (World.block_lt_of_cell? w _ hx154_2)).trans hx154_2
          replace hx154_3 := (HB.out.cell (World.block_lt_of_cell? w _ hx154_3)).trans hx154_3
          replace hx154_4 := (HB.out.cell (World.block_lt_of_cell? w _ hx154_4)).trans hx154_4
          have HR154_4 := Aside0.mk hi154_4
          have HC154_4 := Aside0.mk hl154_4
          clear hi154_4 hl154_4
          replace p154 := eq_true p154
          replace q154 := eq_true q154
          refine start_ (n := 8) (S := fun w' => w'.cell? (ad151.add ((x5_1).toNat * 5)) = some (.int .i64 ((rd_T34 l0 x5_1).f0)) ∧ w'.cell? ⟨(ad151.add ((x5_1).toNat * 5)).block, (ad151.add ((x5_1).toNat * 5)).off + 1, none⟩ = some (.int .i64 ((rd_T34 l0 x5_1).f1)) ∧ w'.cell? ⟨(ad151.add ((x5_1).toNat * 5)).block, (ad151.add ((x5_1).toNat * 5)).off + 2, none⟩ = some (.int .i64 ((rd_T34 l0 x5_1).f2)) ∧ w'.cell? ⟨(ad151.add ((x5_1).toNat * 5)).block, (ad151.add ((x5_1).toNat * 5)).off + 3, none⟩ = some (.string ((rd_T34 l0 x5_1).f3)) ∧ w'.cell? ⟨(ad151.add ((x5_1).toNat * 5)).block, (ad151.add ((x5_1).toNat * 5)).off + 4, none⟩ = some (.slice A154_4 ((rd_T34 l0 x5_1).f4).length c154_4)) (ds := []) #[false, false, false, false, false, false, false, false] (by kernel_rfl) rfl rfl ⟨((HB.out.cell (World.block_lt_of_cell? w _ hw154_0)).trans hw154_0), ((HB.out.cell (World.block_lt_of_cell? w _ hw154_1)).trans hw154_1), ((HB.out.cell (World.block_lt_of_cell? w _ hw154_2)).trans hw154_2), ((HB.out.cell (World.block_lt_of_cell? w _ hw154_3)).trans hw154_3), ((HB.out.cell (World.block_lt_of_cell? w _ hw154_4)).trans hw154_4)⟩ (fun hHeld => ?_); refine with_tabW laws_heldFeatureS.tab13 laws_heldFeatureS.bits13 (fun HT_ HW_ => ?_)
          generalize wr.drew = w12 at HB HR154_4 hx154_0 hx154_1 hx154_2 hx154_3 hx154_4 hHeld ⊢
          refine Hd.p_ HT_ 0 (some 39) #[true, false, false, false, false, false, false, false] ?_
          refine Hd.p_ HT_ 1 (some 40) #[true, true, false, false, false, false, false, false] ?_
          refine Hd.p_ HT_ 2 (some 41) #[true, true, true, false, false, false, false, false] ?_
          refine Hd.p_ HT_ 3 (some 42) #[true, true, true, true, false, false, false, false] ?_
          refine Hd.p_ HT_ 5 (some 44) #[true, true, true, true, false, true, false, false] ?_
          refine Hd.t_ HT_ HW_ hHeld 4 (some 43) #[true, true, true, true, true, true, false, false] ?_
          refine Hd.o_ HT_ 6 (some 45) #[true, true, true, true, true, true, true, false] (fun K hK => ?_)
          refine goes_ Try.func42 (by kernel_rfl) rfl #[.int .i64 (wrap64 ((wrap64 ((wrap64 (x1_1 + 1)) + 1)) + 1))] (by rfl) rfl rfl Hd.m_ ?_
          with_reducible refine (laws_markText.calls k1 (wrap64 ((wrap64 ((wrap64 (x1_1 + 1)) + 1)) + 1)) t155 _ A8.out).mono ?_
          rintro e w13 ⟨rfl, hb⟩
          refine ⟨_, rfl, ?_⟩
          replace HB := Aside0.mk (below_step Hd.b_ hb)
          (try clear hb)
          (try clear hb2)
          (try clear hk)
          (try clear hi)
          refine hK.out _ _ ⟨((HB.out.cell (World.block_lt_of_cell? w _ hw154_0)).trans hw154_0), ((HB.out.cell (World.block_lt_of_cell? w _ hw154_1)).trans hw154_1), ((HB.out.cell (World.block_lt_of_cell? w _ hw154_2)).trans hw154_2), ((HB.out.cell (World.block_lt_of_cell? w _ hw154_3)).trans hw154_3), ((HB.out.cell (World.block_lt_of_cell? w _ hw154_4)).trans hw154_4)⟩ (fun hHeld => ?_)
          clear hK K
          refine Hd.n_ (some 45) ?_
          refine Hd.p_ HT_ 7 (some 46) #[true, true, true, true, true, true, true, true] ?_
          refine done_ (done_of HT_.out (by kernel_rfl)) ?_
          have p156 : 0 ≤ (x5_1 : Int) := of_decide_eq_true Hd.a_
          have q156 : x5_1 < (l0.length : Int) := of_decide_eq_true Hd.a_
          obtain ⟨ad156, A156_4, c156_4, e156, hx156_0, hx156_1, hx156_2, hx156_3, hx156_4, hl156_4, hi156_4⟩ := at_T34 HR0.out x5_1 p156 q156
          obtain rfl : ad151 = ad156 := (by injection e156)
          obtain ⟨rfl, rfl⟩ : A156_4 = A154_4 ∧ c156_4 = c154_4 := by have h_ := hx156_4.symm.trans hw154_4; injection h_ with h_; injection h_ with h1_ _ h2_; exact ⟨h1_, h2_⟩
          replace hx156_0 := (HB.out.cell (World.block_lt_of_cell? w _ hx156_0)).trans hx156_0
          replace hx156_1 := (HB.out.cell (World.block_lt_of_cell? w _ hx156_1)).trans hx156_1
          replace hx156_2 := (HB.out.cell (World.block_lt_of_cell? w _ hx156_2)).trans hx156_2
          replace hx156_3 := (HB.out.cell (World.block_lt_of_cell? w _ hx156_3)).trans hx156_3
          replace hx156_4 := (HB.out.cell (World.block_lt_of_cell? w _ hx156_4)).trans hx156_4
          have HR156_4 := Aside0.mk hi156_4
          have HC156_4 := Aside0.mk hl156_4
          clear hi156_4 hl156_4
          replace p156 := eq_true p156
          replace q156 := eq_true q156
          try go_wp2_with (first | ((with_reducible refine gate_callee (f := 44) rfl ?_); refine goesL_ (some 55) rfl rfl Try.func44 (by kernel_rfl) rfl #[.slice A156_4 ((rd_T34 l0 x5_1).f4).length c156_4, .int .i64 (wrap64 ((wrap64 ((wrap64 ((wrap64 (x1_1 + 1)) + 1)) + 1)) + 1))] rfl Hd.m_ ?_; (with_reducible refine (laws_heldPointS.calls k1 _ _ ((rd_T34 l0 x5_1).f4) (wrap64 ((wrap64 ((wrap64 ((wrap64 (x1_1 + 1)) + 1)) + 1)) + 1)) t157 _ ?side1 ?side2 A10.out).mono ?_); (case side1 => repeat (first | exact (Kd.C_below HR156_4.out HB.out) | (with_reducible refine Kd.C_alloc ?_ _) | (with_reducible refine Kd.C_drewN ?_ _) | (with_reducible refine Kd.C_drew ?_))); (case side2 => exact HC156_4.out); rintro e w' ⟨rfl, ⟨nd, rfl⟩⟩; refine ⟨_, rfl, ?_⟩))
          go_ret
          exact ⟨Hd.e_, Hd.b_⟩
         ·
          rw [if_neg c11] at H
          have c11b0 : decide (t157 < 0) = false := decide_eq_false c11
          clear c11
          have H' := Aside0.mk H
          clear H
          have p151 : 0 ≤ (x5_1 : Int) := of_decide_eq_true Hd.a_
          have q151 : x5_1 < (l0.length : Int) := of_decide_eq_true Hd.a_
          obtain ⟨ad151, A151_4, c151_4, e151, hx151_0, hx151_1, hx151_2, hx151_3, hx151_4, hl151_4, hi151_4⟩ := at_T34 HR0.out x5_1 p151 q151
          cases e151
          replace hx151_0 := (HB.out.cell (World.block_lt_of_cell? w _ hx151_0)).trans hx151_0
          replace hx151_1 := (HB.out.cell (World.block_lt_of_cell? w _ hx151_1)).trans hx151_1
          replace hx151_2 := (HB.out.cell (World.block_lt_of_cell? w _ hx151_2)).trans hx151_2
          replace hx151_3 := (HB.out.cell (World.block_lt_of_cell? w _ hx151_3)).trans hx151_3
          replace hx151_4 := (HB.out.cell (World.block_lt_of_cell? w _ hx151_4)).trans hx151_4
          have HR151_4 := Aside0.mk hi151_4
          have HC151_4 := Aside0.mk hl151_4
          clear hi151_4 hl151_4
          replace p151 := eq_true p151
          replace q151 := eq_true q151
          have p152 : 0 ≤ (x5_1 : Int) := of_decide_eq_true Hd.a_
          have q152 : x5_1 < (l0.length : Int) := of_decide_eq_true Hd.a_
          obtain ⟨ad152, A152_4, c152_4, e152, hx152_0, hx152_1, hx152_2, hx152_3, hx152_4, hl152_4, hi152_4⟩ := at_T34 HR0.out x5_1 p152 q152
          obtain rfl : ad151 = ad152 := (by injection e152)
          replace hx152_0 := (HB.out.cell (World.block_lt_of_cell? w _ hx152_0)).trans hx152_0
          replace hx152_1 := (HB.out.cell (World.block_lt_of_cell? w _ hx152_1)).trans hx152_1
          replace hx152_2 := (HB.out.cell (World.block_lt_of_cell? w _ hx152_2)).trans hx152_2
          replace hx152_3 := (HB.out.cell (World.block_lt_of_cell? w _ hx152_3)).trans hx152_3
          replace hx152_4 := (HB.out.cell (World.block_lt_of_cell? w _ hx152_4)).trans hx152_4
          have HR152_4 := Aside0.mk hi152_4
          have HC152_4 := Aside0.mk hl152_4
          clear hi152_4 hl152_4
          replace p152 := eq_true p152
          replace q152 := eq_true q152
          have ea_ := Option.some.inj (hx151_4.symm.trans hx152_4)
          injection ea_ with ea_ en_ ec_
          subst ea_
          subst ec_
          clear en_
          have p153 : 0 ≤ (x5_1 : Int) := of_decide_eq_true Hd.a_
          have q153 : x5_1 < (l0.length : Int) := of_decide_eq_true Hd.a_
          obtain ⟨ad153, A153_4, c153_4, e153, hx153_0, hx153_1, hx153_2, hx153_3, hx153_4, hl153_4, hi153_4⟩ := at_T34 HR0.out x5_1 p153 q153
          obtain rfl : ad151 = ad153 := (by injection e153)
          replace hx153_0 := (HB.out.cell (World.block_lt_of_cell? w _ hx153_0)).trans hx153_0
          replace hx153_1 := (HB.out.cell (World.block_lt_of_cell? w _ hx153_1)).trans hx153_1
          replace hx153_2 := (HB.out.cell (World.block_lt_of_cell? w _ hx153_2)).trans hx153_2
          replace hx153_3 := (HB.out.cell (World.block_lt_of_cell? w _ hx153_3)).trans hx153_3
          replace hx153_4 := (HB.out.cell (World.block_lt_of_cell? w _ hx153_4)).trans hx153_4
          have HR153_4 := Aside0.mk hi153_4
          have HC153_4 := Aside0.mk hl153_4
          clear hi153_4 hl153_4
          replace p153 := eq_true p153
          replace q153 := eq_true q153
          have ea_ := Option.some.inj (hx151_4.symm.trans hx153_4)
          injection ea_ with ea_ en_ ec_
          subst ea_
          subst ec_
          clear en_
          try go_wp2
          replace HB := Aside0.mk (below_drew1 HB.out)
          have p154 : 0 ≤ (x5_1 : Int) := of_decide_eq_true Hd.a_
          have q154 : x5_1 < (l0.length : Int) := of_decide_eq_true Hd.a_
          obtain ⟨ad154, A154_4, c154_4, e154, hx154_0, hx154_1, hx154_2, hx154_3, hx154_4, hl154_4, hi154_4⟩ := at_T34 HR0.out x5_1 p154 q154
          have hw154_4 := hx154_4
          have hw154_3 := hx154_3
          have hw154_2 := hx154_2
          have hw154_1 := hx154_1
          have hw154_0 := hx154_0
          obtain rfl : ad151 = ad154 := (by injection e154)
          replace hx154_0 := (HB.out.cell (World.block_lt_of_cell? w _ hx154_0)).trans hx154_0
          replace hx154_1 := (HB.out.cell (World.block_lt_of_cell? w _ hx154_1)).trans hx154_1
          replace hx154_2 := (HB.out.cell (World.block_lt_of_cell? w _ hx154_2)).trans hx154_2
          replace hx154_3 := (HB.out.cell (World.block_lt_of_cell? w _ hx154_3)).trans hx154_3
          replace hx154_4 := (HB.out.cell (World.block_lt_of_cell? w _ hx154_4)).trans hx154_4
          have HR154_4 := Aside0.mk hi154_4
          have HC154_4 := Aside0.mk hl154_4
          clear hi154_4 hl154_4
          replace p154 := eq_true p154
          replace q154 := eq_true q154
          refine start_ (n := 8) (S := fun w' => w'.cell? (ad151.add ((x5_1).toNat * 5)) = some (.int .i64 ((rd_T34 l0 x5_1).f0)) ∧ w'.cell? ⟨(ad151.add ((x5_1).toNat * 5)).block, (ad151.add ((x5_1).toNat * 5)).off + 1, none⟩ = some (.int .i64 ((rd_T34 l0 x5_1).f1)) ∧ w'.cell? ⟨(ad151.add ((x5_1).toNat * 5)).block, (ad151.add ((x5_1).toNat * 5)).off + 2, none⟩ = some (.int .i64 ((rd_T34 l0 x5_1).f2)) ∧ w'.cell? ⟨(ad151.add ((x5_1).toNat * 5)).block, (ad151.add ((x5_1).toNat * 5)).off + 3, none⟩ = some (.string ((rd_T34 l0 x5_1).f3)) ∧ w'.cell? ⟨(ad151.add ((x5_1).toNat * 5)).block, (ad151.add ((x5_1).toNat * 5)).off + 4, none⟩ = some (.slice A154_4 ((rd_T34 l0 x5_1).f4).length c154_4)) (ds := []) #[false, false, false, false, false, false, false, false] (by kernel_rfl) rfl rfl ⟨((HB.out.cell (World.block_lt_of_cell? w _ hw154_0)).trans hw154_0), ((HB.out.cell (World.block_lt_of_cell? w _ hw154_1)).trans hw154_1), ((HB.out.cell (World.block_lt_of_cell? w _ hw154_2)).trans hw154_2), ((HB.out.cell (World.block_lt_of_cell? w _ hw154_3)).trans hw154_3), ((HB.out.cell (World.block_lt_of_cell? w _ hw154_4)).trans hw154_4)⟩ (fun hHeld => ?_); refine with_tabW laws_heldFeatureS.tab13 laws_heldFeatureS.bits13 (fun HT_ HW_ => ?_)
          generalize wr.drew = w14 at HB HR154_4 hx154_0 hx154_1 hx154_2 hx154_3 hx154_4 hHeld ⊢
          refine Hd.p_ HT_ 0 (some 39) #[true, false, false, false, false, false, false, false] ?_
          refine Hd.p_ HT_ 1 (some 40) #[true, true, false, false, false, false, false, false] ?_
          refine Hd.p_ HT_ 2 (some 41) #[true, true, true, false, false, false, false, false] ?_
          refine Hd.p_ HT_ 3 (some 42) #[true, true, true, true, false, false, false, false] ?_
          refine Hd.p_ HT_ 5 (some 44) #[true, true, true, true, false, true, false, false] ?_
          refine Hd.t_ HT_ HW_ hHeld 4 (some 43) #[true, true, true, true, true, true, false, false] ?_
          refine Hd.o_ HT_ 6 (some 45) #[true, true, true, true, true, true, true, false] (fun K hK => ?_)
          refine goes_ Try.func42 (by kernel_rfl) rfl #[.int .i64 (wrap64 ((wrap64 ((wrap64 (x1_1 + 1)) + 1)) + 1))] (by rfl) rfl rfl Hd.m_ ?_
          with_reducible refine (laws_markText.calls k1 (wrap64 ((wrap64 ((wrap64 (x1_1 + 1)) + 1)) + 1)) t155 _ A8.out).mono ?_
          rintro e w15 ⟨rfl, hb⟩
          refine ⟨_, rfl, ?_⟩
          replace HB := Aside0.mk (below_step Hd.b_ hb)
          (try clear hb)
          (try clear hb2)
          (try clear hk)
          (try clear hi)
          refine hK.out _ _ ⟨((HB.out.cell (World.block_lt_of_cell? w _ hw154_0)).trans hw154_0), ((HB.out.cell (World.block_lt_of_cell? w _ hw154_1)).trans hw154_1), ((HB.out.cell (World.block_lt_of_cell? w _ hw154_2)).trans hw154_2), ((HB.out.cell (World.block_lt_of_cell? w _ hw154_3)).trans hw154_3), ((HB.out.cell (World.block_lt_of_cell? w _ hw154_4)).trans hw154_4)⟩ (fun hHeld => ?_)
          clear hK K
          refine Hd.n_ (some 45) ?_
          refine Hd.p_ HT_ 7 (some 46) #[true, true, true, true, true, true, true, true] ?_
          refine done_ (done_of HT_.out (by kernel_rfl)) ?_
          have p156 : 0 ≤ (x5_1 : Int) := of_decide_eq_true Hd.a_
          have q156 : x5_1 < (l0.length : Int) := of_decide_eq_true Hd.a_
          obtain ⟨ad156, A156_4, c156_4, e156, hx156_0, hx156_1, hx156_2, hx156_3, hx156_4, hl156_4, hi156_4⟩ := at_T34 HR0.out x5_1 p156 q156
          obtain rfl : ad151 = ad156 := (by injection e156)
          obtain ⟨rfl, rfl⟩ : A156_4 = A154_4 ∧ c156_4 = c154_4 := by have h_ := hx156_4.symm.trans hw154_4; injection h_ with h_; injection h_ with h1_ _ h2_; exact ⟨h1_, h2_⟩
          replace hx156_0 := (HB.out.cell (World.block_lt_of_cell? w _ hx156_0)).trans hx156_0
          replace hx156_1 := (HB.out.cell (World.block_lt_of_cell? w _ hx156_1)).trans hx156_1
          replace hx156_2 := (HB.out.cell (World.block_lt_of_cell? w _ hx156_2)).trans hx156_2
          replace hx156_3 := (HB.out.cell (World.block_lt_of_cell? w _ hx156_3)).trans hx156_3
          replace hx156_4 := (HB.out.cell (World.block_lt_of_cell? w _ hx156_4)).trans hx156_4
          have HR156_4 := Aside0.mk hi156_4
          have HC156_4 := Aside0.mk hl156_4
          clear hi156_4 hl156_4
          replace p156 := eq_true p156
          replace q156 := eq_true q156
          try go_wp2_with (first | ((with_reducible refine gate_callee (f := 44) rfl ?_); refine goesL_ (some 55) rfl rfl Try.func44 (by kernel_rfl) rfl #[.slice A156_4 ((rd_T34 l0 x5_1).f4).length c156_4, .int .i64 (wrap64 ((wrap64 ((wrap64 ((wrap64 (x1_1 + 1)) + 1)) + 1)) + 1))] rfl Hd.m_ ?_; (with_reducible refine (laws_heldPointS.calls k1 _ _ ((rd_T34 l0 x5_1).f4) (wrap64 ((wrap64 ((wrap64 ((wrap64 (x1_1 + 1)) + 1)) + 1)) + 1)) t157 _ ?side1 ?side2 A10.out).mono ?_); (case side1 => repeat (first | exact (Kd.C_below HR156_4.out HB.out) | (with_reducible refine Kd.C_alloc ?_ _) | (with_reducible refine Kd.C_drewN ?_ _) | (with_reducible refine Kd.C_drew ?_))); (case side2 => exact HC156_4.out); rintro e w' ⟨rfl, ⟨nd, rfl⟩⟩; refine ⟨_, rfl, ?_⟩))
          go_roundg k1
          case measure => have := HK1.out; omega
          case rel => exact ⟨(t157), (wrap64 (x5_1 + 1)), (by first | rfl | (simp; done) | (simp [*]; done)), (by first | rfl | (simp; done) | (simp [*]; done)), H', ⟨by have := HK1.out; omega⟩, ⟨Hd.b_⟩⟩
        ·
         rw [if_neg c9] at H
         have c9b0 : (((rd_T34 l0 x5_1).f3).toList == t155.toList) = false := beq_eq_false_iff_ne.mpr c9
         have c9b1 : (((rd_T34 l0 x5_1).f3).toList != t155.toList) = true := bne_iff_ne.mpr c9
         obtain rfl := Option.some.inj H
         have p151 : 0 ≤ (x5_1 : Int) := of_decide_eq_true Hd.a_
         have q151 : x5_1 < (l0.length : Int) := of_decide_eq_true Hd.a_
         obtain ⟨ad151, A151_4, c151_4, e151, hx151_0, hx151_1, hx151_2, hx151_3, hx151_4, hl151_4, hi151_4⟩ := at_T34 HR0.out x5_1 p151 q151
         cases e151
         replace hx151_0 := (HB.out.cell (World.block_lt_of_cell? w _ hx151_0)).trans hx151_0
         replace hx151_1 := (HB.out.cell (World.block_lt_of_cell? w _ hx151_1)).trans hx151_1
         replace hx151_2 := (HB.out.cell (World.block_lt_of_cell? w _ hx151_2)).trans hx151_2
         replace hx151_3 := (HB.out.cell (World.block_lt_of_cell? w _ hx151_3)).trans hx151_3
         replace hx151_4 := (HB.out.cell (World.block_lt_of_cell? w _ hx151_4)).trans hx151_4
         have HR151_4 := Aside0.mk hi151_4
         have HC151_4 := Aside0.mk hl151_4
         clear hi151_4 hl151_4
         replace p151 := eq_true p151
         replace q151 := eq_true q151
         have p152 : 0 ≤ (x5_1 : Int) := of_decide_eq_true Hd.a_
         have q152 : x5_1 < (l0.length : Int) := of_decide_eq_true Hd.a_
         obtain ⟨ad152, A152_4, c152_4, e152, hx152_0, hx152_1, hx152_2, hx152_3, hx152_4, hl152_4, hi152_4⟩ := at_T34 HR0.out x5_1 p152 q152
         obtain rfl : ad151 = ad152 := (by injection e152)
         replace hx152_0 := (HB.out.cell (World.block_lt_of_cell? w _ hx152_0)).trans hx152_0
         replace hx152_1 := (HB.out.cell (World.block_lt_of_cell? w _ hx152_1)).trans hx152_1
         replace hx152_2 := (HB.out.cell (World.block_lt_of_cell? w _ hx152_2)).trans hx152_2
         replace hx152_3 := (HB.out.cell (World.block_lt_of_cell? w _ hx152_3)).trans hx152_3
         replace hx152_4 := (HB.out.cell (World.block_lt_of_cell? w _ hx152_4)).trans hx152_4
         have HR152_4 := Aside0.mk hi152_4
         have HC152_4 := Aside0.mk hl152_4
         clear hi152_4 hl152_4
         replace p152 := eq_true p152
         replace q152 := eq_true q152
         have ea_ := Option.some.inj (hx151_4.symm.trans hx152_4)
         injection ea_ with ea_ en_ ec_
         subst ea_
         subst ec_
         clear en_
         have p153 : 0 ≤ (x5_1 : Int) := of_decide_eq_true Hd.a_
         have q153 : x5_1 < (l0.length : Int) := of_decide_eq_true Hd.a_
         obtain ⟨ad153, A153_4, c153_4, e153, hx153_0, hx153_1, hx153_2, hx153_3, hx153_4, hl153_4, hi153_4⟩ := at_T34 HR0.out x5_1 p153 q153
         obtain rfl : ad151 = ad153 := (by injection e153)
         replace hx153_0 := (HB.out.cell (World.block_lt_of_cell? w _ hx153_0)).trans hx153_0
         replace hx153_1 := (HB.out.cell (World.block_lt_of_cell? w _ hx153_1)).trans hx153_1
         replace hx153_2 := (HB.out.cell (World.block_lt_of_cell? w _ hx153_2)).trans hx153_2
         replace hx153_3 := (HB.out.cell (World.block_lt_of_cell? w _ hx153_3)).trans hx153_3
         replace hx153_4 := (HB.out.cell (World.block_lt_of_cell? w _ hx153_4)).trans hx153_4
         have HR153_4 := Aside0.mk hi153_4
         have HC153_4 := Aside0.mk hl153_4
         clear hi153_4 hl153_4
         replace p153 := eq_true p153
         replace q153 := eq_true q153
         have ea_ := Option.some.inj (hx151_4.symm.trans hx153_4)
         injection ea_ with ea_ en_ ec_
         subst ea_
         subst ec_
         clear en_
         try go_wp2
         replace HB := Aside0.mk (below_drew1 HB.out)
         have p154 : 0 ≤ (x5_1 : Int) := of_decide_eq_true Hd.a_
         have q154 : x5_1 < (l0.length : Int) := of_decide_eq_true Hd.a_
         obtain ⟨ad154, A154_4, c154_4, e154, hx154_0, hx154_1, hx154_2, hx154_3, hx154_4, hl154_4, hi154_4⟩ := at_T34 HR0.out x5_1 p154 q154
         have hw154_4 := hx154_4
         have hw154_3 := hx154_3
         have hw154_2 := hx154_2
         have hw154_1 := hx154_1
         have hw154_0 := hx154_0
         obtain rfl : ad151 = ad154 := (by injection e154)
         replace hx154_0 := (HB.out.cell (World.block_lt_of_cell? w _ hx154_0)).trans hx154_0
         replace hx154_1 := (HB.out.cell (World.block_lt_of_cell? w _ hx154_1)).trans hx154_1
         replace hx154_2 := (HB.out.cell (World.block_lt_of_cell? w _ hx154_2)).trans hx154_2
         replace hx154_3 := (HB.out.cell (World.block_lt_of_cell? w _ hx154_3)).trans hx154_3
         replace hx154_4 := (HB.out.cell (World.block_lt_of_cell? w _ hx154_4)).trans hx154_4
         have HR154_4 := Aside0.mk hi154_4
         have HC154_4 := Aside0.mk hl154_4
         clear hi154_4 hl154_4
         replace p154 := eq_true p154
         replace q154 := eq_true q154
         refine start_ (n := 8) (S := fun w' => w'.cell? (ad151.add ((x5_1).toNat * 5)) = some (.int .i64 ((rd_T34 l0 x5_1).f0)) ∧ w'.cell? ⟨(ad151.add ((x5_1).toNat * 5)).block, (ad151.add ((x5_1).toNat * 5)).off + 1, none⟩ = some (.int .i64 ((rd_T34 l0 x5_1).f1)) ∧ w'.cell? ⟨(ad151.add ((x5_1).toNat * 5)).block, (ad151.add ((x5_1).toNat * 5)).off + 2, none⟩ = some (.int .i64 ((rd_T34 l0 x5_1).f2)) ∧ w'.cell? ⟨(ad151.add ((x5_1).toNat * 5)).block, (ad151.add ((x5_1).toNat * 5)).off + 3, none⟩ = some (.string ((rd_T34 l0 x5_1).f3)) ∧ w'.cell? ⟨(ad151.add ((x5_1).toNat * 5)).block, (ad151.add ((x5_1).toNat * 5)).off + 4, none⟩ = some (.slice A154_4 ((rd_T34 l0 x5_1).f4).length c154_4)) (ds := []) #[false, false, false, false, false, false, false, false] (by kernel_rfl) rfl rfl ⟨((HB.out.cell (World.block_lt_of_cell? w _ hw154_0)).trans hw154_0), ((HB.out.cell (World.block_lt_of_cell? w _ hw154_1)).trans hw154_1), ((HB.out.cell (World.block_lt_of_cell? w _ hw154_2)).trans hw154_2), ((HB.out.cell (World.block_lt_of_cell? w _ hw154_3)).trans hw154_3), ((HB.out.cell (World.block_lt_of_cell? w _ hw154_4)).trans hw154_4)⟩ (fun hHeld => ?_); refine with_tabW laws_heldFeatureS.tab13 laws_heldFeatureS.bits13 (fun HT_ HW_ => ?_)
         generalize wr.drew = w16 at HB HR154_4 hx154_0 hx154_1 hx154_2 hx154_3 hx154_4 hHeld ⊢
         refine Hd.p_ HT_ 0 (some 39) #[true, false, false, false, false, false, false, false] ?_
         refine Hd.p_ HT_ 1 (some 40) #[true, true, false, false, false, false, false, false] ?_
         refine Hd.p_ HT_ 2 (some 41) #[true, true, true, false, false, false, false, false] ?_
         refine Hd.p_ HT_ 3 (some 42) #[true, true, true, true, false, false, false, false] ?_
         refine Hd.p_ HT_ 5 (some 44) #[true, true, true, true, false, true, false, false] ?_
         refine Hd.t_ HT_ HW_ hHeld 4 (some 43) #[true, true, true, true, true, true, false, false] ?_
         refine Hd.o_ HT_ 6 (some 45) #[true, true, true, true, true, true, true, false] (fun K hK => ?_)
         refine goes_ Try.func42 (by kernel_rfl) rfl #[.int .i64 (wrap64 ((wrap64 ((wrap64 (x1_1 + 1)) + 1)) + 1))] (by rfl) rfl rfl Hd.m_ ?_
         with_reducible refine (laws_markText.calls k1 (wrap64 ((wrap64 ((wrap64 (x1_1 + 1)) + 1)) + 1)) t155 _ A8.out).mono ?_
         rintro e w17 ⟨rfl, hb⟩
         refine ⟨_, rfl, ?_⟩
         replace HB := Aside0.mk (below_step Hd.b_ hb)
         (try clear hb)
         (try clear hb2)
         (try clear hk)
         (try clear hi)
         refine hK.out _ _ ⟨((HB.out.cell (World.block_lt_of_cell? w _ hw154_0)).trans hw154_0), ((HB.out.cell (World.block_lt_of_cell? w _ hw154_1)).trans hw154_1), ((HB.out.cell (World.block_lt_of_cell? w _ hw154_2)).trans hw154_2), ((HB.out.cell (World.block_lt_of_cell? w _ hw154_3)).trans hw154_3), ((HB.out.cell (World.block_lt_of_cell? w _ hw154_4)).trans hw154_4)⟩ (fun hHeld => ?_)
         clear hK K
         refine Hd.n_ (some 45) ?_
         refine Hd.p_ HT_ 7 (some 46) #[true, true, true, true, true, true, true, true] ?_
         refine done_ (done_of HT_.out (by kernel_rfl)) ?_
         try go_wp2
         go_ret
         exact ⟨Hd.e_, Hd.b_⟩
       ·
        rw [if_neg c7] at H
        have c7b0 : (((rd_T34 l0 x5_1).f2) == (wrap64 ((wrap64 (x1_1 + 1)) + 1))) = false := beq_eq_false_iff_ne.mpr c7
        have c7b1 : (((rd_T34 l0 x5_1).f2) != (wrap64 ((wrap64 (x1_1 + 1)) + 1))) = true := bne_iff_ne.mpr c7
        obtain rfl := Option.some.inj H
        have p151 : 0 ≤ (x5_1 : Int) := of_decide_eq_true Hd.a_
        have q151 : x5_1 < (l0.length : Int) := of_decide_eq_true Hd.a_
        obtain ⟨ad151, A151_4, c151_4, e151, hx151_0, hx151_1, hx151_2, hx151_3, hx151_4, hl151_4, hi151_4⟩ := at_T34 HR0.out x5_1 p151 q151
        cases e151
        replace hx151_0 := (HB.out.cell (World.block_lt_of_cell? w _ hx151_0)).trans hx151_0
        replace hx151_1 := (HB.out.cell (World.block_lt_of_cell? w _ hx151_1)).trans hx151_1
        replace hx151_2 := (HB.out.cell (World.block_lt_of_cell? w _ hx151_2)).trans hx151_2
        replace hx151_3 := (HB.out.cell (World.block_lt_of_cell? w _ hx151_3)).trans hx151_3
        replace hx151_4 := (HB.out.cell (World.block_lt_of_cell? w _ hx151_4)).trans hx151_4
        have HR151_4 := Aside0.mk hi151_4
        have HC151_4 := Aside0.mk hl151_4
        clear hi151_4 hl151_4
        replace p151 := eq_true p151
        replace q151 := eq_true q151
        have p152 : 0 ≤ (x5_1 : Int) := of_decide_eq_true Hd.a_
        have q152 : x5_1 < (l0.length : Int) := of_decide_eq_true Hd.a_
        obtain ⟨ad152, A152_4, c152_4, e152, hx152_0, hx152_1, hx152_2, hx152_3, hx152_4, hl152_4, hi152_4⟩ := at_T34 HR0.out x5_1 p152 q152
        obtain rfl : ad151 = ad152 := (by injection e152)
        replace hx152_0 := (HB.out.cell (World.block_lt_of_cell? w _ hx152_0)).trans hx152_0
        replace hx152_1 := (HB.out.cell (World.block_lt_of_cell? w _ hx152_1)).trans hx152_1
        replace hx152_2 := (HB.out.cell (World.block_lt_of_cell? w _ hx152_2)).trans hx152_2
        replace hx152_3 := (HB.out.cell (World.block_lt_of_cell? w _ hx152_3)).trans hx152_3
        replace hx152_4 := (HB.out.cell (World.block_lt_of_cell? w _ hx152_4)).trans hx152_4
        have HR152_4 := Aside0.mk hi152_4
        have HC152_4 := Aside0.mk hl152_4
        clear hi152_4 hl152_4
        replace p152 := eq_true p152
        replace q152 := eq_true q152
        have ea_ := Option.some.inj (hx151_4.symm.trans hx152_4)
        injection ea_ with ea_ en_ ec_
        subst ea_
        subst ec_
        clear en_
        have p153 : 0 ≤ (x5_1 : Int) := of_decide_eq_true Hd.a_
        have q153 : x5_1 < (l0.length : Int) := of_decide_eq_true Hd.a_
        obtain ⟨ad153, A153_4, c153_4, e153, hx153_0, hx153_1, hx153_2, hx153_3, hx153_4, hl153_4, hi153_4⟩ := at_T34 HR0.out x5_1 p153 q153
        obtain rfl : ad151 = ad153 := (by injection e153)
        replace hx153_0 := (HB.out.cell (World.block_lt_of_cell? w _ hx153_0)).trans hx153_0
        replace hx153_1 := (HB.out.cell (World.block_lt_of_cell? w _ hx153_1)).trans hx153_1
        replace hx153_2 := (HB.out.cell (World.block_lt_of_cell? w _ hx153_2)).trans hx153_2
        replace hx153_3 := (HB.out.cell (World.block_lt_of_cell? w _ hx153_3)).trans hx153_3
        replace hx153_4 := (HB.out.cell (World.block_lt_of_cell? w _ hx153_4)).trans hx153_4
        have HR153_4 := Aside0.mk hi153_4
        have HC153_4 := Aside0.mk hl153_4
        clear hi153_4 hl153_4
        replace p153 := eq_true p153
        replace q153 := eq_true q153
        have ea_ := Option.some.inj (hx151_4.symm.trans hx153_4)
        injection ea_ with ea_ en_ ec_
        subst ea_
        subst ec_
        clear en_
        go_wp2
        go_ret
        exact ⟨Hd.e_, Hd.b_⟩
      ·
       rw [if_neg c6] at H
       have c6b0 : (((rd_T34 l0 x5_1).f1) == (wrap64 (x1_1 + 1))) = false := beq_eq_false_iff_ne.mpr c6
       have c6b1 : (((rd_T34 l0 x5_1).f1) != (wrap64 (x1_1 + 1))) = true := bne_iff_ne.mpr c6
       obtain rfl := Option.some.inj H
       have p151 : 0 ≤ (x5_1 : Int) := of_decide_eq_true Hd.a_
       have q151 : x5_1 < (l0.length : Int) := of_decide_eq_true Hd.a_
       obtain ⟨ad151, A151_4, c151_4, e151, hx151_0, hx151_1, hx151_2, hx151_3, hx151_4, hl151_4, hi151_4⟩ := at_T34 HR0.out x5_1 p151 q151
       cases e151
       replace hx151_0 := (HB.out.cell (World.block_lt_of_cell? w _ hx151_0)).trans hx151_0
       replace hx151_1 := (HB.out.cell (World.block_lt_of_cell? w _ hx151_1)).trans hx151_1
       replace hx151_2 := (HB.out.cell (World.block_lt_of_cell? w _ hx151_2)).trans hx151_2
       replace hx151_3 := (HB.out.cell (World.block_lt_of_cell? w _ hx151_3)).trans hx151_3
       replace hx151_4 := (HB.out.cell (World.block_lt_of_cell? w _ hx151_4)).trans hx151_4
       have HR151_4 := Aside0.mk hi151_4
       have HC151_4 := Aside0.mk hl151_4
       clear hi151_4 hl151_4
       replace p151 := eq_true p151
       replace q151 := eq_true q151
       have p152 : 0 ≤ (x5_1 : Int) := of_decide_eq_true Hd.a_
       have q152 : x5_1 < (l0.length : Int) := of_decide_eq_true Hd.a_
       obtain ⟨ad152, A152_4, c152_4, e152, hx152_0, hx152_1, hx152_2, hx152_3, hx152_4, hl152_4, hi152_4⟩ := at_T34 HR0.out x5_1 p152 q152
       obtain rfl : ad151 = ad152 := (by injection e152)
       replace hx152_0 := (HB.out.cell (World.block_lt_of_cell? w _ hx152_0)).trans hx152_0
       replace hx152_1 := (HB.out.cell (World.block_lt_of_cell? w _ hx152_1)).trans hx152_1
       replace hx152_2 := (HB.out.cell (World.block_lt_of_cell? w _ hx152_2)).trans hx152_2
       replace hx152_3 := (HB.out.cell (World.block_lt_of_cell? w _ hx152_3)).trans hx152_3
       replace hx152_4 := (HB.out.cell (World.block_lt_of_cell? w _ hx152_4)).trans hx152_4
       have HR152_4 := Aside0.mk hi152_4
       have HC152_4 := Aside0.mk hl152_4
       clear hi152_4 hl152_4
       replace p152 := eq_true p152
       replace q152 := eq_true q152
       have ea_ := Option.some.inj (hx151_4.symm.trans hx152_4)
       injection ea_ with ea_ en_ ec_
       subst ea_
       subst ec_
       clear en_
       go_wp2
       go_ret
       exact ⟨Hd.e_, Hd.b_⟩
     ·
      rw [if_neg c5] at H
      have c5b0 : (((rd_T34 l0 x5_1).f0) == x1_1) = false := beq_eq_false_iff_ne.mpr c5
      have c5b1 : (((rd_T34 l0 x5_1).f0) != x1_1) = true := bne_iff_ne.mpr c5
      obtain rfl := Option.some.inj H
      have p151 : 0 ≤ (x5_1 : Int) := of_decide_eq_true Hd.a_
      have q151 : x5_1 < (l0.length : Int) := of_decide_eq_true Hd.a_
      obtain ⟨ad151, A151_4, c151_4, e151, hx151_0, hx151_1, hx151_2, hx151_3, hx151_4, hl151_4, hi151_4⟩ := at_T34 HR0.out x5_1 p151 q151
      cases e151
      replace hx151_0 := (HB.out.cell (World.block_lt_of_cell? w _ hx151_0)).trans hx151_0
      replace hx151_1 := (HB.out.cell (World.block_lt_of_cell? w _ hx151_1)).trans hx151_1
      replace hx151_2 := (HB.out.cell (World.block_lt_of_cell? w _ hx151_2)).trans hx151_2
      replace hx151_3 := (HB.out.cell (World.block_lt_of_cell? w _ hx151_3)).trans hx151_3
      replace hx151_4 := (HB.out.cell (World.block_lt_of_cell? w _ hx151_4)).trans hx151_4
      have HR151_4 := Aside0.mk hi151_4
      have HC151_4 := Aside0.mk hl151_4
      clear hi151_4 hl151_4
      replace p151 := eq_true p151
      replace q151 := eq_true q151
      go_wp2
      go_ret
      exact ⟨Hd.e_, Hd.b_⟩
    ·
     rw [if_neg c4] at H
     exact absurd H (by simp)
   ·
    rw [if_neg c3] at H
    have c3b0 : decide (x5_1 < (l0.length : Int)) = false := decide_eq_false c3
    clear c3
    obtain rfl := Option.some.inj H
    go_wp2
    go_ret
    exact ⟨Hd.e_, Hd.b_⟩
def impl_FindFeature.l0 : Nat → List S34 → Int → Int → Option Int
  | 0, _, _, _ => none
  | k + 1, x0, x1, x8 => if x8 < (x0.length : Int) then (if 0 ≤ x8 then (if (rd_T34 x0 x8).f0 = x1 then some x8 else impl_FindFeature.l0 k x0 x1 (wrap64 (x8 + 1))) else none) else some (-1)
def impl_FindFeature.f (k : Nat) (l0 : List S34) (a1 : Int) : Option Int := impl_FindFeature.l0 k l0 a1 0
set_option maxHeartbeats 8000000 in
set_option maxRecDepth 100000 in
theorem impl_FindFeature.lit (x0 x1 x2 : Int) (x3 : ByteArray) (x4 : Value) (id : Int) (g : Nat) (w : World) (h1 : x4.oneCell' = true) (hc : w.cell? ⟨g, 0, none⟩ = some (.int .i64 id)) :
    Calls Try.prog 51 #[.agg #[.int .i64 x0, .int .i64 x1, .int .i64 x2, .string x3, x4], .pointer (some ⟨g, 0, none⟩)] w fun e w' => e = .returned (.bool (decide (x0 = id))) ∧ Below w.heap.size w w' := by
  have hu34 := Try.underlying34
  have hc2 : ∀ o, (w.alloc o).cell? ⟨g, 0, none⟩ = some (.int .i64 id) := fun o => (World.cell?_alloc_lt _ _ _ (World.block_lt_of_cell? _ _ hc)).trans hc
  go_enter Try.func51, Try.ntmps51
  go_wp2
  go_ret
  exact ⟨by first | rfl | (simp; done) | (simp [beq_eq_decide]; done), below_alloc (Below.refl _ _) _⟩
set_option maxHeartbeats 8000000 in
set_option maxRecDepth 100000 in
theorem impl_FindFeature.idx (k : Nat) (A : Option Addr) (c : Nat) (l0 : List S34) (id r : Int) (g : Nat) (w : World) (hr0 : Kd.C k34 w A l0.length l0) (hc : w.cell? ⟨g, 0, none⟩ = some (.int .i64 id)) (h : impl_FindFeature.l0 k l0 id 0 = some r) :
    Calls Try.prog 50 #[.slice A l0.length c, .func (.func 51) #[] #[.pointer (some ⟨g, 0, none⟩)]] w fun e w' => e = .returned (.int .i64 r) ∧ Below w.heap.size w w' := by
  have hu34 := Try.underlying34
  have HR := Aside0.mk hr0
  have HC := Aside0.mk hc
  have HB := Aside0.mk (Below.refl w.heap.size w)
  have H' := Aside0.mk h
  clear h hr0 hc
  go_enter Try.func50, Try.ntmps50
  go_wp2
  go_loopg [8] k (fun kq v8 w' => ∃ (x8_1 : Int), v8 = .int .i64 x8_1 ∧ Aside0 (impl_FindFeature.l0 kq l0 id x8_1 = some r) ∧ Aside0 (kq ≤ k) ∧ Aside0 (Below w.heap.size w w'))
  case atStart => exact ⟨0, rfl, H', ⟨Nat.le_refl _⟩, HB⟩
  case round =>
    clear H' HB
    obtain ⟨x8_1, rfl, HA, HK1, HB⟩ := hrel
    cases gk with
    | zero => exact absurd HA.out (by simp [impl_FindFeature.l0])
    | succ k1 =>
      have H := HA.out
      clear HA
      simp only [impl_FindFeature.l0] at H
      by_cases c3 : x8_1 < (l0.length : Int)
      · rw [if_pos c3] at H
        by_cases c4 : 0 ≤ x8_1
        · rw [if_pos c4] at H
          obtain ⟨ad, A4, c4_, e1, hx0, hx1, hx2, hx3, hx4, _, _⟩ := at_T34 HR.out x8_1 c4 c3
          subst e1
          replace hx0 := (HB.out.cell (World.block_lt_of_cell? w _ hx0)).trans hx0
          replace hx1 := (HB.out.cell (World.block_lt_of_cell? w _ hx1)).trans hx1
          replace hx2 := (HB.out.cell (World.block_lt_of_cell? w _ hx2)).trans hx2
          replace hx3 := (HB.out.cell (World.block_lt_of_cell? w _ hx3)).trans hx3
          replace hx4 := (HB.out.cell (World.block_lt_of_cell? w _ hx4)).trans hx4
          have hcw := (HB.out.cell (World.block_lt_of_cell? w _ HC.out)).trans HC.out
          have b3 : decide (x8_1 < (l0.length : Int)) = true := decide_eq_true c3
          have b4 : decide (0 ≤ x8_1) = true := decide_eq_true c4
          have b3' := eq_true c3
          have b4' := eq_true c4
          clear c3 c4
          by_cases c5 : (rd_T34 l0 x8_1).f0 = id
          · rw [if_pos c5] at H
            obtain rfl := Option.some.inj H
            have HD := Aside0.mk (decide_eq_true c5)
            clear c5 H
            go_wp2_with (first | (go_at_call 51; (with_reducible refine (impl_FindFeature.lit _ _ _ _ _ id g _ rfl hcw).mono ?_); rintro e w2 ⟨rfl, hb⟩; rw [HD.out]))
            go_ret
            exact ⟨rfl, below_step HB.out hb⟩
          · rw [if_neg c5] at H
            have HD := Aside0.mk (decide_eq_false c5)
            have H' := Aside0.mk H
            clear c5 H
            go_wp2_with (first | (go_at_call 51; (with_reducible refine (impl_FindFeature.lit _ _ _ _ _ id g _ rfl hcw).mono ?_); rintro e w2 ⟨rfl, hb⟩; rw [HD.out]))
            go_roundg k1
            case measure => have := HK1.out; omega
            case rel => exact ⟨_, rfl, H', ⟨by have := HK1.out; omega⟩, ⟨below_step HB.out hb⟩⟩
        · rw [if_neg c4] at H; cases H
      · rw [if_neg c3] at H
        obtain rfl := Option.some.inj H
        have b3 : decide (x8_1 < (l0.length : Int)) = false := decide_eq_false c3
        go_wp2
        go_ret
        exact ⟨rfl, HB.out⟩
set_option maxHeartbeats 8000000 in
set_option maxRecDepth 100000 in
theorem impl_FindFeature.calls (k : Nat) (A0 : Option Addr) (c0 : Nat) (l0 : List S34) (a1 : Int) (r : Int) (w : World) (hr0 : Kd.C k34 w A0 l0.length l0) (hc0 : l0.length ≤ c0) (h : impl_FindFeature.f k l0 a1 = some r) :
    Calls Try.prog 20 #[.slice A0 l0.length c0, .int .i64 a1] w fun e w' => e = .returned (.int .i64 r) ∧ Below w.heap.size w w' := by
  have hmf : ∀ (fn : Fn) (first cap : Array Value) (w : World), (Instr.makeFunc fn first cap).run Try.prog w = .ok (.func fn first cap) w := fun _ _ _ _ => rfl
  have HR := Aside0.mk hr0
  have H' := Aside0.mk (show impl_FindFeature.l0 k l0 a1 0 = some r from h)
  clear h hr0 hc0
  go_enter Try.func20, Try.ntmps20
  go_wp2_with (first | (go_at_call 50; (with_reducible refine (impl_FindFeature.idx k A0 c0 l0 a1 r _ _ (Kd.C_below HR.out (below_alloc (Below.refl _ _) _)) ?hc H'.out).mono ?_); (case hc => exact (blk_cell (blk_new w _) 0).trans rfl); rintro e w2 ⟨rfl, hb⟩))
  go_ret
  exact ⟨rfl, below_step (below_alloc (Below.refl _ _) _) hb⟩
def impl_InRange.f (a0 : Int) (a1 : Int) (a2 : Int) : Option (Bool) := if a1 ≤ a0 then (some (decide (a0 ≤ a2))) else (some false)
set_option maxHeartbeats 8000000 in
set_option maxRecDepth 100000 in
theorem impl_InRange.calls (a0 : Int) (a1 : Int) (a2 : Int) (r : Bool) (w : World) (h : impl_InRange.f a0 a1 a2 = some r) :
  Calls Try.prog 71 #[.int .i64 a0, .int .i64 a1, .int .i64 a2] w fun e w' => e = .returned (.bool r) ∧ Drawn0 w w' := by
 have H : (if a1 ≤ a0 then (some (decide (a0 ≤ a2))) else (some false)) = some r := h
 clear h
 by_cases c4 : a1 ≤ a0
 ·
  rw [if_pos c4] at H
  have c4b0 : decide (a1 ≤ a0) = true := decide_eq_true c4
  clear c4
  obtain rfl := Option.some.inj H
  go_enter Try.func71, Try.ntmps71
  go_wp2
  go_ret
  exact ⟨by first | rfl | (simp; done) | (simp [*]; done), by repeat (first | exact Drawn0.refl _ | apply Drawn0.step)⟩
 ·
  rw [if_neg c4] at H
  have c4b0 : decide (a1 ≤ a0) = false := decide_eq_false c4
  clear c4
  obtain rfl := Option.some.inj H
  go_enter Try.func71, Try.ntmps71
  go_wp2
  go_ret
  exact ⟨by first | rfl | (simp; done) | (simp [*]; done), by repeat (first | exact Drawn0.refl _ | apply Drawn0.step)⟩
def impl_IsName.l0 : Nat → ByteArray → Int → Int → Option (Bool)
 | 0, _, _, _ => none
 | k + 1, x0, x5, x6 => if x6 < x5 then (if 0 ≤ x6 then (if x6 < (x0.size : Int) then (if (bt x0 x6) < 97 then (some false) else (if (bt x0 x6) > 122 then (some false) else (impl_IsName.l0 k x0 x5 (wrap64 (x6 + 1))))) else (none)) else (none)) else ((impl_InRange.f (x0.size : Int) 1 8).bind fun t158 => (some t158))
def impl_IsName.f (k : Nat) (a0 : ByteArray) : Option (Bool) := impl_IsName.l0 k a0 (a0.size : Int) 0
set_option maxHeartbeats 8000000 in
set_option maxRecDepth 100000 in
theorem impl_IsName.calls (k : Nat) (a0 : ByteArray) (r : Bool) (w : World) (h : impl_IsName.f k a0 = some r) :
  Calls Try.prog 72 #[.string a0] w fun e w' => e = .returned (.bool r) ∧ Drawn0 w w' := by
 have H : (impl_IsName.l0 k a0 (a0.size : Int) 0) = some r := h
 clear h
 have H' := Aside0.mk H
 clear H
 go_enter Try.func72, Try.ntmps72
 go_wp2
 go_loopg [6] k (fun kq v6 w' => ∃ (x6_1 : Int), v6 = .int .i64 x6_1 ∧ Aside0 (impl_IsName.l0 kq a0 (a0.size : Int) x6_1 = some r) ∧ Aside0 (kq ≤ k) ∧ Drawn0 w w')
 case atStart => exact ⟨(0), (by first | rfl | (simp; done) | (simp [*]; done)), H', ⟨Nat.le_refl _⟩, by repeat (first | exact Drawn0.refl _ | apply Drawn0.step)⟩
 case round =>
  clear H'
  obtain ⟨x6_1, rfl, HA, HK1, ⟨m1, rfl⟩⟩ := hrel
  cases gk with
  | zero => exact absurd HA.out (by simp [impl_IsName.l0])
  | succ k1 =>
   have H := HA.out
   clear HA
   simp only [impl_IsName.l0] at H
   by_cases c2 : x6_1 < (a0.size : Int)
   ·
    rw [if_pos c2] at H
    have c2b0 : decide (x6_1 < (a0.size : Int)) = true := decide_eq_true c2
    clear c2
    by_cases c3 : 0 ≤ x6_1
    ·
     rw [if_pos c3] at H
     have c3b0 : decide (0 ≤ x6_1) = true := decide_eq_true c3
     clear c3
     by_cases c4 : x6_1 < (a0.size : Int)
     ·
      rw [if_pos c4] at H
      have c4b0 : decide (x6_1 < (a0.size : Int)) = true := decide_eq_true c4
      clear c4
      by_cases c6 : (bt a0 x6_1) < 97
      ·
       rw [if_pos c6] at H
       have c6b0 : decide ((bt a0 x6_1) < 97) = true := decide_eq_true c6
       clear c6
       obtain rfl := Option.some.inj H
       have p5 : 0 ≤ (x6_1 : Int) := of_decide_eq_true Hd.a_
       have q5 : x6_1 < (a0.size : Int) := of_decide_eq_true Hd.a_
       have hx5 := bt_at a0 x6_1
       replace p5 := eq_true p5
       replace q5 := eq_true q5
       go_wp2
       go_ret
       exact ⟨by first | rfl | (simp; done) | (simp [*]; done), by repeat (first | exact Drawn0.refl _ | apply Drawn0.step)⟩
      ·
       rw [if_neg c6] at H
       have c6b0 : decide ((bt a0 x6_1) < 97) = false := decide_eq_false c6
       clear c6
       by_cases c8 : (bt a0 x6_1) > 122
       ·
        rw [if_pos c8] at H
        have c8b0 : decide (122 < (bt a0 x6_1)) = true := decide_eq_true c8
        clear c8
        obtain rfl := Option.some.inj H
        have p5 : 0 ≤ (x6_1 : Int) := of_decide_eq_true Hd.a_
        have q5 : x6_1 < (a0.size : Int) := of_decide_eq_true Hd.a_
        have hx5 := bt_at a0 x6_1
        replace p5 := eq_true p5
        replace q5 := eq_true q5
        have p7 : 0 ≤ (x6_1 : Int) := of_decide_eq_true Hd.a_
        have q7 : x6_1 < (a0.size : Int) := of_decide_eq_true Hd.a_
        have hx7 := bt_at a0 x6_1
        replace p7 := eq_true p7
        replace q7 := eq_true q7
        go_wp2
        go_ret
        exact ⟨by first | rfl | (simp; done) | (simp [*]; done), by repeat (first | exact Drawn0.refl _ | apply Drawn0.step)⟩
       ·
        rw [if_neg c8] at H
        have c8b0 : decide (122 < (bt a0 x6_1)) = false := decide_eq_false c8
        clear c8
        have H' := Aside0.mk H
        clear H
        have p5 : 0 ≤ (x6_1 : Int) := of_decide_eq_true Hd.a_
        have q5 : x6_1 < (a0.size : Int) := of_decide_eq_true Hd.a_
        have hx5 := bt_at a0 x6_1
        replace p5 := eq_true p5
        replace q5 := eq_true q5
        have p7 : 0 ≤ (x6_1 : Int) := of_decide_eq_true Hd.a_
        have q7 : x6_1 < (a0.size : Int) := of_decide_eq_true Hd.a_
        have hx7 := bt_at a0 x6_1
        replace p7 := eq_true p7
        replace q7 := eq_true q7
        go_wp2
        go_roundg k1
        case measure => have := HK1.out; omega
        case rel => exact ⟨(wrap64 (x6_1 + 1)), (by first | rfl | (simp; done) | (simp [*]; done)), H', ⟨by have := HK1.out; omega⟩, by repeat (first | exact Drawn0.refl _ | apply Drawn0.step)⟩
     ·
      rw [if_neg c4] at H
      exact absurd H (by simp)
    ·
     rw [if_neg c3] at H
     exact absurd H (by simp)
   ·
    rw [if_neg c2] at H
    have c2b0 : decide (x6_1 < (a0.size : Int)) = false := decide_eq_false c2
    clear c2
    replace H := Option.bind_eq_some_iff.mp H
    obtain ⟨t158, A90, H⟩ := H
    replace H : (some t158) = some r := H
    have A9 := Aside0.mk A90
    clear A90
    obtain rfl := Option.some.inj H
    go_wp2_with (first | ((with_reducible refine gate_callee (f := 71) rfl ?_); refine goesL_ (some 22) rfl rfl Try.func71 (by kernel_rfl) rfl #[.int .i64 (a0.size : Int), .int .i64 1, .int .i64 8] rfl Hd.m_ ?_; (with_reducible refine (impl_InRange.calls (a0.size : Int) 1 8 t158 _ A9.out).mono ?_); rintro e w' ⟨rfl, ⟨nd, rfl⟩⟩; refine ⟨_, rfl, ?_⟩))
    go_ret
    exact ⟨by first | rfl | (simp; done) | (simp [*]; done), by repeat (first | exact Drawn0.refl _ | apply Drawn0.step)⟩
def impl_IsPoint.f (a0_0 : Int) (a0_1 : Int) : Option (Bool) := (impl_InRange.f a0_0 0 200).bind fun t160 => (if t160 = true then ((impl_InRange.f a0_1 0 200).bind fun t161 => (some t161)) else (some false))
set_option maxHeartbeats 8000000 in
set_option maxRecDepth 100000 in
theorem impl_IsPoint.calls (a0_0 : Int) (a0_1 : Int) (r : Bool) (w : World) (h : impl_IsPoint.f a0_0 a0_1 = some r) :
  Calls Try.prog 73 #[.agg #[.int .i64 a0_0, .int .i64 a0_1]] w fun e w' => e = .returned (.bool r) ∧ Below w.heap.size w w' := by
 have hu75 := Try.underlying75
 have HB := Aside0.mk (Below.refl w.heap.size w)
 have H : ((impl_InRange.f a0_0 0 200).bind fun t160 => (if t160 = true then ((impl_InRange.f a0_1 0 200).bind fun t161 => (some t161)) else (some false))) = some r := h
 clear h
 replace H := Option.bind_eq_some_iff.mp H
 obtain ⟨t160, A20, H⟩ := H
 replace H : (if t160 = true then ((impl_InRange.f a0_1 0 200).bind fun t161 => (some t161)) else (some false)) = some r := H
 have A2 := Aside0.mk A20
 clear A20
 by_cases c3 : t160 = true
 ·
  subst c3
  have H1 : ((impl_InRange.f a0_1 0 200).bind fun t161 => (some t161)) = some r := by rw [if_pos rfl] at H; exact H
  clear H
  have H := H1
  clear H1
  replace H := Option.bind_eq_some_iff.mp H
  obtain ⟨t161, A40, H⟩ := H
  replace H : (some t161) = some r := H
  have A4 := Aside0.mk A40
  clear A40
  obtain rfl := Option.some.inj H
  go_enter Try.func73, Try.ntmps73
  go_wp2_with (first | ((with_reducible refine gate_dst (N := 1) rfl ?_); refine Hd.box_ 1 (#[.int .i64 a0_0, .int .i64 a0_1]) 75 ?_; intro gb159 hg w5 hbox hb; have BK159 := Aside0.mk (hbox); have GW159 := Aside0.mk ((Hd.g_ hg Hd.b_ : w.heap.size ≤ gb159)); have GE159 := Aside0.mk ((Hd.g_ hg Hd.b_ : w.heap.size ≤ gb159)); replace HB := Aside0.mk (below_step Hd.b_ hb); clear hb hbox hg; obtain ⟨hcz6_0, hcz6_1⟩ := Hd.c2_ BK159.out; obtain ⟨hfz6_0, hfz6_1⟩ := Hd.f2_ BK159.out) | ((with_reducible refine gate_callee (f := 71) rfl ?_); refine goesL_ (some 5) rfl rfl Try.func71 (by kernel_rfl) rfl #[.int .i64 a0_0, .int .i64 0, .int .i64 200] rfl Hd.m_ ?_; (with_reducible refine (impl_InRange.calls a0_0 0 200 true _ A2.out).mono ?_); rintro e w' ⟨rfl, ⟨nd, rfl⟩⟩; refine ⟨_, rfl, ?_⟩) | (go_at_call 71; (with_reducible refine (impl_InRange.calls a0_1 0 200 t161 _ A4.out).mono ?_); rintro e w' ⟨rfl, ⟨nd, rfl⟩⟩))
  go_ret
  exact ⟨Hd.e_, Hd.b_⟩
 ·
  replace c3 := Bool.eq_false_iff.mpr c3
  subst c3
  have H1 : (some false) = some r := by rw [if_neg (show ¬ (false = true) by decide)] at H; exact H
  clear H
  have H := H1
  clear H1
  obtain rfl := Option.some.inj H
  go_enter Try.func73, Try.ntmps73
  go_wp2_with (first | ((with_reducible refine gate_dst (N := 1) rfl ?_); refine Hd.box_ 1 (#[.int .i64 a0_0, .int .i64 a0_1]) 75 ?_; intro gb159 hg w7 hbox hb; have BK159 := Aside0.mk (hbox); have GW159 := Aside0.mk ((Hd.g_ hg Hd.b_ : w.heap.size ≤ gb159)); have GE159 := Aside0.mk ((Hd.g_ hg Hd.b_ : w.heap.size ≤ gb159)); replace HB := Aside0.mk (below_step Hd.b_ hb); clear hb hbox hg; obtain ⟨hcz8_0, hcz8_1⟩ := Hd.c2_ BK159.out; obtain ⟨hfz8_0, hfz8_1⟩ := Hd.f2_ BK159.out) | ((with_reducible refine gate_callee (f := 71) rfl ?_); refine goesL_ (some 5) rfl rfl Try.func71 (by kernel_rfl) rfl #[.int .i64 a0_0, .int .i64 0, .int .i64 200] rfl Hd.m_ ?_; (with_reducible refine (impl_InRange.calls a0_0 0 200 false _ A2.out).mono ?_); rintro e w' ⟨rfl, ⟨nd, rfl⟩⟩; refine ⟨_, rfl, ?_⟩))
  go_ret
  exact ⟨Hd.e_, Hd.b_⟩
end Go.Proofs.Ytbbdhlggnglfgaa.MFnExactTakeFeature
