-- Laid by this session's program pp.py, after the kit's print and texts of the session's own. Not trusted: Lean checks it.
import Derived.Test.YtchmbcembbbpladZPlacesOfMx0
import Derived.Test.YtchmbcembbbpladZPlacesOfMx14
namespace Go.Proofs.Ytchmbcembbbplad.MFnExactPlacesOf
open Go.RowKit Go.Proofs.YtchmbcembbbpladW.PrintWords Go.Proofs.YtchmbcembbbpladW.PrintLast Go.Proofs.YtchmbcembbbpladW.PrintMore
attribute [local go_sem] max2_int min2_int max_two min_two max_three min_three max_four min_four   -- for this text's walks alone
set_option linter.unusedVariables false
set_option linter.unusedSimpArgs false
def impl_PlacesOf.l0 : Nat → List (S65) → List (S37) → Int → Int → Option ((List (S65)))
 | 0, _, _, _, _ => none
 | k + 1, x3, x11, x12, x13 => if x13 < x12 then (if 0 ≤ x13 then (if x13 < (x11.length : Int) then (if ((rd_T37 x11 x13).f1) = 1 then (if 0 < (((rd_T37 x11 x13).f4).length : Int) then (if x3.length < 4398046511104 then (impl_PlacesOf.l0 k (x3 ++ [(⟨(rd_T37 x11 x13).f0, (⟨(rd_T63 ((rd_T37 x11 x13).f4) 0).f0, (rd_T63 ((rd_T37 x11 x13).f4) 0).f1⟩ : S63), (rd_T37 x11 x13).f2⟩ : S65)]) x11 x12 (wrap64 (x13 + 1))) else (none)) else (none)) else (impl_PlacesOf.l0 k x3 x11 x12 (wrap64 (x13 + 1)))) else (none)) else (none)) else (some x3)
def impl_PlacesOf.f (k : Nat) (l0 : List (S37)) : Option ((List (S65))) := (some (([] : List (S65)) : List (S65))).bind fun y384 => ((impl_IsSource.f k l0).bind fun t387 => (if t387 = true then (impl_PlacesOf.l0 k y384 l0 (l0.length : Int) 0) else (some y384)))
def impl_PlacesOf.T8 : Bool × List (List Nat × List Nat) := (true, [([], []), ([], []), ([1], [1]), ([], []), ([3], [3]), ([4], [4]), ([5], [5]), ([], []), ([7], [7]), ([2, 6, 8], [2, 6, 8]), ([9], [9]), ([0, 10], [0, 10]), ([11, 11, 0, 1, 2, 3, 4, 5, 6, 7, 8, 9, 10, 11], [0, 11])])
def impl_PlacesOf.B8 : List Nat := [0, 0, 2, 0, 8, 24, 56, 0, 128, 510, 1022, 2047, 4095]
theorem impl_PlacesOf.tab8 : rtab .any (opsOf Try.f11 8) = impl_PlacesOf.T8 := by kernel_rfl
theorem impl_PlacesOf.bits8 : waitsOk impl_PlacesOf.T8.2 impl_PlacesOf.B8 = true := by kernel_rfl
set_option maxHeartbeats 8000000 in
set_option maxRecDepth 100000 in
theorem impl_PlacesOf.calls (k : Nat) (A0 : Option Addr) (c0 : Nat) (l0 : List (S37)) (r : List (S65)) (w : World) (hr0 : Kd.C k37 w A0 l0.length l0) (hc0 : l0.length ≤ c0) (h : impl_PlacesOf.f k l0 = some r) :
  Calls Try.prog 11 #[.slice A0 l0.length c0] w fun e w' => ∃ v0_ : Value, e = .returned (v0_) ∧ Kd.R k65 65 w' w.heap.size (fun _ => True) v0_ r ∧ Below w.heap.size w w' := by
 have hu37 := Try.underlying37
 have hu63 := Try.underlying63
 have hu65 := Try.underlying65
 have HR0 := Aside0.mk hr0
 have HC0 := Aside0.mk hc0
 clear hr0 hc0
 have HB := Aside0.mk (Below.refl w.heap.size w)
 have H : ((some (([] : List (S65)) : List (S65))).bind fun y384 => ((impl_IsSource.f k l0).bind fun t387 => (if t387 = true then (impl_PlacesOf.l0 k y384 l0 (l0.length : Int) 0) else (some y384)))) = some r := h
 clear h
 obtain ⟨y384, hy384⟩ : ∃ y_ : List (S65), y_ = (([] : List (S65))) := ⟨_, rfl⟩
 replace H : ((impl_IsSource.f k l0).bind fun t387 => (if t387 = true then (impl_PlacesOf.l0 k y384 l0 (l0.length : Int) 0) else (some y384))) = some r := by first | (rw [hy384]; with_reducible exact H) | (have H2_ := (Option.bind_some _ _).symm.trans H; rw [hy384]; with_reducible exact H2_) | (have H2_ := (Option.bind_some _ _).symm.trans H; with_reducible exact H2_) | with_reducible exact H | (rw [hy384]; exact H) | exact H
 have Ny384 := Aside0.mk hy384
 clear hy384
 replace H := Option.bind_eq_some_iff.mp H
 obtain ⟨t387, A20, H⟩ := H
 replace H : (if t387 = true then (impl_PlacesOf.l0 k y384 l0 (l0.length : Int) 0) else (some y384)) = some r := H
 have A2 := Aside0.mk A20
 clear A20
 by_cases c3 : t387 = true
 ·
  subst c3
  have H1 : (impl_PlacesOf.l0 k y384 l0 (l0.length : Int) 0) = some r := by rw [if_pos rfl] at H; exact H
  clear H
  have H := H1
  clear H1
  have H' := Aside0.mk H
  clear H
  go_enter Try.func11, Try.ntmps11
  go_wp2_with (first | ((with_reducible refine gate_dst (N := 6) rfl ?_); refine Kd.R_lit k65 _ 65 ?hg (N := 6) ?hd (xs := ([] : List (S65))) (inner := []) (ok := fun _ => True) (okp := fun _ => True) ?hr ?hp (fun _ hk => hk) trivial (Below.refl _ _) (Nat.le_refl _) (by simp) ?_; (case hd => rfl); (case hg => rfl); (case hr => first | (go_simp; done) | (go_simp; rfl)); (case hp => exact (Reps.none _ _)); intro v385 w4 ho5 hb hg_ hnew_; clear hg_ hnew_; (first | rw [← Ny384.out] at ho5 | (simp only [Int.reduceToNat] at ho5; rw [← Ny384.out] at ho5)); have HO386 := Aside0.mk (Kd.R_lower ho5 (below_size Hd.b_)); replace HB := Aside0.mk (below_step Hd.b_ hb); clear hb ho5) | ((with_reducible refine gate_callee (f := 24) rfl ?_); refine goesL_ (some 8) rfl rfl Try.func24 (by kernel_rfl) rfl #[.slice A0 l0.length c0] rfl Hd.m_ ?_; (with_reducible refine (impl_IsSource.calls k _ _ l0 true _ ?side1 ?side2 A2.out).mono ?_); (case side1 => repeat (first | exact (Kd.C_below HR0.out HB.out) | (with_reducible refine Kd.C_alloc ?_ _) | (with_reducible refine Kd.C_drewN ?_ _) | (with_reducible refine Kd.C_drew ?_))); (case side2 => exact HC0.out); rintro e w6 ⟨rfl, hb⟩; refine ⟨_, rfl, ?_⟩; replace HO386 := Aside0.mk (Kd.R_below (Hd.r_ HO386) hb); replace HB := Aside0.mk (below_step Hd.b_ hb); (try clear hb); (try clear hb2); (try clear hk); (try clear hi)))
  go_loopg [3, 13] k (fun kq v3 v13 w' => ∃ (x3_1 : List (S65)) (x13_1 : Int), v13 = .int .i64 x13_1 ∧ Aside0 (impl_PlacesOf.l0 kq x3_1 l0 (l0.length : Int) x13_1 = some r) ∧ Aside0 (kq ≤ k) ∧ Aside0 (Kd.R k65 65 w' w.heap.size (fun _ => True) v3 x3_1) ∧ Aside0 (Below w.heap.size w w'))
  case atStart => exact ⟨(y384), (0), (by first | rfl | (simp; done) | (simp [*]; done)), H', ⟨Nat.le_refl _⟩, ⟨by (with_reducible repeat (first | apply Kd.R_alloc | apply Kd.R_drewN | apply Kd.R_drew)); exact HO386.out⟩, ⟨Hd.b_⟩⟩
  case round =>
   clear H'
   try clear c1
   try clear c2
   try clear p2
   try clear c3
   obtain ⟨x3_1, x13_1, rfl, HA, HK1, HO_3, HB⟩ := hrel
   cases gk with
   | zero => exact absurd HA.out (by simp [impl_PlacesOf.l0])
   | succ k1 =>
    have H := HA.out
    clear HA
    simp only [impl_PlacesOf.l0] at H
    by_cases c7 : x13_1 < (l0.length : Int)
    ·
     rw [if_pos c7] at H
     have c7b0 : decide (x13_1 < (l0.length : Int)) = true := decide_eq_true c7
     clear c7
     by_cases c8 : 0 ≤ x13_1
     ·
      rw [if_pos c8] at H
      have c8b0 : decide (0 ≤ x13_1) = true := decide_eq_true c8
      clear c8
      by_cases c9 : x13_1 < (l0.length : Int)
      ·
       rw [if_pos c9] at H
       have c9b0 : decide (x13_1 < (l0.length : Int)) = true := decide_eq_true c9
       clear c9
       by_cases c10 : ((rd_T37 l0 x13_1).f1) = 1
       ·
        rw [if_pos c10] at H
        have c10b0 : (((rd_T37 l0 x13_1).f1) == 1) = true := beq_iff_eq.mpr c10
        have c10b1 : (((rd_T37 l0 x13_1).f1) != 1) = false := bne_eq_false_iff_eq.mpr c10
        clear c10
        by_cases c11 : 0 < (((rd_T37 l0 x13_1).f4).length : Int)
        ·
         rw [if_pos c11] at H
         have c11b0 : decide (0 < (((rd_T37 l0 x13_1).f4).length : Int)) = true := decide_eq_true c11
         have c11b1 : decide (0 < ((rd_T37 l0 x13_1).f4).length) = true := decide_eq_true (by omega)
         clear c11
         by_cases c12 : x3_1.length < 4398046511104
         ·
          rw [if_pos c12] at H
          have LMc12 := Aside0.mk c12
          clear c12
          obtain ⟨y391, hy391⟩ : ∃ y_ : List (S65), y_ = (x3_1 ++ [(⟨(rd_T37 l0 x13_1).f0, (⟨(rd_T63 ((rd_T37 l0 x13_1).f4) 0).f0, (rd_T63 ((rd_T37 l0 x13_1).f4) 0).f1⟩ : S63), (rd_T37 l0 x13_1).f2⟩ : S65)]) := ⟨_, rfl⟩
          replace H : (impl_PlacesOf.l0 k1 y391 l0 (l0.length : Int) (wrap64 (x13_1 + 1))) = some r := by first | (rw [hy391]; with_reducible exact H) | (have H2_ := (Option.bind_some _ _).symm.trans H; rw [hy391]; with_reducible exact H2_) | (have H2_ := (Option.bind_some _ _).symm.trans H; with_reducible exact H2_) | with_reducible exact H | (rw [hy391]; exact H) | exact H
          have Ny391 := Aside0.mk hy391
          clear hy391
          have H' := Aside0.mk H
          clear H
          have p388 : 0 ≤ (x13_1 : Int) := of_decide_eq_true Hd.a_
          have q388 : x13_1 < (l0.length : Int) := of_decide_eq_true Hd.a_
          obtain ⟨ad388, A388_4, c388_4, e388, hx388_0, hx388_1, hx388_2, hx388_3, hx388_4, hl388_4, hi388_4⟩ := at_T37 HR0.out x13_1 p388 q388
          cases e388
          replace hx388_0 := (HB.out.cell (World.block_lt_of_cell? w _ hx388_0)).trans hx388_0
          replace hx388_1 := (HB.out.cell (World.block_lt_of_cell? w _ hx388_1)).trans hx388_1
          replace hx388_2 := (HB.out.cell (World.block_lt_of_cell? w _ hx388_2)).trans hx388_2
          replace hx388_3 := (HB.out.cell (World.block_lt_of_cell? w _ hx388_3)).trans hx388_3
          replace hx388_4 := (HB.out.cell (World.block_lt_of_cell? w _ hx388_4)).trans hx388_4
          have HR388_4 := Aside0.mk hi388_4
          have HC388_4 := Aside0.mk hl388_4
          clear hi388_4 hl388_4
          replace p388 := eq_true p388
          replace q388 := eq_true q388
          try go_wp2_with (first | ((with_reducible refine gate_dst (N := 5) rfl ?_); refine Hd.box_ 5 (#[.int .i64 0, .int .i64 0, .int .i64 0, .string (⟨#[]⟩ : ByteArray), .slice none 0 0]) 37 ?_; intro gb389 hg w13 hbox hb; replace HO_3 := Aside0.mk (Kd.R_below (Hd.r_ HO_3) hb); have BK389 := Aside0.mk (hbox); have GW389 := Aside0.mk ((Hd.g_ hg Hd.b_ : w.heap.size ≤ gb389)); have GE389 := Aside0.mk ((Hd.g_ hg Hd.b_ : w.heap.size ≤ gb389)); replace HB := Aside0.mk (below_step Hd.b_ hb); clear hb hbox hg; obtain ⟨hcz14_0, hcz14_1, hcz14_2, hcz14_3, hcz14_4⟩ := Hd.c5_ BK389.out; obtain ⟨hfz14_0, hfz14_1, hfz14_2, hfz14_3, hfz14_4⟩ := Hd.f5_ BK389.out))
          have n0_ : Aside0 (Kd.R k65 65 (((((w13.setCell ⟨gb389, 0, none⟩ (.int .i64 ((rd_T37 l0 x13_1).f0))).setCell ⟨gb389, 1, none⟩ (.int .i64 ((rd_T37 l0 x13_1).f1))).setCell ⟨gb389, 2, none⟩ (.int .i64 ((rd_T37 l0 x13_1).f2))).setCell ⟨gb389, 3, none⟩ (.string ((rd_T37 l0 x13_1).f3))).setCell ⟨gb389, 4, none⟩ (.slice A388_4 ((rd_T37 l0 x13_1).f4).length c388_4)) w.heap.size (fun _ => True) u3 x3_1) := ⟨by (with_reducible repeat (first | apply Kd.R_alloc | apply Kd.R_drewN | apply Kd.R_drew)); exact Kd.R_mono (Kd.R_far (p := ⟨gb389, 4, none⟩) (Kd.R_far (p := ⟨gb389, 3, none⟩) (Kd.R_far (p := ⟨gb389, 2, none⟩) (Kd.R_far (p := ⟨gb389, 1, none⟩) (Kd.R_far (p := ⟨gb389, 0, none⟩) (Kd.R_types HO_3.out BK389.out (by decide)) (fun _ hk => hk.2) (.int .i64 ((rd_T37 l0 x13_1).f0))) (fun _ hk => hk.2) (.int .i64 ((rd_T37 l0 x13_1).f1))) (fun _ hk => hk.2) (.int .i64 ((rd_T37 l0 x13_1).f2))) (fun _ hk => hk.2) (.string ((rd_T37 l0 x13_1).f3))) (fun _ hk => hk.2) (.slice A388_4 ((rd_T37 l0 x13_1).f4).length c388_4)) (fun _ hk => trivial)⟩
          have n1_ : Aside0 ((((((w13.setCell ⟨gb389, 0, none⟩ (.int .i64 ((rd_T37 l0 x13_1).f0))).setCell ⟨gb389, 1, none⟩ (.int .i64 ((rd_T37 l0 x13_1).f1))).setCell ⟨gb389, 2, none⟩ (.int .i64 ((rd_T37 l0 x13_1).f2))).setCell ⟨gb389, 3, none⟩ (.string ((rd_T37 l0 x13_1).f3))).setCell ⟨gb389, 4, none⟩ (.slice A388_4 ((rd_T37 l0 x13_1).f4).length c388_4)).heap[gb389]? = some (.cells #[.int .i64 ((rd_T37 l0 x13_1).f0), .int .i64 ((rd_T37 l0 x13_1).f1), .int .i64 ((rd_T37 l0 x13_1).f2), .string ((rd_T37 l0 x13_1).f3), .slice A388_4 ((rd_T37 l0 x13_1).f4).length c388_4] 37 (0, 0))) := ⟨by (with_reducible repeat (first | refine blk_drewN ?_ _ | refine blk_drew ?_ | refine blk_alloc ?_ _)); refine blk_put (cs := #[.int .i64 ((rd_T37 l0 x13_1).f0), .int .i64 ((rd_T37 l0 x13_1).f1), .int .i64 ((rd_T37 l0 x13_1).f2), .string ((rd_T37 l0 x13_1).f3), .slice none 0 0]) ?_ 4 _ rfl; (with_reducible repeat (first | refine blk_drewN ?_ _ | refine blk_drew ?_ | refine blk_alloc ?_ _)); refine blk_put (cs := #[.int .i64 ((rd_T37 l0 x13_1).f0), .int .i64 ((rd_T37 l0 x13_1).f1), .int .i64 ((rd_T37 l0 x13_1).f2), .string (⟨#[]⟩ : ByteArray), .slice none 0 0]) ?_ 3 _ rfl; (with_reducible repeat (first | refine blk_drewN ?_ _ | refine blk_drew ?_ | refine blk_alloc ?_ _)); refine blk_put (cs := #[.int .i64 ((rd_T37 l0 x13_1).f0), .int .i64 ((rd_T37 l0 x13_1).f1), .int .i64 0, .string (⟨#[]⟩ : ByteArray), .slice none 0 0]) ?_ 2 _ rfl; (with_reducible repeat (first | refine blk_drewN ?_ _ | refine blk_drew ?_ | refine blk_alloc ?_ _)); refine blk_put (cs := #[.int .i64 ((rd_T37 l0 x13_1).f0), .int .i64 0, .int .i64 0, .string (⟨#[]⟩ : ByteArray), .slice none 0 0]) ?_ 1 _ rfl; (with_reducible repeat (first | refine blk_drewN ?_ _ | refine blk_drew ?_ | refine blk_alloc ?_ _)); refine blk_put (cs := #[.int .i64 0, .int .i64 0, .int .i64 0, .string (⟨#[]⟩ : ByteArray), .slice none 0 0]) ?_ 0 _ rfl; (with_reducible repeat (first | refine blk_drewN ?_ _ | refine blk_drew ?_ | refine blk_alloc ?_ _)); exact BK389.out⟩
          have n2_ : Aside0 (Below w.heap.size w (((((w13.setCell ⟨gb389, 0, none⟩ (.int .i64 ((rd_T37 l0 x13_1).f0))).setCell ⟨gb389, 1, none⟩ (.int .i64 ((rd_T37 l0 x13_1).f1))).setCell ⟨gb389, 2, none⟩ (.int .i64 ((rd_T37 l0 x13_1).f2))).setCell ⟨gb389, 3, none⟩ (.string ((rd_T37 l0 x13_1).f3))).setCell ⟨gb389, 4, none⟩ (.slice A388_4 ((rd_T37 l0 x13_1).f4).length c388_4))) := ⟨Hd.b_⟩
          (try clear HO_3)
          (try clear BK389)
          (try clear HB)
          generalize (((((w13.setCell ⟨gb389, 0, none⟩ (.int .i64 ((rd_T37 l0 x13_1).f0))).setCell ⟨gb389, 1, none⟩ (.int .i64 ((rd_T37 l0 x13_1).f1))).setCell ⟨gb389, 2, none⟩ (.int .i64 ((rd_T37 l0 x13_1).f2))).setCell ⟨gb389, 3, none⟩ (.string ((rd_T37 l0 x13_1).f3))).setCell ⟨gb389, 4, none⟩ (.slice A388_4 ((rd_T37 l0 x13_1).f4).length c388_4)) = w15 at n0_ n1_ n2_ ⊢
          have HO_3 := n0_
          have BK389 := n1_
          have HB := n2_
          clear n0_ n1_ n2_
          replace HO_3 := Aside0.mk (Kd.R_drew HO_3.out)
          replace BK389 := Aside0.mk (blk_drew BK389.out)
          replace HB := Aside0.mk (below_drew1 HB.out)
          have p390 : 0 ≤ (0 : Int) := (by omega)
          have q390 : 0 < (((rd_T37 l0 x13_1).f4).length : Int) := of_decide_eq_true Hd.a_
          obtain ⟨ad390, e390, hx390_0, hx390_1⟩ := at_T63 HR388_4.out 0 p390 q390
          have hw390_1 := hx390_1
          (try rw [show ((0 : Int)).toNat = 0 from rfl] at hw390_1)
          (try rw [show 0 * 2 = 0 from rfl] at hw390_1)
          (try rw [Addr.add_zero'] at hw390_1)
          have hw390_0 := hx390_0
          (try rw [show ((0 : Int)).toNat = 0 from rfl] at hw390_0)
          (try rw [show 0 * 2 = 0 from rfl] at hw390_0)
          (try rw [Addr.add_zero'] at hw390_0)
          cases e390
          have qi390 : (0 < ((rd_T37 l0 x13_1).f4).length) = True := eq_true (by omega)
          (try rw [show ((0 : Int)).toNat = 0 from rfl] at hx390_0)
          (try rw [show 0 * 2 = 0 from rfl] at hx390_0)
          (try rw [Addr.add_zero'] at hx390_0)
          (try rw [show ((0 : Int)).toNat = 0 from rfl] at hx390_1)
          (try rw [show 0 * 2 = 0 from rfl] at hx390_1)
          (try rw [Addr.add_zero'] at hx390_1)
          replace hx390_0 := (HB.out.cell (World.block_lt_of_cell? w _ hx390_0)).trans hx390_0
          replace hx390_1 := (HB.out.cell (World.block_lt_of_cell? w _ hx390_1)).trans hx390_1
          replace p390 := eq_true p390
          replace q390 := eq_true q390
          refine start_ (n := 13) (S := fun w' => w'.cell? ⟨gb389, 0, none⟩ = some (.int .i64 ((rd_T37 l0 x13_1).f0)) ∧ w'.cell? ⟨gb389, 1, none⟩ = some (.int .i64 ((rd_T37 l0 x13_1).f1)) ∧ w'.cell? ⟨gb389, 2, none⟩ = some (.int .i64 ((rd_T37 l0 x13_1).f2)) ∧ w'.cell? ⟨gb389, 3, none⟩ = some (.string ((rd_T37 l0 x13_1).f3)) ∧ w'.cell? ⟨gb389, 4, none⟩ = some (.slice (some ad390) ((rd_T37 l0 x13_1).f4).length c388_4) ∧ w'.cell? ad390 = some (.int .i64 ((rd_T63 ((rd_T37 l0 x13_1).f4) 0).f0)) ∧ w'.cell? ⟨ad390.block, ad390.off + 1, none⟩ = some (.int .i64 ((rd_T63 ((rd_T37 l0 x13_1).f4) 0).f1))) (ds := []) #[false, false, false, false, false, false, false, false, false, false, false, false, false] (by kernel_rfl) rfl rfl ⟨(blk_cell BK389.out 0).trans rfl, (blk_cell BK389.out 1).trans rfl, (blk_cell BK389.out 2).trans rfl, (blk_cell BK389.out 3).trans rfl, (blk_cell BK389.out 4).trans rfl, ((HB.out.cell (World.block_lt_of_cell? w _ hw390_0)).trans hw390_0), ((HB.out.cell (World.block_lt_of_cell? w _ hw390_1)).trans hw390_1)⟩ (fun hHeld => ?_); refine with_tabW impl_PlacesOf.tab8 impl_PlacesOf.bits8 (fun HT_ HW_ => ?_)
          generalize w15.drew = w16 at HO_3 BK389 HB hx390_0 hx390_1 hHeld ⊢
          refine Hd.p_ HT_ 0 (some 20) #[true, false, false, false, false, false, false, false, false, false, false, false, false] ?_
          refine Hd.p_ HT_ 1 (some 21) #[true, true, false, false, false, false, false, false, false, false, false, false, false] ?_
          refine Hd.p_ HT_ 3 (some 23) #[true, true, false, true, false, false, false, false, false, false, false, false, false] ?_
          refine Hd.p_ HT_ 7 (some 27) #[true, true, false, true, false, false, false, true, false, false, false, false, false] ?_
          refine Hd.t_ HT_ HW_ hHeld 2 (some 22) #[true, true, true, true, false, false, false, true, false, false, false, false, false] ?_
          refine Hd.t_ HT_ HW_ hHeld 4 (some 24) #[true, true, true, true, true, false, false, true, false, false, false, false, false] ?_
          refine Hd.p_ HT_ 5 (some 25) #[true, true, true, true, true, true, false, true, false, false, false, false, false] ?_
          refine Hd.t_ HT_ HW_ hHeld 6 (some 26) #[true, true, true, true, true, true, true, true, false, false, false, false, false] ?_
          refine Hd.t_ HT_ HW_ hHeld 8 (some 28) #[true, true, true, true, true, true, true, true, true, false, false, false, false] ?_
          refine Hd.p_ HT_ 9 (some 29) #[true, true, true, true, true, true, true, true, true, true, false, false, false] ?_
          refine Hd.o_ HT_ 10 (some 30) #[true, true, true, true, true, true, true, true, true, true, true, false, false] (fun K hK => ?_)
          refine value_ (w1 := ?_) (v := ?_) (by rfl) rfl ?_ ?_
          rotate_left 2
          ·
           go_simp
           constructor
           ·
            rfl
           ·
            rfl
          refine hK.out _ _ ⟨(blk_cell (blk_alloc BK389.out _) 0).trans rfl, (blk_cell (blk_alloc BK389.out _) 1).trans rfl, (blk_cell (blk_alloc BK389.out _) 2).trans rfl, (blk_cell (blk_alloc BK389.out _) 3).trans rfl, (blk_cell (blk_alloc BK389.out _) 4).trans rfl, (World.cell?_alloc_lt _ _ _ (World.block_lt_of_cell? _ _ (((HB.out.cell (World.block_lt_of_cell? w _ hw390_0)).trans hw390_0)))).trans (((HB.out.cell (World.block_lt_of_cell? w _ hw390_0)).trans hw390_0)), (World.cell?_alloc_lt _ _ _ (World.block_lt_of_cell? _ _ (((HB.out.cell (World.block_lt_of_cell? w _ hw390_1)).trans hw390_1)))).trans (((HB.out.cell (World.block_lt_of_cell? w _ hw390_1)).trans hw390_1))⟩ (fun hHeld => ?_)
          clear hK K
          refine Hd.n_ (some 30) ?_
          refine Hd.o_ HT_ 11 (some 31) #[true, true, true, true, true, true, true, true, true, true, true, true, false] (fun K hK => ?_)
          refine Kd.R_append_step k65 (w0 := w) w.heap.size (by rfl) (.tmp 20) (.tmp 30) 24 65 (.agg #[(.int .i64 0), (.int .i64 0), (.int .i64 0), (.int .i64 0)]) 32 rfl Try.underlying24 info65 rfl (by decide) (by omega) u3 x3_1 (⟨(rd_T37 l0 x13_1).f0, (⟨(rd_T63 ((rd_T37 l0 x13_1).f4) 0).f0, (rd_T63 ((rd_T37 l0 x13_1).f4) 0).f1⟩ : S63), (rd_T37 l0 x13_1).f2⟩ : S65) [.int .i64 ((rd_T37 l0 x13_1).f0), .int .i64 ((rd_T63 ((rd_T37 l0 x13_1).f4) 0).f0), .int .i64 ((rd_T63 ((rd_T37 l0 x13_1).f4) 0).f1), .int .i64 ((rd_T37 l0 x13_1).f2)] (fun _ => True) (fun _ => False) rfl rfl ?aP (fun _ hk => hk.elim) ?aF ?aO ?aB ?aS ?aL ?_
          (case aP => exact k65_mkM _ _ _ (⟨(rd_T37 l0 x13_1).f0, (⟨(rd_T63 ((rd_T37 l0 x13_1).f4) 0).f0, (rd_T63 ((rd_T37 l0 x13_1).f4) 0).f1⟩ : S63), (rd_T37 l0 x13_1).f2⟩ : S65))
          (case aB => exact Hd.b_)
          (case aF => exact (fun _ _ => trivial))
          (case aO => exact (Hd.r_ HO_3))
          (case aS => exact (below_size Hd.b_))
          (case aL => have := LMc12.out; omega)
          intro v392 w17 ho hb hg hat
          rw [← Ny391.out] at ho
          have n0_ := Aside0.mk (blk_grown (g := gb389) (o := .cells #[.int .i64 ((rd_T37 l0 x13_1).f0), .int .i64 ((rd_T37 l0 x13_1).f1), .int .i64 ((rd_T37 l0 x13_1).f2), .string ((rd_T37 l0 x13_1).f3), .slice (some ad390) ((rd_T37 l0 x13_1).f4).length c388_4] 37 (0, 0)) (Hd.k_ BK389) hg (Kd.R_ne HO_3.out BK389.out (by decide)))
          have n1_ := Aside0.mk (hb)
          have n2_ := Aside0.mk (ho)
          clear BK389
          clear HB
          clear HO_3
          have BK389 := n0_
          have HB := n1_
          have HO393 := n2_
          clear n0_ n1_ n2_
          clear ho hb hg hat
          refine hK.out _ _ ⟨(blk_cell BK389.out 0).trans rfl, (blk_cell BK389.out 1).trans rfl, (blk_cell BK389.out 2).trans rfl, (blk_cell BK389.out 3).trans rfl, (blk_cell BK389.out 4).trans rfl, ((HB.out.cell (World.block_lt_of_cell? w _ hw390_0)).trans hw390_0), ((HB.out.cell (World.block_lt_of_cell? w _ hw390_1)).trans hw390_1)⟩ (fun hHeld => ?_)
          clear hK K
          refine Hd.n_ (some 31) ?_
          refine Hd.p_ HT_ 12 (some 3) #[true, true, true, true, true, true, true, true, true, true, true, true, true] ?_
          refine done_ (done_of HT_.out (by kernel_rfl)) ?_
          try go_wp2
          go_roundg k1
          case measure => have := HK1.out; omega
          case rel => exact ⟨(y391), (wrap64 (x13_1 + 1)), (by first | rfl | (simp; done) | (simp [*]; done)), H', ⟨by have := HK1.out; omega⟩, ⟨by (with_reducible repeat (first | apply Kd.R_alloc | apply Kd.R_drewN | apply Kd.R_drew)); exact HO393.out⟩, ⟨Hd.b_⟩⟩
         ·
          rw [if_neg c12] at H
          exact absurd H (by simp)
        ·
         rw [if_neg c11] at H
         exact absurd H (by simp)
       ·
        rw [if_neg c10] at H
        have c10b0 : (((rd_T37 l0 x13_1).f1) == 1) = false := beq_eq_false_iff_ne.mpr c10
        have c10b1 : (((rd_T37 l0 x13_1).f1) != 1) = true := bne_iff_ne.mpr c10
        have H' := Aside0.mk H
        clear H
        have p388 : 0 ≤ (x13_1 : Int) := of_decide_eq_true Hd.a_
        have q388 : x13_1 < (l0.length : Int) := of_decide_eq_true Hd.a_
        obtain ⟨ad388, A388_4, c388_4, e388, hx388_0, hx388_1, hx388_2, hx388_3, hx388_4, hl388_4, hi388_4⟩ := at_T37 HR0.out x13_1 p388 q388
        cases e388
        replace hx388_0 := (HB.out.cell (World.block_lt_of_cell? w _ hx388_0)).trans hx388_0
        replace hx388_1 := (HB.out.cell (World.block_lt_of_cell? w _ hx388_1)).trans hx388_1
        replace hx388_2 := (HB.out.cell (World.block_lt_of_cell? w _ hx388_2)).trans hx388_2
        replace hx388_3 := (HB.out.cell (World.block_lt_of_cell? w _ hx388_3)).trans hx388_3
        replace hx388_4 := (HB.out.cell (World.block_lt_of_cell? w _ hx388_4)).trans hx388_4
        have HR388_4 := Aside0.mk hi388_4
        have HC388_4 := Aside0.mk hl388_4
        clear hi388_4 hl388_4
        replace p388 := eq_true p388
        replace q388 := eq_true q388
        go_wp2_with (first | ((with_reducible refine gate_dst (N := 5) rfl ?_); refine Hd.box_ 5 (#[.int .i64 0, .int .i64 0, .int .i64 0, .string (⟨#[]⟩ : ByteArray), .slice none 0 0]) 37 ?_; intro gb389 hg w18 hbox hb; replace HO_3 := Aside0.mk (Kd.R_below (Hd.r_ HO_3) hb); have BK389 := Aside0.mk (hbox); have GW389 := Aside0.mk ((Hd.g_ hg Hd.b_ : w.heap.size ≤ gb389)); have GE389 := Aside0.mk ((Hd.g_ hg Hd.b_ : w.heap.size ≤ gb389)); replace HB := Aside0.mk (below_step Hd.b_ hb); clear hb hbox hg; obtain ⟨hcz19_0, hcz19_1, hcz19_2, hcz19_3, hcz19_4⟩ := Hd.c5_ BK389.out; obtain ⟨hfz19_0, hfz19_1, hfz19_2, hfz19_3, hfz19_4⟩ := Hd.f5_ BK389.out))
        go_roundg k1
        case measure => have := HK1.out; omega
        case rel => exact ⟨(x3_1), (wrap64 (x13_1 + 1)), (by first | rfl | (simp; done) | (simp [*]; done)), H', ⟨by have := HK1.out; omega⟩, ⟨by (with_reducible repeat (first | apply Kd.R_alloc | apply Kd.R_drewN | apply Kd.R_drew)); exact Kd.R_mono (Kd.R_far (p := ⟨gb389, 4, none⟩) (Kd.R_far (p := ⟨gb389, 3, none⟩) (Kd.R_far (p := ⟨gb389, 2, none⟩) (Kd.R_far (p := ⟨gb389, 1, none⟩) (Kd.R_far (p := ⟨gb389, 0, none⟩) (Kd.R_types HO_3.out BK389.out (by decide)) (fun _ hk => hk.2) (.int .i64 ((rd_T37 l0 x13_1).f0))) (fun _ hk => hk.2) (.int .i64 ((rd_T37 l0 x13_1).f1))) (fun _ hk => hk.2) (.int .i64 ((rd_T37 l0 x13_1).f2))) (fun _ hk => hk.2) (.string ((rd_T37 l0 x13_1).f3))) (fun _ hk => hk.2) (.slice A388_4 ((rd_T37 l0 x13_1).f4).length c388_4)) (fun _ hk => trivial)⟩, ⟨Hd.b_⟩⟩
      ·
       rw [if_neg c9] at H
       exact absurd H (by simp)
     ·
      rw [if_neg c8] at H
      exact absurd H (by simp)
    ·
     rw [if_neg c7] at H
     have c7b0 : decide (x13_1 < (l0.length : Int)) = false := decide_eq_false c7
     clear c7
     obtain rfl := Option.some.inj H
     go_wp2
     go_ret
     exact ⟨_, Hd.e_, by (with_reducible repeat (first | apply Kd.R_alloc | apply Kd.R_drewN | apply Kd.R_drew)); exact HO_3.out, Hd.b_⟩
 ·
  replace c3 := Bool.eq_false_iff.mpr c3
  subst c3
  have H1 : (some y384) = some r := by rw [if_neg (show ¬ (false = true) by decide)] at H; exact H
  clear H
  have H := H1
  clear H1
  obtain rfl := Option.some.inj H
  go_enter Try.func11, Try.ntmps11
  go_wp2_with (first | ((with_reducible refine gate_dst (N := 6) rfl ?_); refine Kd.R_lit k65 _ 65 ?hg (N := 6) ?hd (xs := ([] : List (S65))) (inner := []) (ok := fun _ => True) (okp := fun _ => True) ?hr ?hp (fun _ hk => hk) trivial (Below.refl _ _) (Nat.le_refl _) (by simp) ?_; (case hd => rfl); (case hg => rfl); (case hr => first | (go_simp; done) | (go_simp; rfl)); (case hp => exact (Reps.none _ _)); intro v385 w20 ho21 hb hg_ hnew_; clear hg_ hnew_; (first | rw [← Ny384.out] at ho21 | (simp only [Int.reduceToNat] at ho21; rw [← Ny384.out] at ho21)); have HO386 := Aside0.mk (Kd.R_lower ho21 (below_size Hd.b_)); replace HB := Aside0.mk (below_step Hd.b_ hb); clear hb ho21) | ((with_reducible refine gate_callee (f := 24) rfl ?_); refine goesL_ (some 8) rfl rfl Try.func24 (by kernel_rfl) rfl #[.slice A0 l0.length c0] rfl Hd.m_ ?_; (with_reducible refine (impl_IsSource.calls k _ _ l0 false _ ?side1 ?side2 A2.out).mono ?_); (case side1 => repeat (first | exact (Kd.C_below HR0.out HB.out) | (with_reducible refine Kd.C_alloc ?_ _) | (with_reducible refine Kd.C_drewN ?_ _) | (with_reducible refine Kd.C_drew ?_))); (case side2 => exact HC0.out); rintro e w22 ⟨rfl, hb⟩; refine ⟨_, rfl, ?_⟩; replace HO386 := Aside0.mk (Kd.R_below (Hd.r_ HO386) hb); replace HB := Aside0.mk (below_step Hd.b_ hb); (try clear hb); (try clear hb2); (try clear hk); (try clear hi)))
  go_ret
  exact ⟨_, Hd.e_, by (with_reducible repeat (first | apply Kd.R_alloc | apply Kd.R_drewN | apply Kd.R_drew)); exact HO386.out, Hd.b_⟩
def laws_eqPoint.f (a0_0 : Int) (a0_1 : Int) (a1_0 : Int) (a1_1 : Int) : Option (Bool) := if a0_0 = a1_0 then (if a0_1 = a1_1 then (some true) else (some false)) else (some false)
set_option maxHeartbeats 8000000 in
set_option maxRecDepth 100000 in
theorem laws_eqPoint.calls (a0_0 : Int) (a0_1 : Int) (a1_0 : Int) (a1_1 : Int) (r : Bool) (w : World) (h : laws_eqPoint.f a0_0 a0_1 a1_0 a1_1 = some r) :
  Calls Try.prog 70 #[.agg #[.int .i64 a0_0, .int .i64 a0_1], .agg #[.int .i64 a1_0, .int .i64 a1_1]] w fun e w' => e = .returned (.bool r) ∧ Below w.heap.size w w' := by
 have hu63 := Try.underlying63
 have HB := Aside0.mk (Below.refl w.heap.size w)
 have H : (if a0_0 = a1_0 then (if a0_1 = a1_1 then (some true) else (some false)) else (some false)) = some r := h
 clear h
 by_cases c3 : a0_0 = a1_0
 ·
  rw [if_pos c3] at H
  have c3b0 : (a0_0 == a1_0) = true := beq_iff_eq.mpr c3
  have c3b1 : (a0_0 != a1_0) = false := bne_eq_false_iff_eq.mpr c3
  clear c3
  by_cases c4 : a0_1 = a1_1
  ·
   rw [if_pos c4] at H
   have c4b0 : (a0_1 == a1_1) = true := beq_iff_eq.mpr c4
   have c4b1 : (a0_1 != a1_1) = false := bne_eq_false_iff_eq.mpr c4
   clear c4
   obtain rfl := Option.some.inj H
   go_enter Try.func70, Try.ntmps70
   go_wp2_with (first | ((with_reducible refine gate_dst (N := 2) rfl ?_); refine Hd.box_ 2 (#[.int .i64 a0_0, .int .i64 a0_1]) 63 ?_; intro gb394 hg w5 hbox hb; have BK394 := Aside0.mk (hbox); have GW394 := Aside0.mk ((Hd.g_ hg Hd.b_ : w.heap.size ≤ gb394)); have GE394 := Aside0.mk ((Hd.g_ hg Hd.b_ : w.heap.size ≤ gb394)); replace HB := Aside0.mk (below_step Hd.b_ hb); clear hb hbox hg) | ((with_reducible refine gate_dst (N := 3) rfl ?_); refine Hd.box_ 3 (#[.int .i64 a1_0, .int .i64 a1_1]) 63 ?_; intro gb395 hg w6 hbox hb; have BK395 := Aside0.mk (hbox); have GW395 := Aside0.mk ((Hd.g_ hg Hd.b_ : w.heap.size ≤ gb395)); have GE395 := Aside0.mk ((Hd.g_ hg Hd.b_ : w.heap.size ≤ gb395)); replace HB := Aside0.mk (below_step Hd.b_ hb); have NB394_395 := Aside0.mk ((Hd.lt_ BK394 hg)); have NB395_394 := Aside0.mk ((Hd.gt_ BK394 hg)); replace BK394 := Aside0.mk (Hd.kb_ BK394 hb); clear hb hbox hg; have hnb7 := NB394_395.out; have hnc7 := NB395_394.out; obtain ⟨hcz8_0, hcz8_1⟩ := Hd.c2_ BK394.out; obtain ⟨hfz8_0, hfz8_1⟩ := Hd.f2_ BK394.out; obtain ⟨hcz9_0, hcz9_1⟩ := Hd.c2_ BK395.out; obtain ⟨hfz9_0, hfz9_1⟩ := Hd.f2_ BK395.out))
   go_ret
   exact ⟨Hd.e_, Hd.b_⟩
  ·
   rw [if_neg c4] at H
   have c4b0 : (a0_1 == a1_1) = false := beq_eq_false_iff_ne.mpr c4
   have c4b1 : (a0_1 != a1_1) = true := bne_iff_ne.mpr c4
   obtain rfl := Option.some.inj H
   go_enter Try.func70, Try.ntmps70
   go_wp2_with (first | ((with_reducible refine gate_dst (N := 2) rfl ?_); refine Hd.box_ 2 (#[.int .i64 a0_0, .int .i64 a0_1]) 63 ?_; intro gb394 hg w10 hbox hb; have BK394 := Aside0.mk (hbox); have GW394 := Aside0.mk ((Hd.g_ hg Hd.b_ : w.heap.size ≤ gb394)); have GE394 := Aside0.mk ((Hd.g_ hg Hd.b_ : w.heap.size ≤ gb394)); replace HB := Aside0.mk (below_step Hd.b_ hb); clear hb hbox hg) | ((with_reducible refine gate_dst (N := 3) rfl ?_); refine Hd.box_ 3 (#[.int .i64 a1_0, .int .i64 a1_1]) 63 ?_; intro gb395 hg w11 hbox hb; have BK395 := Aside0.mk (hbox); have GW395 := Aside0.mk ((Hd.g_ hg Hd.b_ : w.heap.size ≤ gb395)); have GE395 := Aside0.mk ((Hd.g_ hg Hd.b_ : w.heap.size ≤ gb395)); replace HB := Aside0.mk (below_step Hd.b_ hb); have NB394_395 := Aside0.mk ((Hd.lt_ BK394 hg)); have NB395_394 := Aside0.mk ((Hd.gt_ BK394 hg)); replace BK394 := Aside0.mk (Hd.kb_ BK394 hb); clear hb hbox hg; have hnb12 := NB394_395.out; have hnc12 := NB395_394.out; obtain ⟨hcz13_0, hcz13_1⟩ := Hd.c2_ BK394.out; obtain ⟨hfz13_0, hfz13_1⟩ := Hd.f2_ BK394.out; obtain ⟨hcz14_0, hcz14_1⟩ := Hd.c2_ BK395.out; obtain ⟨hfz14_0, hfz14_1⟩ := Hd.f2_ BK395.out))
   go_ret
   exact ⟨Hd.e_, Hd.b_⟩
 ·
  rw [if_neg c3] at H
  have c3b0 : (a0_0 == a1_0) = false := beq_eq_false_iff_ne.mpr c3
  have c3b1 : (a0_0 != a1_0) = true := bne_iff_ne.mpr c3
  obtain rfl := Option.some.inj H
  go_enter Try.func70, Try.ntmps70
  go_wp2_with (first | ((with_reducible refine gate_dst (N := 2) rfl ?_); refine Hd.box_ 2 (#[.int .i64 a0_0, .int .i64 a0_1]) 63 ?_; intro gb394 hg w15 hbox hb; have BK394 := Aside0.mk (hbox); have GW394 := Aside0.mk ((Hd.g_ hg Hd.b_ : w.heap.size ≤ gb394)); have GE394 := Aside0.mk ((Hd.g_ hg Hd.b_ : w.heap.size ≤ gb394)); replace HB := Aside0.mk (below_step Hd.b_ hb); clear hb hbox hg) | ((with_reducible refine gate_dst (N := 3) rfl ?_); refine Hd.box_ 3 (#[.int .i64 a1_0, .int .i64 a1_1]) 63 ?_; intro gb395 hg w16 hbox hb; have BK395 := Aside0.mk (hbox); have GW395 := Aside0.mk ((Hd.g_ hg Hd.b_ : w.heap.size ≤ gb395)); have GE395 := Aside0.mk ((Hd.g_ hg Hd.b_ : w.heap.size ≤ gb395)); replace HB := Aside0.mk (below_step Hd.b_ hb); have NB394_395 := Aside0.mk ((Hd.lt_ BK394 hg)); have NB395_394 := Aside0.mk ((Hd.gt_ BK394 hg)); replace BK394 := Aside0.mk (Hd.kb_ BK394 hb); clear hb hbox hg; have hnb17 := NB394_395.out; have hnc17 := NB395_394.out; obtain ⟨hcz18_0, hcz18_1⟩ := Hd.c2_ BK394.out; obtain ⟨hfz18_0, hfz18_1⟩ := Hd.f2_ BK394.out; obtain ⟨hcz19_0, hcz19_1⟩ := Hd.c2_ BK395.out; obtain ⟨hfz19_0, hfz19_1⟩ := Hd.f2_ BK395.out))
  go_ret
  exact ⟨Hd.e_, Hd.b_⟩
def laws_eqPlace.f (a0_0 : Int) (a0_1 : Int) (a0_2 : Int) (a0_3 : Int) (a1_0 : Int) (a1_1 : Int) (a1_2 : Int) (a1_3 : Int) : Option (Bool) := if a0_0 = a1_0 then ((laws_eqPoint.f a0_1 a0_2 a1_1 a1_2).bind fun t398 => (if t398 = true then (if a0_3 = a1_3 then (some true) else (some false)) else (some false))) else (some false)
set_option maxHeartbeats 8000000 in
set_option maxRecDepth 100000 in
theorem laws_eqPlace.calls (a0_0 : Int) (a0_1 : Int) (a0_2 : Int) (a0_3 : Int) (a1_0 : Int) (a1_1 : Int) (a1_2 : Int) (a1_3 : Int) (r : Bool) (w : World) (h : laws_eqPlace.f a0_0 a0_1 a0_2 a0_3 a1_0 a1_1 a1_2 a1_3 = some r) :
  Calls Try.prog 42 #[.agg #[.int .i64 a0_0, .int .i64 a0_1, .int .i64 a0_2, .int .i64 a0_3], .agg #[.int .i64 a1_0, .int .i64 a1_1, .int .i64 a1_2, .int .i64 a1_3]] w fun e w' => e = .returned (.bool r) ∧ Below w.heap.size w w' := by
 have hu65 := Try.underlying65
 have hu63 := Try.underlying63
 have HB := Aside0.mk (Below.refl w.heap.size w)
 have H : (if a0_0 = a1_0 then ((laws_eqPoint.f a0_1 a0_2 a1_1 a1_2).bind fun t398 => (if t398 = true then (if a0_3 = a1_3 then (some true) else (some false)) else (some false))) else (some false)) = some r := h
 clear h
 by_cases c3 : a0_0 = a1_0
 ·
  rw [if_pos c3] at H
  have c3b0 : (a0_0 == a1_0) = true := beq_iff_eq.mpr c3
  have c3b1 : (a0_0 != a1_0) = false := bne_eq_false_iff_eq.mpr c3
  clear c3
  replace H := Option.bind_eq_some_iff.mp H
  obtain ⟨t398, A40, H⟩ := H
  replace H : (if t398 = true then (if a0_3 = a1_3 then (some true) else (some false)) else (some false)) = some r := H
  have A4 := Aside0.mk A40
  clear A40
  by_cases c5 : t398 = true
  ·
   subst c5
   have H1 : (if a0_3 = a1_3 then (some true) else (some false)) = some r := by rw [if_pos rfl] at H; exact H
   clear H
   have H := H1
   clear H1
   by_cases c6 : a0_3 = a1_3
   ·
    rw [if_pos c6] at H
    have c6b0 : (a0_3 == a1_3) = true := beq_iff_eq.mpr c6
    have c6b1 : (a0_3 != a1_3) = false := bne_eq_false_iff_eq.mpr c6
    clear c6
    obtain rfl := Option.some.inj H
    go_enter Try.func42, Try.ntmps42
    go_wp2_with (first | ((with_reducible refine gate_dst (N := 2) rfl ?_); refine Hd.box_ 2 (#[.int .i64 a0_0, .int .i64 a0_1, .int .i64 a0_2, .int .i64 a0_3]) 65 ?_; intro gb396 hg w7 hbox hb; have BK396 := Aside0.mk (hbox); have GW396 := Aside0.mk ((Hd.g_ hg Hd.b_ : w.heap.size ≤ gb396)); have GE396 := Aside0.mk ((Hd.g_ hg Hd.b_ : w.heap.size ≤ gb396)); replace HB := Aside0.mk (below_step Hd.b_ hb); clear hb hbox hg) | ((with_reducible refine gate_dst (N := 3) rfl ?_); refine Hd.box_ 3 (#[.int .i64 a1_0, .int .i64 a1_1, .int .i64 a1_2, .int .i64 a1_3]) 65 ?_; intro gb397 hg w8 hbox hb; have BK397 := Aside0.mk (hbox); have GW397 := Aside0.mk ((Hd.g_ hg Hd.b_ : w.heap.size ≤ gb397)); have GE397 := Aside0.mk ((Hd.g_ hg Hd.b_ : w.heap.size ≤ gb397)); replace HB := Aside0.mk (below_step Hd.b_ hb); have NB396_397 := Aside0.mk ((Hd.lt_ BK396 hg)); have NB397_396 := Aside0.mk ((Hd.gt_ BK396 hg)); replace BK396 := Aside0.mk (Hd.kb_ BK396 hb); clear hb hbox hg; have hnb9 := NB396_397.out; have hnc9 := NB397_396.out; obtain ⟨hcz10_0, hcz10_1, hcz10_2, hcz10_3⟩ := Hd.c4_ BK396.out; obtain ⟨hfz10_0, hfz10_1, hfz10_2, hfz10_3⟩ := Hd.f4_ BK396.out; obtain ⟨hcz11_0, hcz11_1, hcz11_2, hcz11_3⟩ := Hd.c4_ BK397.out; obtain ⟨hfz11_0, hfz11_1, hfz11_2, hfz11_3⟩ := Hd.f4_ BK397.out) | ((with_reducible refine gate_callee (f := 70) rfl ?_); refine goesL_ (some 14) rfl rfl Try.func70 (by kernel_rfl) rfl #[.agg #[.int .i64 a0_1, .int .i64 a0_2], .agg #[.int .i64 a1_1, .int .i64 a1_2]] rfl Hd.m_ ?_; (with_reducible refine (laws_eqPoint.calls a0_1 a0_2 a1_1 a1_2 true _ A4.out).mono ?_); rintro e w12 ⟨rfl, hb⟩; refine ⟨_, rfl, ?_⟩; replace BK396 := Aside0.mk (Hd.kb_ BK396 hb); replace BK397 := Aside0.mk (Hd.kb_ BK397 hb); replace HB := Aside0.mk (below_step Hd.b_ hb); (try clear hb); (try clear hb2); (try clear hk); (try clear hi); obtain ⟨hcz13_0, hcz13_1, hcz13_2, hcz13_3⟩ := Hd.c4_ BK396.out; obtain ⟨hfz13_0, hfz13_1, hfz13_2, hfz13_3⟩ := Hd.f4_ BK396.out; obtain ⟨hcz14_0, hcz14_1, hcz14_2, hcz14_3⟩ := Hd.c4_ BK397.out; obtain ⟨hfz14_0, hfz14_1, hfz14_2, hfz14_3⟩ := Hd.f4_ BK397.out))
    go_ret
    exact ⟨Hd.e_, Hd.b_⟩
   ·
    rw [if_neg c6] at H
    have c6b0 : (a0_3 == a1_3) = false := beq_eq_false_iff_ne.mpr c6
    have c6b1 : (a0_3 != a1_3) = true := bne_iff_ne.mpr c6
    obtain rfl := Option.some.inj H
    go_enter Try.func42, Try.ntmps42
    go_wp2_with (first | ((with_reducible refine gate_dst (N := 2) rfl ?_); refine Hd.box_ 2 (#[.int .i64 a0_0, .int .i64 a0_1, .int .i64 a0_2, .int .i64 a0_3]) 65 ?_; intro gb396 hg w15 hbox hb; have BK396 := Aside0.mk (hbox); have GW396 := Aside0.mk ((Hd.g_ hg Hd.b_ : w.heap.size ≤ gb396)); have GE396 := Aside0.mk ((Hd.g_ hg Hd.b_ : w.heap.size ≤ gb396)); replace HB := Aside0.mk (below_step Hd.b_ hb); clear hb hbox hg) | ((with_reducible refine gate_dst (N := 3) rfl ?_); refine Hd.box_ 3 (#[.int .i64 a1_0, .int .i64 a1_1, .int .i64 a1_2, .int .i64 a1_3]) 65 ?_; intro gb397 hg w16 hbox hb; have BK397 := Aside0.mk (hbox); have GW397 := Aside0.mk ((Hd.g_ hg Hd.b_ : w.heap.size ≤ gb397)); have GE397 := Aside0.mk ((Hd.g_ hg Hd.b_ : w.heap.size ≤ gb397)); replace HB := Aside0.mk (below_step Hd.b_ hb); have NB396_397 := Aside0.mk ((Hd.lt_ BK396 hg)); have NB397_396 := Aside0.mk ((Hd.gt_ BK396 hg)); replace BK396 := Aside0.mk (Hd.kb_ BK396 hb); clear hb hbox hg; have hnb17 := NB396_397.out; have hnc17 := NB397_396.out; obtain ⟨hcz18_0, hcz18_1, hcz18_2, hcz18_3⟩ := Hd.c4_ BK396.out; obtain ⟨hfz18_0, hfz18_1, hfz18_2, hfz18_3⟩ := Hd.f4_ BK396.out; obtain ⟨hcz19_0, hcz19_1, hcz19_2, hcz19_3⟩ := Hd.c4_ BK397.out; obtain ⟨hfz19_0, hfz19_1, hfz19_2, hfz19_3⟩ := Hd.f4_ BK397.out) | ((with_reducible refine gate_callee (f := 70) rfl ?_); refine goesL_ (some 14) rfl rfl Try.func70 (by kernel_rfl) rfl #[.agg #[.int .i64 a0_1, .int .i64 a0_2], .agg #[.int .i64 a1_1, .int .i64 a1_2]] rfl Hd.m_ ?_; (with_reducible refine (laws_eqPoint.calls a0_1 a0_2 a1_1 a1_2 true _ A4.out).mono ?_); rintro e w20 ⟨rfl, hb⟩; refine ⟨_, rfl, ?_⟩; replace BK396 := Aside0.mk (Hd.kb_ BK396 hb); replace BK397 := Aside0.mk (Hd.kb_ BK397 hb); replace HB := Aside0.mk (below_step Hd.b_ hb); (try clear hb); (try clear hb2); (try clear hk); (try clear hi); obtain ⟨hcz21_0, hcz21_1, hcz21_2, hcz21_3⟩ := Hd.c4_ BK396.out; obtain ⟨hfz21_0, hfz21_1, hfz21_2, hfz21_3⟩ := Hd.f4_ BK396.out; obtain ⟨hcz22_0, hcz22_1, hcz22_2, hcz22_3⟩ := Hd.c4_ BK397.out; obtain ⟨hfz22_0, hfz22_1, hfz22_2, hfz22_3⟩ := Hd.f4_ BK397.out))
    go_ret
    exact ⟨Hd.e_, Hd.b_⟩
  ·
   replace c5 := Bool.eq_false_iff.mpr c5
   subst c5
   have H1 : (some false) = some r := by rw [if_neg (show ¬ (false = true) by decide)] at H; exact H
   clear H
   have H := H1
   clear H1
   obtain rfl := Option.some.inj H
   go_enter Try.func42, Try.ntmps42
   go_wp2_with (first | ((with_reducible refine gate_dst (N := 2) rfl ?_); refine Hd.box_ 2 (#[.int .i64 a0_0, .int .i64 a0_1, .int .i64 a0_2, .int .i64 a0_3]) 65 ?_; intro gb396 hg w23 hbox hb; have BK396 := Aside0.mk (hbox); have GW396 := Aside0.mk ((Hd.g_ hg Hd.b_ : w.heap.size ≤ gb396)); have GE396 := Aside0.mk ((Hd.g_ hg Hd.b_ : w.heap.size ≤ gb396)); replace HB := Aside0.mk (below_step Hd.b_ hb); clear hb hbox hg) | ((with_reducible refine gate_dst (N := 3) rfl ?_); refine Hd.box_ 3 (#[.int .i64 a1_0, .int .i64 a1_1, .int .i64 a1_2, .int .i64 a1_3]) 65 ?_; intro gb397 hg w24 hbox hb; have BK397 := Aside0.mk (hbox); have GW397 := Aside0.mk ((Hd.g_ hg Hd.b_ : w.heap.size ≤ gb397)); have GE397 := Aside0.mk ((Hd.g_ hg Hd.b_ : w.heap.size ≤ gb397)); replace HB := Aside0.mk (below_step Hd.b_ hb); have NB396_397 := Aside0.mk ((Hd.lt_ BK396 hg)); have NB397_396 := Aside0.mk ((Hd.gt_ BK396 hg)); replace BK396 := Aside0.mk (Hd.kb_ BK396 hb); clear hb hbox hg; have hnb25 := NB396_397.out; have hnc25 := NB397_396.out; obtain ⟨hcz26_0, hcz26_1, hcz26_2, hcz26_3⟩ := Hd.c4_ BK396.out; obtain ⟨hfz26_0, hfz26_1, hfz26_2, hfz26_3⟩ := Hd.f4_ BK396.out; obtain ⟨hcz27_0, hcz27_1, hcz27_2, hcz27_3⟩ := Hd.c4_ BK397.out; obtain ⟨hfz27_0, hfz27_1, hfz27_2, hfz27_3⟩ := Hd.f4_ BK397.out) | ((with_reducible refine gate_callee (f := 70) rfl ?_); refine goesL_ (some 14) rfl rfl Try.func70 (by kernel_rfl) rfl #[.agg #[.int .i64 a0_1, .int .i64 a0_2], .agg #[.int .i64 a1_1, .int .i64 a1_2]] rfl Hd.m_ ?_; (with_reducible refine (laws_eqPoint.calls a0_1 a0_2 a1_1 a1_2 false _ A4.out).mono ?_); rintro e w28 ⟨rfl, hb⟩; refine ⟨_, rfl, ?_⟩; replace BK396 := Aside0.mk (Hd.kb_ BK396 hb); replace BK397 := Aside0.mk (Hd.kb_ BK397 hb); replace HB := Aside0.mk (below_step Hd.b_ hb); (try clear hb); (try clear hb2); (try clear hk); (try clear hi)))
   go_ret
   exact ⟨Hd.e_, Hd.b_⟩
 ·
  rw [if_neg c3] at H
  have c3b0 : (a0_0 == a1_0) = false := beq_eq_false_iff_ne.mpr c3
  have c3b1 : (a0_0 != a1_0) = true := bne_iff_ne.mpr c3
  obtain rfl := Option.some.inj H
  go_enter Try.func42, Try.ntmps42
  go_wp2_with (first | ((with_reducible refine gate_dst (N := 2) rfl ?_); refine Hd.box_ 2 (#[.int .i64 a0_0, .int .i64 a0_1, .int .i64 a0_2, .int .i64 a0_3]) 65 ?_; intro gb396 hg w29 hbox hb; have BK396 := Aside0.mk (hbox); have GW396 := Aside0.mk ((Hd.g_ hg Hd.b_ : w.heap.size ≤ gb396)); have GE396 := Aside0.mk ((Hd.g_ hg Hd.b_ : w.heap.size ≤ gb396)); replace HB := Aside0.mk (below_step Hd.b_ hb); clear hb hbox hg) | ((with_reducible refine gate_dst (N := 3) rfl ?_); refine Hd.box_ 3 (#[.int .i64 a1_0, .int .i64 a1_1, .int .i64 a1_2, .int .i64 a1_3]) 65 ?_; intro gb397 hg w30 hbox hb; have BK397 := Aside0.mk (hbox); have GW397 := Aside0.mk ((Hd.g_ hg Hd.b_ : w.heap.size ≤ gb397)); have GE397 := Aside0.mk ((Hd.g_ hg Hd.b_ : w.heap.size ≤ gb397)); replace HB := Aside0.mk (below_step Hd.b_ hb); have NB396_397 := Aside0.mk ((Hd.lt_ BK396 hg)); have NB397_396 := Aside0.mk ((Hd.gt_ BK396 hg)); replace BK396 := Aside0.mk (Hd.kb_ BK396 hb); clear hb hbox hg; have hnb31 := NB396_397.out; have hnc31 := NB397_396.out; obtain ⟨hcz32_0, hcz32_1, hcz32_2, hcz32_3⟩ := Hd.c4_ BK396.out; obtain ⟨hfz32_0, hfz32_1, hfz32_2, hfz32_3⟩ := Hd.f4_ BK396.out; obtain ⟨hcz33_0, hcz33_1, hcz33_2, hcz33_3⟩ := Hd.c4_ BK397.out; obtain ⟨hfz33_0, hfz33_1, hfz33_2, hfz33_3⟩ := Hd.f4_ BK397.out))
  go_ret
  exact ⟨Hd.e_, Hd.b_⟩
def laws_eqPlaceS.l0 : Nat → List (S65) → List (S65) → Int → Option (Bool)
 | 0, _, _, _ => none
 | k + 1, x0, x1, x5 => if x5 < (x0.length : Int) then (if 0 ≤ x5 then (if x5 < (x1.length : Int) then ((laws_eqPlace.f ((rd_T65 x0 x5).f0) ((rd_T65 x0 x5).f1.f0) ((rd_T65 x0 x5).f1.f1) ((rd_T65 x0 x5).f2) ((rd_T65 x1 x5).f0) ((rd_T65 x1 x5).f1.f0) ((rd_T65 x1 x5).f1.f1) ((rd_T65 x1 x5).f2)).bind fun t401 => (if t401 = true then (laws_eqPlaceS.l0 k x0 x1 (wrap64 (x5 + 1))) else (some false))) else (none)) else (none)) else (some true)
def laws_eqPlaceS.f (k : Nat) (l0 : List (S65)) (l1 : List (S65)) : Option (Bool) := if (l0.length : Int) = (l1.length : Int) then (laws_eqPlaceS.l0 k l0 l1 0) else (some false)
set_option maxHeartbeats 8000000 in
set_option maxRecDepth 100000 in
theorem laws_eqPlaceS.calls (k : Nat) (A0 : Option Addr) (c0 : Nat) (l0 : List (S65)) (A1 : Option Addr) (c1 : Nat) (l1 : List (S65)) (r : Bool) (w : World) (hr0 : Kd.C k65 w A0 l0.length l0) (hc0 : l0.length ≤ c0) (hr1 : Kd.C k65 w A1 l1.length l1) (hc1 : l1.length ≤ c1) (h : laws_eqPlaceS.f k l0 l1 = some r) :
  Calls Try.prog 12 #[.slice A0 l0.length c0, .slice A1 l1.length c1] w fun e w' => e = .returned (.bool r) ∧ Below w.heap.size w w' := by
 have hu65 := Try.underlying65
 have HR0 := Aside0.mk hr0
 have HC0 := Aside0.mk hc0
 clear hr0 hc0
 have HR1 := Aside0.mk hr1
 have HC1 := Aside0.mk hc1
 clear hr1 hc1
 have HB := Aside0.mk (Below.refl w.heap.size w)
 have H : (if (l0.length : Int) = (l1.length : Int) then (laws_eqPlaceS.l0 k l0 l1 0) else (some false)) = some r := h
 clear h
 by_cases c3 : (l0.length : Int) = (l1.length : Int)
 ·
  rw [if_pos c3] at H
  have c3b0 : ((l0.length : Int) == (l1.length : Int)) = true := beq_iff_eq.mpr c3
  have c3b1 : ((l0.length : Int) != (l1.length : Int)) = false := bne_eq_false_iff_eq.mpr c3
  have c3b2 : (l0.length == l1.length) = true := by first | simpa using c3 | (simp at c3 ⊢; omega)
  clear c3
  have H' := Aside0.mk H
  clear H
  go_enter Try.func12, Try.ntmps12
  go_wp2
  go_loopg [5] k (fun kq v5 w' => ∃ (x5_1 : Int), v5 = .int .i64 x5_1 ∧ Aside0 (laws_eqPlaceS.l0 kq l0 l1 x5_1 = some r) ∧ Aside0 (kq ≤ k) ∧ Aside0 (Below w.heap.size w w'))
  case atStart => exact ⟨(0), (by first | rfl | (simp; done) | (simp [*]; done)), H', ⟨Nat.le_refl _⟩, ⟨Hd.b_⟩⟩
  case round =>
   clear H'
   try clear c1
   try clear p2
   try clear c3
   try clear c3b0
   try clear c3b1
   try clear c3b2
   obtain ⟨x5_1, rfl, HA, HK1, HB⟩ := hrel
   cases gk with
   | zero => exact absurd HA.out (by simp [laws_eqPlaceS.l0])
   | succ k1 =>
    have H := HA.out
    clear HA
    simp only [laws_eqPlaceS.l0] at H
    by_cases c4 : x5_1 < (l0.length : Int)
    ·
     rw [if_pos c4] at H
     have c4b0 : decide (x5_1 < (l0.length : Int)) = true := decide_eq_true c4
     clear c4
     by_cases c5 : 0 ≤ x5_1
     ·
      rw [if_pos c5] at H
      have c5b0 : decide (0 ≤ x5_1) = true := decide_eq_true c5
      clear c5
      by_cases c6 : x5_1 < (l1.length : Int)
      ·
       rw [if_pos c6] at H
       have c6b0 : decide (x5_1 < (l1.length : Int)) = true := decide_eq_true c6
       clear c6
       replace H := Option.bind_eq_some_iff.mp H
       obtain ⟨t401, A70, H⟩ := H
       replace H : (if t401 = true then (laws_eqPlaceS.l0 k1 l0 l1 (wrap64 (x5_1 + 1))) else (some false)) = some r := H
       have A7 := Aside0.mk A70
       clear A70
       by_cases c8 : t401 = true
       ·
        subst c8
        have H1 : (laws_eqPlaceS.l0 k1 l0 l1 (wrap64 (x5_1 + 1))) = some r := by rw [if_pos rfl] at H; exact H
        clear H
        have H := H1
        clear H1
        have H' := Aside0.mk H
        clear H
        try go_wp2
        replace HB := Aside0.mk (below_drew1 HB.out)
        have p399 : 0 ≤ (x5_1 : Int) := of_decide_eq_true Hd.a_
        have q399 : x5_1 < (l0.length : Int) := of_decide_eq_true Hd.a_
        obtain ⟨ad399, e399, hx399_0, hx399_1, hx399_2, hx399_3⟩ := at_T65 HR0.out x5_1 p399 q399
        have hw399_3 := hx399_3
        have hw399_2 := hx399_2
        have hw399_1 := hx399_1
        have hw399_0 := hx399_0
        cases e399
        replace hx399_0 := (HB.out.cell (World.block_lt_of_cell? w _ hx399_0)).trans hx399_0
        replace hx399_1 := (HB.out.cell (World.block_lt_of_cell? w _ hx399_1)).trans hx399_1
        replace hx399_2 := (HB.out.cell (World.block_lt_of_cell? w _ hx399_2)).trans hx399_2
        replace hx399_3 := (HB.out.cell (World.block_lt_of_cell? w _ hx399_3)).trans hx399_3
        replace p399 := eq_true p399
        replace q399 := eq_true q399
        have p400 : 0 ≤ (x5_1 : Int) := of_decide_eq_true Hd.a_
        have q400 : x5_1 < (l1.length : Int) := of_decide_eq_true Hd.a_
        obtain ⟨ad400, e400, hx400_0, hx400_1, hx400_2, hx400_3⟩ := at_T65 HR1.out x5_1 p400 q400
        have hw400_3 := hx400_3
        have hw400_2 := hx400_2
        have hw400_1 := hx400_1
        have hw400_0 := hx400_0
        cases e400
        replace hx400_0 := (HB.out.cell (World.block_lt_of_cell? w _ hx400_0)).trans hx400_0
        replace hx400_1 := (HB.out.cell (World.block_lt_of_cell? w _ hx400_1)).trans hx400_1
        replace hx400_2 := (HB.out.cell (World.block_lt_of_cell? w _ hx400_2)).trans hx400_2
        replace hx400_3 := (HB.out.cell (World.block_lt_of_cell? w _ hx400_3)).trans hx400_3
        replace p400 := eq_true p400
        replace q400 := eq_true q400
        have s0_ := Hd.HW.x (W0 := wr.drew) ((HB.out.cell (World.block_lt_of_cell? w _ hw399_0)).trans hw399_0)
        have s1_ := Hd.HW.x (W0 := wr.drew) ((HB.out.cell (World.block_lt_of_cell? w _ hw399_1)).trans hw399_1)
        have s2_ := Hd.HW.x (W0 := wr.drew) ((HB.out.cell (World.block_lt_of_cell? w _ hw399_2)).trans hw399_2)
        have s3_ := Hd.HW.x (W0 := wr.drew) ((HB.out.cell (World.block_lt_of_cell? w _ hw399_3)).trans hw399_3)
        have s4_ := Hd.HW.x (W0 := wr.drew) ((HB.out.cell (World.block_lt_of_cell? w _ hw400_0)).trans hw400_0)
        have s5_ := Hd.HW.x (W0 := wr.drew) ((HB.out.cell (World.block_lt_of_cell? w _ hw400_1)).trans hw400_1)
        have s6_ := Hd.HW.x (W0 := wr.drew) ((HB.out.cell (World.block_lt_of_cell? w _ hw400_2)).trans hw400_2)
        have s7_ := Hd.HW.x (W0 := wr.drew) ((HB.out.cell (World.block_lt_of_cell? w _ hw400_3)).trans hw400_3)
        refine Hd.HW.region (by kernel_rfl) (by kernel_rfl) ?_
        repeat (go_big_quiet_step ((first | (go_at_call 42; with_reducible exact Hd.HW.c (laws_eqPlace.calls ((rd_T65 l0 x5_1).f0) ((rd_T65 l0 x5_1).f1.f0) ((rd_T65 l0 x5_1).f1.f1) ((rd_T65 l0 x5_1).f2) ((rd_T65 l1 x5_1).f0) ((rd_T65 l1 x5_1).f1.f0) ((rd_T65 l1 x5_1).f1.f1) ((rd_T65 l1 x5_1).f2) true _ A7.out)))))
        refine wpQuiet_nil ?_
        intro _ hq_
        obtain ⟨q_, rfl⟩ := hq_
        clear s0_ s1_ s2_ s3_ s4_ s5_ s6_ s7_
        replace HB := Aside0.mk (below_step HB.out q_.b)
        replace hx399_0 := q_.cell hx399_0
        replace hx399_1 := q_.cell hx399_1
        replace hx399_2 := q_.cell hx399_2
        replace hx399_3 := q_.cell hx399_3
        replace hx400_0 := q_.cell hx400_0
        replace hx400_1 := q_.cell hx400_1
        replace hx400_2 := q_.cell hx400_2
        replace hx400_3 := q_.cell hx400_3
        generalize q_.W = w10 at HB hx399_0 hx399_1 hx399_2 hx399_3 hx400_0 hx400_1 hx400_2 hx400_3 ⊢
        try simp only [i64_w, i32_w]
        try go_wp2
        go_roundg k1
        case measure => have := HK1.out; omega
        case rel => exact ⟨(wrap64 (x5_1 + 1)), (by first | rfl | (simp; done) | (simp [*]; done)), H', ⟨by have := HK1.out; omega⟩, ⟨Hd.b_⟩⟩
       ·
        replace c8 := Bool.eq_false_iff.mpr c8
        subst c8
        have H1 : (some false) = some r := by rw [if_neg (show ¬ (false = true) by decide)] at H; exact H
        clear H
        have H := H1
        clear H1
        obtain rfl := Option.some.inj H
        try go_wp2
        replace HB := Aside0.mk (below_drew1 HB.out)
        have p399 : 0 ≤ (x5_1 : Int) := of_decide_eq_true Hd.a_
        have q399 : x5_1 < (l0.length : Int) := of_decide_eq_true Hd.a_
        obtain ⟨ad399, e399, hx399_0, hx399_1, hx399_2, hx399_3⟩ := at_T65 HR0.out x5_1 p399 q399
        have hw399_3 := hx399_3
        have hw399_2 := hx399_2
        have hw399_1 := hx399_1
        have hw399_0 := hx399_0
        cases e399
        replace hx399_0 := (HB.out.cell (World.block_lt_of_cell? w _ hx399_0)).trans hx399_0
        replace hx399_1 := (HB.out.cell (World.block_lt_of_cell? w _ hx399_1)).trans hx399_1
        replace hx399_2 := (HB.out.cell (World.block_lt_of_cell? w _ hx399_2)).trans hx399_2
        replace hx399_3 := (HB.out.cell (World.block_lt_of_cell? w _ hx399_3)).trans hx399_3
        replace p399 := eq_true p399
        replace q399 := eq_true q399
        have p400 : 0 ≤ (x5_1 : Int) := of_decide_eq_true Hd.a_
        have q400 : x5_1 < (l1.length : Int) := of_decide_eq_true Hd.a_
        obtain ⟨ad400, e400, hx400_0, hx400_1, hx400_2, hx400_3⟩ := at_T65 HR1.out x5_1 p400 q400
        have hw400_3 := hx400_3
        have hw400_2 := hx400_2
        have hw400_1 := hx400_1
        have hw400_0 := hx400_0
        cases e400
        replace hx400_0 := (HB.out.cell (World.block_lt_of_cell? w _ hx400_0)).trans hx400_0
        replace hx400_1 := (HB.out.cell (World.block_lt_of_cell? w _ hx400_1)).trans hx400_1
        replace hx400_2 := (HB.out.cell (World.block_lt_of_cell? w _ hx400_2)).trans hx400_2
        replace hx400_3 := (HB.out.cell (World.block_lt_of_cell? w _ hx400_3)).trans hx400_3
        replace p400 := eq_true p400
        replace q400 := eq_true q400
        have s0_ := Hd.HW.x (W0 := wr.drew) ((HB.out.cell (World.block_lt_of_cell? w _ hw399_0)).trans hw399_0)
        have s1_ := Hd.HW.x (W0 := wr.drew) ((HB.out.cell (World.block_lt_of_cell? w _ hw399_1)).trans hw399_1)
        have s2_ := Hd.HW.x (W0 := wr.drew) ((HB.out.cell (World.block_lt_of_cell? w _ hw399_2)).trans hw399_2)
        have s3_ := Hd.HW.x (W0 := wr.drew) ((HB.out.cell (World.block_lt_of_cell? w _ hw399_3)).trans hw399_3)
        have s4_ := Hd.HW.x (W0 := wr.drew) ((HB.out.cell (World.block_lt_of_cell? w _ hw400_0)).trans hw400_0)
        have s5_ := Hd.HW.x (W0 := wr.drew) ((HB.out.cell (World.block_lt_of_cell? w _ hw400_1)).trans hw400_1)
        have s6_ := Hd.HW.x (W0 := wr.drew) ((HB.out.cell (World.block_lt_of_cell? w _ hw400_2)).trans hw400_2)
        have s7_ := Hd.HW.x (W0 := wr.drew) ((HB.out.cell (World.block_lt_of_cell? w _ hw400_3)).trans hw400_3)
        refine Hd.HW.region (by kernel_rfl) (by kernel_rfl) ?_
        repeat (go_big_quiet_step ((first | (go_at_call 42; with_reducible exact Hd.HW.c (laws_eqPlace.calls ((rd_T65 l0 x5_1).f0) ((rd_T65 l0 x5_1).f1.f0) ((rd_T65 l0 x5_1).f1.f1) ((rd_T65 l0 x5_1).f2) ((rd_T65 l1 x5_1).f0) ((rd_T65 l1 x5_1).f1.f0) ((rd_T65 l1 x5_1).f1.f1) ((rd_T65 l1 x5_1).f2) false _ A7.out)))))
        refine wpQuiet_nil ?_
        intro _ hq_
        obtain ⟨q_, rfl⟩ := hq_
        clear s0_ s1_ s2_ s3_ s4_ s5_ s6_ s7_
        replace HB := Aside0.mk (below_step HB.out q_.b)
        replace hx399_0 := q_.cell hx399_0
        replace hx399_1 := q_.cell hx399_1
        replace hx399_2 := q_.cell hx399_2
        replace hx399_3 := q_.cell hx399_3
        replace hx400_0 := q_.cell hx400_0
        replace hx400_1 := q_.cell hx400_1
        replace hx400_2 := q_.cell hx400_2
        replace hx400_3 := q_.cell hx400_3
        generalize q_.W = w12 at HB hx399_0 hx399_1 hx399_2 hx399_3 hx400_0 hx400_1 hx400_2 hx400_3 ⊢
        try simp only [i64_w, i32_w]
        try go_wp2
        go_ret
        exact ⟨Hd.e_, Hd.b_⟩
      ·
       rw [if_neg c6] at H
       exact absurd H (by simp)
     ·
      rw [if_neg c5] at H
      exact absurd H (by simp)
    ·
     rw [if_neg c4] at H
     have c4b0 : decide (x5_1 < (l0.length : Int)) = false := decide_eq_false c4
     clear c4
     obtain rfl := Option.some.inj H
     go_wp2
     go_ret
     exact ⟨Hd.e_, Hd.b_⟩
 ·
  rw [if_neg c3] at H
  have c3b0 : ((l0.length : Int) == (l1.length : Int)) = false := beq_eq_false_iff_ne.mpr c3
  have c3b1 : ((l0.length : Int) != (l1.length : Int)) = true := bne_iff_ne.mpr c3
  have c3b2 : (l0.length == l1.length) = false := by first | simpa using c3 | (simp at c3 ⊢; omega)
  obtain rfl := Option.some.inj H
  go_enter Try.func12, Try.ntmps12
  go_wp2
  go_ret
  exact ⟨Hd.e_, Hd.b_⟩
def laws_eqPointS.l0 : Nat → List (S63) → List (S63) → Int → Option (Bool)
 | 0, _, _, _ => none
 | k + 1, x0, x1, x5 => if x5 < (x0.length : Int) then (if 0 ≤ x5 then (if x5 < (x1.length : Int) then ((laws_eqPoint.f ((rd_T63 x0 x5).f0) ((rd_T63 x0 x5).f1) ((rd_T63 x1 x5).f0) ((rd_T63 x1 x5).f1)).bind fun t404 => (if t404 = true then (laws_eqPointS.l0 k x0 x1 (wrap64 (x5 + 1))) else (some false))) else (none)) else (none)) else (some true)
def laws_eqPointS.f (k : Nat) (l0 : List (S63)) (l1 : List (S63)) : Option (Bool) := if (l0.length : Int) = (l1.length : Int) then (laws_eqPointS.l0 k l0 l1 0) else (some false)
set_option maxHeartbeats 8000000 in
set_option maxRecDepth 100000 in
theorem laws_eqPointS.calls (k : Nat) (A0 : Option Addr) (c0 : Nat) (l0 : List (S63)) (A1 : Option Addr) (c1 : Nat) (l1 : List (S63)) (r : Bool) (w : World) (hr0 : Kd.C k63 w A0 l0.length l0) (hc0 : l0.length ≤ c0) (hr1 : Kd.C k63 w A1 l1.length l1) (hc1 : l1.length ≤ c1) (h : laws_eqPointS.f k l0 l1 = some r) :
  Calls Try.prog 71 #[.slice A0 l0.length c0, .slice A1 l1.length c1] w fun e w' => e = .returned (.bool r) ∧ Below w.heap.size w w' := by
 have hu63 := Try.underlying63
 have HR0 := Aside0.mk hr0
 have HC0 := Aside0.mk hc0
 clear hr0 hc0
 have HR1 := Aside0.mk hr1
 have HC1 := Aside0.mk hc1
 clear hr1 hc1
 have HB := Aside0.mk (Below.refl w.heap.size w)
 have H : (if (l0.length : Int) = (l1.length : Int) then (laws_eqPointS.l0 k l0 l1 0) else (some false)) = some r := h
 clear h
 by_cases c3 : (l0.length : Int) = (l1.length : Int)
 ·
  rw [if_pos c3] at H
  have c3b0 : ((l0.length : Int) == (l1.length : Int)) = true := beq_iff_eq.mpr c3
  have c3b1 : ((l0.length : Int) != (l1.length : Int)) = false := bne_eq_false_iff_eq.mpr c3
  have c3b2 : (l0.length == l1.length) = true := by first | simpa using c3 | (simp at c3 ⊢; omega)
  clear c3
  have H' := Aside0.mk H
  clear H
  go_enter Try.func71, Try.ntmps71
  go_wp2
  go_loopg [5] k (fun kq v5 w' => ∃ (x5_1 : Int), v5 = .int .i64 x5_1 ∧ Aside0 (laws_eqPointS.l0 kq l0 l1 x5_1 = some r) ∧ Aside0 (kq ≤ k) ∧ Aside0 (Below w.heap.size w w'))
  case atStart => exact ⟨(0), (by first | rfl | (simp; done) | (simp [*]; done)), H', ⟨Nat.le_refl _⟩, ⟨Hd.b_⟩⟩
  case round =>
   clear H'
   try clear c1
   try clear p2
   try clear c3
   try clear c3b0
   try clear c3b1
   try clear c3b2
   obtain ⟨x5_1, rfl, HA, HK1, HB⟩ := hrel
   cases gk with
   | zero => exact absurd HA.out (by simp [laws_eqPointS.l0])
   | succ k1 =>
    have H := HA.out
    clear HA
    simp only [laws_eqPointS.l0] at H
    by_cases c4 : x5_1 < (l0.length : Int)
    ·
     rw [if_pos c4] at H
     have c4b0 : decide (x5_1 < (l0.length : Int)) = true := decide_eq_true c4
     clear c4
     by_cases c5 : 0 ≤ x5_1
     ·
      rw [if_pos c5] at H
      have c5b0 : decide (0 ≤ x5_1) = true := decide_eq_true c5
      clear c5
      by_cases c6 : x5_1 < (l1.length : Int)
      ·
       rw [if_pos c6] at H
       have c6b0 : decide (x5_1 < (l1.length : Int)) = true := decide_eq_true c6
       clear c6
       replace H := Option.bind_eq_some_iff.mp H
       obtain ⟨t404, A70, H⟩ := H
       replace H : (if t404 = true then (laws_eqPointS.l0 k1 l0 l1 (wrap64 (x5_1 + 1))) else (some false)) = some r := H
       have A7 := Aside0.mk A70
       clear A70
       by_cases c8 : t404 = true
       ·
        subst c8
        have H1 : (laws_eqPointS.l0 k1 l0 l1 (wrap64 (x5_1 + 1))) = some r := by rw [if_pos rfl] at H; exact H
        clear H
        have H := H1
        clear H1
        have H' := Aside0.mk H
        clear H
        try go_wp2
        replace HB := Aside0.mk (below_drew1 HB.out)
        have p402 : 0 ≤ (x5_1 : Int) := of_decide_eq_true Hd.a_
        have q402 : x5_1 < (l0.length : Int) := of_decide_eq_true Hd.a_
        obtain ⟨ad402, e402, hx402_0, hx402_1⟩ := at_T63 HR0.out x5_1 p402 q402
        have hw402_1 := hx402_1
        have hw402_0 := hx402_0
        cases e402
        replace hx402_0 := (HB.out.cell (World.block_lt_of_cell? w _ hx402_0)).trans hx402_0
        replace hx402_1 := (HB.out.cell (World.block_lt_of_cell? w _ hx402_1)).trans hx402_1
        replace p402 := eq_true p402
        replace q402 := eq_true q402
        have p403 : 0 ≤ (x5_1 : Int) := of_decide_eq_true Hd.a_
        have q403 : x5_1 < (l1.length : Int) := of_decide_eq_true Hd.a_
        obtain ⟨ad403, e403, hx403_0, hx403_1⟩ := at_T63 HR1.out x5_1 p403 q403
        have hw403_1 := hx403_1
        have hw403_0 := hx403_0
        cases e403
        replace hx403_0 := (HB.out.cell (World.block_lt_of_cell? w _ hx403_0)).trans hx403_0
        replace hx403_1 := (HB.out.cell (World.block_lt_of_cell? w _ hx403_1)).trans hx403_1
        replace p403 := eq_true p403
        replace q403 := eq_true q403
        have s0_ := Hd.HW.x (W0 := wr.drew) ((HB.out.cell (World.block_lt_of_cell? w _ hw402_0)).trans hw402_0)
        have s1_ := Hd.HW.x (W0 := wr.drew) ((HB.out.cell (World.block_lt_of_cell? w _ hw402_1)).trans hw402_1)
        have s2_ := Hd.HW.x (W0 := wr.drew) ((HB.out.cell (World.block_lt_of_cell? w _ hw403_0)).trans hw403_0)
        have s3_ := Hd.HW.x (W0 := wr.drew) ((HB.out.cell (World.block_lt_of_cell? w _ hw403_1)).trans hw403_1)
        refine Hd.HW.region (by kernel_rfl) (by kernel_rfl) ?_
        repeat (go_big_quiet_step ((first | (go_at_call 70; with_reducible exact Hd.HW.c (laws_eqPoint.calls ((rd_T63 l0 x5_1).f0) ((rd_T63 l0 x5_1).f1) ((rd_T63 l1 x5_1).f0) ((rd_T63 l1 x5_1).f1) true _ A7.out)))))
        refine wpQuiet_nil ?_
        intro _ hq_
        obtain ⟨q_, rfl⟩ := hq_
        clear s0_ s1_ s2_ s3_
        replace HB := Aside0.mk (below_step HB.out q_.b)
        replace hx402_0 := q_.cell hx402_0
        replace hx402_1 := q_.cell hx402_1
        replace hx403_0 := q_.cell hx403_0
        replace hx403_1 := q_.cell hx403_1
        generalize q_.W = w10 at HB hx402_0 hx402_1 hx403_0 hx403_1 ⊢
        try simp only [i64_w, i32_w]
        try go_wp2
        go_roundg k1
        case measure => have := HK1.out; omega
        case rel => exact ⟨(wrap64 (x5_1 + 1)), (by first | rfl | (simp; done) | (simp [*]; done)), H', ⟨by have := HK1.out; omega⟩, ⟨Hd.b_⟩⟩
       ·
        replace c8 := Bool.eq_false_iff.mpr c8
        subst c8
        have H1 : (some false) = some r := by rw [if_neg (show ¬ (false = true) by decide)] at H; exact H
        clear H
        have H := H1
        clear H1
        obtain rfl := Option.some.inj H
        try go_wp2
        replace HB := Aside0.mk (below_drew1 HB.out)
        have p402 : 0 ≤ (x5_1 : Int) := of_decide_eq_true Hd.a_
        have q402 : x5_1 < (l0.length : Int) := of_decide_eq_true Hd.a_
        obtain ⟨ad402, e402, hx402_0, hx402_1⟩ := at_T63 HR0.out x5_1 p402 q402
        have hw402_1 := hx402_1
        have hw402_0 := hx402_0
        cases e402
        replace hx402_0 := (HB.out.cell (World.block_lt_of_cell? w _ hx402_0)).trans hx402_0
        replace hx402_1 := (HB.out.cell (World.block_lt_of_cell? w _ hx402_1)).trans hx402_1
        replace p402 := eq_true p402
        replace q402 := eq_true q402
        have p403 : 0 ≤ (x5_1 : Int) := of_decide_eq_true Hd.a_
        have q403 : x5_1 < (l1.length : Int) := of_decide_eq_true Hd.a_
        obtain ⟨ad403, e403, hx403_0, hx403_1⟩ := at_T63 HR1.out x5_1 p403 q403
        have hw403_1 := hx403_1
        have hw403_0 := hx403_0
        cases e403
        replace hx403_0 := (HB.out.cell (World.block_lt_of_cell? w _ hx403_0)).trans hx403_0
        replace hx403_1 := (HB.out.cell (World.block_lt_of_cell? w _ hx403_1)).trans hx403_1
        replace p403 := eq_true p403
        replace q403 := eq_true q403
        have s0_ := Hd.HW.x (W0 := wr.drew) ((HB.out.cell (World.block_lt_of_cell? w _ hw402_0)).trans hw402_0)
        have s1_ := Hd.HW.x (W0 := wr.drew) ((HB.out.cell (World.block_lt_of_cell? w _ hw402_1)).trans hw402_1)
        have s2_ := Hd.HW.x (W0 := wr.drew) ((HB.out.cell (World.block_lt_of_cell? w _ hw403_0)).trans hw403_0)
        have s3_ := Hd.HW.x (W0 := wr.drew) ((HB.out.cell (World.block_lt_of_cell? w _ hw403_1)).trans hw403_1)
        refine Hd.HW.region (by kernel_rfl) (by kernel_rfl) ?_
        repeat (go_big_quiet_step ((first | (go_at_call 70; with_reducible exact Hd.HW.c (laws_eqPoint.calls ((rd_T63 l0 x5_1).f0) ((rd_T63 l0 x5_1).f1) ((rd_T63 l1 x5_1).f0) ((rd_T63 l1 x5_1).f1) false _ A7.out)))))
        refine wpQuiet_nil ?_
        intro _ hq_
        obtain ⟨q_, rfl⟩ := hq_
        clear s0_ s1_ s2_ s3_
        replace HB := Aside0.mk (below_step HB.out q_.b)
        replace hx402_0 := q_.cell hx402_0
        replace hx402_1 := q_.cell hx402_1
        replace hx403_0 := q_.cell hx403_0
        replace hx403_1 := q_.cell hx403_1
        generalize q_.W = w12 at HB hx402_0 hx402_1 hx403_0 hx403_1 ⊢
        try simp only [i64_w, i32_w]
        try go_wp2
        go_ret
        exact ⟨Hd.e_, Hd.b_⟩
      ·
       rw [if_neg c6] at H
       exact absurd H (by simp)
     ·
      rw [if_neg c5] at H
      exact absurd H (by simp)
    ·
     rw [if_neg c4] at H
     have c4b0 : decide (x5_1 < (l0.length : Int)) = false := decide_eq_false c4
     clear c4
     obtain rfl := Option.some.inj H
     go_wp2
     go_ret
     exact ⟨Hd.e_, Hd.b_⟩
 ·
  rw [if_neg c3] at H
  have c3b0 : ((l0.length : Int) == (l1.length : Int)) = false := beq_eq_false_iff_ne.mpr c3
  have c3b1 : ((l0.length : Int) != (l1.length : Int)) = true := bne_iff_ne.mpr c3
  have c3b2 : (l0.length == l1.length) = false := by first | simpa using c3 | (simp at c3 ⊢; omega)
  obtain rfl := Option.some.inj H
  go_enter Try.func71, Try.ntmps71
  go_wp2
  go_ret
  exact ⟨Hd.e_, Hd.b_⟩
end Go.Proofs.Ytchmbcembbbplad.MFnExactPlacesOf
