-- Laid by this session's program pp.py, after the kit's print and texts of the session's own. Not trusted: Lean checks it.
import Derived.Test.YtchmbcembbbplacZMeetsAllMx0
import Derived.Test.YtchmbcembbbplacZMeetsAllMx6
import Derived.Test.YtchmbcembbbplacZMeetsAllMx8
namespace Go.Proofs.Ytchmbcembbbplac.MFnExactMeetsAll
open Go.RowKit Go.Proofs.YtchmbcembbbplacW.PrintWords Go.Proofs.YtchmbcembbbplacW.PrintLast Go.Proofs.YtchmbcembbbplacW.PrintMore
attribute [local go_sem] max2_int min2_int max_two min_two max_three min_three max_four min_four   -- for this text's walks alone
set_option linter.unusedVariables false
set_option linter.unusedSimpArgs false
mutual
def impl_greatest.l0 : Nat → List (S111) → Int → List (S111) → Int → Int → Option (Int)
 | 0, _, _, _, _, _ => none
 | k + 1, x1, x5, x10, x11, x12 => if x12 < x11 then (if 0 ≤ x12 then (if x12 < (x10.length : Int) then (impl_greatest.l1 k x1 x5 x10 x11 x12 x1 (x1.length : Int) 0 ((rd_T111 x10 x12).f0.f0) ((rd_T111 x10 x12).f0.f1) ((rd_T111 x10 x12).f1.f0) ((rd_T111 x10 x12).f1.f1)) else (none)) else (none)) else (some x5)
def impl_greatest.l1 : Nat → List (S111) → Int → List (S111) → Int → Int → List (S111) → Int → Int → Int → Int → Int → Int → Option (Int)
 | 0, _, _, _, _, _, _, _, _, _, _, _, _ => none
 | k + 1, x1, x5, x10, x11, x12, x16, x17, x18, x294000, x294001, x294002, x294003 => if x18 < x17 then (if 0 ≤ x18 then (if x18 < (x16.length : Int) then ((impl_HowMeet.f k x294000 x294001 x294002 x294003 ((rd_T111 x16 x18).f0.f0) ((rd_T111 x16 x18).f0.f1) ((rd_T111 x16 x18).f1.f0) ((rd_T111 x16 x18).f1.f1)).bind fun t296 => (impl_greatest.l1 k x1 (mx x5 t296) x10 x11 x12 x16 x17 (wrap64 (x18 + 1)) x294000 x294001 x294002 x294003)) else (none)) else (none)) else (impl_greatest.l0 k x1 x5 x10 x11 (wrap64 (x12 + 1)))
end
def impl_greatest.f (k : Nat) (l0 : List (S111)) (l1 : List (S111)) : Option (Int) := impl_greatest.l0 k l1 0 l0 (l0.length : Int) 0
set_option maxHeartbeats 8000000 in
set_option maxRecDepth 100000 in
theorem impl_greatest.calls (k : Nat) (A0 : Option Addr) (c0 : Nat) (l0 : List (S111)) (A1 : Option Addr) (c1 : Nat) (l1 : List (S111)) (r : Int) (w : World) (hr0 : Kd.C k111 w A0 l0.length l0) (hc0 : l0.length ≤ c0) (hr1 : Kd.C k111 w A1 l1.length l1) (hc1 : l1.length ≤ c1) (h : impl_greatest.f k l0 l1 = some r) :
  Calls Try.prog 130 #[.slice A0 l0.length c0, .slice A1 l1.length c1] w fun e w' => e = .returned (.int .i64 r) ∧ Below w.heap.size w w' := by
 have hu111 := Try.underlying111
 have HR0 := Aside0.mk hr0
 have HC0 := Aside0.mk hc0
 clear hr0 hc0
 have HR1 := Aside0.mk hr1
 have HC1 := Aside0.mk hc1
 clear hr1 hc1
 have HB := Aside0.mk (Below.refl w.heap.size w)
 have H : (impl_greatest.l0 k l1 0 l0 (l0.length : Int) 0) = some r := h
 clear h
 have H' := Aside0.mk H
 clear H
 go_enter Try.func130, Try.ntmps130
 go_wp2
 go_loopg [5, 12] k (fun kq v5 v12 w' => ∃ (x5_1 : Int) (x12_1 : Int), v5 = .int .i64 x5_1 ∧ v12 = .int .i64 x12_1 ∧ Aside0 (impl_greatest.l0 kq l1 x5_1 l0 (l0.length : Int) x12_1 = some r) ∧ Aside0 (kq ≤ k) ∧ Aside0 (Below w.heap.size w w'))
 case atStart => exact ⟨(0), (0), (by first | rfl | (simp; done) | (simp [*]; done)), (by first | rfl | (simp; done) | (simp [*]; done)), H', ⟨Nat.le_refl _⟩, ⟨Hd.b_⟩⟩
 case round =>
  clear H'
  try clear c1
  try clear p2
  obtain ⟨x5_1, x12_1, rfl, rfl, HA, HK1, HB⟩ := hrel
  cases gk with
  | zero => exact absurd HA.out (by simp [impl_greatest.l0])
  | succ k1 =>
   have H := HA.out
   clear HA
   simp only [impl_greatest.l0] at H
   by_cases c3 : x12_1 < (l0.length : Int)
   ·
    rw [if_pos c3] at H
    have c3b0 : decide (x12_1 < (l0.length : Int)) = true := decide_eq_true c3
    clear c3
    by_cases c4 : 0 ≤ x12_1
    ·
     rw [if_pos c4] at H
     have c4b0 : decide (0 ≤ x12_1) = true := decide_eq_true c4
     clear c4
     by_cases c5 : x12_1 < (l0.length : Int)
     ·
      rw [if_pos c5] at H
      have c5b0 : decide (x12_1 < (l0.length : Int)) = true := decide_eq_true c5
      clear c5
      have H' := Aside0.mk H
      clear H
      have p292 : 0 ≤ (x12_1 : Int) := of_decide_eq_true Hd.a_
      have q292 : x12_1 < (l0.length : Int) := of_decide_eq_true Hd.a_
      obtain ⟨ad292, e292, hx292_0, hx292_1, hx292_2, hx292_3⟩ := at_T111 HR0.out x12_1 p292 q292
      cases e292
      replace hx292_0 := (HB.out.cell (World.block_lt_of_cell? w _ hx292_0)).trans hx292_0
      replace hx292_1 := (HB.out.cell (World.block_lt_of_cell? w _ hx292_1)).trans hx292_1
      replace hx292_2 := (HB.out.cell (World.block_lt_of_cell? w _ hx292_2)).trans hx292_2
      replace hx292_3 := (HB.out.cell (World.block_lt_of_cell? w _ hx292_3)).trans hx292_3
      replace p292 := eq_true p292
      replace q292 := eq_true q292
      go_wp2_with (first | ((with_reducible refine gate_dst (N := 7) rfl ?_); refine Hd.box_ 7 (#[.int .i64 0, .int .i64 0, .int .i64 0, .int .i64 0]) 111 ?_; intro gb293 hg w6 hbox hb; have BK293 := Aside0.mk (hbox); have GW293 := Aside0.mk ((Hd.g_ hg Hd.b_ : w.heap.size ≤ gb293)); have GE293 := Aside0.mk ((Hd.g_ hg Hd.b_ : w.heap.size ≤ gb293)); replace HB := Aside0.mk (below_step Hd.b_ hb); clear hb hbox hg; obtain ⟨hcz7_0, hcz7_1, hcz7_2, hcz7_3⟩ := Hd.c4_ BK293.out; obtain ⟨hfz7_0, hfz7_1, hfz7_2, hfz7_3⟩ := Hd.f4_ BK293.out))
      go_loopg [5, 18] k1 (fun kq v5 v18 w' => ∃ (x5_2 : Int) (x18_2 : Int), v5 = .int .i64 x5_2 ∧ v18 = .int .i64 x18_2 ∧ Aside0 (impl_greatest.l1 kq l1 x5_2 l0 (l0.length : Int) x12_1 l1 (l1.length : Int) x18_2 ((rd_T111 l0 x12_1).f0.f0) ((rd_T111 l0 x12_1).f0.f1) ((rd_T111 l0 x12_1).f1.f0) ((rd_T111 l0 x12_1).f1.f1) = some r) ∧ Aside0 (kq ≤ k1) ∧ Aside0 (w'.heap[gb293]? = some (.cells #[.int .i64 ((rd_T111 l0 x12_1).f0.f0), .int .i64 ((rd_T111 l0 x12_1).f0.f1), .int .i64 ((rd_T111 l0 x12_1).f1.f0), .int .i64 ((rd_T111 l0 x12_1).f1.f1)] 111 (0, 0))) ∧ Aside0 (Below w.heap.size w w'))
      case atStart => exact ⟨(x5_1), (0), (by first | rfl | (simp; done) | (simp [*]; done)), (by first | rfl | (simp; done) | (simp [*]; done)), H', ⟨Nat.le_refl _⟩, ⟨by (with_reducible repeat (first | refine blk_drewN ?_ _ | refine blk_drew ?_ | refine blk_alloc ?_ _)); refine blk_put (cs := #[.int .i64 ((rd_T111 l0 x12_1).f0.f0), .int .i64 ((rd_T111 l0 x12_1).f0.f1), .int .i64 ((rd_T111 l0 x12_1).f1.f0), .int .i64 0]) ?_ 3 _ rfl; (with_reducible repeat (first | refine blk_drewN ?_ _ | refine blk_drew ?_ | refine blk_alloc ?_ _)); refine blk_put (cs := #[.int .i64 ((rd_T111 l0 x12_1).f0.f0), .int .i64 ((rd_T111 l0 x12_1).f0.f1), .int .i64 0, .int .i64 0]) ?_ 2 _ rfl; (with_reducible repeat (first | refine blk_drewN ?_ _ | refine blk_drew ?_ | refine blk_alloc ?_ _)); refine blk_put (cs := #[.int .i64 ((rd_T111 l0 x12_1).f0.f0), .int .i64 0, .int .i64 0, .int .i64 0]) ?_ 1 _ rfl; (with_reducible repeat (first | refine blk_drewN ?_ _ | refine blk_drew ?_ | refine blk_alloc ?_ _)); refine blk_put (cs := #[.int .i64 0, .int .i64 0, .int .i64 0, .int .i64 0]) ?_ 0 _ rfl; (with_reducible repeat (first | refine blk_drewN ?_ _ | refine blk_drew ?_ | refine blk_alloc ?_ _)); exact BK293.out⟩, ⟨Hd.b_⟩⟩
      case round =>
       clear H'
       try clear c1
       try clear p2
       try clear q2
       try clear hx2
       try clear c3
       try clear c3b0
       try clear c4
       try clear c4b0
       try clear c5
       try clear c5b0
       try clear hcz7_0
       try clear hcz7_1
       try clear hcz7_2
       try clear hcz7_3
       try clear hfz7_0
       try clear hfz7_1
       try clear hfz7_2
       try clear hfz7_3
       try clear hx292_0
       try clear hx292_1
       try clear hx292_2
       try clear hx292_3
       try clear p2
       try clear p292
       try clear q292
       obtain ⟨x5_2, x18_2, rfl, rfl, HA, HK2, BK293, HB⟩ := hrel
       cases gk with
       | zero => exact absurd HA.out (by simp [impl_greatest.l1])
       | succ k2 =>
        have H := HA.out
        clear HA
        simp only [impl_greatest.l1] at H
        by_cases c8 : x18_2 < (l1.length : Int)
        ·
         rw [if_pos c8] at H
         have c8b0 : decide (x18_2 < (l1.length : Int)) = true := decide_eq_true c8
         clear c8
         by_cases c9 : 0 ≤ x18_2
         ·
          rw [if_pos c9] at H
          have c9b0 : decide (0 ≤ x18_2) = true := decide_eq_true c9
          clear c9
          by_cases c10 : x18_2 < (l1.length : Int)
          ·
           rw [if_pos c10] at H
           have c10b0 : decide (x18_2 < (l1.length : Int)) = true := decide_eq_true c10
           clear c10
           replace H := Option.bind_eq_some_iff.mp H
           obtain ⟨t296, A110, H⟩ := H
           replace H : (impl_greatest.l1 k2 l1 (mx x5_2 t296) l0 (l0.length : Int) x12_1 l1 (l1.length : Int) (wrap64 (x18_2 + 1)) ((rd_T111 l0 x12_1).f0.f0) ((rd_T111 l0 x12_1).f0.f1) ((rd_T111 l0 x12_1).f1.f0) ((rd_T111 l0 x12_1).f1.f1)) = some r := H
           have A11 := Aside0.mk A110
           clear A110
           obtain ⟨ji12, hji12⟩ : ∃ j_ : Int, (mx x5_2 t296) = j_ := ⟨_, rfl⟩
           replace H : (impl_greatest.l1 k2 l1 ji12 l0 (l0.length : Int) x12_1 l1 (l1.length : Int) (wrap64 (x18_2 + 1)) ((rd_T111 l0 x12_1).f0.f0) ((rd_T111 l0 x12_1).f0.f1) ((rd_T111 l0 x12_1).f1.f0) ((rd_T111 l0 x12_1).f1.f1)) = some r := by first | (rw [hji12] at H; exact H) | (simp only [hji12] at H ⊢; exact H)
           (try rw [hji12] at A11)
           have hji12_ : (if x5_2 < t296 then t296 else x5_2) = ji12 := hji12
           have H' := Aside0.mk H
           clear H
           have p294 : 0 ≤ (x18_2 : Int) := of_decide_eq_true Hd.a_
           have q294 : x18_2 < (l1.length : Int) := of_decide_eq_true Hd.a_
           obtain ⟨ad294, e294, hx294_0, hx294_1, hx294_2, hx294_3⟩ := at_T111 HR1.out x18_2 p294 q294
           cases e294
           replace hx294_0 := (HB.out.cell (World.block_lt_of_cell? w _ hx294_0)).trans hx294_0
           replace hx294_1 := (HB.out.cell (World.block_lt_of_cell? w _ hx294_1)).trans hx294_1
           replace hx294_2 := (HB.out.cell (World.block_lt_of_cell? w _ hx294_2)).trans hx294_2
           replace hx294_3 := (HB.out.cell (World.block_lt_of_cell? w _ hx294_3)).trans hx294_3
           replace p294 := eq_true p294
           replace q294 := eq_true q294
           go_wp2_with (first | ((with_reducible refine gate_dst (N := 9) rfl ?_); refine Hd.box_ 9 (#[.int .i64 0, .int .i64 0, .int .i64 0, .int .i64 0]) 111 ?_; intro gb295 hg w13 hbox hb; have BK295 := Aside0.mk (hbox); have GW295 := Aside0.mk ((Hd.g_ hg Hd.b_ : w.heap.size ≤ gb295)); have GE295 := Aside0.mk ((Hd.g_ hg Hd.b_ : w.heap.size ≤ gb295)); replace HB := Aside0.mk (below_step Hd.b_ hb); have NB293_295 := Aside0.mk ((Hd.lt_ BK293 hg)); have NB295_293 := Aside0.mk ((Hd.gt_ BK293 hg)); replace BK293 := Aside0.mk (Hd.kb_ BK293 hb); clear hb hbox hg; have hnb14 := NB295_293.out; have hnc14 := NB293_295.out; obtain ⟨hcz15_0, hcz15_1, hcz15_2, hcz15_3⟩ := Hd.c4_ BK295.out; obtain ⟨hfz15_0, hfz15_1, hfz15_2, hfz15_3⟩ := Hd.f4_ BK295.out; obtain ⟨hcz16_0, hcz16_1, hcz16_2, hcz16_3⟩ := Hd.c4_ BK293.out; obtain ⟨hfz16_0, hfz16_1, hfz16_2, hfz16_3⟩ := Hd.f4_ BK293.out) | ((with_reducible refine gate_callee (f := 96) rfl ?_); refine goesL_ (some 25) rfl rfl Try.func96 (by kernel_rfl) rfl #[.agg #[.int .i64 ((rd_T111 l0 x12_1).f0.f0), .int .i64 ((rd_T111 l0 x12_1).f0.f1), .int .i64 ((rd_T111 l0 x12_1).f1.f0), .int .i64 ((rd_T111 l0 x12_1).f1.f1)], .agg #[.int .i64 ((rd_T111 l1 x18_2).f0.f0), .int .i64 ((rd_T111 l1 x18_2).f0.f1), .int .i64 ((rd_T111 l1 x18_2).f1.f0), .int .i64 ((rd_T111 l1 x18_2).f1.f1)]] rfl Hd.m_ ?_; (with_reducible refine (impl_HowMeet.calls k2 ((rd_T111 l0 x12_1).f0.f0) ((rd_T111 l0 x12_1).f0.f1) ((rd_T111 l0 x12_1).f1.f0) ((rd_T111 l0 x12_1).f1.f1) ((rd_T111 l1 x18_2).f0.f0) ((rd_T111 l1 x18_2).f0.f1) ((rd_T111 l1 x18_2).f1.f0) ((rd_T111 l1 x18_2).f1.f1) t296 _ A11.out).mono ?_); rintro e w17 ⟨rfl, hb⟩; refine ⟨_, rfl, ?_⟩; replace BK293 := Aside0.mk (blk_below (g := gb293) (o := .cells #[.int .i64 ((rd_T111 l0 x12_1).f0.f0), .int .i64 ((rd_T111 l0 x12_1).f0.f1), .int .i64 ((rd_T111 l0 x12_1).f1.f0), .int .i64 ((rd_T111 l0 x12_1).f1.f1)] 111 (0, 0)) (by (with_reducible repeat (first | refine blk_drewN ?_ _ | refine blk_drew ?_ | refine blk_alloc ?_ _)); refine blk_far ?_ NB293_295.out _; (with_reducible repeat (first | refine blk_drewN ?_ _ | refine blk_drew ?_ | refine blk_alloc ?_ _)); refine blk_far ?_ NB293_295.out _; (with_reducible repeat (first | refine blk_drewN ?_ _ | refine blk_drew ?_ | refine blk_alloc ?_ _)); refine blk_far ?_ NB293_295.out _; (with_reducible repeat (first | refine blk_drewN ?_ _ | refine blk_drew ?_ | refine blk_alloc ?_ _)); refine blk_far ?_ NB293_295.out _; (with_reducible repeat (first | refine blk_drewN ?_ _ | refine blk_drew ?_ | refine blk_alloc ?_ _)); exact BK293.out) hb); replace BK295 := Aside0.mk (blk_below (g := gb295) (o := .cells #[.int .i64 ((rd_T111 l1 x18_2).f0.f0), .int .i64 ((rd_T111 l1 x18_2).f0.f1), .int .i64 ((rd_T111 l1 x18_2).f1.f0), .int .i64 ((rd_T111 l1 x18_2).f1.f1)] 111 (0, 0)) (by (with_reducible repeat (first | refine blk_drewN ?_ _ | refine blk_drew ?_ | refine blk_alloc ?_ _)); refine blk_put (cs := #[.int .i64 ((rd_T111 l1 x18_2).f0.f0), .int .i64 ((rd_T111 l1 x18_2).f0.f1), .int .i64 ((rd_T111 l1 x18_2).f1.f0), .int .i64 0]) ?_ 3 _ rfl; (with_reducible repeat (first | refine blk_drewN ?_ _ | refine blk_drew ?_ | refine blk_alloc ?_ _)); refine blk_put (cs := #[.int .i64 ((rd_T111 l1 x18_2).f0.f0), .int .i64 ((rd_T111 l1 x18_2).f0.f1), .int .i64 0, .int .i64 0]) ?_ 2 _ rfl; (with_reducible repeat (first | refine blk_drewN ?_ _ | refine blk_drew ?_ | refine blk_alloc ?_ _)); refine blk_put (cs := #[.int .i64 ((rd_T111 l1 x18_2).f0.f0), .int .i64 0, .int .i64 0, .int .i64 0]) ?_ 1 _ rfl; (with_reducible repeat (first | refine blk_drewN ?_ _ | refine blk_drew ?_ | refine blk_alloc ?_ _)); refine blk_put (cs := #[.int .i64 0, .int .i64 0, .int .i64 0, .int .i64 0]) ?_ 0 _ rfl; (with_reducible repeat (first | refine blk_drewN ?_ _ | refine blk_drew ?_ | refine blk_alloc ?_ _)); exact BK295.out) hb); replace HB := Aside0.mk (below_step Hd.b_ hb); (try clear hb); (try clear hb2); (try clear hk); (try clear hi)))
           go_roundg k2
           case measure => have := HK1.out; have := HK2.out; omega
           case rel => exact ⟨(ji12), (wrap64 (x18_2 + 1)), (by first | rfl | (simp; done) | (simp only [← hji12] <;> (first | rfl | simp)) | (simp [*]; done)), (by first | rfl | (simp; done) | (simp [*]; done)), H', ⟨by have := HK1.out; have := HK2.out; omega⟩, ⟨by (with_reducible repeat (first | refine blk_drewN ?_ _ | refine blk_drew ?_ | refine blk_alloc ?_ _)); exact BK293.out⟩, ⟨Hd.b_⟩⟩
          ·
           rw [if_neg c10] at H
           exact absurd H (by simp)
         ·
          rw [if_neg c9] at H
          exact absurd H (by simp)
        ·
         rw [if_neg c8] at H
         have c8b0 : decide (x18_2 < (l1.length : Int)) = false := decide_eq_false c8
         clear c8
         have H' := Aside0.mk H
         clear H
         go_wp2
         go_roundg k2
         case measure => have := HK1.out; have := HK2.out; omega
         case rel => exact ⟨(x5_2), (wrap64 (x12_1 + 1)), (by first | rfl | (simp; done) | (simp [*]; done)), (by first | rfl | (simp; done) | (simp [*]; done)), H', ⟨by have := HK1.out; have := HK2.out; omega⟩, ⟨Hd.b_⟩⟩
     ·
      rw [if_neg c5] at H
      exact absurd H (by simp)
    ·
     rw [if_neg c4] at H
     exact absurd H (by simp)
   ·
    rw [if_neg c3] at H
    have c3b0 : decide (x12_1 < (l0.length : Int)) = false := decide_eq_false c3
    clear c3
    obtain rfl := Option.some.inj H
    go_wp2
    go_ret
    exact ⟨Hd.e_, Hd.b_⟩
def impl_LinesMeet.f (k : Nat) (l0 : List (S49)) (l1 : List (S49)) : Option (Int) := (impl_SegmentsOf.f k l0).bind fun t297 => ((impl_SegmentsOf.f k l1).bind fun t300 => ((impl_greatest.f k t297 t300).bind fun t303 => (some t303)))
set_option maxHeartbeats 8000000 in
set_option maxRecDepth 100000 in
theorem impl_LinesMeet.calls (k : Nat) (A0 : Option Addr) (c0 : Nat) (l0 : List (S49)) (A1 : Option Addr) (c1 : Nat) (l1 : List (S49)) (r : Int) (w : World) (hr0 : Kd.C k49 w A0 l0.length l0) (hc0 : l0.length ≤ c0) (hr1 : Kd.C k49 w A1 l1.length l1) (hc1 : l1.length ≤ c1) (h : impl_LinesMeet.f k l0 l1 = some r) :
  Calls Try.prog 80 #[.slice A0 l0.length c0, .slice A1 l1.length c1] w fun e w' => e = .returned (.int .i64 r) ∧ Below w.heap.size w w' := by
 have HR0 := Aside0.mk hr0
 have HC0 := Aside0.mk hc0
 clear hr0 hc0
 have HR1 := Aside0.mk hr1
 have HC1 := Aside0.mk hc1
 clear hr1 hc1
 have HB := Aside0.mk (Below.refl w.heap.size w)
 have H : ((impl_SegmentsOf.f k l0).bind fun t297 => ((impl_SegmentsOf.f k l1).bind fun t300 => ((impl_greatest.f k t297 t300).bind fun t303 => (some t303)))) = some r := h
 clear h
 replace H := Option.bind_eq_some_iff.mp H
 obtain ⟨t297, A30, H⟩ := H
 replace H : ((impl_SegmentsOf.f k l1).bind fun t300 => ((impl_greatest.f k t297 t300).bind fun t303 => (some t303))) = some r := H
 have A3 := Aside0.mk A30
 clear A30
 replace H := Option.bind_eq_some_iff.mp H
 obtain ⟨t300, A40, H⟩ := H
 replace H : ((impl_greatest.f k t297 t300).bind fun t303 => (some t303)) = some r := H
 have A4 := Aside0.mk A40
 clear A40
 replace H := Option.bind_eq_some_iff.mp H
 obtain ⟨t303, A50, H⟩ := H
 replace H : (some t303) = some r := H
 have A5 := Aside0.mk A50
 clear A50
 obtain rfl := Option.some.inj H
 go_enter Try.func80, Try.ntmps80
 go_wp2_with (first | ((with_reducible refine gate_callee (f := 95) rfl ?_); refine goesL_ (some 6) rfl rfl Try.func95 (by kernel_rfl) rfl #[.slice A0 l0.length c0] rfl Hd.m_ ?_; (with_reducible refine (impl_SegmentsOf.calls k _ _ l0 t297 _ ?side1 ?side2 A3.out).mono ?_); (case side1 => repeat (first | exact HR0.out | (with_reducible refine Kd.C_alloc ?_ _) | (with_reducible refine Kd.C_drewN ?_ _) | (with_reducible refine Kd.C_drew ?_))); (case side2 => exact HC0.out); rintro e w6 ⟨v298, rfl, ho0, hb⟩; refine ⟨_, rfl, ?_⟩; have HO299 := Aside0.mk (Kd.R_lower ho0 (below_size Hd.b_)); replace HB := Aside0.mk (below_step Hd.b_ hb); (try clear hb); (try clear hb2); (try clear hk); (try clear hi); (try clear ho0)) | ((with_reducible refine gate_callee (f := 95) rfl ?_); refine goesL_ (some 8) rfl rfl Try.func95 (by kernel_rfl) rfl #[.slice A1 l1.length c1] rfl Hd.m_ ?_; (with_reducible refine (impl_SegmentsOf.calls k _ _ l1 t300 _ ?side1 ?side2 A4.out).mono ?_); (case side1 => repeat (first | exact (Kd.C_below HR1.out HB.out) | (with_reducible refine Kd.C_alloc ?_ _) | (with_reducible refine Kd.C_drewN ?_ _) | (with_reducible refine Kd.C_drew ?_))); (case side2 => exact HC1.out); rintro e w7 ⟨v301, rfl, ho0, hb⟩; refine ⟨_, rfl, ?_⟩; have HO302 := Aside0.mk (Kd.R_lower (Kd.R_new' ho0 (Kd.R_lt (Hd.r_ HO299))) (below_size Hd.b_)); replace HO299 := Aside0.mk (Kd.R_elder' (Hd.r_ HO299) (Kd.R_base ho0) hb); replace HB := Aside0.mk (below_step Hd.b_ hb); (try clear hb); (try clear hb2); (try clear hk); (try clear hi); (try clear ho0); obtain ⟨Ao8, co8, eo8⟩ := Kd.R_slice HO299.out; subst eo8; obtain ⟨Ao9, co9, eo9⟩ := Kd.R_slice HO302.out; subst eo9) | ((with_reducible refine gate_callee (f := 130) rfl ?_); refine goesL_ (some 9) rfl rfl Try.func130 (by kernel_rfl) rfl #[.slice Ao8 t297.length co8, .slice Ao9 t300.length co9] rfl Hd.m_ ?_; (with_reducible refine (impl_greatest.calls k _ _ t297 _ _ t300 t303 _ ?side1 ?side2 ?side3 ?side4 A5.out).mono ?_); (case side1 => repeat (first | exact (Kd.R_reads' HO299.out).2.2 | (with_reducible refine Kd.C_alloc ?_ _) | (with_reducible refine Kd.C_drewN ?_ _) | (with_reducible refine Kd.C_drew ?_))); (case side2 => exact (Kd.R_reads' HO299.out).2.1); (case side3 => repeat (first | exact (Kd.R_reads' HO302.out).2.2 | (with_reducible refine Kd.C_alloc ?_ _) | (with_reducible refine Kd.C_drewN ?_ _) | (with_reducible refine Kd.C_drew ?_))); (case side4 => exact (Kd.R_reads' HO302.out).2.1); rintro e w10 ⟨rfl, hb⟩; refine ⟨_, rfl, ?_⟩; replace HO299 := Aside0.mk (Kd.R_below (Hd.r_ HO299) hb); replace HO302 := Aside0.mk (Kd.R_below (Hd.r_ HO302) hb); replace HB := Aside0.mk (below_step Hd.b_ hb); (try clear hb); (try clear hb2); (try clear hk); (try clear hi)))
 go_ret
 exact ⟨Hd.e_, Hd.b_⟩
def impl_MeetsAll.l0 : Nat → List (S49) → List Int → List (List (S49)) → Int → Int → Option (List Int)
 | 0, _, _, _, _, _ => none
 | k + 1, x0, x5, x9, x10, x11 => if x11 < x10 then (if 0 ≤ x11 then (if x11 < (x9.length : Int) then ((impl_LinesMeet.f k x0 (rd_L5 x9 x11)).bind fun t308 => (if x5.length < 17592186044416 then (impl_MeetsAll.l0 k x0 (x5 ++ [t308]) x9 x10 (wrap64 (x11 + 1))) else (none))) else (none)) else (none)) else (some x5)
def impl_MeetsAll.f (k : Nat) (l0 : List (S49)) (l1 : List (List (S49))) : Option (List Int) := impl_MeetsAll.l0 k l0 (([] : List Int)) l1 (l1.length : Int) 0
set_option maxHeartbeats 8000000 in
set_option maxRecDepth 100000 in
theorem impl_MeetsAll.calls (k : Nat) (A0 : Option Addr) (c0 : Nat) (l0 : List (S49)) (A1 : Option Addr) (c1 : Nat) (l1 : List (List (S49))) (r : List Int) (w : World) (hr0 : Kd.C k49 w A0 l0.length l0) (hc0 : l0.length ≤ c0) (hr1 : Kd.C (Kd.slice 49 k49) w A1 l1.length l1) (hc1 : l1.length ≤ c1) (h : impl_MeetsAll.f k l0 l1 = some r) :
  Calls Try.prog 20 #[.slice A0 l0.length c0, .slice A1 l1.length c1] w fun e w' => ∃ v0_ : Value, e = .returned (v0_) ∧ Kd.R (Kd.int .i64) 3 w' w.heap.size (fun _ => True) v0_ r ∧ Below w.heap.size w w' := by
 have HR0 := Aside0.mk hr0
 have HC0 := Aside0.mk hc0
 clear hr0 hc0
 have HR1 := Aside0.mk hr1
 have HC1 := Aside0.mk hc1
 clear hr1 hc1
 have HB := Aside0.mk (Below.refl w.heap.size w)
 have H : (impl_MeetsAll.l0 k l0 (([] : List Int)) l1 (l1.length : Int) 0) = some r := h
 clear h
 obtain ⟨y304, hy304⟩ : ∃ y_ : List Int, y_ = (([] : List Int)) := ⟨_, rfl⟩
 replace H : (impl_MeetsAll.l0 k l0 y304 l1 (l1.length : Int) 0) = some r := by first | (rw [hy304]; with_reducible exact H) | (have H2_ := (Option.bind_some _ _).symm.trans H; rw [hy304]; with_reducible exact H2_) | (have H2_ := (Option.bind_some _ _).symm.trans H; with_reducible exact H2_) | with_reducible exact H | (rw [hy304]; exact H) | exact H
 have Ny304 := Aside0.mk hy304
 clear hy304
 have H' := Aside0.mk H
 clear H
 go_enter Try.func20, Try.ntmps20
 go_wp2_with (first | ((with_reducible refine gate_dst (N := 8) rfl ?_); refine Kd.R_lit (Kd.int .i64) _ 3 ?hg (N := 8) ?hd (xs := ([] : List Int)) (inner := []) (ok := fun _ => True) (okp := fun _ => True) ?hr ?hp (fun _ hk => hk) trivial (Below.refl _ _) (Nat.le_refl _) (by simp) ?_; (case hd => rfl); (case hg => rfl); (case hr => first | (go_simp; done) | (go_simp; rfl)); (case hp => exact (Reps.none _ _)); intro v305 w3 ho4 hb hg_ hnew_; clear hg_ hnew_; (first | rw [← Ny304.out] at ho4 | (simp only [Int.reduceToNat] at ho4; rw [← Ny304.out] at ho4)); have HO306 := Aside0.mk (Kd.R_lower ho4 (below_size Hd.b_)); replace HB := Aside0.mk (below_step Hd.b_ hb); clear hb ho4))
 go_loopg [5, 11] k (fun kq v5 v11 w' => ∃ (x5_1 : List Int) (x11_1 : Int), v11 = .int .i64 x11_1 ∧ Aside0 (impl_MeetsAll.l0 kq l0 x5_1 l1 (l1.length : Int) x11_1 = some r) ∧ Aside0 (kq ≤ k) ∧ Aside0 (Kd.R (Kd.int .i64) 3 w' w.heap.size (fun _ => True) v5 x5_1) ∧ Aside0 (Below w.heap.size w w'))
 case atStart => exact ⟨(y304), (0), (by first | rfl | (simp; done) | (simp [*]; done)), H', ⟨Nat.le_refl _⟩, ⟨by (with_reducible repeat (first | apply Kd.R_alloc | apply Kd.R_drewN | apply Kd.R_drew)); exact HO306.out⟩, ⟨Hd.b_⟩⟩
 case round =>
  clear H'
  try clear c1
  try clear c2
  try clear p2
  obtain ⟨x5_1, x11_1, rfl, HA, HK1, HO_5, HB⟩ := hrel
  cases gk with
  | zero => exact absurd HA.out (by simp [impl_MeetsAll.l0])
  | succ k1 =>
   have H := HA.out
   clear HA
   simp only [impl_MeetsAll.l0] at H
   by_cases c5 : x11_1 < (l1.length : Int)
   ·
    rw [if_pos c5] at H
    have c5b0 : decide (x11_1 < (l1.length : Int)) = true := decide_eq_true c5
    clear c5
    by_cases c6 : 0 ≤ x11_1
    ·
     rw [if_pos c6] at H
     have c6b0 : decide (0 ≤ x11_1) = true := decide_eq_true c6
     clear c6
     by_cases c7 : x11_1 < (l1.length : Int)
     ·
      rw [if_pos c7] at H
      have c7b0 : decide (x11_1 < (l1.length : Int)) = true := decide_eq_true c7
      clear c7
      replace H := Option.bind_eq_some_iff.mp H
      obtain ⟨t308, A80, H⟩ := H
      replace H : (if x5_1.length < 17592186044416 then (impl_MeetsAll.l0 k1 l0 (x5_1 ++ [t308]) l1 (l1.length : Int) (wrap64 (x11_1 + 1))) else (none)) = some r := H
      have A8 := Aside0.mk A80
      clear A80
      by_cases c9 : x5_1.length < 17592186044416
      ·
       rw [if_pos c9] at H
       have LMc9 := Aside0.mk c9
       clear c9
       obtain ⟨y309, hy309⟩ : ∃ y_ : List Int, y_ = (x5_1 ++ [t308]) := ⟨_, rfl⟩
       replace H : (impl_MeetsAll.l0 k1 l0 y309 l1 (l1.length : Int) (wrap64 (x11_1 + 1))) = some r := by first | (rw [hy309]; with_reducible exact H) | (have H2_ := (Option.bind_some _ _).symm.trans H; rw [hy309]; with_reducible exact H2_) | (have H2_ := (Option.bind_some _ _).symm.trans H; with_reducible exact H2_) | with_reducible exact H | (rw [hy309]; exact H) | exact H
       have Ny309 := Aside0.mk hy309
       clear hy309
       have H' := Aside0.mk H
       clear H
       have p307 : 0 ≤ (x11_1 : Int) := of_decide_eq_true Hd.a_
       have q307 : x11_1 < (l1.length : Int) := of_decide_eq_true Hd.a_
       obtain ⟨ad307, A307_0, c307_0, e307, hx307_0, hl307_0, hi307_0⟩ := at_L5 HR1.out x11_1 p307 q307
       cases e307
       replace hx307_0 := (HB.out.cell (World.block_lt_of_cell? w _ hx307_0)).trans hx307_0
       have HR307_0 := Aside0.mk hi307_0
       have HC307_0 := Aside0.mk hl307_0
       clear hi307_0 hl307_0
       replace p307 := eq_true p307
       replace q307 := eq_true q307
       go_wp2_with (first | ((with_reducible refine gate_callee (f := 80) rfl ?_); refine goesL_ (some 18) rfl rfl Try.func80 (by kernel_rfl) rfl #[.slice A0 l0.length c0, .slice A307_0 (rd_L5 l1 x11_1).length c307_0] rfl Hd.m_ ?_; (with_reducible refine (impl_LinesMeet.calls k1 _ _ l0 _ _ (rd_L5 l1 x11_1) t308 _ ?side1 ?side2 ?side3 ?side4 A8.out).mono ?_); (case side1 => repeat (first | exact (Kd.C_below HR0.out HB.out) | (with_reducible refine Kd.C_alloc ?_ _) | (with_reducible refine Kd.C_drewN ?_ _) | (with_reducible refine Kd.C_drew ?_))); (case side2 => exact HC0.out); (case side3 => repeat (first | exact (Kd.C_below HR307_0.out HB.out) | (with_reducible refine Kd.C_alloc ?_ _) | (with_reducible refine Kd.C_drewN ?_ _) | (with_reducible refine Kd.C_drew ?_))); (case side4 => exact HC307_0.out); rintro e w10 ⟨rfl, hb⟩; refine ⟨_, rfl, ?_⟩; replace HO_5 := Aside0.mk (Kd.R_below (Hd.r_ HO_5) hb); replace HB := Aside0.mk (below_step Hd.b_ hb); (try clear hb); (try clear hb2); (try clear hk); (try clear hi)) | ((with_reducible refine gate_builtin (b := .append) (xs := #[.tmp 15, .tmp 19]) rfl ?_); at_builtin; refine Kd.R_append (Kd.int .i64) (w0 := w) w.heap.size rfl (.tmp 15) (.tmp 19) 26 3 (.int .i64 0) 8 rfl Try.underlying26 info3 rfl (by decide) (by omega) u5 x5_1 t308 [.int .i64 t308] (fun _ => True) (fun _ => False) rfl rfl ?aP (fun _ hk => hk.elim) ?aF ?aO ?aB ?aS ?aL ?_; (case aP => exact rfl); (case aB => exact Hd.b_); (case aF => exact (fun _ _ => trivial)); (case aO => exact (Hd.r_ HO_5)); (case aS => exact (below_size Hd.b_)); (case aL => have := LMc9.out; omega); intro v310 w11 ho hb hg hat; rw [← Ny309.out] at ho; have n0_ := Aside0.mk (hb); have n1_ := Aside0.mk (ho); clear HB; clear HO_5; have HB := n0_; have HO311 := n1_; clear n0_ n1_; clear ho hb hg hat))
       go_roundg k1
       case measure => have := HK1.out; omega
       case rel => exact ⟨(y309), (wrap64 (x11_1 + 1)), (by first | rfl | (simp; done) | (simp [*]; done)), H', ⟨by have := HK1.out; omega⟩, ⟨by (with_reducible repeat (first | apply Kd.R_alloc | apply Kd.R_drewN | apply Kd.R_drew)); exact HO311.out⟩, ⟨Hd.b_⟩⟩
      ·
       rw [if_neg c9] at H
       exact absurd H (by simp)
     ·
      rw [if_neg c7] at H
      exact absurd H (by simp)
    ·
     rw [if_neg c6] at H
     exact absurd H (by simp)
   ·
    rw [if_neg c5] at H
    have c5b0 : decide (x11_1 < (l1.length : Int)) = false := decide_eq_false c5
    clear c5
    obtain rfl := Option.some.inj H
    go_wp2
    go_ret
    exact ⟨_, Hd.e_, by (with_reducible repeat (first | apply Kd.R_alloc | apply Kd.R_drewN | apply Kd.R_drew)); exact HO_5.out, Hd.b_⟩
def laws_eqIntS.l0 : Nat → List Int → List Int → Int → Option (Bool)
 | 0, _, _, _ => none
 | k + 1, x0, x1, x5 => if x5 < (x0.length : Int) then (if 0 ≤ x5 then (if x5 < (x1.length : Int) then (if (rd x0 x5) = (rd x1 x5) then (laws_eqIntS.l0 k x0 x1 (wrap64 (x5 + 1))) else (some false)) else (none)) else (none)) else (some true)
def laws_eqIntS.f (k : Nat) (l0 : List Int) (l1 : List Int) : Option (Bool) := if (l0.length : Int) = (l1.length : Int) then (laws_eqIntS.l0 k l0 l1 0) else (some false)
set_option maxHeartbeats 8000000 in
set_option maxRecDepth 100000 in
theorem laws_eqIntS.calls (k : Nat) (A0 : Option Addr) (c0 : Nat) (l0 : List Int) (A1 : Option Addr) (c1 : Nat) (l1 : List Int) (r : Bool) (w : World) (hr0 : Kd.C (Kd.int .i64) w A0 l0.length l0) (hc0 : l0.length ≤ c0) (hr1 : Kd.C (Kd.int .i64) w A1 l1.length l1) (hc1 : l1.length ≤ c1) (h : laws_eqIntS.f k l0 l1 = some r) :
  Calls Try.prog 21 #[.slice A0 l0.length c0, .slice A1 l1.length c1] w fun e w' => e = .returned (.bool r) ∧ Drawn0 w w' := by
 have HR0 := Aside0.mk hr0
 have HC0 := Aside0.mk hc0
 clear hr0 hc0
 have HR1 := Aside0.mk hr1
 have HC1 := Aside0.mk hc1
 clear hr1 hc1
 have H : (if (l0.length : Int) = (l1.length : Int) then (laws_eqIntS.l0 k l0 l1 0) else (some false)) = some r := h
 clear h
 by_cases c3 : (l0.length : Int) = (l1.length : Int)
 ·
  rw [if_pos c3] at H
  have c3b0 : ((l0.length : Int) == (l1.length : Int)) = true := beq_iff_eq.mpr c3
  have c3b1 : ((l0.length : Int) != (l1.length : Int)) = false := bne_eq_false_iff_eq.mpr c3
  have c3b2 : (l0.length == l1.length) = true := by first | simpa using c3 | (simp at c3 ⊢; omega)
  clear c3
  have H' := Aside0.mk H
  clear H
  go_enter Try.func21, Try.ntmps21
  go_wp2
  repeat (go_quiet (fail); try go_wp2)
  go_loopg [5] k (fun kq v5 w' => ∃ (x5_1 : Int), v5 = .int .i64 x5_1 ∧ Aside0 (laws_eqIntS.l0 kq l0 l1 x5_1 = some r) ∧ Aside0 (kq ≤ k) ∧ Drawn0 w w')
  case atStart => exact ⟨(0), (by first | rfl | (simp; done) | (simp [*]; done)), H', ⟨Nat.le_refl _⟩, by repeat (first | exact Drawn0.refl _ | apply Drawn0.step)⟩
  case round =>
   clear H'
   try clear c1
   try clear c2
   try clear p2
   try clear c3
   try clear c3b0
   try clear c3b1
   try clear c3b2
   obtain ⟨x5_1, rfl, HA, HK1, ⟨m1, rfl⟩⟩ := hrel
   cases gk with
   | zero => exact absurd HA.out (by simp [laws_eqIntS.l0])
   | succ k1 =>
    have H := HA.out
    clear HA
    simp only [laws_eqIntS.l0] at H
    by_cases c4 : x5_1 < (l0.length : Int)
    ·
     rw [if_pos c4] at H
     have c4b0 : decide (x5_1 < (l0.length : Int)) = true := decide_eq_true c4
     clear c4
     by_cases c5 : 0 ≤ x5_1
     ·
      rw [if_pos c5] at H
      have c5b0 : decide (0 ≤ x5_1) = true := decide_eq_true c5
      clear c5
      by_cases c6 : x5_1 < (l1.length : Int)
      ·
       rw [if_pos c6] at H
       have c6b0 : decide (x5_1 < (l1.length : Int)) = true := decide_eq_true c6
       clear c6
       by_cases c7 : (rd l0 x5_1) = (rd l1 x5_1)
       ·
        rw [if_pos c7] at H
        have c7b0 : ((rd l0 x5_1) == (rd l1 x5_1)) = true := beq_iff_eq.mpr c7
        have c7b1 : ((rd l0 x5_1) != (rd l1 x5_1)) = false := bne_eq_false_iff_eq.mpr c7
        clear c7
        have H' := Aside0.mk H
        clear H
        have p312 : 0 ≤ (x5_1 : Int) := of_decide_eq_true Hd.a_
        have q312 : x5_1 < (l0.length : Int) := of_decide_eq_true Hd.a_
        obtain ⟨ad312, e312, hx312_0⟩ := Kd.at_int HR0.out x5_1 p312 q312
        cases e312
        replace p312 := eq_true p312
        replace q312 := eq_true q312
        have p313 : 0 ≤ (x5_1 : Int) := of_decide_eq_true Hd.a_
        have q313 : x5_1 < (l1.length : Int) := of_decide_eq_true Hd.a_
        obtain ⟨ad313, e313, hx313_0⟩ := Kd.at_int HR1.out x5_1 p313 q313
        cases e313
        replace p313 := eq_true p313
        replace q313 := eq_true q313
        go_wp2
        repeat (go_quiet (fail); try go_wp2)
        go_roundg k1
        case measure => have := HK1.out; omega
        case rel => exact ⟨(wrap64 (x5_1 + 1)), (by first | rfl | (simp; done) | (simp [*]; done)), H', ⟨by have := HK1.out; omega⟩, by repeat (first | exact Drawn0.refl _ | apply Drawn0.step)⟩
       ·
        rw [if_neg c7] at H
        have c7b0 : ((rd l0 x5_1) == (rd l1 x5_1)) = false := beq_eq_false_iff_ne.mpr c7
        have c7b1 : ((rd l0 x5_1) != (rd l1 x5_1)) = true := bne_iff_ne.mpr c7
        obtain rfl := Option.some.inj H
        have p312 : 0 ≤ (x5_1 : Int) := of_decide_eq_true Hd.a_
        have q312 : x5_1 < (l0.length : Int) := of_decide_eq_true Hd.a_
        obtain ⟨ad312, e312, hx312_0⟩ := Kd.at_int HR0.out x5_1 p312 q312
        cases e312
        replace p312 := eq_true p312
        replace q312 := eq_true q312
        have p313 : 0 ≤ (x5_1 : Int) := of_decide_eq_true Hd.a_
        have q313 : x5_1 < (l1.length : Int) := of_decide_eq_true Hd.a_
        obtain ⟨ad313, e313, hx313_0⟩ := Kd.at_int HR1.out x5_1 p313 q313
        cases e313
        replace p313 := eq_true p313
        replace q313 := eq_true q313
        go_wp2
        repeat (go_quiet (fail); try go_wp2)
        go_ret
        exact ⟨by first | rfl | (simp; done) | (simp [*]; done), by repeat (first | exact Drawn0.refl _ | apply Drawn0.step)⟩
      ·
       rw [if_neg c6] at H
       exact absurd H (by simp)
     ·
      rw [if_neg c5] at H
      exact absurd H (by simp)
    ·
     rw [if_neg c4] at H
     have c4b0 : decide (x5_1 < (l0.length : Int)) = false := decide_eq_false c4
     clear c4
     obtain rfl := Option.some.inj H
     go_wp2
     repeat (go_quiet (fail); try go_wp2)
     go_ret
     exact ⟨by first | rfl | (simp; done) | (simp [*]; done), by repeat (first | exact Drawn0.refl _ | apply Drawn0.step)⟩
 ·
  rw [if_neg c3] at H
  have c3b0 : ((l0.length : Int) == (l1.length : Int)) = false := beq_eq_false_iff_ne.mpr c3
  have c3b1 : ((l0.length : Int) != (l1.length : Int)) = true := bne_iff_ne.mpr c3
  have c3b2 : (l0.length == l1.length) = false := by first | simpa using c3 | (simp at c3 ⊢; omega)
  obtain rfl := Option.some.inj H
  go_enter Try.func21, Try.ntmps21
  go_wp2
  repeat (go_quiet (fail); try go_wp2)
  go_ret
  exact ⟨by first | rfl | (simp; done) | (simp [*]; done), by repeat (first | exact Drawn0.refl _ | apply Drawn0.step)⟩
def laws_eqPoint.f (a0_0 : Int) (a0_1 : Int) (a1_0 : Int) (a1_1 : Int) : Option (Bool) := if a0_0 = a1_0 then (if a0_1 = a1_1 then (some true) else (some false)) else (some false)
set_option maxHeartbeats 8000000 in
set_option maxRecDepth 100000 in
theorem laws_eqPoint.calls (a0_0 : Int) (a0_1 : Int) (a1_0 : Int) (a1_1 : Int) (r : Bool) (w : World) (h : laws_eqPoint.f a0_0 a0_1 a1_0 a1_1 = some r) :
  Calls Try.prog 81 #[.agg #[.int .i64 a0_0, .int .i64 a0_1], .agg #[.int .i64 a1_0, .int .i64 a1_1]] w fun e w' => e = .returned (.bool r) ∧ Below w.heap.size w w' := by
 have hu49 := Try.underlying49
 have HB := Aside0.mk (Below.refl w.heap.size w)
 have H : (if a0_0 = a1_0 then (if a0_1 = a1_1 then (some true) else (some false)) else (some false)) = some r := h
 clear h
 by_cases c3 : a0_0 = a1_0
 ·
  rw [if_pos c3] at H
  have c3b0 : (a0_0 == a1_0) = true := beq_iff_eq.mpr c3
  have c3b1 : (a0_0 != a1_0) = false := bne_eq_false_iff_eq.mpr c3
  clear c3
  by_cases c4 : a0_1 = a1_1
  ·
   rw [if_pos c4] at H
   have c4b0 : (a0_1 == a1_1) = true := beq_iff_eq.mpr c4
   have c4b1 : (a0_1 != a1_1) = false := bne_eq_false_iff_eq.mpr c4
   clear c4
   obtain rfl := Option.some.inj H
   go_enter Try.func81, Try.ntmps81
   go_wp2_with (first | ((with_reducible refine gate_dst (N := 2) rfl ?_); refine Hd.box_ 2 (#[.int .i64 a0_0, .int .i64 a0_1]) 49 ?_; intro gb314 hg w5 hbox hb; have BK314 := Aside0.mk (hbox); have GW314 := Aside0.mk ((Hd.g_ hg Hd.b_ : w.heap.size ≤ gb314)); have GE314 := Aside0.mk ((Hd.g_ hg Hd.b_ : w.heap.size ≤ gb314)); replace HB := Aside0.mk (below_step Hd.b_ hb); clear hb hbox hg) | ((with_reducible refine gate_dst (N := 3) rfl ?_); refine Hd.box_ 3 (#[.int .i64 a1_0, .int .i64 a1_1]) 49 ?_; intro gb315 hg w6 hbox hb; have BK315 := Aside0.mk (hbox); have GW315 := Aside0.mk ((Hd.g_ hg Hd.b_ : w.heap.size ≤ gb315)); have GE315 := Aside0.mk ((Hd.g_ hg Hd.b_ : w.heap.size ≤ gb315)); replace HB := Aside0.mk (below_step Hd.b_ hb); have NB314_315 := Aside0.mk ((Hd.lt_ BK314 hg)); have NB315_314 := Aside0.mk ((Hd.gt_ BK314 hg)); replace BK314 := Aside0.mk (Hd.kb_ BK314 hb); clear hb hbox hg; have hnb7 := NB314_315.out; have hnc7 := NB315_314.out; obtain ⟨hcz8_0, hcz8_1⟩ := Hd.c2_ BK314.out; obtain ⟨hfz8_0, hfz8_1⟩ := Hd.f2_ BK314.out; obtain ⟨hcz9_0, hcz9_1⟩ := Hd.c2_ BK315.out; obtain ⟨hfz9_0, hfz9_1⟩ := Hd.f2_ BK315.out))
   go_ret
   exact ⟨Hd.e_, Hd.b_⟩
  ·
   rw [if_neg c4] at H
   have c4b0 : (a0_1 == a1_1) = false := beq_eq_false_iff_ne.mpr c4
   have c4b1 : (a0_1 != a1_1) = true := bne_iff_ne.mpr c4
   obtain rfl := Option.some.inj H
   go_enter Try.func81, Try.ntmps81
   go_wp2_with (first | ((with_reducible refine gate_dst (N := 2) rfl ?_); refine Hd.box_ 2 (#[.int .i64 a0_0, .int .i64 a0_1]) 49 ?_; intro gb314 hg w10 hbox hb; have BK314 := Aside0.mk (hbox); have GW314 := Aside0.mk ((Hd.g_ hg Hd.b_ : w.heap.size ≤ gb314)); have GE314 := Aside0.mk ((Hd.g_ hg Hd.b_ : w.heap.size ≤ gb314)); replace HB := Aside0.mk (below_step Hd.b_ hb); clear hb hbox hg) | ((with_reducible refine gate_dst (N := 3) rfl ?_); refine Hd.box_ 3 (#[.int .i64 a1_0, .int .i64 a1_1]) 49 ?_; intro gb315 hg w11 hbox hb; have BK315 := Aside0.mk (hbox); have GW315 := Aside0.mk ((Hd.g_ hg Hd.b_ : w.heap.size ≤ gb315)); have GE315 := Aside0.mk ((Hd.g_ hg Hd.b_ : w.heap.size ≤ gb315)); replace HB := Aside0.mk (below_step Hd.b_ hb); have NB314_315 := Aside0.mk ((Hd.lt_ BK314 hg)); have NB315_314 := Aside0.mk ((Hd.gt_ BK314 hg)); replace BK314 := Aside0.mk (Hd.kb_ BK314 hb); clear hb hbox hg; have hnb12 := NB314_315.out; have hnc12 := NB315_314.out; obtain ⟨hcz13_0, hcz13_1⟩ := Hd.c2_ BK314.out; obtain ⟨hfz13_0, hfz13_1⟩ := Hd.f2_ BK314.out; obtain ⟨hcz14_0, hcz14_1⟩ := Hd.c2_ BK315.out; obtain ⟨hfz14_0, hfz14_1⟩ := Hd.f2_ BK315.out))
   go_ret
   exact ⟨Hd.e_, Hd.b_⟩
 ·
  rw [if_neg c3] at H
  have c3b0 : (a0_0 == a1_0) = false := beq_eq_false_iff_ne.mpr c3
  have c3b1 : (a0_0 != a1_0) = true := bne_iff_ne.mpr c3
  obtain rfl := Option.some.inj H
  go_enter Try.func81, Try.ntmps81
  go_wp2_with (first | ((with_reducible refine gate_dst (N := 2) rfl ?_); refine Hd.box_ 2 (#[.int .i64 a0_0, .int .i64 a0_1]) 49 ?_; intro gb314 hg w15 hbox hb; have BK314 := Aside0.mk (hbox); have GW314 := Aside0.mk ((Hd.g_ hg Hd.b_ : w.heap.size ≤ gb314)); have GE314 := Aside0.mk ((Hd.g_ hg Hd.b_ : w.heap.size ≤ gb314)); replace HB := Aside0.mk (below_step Hd.b_ hb); clear hb hbox hg) | ((with_reducible refine gate_dst (N := 3) rfl ?_); refine Hd.box_ 3 (#[.int .i64 a1_0, .int .i64 a1_1]) 49 ?_; intro gb315 hg w16 hbox hb; have BK315 := Aside0.mk (hbox); have GW315 := Aside0.mk ((Hd.g_ hg Hd.b_ : w.heap.size ≤ gb315)); have GE315 := Aside0.mk ((Hd.g_ hg Hd.b_ : w.heap.size ≤ gb315)); replace HB := Aside0.mk (below_step Hd.b_ hb); have NB314_315 := Aside0.mk ((Hd.lt_ BK314 hg)); have NB315_314 := Aside0.mk ((Hd.gt_ BK314 hg)); replace BK314 := Aside0.mk (Hd.kb_ BK314 hb); clear hb hbox hg; have hnb17 := NB314_315.out; have hnc17 := NB315_314.out; obtain ⟨hcz18_0, hcz18_1⟩ := Hd.c2_ BK314.out; obtain ⟨hfz18_0, hfz18_1⟩ := Hd.f2_ BK314.out; obtain ⟨hcz19_0, hcz19_1⟩ := Hd.c2_ BK315.out; obtain ⟨hfz19_0, hfz19_1⟩ := Hd.f2_ BK315.out))
  go_ret
  exact ⟨Hd.e_, Hd.b_⟩
def laws_eqPointS.l0 : Nat → List (S49) → List (S49) → Int → Option (Bool)
 | 0, _, _, _ => none
 | k + 1, x0, x1, x5 => if x5 < (x0.length : Int) then (if 0 ≤ x5 then (if x5 < (x1.length : Int) then ((laws_eqPoint.f ((rd_T49 x0 x5).f0) ((rd_T49 x0 x5).f1) ((rd_T49 x1 x5).f0) ((rd_T49 x1 x5).f1)).bind fun t318 => (if t318 = true then (laws_eqPointS.l0 k x0 x1 (wrap64 (x5 + 1))) else (some false))) else (none)) else (none)) else (some true)
def laws_eqPointS.f (k : Nat) (l0 : List (S49)) (l1 : List (S49)) : Option (Bool) := if (l0.length : Int) = (l1.length : Int) then (laws_eqPointS.l0 k l0 l1 0) else (some false)
set_option maxHeartbeats 8000000 in
set_option maxRecDepth 100000 in
theorem laws_eqPointS.calls (k : Nat) (A0 : Option Addr) (c0 : Nat) (l0 : List (S49)) (A1 : Option Addr) (c1 : Nat) (l1 : List (S49)) (r : Bool) (w : World) (hr0 : Kd.C k49 w A0 l0.length l0) (hc0 : l0.length ≤ c0) (hr1 : Kd.C k49 w A1 l1.length l1) (hc1 : l1.length ≤ c1) (h : laws_eqPointS.f k l0 l1 = some r) :
  Calls Try.prog 22 #[.slice A0 l0.length c0, .slice A1 l1.length c1] w fun e w' => e = .returned (.bool r) ∧ Below w.heap.size w w' := by
 have hu49 := Try.underlying49
 have HR0 := Aside0.mk hr0
 have HC0 := Aside0.mk hc0
 clear hr0 hc0
 have HR1 := Aside0.mk hr1
 have HC1 := Aside0.mk hc1
 clear hr1 hc1
 have HB := Aside0.mk (Below.refl w.heap.size w)
 have H : (if (l0.length : Int) = (l1.length : Int) then (laws_eqPointS.l0 k l0 l1 0) else (some false)) = some r := h
 clear h
 by_cases c3 : (l0.length : Int) = (l1.length : Int)
 ·
  rw [if_pos c3] at H
  have c3b0 : ((l0.length : Int) == (l1.length : Int)) = true := beq_iff_eq.mpr c3
  have c3b1 : ((l0.length : Int) != (l1.length : Int)) = false := bne_eq_false_iff_eq.mpr c3
  have c3b2 : (l0.length == l1.length) = true := by first | simpa using c3 | (simp at c3 ⊢; omega)
  clear c3
  have H' := Aside0.mk H
  clear H
  go_enter Try.func22, Try.ntmps22
  go_wp2
  go_loopg [5] k (fun kq v5 w' => ∃ (x5_1 : Int), v5 = .int .i64 x5_1 ∧ Aside0 (laws_eqPointS.l0 kq l0 l1 x5_1 = some r) ∧ Aside0 (kq ≤ k) ∧ Aside0 (Below w.heap.size w w'))
  case atStart => exact ⟨(0), (by first | rfl | (simp; done) | (simp [*]; done)), H', ⟨Nat.le_refl _⟩, ⟨Hd.b_⟩⟩
  case round =>
   clear H'
   try clear c1
   try clear c2
   try clear p2
   try clear c3
   try clear c3b0
   try clear c3b1
   try clear c3b2
   obtain ⟨x5_1, rfl, HA, HK1, HB⟩ := hrel
   cases gk with
   | zero => exact absurd HA.out (by simp [laws_eqPointS.l0])
   | succ k1 =>
    have H := HA.out
    clear HA
    simp only [laws_eqPointS.l0] at H
    by_cases c4 : x5_1 < (l0.length : Int)
    ·
     rw [if_pos c4] at H
     have c4b0 : decide (x5_1 < (l0.length : Int)) = true := decide_eq_true c4
     clear c4
     by_cases c5 : 0 ≤ x5_1
     ·
      rw [if_pos c5] at H
      have c5b0 : decide (0 ≤ x5_1) = true := decide_eq_true c5
      clear c5
      by_cases c6 : x5_1 < (l1.length : Int)
      ·
       rw [if_pos c6] at H
       have c6b0 : decide (x5_1 < (l1.length : Int)) = true := decide_eq_true c6
       clear c6
       replace H := Option.bind_eq_some_iff.mp H
       obtain ⟨t318, A70, H⟩ := H
       replace H : (if t318 = true then (laws_eqPointS.l0 k1 l0 l1 (wrap64 (x5_1 + 1))) else (some false)) = some r := H
       have A7 := Aside0.mk A70
       clear A70
       by_cases c8 : t318 = true
       ·
        subst c8
        have H1 : (laws_eqPointS.l0 k1 l0 l1 (wrap64 (x5_1 + 1))) = some r := by rw [if_pos rfl] at H; exact H
        clear H
        have H := H1
        clear H1
        have H' := Aside0.mk H
        clear H
        try go_wp2
        replace HB := Aside0.mk (below_drew1 HB.out)
        have p316 : 0 ≤ (x5_1 : Int) := of_decide_eq_true Hd.a_
        have q316 : x5_1 < (l0.length : Int) := of_decide_eq_true Hd.a_
        obtain ⟨ad316, e316, hx316_0, hx316_1⟩ := at_T49 HR0.out x5_1 p316 q316
        have hw316_1 := hx316_1
        have hw316_0 := hx316_0
        cases e316
        replace hx316_0 := (HB.out.cell (World.block_lt_of_cell? w _ hx316_0)).trans hx316_0
        replace hx316_1 := (HB.out.cell (World.block_lt_of_cell? w _ hx316_1)).trans hx316_1
        replace p316 := eq_true p316
        replace q316 := eq_true q316
        have p317 : 0 ≤ (x5_1 : Int) := of_decide_eq_true Hd.a_
        have q317 : x5_1 < (l1.length : Int) := of_decide_eq_true Hd.a_
        obtain ⟨ad317, e317, hx317_0, hx317_1⟩ := at_T49 HR1.out x5_1 p317 q317
        have hw317_1 := hx317_1
        have hw317_0 := hx317_0
        cases e317
        replace hx317_0 := (HB.out.cell (World.block_lt_of_cell? w _ hx317_0)).trans hx317_0
        replace hx317_1 := (HB.out.cell (World.block_lt_of_cell? w _ hx317_1)).trans hx317_1
        replace p317 := eq_true p317
        replace q317 := eq_true q317
        have s0_ := Hd.HW.x (W0 := wr.drew) ((HB.out.cell (World.block_lt_of_cell? w _ hw316_0)).trans hw316_0)
        have s1_ := Hd.HW.x (W0 := wr.drew) ((HB.out.cell (World.block_lt_of_cell? w _ hw316_1)).trans hw316_1)
        have s2_ := Hd.HW.x (W0 := wr.drew) ((HB.out.cell (World.block_lt_of_cell? w _ hw317_0)).trans hw317_0)
        have s3_ := Hd.HW.x (W0 := wr.drew) ((HB.out.cell (World.block_lt_of_cell? w _ hw317_1)).trans hw317_1)
        refine Hd.HW.region (by kernel_rfl) (by kernel_rfl) ?_
        repeat (go_big_quiet_step ((first | (go_at_call 81; with_reducible exact Hd.HW.c (laws_eqPoint.calls ((rd_T49 l0 x5_1).f0) ((rd_T49 l0 x5_1).f1) ((rd_T49 l1 x5_1).f0) ((rd_T49 l1 x5_1).f1) true _ A7.out)))))
        refine wpQuiet_nil ?_
        intro _ hq_
        obtain ⟨q_, rfl⟩ := hq_
        clear s0_ s1_ s2_ s3_
        replace HB := Aside0.mk (below_step HB.out q_.b)
        replace hx316_0 := q_.cell hx316_0
        replace hx316_1 := q_.cell hx316_1
        replace hx317_0 := q_.cell hx317_0
        replace hx317_1 := q_.cell hx317_1
        generalize q_.W = w10 at HB hx316_0 hx316_1 hx317_0 hx317_1 ⊢
        try simp only [i64_w, i32_w]
        try go_wp2
        go_roundg k1
        case measure => have := HK1.out; omega
        case rel => exact ⟨(wrap64 (x5_1 + 1)), (by first | rfl | (simp; done) | (simp [*]; done)), H', ⟨by have := HK1.out; omega⟩, ⟨Hd.b_⟩⟩
       ·
        replace c8 := Bool.eq_false_iff.mpr c8
        subst c8
        have H1 : (some false) = some r := by rw [if_neg (show ¬ (false = true) by decide)] at H; exact H
        clear H
        have H := H1
        clear H1
        obtain rfl := Option.some.inj H
        try go_wp2
        replace HB := Aside0.mk (below_drew1 HB.out)
        have p316 : 0 ≤ (x5_1 : Int) := of_decide_eq_true Hd.a_
        have q316 : x5_1 < (l0.length : Int) := of_decide_eq_true Hd.a_
        obtain ⟨ad316, e316, hx316_0, hx316_1⟩ := at_T49 HR0.out x5_1 p316 q316
        have hw316_1 := hx316_1
        have hw316_0 := hx316_0
        cases e316
        replace hx316_0 := (HB.out.cell (World.block_lt_of_cell? w _ hx316_0)).trans hx316_0
        replace hx316_1 := (HB.out.cell (World.block_lt_of_cell? w _ hx316_1)).trans hx316_1
        replace p316 := eq_true p316
        replace q316 := eq_true q316
        have p317 : 0 ≤ (x5_1 : Int) := of_decide_eq_true Hd.a_
        have q317 : x5_1 < (l1.length : Int) := of_decide_eq_true Hd.a_
        obtain ⟨ad317, e317, hx317_0, hx317_1⟩ := at_T49 HR1.out x5_1 p317 q317
        have hw317_1 := hx317_1
        have hw317_0 := hx317_0
        cases e317
        replace hx317_0 := (HB.out.cell (World.block_lt_of_cell? w _ hx317_0)).trans hx317_0
        replace hx317_1 := (HB.out.cell (World.block_lt_of_cell? w _ hx317_1)).trans hx317_1
        replace p317 := eq_true p317
        replace q317 := eq_true q317
        have s0_ := Hd.HW.x (W0 := wr.drew) ((HB.out.cell (World.block_lt_of_cell? w _ hw316_0)).trans hw316_0)
        have s1_ := Hd.HW.x (W0 := wr.drew) ((HB.out.cell (World.block_lt_of_cell? w _ hw316_1)).trans hw316_1)
        have s2_ := Hd.HW.x (W0 := wr.drew) ((HB.out.cell (World.block_lt_of_cell? w _ hw317_0)).trans hw317_0)
        have s3_ := Hd.HW.x (W0 := wr.drew) ((HB.out.cell (World.block_lt_of_cell? w _ hw317_1)).trans hw317_1)
        refine Hd.HW.region (by kernel_rfl) (by kernel_rfl) ?_
        repeat (go_big_quiet_step ((first | (go_at_call 81; with_reducible exact Hd.HW.c (laws_eqPoint.calls ((rd_T49 l0 x5_1).f0) ((rd_T49 l0 x5_1).f1) ((rd_T49 l1 x5_1).f0) ((rd_T49 l1 x5_1).f1) false _ A7.out)))))
        refine wpQuiet_nil ?_
        intro _ hq_
        obtain ⟨q_, rfl⟩ := hq_
        clear s0_ s1_ s2_ s3_
        replace HB := Aside0.mk (below_step HB.out q_.b)
        replace hx316_0 := q_.cell hx316_0
        replace hx316_1 := q_.cell hx316_1
        replace hx317_0 := q_.cell hx317_0
        replace hx317_1 := q_.cell hx317_1
        generalize q_.W = w12 at HB hx316_0 hx316_1 hx317_0 hx317_1 ⊢
        try simp only [i64_w, i32_w]
        try go_wp2
        go_ret
        exact ⟨Hd.e_, Hd.b_⟩
      ·
       rw [if_neg c6] at H
       exact absurd H (by simp)
     ·
      rw [if_neg c5] at H
      exact absurd H (by simp)
    ·
     rw [if_neg c4] at H
     have c4b0 : decide (x5_1 < (l0.length : Int)) = false := decide_eq_false c4
     clear c4
     obtain rfl := Option.some.inj H
     go_wp2
     go_ret
     exact ⟨Hd.e_, Hd.b_⟩
 ·
  rw [if_neg c3] at H
  have c3b0 : ((l0.length : Int) == (l1.length : Int)) = false := beq_eq_false_iff_ne.mpr c3
  have c3b1 : ((l0.length : Int) != (l1.length : Int)) = true := bne_iff_ne.mpr c3
  have c3b2 : (l0.length == l1.length) = false := by first | simpa using c3 | (simp at c3 ⊢; omega)
  obtain rfl := Option.some.inj H
  go_enter Try.func22, Try.ntmps22
  go_wp2
  go_ret
  exact ⟨Hd.e_, Hd.b_⟩
end Go.Proofs.Ytchmbcembbbplac.MFnExactMeetsAll
