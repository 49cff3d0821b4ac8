-- Laid by this session's program pp.py, after the kit's print and texts of the session's own. Not trusted: Lean checks it.
import Derived.Test.YtchmbcembbbpladZMeetsOfMx0
import Derived.Test.YtchmbcembbbpladZMeetsOfMx1
import Derived.Test.YtchmbcembbbpladZMeetsOfMx3
import Derived.Test.YtchmbcembbbpladZMeetsOfMx5
namespace Go.Proofs.Ytchmbcembbbplad.MFnExactMeetsOf
open Go.RowKit Go.Proofs.YtchmbcembbbpladW.PrintWords Go.Proofs.YtchmbcembbbpladW.PrintLast Go.Proofs.YtchmbcembbbpladW.PrintMore
attribute [local go_sem] max2_int min2_int max_two min_two max_three min_three max_four min_four   -- for this text's walks alone
set_option linter.unusedVariables false
set_option linter.unusedSimpArgs false
attribute [local go_sem high] eqA63
mutual
def impl_greatest.l0 : Nat → List (S100) → Int → List (S100) → Int → Int → Option (Int)
 | 0,_,_,_,_,_ => none
 | k + 1,x1,x5,x10,x11,x12 => if x12 < x11 then (if 0 ≤ x12 then (if x12 < (x10.length : Int) then (impl_greatest.l1 k x1 x5 x10 x11 x12 x1 (x1.length : Int) 0 ((rd_T100 x10 x12).f0.f0) ((rd_T100 x10 x12).f0.f1) ((rd_T100 x10 x12).f1.f0) ((rd_T100 x10 x12).f1.f1)) else (none)) else (none)) else (some x5)
def impl_greatest.l1 : Nat → List (S100) → Int → List (S100) → Int → Int → List (S100) → Int → Int → Int → Int → Int → Int → Option (Int)
 | 0,_,_,_,_,_,_,_,_,_,_,_,_ => none
 | k + 1,x1,x5,x10,x11,x12,x16,x17,x18,x213000,x213001,x213002,x213003 => if x18 < x17 then (if 0 ≤ x18 then (if x18 < (x16.length : Int) then ((impl_HowMeet.f k x213000 x213001 x213002 x213003 ((rd_T100 x16 x18).f0.f0) ((rd_T100 x16 x18).f0.f1) ((rd_T100 x16 x18).f1.f0) ((rd_T100 x16 x18).f1.f1)).bind fun t215 => (impl_greatest.l1 k x1 (mx x5 t215) x10 x11 x12 x16 x17 (wrap64 (x18 + 1)) x213000 x213001 x213002 x213003)) else (none)) else (none)) else (impl_greatest.l0 k x1 x5 x10 x11 (wrap64 (x12 + 1)))
end
def impl_greatest.f (k : Nat) (l0 : List (S100)) (l1 : List (S100)) : Option (Int):=impl_greatest.l0 k l1 0 l0 (l0.length : Int) 0
set_option maxHeartbeats 8000000 in
set_option maxRecDepth 100000 in
theorem impl_greatest.calls (k : Nat) (A0 : Option Addr) (c0 : Nat) (l0 : List (S100)) (A1 : Option Addr) (c1 : Nat) (l1 : List (S100)) (r : Int) (w : World) (hr0 : Kd.C k100 w A0 l0.length l0) (hc0 : l0.length ≤ c0) (hr1 : Kd.C k100 w A1 l1.length l1) (hc1 : l1.length ≤ c1) (h : impl_greatest.f k l0 l1 = some r) :
  Calls Try.prog 48 #[.slice A0 l0.length c0,.slice A1 l1.length c1] w fun e w' => e = .returned (.int .i64 r) ∧ Below w.heap.size w w':=by
 have hu100:=Try.underlying100
 have HR0:=Aside0.mk hr0
 have HC0:=Aside0.mk hc0
 clear hr0 hc0
 have HR1:=Aside0.mk hr1
 have HC1:=Aside0.mk hc1
 clear hr1 hc1
 have HB:=Aside0.mk (Below.refl w.heap.size w)
 have H : (impl_greatest.l0 k l1 0 l0 (l0.length : Int) 0) = some r:=h
 clear h
 have H':=Aside0.mk H
 clear H
 go_enter Try.func48,Try.ntmps48
 go_wp2
 go_loopg [5,12] k (fun kq v5 v12 w' => ∃ (x5_1 : Int) (x12_1 : Int),v5 = .int .i64 x5_1 ∧ v12 = .int .i64 x12_1 ∧ Aside0 (impl_greatest.l0 kq l1 x5_1 l0 (l0.length : Int) x12_1 = some r) ∧ Aside0 (kq ≤ k) ∧ Aside0 (Below w.heap.size w w'))
 case atStart => exact ⟨(0),(0),(by first | rfl | (simp;done) | (simp [*];done)),(by first | rfl | (simp;done) | (simp [*];done)),H',⟨Nat.le_refl _⟩,⟨Hd.b_⟩⟩
 case round =>
  clear H'
  try clear c1
  try clear p2
  obtain ⟨x5_1,x12_1,rfl,rfl,HA,HK1,HB⟩:=hrel
  cases gk with
  | zero => exact absurd HA.out (by simp [impl_greatest.l0])
  | succ k1 =>
   have H:=HA.out
   clear HA
   simp only [impl_greatest.l0] at H
   by_cases c3 : x12_1 < (l0.length : Int)
   ·
    rw [if_pos c3] at H
    have c3b0 : decide (x12_1 < (l0.length : Int)) = true:=decide_eq_true c3
    clear c3
    by_cases c4 : 0 ≤ x12_1
    ·
     rw [if_pos c4] at H
     have c4b0 : decide (0 ≤ x12_1) = true:=decide_eq_true c4
     clear c4
     by_cases c5 : x12_1 < (l0.length : Int)
     ·
      rw [if_pos c5] at H
      have c5b0 : decide (x12_1 < (l0.length : Int)) = true:=decide_eq_true c5
      clear c5
      have H':=Aside0.mk H
      clear H
      have p211 : 0 ≤ (x12_1 : Int):=of_decide_eq_true Hd.a_
      have q211 : x12_1 < (l0.length : Int):=of_decide_eq_true Hd.a_
      obtain ⟨ad211,e211,hx211_0,hx211_1,hx211_2,hx211_3⟩:=at_T100 HR0.out x12_1 p211 q211
      cases e211
      replace hx211_0:=(HB.out.cell (World.block_lt_of_cell? w _ hx211_0)).trans hx211_0
      replace hx211_1:=(HB.out.cell (World.block_lt_of_cell? w _ hx211_1)).trans hx211_1
      replace hx211_2:=(HB.out.cell (World.block_lt_of_cell? w _ hx211_2)).trans hx211_2
      replace hx211_3:=(HB.out.cell (World.block_lt_of_cell? w _ hx211_3)).trans hx211_3
      replace p211:=eq_true p211
      replace q211:=eq_true q211
      go_wp2_with (first | ((with_reducible refine gate_dst (N:=7) rfl ?_);refine Hd.box_ 7 (#[.int .i64 0,.int .i64 0,.int .i64 0,.int .i64 0]) 100 ?_;intro gb212 hg w6 hbox hb;have BK212:=Aside0.mk (hbox);have GW212:=Aside0.mk ((Hd.g_ hg Hd.b_ : w.heap.size ≤ gb212));have GE212:=Aside0.mk ((Hd.g_ hg Hd.b_ : w.heap.size ≤ gb212));replace HB:=Aside0.mk (below_step Hd.b_ hb);clear hb hbox hg;obtain ⟨hcz7_0,hcz7_1,hcz7_2,hcz7_3⟩:=Hd.c4_ BK212.out;obtain ⟨hfz7_0,hfz7_1,hfz7_2,hfz7_3⟩:=Hd.f4_ BK212.out))
      go_loopg [5,18] k1 (fun kq v5 v18 w' => ∃ (x5_2 : Int) (x18_2 : Int),v5 = .int .i64 x5_2 ∧ v18 = .int .i64 x18_2 ∧ Aside0 (impl_greatest.l1 kq l1 x5_2 l0 (l0.length : Int) x12_1 l1 (l1.length : Int) x18_2 ((rd_T100 l0 x12_1).f0.f0) ((rd_T100 l0 x12_1).f0.f1) ((rd_T100 l0 x12_1).f1.f0) ((rd_T100 l0 x12_1).f1.f1) = some r) ∧ Aside0 (kq ≤ k1) ∧ Aside0 (w'.heap[gb212]? = some (.cells #[.int .i64 ((rd_T100 l0 x12_1).f0.f0),.int .i64 ((rd_T100 l0 x12_1).f0.f1),.int .i64 ((rd_T100 l0 x12_1).f1.f0),.int .i64 ((rd_T100 l0 x12_1).f1.f1)] 100 (0,0))) ∧ Aside0 (Below w.heap.size w w'))
      case atStart => exact ⟨(x5_1),(0),(by first | rfl | (simp;done) | (simp [*];done)),(by first | rfl | (simp;done) | (simp [*];done)),H',⟨Nat.le_refl _⟩,⟨by (with_reducible repeat (first | refine blk_drewN ?_ _ | refine blk_drew ?_ | refine blk_alloc ?_ _));refine blk_put (cs:=#[.int .i64 ((rd_T100 l0 x12_1).f0.f0),.int .i64 ((rd_T100 l0 x12_1).f0.f1),.int .i64 ((rd_T100 l0 x12_1).f1.f0),.int .i64 0]) ?_ 3 _ rfl;(with_reducible repeat (first | refine blk_drewN ?_ _ | refine blk_drew ?_ | refine blk_alloc ?_ _));refine blk_put (cs:=#[.int .i64 ((rd_T100 l0 x12_1).f0.f0),.int .i64 ((rd_T100 l0 x12_1).f0.f1),.int .i64 0,.int .i64 0]) ?_ 2 _ rfl;(with_reducible repeat (first | refine blk_drewN ?_ _ | refine blk_drew ?_ | refine blk_alloc ?_ _));refine blk_put (cs:=#[.int .i64 ((rd_T100 l0 x12_1).f0.f0),.int .i64 0,.int .i64 0,.int .i64 0]) ?_ 1 _ rfl;(with_reducible repeat (first | refine blk_drewN ?_ _ | refine blk_drew ?_ | refine blk_alloc ?_ _));refine blk_put (cs:=#[.int .i64 0,.int .i64 0,.int .i64 0,.int .i64 0]) ?_ 0 _ rfl;(with_reducible repeat (first | refine blk_drewN ?_ _ | refine blk_drew ?_ | refine blk_alloc ?_ _));exact BK212.out⟩,⟨Hd.b_⟩⟩
      case round =>
       clear H'
       try clear c1
       try clear p2
       try clear q2
       try clear hx2
       try clear c3
       try clear c3b0
       try clear c4
       try clear c4b0
       try clear c5
       try clear c5b0
       try clear hcz7_0
       try clear hcz7_1
       try clear hcz7_2
       try clear hcz7_3
       try clear hfz7_0
       try clear hfz7_1
       try clear hfz7_2
       try clear hfz7_3
       try clear hx211_0
       try clear hx211_1
       try clear hx211_2
       try clear hx211_3
       try clear p2
       try clear p211
       try clear q211
       obtain ⟨x5_2,x18_2,rfl,rfl,HA,HK2,BK212,HB⟩:=hrel
       cases gk with
       | zero => exact absurd HA.out (by simp [impl_greatest.l1])
       | succ k2 =>
        have H:=HA.out
        clear HA
        simp only [impl_greatest.l1] at H
        by_cases c8 : x18_2 < (l1.length : Int)
        ·
         rw [if_pos c8] at H
         have c8b0 : decide (x18_2 < (l1.length : Int)) = true:=decide_eq_true c8
         clear c8
         by_cases c9 : 0 ≤ x18_2
         ·
          rw [if_pos c9] at H
          have c9b0 : decide (0 ≤ x18_2) = true:=decide_eq_true c9
          clear c9
          by_cases c10 : x18_2 < (l1.length : Int)
          ·
           rw [if_pos c10] at H
           have c10b0 : decide (x18_2 < (l1.length : Int)) = true:=decide_eq_true c10
           clear c10
           replace H:=Option.bind_eq_some_iff.mp H
           obtain ⟨t215,A110,H⟩:=H
           replace H : (impl_greatest.l1 k2 l1 (mx x5_2 t215) l0 (l0.length : Int) x12_1 l1 (l1.length : Int) (wrap64 (x18_2 + 1)) ((rd_T100 l0 x12_1).f0.f0) ((rd_T100 l0 x12_1).f0.f1) ((rd_T100 l0 x12_1).f1.f0) ((rd_T100 l0 x12_1).f1.f1)) = some r:=H
           have A11:=Aside0.mk A110
           clear A110
           obtain ⟨ji12,hji12⟩ : ∃ j_ : Int,(mx x5_2 t215) = j_:=⟨_,rfl⟩
           replace H : (impl_greatest.l1 k2 l1 ji12 l0 (l0.length : Int) x12_1 l1 (l1.length : Int) (wrap64 (x18_2 + 1)) ((rd_T100 l0 x12_1).f0.f0) ((rd_T100 l0 x12_1).f0.f1) ((rd_T100 l0 x12_1).f1.f0) ((rd_T100 l0 x12_1).f1.f1)) = some r:=by first | (rw [hji12] at H;exact H) | (simp only [hji12] at H ⊢;exact H)
           (try rw [hji12] at A11)
           have hji12_ : (if x5_2 < t215 then t215 else x5_2) = ji12:=hji12
           have H':=Aside0.mk H
           clear H
           have p213 : 0 ≤ (x18_2 : Int):=of_decide_eq_true Hd.a_
           have q213 : x18_2 < (l1.length : Int):=of_decide_eq_true Hd.a_
           obtain ⟨ad213,e213,hx213_0,hx213_1,hx213_2,hx213_3⟩:=at_T100 HR1.out x18_2 p213 q213
           cases e213
           replace hx213_0:=(HB.out.cell (World.block_lt_of_cell? w _ hx213_0)).trans hx213_0
           replace hx213_1:=(HB.out.cell (World.block_lt_of_cell? w _ hx213_1)).trans hx213_1
           replace hx213_2:=(HB.out.cell (World.block_lt_of_cell? w _ hx213_2)).trans hx213_2
           replace hx213_3:=(HB.out.cell (World.block_lt_of_cell? w _ hx213_3)).trans hx213_3
           replace p213:=eq_true p213
           replace q213:=eq_true q213
           go_wp2_with (first | ((with_reducible refine gate_dst (N:=9) rfl ?_);refine Hd.box_ 9 (#[.int .i64 0,.int .i64 0,.int .i64 0,.int .i64 0]) 100 ?_;intro gb214 hg w13 hbox hb;have BK214:=Aside0.mk (hbox);have GW214:=Aside0.mk ((Hd.g_ hg Hd.b_ : w.heap.size ≤ gb214));have GE214:=Aside0.mk ((Hd.g_ hg Hd.b_ : w.heap.size ≤ gb214));replace HB:=Aside0.mk (below_step Hd.b_ hb);have NB212_214:=Aside0.mk ((Hd.lt_ BK212 hg));have NB214_212:=Aside0.mk ((Hd.gt_ BK212 hg));replace BK212:=Aside0.mk (Hd.kb_ BK212 hb);clear hb hbox hg;have hnb14:=NB214_212.out;have hnc14:=NB212_214.out;obtain ⟨hcz15_0,hcz15_1,hcz15_2,hcz15_3⟩:=Hd.c4_ BK214.out;obtain ⟨hfz15_0,hfz15_1,hfz15_2,hfz15_3⟩:=Hd.f4_ BK214.out;obtain ⟨hcz16_0,hcz16_1,hcz16_2,hcz16_3⟩:=Hd.c4_ BK212.out;obtain ⟨hfz16_0,hfz16_1,hfz16_2,hfz16_3⟩:=Hd.f4_ BK212.out) | ((with_reducible refine gate_callee (f:=73) rfl ?_);refine goesL_ (some 25) rfl rfl Try.func73 (by kernel_rfl) rfl #[.agg #[.int .i64 ((rd_T100 l0 x12_1).f0.f0),.int .i64 ((rd_T100 l0 x12_1).f0.f1),.int .i64 ((rd_T100 l0 x12_1).f1.f0),.int .i64 ((rd_T100 l0 x12_1).f1.f1)],.agg #[.int .i64 ((rd_T100 l1 x18_2).f0.f0),.int .i64 ((rd_T100 l1 x18_2).f0.f1),.int .i64 ((rd_T100 l1 x18_2).f1.f0),.int .i64 ((rd_T100 l1 x18_2).f1.f1)]] rfl Hd.m_ ?_;(with_reducible refine (impl_HowMeet.calls k2 ((rd_T100 l0 x12_1).f0.f0) ((rd_T100 l0 x12_1).f0.f1) ((rd_T100 l0 x12_1).f1.f0) ((rd_T100 l0 x12_1).f1.f1) ((rd_T100 l1 x18_2).f0.f0) ((rd_T100 l1 x18_2).f0.f1) ((rd_T100 l1 x18_2).f1.f0) ((rd_T100 l1 x18_2).f1.f1) t215 _ A11.out).mono ?_);rintro e w17 ⟨rfl,hb⟩;refine ⟨_,rfl,?_⟩;replace BK212:=Aside0.mk (blk_below (g:=gb212) (o:=.cells #[.int .i64 ((rd_T100 l0 x12_1).f0.f0),.int .i64 ((rd_T100 l0 x12_1).f0.f1),.int .i64 ((rd_T100 l0 x12_1).f1.f0),.int .i64 ((rd_T100 l0 x12_1).f1.f1)] 100 (0,0)) (by (with_reducible repeat (first | refine blk_drewN ?_ _ | refine blk_drew ?_ | refine blk_alloc ?_ _));refine blk_far ?_ NB212_214.out _;(with_reducible repeat (first | refine blk_drewN ?_ _ | refine blk_drew ?_ | refine blk_alloc ?_ _));refine blk_far ?_ NB212_214.out _;(with_reducible repeat (first | refine blk_drewN ?_ _ | refine blk_drew ?_ | refine blk_alloc ?_ _));refine blk_far ?_ NB212_214.out _;(with_reducible repeat (first | refine blk_drewN ?_ _ | refine blk_drew ?_ | refine blk_alloc ?_ _));refine blk_far ?_ NB212_214.out _;(with_reducible repeat (first | refine blk_drewN ?_ _ | refine blk_drew ?_ | refine blk_alloc ?_ _));exact BK212.out) hb);replace BK214:=Aside0.mk (blk_below (g:=gb214) (o:=.cells #[.int .i64 ((rd_T100 l1 x18_2).f0.f0),.int .i64 ((rd_T100 l1 x18_2).f0.f1),.int .i64 ((rd_T100 l1 x18_2).f1.f0),.int .i64 ((rd_T100 l1 x18_2).f1.f1)] 100 (0,0)) (by (with_reducible repeat (first | refine blk_drewN ?_ _ | refine blk_drew ?_ | refine blk_alloc ?_ _));refine blk_put (cs:=#[.int .i64 ((rd_T100 l1 x18_2).f0.f0),.int .i64 ((rd_T100 l1 x18_2).f0.f1),.int .i64 ((rd_T100 l1 x18_2).f1.f0),.int .i64 0]) ?_ 3 _ rfl;(with_reducible repeat (first | refine blk_drewN ?_ _ | refine blk_drew ?_ | refine blk_alloc ?_ _));refine blk_put (cs:=#[.int .i64 ((rd_T100 l1 x18_2).f0.f0),.int .i64 ((rd_T100 l1 x18_2).f0.f1),.int .i64 0,.int .i64 0]) ?_ 2 _ rfl;(with_reducible repeat (first | refine blk_drewN ?_ _ | refine blk_drew ?_ | refine blk_alloc ?_ _));refine blk_put (cs:=#[.int .i64 ((rd_T100 l1 x18_2).f0.f0),.int .i64 0,.int .i64 0,.int .i64 0]) ?_ 1 _ rfl;(with_reducible repeat (first | refine blk_drewN ?_ _ | refine blk_drew ?_ | refine blk_alloc ?_ _));refine blk_put (cs:=#[.int .i64 0,.int .i64 0,.int .i64 0,.int .i64 0]) ?_ 0 _ rfl;(with_reducible repeat (first | refine blk_drewN ?_ _ | refine blk_drew ?_ | refine blk_alloc ?_ _));exact BK214.out) hb);replace HB:=Aside0.mk (below_step Hd.b_ hb);(try clear hb);(try clear hb2);(try clear hk);(try clear hi)))
           go_roundg k2
           case measure => have:=HK1.out;have:=HK2.out;omega
           case rel => exact ⟨(ji12),(wrap64 (x18_2 + 1)),(by first | rfl | (simp;done) | (simp only [← hji12] <;> (first | rfl | simp)) | (simp [*];done)),(by first | rfl | (simp;done) | (simp [*];done)),H',⟨by have:=HK1.out;have:=HK2.out;omega⟩,⟨by (with_reducible repeat (first | refine blk_drewN ?_ _ | refine blk_drew ?_ | refine blk_alloc ?_ _));exact BK212.out⟩,⟨Hd.b_⟩⟩
          ·
           rw [if_neg c10] at H
           exact absurd H (by simp)
         ·
          rw [if_neg c9] at H
          exact absurd H (by simp)
        ·
         rw [if_neg c8] at H
         have c8b0 : decide (x18_2 < (l1.length : Int)) = false:=decide_eq_false c8
         clear c8
         have H':=Aside0.mk H
         clear H
         go_wp2
         go_roundg k2
         case measure => have:=HK1.out;have:=HK2.out;omega
         case rel => exact ⟨(x5_2),(wrap64 (x12_1 + 1)),(by first | rfl | (simp;done) | (simp [*];done)),(by first | rfl | (simp;done) | (simp [*];done)),H',⟨by have:=HK1.out;have:=HK2.out;omega⟩,⟨Hd.b_⟩⟩
     ·
      rw [if_neg c5] at H
      exact absurd H (by simp)
    ·
     rw [if_neg c4] at H
     exact absurd H (by simp)
   ·
    rw [if_neg c3] at H
    have c3b0 : decide (x12_1 < (l0.length : Int)) = false:=decide_eq_false c3
    clear c3
    obtain rfl:=Option.some.inj H
    go_wp2
    go_ret
    exact ⟨Hd.e_,Hd.b_⟩
def impl_IsName.l0 : Nat → ByteArray → Int → Int → Option (Bool)
 | 0,_,_,_ => none
 | k + 1,x0,x5,x6 => if x6 < x5 then (if 0 ≤ x6 then (if x6 < (x0.size : Int) then (if (bt x0 x6) < 97 then (some false) else (if (bt x0 x6) > 122 then (some false) else (impl_IsName.l0 k x0 x5 (wrap64 (x6 + 1))))) else (none)) else (none)) else ((impl_InRange.f (x0.size : Int) 1 8).bind fun t216 => (some t216))
def impl_IsName.f (k : Nat) (a0 : ByteArray) : Option (Bool):=impl_IsName.l0 k a0 (a0.size : Int) 0
set_option maxHeartbeats 8000000 in
set_option maxRecDepth 100000 in
theorem impl_IsName.calls (k : Nat) (a0 : ByteArray) (r : Bool) (w : World) (h : impl_IsName.f k a0 = some r) :
  Calls Try.prog 77 #[.string a0] w fun e w' => e = .returned (.bool r) ∧ Drawn0 w w':=by
 have H : (impl_IsName.l0 k a0 (a0.size : Int) 0) = some r:=h
 clear h
 have H':=Aside0.mk H
 clear H
 go_enter Try.func77,Try.ntmps77
 go_wp2
 go_loopg [6] k (fun kq v6 w' => ∃ (x6_1 : Int),v6 = .int .i64 x6_1 ∧ Aside0 (impl_IsName.l0 kq a0 (a0.size : Int) x6_1 = some r) ∧ Aside0 (kq ≤ k) ∧ Drawn0 w w')
 case atStart => exact ⟨(0),(by first | rfl | (simp;done) | (simp [*];done)),H',⟨Nat.le_refl _⟩,by repeat (first | exact Drawn0.refl _ | apply Drawn0.step)⟩
 case round =>
  clear H'
  obtain ⟨x6_1,rfl,HA,HK1,⟨m1,rfl⟩⟩:=hrel
  cases gk with
  | zero => exact absurd HA.out (by simp [impl_IsName.l0])
  | succ k1 =>
   have H:=HA.out
   clear HA
   simp only [impl_IsName.l0] at H
   by_cases c2 : x6_1 < (a0.size : Int)
   ·
    rw [if_pos c2] at H
    have c2b0 : decide (x6_1 < (a0.size : Int)) = true:=decide_eq_true c2
    clear c2
    by_cases c3 : 0 ≤ x6_1
    ·
     rw [if_pos c3] at H
     have c3b0 : decide (0 ≤ x6_1) = true:=decide_eq_true c3
     clear c3
     by_cases c4 : x6_1 < (a0.size : Int)
     ·
      rw [if_pos c4] at H
      have c4b0 : decide (x6_1 < (a0.size : Int)) = true:=decide_eq_true c4
      clear c4
      by_cases c6 : (bt a0 x6_1) < 97
      ·
       rw [if_pos c6] at H
       have c6b0 : decide ((bt a0 x6_1) < 97) = true:=decide_eq_true c6
       clear c6
       obtain rfl:=Option.some.inj H
       have p5 : 0 ≤ (x6_1 : Int):=of_decide_eq_true Hd.a_
       have q5 : x6_1 < (a0.size : Int):=of_decide_eq_true Hd.a_
       have hx5:=bt_at a0 x6_1
       replace p5:=eq_true p5
       replace q5:=eq_true q5
       go_wp2
       go_ret
       exact ⟨by first | rfl | (simp;done) | (simp [*];done),by repeat (first | exact Drawn0.refl _ | apply Drawn0.step)⟩
      ·
       rw [if_neg c6] at H
       have c6b0 : decide ((bt a0 x6_1) < 97) = false:=decide_eq_false c6
       clear c6
       by_cases c8 : (bt a0 x6_1) > 122
       ·
        rw [if_pos c8] at H
        have c8b0 : decide (122 < (bt a0 x6_1)) = true:=decide_eq_true c8
        clear c8
        obtain rfl:=Option.some.inj H
        have p5 : 0 ≤ (x6_1 : Int):=of_decide_eq_true Hd.a_
        have q5 : x6_1 < (a0.size : Int):=of_decide_eq_true Hd.a_
        have hx5:=bt_at a0 x6_1
        replace p5:=eq_true p5
        replace q5:=eq_true q5
        have p7 : 0 ≤ (x6_1 : Int):=of_decide_eq_true Hd.a_
        have q7 : x6_1 < (a0.size : Int):=of_decide_eq_true Hd.a_
        have hx7:=bt_at a0 x6_1
        replace p7:=eq_true p7
        replace q7:=eq_true q7
        go_wp2
        go_ret
        exact ⟨by first | rfl | (simp;done) | (simp [*];done),by repeat (first | exact Drawn0.refl _ | apply Drawn0.step)⟩
       ·
        rw [if_neg c8] at H
        have c8b0 : decide (122 < (bt a0 x6_1)) = false:=decide_eq_false c8
        clear c8
        have H':=Aside0.mk H
        clear H
        have p5 : 0 ≤ (x6_1 : Int):=of_decide_eq_true Hd.a_
        have q5 : x6_1 < (a0.size : Int):=of_decide_eq_true Hd.a_
        have hx5:=bt_at a0 x6_1
        replace p5:=eq_true p5
        replace q5:=eq_true q5
        have p7 : 0 ≤ (x6_1 : Int):=of_decide_eq_true Hd.a_
        have q7 : x6_1 < (a0.size : Int):=of_decide_eq_true Hd.a_
        have hx7:=bt_at a0 x6_1
        replace p7:=eq_true p7
        replace q7:=eq_true q7
        go_wp2
        go_roundg k1
        case measure => have:=HK1.out;omega
        case rel => exact ⟨(wrap64 (x6_1 + 1)),(by first | rfl | (simp;done) | (simp [*];done)),H',⟨by have:=HK1.out;omega⟩,by repeat (first | exact Drawn0.refl _ | apply Drawn0.step)⟩
     ·
      rw [if_neg c4] at H
      exact absurd H (by simp)
    ·
     rw [if_neg c3] at H
     exact absurd H (by simp)
   ·
    rw [if_neg c2] at H
    have c2b0 : decide (x6_1 < (a0.size : Int)) = false:=decide_eq_false c2
    clear c2
    replace H:=Option.bind_eq_some_iff.mp H
    obtain ⟨t216,A90,H⟩:=H
    replace H : (some t216) = some r:=H
    have A9:=Aside0.mk A90
    clear A90
    obtain rfl:=Option.some.inj H
    go_wp2_with (first | ((with_reducible refine gate_callee (f:=76) rfl ?_);refine goesL_ (some 22) rfl rfl Try.func76 (by kernel_rfl) rfl #[.int .i64 (a0.size : Int),.int .i64 1,.int .i64 8] rfl Hd.m_ ?_;(with_reducible refine (impl_InRange.calls (a0.size : Int) 1 8 t216 _ A9.out).mono ?_);rintro e w' ⟨rfl,⟨nd,rfl⟩⟩;refine ⟨_,rfl,?_⟩))
    go_ret
    exact ⟨by first | rfl | (simp;done) | (simp [*];done),by repeat (first | exact Drawn0.refl _ | apply Drawn0.step)⟩
mutual
def impl_IsLine.j0 : Nat → List (S63) → Bool → Option (Bool)
 | 0,_,_ => none
 | k + 1,x0,x12 => if x12 = true then (some false) else (impl_IsLine.l0 k x0 x0 (x0.length : Int) 0)
def impl_IsLine.l0 : Nat → List (S63) → List (S63) → Int → Int → Option (Bool)
 | 0,_,_,_,_ => none
 | k + 1,x0,x13,x14,x15 => if x15 < x14 then (if 0 ≤ x15 then (if x15 < (x13.length : Int) then ((impl_IsPoint.f ((rd_T63 x13 x15).f0) ((rd_T63 x13 x15).f1)).bind fun t219 => (if t219 = true then (if x15 > 0 then (if 0 ≤ (wrap64 (x15 - 1)) then (if (wrap64 (x15 - 1)) < (x0.length : Int) then (if (((rd_T63 x13 x15).f0) == ((rd_T63 x0 (wrap64 (x15 - 1))).f0) && (((rd_T63 x13 x15).f1) == ((rd_T63 x0 (wrap64 (x15 - 1))).f1))) = true then (some false) else (impl_IsLine.l0 k x0 x13 x14 (wrap64 (x15 + 1)))) else (none)) else (none)) else (impl_IsLine.l0 k x0 x13 x14 (wrap64 (x15 + 1)))) else (some false))) else (none)) else (none)) else (some true)
end
def impl_IsLine.f (k : Nat) (l0 : List (S63)) : Option (Bool):=if (l0.length : Int) < 2 then (impl_IsLine.j0 k l0 true) else (impl_IsLine.j0 k l0 (decide ((l0.length : Int) > 10)))
set_option maxHeartbeats 8000000 in
set_option maxRecDepth 100000 in
theorem impl_IsLine.calls (k : Nat) (A0 : Option Addr) (c0 : Nat) (l0 : List (S63)) (r : Bool) (w : World) (hr0 : Kd.C k63 w A0 l0.length l0) (hc0 : l0.length ≤ c0) (h : impl_IsLine.f k l0 = some r) :
  Calls Try.prog 110 #[.slice A0 l0.length c0] w fun e w' => e = .returned (.bool r) ∧ Below w.heap.size w w':=by
 have hu63:=Try.underlying63
 have HR0:=Aside0.mk hr0
 have HC0:=Aside0.mk hc0
 clear hr0 hc0
 have HB:=Aside0.mk (Below.refl w.heap.size w)
 have H : (if (l0.length : Int) < 2 then (impl_IsLine.j0 k l0 true) else (impl_IsLine.j0 k l0 (decide ((l0.length : Int) > 10)))) = some r:=h
 clear h
 have HC2:=Aside0.mk H
 clear H
 go_enter Try.func110,Try.ntmps110
 go_upto_region 1 with (fail)
 go_cut [12] (fun v12 wc => ∃ (kq : Nat) (x12_1 : Bool),v12 = .bool x12_1 ∧ Aside0 (impl_IsLine.j0 kq l0 x12_1 = some r) ∧ Aside0 (kq ≤ k) ∧ Aside0 (Below w.heap.size w wc))
 case first =>
  have H:=HC2.out
  clear HC2
  by_cases c3 : (l0.length : Int) < 2
  ·
   rw [if_pos c3] at H
   have c3b0 : decide ((l0.length : Int) < 2) = true:=decide_eq_true c3
   have c3b1 : decide (l0.length < 2) = true:=decide_eq_true (by omega)
   clear c3
   (first | rw [c3b0] | (simp only [i64_w,i32_w];rw [c3b0]) | skip)
   have H':=Aside0.mk H
   clear H
   go_wp2
   go_meet
   case rel => exact ⟨_,(true),(by first | rfl | (simp;done) | (simp [*];done)),H',⟨by first | omega | exact Nat.le_refl _⟩,⟨Hd.b_⟩⟩
  ·
   rw [if_neg c3] at H
   have c3b0 : decide ((l0.length : Int) < 2) = false:=decide_eq_false c3
   have c3b1 : decide (l0.length < 2) = false:=decide_eq_false (by omega)
   clear c3
   (first | rw [c3b0] | (simp only [i64_w,i32_w];rw [c3b0]) | skip)
   have H':=Aside0.mk H
   clear H
   go_wp2
   go_meet
   case rel => exact ⟨_,(decide ((l0.length : Int) > 10)),(by first | rfl | (simp;done) | (simp [*];done)),H',⟨by first | omega | exact Nat.le_refl _⟩,⟨Hd.b_⟩⟩
 case rest =>
  clear HC2
  try clear c1
  try clear p2
  try clear c3
  try clear c3b0
  try clear c3b1
  obtain ⟨kq,x12_1,rfl,HA,HJ1,HB⟩:=hcut
  cases kq with
  | zero => exact absurd HA.out (by simp [impl_IsLine.j0])
  | succ kj1 =>
   have H:=HA.out
   clear HA
   simp only [impl_IsLine.j0] at H
   by_cases c4 : x12_1 = true
   ·
    subst c4
    have H1 : (some false) = some r:=by rw [if_pos rfl] at H;exact H
    clear H
    have H:=H1
    clear H1
    obtain rfl:=Option.some.inj H
    go_wp2
    go_ret
    exact ⟨Hd.e_,Hd.b_⟩
   ·
    replace c4:=Bool.eq_false_iff.mpr c4
    subst c4
    have H1 : (impl_IsLine.l0 kj1 l0 l0 (l0.length : Int) 0) = some r:=by rw [if_neg (show ¬ (false = true) by decide)] at H;exact H
    clear H
    have H:=H1
    clear H1
    have H':=Aside0.mk H
    clear H
    go_wp2
    go_loopg [15] kj1 (fun kq v15 w' => ∃ (x15_2 : Int),v15 = .int .i64 x15_2 ∧ Aside0 (impl_IsLine.l0 kq l0 l0 (l0.length : Int) x15_2 = some r) ∧ Aside0 (kq ≤ kj1) ∧ Aside0 (Below w.heap.size w w'))
    case atStart => exact ⟨(0),(by first | rfl | (simp;done) | (simp [*];done)),H',⟨Nat.le_refl _⟩,⟨Hd.b_⟩⟩
    case round =>
     clear H'
     try clear c1
     try clear p2
     try clear c3
     try clear c3b0
     try clear c3b1
     try clear c4
     try clear p2
     obtain ⟨x15_2,rfl,HA,HK2,HB⟩:=hrel
     cases gk with
     | zero => exact absurd HA.out (by simp [impl_IsLine.l0])
     | succ k2 =>
      have H:=HA.out
      clear HA
      simp only [impl_IsLine.l0] at H
      by_cases c5 : x15_2 < (l0.length : Int)
      ·
       rw [if_pos c5] at H
       have c5b0 : decide (x15_2 < (l0.length : Int)) = true:=decide_eq_true c5
       clear c5
       by_cases c6 : 0 ≤ x15_2
       ·
        rw [if_pos c6] at H
        have c6b0 : decide (0 ≤ x15_2) = true:=decide_eq_true c6
        clear c6
        by_cases c7 : x15_2 < (l0.length : Int)
        ·
         rw [if_pos c7] at H
         have c7b0 : decide (x15_2 < (l0.length : Int)) = true:=decide_eq_true c7
         clear c7
         replace H:=Option.bind_eq_some_iff.mp H
         obtain ⟨t219,A80,H⟩:=H
         replace H : (if t219 = true then (if x15_2 > 0 then (if 0 ≤ (wrap64 (x15_2 - 1)) then (if (wrap64 (x15_2 - 1)) < (l0.length : Int) then (if (((rd_T63 l0 x15_2).f0) == ((rd_T63 l0 (wrap64 (x15_2 - 1))).f0) && (((rd_T63 l0 x15_2).f1) == ((rd_T63 l0 (wrap64 (x15_2 - 1))).f1))) = true then (some false) else (impl_IsLine.l0 k2 l0 l0 (l0.length : Int) (wrap64 (x15_2 + 1)))) else (none)) else (none)) else (impl_IsLine.l0 k2 l0 l0 (l0.length : Int) (wrap64 (x15_2 + 1)))) else (some false)) = some r:=H
         have A8:=Aside0.mk A80
         clear A80
         by_cases c9 : t219 = true
         ·
          subst c9
          have H1 : (if x15_2 > 0 then (if 0 ≤ (wrap64 (x15_2 - 1)) then (if (wrap64 (x15_2 - 1)) < (l0.length : Int) then (if (((rd_T63 l0 x15_2).f0) == ((rd_T63 l0 (wrap64 (x15_2 - 1))).f0) && (((rd_T63 l0 x15_2).f1) == ((rd_T63 l0 (wrap64 (x15_2 - 1))).f1))) = true then (some false) else (impl_IsLine.l0 k2 l0 l0 (l0.length : Int) (wrap64 (x15_2 + 1)))) else (none)) else (none)) else (impl_IsLine.l0 k2 l0 l0 (l0.length : Int) (wrap64 (x15_2 + 1)))) = some r:=by rw [if_pos rfl] at H;exact H
          clear H
          have H:=H1
          clear H1
          by_cases c10 : x15_2 > 0
          ·
           rw [if_pos c10] at H
           have c10b0 : decide (0 < x15_2) = true:=decide_eq_true c10
           clear c10
           obtain ⟨ji11,hji11⟩ : ∃ j_ : Int,(wrap64 (x15_2 - 1)) = j_:=⟨_,rfl⟩
           replace H : (if 0 ≤ (ji11) then (if (ji11) < (l0.length : Int) then (if (((rd_T63 l0 x15_2).f0) == ((rd_T63 l0 (ji11)).f0) && (((rd_T63 l0 x15_2).f1) == ((rd_T63 l0 (ji11)).f1))) = true then (some false) else (impl_IsLine.l0 k2 l0 l0 (l0.length : Int) (wrap64 (x15_2 + 1)))) else (none)) else (none)) = some r:=by first | (rw [hji11] at H;exact H) | (simp only [hji11] at H ⊢;exact H)
           (try rw [hji11] at A8)
           have hji11w : (IntKind.i64.wrap (x15_2 - 1)) = ji11:=(i64_w _).trans hji11
           by_cases c12 : 0 ≤ (ji11)
           ·
            rw [if_pos c12] at H
            have c12b0 : decide (0 ≤ (ji11)) = true:=decide_eq_true c12
            clear c12
            by_cases c13 : (ji11) < (l0.length : Int)
            ·
             rw [if_pos c13] at H
             have c13b0 : decide ((ji11) < (l0.length : Int)) = true:=decide_eq_true c13
             clear c13
             by_cases c14 : (((rd_T63 l0 x15_2).f0) == ((rd_T63 l0 (ji11)).f0) && (((rd_T63 l0 x15_2).f1) == ((rd_T63 l0 (ji11)).f1))) = true
             ·
              rw [if_pos c14] at H
              have c14b0 : (((rd_T63 l0 x15_2).f0) == ((rd_T63 l0 (ji11)).f0) && (((rd_T63 l0 x15_2).f1) == ((rd_T63 l0 (ji11)).f1))) = true:=c14
              (try (have c14b1 : decide (((rd_T63 l0 x15_2).f0) = ((rd_T63 l0 (ji11)).f0) && (((rd_T63 l0 x15_2).f1) == ((rd_T63 l0 (ji11)).f1))) = true:=by simpa using c14))
              (try (have c14b2 : (((rd_T63 l0 x15_2).f0) == ((rd_T63 l0 (ji11)).f0) && (((rd_T63 l0 x15_2).f1) == ((rd_T63 l0 (ji11)).f1))) = true:=by simpa using c14))
              clear c14
              obtain rfl:=Option.some.inj H
              have p217 : 0 ≤ (x15_2 : Int):=of_decide_eq_true Hd.a_
              have q217 : x15_2 < (l0.length : Int):=of_decide_eq_true Hd.a_
              obtain ⟨ad217,e217,hx217_0,hx217_1⟩:=at_T63 HR0.out x15_2 p217 q217
              cases e217
              replace hx217_0:=(HB.out.cell (World.block_lt_of_cell? w _ hx217_0)).trans hx217_0
              replace hx217_1:=(HB.out.cell (World.block_lt_of_cell? w _ hx217_1)).trans hx217_1
              replace p217:=eq_true p217
              replace q217:=eq_true q217
              try go_wp2_with (first | ((with_reducible refine gate_dst (N:=4) rfl ?_);(try (refine gate_guard (by rfl) ?_;dsimp only));refine Hd.box_ 4 (#[.int .i64 0,.int .i64 0]) 63 ?_;intro gb218 hg w15 hbox hb;have BK218:=Aside0.mk (hbox);have GW218:=Aside0.mk ((Hd.g_ hg Hd.b_ : w.heap.size ≤ gb218));have GE218:=Aside0.mk ((Hd.g_ hg Hd.b_ : w.heap.size ≤ gb218));replace HB:=Aside0.mk (below_step Hd.b_ hb);clear hb hbox hg;obtain ⟨hcz16_0,hcz16_1⟩:=Hd.c2_ BK218.out;obtain ⟨hfz16_0,hfz16_1⟩:=Hd.f2_ BK218.out))
              have n0_ : Aside0 (((w15.setCell ⟨gb218,0,none⟩ (.int .i64 ((rd_T63 l0 x15_2).f0))).setCell ⟨gb218,1,none⟩ (.int .i64 ((rd_T63 l0 x15_2).f1))).heap[gb218]? = some (.cells #[.int .i64 ((rd_T63 l0 x15_2).f0),.int .i64 ((rd_T63 l0 x15_2).f1)] 63 (0,0))):=⟨by (with_reducible repeat (first | refine blk_drewN ?_ _ | refine blk_drew ?_ | refine blk_alloc ?_ _));refine blk_put (cs:=#[.int .i64 ((rd_T63 l0 x15_2).f0),.int .i64 0]) ?_ 1 _ rfl;(with_reducible repeat (first | refine blk_drewN ?_ _ | refine blk_drew ?_ | refine blk_alloc ?_ _));refine blk_put (cs:=#[.int .i64 0,.int .i64 0]) ?_ 0 _ rfl;(with_reducible repeat (first | refine blk_drewN ?_ _ | refine blk_drew ?_ | refine blk_alloc ?_ _));exact BK218.out⟩
              have n1_ : Aside0 (Below w.heap.size w ((w15.setCell ⟨gb218,0,none⟩ (.int .i64 ((rd_T63 l0 x15_2).f0))).setCell ⟨gb218,1,none⟩ (.int .i64 ((rd_T63 l0 x15_2).f1)))):=⟨Hd.b_⟩
              (try clear BK218)
              (try clear HB)
              generalize ((w15.setCell ⟨gb218,0,none⟩ (.int .i64 ((rd_T63 l0 x15_2).f0))).setCell ⟨gb218,1,none⟩ (.int .i64 ((rd_T63 l0 x15_2).f1))) = w17 at n0_ n1_ ⊢
              have BK218:=n0_
              have HB:=n1_
              clear n0_ n1_
              replace BK218:=Aside0.mk (blk_drew BK218.out)
              replace HB:=Aside0.mk (below_drew1 HB.out)
              have p220 : 0 ≤ ((ji11) : Int):=of_decide_eq_true Hd.a_
              have q220 : (ji11) < (l0.length : Int):=of_decide_eq_true Hd.a_
              obtain ⟨ad220,e220,hx220_0,hx220_1⟩:=at_T63 HR0.out (ji11) p220 q220
              have hw220_1:=hx220_1
              have hw220_0:=hx220_0
              obtain rfl : ad217 = ad220:=(by injection e220)
              replace hx220_0:=(HB.out.cell (World.block_lt_of_cell? w _ hx220_0)).trans hx220_0
              replace hx220_1:=(HB.out.cell (World.block_lt_of_cell? w _ hx220_1)).trans hx220_1
              replace p220:=eq_true p220
              replace q220:=eq_true q220
              obtain ⟨s0_,s1_⟩:=Hd.HW.k2 (W0:=w17.drew) BK218
              have s2_:=Hd.HW.x (W0:=w17.drew) ((HB.out.cell (World.block_lt_of_cell? w _ hw220_0)).trans hw220_0)
              have s3_:=Hd.HW.x (W0:=w17.drew) ((HB.out.cell (World.block_lt_of_cell? w _ hw220_1)).trans hw220_1)
              refine Hd.HW.region (by kernel_rfl) (by kernel_rfl) ?_
              repeat (go_big_quiet_step ((first | (go_at_call 78;with_reducible exact Hd.HW.c (impl_IsPoint.calls ((rd_T63 l0 x15_2).f0) ((rd_T63 l0 x15_2).f1) true _ A8.out)))))
              refine wpQuiet_nil ?_
              intro _ hq_
              obtain ⟨q_,rfl⟩:=hq_
              clear s0_ s1_ s2_ s3_
              replace BK218:=Aside0.mk (blk_below BK218.out q_.b)
              replace HB:=Aside0.mk (below_step HB.out q_.b)
              replace hx220_0:=q_.cell hx220_0
              replace hx220_1:=q_.cell hx220_1
              generalize q_.W = w19 at BK218 HB hx220_0 hx220_1 ⊢
              try simp only [i64_w,i32_w]
              try go_wp2
              go_ret
              exact ⟨by first | rfl | (simp [errW_none,errW_some] <;> rfl) | (simp only [← hji11];first | rfl | (simp [errW_none,errW_some] <;> rfl)) | (simp [*,errW_none,errW_some] <;> rfl),Hd.b_⟩
             ·
              rw [if_neg c14] at H
              have c14b0 : (((rd_T63 l0 x15_2).f0) == ((rd_T63 l0 (ji11)).f0) && (((rd_T63 l0 x15_2).f1) == ((rd_T63 l0 (ji11)).f1))) = false:=by simpa using c14
              (try (have c14b1 : decide (((rd_T63 l0 x15_2).f0) = ((rd_T63 l0 (ji11)).f0) && (((rd_T63 l0 x15_2).f1) == ((rd_T63 l0 (ji11)).f1))) = false:=by simpa using c14))
              (try (have c14b2 : (((rd_T63 l0 x15_2).f0) == ((rd_T63 l0 (ji11)).f0) && (((rd_T63 l0 x15_2).f1) == ((rd_T63 l0 (ji11)).f1))) = false:=by simpa using c14))
              (try (have c14b3 : ¬ (((rd_T63 l0 x15_2).f0) = ((rd_T63 l0 (ji11)).f0) && (((rd_T63 l0 x15_2).f1) == ((rd_T63 l0 (ji11)).f1))):=by simpa using c14))
              clear c14
              have H':=Aside0.mk H
              clear H
              have p217 : 0 ≤ (x15_2 : Int):=of_decide_eq_true Hd.a_
              have q217 : x15_2 < (l0.length : Int):=of_decide_eq_true Hd.a_
              obtain ⟨ad217,e217,hx217_0,hx217_1⟩:=at_T63 HR0.out x15_2 p217 q217
              cases e217
              replace hx217_0:=(HB.out.cell (World.block_lt_of_cell? w _ hx217_0)).trans hx217_0
              replace hx217_1:=(HB.out.cell (World.block_lt_of_cell? w _ hx217_1)).trans hx217_1
              replace p217:=eq_true p217
              replace q217:=eq_true q217
              try go_wp2_with (first | ((with_reducible refine gate_dst (N:=4) rfl ?_);(try (refine gate_guard (by rfl) ?_;dsimp only));refine Hd.box_ 4 (#[.int .i64 0,.int .i64 0]) 63 ?_;intro gb218 hg w20 hbox hb;have BK218:=Aside0.mk (hbox);have GW218:=Aside0.mk ((Hd.g_ hg Hd.b_ : w.heap.size ≤ gb218));have GE218:=Aside0.mk ((Hd.g_ hg Hd.b_ : w.heap.size ≤ gb218));replace HB:=Aside0.mk (below_step Hd.b_ hb);clear hb hbox hg;obtain ⟨hcz21_0,hcz21_1⟩:=Hd.c2_ BK218.out;obtain ⟨hfz21_0,hfz21_1⟩:=Hd.f2_ BK218.out))
              have n0_ : Aside0 (((w20.setCell ⟨gb218,0,none⟩ (.int .i64 ((rd_T63 l0 x15_2).f0))).setCell ⟨gb218,1,none⟩ (.int .i64 ((rd_T63 l0 x15_2).f1))).heap[gb218]? = some (.cells #[.int .i64 ((rd_T63 l0 x15_2).f0),.int .i64 ((rd_T63 l0 x15_2).f1)] 63 (0,0))):=⟨by (with_reducible repeat (first | refine blk_drewN ?_ _ | refine blk_drew ?_ | refine blk_alloc ?_ _));refine blk_put (cs:=#[.int .i64 ((rd_T63 l0 x15_2).f0),.int .i64 0]) ?_ 1 _ rfl;(with_reducible repeat (first | refine blk_drewN ?_ _ | refine blk_drew ?_ | refine blk_alloc ?_ _));refine blk_put (cs:=#[.int .i64 0,.int .i64 0]) ?_ 0 _ rfl;(with_reducible repeat (first | refine blk_drewN ?_ _ | refine blk_drew ?_ | refine blk_alloc ?_ _));exact BK218.out⟩
              have n1_ : Aside0 (Below w.heap.size w ((w20.setCell ⟨gb218,0,none⟩ (.int .i64 ((rd_T63 l0 x15_2).f0))).setCell ⟨gb218,1,none⟩ (.int .i64 ((rd_T63 l0 x15_2).f1)))):=⟨Hd.b_⟩
              (try clear BK218)
              (try clear HB)
              generalize ((w20.setCell ⟨gb218,0,none⟩ (.int .i64 ((rd_T63 l0 x15_2).f0))).setCell ⟨gb218,1,none⟩ (.int .i64 ((rd_T63 l0 x15_2).f1))) = w22 at n0_ n1_ ⊢
              have BK218:=n0_
              have HB:=n1_
              clear n0_ n1_
              replace BK218:=Aside0.mk (blk_drew BK218.out)
              replace HB:=Aside0.mk (below_drew1 HB.out)
              have p220 : 0 ≤ ((ji11) : Int):=of_decide_eq_true Hd.a_
              have q220 : (ji11) < (l0.length : Int):=of_decide_eq_true Hd.a_
              obtain ⟨ad220,e220,hx220_0,hx220_1⟩:=at_T63 HR0.out (ji11) p220 q220
              have hw220_1:=hx220_1
              have hw220_0:=hx220_0
              obtain rfl : ad217 = ad220:=(by injection e220)
              replace hx220_0:=(HB.out.cell (World.block_lt_of_cell? w _ hx220_0)).trans hx220_0
              replace hx220_1:=(HB.out.cell (World.block_lt_of_cell? w _ hx220_1)).trans hx220_1
              replace p220:=eq_true p220
              replace q220:=eq_true q220
              obtain ⟨s0_,s1_⟩:=Hd.HW.k2 (W0:=w22.drew) BK218
              have s2_:=Hd.HW.x (W0:=w22.drew) ((HB.out.cell (World.block_lt_of_cell? w _ hw220_0)).trans hw220_0)
              have s3_:=Hd.HW.x (W0:=w22.drew) ((HB.out.cell (World.block_lt_of_cell? w _ hw220_1)).trans hw220_1)
              refine Hd.HW.region (by kernel_rfl) (by kernel_rfl) ?_
              repeat (go_big_quiet_step ((first | (go_at_call 78;with_reducible exact Hd.HW.c (impl_IsPoint.calls ((rd_T63 l0 x15_2).f0) ((rd_T63 l0 x15_2).f1) true _ A8.out)))))
              refine wpQuiet_nil ?_
              intro _ hq_
              obtain ⟨q_,rfl⟩:=hq_
              clear s0_ s1_ s2_ s3_
              replace BK218:=Aside0.mk (blk_below BK218.out q_.b)
              replace HB:=Aside0.mk (below_step HB.out q_.b)
              replace hx220_0:=q_.cell hx220_0
              replace hx220_1:=q_.cell hx220_1
              generalize q_.W = w24 at BK218 HB hx220_0 hx220_1 ⊢
              try simp only [i64_w,i32_w]
              try go_wp2
              go_roundg k2
              case measure => have:=HJ1.out;have:=HK2.out;omega
              case rel => exact ⟨(wrap64 (x15_2 + 1)),(by first | rfl | (simp;done) | (simp [*];done)),H',⟨by have:=HJ1.out;have:=HK2.out;omega⟩,⟨Hd.b_⟩⟩
            ·
             rw [if_neg c13] at H
             exact absurd H (by simp)
           ·
            rw [if_neg c12] at H
            exact absurd H (by simp)
          ·
           rw [if_neg c10] at H
           have c10b0 : decide (0 < x15_2) = false:=decide_eq_false c10
           clear c10
           have H':=Aside0.mk H
           clear H
           have p217 : 0 ≤ (x15_2 : Int):=of_decide_eq_true Hd.a_
           have q217 : x15_2 < (l0.length : Int):=of_decide_eq_true Hd.a_
           obtain ⟨ad217,e217,hx217_0,hx217_1⟩:=at_T63 HR0.out x15_2 p217 q217
           cases e217
           replace hx217_0:=(HB.out.cell (World.block_lt_of_cell? w _ hx217_0)).trans hx217_0
           replace hx217_1:=(HB.out.cell (World.block_lt_of_cell? w _ hx217_1)).trans hx217_1
           replace p217:=eq_true p217
           replace q217:=eq_true q217
           try go_wp2_with (first | ((with_reducible refine gate_dst (N:=4) rfl ?_);(try (refine gate_guard (by rfl) ?_;dsimp only));refine Hd.box_ 4 (#[.int .i64 0,.int .i64 0]) 63 ?_;intro gb218 hg w25 hbox hb;have BK218:=Aside0.mk (hbox);have GW218:=Aside0.mk ((Hd.g_ hg Hd.b_ : w.heap.size ≤ gb218));have GE218:=Aside0.mk ((Hd.g_ hg Hd.b_ : w.heap.size ≤ gb218));replace HB:=Aside0.mk (below_step Hd.b_ hb);clear hb hbox hg;obtain ⟨hcz26_0,hcz26_1⟩:=Hd.c2_ BK218.out;obtain ⟨hfz26_0,hfz26_1⟩:=Hd.f2_ BK218.out))
           have n0_ : Aside0 (((w25.setCell ⟨gb218,0,none⟩ (.int .i64 ((rd_T63 l0 x15_2).f0))).setCell ⟨gb218,1,none⟩ (.int .i64 ((rd_T63 l0 x15_2).f1))).heap[gb218]? = some (.cells #[.int .i64 ((rd_T63 l0 x15_2).f0),.int .i64 ((rd_T63 l0 x15_2).f1)] 63 (0,0))):=⟨by (with_reducible repeat (first | refine blk_drewN ?_ _ | refine blk_drew ?_ | refine blk_alloc ?_ _));refine blk_put (cs:=#[.int .i64 ((rd_T63 l0 x15_2).f0),.int .i64 0]) ?_ 1 _ rfl;(with_reducible repeat (first | refine blk_drewN ?_ _ | refine blk_drew ?_ | refine blk_alloc ?_ _));refine blk_put (cs:=#[.int .i64 0,.int .i64 0]) ?_ 0 _ rfl;(with_reducible repeat (first | refine blk_drewN ?_ _ | refine blk_drew ?_ | refine blk_alloc ?_ _));exact BK218.out⟩
           have n1_ : Aside0 (Below w.heap.size w ((w25.setCell ⟨gb218,0,none⟩ (.int .i64 ((rd_T63 l0 x15_2).f0))).setCell ⟨gb218,1,none⟩ (.int .i64 ((rd_T63 l0 x15_2).f1)))):=⟨Hd.b_⟩
           (try clear BK218)
           (try clear HB)
           generalize ((w25.setCell ⟨gb218,0,none⟩ (.int .i64 ((rd_T63 l0 x15_2).f0))).setCell ⟨gb218,1,none⟩ (.int .i64 ((rd_T63 l0 x15_2).f1))) = w27 at n0_ n1_ ⊢
           have BK218:=n0_
           have HB:=n1_
           clear n0_ n1_
           replace BK218:=Aside0.mk (blk_drew BK218.out)
           replace HB:=Aside0.mk (below_drew1 HB.out)
           obtain ⟨s0_,s1_⟩:=Hd.HW.k2 (W0:=w27.drew) BK218
           refine Hd.HW.region (by kernel_rfl) (by kernel_rfl) ?_
           repeat (go_big_quiet_step ((first | (go_at_call 78;with_reducible exact Hd.HW.c (impl_IsPoint.calls ((rd_T63 l0 x15_2).f0) ((rd_T63 l0 x15_2).f1) true _ A8.out)))))
           refine wpQuiet_nil ?_
           intro _ hq_
           obtain ⟨q_,rfl⟩:=hq_
           clear s0_ s1_
           replace BK218:=Aside0.mk (blk_below BK218.out q_.b)
           replace HB:=Aside0.mk (below_step HB.out q_.b)
           generalize q_.W = w29 at BK218 HB ⊢
           try simp only [i64_w,i32_w]
           try go_wp2
           go_roundg k2
           case measure => have:=HJ1.out;have:=HK2.out;omega
           case rel => exact ⟨(wrap64 (x15_2 + 1)),(by first | rfl | (simp;done) | (simp [*];done)),H',⟨by have:=HJ1.out;have:=HK2.out;omega⟩,⟨Hd.b_⟩⟩
         ·
          replace c9:=Bool.eq_false_iff.mpr c9
          subst c9
          have H1 : (some false) = some r:=by rw [if_neg (show ¬ (false = true) by decide)] at H;exact H
          clear H
          have H:=H1
          clear H1
          obtain rfl:=Option.some.inj H
          have p217 : 0 ≤ (x15_2 : Int):=of_decide_eq_true Hd.a_
          have q217 : x15_2 < (l0.length : Int):=of_decide_eq_true Hd.a_
          obtain ⟨ad217,e217,hx217_0,hx217_1⟩:=at_T63 HR0.out x15_2 p217 q217
          cases e217
          replace hx217_0:=(HB.out.cell (World.block_lt_of_cell? w _ hx217_0)).trans hx217_0
          replace hx217_1:=(HB.out.cell (World.block_lt_of_cell? w _ hx217_1)).trans hx217_1
          replace p217:=eq_true p217
          replace q217:=eq_true q217
          try go_wp2_with (first | ((with_reducible refine gate_dst (N:=4) rfl ?_);(try (refine gate_guard (by rfl) ?_;dsimp only));refine Hd.box_ 4 (#[.int .i64 0,.int .i64 0]) 63 ?_;intro gb218 hg w30 hbox hb;have BK218:=Aside0.mk (hbox);have GW218:=Aside0.mk ((Hd.g_ hg Hd.b_ : w.heap.size ≤ gb218));have GE218:=Aside0.mk ((Hd.g_ hg Hd.b_ : w.heap.size ≤ gb218));replace HB:=Aside0.mk (below_step Hd.b_ hb);clear hb hbox hg;obtain ⟨hcz31_0,hcz31_1⟩:=Hd.c2_ BK218.out;obtain ⟨hfz31_0,hfz31_1⟩:=Hd.f2_ BK218.out))
          have n0_ : Aside0 (((w30.setCell ⟨gb218,0,none⟩ (.int .i64 ((rd_T63 l0 x15_2).f0))).setCell ⟨gb218,1,none⟩ (.int .i64 ((rd_T63 l0 x15_2).f1))).heap[gb218]? = some (.cells #[.int .i64 ((rd_T63 l0 x15_2).f0),.int .i64 ((rd_T63 l0 x15_2).f1)] 63 (0,0))):=⟨by (with_reducible repeat (first | refine blk_drewN ?_ _ | refine blk_drew ?_ | refine blk_alloc ?_ _));refine blk_put (cs:=#[.int .i64 ((rd_T63 l0 x15_2).f0),.int .i64 0]) ?_ 1 _ rfl;(with_reducible repeat (first | refine blk_drewN ?_ _ | refine blk_drew ?_ | refine blk_alloc ?_ _));refine blk_put (cs:=#[.int .i64 0,.int .i64 0]) ?_ 0 _ rfl;(with_reducible repeat (first | refine blk_drewN ?_ _ | refine blk_drew ?_ | refine blk_alloc ?_ _));exact BK218.out⟩
          have n1_ : Aside0 (Below w.heap.size w ((w30.setCell ⟨gb218,0,none⟩ (.int .i64 ((rd_T63 l0 x15_2).f0))).setCell ⟨gb218,1,none⟩ (.int .i64 ((rd_T63 l0 x15_2).f1)))):=⟨Hd.b_⟩
          (try clear BK218)
          (try clear HB)
          generalize ((w30.setCell ⟨gb218,0,none⟩ (.int .i64 ((rd_T63 l0 x15_2).f0))).setCell ⟨gb218,1,none⟩ (.int .i64 ((rd_T63 l0 x15_2).f1))) = w32 at n0_ n1_ ⊢
          have BK218:=n0_
          have HB:=n1_
          clear n0_ n1_
          replace BK218:=Aside0.mk (blk_drew BK218.out)
          replace HB:=Aside0.mk (below_drew1 HB.out)
          obtain ⟨s0_,s1_⟩:=Hd.HW.k2 (W0:=w32.drew) BK218
          refine Hd.HW.region (by kernel_rfl) (by kernel_rfl) ?_
          repeat (go_big_quiet_step ((first | (go_at_call 78;with_reducible exact Hd.HW.c (impl_IsPoint.calls ((rd_T63 l0 x15_2).f0) ((rd_T63 l0 x15_2).f1) false _ A8.out)))))
          refine wpQuiet_nil ?_
          intro _ hq_
          obtain ⟨q_,rfl⟩:=hq_
          clear s0_ s1_
          replace BK218:=Aside0.mk (blk_below BK218.out q_.b)
          replace HB:=Aside0.mk (below_step HB.out q_.b)
          generalize q_.W = w34 at BK218 HB ⊢
          try simp only [i64_w,i32_w]
          try go_wp2
          go_ret
          exact ⟨Hd.e_,Hd.b_⟩
        ·
         rw [if_neg c7] at H
         exact absurd H (by simp)
       ·
        rw [if_neg c6] at H
        exact absurd H (by simp)
      ·
       rw [if_neg c5] at H
       have c5b0 : decide (x15_2 < (l0.length : Int)) = false:=decide_eq_false c5
       clear c5
       obtain rfl:=Option.some.inj H
       go_wp2
       go_ret
       exact ⟨Hd.e_,Hd.b_⟩
def impl_SegmentsOf.l0 : Nat → List (S63) → List (S100) → Int → Option ((List (S100)))
 | 0,_,_,_ => none
 | k + 1,x0,x3,x4 => if x4 < (x0.length : Int) then (if 0 ≤ (wrap64 (x4 - 1)) then (if (wrap64 (x4 - 1)) < (x0.length : Int) then (if 0 ≤ x4 then (if x3.length < 4398046511104 then (impl_SegmentsOf.l0 k x0 (x3 ++ [(⟨(⟨(rd_T63 x0 (wrap64 (x4 - 1))).f0,(rd_T63 x0 (wrap64 (x4 - 1))).f1⟩ : S63),(⟨(rd_T63 x0 x4).f0,(rd_T63 x0 x4).f1⟩ : S63)⟩ : S100)]) (wrap64 (x4 + 1))) else (none)) else (none)) else (none)) else (none)) else (some x3)
def impl_SegmentsOf.f (k : Nat) (l0 : List (S63)) : Option ((List (S100))):=(some (([] : List (S100)) : List (S100))).bind fun y221 => ((impl_IsLine.f k l0).bind fun t224 => (if t224 = true then (impl_SegmentsOf.l0 k l0 y221 1) else (some y221)))
def impl_SegmentsOf.T7 : Bool × List (List Nat × List Nat):=(true,[([],[]),([],[]),([],[]),([2],[2]),([1,3],[1,3]),([4],[4]),([],[]),([],[]),([6,7],[6,7]),([8],[8]),([5,9],[5,9]),([10],[10]),([0,11],[0,11]),([12,12,0,1,2,3,4,5,6,7,8,9,10,11,12],[0,12])])
def impl_SegmentsOf.B7 : List Nat:=[0,0,0,4,14,30,0,0,192,448,1022,2046,4095,8191]
theorem impl_SegmentsOf.tab7 : rtab .any (opsOf Try.f74 7) = impl_SegmentsOf.T7:=by kernel_rfl
theorem impl_SegmentsOf.bits7 : waitsOk impl_SegmentsOf.T7.2 impl_SegmentsOf.B7 = true:=by kernel_rfl
set_option maxHeartbeats 8000000 in
set_option maxRecDepth 100000 in
theorem impl_SegmentsOf.calls (k : Nat) (A0 : Option Addr) (c0 : Nat) (l0 : List (S63)) (r : List (S100)) (w : World) (hr0 : Kd.C k63 w A0 l0.length l0) (hc0 : l0.length ≤ c0) (h : impl_SegmentsOf.f k l0 = some r) :
  Calls Try.prog 74 #[.slice A0 l0.length c0] w fun e w' => ∃ v0_ : Value,e = .returned (v0_) ∧ Kd.R k100 100 w' w.heap.size (fun _ => True) v0_ r ∧ Below w.heap.size w w':=by
 have hu63:=Try.underlying63
 have hu100:=Try.underlying100
 have HR0:=Aside0.mk hr0
 have HC0:=Aside0.mk hc0
 clear hr0 hc0
 have HB:=Aside0.mk (Below.refl w.heap.size w)
 have H : ((some (([] : List (S100)) : List (S100))).bind fun y221 => ((impl_IsLine.f k l0).bind fun t224 => (if t224 = true then (impl_SegmentsOf.l0 k l0 y221 1) else (some y221)))) = some r:=h
 clear h
 obtain ⟨y221,hy221⟩ : ∃ y_ : List (S100),y_ = (([] : List (S100))):=⟨_,rfl⟩
 replace H : ((impl_IsLine.f k l0).bind fun t224 => (if t224 = true then (impl_SegmentsOf.l0 k l0 y221 1) else (some y221))) = some r:=by first | (rw [hy221];with_reducible exact H) | (have H2_:=(Option.bind_some _ _).symm.trans H;rw [hy221];with_reducible exact H2_) | (have H2_:=(Option.bind_some _ _).symm.trans H;with_reducible exact H2_) | with_reducible exact H | (rw [hy221];exact H) | exact H
 have Ny221:=Aside0.mk hy221
 clear hy221
 replace H:=Option.bind_eq_some_iff.mp H
 obtain ⟨t224,A20,H⟩:=H
 replace H : (if t224 = true then (impl_SegmentsOf.l0 k l0 y221 1) else (some y221)) = some r:=H
 have A2:=Aside0.mk A20
 clear A20
 by_cases c3 : t224 = true
 ·
  subst c3
  have H1 : (impl_SegmentsOf.l0 k l0 y221 1) = some r:=by rw [if_pos rfl] at H;exact H
  clear H
  have H:=H1
  clear H1
  have H':=Aside0.mk H
  clear H
  go_enter Try.func74,Try.ntmps74
  go_wp2_with (first | ((with_reducible refine gate_dst (N:=5) rfl ?_);refine Kd.R_lit k100 _ 100 ?hg (N:=5) ?hd (xs:=([] : List (S100))) (inner:=[]) (ok:=fun _ => True) (okp:=fun _ => True) ?hr ?hp (fun _ hk => hk) trivial (Below.refl _ _) (Nat.le_refl _) (by simp) ?_;(case hd => rfl);(case hg => rfl);(case hr => first | (go_simp;done) | (go_simp;rfl));(case hp => exact (Reps.none _ _));intro v222 w4 ho5 hb hg_ hnew_;clear hg_ hnew_;(first | rw [← Ny221.out] at ho5 | (simp only [Int.reduceToNat] at ho5;rw [← Ny221.out] at ho5));have HO223:=Aside0.mk (Kd.R_lower ho5 (below_size Hd.b_));replace HB:=Aside0.mk (below_step Hd.b_ hb);clear hb ho5) | ((with_reducible refine gate_callee (f:=110) rfl ?_);refine goesL_ (some 7) rfl rfl Try.func110 (by kernel_rfl) rfl #[.slice A0 l0.length c0] rfl Hd.m_ ?_;(with_reducible refine (impl_IsLine.calls k _ _ l0 true _ ?side1 ?side2 A2.out).mono ?_);(case side1 => repeat (first | exact (Kd.C_below HR0.out HB.out) | (with_reducible refine Kd.C_alloc ?_ _) | (with_reducible refine Kd.C_drewN ?_ _) | (with_reducible refine Kd.C_drew ?_)));(case side2 => exact HC0.out);rintro e w6 ⟨rfl,hb⟩;refine ⟨_,rfl,?_⟩;replace HO223:=Aside0.mk (Kd.R_below (Hd.r_ HO223) hb);replace HB:=Aside0.mk (below_step Hd.b_ hb);(try clear hb);(try clear hb2);(try clear hk);(try clear hi)))
  go_loopg [3,4] k (fun kq v3 v4 w' => ∃ (x3_1 : List (S100)) (x4_1 : Int),v4 = .int .i64 x4_1 ∧ Aside0 (impl_SegmentsOf.l0 kq l0 x3_1 x4_1 = some r) ∧ Aside0 (kq ≤ k) ∧ Aside0 (Kd.R k100 100 w' w.heap.size (fun _ => True) v3 x3_1) ∧ Aside0 (Below w.heap.size w w'))
  case atStart => exact ⟨(y221),(1),(by first | rfl | (simp;done) | (simp [*];done)),H',⟨Nat.le_refl _⟩,⟨by (with_reducible repeat (first | apply Kd.R_alloc | apply Kd.R_drewN | apply Kd.R_drew));exact HO223.out⟩,⟨Hd.b_⟩⟩
  case round =>
   clear H'
   try clear c1
   try clear p2
   try clear c3
   obtain ⟨x3_1,x4_1,rfl,HA,HK1,HO_3,HB⟩:=hrel
   cases gk with
   | zero => exact absurd HA.out (by simp [impl_SegmentsOf.l0])
   | succ k1 =>
    have H:=HA.out
    clear HA
    simp only [impl_SegmentsOf.l0] at H
    by_cases c7 : x4_1 < (l0.length : Int)
    ·
     rw [if_pos c7] at H
     have c7b0 : decide (x4_1 < (l0.length : Int)) = true:=decide_eq_true c7
     clear c7
     obtain ⟨ji8,hji8⟩ : ∃ j_ : Int,(wrap64 (x4_1 - 1)) = j_:=⟨_,rfl⟩
     replace H : (if 0 ≤ (ji8) then (if (ji8) < (l0.length : Int) then (if 0 ≤ x4_1 then (if x3_1.length < 4398046511104 then (impl_SegmentsOf.l0 k1 l0 (x3_1 ++ [(⟨(⟨(rd_T63 l0 (ji8)).f0,(rd_T63 l0 (ji8)).f1⟩ : S63),(⟨(rd_T63 l0 x4_1).f0,(rd_T63 l0 x4_1).f1⟩ : S63)⟩ : S100)]) (wrap64 (x4_1 + 1))) else (none)) else (none)) else (none)) else (none)) = some r:=by first | (rw [hji8] at H;exact H) | (simp only [hji8] at H ⊢;exact H)
     have hji8w : (IntKind.i64.wrap (x4_1 - 1)) = ji8:=(i64_w _).trans hji8
     by_cases c9 : 0 ≤ (ji8)
     ·
      rw [if_pos c9] at H
      have c9b0 : decide (0 ≤ (ji8)) = true:=decide_eq_true c9
      clear c9
      by_cases c10 : (ji8) < (l0.length : Int)
      ·
       rw [if_pos c10] at H
       have c10b0 : decide ((ji8) < (l0.length : Int)) = true:=decide_eq_true c10
       clear c10
       by_cases c11 : 0 ≤ x4_1
       ·
        rw [if_pos c11] at H
        have c11b0 : decide (0 ≤ x4_1) = true:=decide_eq_true c11
        clear c11
        by_cases c12 : x3_1.length < 4398046511104
        ·
         rw [if_pos c12] at H
         have LMc12:=Aside0.mk c12
         clear c12
         obtain ⟨y227,hy227⟩ : ∃ y_ : List (S100),y_ = (x3_1 ++ [(⟨(⟨(rd_T63 l0 (ji8)).f0,(rd_T63 l0 (ji8)).f1⟩ : S63),(⟨(rd_T63 l0 x4_1).f0,(rd_T63 l0 x4_1).f1⟩ : S63)⟩ : S100)]):=⟨_,rfl⟩
         replace H : (impl_SegmentsOf.l0 k1 l0 y227 (wrap64 (x4_1 + 1))) = some r:=by first | (rw [hy227];with_reducible exact H) | (have H2_:=(Option.bind_some _ _).symm.trans H;rw [hy227];with_reducible exact H2_) | (have H2_:=(Option.bind_some _ _).symm.trans H;with_reducible exact H2_) | with_reducible exact H | (rw [hy227];exact H) | exact H
         have Ny227:=Aside0.mk hy227
         clear hy227
         have H':=Aside0.mk H
         clear H
         try go_wp2
         replace HO_3:=Aside0.mk (Kd.R_drew HO_3.out)
         replace HB:=Aside0.mk (below_drew1 HB.out)
         have p225 : 0 ≤ ((ji8) : Int):=of_decide_eq_true Hd.a_
         have q225 : (ji8) < (l0.length : Int):=of_decide_eq_true Hd.a_
         obtain ⟨ad225,e225,hx225_0,hx225_1⟩:=at_T63 HR0.out (ji8) p225 q225
         have hw225_1:=hx225_1
         have hw225_0:=hx225_0
         cases e225
         replace hx225_0:=(HB.out.cell (World.block_lt_of_cell? w _ hx225_0)).trans hx225_0
         replace hx225_1:=(HB.out.cell (World.block_lt_of_cell? w _ hx225_1)).trans hx225_1
         replace p225:=eq_true p225
         replace q225:=eq_true q225
         have p226 : 0 ≤ (x4_1 : Int):=of_decide_eq_true Hd.a_
         have q226 : x4_1 < (l0.length : Int):=of_decide_eq_true Hd.a_
         obtain ⟨ad226,e226,hx226_0,hx226_1⟩:=at_T63 HR0.out x4_1 p226 q226
         have hw226_1:=hx226_1
         have hw226_0:=hx226_0
         obtain rfl : ad225 = ad226:=(by injection e226)
         replace hx226_0:=(HB.out.cell (World.block_lt_of_cell? w _ hx226_0)).trans hx226_0
         replace hx226_1:=(HB.out.cell (World.block_lt_of_cell? w _ hx226_1)).trans hx226_1
         replace p226:=eq_true p226
         replace q226:=eq_true q226
         refine start_ (n:=14) (S:=fun w' => w'.cell? (ad225.add (((ji8)).toNat * 2)) = some (.int .i64 ((rd_T63 l0 (ji8)).f0)) ∧ w'.cell? ⟨(ad225.add (((ji8)).toNat * 2)).block,(ad225.add (((ji8)).toNat * 2)).off + 1,none⟩ = some (.int .i64 ((rd_T63 l0 (ji8)).f1)) ∧ w'.cell? (ad225.add ((x4_1).toNat * 2)) = some (.int .i64 ((rd_T63 l0 x4_1).f0)) ∧ w'.cell? ⟨(ad225.add ((x4_1).toNat * 2)).block,(ad225.add ((x4_1).toNat * 2)).off + 1,none⟩ = some (.int .i64 ((rd_T63 l0 x4_1).f1))) (ds:=[]) #[false,false,false,false,false,false,false,false,false,false,false,false,false,false] (by kernel_rfl) rfl rfl ⟨((HB.out.cell (World.block_lt_of_cell? w _ hw225_0)).trans hw225_0),((HB.out.cell (World.block_lt_of_cell? w _ hw225_1)).trans hw225_1),((HB.out.cell (World.block_lt_of_cell? w _ hw226_0)).trans hw226_0),((HB.out.cell (World.block_lt_of_cell? w _ hw226_1)).trans hw226_1)⟩ (fun hHeld => ?_);refine with_tabW impl_SegmentsOf.tab7 impl_SegmentsOf.bits7 (fun HT_ HW_ => ?_)
         generalize wr.drew = w13 at HO_3 HB hx225_0 hx225_1 hx226_0 hx226_1 hHeld ⊢
         refine Hd.p_ HT_ 0 (some 16) #[true,false,false,false,false,false,false,false,false,false,false,false,false,false] ?_
         refine Hd.p_ HT_ 1 (some 17) #[true,true,false,false,false,false,false,false,false,false,false,false,false,false] ?_
         refine Hd.p_ HT_ 2 (some 18) #[true,true,true,false,false,false,false,false,false,false,false,false,false,false] ?_
         refine Hd.p_ HT_ 3 (some 19) #[true,true,true,true,false,false,false,false,false,false,false,false,false,false] ?_
         refine Hd.p_ HT_ 4 (some 20) #[true,true,true,true,true,false,false,false,false,false,false,false,false,false] ?_
         refine Hd.p_ HT_ 6 (some 22) #[true,true,true,true,true,false,true,false,false,false,false,false,false,false] ?_
         refine Hd.p_ HT_ 7 (some 23) #[true,true,true,true,true,false,true,true,false,false,false,false,false,false] ?_
         refine Hd.p_ HT_ 8 (some 24) #[true,true,true,true,true,false,true,true,true,false,false,false,false,false] ?_
         refine Hd.t_ HT_ HW_ hHeld 5 (some 21) #[true,true,true,true,true,true,true,true,true,false,false,false,false,false] ?_
         refine Hd.t_ HT_ HW_ hHeld 9 (some 25) #[true,true,true,true,true,true,true,true,true,true,false,false,false,false] ?_
         refine Hd.p_ HT_ 10 (some 26) #[true,true,true,true,true,true,true,true,true,true,true,false,false,false] ?_
         refine Hd.o_ HT_ 11 (some 27) #[true,true,true,true,true,true,true,true,true,true,true,true,false,false] (fun K hK => ?_)
         refine value_ (w1:=?_) (v:=?_) (by rfl) rfl ?_ ?_
         rotate_left 2
         ·
          go_simp
          constructor
          ·
           rfl
          ·
           rfl
         refine hK.out _ _ ⟨(World.cell?_alloc_lt _ _ _ (World.block_lt_of_cell? _ _ (((HB.out.cell (World.block_lt_of_cell? w _ hw225_0)).trans hw225_0)))).trans (((HB.out.cell (World.block_lt_of_cell? w _ hw225_0)).trans hw225_0)),(World.cell?_alloc_lt _ _ _ (World.block_lt_of_cell? _ _ (((HB.out.cell (World.block_lt_of_cell? w _ hw225_1)).trans hw225_1)))).trans (((HB.out.cell (World.block_lt_of_cell? w _ hw225_1)).trans hw225_1)),(World.cell?_alloc_lt _ _ _ (World.block_lt_of_cell? _ _ (((HB.out.cell (World.block_lt_of_cell? w _ hw226_0)).trans hw226_0)))).trans (((HB.out.cell (World.block_lt_of_cell? w _ hw226_0)).trans hw226_0)),(World.cell?_alloc_lt _ _ _ (World.block_lt_of_cell? _ _ (((HB.out.cell (World.block_lt_of_cell? w _ hw226_1)).trans hw226_1)))).trans (((HB.out.cell (World.block_lt_of_cell? w _ hw226_1)).trans hw226_1))⟩ (fun hHeld => ?_)
         clear hK K
         refine Hd.n_ (some 27) ?_
         refine Hd.o_ HT_ 12 (some 28) #[true,true,true,true,true,true,true,true,true,true,true,true,true,false] (fun K hK => ?_)
         refine Kd.R_append_step k100 (w0:=w) w.heap.size (by rfl) (.tmp 16) (.tmp 27) 75 100 (.agg #[(.int .i64 0),(.int .i64 0),(.int .i64 0),(.int .i64 0)]) 32 rfl Try.underlying75 info100 rfl (by decide) (by omega) u3 x3_1 (⟨(⟨(rd_T63 l0 (ji8)).f0,(rd_T63 l0 (ji8)).f1⟩ : S63),(⟨(rd_T63 l0 x4_1).f0,(rd_T63 l0 x4_1).f1⟩ : S63)⟩ : S100) [.int .i64 ((rd_T63 l0 (ji8)).f0),.int .i64 ((rd_T63 l0 (ji8)).f1),.int .i64 ((rd_T63 l0 x4_1).f0),.int .i64 ((rd_T63 l0 x4_1).f1)] (fun _ => True) (fun _ => False) rfl rfl ?aP (fun _ hk => hk.elim) ?aF ?aO ?aB ?aS ?aL ?_
         (case aP => exact k100_mkM _ _ _ (⟨(⟨(rd_T63 l0 (ji8)).f0,(rd_T63 l0 (ji8)).f1⟩ : S63),(⟨(rd_T63 l0 x4_1).f0,(rd_T63 l0 x4_1).f1⟩ : S63)⟩ : S100))
         (case aB => exact Hd.b_)
         (case aF => exact (fun _ _ => trivial))
         (case aO => exact (Hd.r_ HO_3))
         (case aS => exact (below_size Hd.b_))
         (case aL => have:=LMc12.out;omega)
         intro v228 w14 ho hb hg hat
         rw [← Ny227.out] at ho
         have n0_:=Aside0.mk (hb)
         have n1_:=Aside0.mk (ho)
         clear HB
         clear HO_3
         have HB:=n0_
         have HO229:=n1_
         clear n0_ n1_
         clear ho hb hg hat
         refine hK.out _ _ ⟨((HB.out.cell (World.block_lt_of_cell? w _ hw225_0)).trans hw225_0),((HB.out.cell (World.block_lt_of_cell? w _ hw225_1)).trans hw225_1),((HB.out.cell (World.block_lt_of_cell? w _ hw226_0)).trans hw226_0),((HB.out.cell (World.block_lt_of_cell? w _ hw226_1)).trans hw226_1)⟩ (fun hHeld => ?_)
         clear hK K
         refine Hd.n_ (some 28) ?_
         refine Hd.p_ HT_ 13 (some 3) #[true,true,true,true,true,true,true,true,true,true,true,true,true,true] ?_
         refine done_ (done_of HT_.out (by kernel_rfl)) ?_
         try go_wp2
         go_roundg k1
         case measure => have:=HK1.out;omega
         case rel => exact ⟨(y227),(wrap64 (x4_1 + 1)),(by first | rfl | (simp;done) | (simp [*];done)),H',⟨by have:=HK1.out;omega⟩,⟨by (with_reducible repeat (first | apply Kd.R_alloc | apply Kd.R_drewN | apply Kd.R_drew));exact HO229.out⟩,⟨Hd.b_⟩⟩
        ·
         rw [if_neg c12] at H
         exact absurd H (by simp)
       ·
        rw [if_neg c11] at H
        exact absurd H (by simp)
      ·
       rw [if_neg c10] at H
       exact absurd H (by simp)
     ·
      rw [if_neg c9] at H
      exact absurd H (by simp)
    ·
     rw [if_neg c7] at H
     have c7b0 : decide (x4_1 < (l0.length : Int)) = false:=decide_eq_false c7
     clear c7
     obtain rfl:=Option.some.inj H
     go_wp2
     go_ret
     exact ⟨_,Hd.e_,by (with_reducible repeat (first | apply Kd.R_alloc | apply Kd.R_drewN | apply Kd.R_drew));exact HO_3.out,Hd.b_⟩
 ·
  replace c3:=Bool.eq_false_iff.mpr c3
  subst c3
  have H1 : (some y221) = some r:=by rw [if_neg (show ¬ (false = true) by decide)] at H;exact H
  clear H
  have H:=H1
  clear H1
  obtain rfl:=Option.some.inj H
  go_enter Try.func74,Try.ntmps74
  go_wp2_with (first | ((with_reducible refine gate_dst (N:=5) rfl ?_);refine Kd.R_lit k100 _ 100 ?hg (N:=5) ?hd (xs:=([] : List (S100))) (inner:=[]) (ok:=fun _ => True) (okp:=fun _ => True) ?hr ?hp (fun _ hk => hk) trivial (Below.refl _ _) (Nat.le_refl _) (by simp) ?_;(case hd => rfl);(case hg => rfl);(case hr => first | (go_simp;done) | (go_simp;rfl));(case hp => exact (Reps.none _ _));intro v222 w15 ho16 hb hg_ hnew_;clear hg_ hnew_;(first | rw [← Ny221.out] at ho16 | (simp only [Int.reduceToNat] at ho16;rw [← Ny221.out] at ho16));have HO223:=Aside0.mk (Kd.R_lower ho16 (below_size Hd.b_));replace HB:=Aside0.mk (below_step Hd.b_ hb);clear hb ho16) | ((with_reducible refine gate_callee (f:=110) rfl ?_);refine goesL_ (some 7) rfl rfl Try.func110 (by kernel_rfl) rfl #[.slice A0 l0.length c0] rfl Hd.m_ ?_;(with_reducible refine (impl_IsLine.calls k _ _ l0 false _ ?side1 ?side2 A2.out).mono ?_);(case side1 => repeat (first | exact (Kd.C_below HR0.out HB.out) | (with_reducible refine Kd.C_alloc ?_ _) | (with_reducible refine Kd.C_drewN ?_ _) | (with_reducible refine Kd.C_drew ?_)));(case side2 => exact HC0.out);rintro e w17 ⟨rfl,hb⟩;refine ⟨_,rfl,?_⟩;replace HO223:=Aside0.mk (Kd.R_below (Hd.r_ HO223) hb);replace HB:=Aside0.mk (below_step Hd.b_ hb);(try clear hb);(try clear hb2);(try clear hk);(try clear hi)))
  go_ret
  exact ⟨_,Hd.e_,by (with_reducible repeat (first | apply Kd.R_alloc | apply Kd.R_drewN | apply Kd.R_drew));exact HO223.out,Hd.b_⟩
end Go.Proofs.Ytchmbcembbbplad.MFnExactMeetsOf
