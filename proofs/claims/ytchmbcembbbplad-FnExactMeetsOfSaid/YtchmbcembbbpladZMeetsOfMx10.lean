-- Laid by this session's program pp.py, after the kit's print and texts of the session's own. Not trusted: Lean checks it.
import Derived.Test.YtchmbcembbbpladZMeetsOfMx0
import Derived.Test.YtchmbcembbbpladZMeetsOfMx9
namespace Go.Proofs.Ytchmbcembbbplad.MFnExactMeetsOf
open Go.RowKit Go.Proofs.YtchmbcembbbpladW.PrintWords Go.Proofs.YtchmbcembbbpladW.PrintLast Go.Proofs.YtchmbcembbbpladW.PrintMore
attribute [local go_sem] max2_int min2_int max_two min_two max_three min_three max_four min_four   -- for this text's walks alone
set_option linter.unusedVariables false
set_option linter.unusedSimpArgs false
def impl_IsSource.l0 : Nat → List (S37) → List (S37) → Int → Int → Option (Bool)
 | 0,_,_,_,_ => none
 | k + 1,x0,x8,x9,x10 => if x10 < x9 then (if 0 ≤ x10 then (if x10 < (x8.length : Int) then ((impl_IsFeature.f k ((rd_T37 x8 x10).f0) ((rd_T37 x8 x10).f1) ((rd_T37 x8 x10).f2) ((rd_T37 x8 x10).f3) ((rd_T37 x8 x10).f4)).bind fun t300 => (if t300 = true then (if x10 > 0 then (if 0 ≤ (wrap64 (x10 - 1)) then (if (wrap64 (x10 - 1)) < (x0.length : Int) then (if ((rd_T37 x8 x10).f0) ≤ ((rd_T37 x0 (wrap64 (x10 - 1))).f0) then (some false) else (impl_IsSource.l0 k x0 x8 x9 (wrap64 (x10 + 1)))) else (none)) else (none)) else (impl_IsSource.l0 k x0 x8 x9 (wrap64 (x10 + 1)))) else (some false))) else (none)) else (none)) else (some true)
def impl_IsSource.f (k : Nat) (l0 : List (S37)) : Option (Bool):=if (l0.length : Int) > 16 then (some false) else (impl_IsSource.l0 k l0 l0 (l0.length : Int) 0)
def impl_IsSource.T6 : Bool × List (List Nat × List Nat):=(true,[([],[]),([0],[0]),([1],[1]),([2,1],[2]),([3],[3]),([4,3],[3,4]),([5,3,3],[3,5]),([6],[6]),([7,6],[6,7]),([6],[6]),([6],[6]),([10,6],[6,10]),([9,11,6],[6,9,11]),([12,6],[6,12]),([13,6],[6,13]),([8,14,6],[6,8,14]),([6,15,3],[3,6,15]),([3,16],[3,16])])
def impl_IsSource.B6 : List Nat:=[0,1,3,7,15,31,63,127,255,127,127,1151,3711,7807,15999,32767,65535,131071]
theorem impl_IsSource.tab6 : rtab .any (opsOf Try.f24 6) = impl_IsSource.T6:=by kernel_rfl
theorem impl_IsSource.bits6 : waitsOk impl_IsSource.T6.2 impl_IsSource.B6 = true:=by kernel_rfl
set_option maxHeartbeats 8000000 in
set_option maxRecDepth 100000 in
theorem impl_IsSource.calls (k : Nat) (A0 : Option Addr) (c0 : Nat) (l0 : List (S37)) (r : Bool) (w : World) (hr0 : Kd.C k37 w A0 l0.length l0) (hc0 : l0.length ≤ c0) (h : impl_IsSource.f k l0 = some r) :
  Calls Try.prog 24 #[.slice A0 l0.length c0] w fun e w' => e = .returned (.bool r) ∧ Below w.heap.size w w':=by
 have hu37:=Try.underlying37
 have HR0:=Aside0.mk hr0
 have HC0:=Aside0.mk hc0
 clear hr0 hc0
 have HB:=Aside0.mk (Below.refl w.heap.size w)
 have H : (if (l0.length : Int) > 16 then (some false) else (impl_IsSource.l0 k l0 l0 (l0.length : Int) 0)) = some r:=h
 clear h
 by_cases c2 : (l0.length : Int) > 16
 ·
  rw [if_pos c2] at H
  have c2b0 : decide (16 < (l0.length : Int)) = true:=decide_eq_true c2
  have c2b1 : decide (16 < l0.length) = true:=decide_eq_true (by omega)
  clear c2
  obtain rfl:=Option.some.inj H
  go_enter Try.func24,Try.ntmps24
  go_wp2
  go_ret
  exact ⟨Hd.e_,Hd.b_⟩
 ·
  rw [if_neg c2] at H
  have c2b0 : decide (16 < (l0.length : Int)) = false:=decide_eq_false c2
  have c2b1 : decide (16 < l0.length) = false:=decide_eq_false (by omega)
  clear c2
  have H':=Aside0.mk H
  clear H
  go_enter Try.func24,Try.ntmps24
  go_wp2
  go_loopg [10] k (fun kq v10 w' => ∃ (x10_1 : Int),v10 = .int .i64 x10_1 ∧ Aside0 (impl_IsSource.l0 kq l0 l0 (l0.length : Int) x10_1 = some r) ∧ Aside0 (kq ≤ k) ∧ Aside0 (Below w.heap.size w w'))
  case atStart => exact ⟨(0),(by first | rfl | (simp;done) | (simp [*];done)),H',⟨Nat.le_refl _⟩,⟨Hd.b_⟩⟩
  case round =>
   clear H'
   try clear c2
   try clear c2b0
   try clear c2b1
   try clear p2
   obtain ⟨x10_1,rfl,HA,HK1,HB⟩:=hrel
   cases gk with
   | zero => exact absurd HA.out (by simp [impl_IsSource.l0])
   | succ k1 =>
    have H:=HA.out
    clear HA
    simp only [impl_IsSource.l0] at H
    by_cases c3 : x10_1 < (l0.length : Int)
    ·
     rw [if_pos c3] at H
     have c3b0 : decide (x10_1 < (l0.length : Int)) = true:=decide_eq_true c3
     clear c3
     by_cases c4 : 0 ≤ x10_1
     ·
      rw [if_pos c4] at H
      have c4b0 : decide (0 ≤ x10_1) = true:=decide_eq_true c4
      clear c4
      by_cases c5 : x10_1 < (l0.length : Int)
      ·
       rw [if_pos c5] at H
       have c5b0 : decide (x10_1 < (l0.length : Int)) = true:=decide_eq_true c5
       clear c5
       replace H:=Option.bind_eq_some_iff.mp H
       obtain ⟨t300,A60,H⟩:=H
       replace H : (if t300 = true then (if x10_1 > 0 then (if 0 ≤ (wrap64 (x10_1 - 1)) then (if (wrap64 (x10_1 - 1)) < (l0.length : Int) then (if ((rd_T37 l0 x10_1).f0) ≤ ((rd_T37 l0 (wrap64 (x10_1 - 1))).f0) then (some false) else (impl_IsSource.l0 k1 l0 l0 (l0.length : Int) (wrap64 (x10_1 + 1)))) else (none)) else (none)) else (impl_IsSource.l0 k1 l0 l0 (l0.length : Int) (wrap64 (x10_1 + 1)))) else (some false)) = some r:=H
       have A6:=Aside0.mk A60
       clear A60
       by_cases c7 : t300 = true
       ·
        subst c7
        have H1 : (if x10_1 > 0 then (if 0 ≤ (wrap64 (x10_1 - 1)) then (if (wrap64 (x10_1 - 1)) < (l0.length : Int) then (if ((rd_T37 l0 x10_1).f0) ≤ ((rd_T37 l0 (wrap64 (x10_1 - 1))).f0) then (some false) else (impl_IsSource.l0 k1 l0 l0 (l0.length : Int) (wrap64 (x10_1 + 1)))) else (none)) else (none)) else (impl_IsSource.l0 k1 l0 l0 (l0.length : Int) (wrap64 (x10_1 + 1)))) = some r:=by rw [if_pos rfl] at H;exact H
        clear H
        have H:=H1
        clear H1
        by_cases c8 : x10_1 > 0
        ·
         rw [if_pos c8] at H
         have c8b0 : decide (0 < x10_1) = true:=decide_eq_true c8
         clear c8
         obtain ⟨ji9,hji9⟩ : ∃ j_ : Int,(wrap64 (x10_1 - 1)) = j_:=⟨_,rfl⟩
         replace H : (if 0 ≤ (ji9) then (if (ji9) < (l0.length : Int) then (if ((rd_T37 l0 x10_1).f0) ≤ ((rd_T37 l0 (ji9)).f0) then (some false) else (impl_IsSource.l0 k1 l0 l0 (l0.length : Int) (wrap64 (x10_1 + 1)))) else (none)) else (none)) = some r:=by first | (rw [hji9] at H;exact H) | (simp only [hji9] at H ⊢;exact H)
         (try rw [hji9] at A6)
         have hji9w : (IntKind.i64.wrap (x10_1 - 1)) = ji9:=(i64_w _).trans hji9
         by_cases c10 : 0 ≤ (ji9)
         ·
          rw [if_pos c10] at H
          have c10b0 : decide (0 ≤ (ji9)) = true:=decide_eq_true c10
          clear c10
          by_cases c11 : (ji9) < (l0.length : Int)
          ·
           rw [if_pos c11] at H
           have c11b0 : decide ((ji9) < (l0.length : Int)) = true:=decide_eq_true c11
           clear c11
           by_cases c12 : ((rd_T37 l0 x10_1).f0) ≤ ((rd_T37 l0 (ji9)).f0)
           ·
            rw [if_pos c12] at H
            have c12b0 : decide (((rd_T37 l0 x10_1).f0) ≤ ((rd_T37 l0 (ji9)).f0)) = true:=decide_eq_true c12
            clear c12
            obtain rfl:=Option.some.inj H
            have p298 : 0 ≤ (x10_1 : Int):=of_decide_eq_true Hd.a_
            have q298 : x10_1 < (l0.length : Int):=of_decide_eq_true Hd.a_
            obtain ⟨ad298,A298_4,c298_4,e298,hx298_0,hx298_1,hx298_2,hx298_3,hx298_4,hl298_4,hi298_4⟩:=at_T37 HR0.out x10_1 p298 q298
            cases e298
            replace hx298_0:=(HB.out.cell (World.block_lt_of_cell? w _ hx298_0)).trans hx298_0
            replace hx298_1:=(HB.out.cell (World.block_lt_of_cell? w _ hx298_1)).trans hx298_1
            replace hx298_2:=(HB.out.cell (World.block_lt_of_cell? w _ hx298_2)).trans hx298_2
            replace hx298_3:=(HB.out.cell (World.block_lt_of_cell? w _ hx298_3)).trans hx298_3
            replace hx298_4:=(HB.out.cell (World.block_lt_of_cell? w _ hx298_4)).trans hx298_4
            have HR298_4:=Aside0.mk hi298_4
            have HC298_4:=Aside0.mk hl298_4
            clear hi298_4 hl298_4
            replace p298:=eq_true p298
            replace q298:=eq_true q298
            try go_wp2_with (first | ((with_reducible refine gate_dst (N:=4) rfl ?_);refine Hd.box_ 4 (#[.int .i64 0,.int .i64 0,.int .i64 0,.string (⟨#[]⟩ : ByteArray),.slice none 0 0]) 37 ?_;intro gb299 hg w13 hbox hb;have BK299:=Aside0.mk (hbox);have GW299:=Aside0.mk ((Hd.g_ hg Hd.b_ : w.heap.size ≤ gb299));have GE299:=Aside0.mk ((Hd.g_ hg Hd.b_ : w.heap.size ≤ gb299));replace HB:=Aside0.mk (below_step Hd.b_ hb);clear hb hbox hg;obtain ⟨hcz14_0,hcz14_1,hcz14_2,hcz14_3,hcz14_4⟩:=Hd.c5_ BK299.out;obtain ⟨hfz14_0,hfz14_1,hfz14_2,hfz14_3,hfz14_4⟩:=Hd.f5_ BK299.out))
            have n0_ : Aside0 ((((((w13.setCell ⟨gb299,0,none⟩ (.int .i64 ((rd_T37 l0 x10_1).f0))).setCell ⟨gb299,1,none⟩ (.int .i64 ((rd_T37 l0 x10_1).f1))).setCell ⟨gb299,2,none⟩ (.int .i64 ((rd_T37 l0 x10_1).f2))).setCell ⟨gb299,3,none⟩ (.string ((rd_T37 l0 x10_1).f3))).setCell ⟨gb299,4,none⟩ (.slice A298_4 ((rd_T37 l0 x10_1).f4).length c298_4)).heap[gb299]? = some (.cells #[.int .i64 ((rd_T37 l0 x10_1).f0),.int .i64 ((rd_T37 l0 x10_1).f1),.int .i64 ((rd_T37 l0 x10_1).f2),.string ((rd_T37 l0 x10_1).f3),.slice A298_4 ((rd_T37 l0 x10_1).f4).length c298_4] 37 (0,0))):=⟨by (with_reducible repeat (first | refine blk_drewN ?_ _ | refine blk_drew ?_ | refine blk_alloc ?_ _));refine blk_put (cs:=#[.int .i64 ((rd_T37 l0 x10_1).f0),.int .i64 ((rd_T37 l0 x10_1).f1),.int .i64 ((rd_T37 l0 x10_1).f2),.string ((rd_T37 l0 x10_1).f3),.slice none 0 0]) ?_ 4 _ rfl;(with_reducible repeat (first | refine blk_drewN ?_ _ | refine blk_drew ?_ | refine blk_alloc ?_ _));refine blk_put (cs:=#[.int .i64 ((rd_T37 l0 x10_1).f0),.int .i64 ((rd_T37 l0 x10_1).f1),.int .i64 ((rd_T37 l0 x10_1).f2),.string (⟨#[]⟩ : ByteArray),.slice none 0 0]) ?_ 3 _ rfl;(with_reducible repeat (first | refine blk_drewN ?_ _ | refine blk_drew ?_ | refine blk_alloc ?_ _));refine blk_put (cs:=#[.int .i64 ((rd_T37 l0 x10_1).f0),.int .i64 ((rd_T37 l0 x10_1).f1),.int .i64 0,.string (⟨#[]⟩ : ByteArray),.slice none 0 0]) ?_ 2 _ rfl;(with_reducible repeat (first | refine blk_drewN ?_ _ | refine blk_drew ?_ | refine blk_alloc ?_ _));refine blk_put (cs:=#[.int .i64 ((rd_T37 l0 x10_1).f0),.int .i64 0,.int .i64 0,.string (⟨#[]⟩ : ByteArray),.slice none 0 0]) ?_ 1 _ rfl;(with_reducible repeat (first | refine blk_drewN ?_ _ | refine blk_drew ?_ | refine blk_alloc ?_ _));refine blk_put (cs:=#[.int .i64 0,.int .i64 0,.int .i64 0,.string (⟨#[]⟩ : ByteArray),.slice none 0 0]) ?_ 0 _ rfl;(with_reducible repeat (first | refine blk_drewN ?_ _ | refine blk_drew ?_ | refine blk_alloc ?_ _));exact BK299.out⟩
            have n1_ : Aside0 (Below w.heap.size w (((((w13.setCell ⟨gb299,0,none⟩ (.int .i64 ((rd_T37 l0 x10_1).f0))).setCell ⟨gb299,1,none⟩ (.int .i64 ((rd_T37 l0 x10_1).f1))).setCell ⟨gb299,2,none⟩ (.int .i64 ((rd_T37 l0 x10_1).f2))).setCell ⟨gb299,3,none⟩ (.string ((rd_T37 l0 x10_1).f3))).setCell ⟨gb299,4,none⟩ (.slice A298_4 ((rd_T37 l0 x10_1).f4).length c298_4))):=⟨Hd.b_⟩
            (try clear BK299)
            (try clear HB)
            generalize (((((w13.setCell ⟨gb299,0,none⟩ (.int .i64 ((rd_T37 l0 x10_1).f0))).setCell ⟨gb299,1,none⟩ (.int .i64 ((rd_T37 l0 x10_1).f1))).setCell ⟨gb299,2,none⟩ (.int .i64 ((rd_T37 l0 x10_1).f2))).setCell ⟨gb299,3,none⟩ (.string ((rd_T37 l0 x10_1).f3))).setCell ⟨gb299,4,none⟩ (.slice A298_4 ((rd_T37 l0 x10_1).f4).length c298_4)) = w15 at n0_ n1_ ⊢
            have BK299:=n0_
            have HB:=n1_
            clear n0_ n1_
            replace BK299:=Aside0.mk (blk_drew BK299.out)
            replace HB:=Aside0.mk (below_drew1 HB.out)
            have p301 : 0 ≤ ((ji9) : Int):=of_decide_eq_true Hd.a_
            have q301 : (ji9) < (l0.length : Int):=of_decide_eq_true Hd.a_
            obtain ⟨ad301,A301_4,c301_4,e301,hx301_0,hx301_1,hx301_2,hx301_3,hx301_4,hl301_4,hi301_4⟩:=at_T37 HR0.out (ji9) p301 q301
            have hw301_4:=hx301_4
            have hw301_3:=hx301_3
            have hw301_2:=hx301_2
            have hw301_1:=hx301_1
            have hw301_0:=hx301_0
            obtain rfl : ad298 = ad301:=(by injection e301)
            replace hx301_0:=(HB.out.cell (World.block_lt_of_cell? w _ hx301_0)).trans hx301_0
            replace hx301_1:=(HB.out.cell (World.block_lt_of_cell? w _ hx301_1)).trans hx301_1
            replace hx301_2:=(HB.out.cell (World.block_lt_of_cell? w _ hx301_2)).trans hx301_2
            replace hx301_3:=(HB.out.cell (World.block_lt_of_cell? w _ hx301_3)).trans hx301_3
            replace hx301_4:=(HB.out.cell (World.block_lt_of_cell? w _ hx301_4)).trans hx301_4
            have HR301_4:=Aside0.mk hi301_4
            have HC301_4:=Aside0.mk hl301_4
            clear hi301_4 hl301_4
            replace p301:=eq_true p301
            replace q301:=eq_true q301
            refine start_ (n:=18) (S:=fun w' => w'.cell? ⟨gb299,0,none⟩ = some (.int .i64 ((rd_T37 l0 x10_1).f0)) ∧ w'.cell? ⟨gb299,1,none⟩ = some (.int .i64 ((rd_T37 l0 x10_1).f1)) ∧ w'.cell? ⟨gb299,2,none⟩ = some (.int .i64 ((rd_T37 l0 x10_1).f2)) ∧ w'.cell? ⟨gb299,3,none⟩ = some (.string ((rd_T37 l0 x10_1).f3)) ∧ w'.cell? ⟨gb299,4,none⟩ = some (.slice A298_4 ((rd_T37 l0 x10_1).f4).length c298_4) ∧ w'.cell? (ad298.add (((ji9)).toNat * 5)) = some (.int .i64 ((rd_T37 l0 (ji9)).f0)) ∧ w'.cell? ⟨(ad298.add (((ji9)).toNat * 5)).block,(ad298.add (((ji9)).toNat * 5)).off + 1,none⟩ = some (.int .i64 ((rd_T37 l0 (ji9)).f1)) ∧ w'.cell? ⟨(ad298.add (((ji9)).toNat * 5)).block,(ad298.add (((ji9)).toNat * 5)).off + 2,none⟩ = some (.int .i64 ((rd_T37 l0 (ji9)).f2)) ∧ w'.cell? ⟨(ad298.add (((ji9)).toNat * 5)).block,(ad298.add (((ji9)).toNat * 5)).off + 3,none⟩ = some (.string ((rd_T37 l0 (ji9)).f3)) ∧ w'.cell? ⟨(ad298.add (((ji9)).toNat * 5)).block,(ad298.add (((ji9)).toNat * 5)).off + 4,none⟩ = some (.slice A301_4 ((rd_T37 l0 (ji9)).f4).length c301_4)) (ds:=[]) #[false,false,false,false,false,false,false,false,false,false,false,false,false,false,false,false,false,false] (by kernel_rfl) rfl rfl ⟨(blk_cell BK299.out 0).trans rfl,(blk_cell BK299.out 1).trans rfl,(blk_cell BK299.out 2).trans rfl,(blk_cell BK299.out 3).trans rfl,(blk_cell BK299.out 4).trans rfl,((HB.out.cell (World.block_lt_of_cell? w _ hw301_0)).trans hw301_0),((HB.out.cell (World.block_lt_of_cell? w _ hw301_1)).trans hw301_1),((HB.out.cell (World.block_lt_of_cell? w _ hw301_2)).trans hw301_2),((HB.out.cell (World.block_lt_of_cell? w _ hw301_3)).trans hw301_3),((HB.out.cell (World.block_lt_of_cell? w _ hw301_4)).trans hw301_4)⟩ (fun hHeld => ?_);refine with_tabW impl_IsSource.tab6 impl_IsSource.bits6 (fun HT_ HW_ => ?_)
            generalize w15.drew = w16 at BK299 HB HR301_4 hx301_0 hx301_1 hx301_2 hx301_3 hx301_4 hHeld ⊢
            refine Hd.t_ HT_ HW_ hHeld 0 (some 15) #[true,false,false,false,false,false,false,false,false,false,false,false,false,false,false,false,false,false] ?_
            refine Hd.o_ HT_ 1 (some 16) #[true,true,false,false,false,false,false,false,false,false,false,false,false,false,false,false,false,false] (fun K hK => ?_)
            refine goes_ Try.func51 (by kernel_rfl) rfl #[.agg #[.int .i64 ((rd_T37 l0 x10_1).f0),.int .i64 ((rd_T37 l0 x10_1).f1),.int .i64 ((rd_T37 l0 x10_1).f2),.string ((rd_T37 l0 x10_1).f3),.slice A298_4 ((rd_T37 l0 x10_1).f4).length c298_4]] (by rfl) rfl rfl Hd.m_ ?_
            with_reducible refine (impl_IsFeature.calls k1 ((rd_T37 l0 x10_1).f0) ((rd_T37 l0 x10_1).f1) ((rd_T37 l0 x10_1).f2) ((rd_T37 l0 x10_1).f3) _ _ ((rd_T37 l0 x10_1).f4) true _ ?side1 ?side2 A6.out).mono ?_
            (case side1 => repeat (first | exact (Kd.C_below HR298_4.out HB.out) | (with_reducible refine Kd.C_alloc ?_ _) | (with_reducible refine Kd.C_drewN ?_ _) | (with_reducible refine Kd.C_drew ?_)))
            (case side2 => exact HC298_4.out)
            rintro e w17 ⟨rfl,hb⟩
            refine ⟨_,rfl,?_⟩
            replace BK299:=Aside0.mk (Hd.kb_ BK299 hb)
            replace HB:=Aside0.mk (below_step Hd.b_ hb)
            (try clear hb)
            (try clear hb2)
            (try clear hk)
            (try clear hi)
            refine hK.out _ _ ⟨(blk_cell BK299.out 0).trans rfl,(blk_cell BK299.out 1).trans rfl,(blk_cell BK299.out 2).trans rfl,(blk_cell BK299.out 3).trans rfl,(blk_cell BK299.out 4).trans rfl,((HB.out.cell (World.block_lt_of_cell? w _ hw301_0)).trans hw301_0),((HB.out.cell (World.block_lt_of_cell? w _ hw301_1)).trans hw301_1),((HB.out.cell (World.block_lt_of_cell? w _ hw301_2)).trans hw301_2),((HB.out.cell (World.block_lt_of_cell? w _ hw301_3)).trans hw301_3),((HB.out.cell (World.block_lt_of_cell? w _ hw301_4)).trans hw301_4)⟩ (fun hHeld => ?_)
            clear hK K
            refine Hd.n_ (some 16) ?_
            refine Hd.p_ HT_ 2 (some 17) #[true,true,true,false,false,false,false,false,false,false,false,false,false,false,false,false,false,false] ?_
            refine Hd.p_ HT_ 3 (some 18) #[true,true,true,true,false,false,false,false,false,false,false,false,false,false,false,false,false,false] ?_
            refine Hd.p_ HT_ 4 (some 19) #[true,true,true,true,true,false,false,false,false,false,false,false,false,false,false,false,false,false] ?_
            refine Hd.p_ HT_ 5 (some 20) #[true,true,true,true,true,true,false,false,false,false,false,false,false,false,false,false,false,false] ?_
            refine Hd.p_ HT_ 6 (some 21) #[true,true,true,true,true,true,true,false,false,false,false,false,false,false,false,false,false,false] ?_
            refine Hd.p_ HT_ 7 (some 22) #[true,true,true,true,true,true,true,true,false,false,false,false,false,false,false,false,false,false] ?_
            refine Hd.p_ HT_ 9 (some 24) #[true,true,true,true,true,true,true,true,false,true,false,false,false,false,false,false,false,false] ?_
            refine Hd.p_ HT_ 10 (some 25) #[true,true,true,true,true,true,true,true,false,true,true,false,false,false,false,false,false,false] ?_
            refine Hd.p_ HT_ 11 (some 26) #[true,true,true,true,true,true,true,true,false,true,true,true,false,false,false,false,false,false] ?_
            refine Hd.p_ HT_ 12 (some 27) #[true,true,true,true,true,true,true,true,false,true,true,true,true,false,false,false,false,false] ?_
            refine Hd.p_ HT_ 13 (some 28) #[true,true,true,true,true,true,true,true,false,true,true,true,true,true,false,false,false,false] ?_
            refine Hd.t_ HT_ HW_ hHeld 8 (some 23) #[true,true,true,true,true,true,true,true,true,true,true,true,true,true,false,false,false,false] ?_
            refine Hd.t_ HT_ HW_ hHeld 14 (some 29) #[true,true,true,true,true,true,true,true,true,true,true,true,true,true,true,false,false,false] ?_
            refine Hd.p_ HT_ 15 (some 30) #[true,true,true,true,true,true,true,true,true,true,true,true,true,true,true,true,false,false] ?_
            refine Hd.p_ HT_ 16 (some 31) #[true,true,true,true,true,true,true,true,true,true,true,true,true,true,true,true,true,false] ?_
            refine Hd.p_ HT_ 17 (some 32) #[true,true,true,true,true,true,true,true,true,true,true,true,true,true,true,true,true,true] ?_
            refine done_ (done_of HT_.out (by kernel_rfl)) ?_
            try go_wp2
            go_ret
            exact ⟨by first | rfl | (simp [errW_none,errW_some] <;> rfl) | (simp only [← hji9];first | rfl | (simp [errW_none,errW_some] <;> rfl)) | (simp [*,errW_none,errW_some] <;> rfl),Hd.b_⟩
           ·
            rw [if_neg c12] at H
            have c12b0 : decide (((rd_T37 l0 x10_1).f0) ≤ ((rd_T37 l0 (ji9)).f0)) = false:=decide_eq_false c12
            clear c12
            have H':=Aside0.mk H
            clear H
            have p298 : 0 ≤ (x10_1 : Int):=of_decide_eq_true Hd.a_
            have q298 : x10_1 < (l0.length : Int):=of_decide_eq_true Hd.a_
            obtain ⟨ad298,A298_4,c298_4,e298,hx298_0,hx298_1,hx298_2,hx298_3,hx298_4,hl298_4,hi298_4⟩:=at_T37 HR0.out x10_1 p298 q298
            cases e298
            replace hx298_0:=(HB.out.cell (World.block_lt_of_cell? w _ hx298_0)).trans hx298_0
            replace hx298_1:=(HB.out.cell (World.block_lt_of_cell? w _ hx298_1)).trans hx298_1
            replace hx298_2:=(HB.out.cell (World.block_lt_of_cell? w _ hx298_2)).trans hx298_2
            replace hx298_3:=(HB.out.cell (World.block_lt_of_cell? w _ hx298_3)).trans hx298_3
            replace hx298_4:=(HB.out.cell (World.block_lt_of_cell? w _ hx298_4)).trans hx298_4
            have HR298_4:=Aside0.mk hi298_4
            have HC298_4:=Aside0.mk hl298_4
            clear hi298_4 hl298_4
            replace p298:=eq_true p298
            replace q298:=eq_true q298
            try go_wp2_with (first | ((with_reducible refine gate_dst (N:=4) rfl ?_);refine Hd.box_ 4 (#[.int .i64 0,.int .i64 0,.int .i64 0,.string (⟨#[]⟩ : ByteArray),.slice none 0 0]) 37 ?_;intro gb299 hg w18 hbox hb;have BK299:=Aside0.mk (hbox);have GW299:=Aside0.mk ((Hd.g_ hg Hd.b_ : w.heap.size ≤ gb299));have GE299:=Aside0.mk ((Hd.g_ hg Hd.b_ : w.heap.size ≤ gb299));replace HB:=Aside0.mk (below_step Hd.b_ hb);clear hb hbox hg;obtain ⟨hcz19_0,hcz19_1,hcz19_2,hcz19_3,hcz19_4⟩:=Hd.c5_ BK299.out;obtain ⟨hfz19_0,hfz19_1,hfz19_2,hfz19_3,hfz19_4⟩:=Hd.f5_ BK299.out))
            have n0_ : Aside0 ((((((w18.setCell ⟨gb299,0,none⟩ (.int .i64 ((rd_T37 l0 x10_1).f0))).setCell ⟨gb299,1,none⟩ (.int .i64 ((rd_T37 l0 x10_1).f1))).setCell ⟨gb299,2,none⟩ (.int .i64 ((rd_T37 l0 x10_1).f2))).setCell ⟨gb299,3,none⟩ (.string ((rd_T37 l0 x10_1).f3))).setCell ⟨gb299,4,none⟩ (.slice A298_4 ((rd_T37 l0 x10_1).f4).length c298_4)).heap[gb299]? = some (.cells #[.int .i64 ((rd_T37 l0 x10_1).f0),.int .i64 ((rd_T37 l0 x10_1).f1),.int .i64 ((rd_T37 l0 x10_1).f2),.string ((rd_T37 l0 x10_1).f3),.slice A298_4 ((rd_T37 l0 x10_1).f4).length c298_4] 37 (0,0))):=⟨by (with_reducible repeat (first | refine blk_drewN ?_ _ | refine blk_drew ?_ | refine blk_alloc ?_ _));refine blk_put (cs:=#[.int .i64 ((rd_T37 l0 x10_1).f0),.int .i64 ((rd_T37 l0 x10_1).f1),.int .i64 ((rd_T37 l0 x10_1).f2),.string ((rd_T37 l0 x10_1).f3),.slice none 0 0]) ?_ 4 _ rfl;(with_reducible repeat (first | refine blk_drewN ?_ _ | refine blk_drew ?_ | refine blk_alloc ?_ _));refine blk_put (cs:=#[.int .i64 ((rd_T37 l0 x10_1).f0),.int .i64 ((rd_T37 l0 x10_1).f1),.int .i64 ((rd_T37 l0 x10_1).f2),.string (⟨#[]⟩ : ByteArray),.slice none 0 0]) ?_ 3 _ rfl;(with_reducible repeat (first | refine blk_drewN ?_ _ | refine blk_drew ?_ | refine blk_alloc ?_ _));refine blk_put (cs:=#[.int .i64 ((rd_T37 l0 x10_1).f0),.int .i64 ((rd_T37 l0 x10_1).f1),.int .i64 0,.string (⟨#[]⟩ : ByteArray),.slice none 0 0]) ?_ 2 _ rfl;(with_reducible repeat (first | refine blk_drewN ?_ _ | refine blk_drew ?_ | refine blk_alloc ?_ _));refine blk_put (cs:=#[.int .i64 ((rd_T37 l0 x10_1).f0),.int .i64 0,.int .i64 0,.string (⟨#[]⟩ : ByteArray),.slice none 0 0]) ?_ 1 _ rfl;(with_reducible repeat (first | refine blk_drewN ?_ _ | refine blk_drew ?_ | refine blk_alloc ?_ _));refine blk_put (cs:=#[.int .i64 0,.int .i64 0,.int .i64 0,.string (⟨#[]⟩ : ByteArray),.slice none 0 0]) ?_ 0 _ rfl;(with_reducible repeat (first | refine blk_drewN ?_ _ | refine blk_drew ?_ | refine blk_alloc ?_ _));exact BK299.out⟩
            have n1_ : Aside0 (Below w.heap.size w (((((w18.setCell ⟨gb299,0,none⟩ (.int .i64 ((rd_T37 l0 x10_1).f0))).setCell ⟨gb299,1,none⟩ (.int .i64 ((rd_T37 l0 x10_1).f1))).setCell ⟨gb299,2,none⟩ (.int .i64 ((rd_T37 l0 x10_1).f2))).setCell ⟨gb299,3,none⟩ (.string ((rd_T37 l0 x10_1).f3))).setCell ⟨gb299,4,none⟩ (.slice A298_4 ((rd_T37 l0 x10_1).f4).length c298_4))):=⟨Hd.b_⟩
            (try clear BK299)
            (try clear HB)
            generalize (((((w18.setCell ⟨gb299,0,none⟩ (.int .i64 ((rd_T37 l0 x10_1).f0))).setCell ⟨gb299,1,none⟩ (.int .i64 ((rd_T37 l0 x10_1).f1))).setCell ⟨gb299,2,none⟩ (.int .i64 ((rd_T37 l0 x10_1).f2))).setCell ⟨gb299,3,none⟩ (.string ((rd_T37 l0 x10_1).f3))).setCell ⟨gb299,4,none⟩ (.slice A298_4 ((rd_T37 l0 x10_1).f4).length c298_4)) = w20 at n0_ n1_ ⊢
            have BK299:=n0_
            have HB:=n1_
            clear n0_ n1_
            replace BK299:=Aside0.mk (blk_drew BK299.out)
            replace HB:=Aside0.mk (below_drew1 HB.out)
            have p301 : 0 ≤ ((ji9) : Int):=of_decide_eq_true Hd.a_
            have q301 : (ji9) < (l0.length : Int):=of_decide_eq_true Hd.a_
            obtain ⟨ad301,A301_4,c301_4,e301,hx301_0,hx301_1,hx301_2,hx301_3,hx301_4,hl301_4,hi301_4⟩:=at_T37 HR0.out (ji9) p301 q301
            have hw301_4:=hx301_4
            have hw301_3:=hx301_3
            have hw301_2:=hx301_2
            have hw301_1:=hx301_1
            have hw301_0:=hx301_0
            obtain rfl : ad298 = ad301:=(by injection e301)
            replace hx301_0:=(HB.out.cell (World.block_lt_of_cell? w _ hx301_0)).trans hx301_0
            replace hx301_1:=(HB.out.cell (World.block_lt_of_cell? w _ hx301_1)).trans hx301_1
            replace hx301_2:=(HB.out.cell (World.block_lt_of_cell? w _ hx301_2)).trans hx301_2
            replace hx301_3:=(HB.out.cell (World.block_lt_of_cell? w _ hx301_3)).trans hx301_3
            replace hx301_4:=(HB.out.cell (World.block_lt_of_cell? w _ hx301_4)).trans hx301_4
            have HR301_4:=Aside0.mk hi301_4
            have HC301_4:=Aside0.mk hl301_4
            clear hi301_4 hl301_4
            replace p301:=eq_true p301
            replace q301:=eq_true q301
            refine start_ (n:=18) (S:=fun w' => w'.cell? ⟨gb299,0,none⟩ = some (.int .i64 ((rd_T37 l0 x10_1).f0)) ∧ w'.cell? ⟨gb299,1,none⟩ = some (.int .i64 ((rd_T37 l0 x10_1).f1)) ∧ w'.cell? ⟨gb299,2,none⟩ = some (.int .i64 ((rd_T37 l0 x10_1).f2)) ∧ w'.cell? ⟨gb299,3,none⟩ = some (.string ((rd_T37 l0 x10_1).f3)) ∧ w'.cell? ⟨gb299,4,none⟩ = some (.slice A298_4 ((rd_T37 l0 x10_1).f4).length c298_4) ∧ w'.cell? (ad298.add (((ji9)).toNat * 5)) = some (.int .i64 ((rd_T37 l0 (ji9)).f0)) ∧ w'.cell? ⟨(ad298.add (((ji9)).toNat * 5)).block,(ad298.add (((ji9)).toNat * 5)).off + 1,none⟩ = some (.int .i64 ((rd_T37 l0 (ji9)).f1)) ∧ w'.cell? ⟨(ad298.add (((ji9)).toNat * 5)).block,(ad298.add (((ji9)).toNat * 5)).off + 2,none⟩ = some (.int .i64 ((rd_T37 l0 (ji9)).f2)) ∧ w'.cell? ⟨(ad298.add (((ji9)).toNat * 5)).block,(ad298.add (((ji9)).toNat * 5)).off + 3,none⟩ = some (.string ((rd_T37 l0 (ji9)).f3)) ∧ w'.cell? ⟨(ad298.add (((ji9)).toNat * 5)).block,(ad298.add (((ji9)).toNat * 5)).off + 4,none⟩ = some (.slice A301_4 ((rd_T37 l0 (ji9)).f4).length c301_4)) (ds:=[]) #[false,false,false,false,false,false,false,false,false,false,false,false,false,false,false,false,false,false] (by kernel_rfl) rfl rfl ⟨(blk_cell BK299.out 0).trans rfl,(blk_cell BK299.out 1).trans rfl,(blk_cell BK299.out 2).trans rfl,(blk_cell BK299.out 3).trans rfl,(blk_cell BK299.out 4).trans rfl,((HB.out.cell (World.block_lt_of_cell? w _ hw301_0)).trans hw301_0),((HB.out.cell (World.block_lt_of_cell? w _ hw301_1)).trans hw301_1),((HB.out.cell (World.block_lt_of_cell? w _ hw301_2)).trans hw301_2),((HB.out.cell (World.block_lt_of_cell? w _ hw301_3)).trans hw301_3),((HB.out.cell (World.block_lt_of_cell? w _ hw301_4)).trans hw301_4)⟩ (fun hHeld => ?_);refine with_tabW impl_IsSource.tab6 impl_IsSource.bits6 (fun HT_ HW_ => ?_)
            generalize w20.drew = w21 at BK299 HB HR301_4 hx301_0 hx301_1 hx301_2 hx301_3 hx301_4 hHeld ⊢
            refine Hd.t_ HT_ HW_ hHeld 0 (some 15) #[true,false,false,false,false,false,false,false,false,false,false,false,false,false,false,false,false,false] ?_
            refine Hd.o_ HT_ 1 (some 16) #[true,true,false,false,false,false,false,false,false,false,false,false,false,false,false,false,false,false] (fun K hK => ?_)
            refine goes_ Try.func51 (by kernel_rfl) rfl #[.agg #[.int .i64 ((rd_T37 l0 x10_1).f0),.int .i64 ((rd_T37 l0 x10_1).f1),.int .i64 ((rd_T37 l0 x10_1).f2),.string ((rd_T37 l0 x10_1).f3),.slice A298_4 ((rd_T37 l0 x10_1).f4).length c298_4]] (by rfl) rfl rfl Hd.m_ ?_
            with_reducible refine (impl_IsFeature.calls k1 ((rd_T37 l0 x10_1).f0) ((rd_T37 l0 x10_1).f1) ((rd_T37 l0 x10_1).f2) ((rd_T37 l0 x10_1).f3) _ _ ((rd_T37 l0 x10_1).f4) true _ ?side1 ?side2 A6.out).mono ?_
            (case side1 => repeat (first | exact (Kd.C_below HR298_4.out HB.out) | (with_reducible refine Kd.C_alloc ?_ _) | (with_reducible refine Kd.C_drewN ?_ _) | (with_reducible refine Kd.C_drew ?_)))
            (case side2 => exact HC298_4.out)
            rintro e w22 ⟨rfl,hb⟩
            refine ⟨_,rfl,?_⟩
            replace BK299:=Aside0.mk (Hd.kb_ BK299 hb)
            replace HB:=Aside0.mk (below_step Hd.b_ hb)
            (try clear hb)
            (try clear hb2)
            (try clear hk)
            (try clear hi)
            refine hK.out _ _ ⟨(blk_cell BK299.out 0).trans rfl,(blk_cell BK299.out 1).trans rfl,(blk_cell BK299.out 2).trans rfl,(blk_cell BK299.out 3).trans rfl,(blk_cell BK299.out 4).trans rfl,((HB.out.cell (World.block_lt_of_cell? w _ hw301_0)).trans hw301_0),((HB.out.cell (World.block_lt_of_cell? w _ hw301_1)).trans hw301_1),((HB.out.cell (World.block_lt_of_cell? w _ hw301_2)).trans hw301_2),((HB.out.cell (World.block_lt_of_cell? w _ hw301_3)).trans hw301_3),((HB.out.cell (World.block_lt_of_cell? w _ hw301_4)).trans hw301_4)⟩ (fun hHeld => ?_)
            clear hK K
            refine Hd.n_ (some 16) ?_
            refine Hd.p_ HT_ 2 (some 17) #[true,true,true,false,false,false,false,false,false,false,false,false,false,false,false,false,false,false] ?_
            refine Hd.p_ HT_ 3 (some 18) #[true,true,true,true,false,false,false,false,false,false,false,false,false,false,false,false,false,false] ?_
            refine Hd.p_ HT_ 4 (some 19) #[true,true,true,true,true,false,false,false,false,false,false,false,false,false,false,false,false,false] ?_
            refine Hd.p_ HT_ 5 (some 20) #[true,true,true,true,true,true,false,false,false,false,false,false,false,false,false,false,false,false] ?_
            refine Hd.p_ HT_ 6 (some 21) #[true,true,true,true,true,true,true,false,false,false,false,false,false,false,false,false,false,false] ?_
            refine Hd.p_ HT_ 7 (some 22) #[true,true,true,true,true,true,true,true,false,false,false,false,false,false,false,false,false,false] ?_
            refine Hd.p_ HT_ 9 (some 24) #[true,true,true,true,true,true,true,true,false,true,false,false,false,false,false,false,false,false] ?_
            refine Hd.p_ HT_ 10 (some 25) #[true,true,true,true,true,true,true,true,false,true,true,false,false,false,false,false,false,false] ?_
            refine Hd.p_ HT_ 11 (some 26) #[true,true,true,true,true,true,true,true,false,true,true,true,false,false,false,false,false,false] ?_
            refine Hd.p_ HT_ 12 (some 27) #[true,true,true,true,true,true,true,true,false,true,true,true,true,false,false,false,false,false] ?_
            refine Hd.p_ HT_ 13 (some 28) #[true,true,true,true,true,true,true,true,false,true,true,true,true,true,false,false,false,false] ?_
            refine Hd.t_ HT_ HW_ hHeld 8 (some 23) #[true,true,true,true,true,true,true,true,true,true,true,true,true,true,false,false,false,false] ?_
            refine Hd.t_ HT_ HW_ hHeld 14 (some 29) #[true,true,true,true,true,true,true,true,true,true,true,true,true,true,true,false,false,false] ?_
            refine Hd.p_ HT_ 15 (some 30) #[true,true,true,true,true,true,true,true,true,true,true,true,true,true,true,true,false,false] ?_
            refine Hd.p_ HT_ 16 (some 31) #[true,true,true,true,true,true,true,true,true,true,true,true,true,true,true,true,true,false] ?_
            refine Hd.p_ HT_ 17 (some 32) #[true,true,true,true,true,true,true,true,true,true,true,true,true,true,true,true,true,true] ?_
            refine done_ (done_of HT_.out (by kernel_rfl)) ?_
            try go_wp2
            go_roundg k1
            case measure => have:=HK1.out;omega
            case rel => exact ⟨(wrap64 (x10_1 + 1)),(by first | rfl | (simp;done) | (simp [*];done)),H',⟨by have:=HK1.out;omega⟩,⟨Hd.b_⟩⟩
          ·
           rw [if_neg c11] at H
           exact absurd H (by simp)
         ·
          rw [if_neg c10] at H
          exact absurd H (by simp)
        ·
         rw [if_neg c8] at H
         have c8b0 : decide (0 < x10_1) = false:=decide_eq_false c8
         clear c8
         have H':=Aside0.mk H
         clear H
         have p298 : 0 ≤ (x10_1 : Int):=of_decide_eq_true Hd.a_
         have q298 : x10_1 < (l0.length : Int):=of_decide_eq_true Hd.a_
         obtain ⟨ad298,A298_4,c298_4,e298,hx298_0,hx298_1,hx298_2,hx298_3,hx298_4,hl298_4,hi298_4⟩:=at_T37 HR0.out x10_1 p298 q298
         cases e298
         replace hx298_0:=(HB.out.cell (World.block_lt_of_cell? w _ hx298_0)).trans hx298_0
         replace hx298_1:=(HB.out.cell (World.block_lt_of_cell? w _ hx298_1)).trans hx298_1
         replace hx298_2:=(HB.out.cell (World.block_lt_of_cell? w _ hx298_2)).trans hx298_2
         replace hx298_3:=(HB.out.cell (World.block_lt_of_cell? w _ hx298_3)).trans hx298_3
         replace hx298_4:=(HB.out.cell (World.block_lt_of_cell? w _ hx298_4)).trans hx298_4
         have HR298_4:=Aside0.mk hi298_4
         have HC298_4:=Aside0.mk hl298_4
         clear hi298_4 hl298_4
         replace p298:=eq_true p298
         replace q298:=eq_true q298
         try go_wp2_with (first | ((with_reducible refine gate_dst (N:=4) rfl ?_);refine Hd.box_ 4 (#[.int .i64 0,.int .i64 0,.int .i64 0,.string (⟨#[]⟩ : ByteArray),.slice none 0 0]) 37 ?_;intro gb299 hg w23 hbox hb;have BK299:=Aside0.mk (hbox);have GW299:=Aside0.mk ((Hd.g_ hg Hd.b_ : w.heap.size ≤ gb299));have GE299:=Aside0.mk ((Hd.g_ hg Hd.b_ : w.heap.size ≤ gb299));replace HB:=Aside0.mk (below_step Hd.b_ hb);clear hb hbox hg;obtain ⟨hcz24_0,hcz24_1,hcz24_2,hcz24_3,hcz24_4⟩:=Hd.c5_ BK299.out;obtain ⟨hfz24_0,hfz24_1,hfz24_2,hfz24_3,hfz24_4⟩:=Hd.f5_ BK299.out))
         have n0_ : Aside0 ((((((w23.setCell ⟨gb299,0,none⟩ (.int .i64 ((rd_T37 l0 x10_1).f0))).setCell ⟨gb299,1,none⟩ (.int .i64 ((rd_T37 l0 x10_1).f1))).setCell ⟨gb299,2,none⟩ (.int .i64 ((rd_T37 l0 x10_1).f2))).setCell ⟨gb299,3,none⟩ (.string ((rd_T37 l0 x10_1).f3))).setCell ⟨gb299,4,none⟩ (.slice A298_4 ((rd_T37 l0 x10_1).f4).length c298_4)).heap[gb299]? = some (.cells #[.int .i64 ((rd_T37 l0 x10_1).f0),.int .i64 ((rd_T37 l0 x10_1).f1),.int .i64 ((rd_T37 l0 x10_1).f2),.string ((rd_T37 l0 x10_1).f3),.slice A298_4 ((rd_T37 l0 x10_1).f4).length c298_4] 37 (0,0))):=⟨by (with_reducible repeat (first | refine blk_drewN ?_ _ | refine blk_drew ?_ | refine blk_alloc ?_ _));refine blk_put (cs:=#[.int .i64 ((rd_T37 l0 x10_1).f0),.int .i64 ((rd_T37 l0 x10_1).f1),.int .i64 ((rd_T37 l0 x10_1).f2),.string ((rd_T37 l0 x10_1).f3),.slice none 0 0]) ?_ 4 _ rfl;(with_reducible repeat (first | refine blk_drewN ?_ _ | refine blk_drew ?_ | refine blk_alloc ?_ _));refine blk_put (cs:=#[.int .i64 ((rd_T37 l0 x10_1).f0),.int .i64 ((rd_T37 l0 x10_1).f1),.int .i64 ((rd_T37 l0 x10_1).f2),.string (⟨#[]⟩ : ByteArray),.slice none 0 0]) ?_ 3 _ rfl;(with_reducible repeat (first | refine blk_drewN ?_ _ | refine blk_drew ?_ | refine blk_alloc ?_ _));refine blk_put (cs:=#[.int .i64 ((rd_T37 l0 x10_1).f0),.int .i64 ((rd_T37 l0 x10_1).f1),.int .i64 0,.string (⟨#[]⟩ : ByteArray),.slice none 0 0]) ?_ 2 _ rfl;(with_reducible repeat (first | refine blk_drewN ?_ _ | refine blk_drew ?_ | refine blk_alloc ?_ _));refine blk_put (cs:=#[.int .i64 ((rd_T37 l0 x10_1).f0),.int .i64 0,.int .i64 0,.string (⟨#[]⟩ : ByteArray),.slice none 0 0]) ?_ 1 _ rfl;(with_reducible repeat (first | refine blk_drewN ?_ _ | refine blk_drew ?_ | refine blk_alloc ?_ _));refine blk_put (cs:=#[.int .i64 0,.int .i64 0,.int .i64 0,.string (⟨#[]⟩ : ByteArray),.slice none 0 0]) ?_ 0 _ rfl;(with_reducible repeat (first | refine blk_drewN ?_ _ | refine blk_drew ?_ | refine blk_alloc ?_ _));exact BK299.out⟩
         have n1_ : Aside0 (Below w.heap.size w (((((w23.setCell ⟨gb299,0,none⟩ (.int .i64 ((rd_T37 l0 x10_1).f0))).setCell ⟨gb299,1,none⟩ (.int .i64 ((rd_T37 l0 x10_1).f1))).setCell ⟨gb299,2,none⟩ (.int .i64 ((rd_T37 l0 x10_1).f2))).setCell ⟨gb299,3,none⟩ (.string ((rd_T37 l0 x10_1).f3))).setCell ⟨gb299,4,none⟩ (.slice A298_4 ((rd_T37 l0 x10_1).f4).length c298_4))):=⟨Hd.b_⟩
         (try clear BK299)
         (try clear HB)
         generalize (((((w23.setCell ⟨gb299,0,none⟩ (.int .i64 ((rd_T37 l0 x10_1).f0))).setCell ⟨gb299,1,none⟩ (.int .i64 ((rd_T37 l0 x10_1).f1))).setCell ⟨gb299,2,none⟩ (.int .i64 ((rd_T37 l0 x10_1).f2))).setCell ⟨gb299,3,none⟩ (.string ((rd_T37 l0 x10_1).f3))).setCell ⟨gb299,4,none⟩ (.slice A298_4 ((rd_T37 l0 x10_1).f4).length c298_4)) = w25 at n0_ n1_ ⊢
         have BK299:=n0_
         have HB:=n1_
         clear n0_ n1_
         replace BK299:=Aside0.mk (blk_drew BK299.out)
         replace HB:=Aside0.mk (below_drew1 HB.out)
         refine start_ (n:=18) (S:=fun w' => w'.cell? ⟨gb299,0,none⟩ = some (.int .i64 ((rd_T37 l0 x10_1).f0)) ∧ w'.cell? ⟨gb299,1,none⟩ = some (.int .i64 ((rd_T37 l0 x10_1).f1)) ∧ w'.cell? ⟨gb299,2,none⟩ = some (.int .i64 ((rd_T37 l0 x10_1).f2)) ∧ w'.cell? ⟨gb299,3,none⟩ = some (.string ((rd_T37 l0 x10_1).f3)) ∧ w'.cell? ⟨gb299,4,none⟩ = some (.slice A298_4 ((rd_T37 l0 x10_1).f4).length c298_4)) (ds:=[]) #[false,false,false,false,false,false,false,false,false,false,false,false,false,false,false,false,false,false] (by kernel_rfl) rfl rfl ⟨(blk_cell BK299.out 0).trans rfl,(blk_cell BK299.out 1).trans rfl,(blk_cell BK299.out 2).trans rfl,(blk_cell BK299.out 3).trans rfl,(blk_cell BK299.out 4).trans rfl⟩ (fun hHeld => ?_);refine with_tabW impl_IsSource.tab6 impl_IsSource.bits6 (fun HT_ HW_ => ?_)
         generalize w25.drew = w26 at BK299 HB hHeld ⊢
         refine Hd.t_ HT_ HW_ hHeld 0 (some 15) #[true,false,false,false,false,false,false,false,false,false,false,false,false,false,false,false,false,false] ?_
         refine Hd.o_ HT_ 1 (some 16) #[true,true,false,false,false,false,false,false,false,false,false,false,false,false,false,false,false,false] (fun K hK => ?_)
         refine goes_ Try.func51 (by kernel_rfl) rfl #[.agg #[.int .i64 ((rd_T37 l0 x10_1).f0),.int .i64 ((rd_T37 l0 x10_1).f1),.int .i64 ((rd_T37 l0 x10_1).f2),.string ((rd_T37 l0 x10_1).f3),.slice A298_4 ((rd_T37 l0 x10_1).f4).length c298_4]] (by rfl) rfl rfl Hd.m_ ?_
         with_reducible refine (impl_IsFeature.calls k1 ((rd_T37 l0 x10_1).f0) ((rd_T37 l0 x10_1).f1) ((rd_T37 l0 x10_1).f2) ((rd_T37 l0 x10_1).f3) _ _ ((rd_T37 l0 x10_1).f4) true _ ?side1 ?side2 A6.out).mono ?_
         (case side1 => repeat (first | exact (Kd.C_below HR298_4.out HB.out) | (with_reducible refine Kd.C_alloc ?_ _) | (with_reducible refine Kd.C_drewN ?_ _) | (with_reducible refine Kd.C_drew ?_)))
         (case side2 => exact HC298_4.out)
         rintro e w27 ⟨rfl,hb⟩
         refine ⟨_,rfl,?_⟩
         replace BK299:=Aside0.mk (Hd.kb_ BK299 hb)
         replace HB:=Aside0.mk (below_step Hd.b_ hb)
         (try clear hb)
         (try clear hb2)
         (try clear hk)
         (try clear hi)
         refine hK.out _ _ ⟨(blk_cell BK299.out 0).trans rfl,(blk_cell BK299.out 1).trans rfl,(blk_cell BK299.out 2).trans rfl,(blk_cell BK299.out 3).trans rfl,(blk_cell BK299.out 4).trans rfl⟩ (fun hHeld => ?_)
         clear hK K
         refine Hd.n_ (some 16) ?_
         refine Hd.p_ HT_ 2 (some 17) #[true,true,true,false,false,false,false,false,false,false,false,false,false,false,false,false,false,false] ?_
         refine Hd.p_ HT_ 3 (some 18) #[true,true,true,true,false,false,false,false,false,false,false,false,false,false,false,false,false,false] ?_
         refine Hd.p_ HT_ 4 (some 19) #[true,true,true,true,true,false,false,false,false,false,false,false,false,false,false,false,false,false] ?_
         refine Hd.p_ HT_ 5 (some 20) #[true,true,true,true,true,true,false,false,false,false,false,false,false,false,false,false,false,false] ?_
         refine Hd.p_ HT_ 6 (some 21) #[true,true,true,true,true,true,true,false,false,false,false,false,false,false,false,false,false,false] ?_
         refine pure_ (i:=7) (N:=some 22) (v:=undef) (a':=?_) #[true,true,true,true,true,true,true,true,false,false,false,false,false,false,false,false,false,false] rfl rfl (any_of HT_.out (by kernel_rfl)) (fun _ _ _ h => h) (Or.inr ⟨by rfl,rfl⟩) ?_ ?_
         rotate_left
         ·
          simp only [Act.put,List.setIfInBounds_toArray,List.set_cons_zero,List.set_cons_succ,i64_w,i32_w]
          rfl
         refine pure_ (i:=8) (N:=some 23) (v:=undef) (a':=?_) #[true,true,true,true,true,true,true,true,true,false,false,false,false,false,false,false,false,false] rfl rfl (any_of HT_.out (by kernel_rfl)) (fun _ _ _ h => h) (Or.inr ⟨by rfl,rfl⟩) ?_ ?_
         rotate_left
         ·
          simp only [Act.put,List.setIfInBounds_toArray,List.set_cons_zero,List.set_cons_succ,i64_w,i32_w]
          rfl
         refine pure_ (i:=9) (N:=some 24) (v:=undef) (a':=?_) #[true,true,true,true,true,true,true,true,true,true,false,false,false,false,false,false,false,false] rfl rfl (any_of HT_.out (by kernel_rfl)) (fun _ _ _ h => h) (Or.inr ⟨by rfl,rfl⟩) ?_ ?_
         rotate_left
         ·
          simp only [Act.put,List.setIfInBounds_toArray,List.set_cons_zero,List.set_cons_succ,i64_w,i32_w]
          rfl
         refine pure_ (i:=10) (N:=some 25) (v:=undef) (a':=?_) #[true,true,true,true,true,true,true,true,true,true,true,false,false,false,false,false,false,false] rfl rfl (any_of HT_.out (by kernel_rfl)) (fun _ _ _ h => h) (Or.inr ⟨by rfl,rfl⟩) ?_ ?_
         rotate_left
         ·
          simp only [Act.put,List.setIfInBounds_toArray,List.set_cons_zero,List.set_cons_succ,i64_w,i32_w]
          rfl
         refine pure_ (i:=11) (N:=some 26) (v:=undef) (a':=?_) #[true,true,true,true,true,true,true,true,true,true,true,true,false,false,false,false,false,false] rfl rfl (any_of HT_.out (by kernel_rfl)) (fun _ _ _ h => h) (Or.inr ⟨by rfl,rfl⟩) ?_ ?_
         rotate_left
         ·
          simp only [Act.put,List.setIfInBounds_toArray,List.set_cons_zero,List.set_cons_succ,i64_w,i32_w]
          rfl
         refine pure_ (i:=12) (N:=some 27) (v:=undef) (a':=?_) #[true,true,true,true,true,true,true,true,true,true,true,true,true,false,false,false,false,false] rfl rfl (any_of HT_.out (by kernel_rfl)) (fun _ _ _ h => h) (Or.inr ⟨by rfl,rfl⟩) ?_ ?_
         rotate_left
         ·
          simp only [Act.put,List.setIfInBounds_toArray,List.set_cons_zero,List.set_cons_succ,i64_w,i32_w]
          rfl
         refine pure_ (i:=13) (N:=some 28) (v:=undef) (a':=?_) #[true,true,true,true,true,true,true,true,true,true,true,true,true,true,false,false,false,false] rfl rfl (any_of HT_.out (by kernel_rfl)) (fun _ _ _ h => h) (Or.inr ⟨by rfl,rfl⟩) ?_ ?_
         rotate_left
         ·
          simp only [Act.put,List.setIfInBounds_toArray,List.set_cons_zero,List.set_cons_succ,i64_w,i32_w]
          rfl
         refine pure_ (i:=14) (N:=some 29) (v:=undef) (a':=?_) #[true,true,true,true,true,true,true,true,true,true,true,true,true,true,true,false,false,false] rfl rfl (any_of HT_.out (by kernel_rfl)) (fun _ _ _ h => h) (Or.inr ⟨by rfl,rfl⟩) ?_ ?_
         rotate_left
         ·
          simp only [Act.put,List.setIfInBounds_toArray,List.set_cons_zero,List.set_cons_succ,i64_w,i32_w]
          rfl
         refine pure_ (i:=15) (N:=some 30) (v:=undef) (a':=?_) #[true,true,true,true,true,true,true,true,true,true,true,true,true,true,true,true,false,false] rfl rfl (any_of HT_.out (by kernel_rfl)) (fun _ _ _ h => h) (Or.inr ⟨by rfl,rfl⟩) ?_ ?_
         rotate_left
         ·
          simp only [Act.put,List.setIfInBounds_toArray,List.set_cons_zero,List.set_cons_succ,i64_w,i32_w]
          rfl
         refine Hd.p_ HT_ 16 (some 31) #[true,true,true,true,true,true,true,true,true,true,true,true,true,true,true,true,true,false] ?_
         refine Hd.p_ HT_ 17 (some 32) #[true,true,true,true,true,true,true,true,true,true,true,true,true,true,true,true,true,true] ?_
         refine done_ (done_of HT_.out (by kernel_rfl)) ?_
         try go_wp2
         go_roundg k1
         case measure => have:=HK1.out;omega
         case rel => exact ⟨(wrap64 (x10_1 + 1)),(by first | rfl | (simp;done) | (simp [*];done)),H',⟨by have:=HK1.out;omega⟩,⟨Hd.b_⟩⟩
       ·
        replace c7:=Bool.eq_false_iff.mpr c7
        subst c7
        have H1 : (some false) = some r:=by rw [if_neg (show ¬ (false = true) by decide)] at H;exact H
        clear H
        have H:=H1
        clear H1
        obtain rfl:=Option.some.inj H
        have p298 : 0 ≤ (x10_1 : Int):=of_decide_eq_true Hd.a_
        have q298 : x10_1 < (l0.length : Int):=of_decide_eq_true Hd.a_
        obtain ⟨ad298,A298_4,c298_4,e298,hx298_0,hx298_1,hx298_2,hx298_3,hx298_4,hl298_4,hi298_4⟩:=at_T37 HR0.out x10_1 p298 q298
        cases e298
        replace hx298_0:=(HB.out.cell (World.block_lt_of_cell? w _ hx298_0)).trans hx298_0
        replace hx298_1:=(HB.out.cell (World.block_lt_of_cell? w _ hx298_1)).trans hx298_1
        replace hx298_2:=(HB.out.cell (World.block_lt_of_cell? w _ hx298_2)).trans hx298_2
        replace hx298_3:=(HB.out.cell (World.block_lt_of_cell? w _ hx298_3)).trans hx298_3
        replace hx298_4:=(HB.out.cell (World.block_lt_of_cell? w _ hx298_4)).trans hx298_4
        have HR298_4:=Aside0.mk hi298_4
        have HC298_4:=Aside0.mk hl298_4
        clear hi298_4 hl298_4
        replace p298:=eq_true p298
        replace q298:=eq_true q298
        try go_wp2_with (first | ((with_reducible refine gate_dst (N:=4) rfl ?_);refine Hd.box_ 4 (#[.int .i64 0,.int .i64 0,.int .i64 0,.string (⟨#[]⟩ : ByteArray),.slice none 0 0]) 37 ?_;intro gb299 hg w28 hbox hb;have BK299:=Aside0.mk (hbox);have GW299:=Aside0.mk ((Hd.g_ hg Hd.b_ : w.heap.size ≤ gb299));have GE299:=Aside0.mk ((Hd.g_ hg Hd.b_ : w.heap.size ≤ gb299));replace HB:=Aside0.mk (below_step Hd.b_ hb);clear hb hbox hg;obtain ⟨hcz29_0,hcz29_1,hcz29_2,hcz29_3,hcz29_4⟩:=Hd.c5_ BK299.out;obtain ⟨hfz29_0,hfz29_1,hfz29_2,hfz29_3,hfz29_4⟩:=Hd.f5_ BK299.out))
        have n0_ : Aside0 ((((((w28.setCell ⟨gb299,0,none⟩ (.int .i64 ((rd_T37 l0 x10_1).f0))).setCell ⟨gb299,1,none⟩ (.int .i64 ((rd_T37 l0 x10_1).f1))).setCell ⟨gb299,2,none⟩ (.int .i64 ((rd_T37 l0 x10_1).f2))).setCell ⟨gb299,3,none⟩ (.string ((rd_T37 l0 x10_1).f3))).setCell ⟨gb299,4,none⟩ (.slice A298_4 ((rd_T37 l0 x10_1).f4).length c298_4)).heap[gb299]? = some (.cells #[.int .i64 ((rd_T37 l0 x10_1).f0),.int .i64 ((rd_T37 l0 x10_1).f1),.int .i64 ((rd_T37 l0 x10_1).f2),.string ((rd_T37 l0 x10_1).f3),.slice A298_4 ((rd_T37 l0 x10_1).f4).length c298_4] 37 (0,0))):=⟨by (with_reducible repeat (first | refine blk_drewN ?_ _ | refine blk_drew ?_ | refine blk_alloc ?_ _));refine blk_put (cs:=#[.int .i64 ((rd_T37 l0 x10_1).f0),.int .i64 ((rd_T37 l0 x10_1).f1),.int .i64 ((rd_T37 l0 x10_1).f2),.string ((rd_T37 l0 x10_1).f3),.slice none 0 0]) ?_ 4 _ rfl;(with_reducible repeat (first | refine blk_drewN ?_ _ | refine blk_drew ?_ | refine blk_alloc ?_ _));refine blk_put (cs:=#[.int .i64 ((rd_T37 l0 x10_1).f0),.int .i64 ((rd_T37 l0 x10_1).f1),.int .i64 ((rd_T37 l0 x10_1).f2),.string (⟨#[]⟩ : ByteArray),.slice none 0 0]) ?_ 3 _ rfl;(with_reducible repeat (first | refine blk_drewN ?_ _ | refine blk_drew ?_ | refine blk_alloc ?_ _));refine blk_put (cs:=#[.int .i64 ((rd_T37 l0 x10_1).f0),.int .i64 ((rd_T37 l0 x10_1).f1),.int .i64 0,.string (⟨#[]⟩ : ByteArray),.slice none 0 0]) ?_ 2 _ rfl;(with_reducible repeat (first | refine blk_drewN ?_ _ | refine blk_drew ?_ | refine blk_alloc ?_ _));refine blk_put (cs:=#[.int .i64 ((rd_T37 l0 x10_1).f0),.int .i64 0,.int .i64 0,.string (⟨#[]⟩ : ByteArray),.slice none 0 0]) ?_ 1 _ rfl;(with_reducible repeat (first | refine blk_drewN ?_ _ | refine blk_drew ?_ | refine blk_alloc ?_ _));refine blk_put (cs:=#[.int .i64 0,.int .i64 0,.int .i64 0,.string (⟨#[]⟩ : ByteArray),.slice none 0 0]) ?_ 0 _ rfl;(with_reducible repeat (first | refine blk_drewN ?_ _ | refine blk_drew ?_ | refine blk_alloc ?_ _));exact BK299.out⟩
        have n1_ : Aside0 (Below w.heap.size w (((((w28.setCell ⟨gb299,0,none⟩ (.int .i64 ((rd_T37 l0 x10_1).f0))).setCell ⟨gb299,1,none⟩ (.int .i64 ((rd_T37 l0 x10_1).f1))).setCell ⟨gb299,2,none⟩ (.int .i64 ((rd_T37 l0 x10_1).f2))).setCell ⟨gb299,3,none⟩ (.string ((rd_T37 l0 x10_1).f3))).setCell ⟨gb299,4,none⟩ (.slice A298_4 ((rd_T37 l0 x10_1).f4).length c298_4))):=⟨Hd.b_⟩
        (try clear BK299)
        (try clear HB)
        generalize (((((w28.setCell ⟨gb299,0,none⟩ (.int .i64 ((rd_T37 l0 x10_1).f0))).setCell ⟨gb299,1,none⟩ (.int .i64 ((rd_T37 l0 x10_1).f1))).setCell ⟨gb299,2,none⟩ (.int .i64 ((rd_T37 l0 x10_1).f2))).setCell ⟨gb299,3,none⟩ (.string ((rd_T37 l0 x10_1).f3))).setCell ⟨gb299,4,none⟩ (.slice A298_4 ((rd_T37 l0 x10_1).f4).length c298_4)) = w30 at n0_ n1_ ⊢
        have BK299:=n0_
        have HB:=n1_
        clear n0_ n1_
        replace BK299:=Aside0.mk (blk_drew BK299.out)
        replace HB:=Aside0.mk (below_drew1 HB.out)
        refine start_ (n:=18) (S:=fun w' => w'.cell? ⟨gb299,0,none⟩ = some (.int .i64 ((rd_T37 l0 x10_1).f0)) ∧ w'.cell? ⟨gb299,1,none⟩ = some (.int .i64 ((rd_T37 l0 x10_1).f1)) ∧ w'.cell? ⟨gb299,2,none⟩ = some (.int .i64 ((rd_T37 l0 x10_1).f2)) ∧ w'.cell? ⟨gb299,3,none⟩ = some (.string ((rd_T37 l0 x10_1).f3)) ∧ w'.cell? ⟨gb299,4,none⟩ = some (.slice A298_4 ((rd_T37 l0 x10_1).f4).length c298_4)) (ds:=[]) #[false,false,false,false,false,false,false,false,false,false,false,false,false,false,false,false,false,false] (by kernel_rfl) rfl rfl ⟨(blk_cell BK299.out 0).trans rfl,(blk_cell BK299.out 1).trans rfl,(blk_cell BK299.out 2).trans rfl,(blk_cell BK299.out 3).trans rfl,(blk_cell BK299.out 4).trans rfl⟩ (fun hHeld => ?_);refine with_tabW impl_IsSource.tab6 impl_IsSource.bits6 (fun HT_ HW_ => ?_)
        generalize w30.drew = w31 at BK299 HB hHeld ⊢
        refine Hd.t_ HT_ HW_ hHeld 0 (some 15) #[true,false,false,false,false,false,false,false,false,false,false,false,false,false,false,false,false,false] ?_
        refine Hd.o_ HT_ 1 (some 16) #[true,true,false,false,false,false,false,false,false,false,false,false,false,false,false,false,false,false] (fun K hK => ?_)
        refine goes_ Try.func51 (by kernel_rfl) rfl #[.agg #[.int .i64 ((rd_T37 l0 x10_1).f0),.int .i64 ((rd_T37 l0 x10_1).f1),.int .i64 ((rd_T37 l0 x10_1).f2),.string ((rd_T37 l0 x10_1).f3),.slice A298_4 ((rd_T37 l0 x10_1).f4).length c298_4]] (by rfl) rfl rfl Hd.m_ ?_
        with_reducible refine (impl_IsFeature.calls k1 ((rd_T37 l0 x10_1).f0) ((rd_T37 l0 x10_1).f1) ((rd_T37 l0 x10_1).f2) ((rd_T37 l0 x10_1).f3) _ _ ((rd_T37 l0 x10_1).f4) false _ ?side1 ?side2 A6.out).mono ?_
        (case side1 => repeat (first | exact (Kd.C_below HR298_4.out HB.out) | (with_reducible refine Kd.C_alloc ?_ _) | (with_reducible refine Kd.C_drewN ?_ _) | (with_reducible refine Kd.C_drew ?_)))
        (case side2 => exact HC298_4.out)
        rintro e w32 ⟨rfl,hb⟩
        refine ⟨_,rfl,?_⟩
        replace BK299:=Aside0.mk (Hd.kb_ BK299 hb)
        replace HB:=Aside0.mk (below_step Hd.b_ hb)
        (try clear hb)
        (try clear hb2)
        (try clear hk)
        (try clear hi)
        refine hK.out _ _ ⟨(blk_cell BK299.out 0).trans rfl,(blk_cell BK299.out 1).trans rfl,(blk_cell BK299.out 2).trans rfl,(blk_cell BK299.out 3).trans rfl,(blk_cell BK299.out 4).trans rfl⟩ (fun hHeld => ?_)
        clear hK K
        refine Hd.n_ (some 16) ?_
        refine Hd.p_ HT_ 2 (some 17) #[true,true,true,false,false,false,false,false,false,false,false,false,false,false,false,false,false,false] ?_
        refine Hd.p_ HT_ 3 (some 18) #[true,true,true,true,false,false,false,false,false,false,false,false,false,false,false,false,false,false] ?_
        refine pure_ (i:=4) (N:=some 19) (v:=undef) (a':=?_) #[true,true,true,true,true,false,false,false,false,false,false,false,false,false,false,false,false,false] rfl rfl (any_of HT_.out (by kernel_rfl)) (fun _ _ _ h => h) (Or.inr ⟨by rfl,rfl⟩) ?_ ?_
        rotate_left
        ·
         simp only [Act.put,List.setIfInBounds_toArray,List.set_cons_zero,List.set_cons_succ,i64_w,i32_w]
         rfl
        refine pure_ (i:=5) (N:=some 20) (v:=undef) (a':=?_) #[true,true,true,true,true,true,false,false,false,false,false,false,false,false,false,false,false,false] rfl rfl (any_of HT_.out (by kernel_rfl)) (fun _ _ _ h => h) (Or.inr ⟨by rfl,rfl⟩) ?_ ?_
        rotate_left
        ·
         simp only [Act.put,List.setIfInBounds_toArray,List.set_cons_zero,List.set_cons_succ,i64_w,i32_w]
         rfl
        refine pure_ (i:=6) (N:=some 21) (v:=undef) (a':=?_) #[true,true,true,true,true,true,true,false,false,false,false,false,false,false,false,false,false,false] rfl rfl (any_of HT_.out (by kernel_rfl)) (fun _ _ _ h => h) (Or.inr ⟨by rfl,rfl⟩) ?_ ?_
        rotate_left
        ·
         simp only [Act.put,List.setIfInBounds_toArray,List.set_cons_zero,List.set_cons_succ,i64_w,i32_w]
         rfl
        refine pure_ (i:=7) (N:=some 22) (v:=undef) (a':=?_) #[true,true,true,true,true,true,true,true,false,false,false,false,false,false,false,false,false,false] rfl rfl (any_of HT_.out (by kernel_rfl)) (fun _ _ _ h => h) (Or.inr ⟨by rfl,rfl⟩) ?_ ?_
        rotate_left
        ·
         simp only [Act.put,List.setIfInBounds_toArray,List.set_cons_zero,List.set_cons_succ,i64_w,i32_w]
         rfl
        refine pure_ (i:=8) (N:=some 23) (v:=undef) (a':=?_) #[true,true,true,true,true,true,true,true,true,false,false,false,false,false,false,false,false,false] rfl rfl (any_of HT_.out (by kernel_rfl)) (fun _ _ _ h => h) (Or.inr ⟨by rfl,rfl⟩) ?_ ?_
        rotate_left
        ·
         simp only [Act.put,List.setIfInBounds_toArray,List.set_cons_zero,List.set_cons_succ,i64_w,i32_w]
         rfl
        refine pure_ (i:=9) (N:=some 24) (v:=undef) (a':=?_) #[true,true,true,true,true,true,true,true,true,true,false,false,false,false,false,false,false,false] rfl rfl (any_of HT_.out (by kernel_rfl)) (fun _ _ _ h => h) (Or.inr ⟨by rfl,rfl⟩) ?_ ?_
        rotate_left
        ·
         simp only [Act.put,List.setIfInBounds_toArray,List.set_cons_zero,List.set_cons_succ,i64_w,i32_w]
         rfl
        refine pure_ (i:=10) (N:=some 25) (v:=undef) (a':=?_) #[true,true,true,true,true,true,true,true,true,true,true,false,false,false,false,false,false,false] rfl rfl (any_of HT_.out (by kernel_rfl)) (fun _ _ _ h => h) (Or.inr ⟨by rfl,rfl⟩) ?_ ?_
        rotate_left
        ·
         simp only [Act.put,List.setIfInBounds_toArray,List.set_cons_zero,List.set_cons_succ,i64_w,i32_w]
         rfl
        refine pure_ (i:=11) (N:=some 26) (v:=undef) (a':=?_) #[true,true,true,true,true,true,true,true,true,true,true,true,false,false,false,false,false,false] rfl rfl (any_of HT_.out (by kernel_rfl)) (fun _ _ _ h => h) (Or.inr ⟨by rfl,rfl⟩) ?_ ?_
        rotate_left
        ·
         simp only [Act.put,List.setIfInBounds_toArray,List.set_cons_zero,List.set_cons_succ,i64_w,i32_w]
         rfl
        refine pure_ (i:=12) (N:=some 27) (v:=undef) (a':=?_) #[true,true,true,true,true,true,true,true,true,true,true,true,true,false,false,false,false,false] rfl rfl (any_of HT_.out (by kernel_rfl)) (fun _ _ _ h => h) (Or.inr ⟨by rfl,rfl⟩) ?_ ?_
        rotate_left
        ·
         simp only [Act.put,List.setIfInBounds_toArray,List.set_cons_zero,List.set_cons_succ,i64_w,i32_w]
         rfl
        refine pure_ (i:=13) (N:=some 28) (v:=undef) (a':=?_) #[true,true,true,true,true,true,true,true,true,true,true,true,true,true,false,false,false,false] rfl rfl (any_of HT_.out (by kernel_rfl)) (fun _ _ _ h => h) (Or.inr ⟨by rfl,rfl⟩) ?_ ?_
        rotate_left
        ·
         simp only [Act.put,List.setIfInBounds_toArray,List.set_cons_zero,List.set_cons_succ,i64_w,i32_w]
         rfl
        refine pure_ (i:=14) (N:=some 29) (v:=undef) (a':=?_) #[true,true,true,true,true,true,true,true,true,true,true,true,true,true,true,false,false,false] rfl rfl (any_of HT_.out (by kernel_rfl)) (fun _ _ _ h => h) (Or.inr ⟨by rfl,rfl⟩) ?_ ?_
        rotate_left
        ·
         simp only [Act.put,List.setIfInBounds_toArray,List.set_cons_zero,List.set_cons_succ,i64_w,i32_w]
         rfl
        refine pure_ (i:=15) (N:=some 30) (v:=undef) (a':=?_) #[true,true,true,true,true,true,true,true,true,true,true,true,true,true,true,true,false,false] rfl rfl (any_of HT_.out (by kernel_rfl)) (fun _ _ _ h => h) (Or.inr ⟨by rfl,rfl⟩) ?_ ?_
        rotate_left
        ·
         simp only [Act.put,List.setIfInBounds_toArray,List.set_cons_zero,List.set_cons_succ,i64_w,i32_w]
         rfl
        refine pure_ (i:=16) (N:=some 31) (v:=undef) (a':=?_) #[true,true,true,true,true,true,true,true,true,true,true,true,true,true,true,true,true,false] rfl rfl (any_of HT_.out (by kernel_rfl)) (fun _ _ _ h => h) (Or.inr ⟨by rfl,rfl⟩) ?_ ?_
        rotate_left
        ·
         simp only [Act.put,List.setIfInBounds_toArray,List.set_cons_zero,List.set_cons_succ,i64_w,i32_w]
         rfl
        refine Hd.p_ HT_ 17 (some 32) #[true,true,true,true,true,true,true,true,true,true,true,true,true,true,true,true,true,true] ?_
        refine done_ (done_of HT_.out (by kernel_rfl)) ?_
        try go_wp2
        go_ret
        exact ⟨Hd.e_,Hd.b_⟩
      ·
       rw [if_neg c5] at H
       exact absurd H (by simp)
     ·
      rw [if_neg c4] at H
      exact absurd H (by simp)
    ·
     rw [if_neg c3] at H
     have c3b0 : decide (x10_1 < (l0.length : Int)) = false:=decide_eq_false c3
     clear c3
     obtain rfl:=Option.some.inj H
     go_wp2
     go_ret
     exact ⟨Hd.e_,Hd.b_⟩
mutual
def impl_MeetsOf.l0 : Nat → List (S37) → List (S78) → List (S37) → Int → Int → Option ((List (S78)))
 | 0,_,_,_,_,_ => none
 | k + 1,x0,x3,x14,x15,x16 => if x16 < x15 then (if 0 ≤ x16 then (if x16 < (x14.length : Int) then (if 0 ≤ (wrap64 (x16 + 1)) then (if (wrap64 (x16 + 1)) ≤ (x0.length : Int) then ((some (x0.drop ((wrap64 (x16 + 1)) : Int).toNat : List (S37))).bind fun y308 => (impl_MeetsOf.l1 k x0 x3 x14 x15 x16 y308 (y308.length : Int) 0 ((rd_T37 x14 x16).f0) ((rd_T37 x14 x16).f1) ((rd_T37 x14 x16).f2) ((rd_T37 x14 x16).f3) ((rd_T37 x14 x16).f4))) else (none)) else (none)) else (none)) else (none)) else (some x3)
def impl_MeetsOf.l1 : Nat → List (S37) → List (S78) → List (S37) → Int → Int → List (S37) → Int → Int → Int → Int → Int → ByteArray → List (S63) → Option ((List (S78)))
 | 0,_,_,_,_,_,_,_,_,_,_,_,_,_ => none
 | k + 1,x0,x3,x14,x15,x16,x24,x25,x26,x308000,x308001,x308002,x308003,x308004 => if x26 < x25 then (if 0 ≤ x26 then (if x26 < (x24.length : Int) then ((impl_FeaturesMeet.f k x308000 x308001 x308002 x308003 x308004 ((rd_T37 x24 x26).f0) ((rd_T37 x24 x26).f1) ((rd_T37 x24 x26).f2) ((rd_T37 x24 x26).f3) ((rd_T37 x24 x26).f4)).bind fun t314 => (if t314 = 0 then (impl_MeetsOf.l1 k x0 x3 x14 x15 x16 x24 x25 (wrap64 (x26 + 1)) x308000 x308001 x308002 x308003 x308004) else (if x3.length < 5864062014805 then (impl_MeetsOf.l1 k x0 (x3 ++ [(⟨x308000,(rd_T37 x24 x26).f0,t314⟩ : S78)]) x14 x15 x16 x24 x25 (wrap64 (x26 + 1)) x308000 x308001 x308002 x308003 x308004) else (none)))) else (none)) else (none)) else (impl_MeetsOf.l0 k x0 x3 x14 x15 (wrap64 (x16 + 1)))
end
def impl_MeetsOf.f (k : Nat) (l0 : List (S37)) : Option ((List (S78))):=(some (([] : List (S78)) : List (S78))).bind fun y302 => ((impl_IsSource.f k l0).bind fun t305 => (if t305 = true then (impl_MeetsOf.l0 k l0 y302 l0 (l0.length : Int) 0) else (some y302)))
set_option maxHeartbeats 8000000 in
set_option maxRecDepth 100000 in
theorem impl_MeetsOf.calls (k : Nat) (A0 : Option Addr) (c0 : Nat) (l0 : List (S37)) (r : List (S78)) (w : World) (hr0 : Kd.C k37 w A0 l0.length l0) (hc0 : l0.length ≤ c0) (h : impl_MeetsOf.f k l0 = some r) :
  Calls Try.prog 21 #[.slice A0 l0.length c0] w fun e w' => ∃ v0_ : Value,e = .returned (v0_) ∧ Kd.R k78 78 w' w.heap.size (fun _ => True) v0_ r ∧ Below w.heap.size w w':=by
 have hu37:=Try.underlying37
 have hu78:=Try.underlying78
 have HR0:=Aside0.mk hr0
 have HC0:=Aside0.mk hc0
 clear hr0 hc0
 have HB:=Aside0.mk (Below.refl w.heap.size w)
 have H : ((some (([] : List (S78)) : List (S78))).bind fun y302 => ((impl_IsSource.f k l0).bind fun t305 => (if t305 = true then (impl_MeetsOf.l0 k l0 y302 l0 (l0.length : Int) 0) else (some y302)))) = some r:=h
 clear h
 obtain ⟨y302,hy302⟩ : ∃ y_ : List (S78),y_ = (([] : List (S78))):=⟨_,rfl⟩
 replace H : ((impl_IsSource.f k l0).bind fun t305 => (if t305 = true then (impl_MeetsOf.l0 k l0 y302 l0 (l0.length : Int) 0) else (some y302))) = some r:=by first | (rw [hy302];with_reducible exact H) | (have H2_:=(Option.bind_some _ _).symm.trans H;rw [hy302];with_reducible exact H2_) | (have H2_:=(Option.bind_some _ _).symm.trans H;with_reducible exact H2_) | with_reducible exact H | (rw [hy302];exact H) | exact H
 have Ny302:=Aside0.mk hy302
 clear hy302
 replace H:=Option.bind_eq_some_iff.mp H
 obtain ⟨t305,A20,H⟩:=H
 replace H : (if t305 = true then (impl_MeetsOf.l0 k l0 y302 l0 (l0.length : Int) 0) else (some y302)) = some r:=H
 have A2:=Aside0.mk A20
 clear A20
 by_cases c3 : t305 = true
 ·
  subst c3
  have H1 : (impl_MeetsOf.l0 k l0 y302 l0 (l0.length : Int) 0) = some r:=by rw [if_pos rfl] at H;exact H
  clear H
  have H:=H1
  clear H1
  have H':=Aside0.mk H
  clear H
  go_enter Try.func21,Try.ntmps21
  go_wp2_with (first | ((with_reducible refine gate_dst (N:=9) rfl ?_);refine Kd.R_lit k78 _ 78 ?hg (N:=9) ?hd (xs:=([] : List (S78))) (inner:=[]) (ok:=fun _ => True) (okp:=fun _ => True) ?hr ?hp (fun _ hk => hk) trivial (Below.refl _ _) (Nat.le_refl _) (by simp) ?_;(case hd => rfl);(case hg => rfl);(case hr => first | (go_simp;done) | (go_simp;rfl));(case hp => exact (Reps.none _ _));intro v303 w4 ho5 hb hg_ hnew_;clear hg_ hnew_;(first | rw [← Ny302.out] at ho5 | (simp only [Int.reduceToNat] at ho5;rw [← Ny302.out] at ho5));have HO304:=Aside0.mk (Kd.R_lower ho5 (below_size Hd.b_));replace HB:=Aside0.mk (below_step Hd.b_ hb);clear hb ho5) | ((with_reducible refine gate_callee (f:=24) rfl ?_);refine goesL_ (some 11) rfl rfl Try.func24 (by kernel_rfl) rfl #[.slice A0 l0.length c0] rfl Hd.m_ ?_;(with_reducible refine (impl_IsSource.calls k _ _ l0 true _ ?side1 ?side2 A2.out).mono ?_);(case side1 => repeat (first | exact (Kd.C_below HR0.out HB.out) | (with_reducible refine Kd.C_alloc ?_ _) | (with_reducible refine Kd.C_drewN ?_ _) | (with_reducible refine Kd.C_drew ?_)));(case side2 => exact HC0.out);rintro e w6 ⟨rfl,hb⟩;refine ⟨_,rfl,?_⟩;replace HO304:=Aside0.mk (Kd.R_below (Hd.r_ HO304) hb);replace HB:=Aside0.mk (below_step Hd.b_ hb);(try clear hb);(try clear hb2);(try clear hk);(try clear hi)))
  go_loopg [3,16] k (fun kq v3 v16 w' => ∃ (x3_1 : List (S78)) (x16_1 : Int),v16 = .int .i64 x16_1 ∧ Aside0 (impl_MeetsOf.l0 kq l0 x3_1 l0 (l0.length : Int) x16_1 = some r) ∧ Aside0 (kq ≤ k) ∧ Aside0 (Kd.R k78 78 w' w.heap.size (fun _ => True) v3 x3_1) ∧ Aside0 (Below w.heap.size w w'))
  case atStart => exact ⟨(y302),(0),(by first | rfl | (simp;done) | (simp [*];done)),H',⟨Nat.le_refl _⟩,⟨by (with_reducible repeat (first | apply Kd.R_alloc | apply Kd.R_drewN | apply Kd.R_drew));exact HO304.out⟩,⟨Hd.b_⟩⟩
  case round =>
   clear H'
   try clear c2
   try clear p2
   try clear c3
   obtain ⟨x3_1,x16_1,rfl,HA,HK1,HO_3,HB⟩:=hrel
   cases gk with
   | zero => exact absurd HA.out (by simp [impl_MeetsOf.l0])
   | succ k1 =>
    have H:=HA.out
    clear HA
    simp only [impl_MeetsOf.l0] at H
    by_cases c7 : x16_1 < (l0.length : Int)
    ·
     rw [if_pos c7] at H
     have c7b0 : decide (x16_1 < (l0.length : Int)) = true:=decide_eq_true c7
     clear c7
     by_cases c8 : 0 ≤ x16_1
     ·
      rw [if_pos c8] at H
      have c8b0 : decide (0 ≤ x16_1) = true:=decide_eq_true c8
      clear c8
      by_cases c9 : x16_1 < (l0.length : Int)
      ·
       rw [if_pos c9] at H
       have c9b0 : decide (x16_1 < (l0.length : Int)) = true:=decide_eq_true c9
       clear c9
       obtain ⟨ji10,hji10⟩ : ∃ j_ : Int,(wrap64 (x16_1 + 1)) = j_:=⟨_,rfl⟩
       replace H : (if 0 ≤ (ji10) then (if (ji10) ≤ (l0.length : Int) then ((some (l0.drop ((ji10) : Int).toNat : List (S37))).bind fun y308 => (impl_MeetsOf.l1 k1 l0 x3_1 l0 (l0.length : Int) x16_1 y308 (y308.length : Int) 0 ((rd_T37 l0 x16_1).f0) ((rd_T37 l0 x16_1).f1) ((rd_T37 l0 x16_1).f2) ((rd_T37 l0 x16_1).f3) ((rd_T37 l0 x16_1).f4))) else (none)) else (none)) = some r:=by first | (rw [hji10] at H;exact H) | (simp only [hji10] at H ⊢;exact H)
       have hji10w : (IntKind.i64.wrap (x16_1 + 1)) = ji10:=(i64_w _).trans hji10
       by_cases c11 : 0 ≤ (ji10)
       ·
        rw [if_pos c11] at H
        have c11b0:=eq_true c11
        have c11b1 : decide (0 ≤ (ji10)) = true:=decide_eq_true c11
        clear c11
        by_cases c12 : (ji10) ≤ (l0.length : Int)
        ·
         rw [if_pos c12] at H
         have c12b0:=eq_true c12
         have c12b1 : decide ((ji10) ≤ (l0.length : Int)) = true:=decide_eq_true c12
         clear c12
         obtain ⟨y308,hy308⟩ : ∃ y_ : List (S37),y_ = (l0.drop ((ji10) : Int).toNat):=⟨_,rfl⟩
         replace H : (impl_MeetsOf.l1 k1 l0 x3_1 l0 (l0.length : Int) x16_1 y308 (y308.length : Int) 0 ((rd_T37 l0 x16_1).f0) ((rd_T37 l0 x16_1).f1) ((rd_T37 l0 x16_1).f2) ((rd_T37 l0 x16_1).f3) ((rd_T37 l0 x16_1).f4)) = some r:=by first | (rw [hy308];with_reducible exact H) | (have H2_:=(Option.bind_some _ _).symm.trans H;rw [hy308];with_reducible exact H2_) | (have H2_:=(Option.bind_some _ _).symm.trans H;with_reducible exact H2_) | with_reducible exact H | (rw [hy308];exact H) | exact H
         have Ny308:=Aside0.mk hy308
         clear hy308
         have H':=Aside0.mk H
         clear H
         have p306 : 0 ≤ (x16_1 : Int):=of_decide_eq_true Hd.a_
         have q306 : x16_1 < (l0.length : Int):=of_decide_eq_true Hd.a_
         obtain ⟨ad306,A306_4,c306_4,e306,hx306_0,hx306_1,hx306_2,hx306_3,hx306_4,hl306_4,hi306_4⟩:=at_T37 HR0.out x16_1 p306 q306
         cases e306
         replace hx306_0:=(HB.out.cell (World.block_lt_of_cell? w _ hx306_0)).trans hx306_0
         replace hx306_1:=(HB.out.cell (World.block_lt_of_cell? w _ hx306_1)).trans hx306_1
         replace hx306_2:=(HB.out.cell (World.block_lt_of_cell? w _ hx306_2)).trans hx306_2
         replace hx306_3:=(HB.out.cell (World.block_lt_of_cell? w _ hx306_3)).trans hx306_3
         replace hx306_4:=(HB.out.cell (World.block_lt_of_cell? w _ hx306_4)).trans hx306_4
         have HR306_4:=Aside0.mk hi306_4
         have HC306_4:=Aside0.mk hl306_4
         clear hi306_4 hl306_4
         replace p306:=eq_true p306
         replace q306:=eq_true q306
         go_wp2_with (first | ((with_reducible refine gate_dst (N:=5) rfl ?_);refine Hd.box_ 5 (#[.int .i64 0,.int .i64 0,.int .i64 0,.string (⟨#[]⟩ : ByteArray),.slice none 0 0]) 37 ?_;intro gb307 hg w13 hbox hb;replace HO_3:=Aside0.mk (Kd.R_below (Hd.r_ HO_3) hb);have BK307:=Aside0.mk (hbox);have GW307:=Aside0.mk ((Hd.g_ hg Hd.b_ : w.heap.size ≤ gb307));have GE307:=Aside0.mk ((Hd.g_ hg Hd.b_ : w.heap.size ≤ gb307));replace HB:=Aside0.mk (below_step Hd.b_ hb);clear hb hbox hg;obtain ⟨hcz14_0,hcz14_1,hcz14_2,hcz14_3,hcz14_4⟩:=Hd.c5_ BK307.out;obtain ⟨hfz14_0,hfz14_1,hfz14_2,hfz14_3,hfz14_4⟩:=Hd.f5_ BK307.out) | ((with_reducible refine gate_store (t:=37) (p:=5) rfl ?_);refine store_event (t:=37) (p:=5) (v:=?vo_w15) (w1:=(((((w13.setCell ⟨gb307,0,none⟩ (.int .i64 ((rd_T37 l0 x16_1).f0))).setCell ⟨gb307,1,none⟩ (.int .i64 ((rd_T37 l0 x16_1).f1))).setCell ⟨gb307,2,none⟩ (.int .i64 ((rd_T37 l0 x16_1).f2))).setCell ⟨gb307,3,none⟩ (.string ((rd_T37 l0 x16_1).f3))).setCell ⟨gb307,4,none⟩ (.slice A306_4 ((rd_T37 l0 x16_1).f4).length c306_4))) ?hg ?ho ?hn ?hr ?_;(case ho => rfl);(case hg => rfl);(case hn => rfl);(case hr => first | (go_simp;done) | (go_simp;rfl));intro w15 hw;have n0_ : Aside0 (Kd.R k78 78 w15 w.heap.size (fun _ => True) u3 x3_1):=⟨(by rw [hw];exact (by (with_reducible repeat (first | apply Kd.R_alloc | apply Kd.R_drewN | apply Kd.R_drew));exact Kd.R_mono (Kd.R_far (p:=⟨gb307,4,none⟩) (Kd.R_far (p:=⟨gb307,3,none⟩) (Kd.R_far (p:=⟨gb307,2,none⟩) (Kd.R_far (p:=⟨gb307,1,none⟩) (Kd.R_far (p:=⟨gb307,0,none⟩) (Kd.R_types HO_3.out BK307.out (by decide)) (fun _ hk => hk.2) (.int .i64 ((rd_T37 l0 x16_1).f0))) (fun _ hk => hk.2) (.int .i64 ((rd_T37 l0 x16_1).f1))) (fun _ hk => hk.2) (.int .i64 ((rd_T37 l0 x16_1).f2))) (fun _ hk => hk.2) (.string ((rd_T37 l0 x16_1).f3))) (fun _ hk => hk.2) (.slice A306_4 ((rd_T37 l0 x16_1).f4).length c306_4)) (fun _ hk => trivial)))⟩;have n1_ : Aside0 (w15.heap[gb307]? = some (.cells #[.int .i64 ((rd_T37 l0 x16_1).f0),.int .i64 ((rd_T37 l0 x16_1).f1),.int .i64 ((rd_T37 l0 x16_1).f2),.string ((rd_T37 l0 x16_1).f3),.slice A306_4 ((rd_T37 l0 x16_1).f4).length c306_4] 37 (0,0))):=⟨(by rw [hw];exact (by (with_reducible repeat (first | refine blk_drewN ?_ _ | refine blk_drew ?_ | refine blk_alloc ?_ _));refine blk_put (cs:=#[.int .i64 ((rd_T37 l0 x16_1).f0),.int .i64 ((rd_T37 l0 x16_1).f1),.int .i64 ((rd_T37 l0 x16_1).f2),.string ((rd_T37 l0 x16_1).f3),.slice none 0 0]) ?_ 4 _ rfl;(with_reducible repeat (first | refine blk_drewN ?_ _ | refine blk_drew ?_ | refine blk_alloc ?_ _));refine blk_put (cs:=#[.int .i64 ((rd_T37 l0 x16_1).f0),.int .i64 ((rd_T37 l0 x16_1).f1),.int .i64 ((rd_T37 l0 x16_1).f2),.string (⟨#[]⟩ : ByteArray),.slice none 0 0]) ?_ 3 _ rfl;(with_reducible repeat (first | refine blk_drewN ?_ _ | refine blk_drew ?_ | refine blk_alloc ?_ _));refine blk_put (cs:=#[.int .i64 ((rd_T37 l0 x16_1).f0),.int .i64 ((rd_T37 l0 x16_1).f1),.int .i64 0,.string (⟨#[]⟩ : ByteArray),.slice none 0 0]) ?_ 2 _ rfl;(with_reducible repeat (first | refine blk_drewN ?_ _ | refine blk_drew ?_ | refine blk_alloc ?_ _));refine blk_put (cs:=#[.int .i64 ((rd_T37 l0 x16_1).f0),.int .i64 0,.int .i64 0,.string (⟨#[]⟩ : ByteArray),.slice none 0 0]) ?_ 1 _ rfl;(with_reducible repeat (first | refine blk_drewN ?_ _ | refine blk_drew ?_ | refine blk_alloc ?_ _));refine blk_put (cs:=#[.int .i64 0,.int .i64 0,.int .i64 0,.string (⟨#[]⟩ : ByteArray),.slice none 0 0]) ?_ 0 _ rfl;(with_reducible repeat (first | refine blk_drewN ?_ _ | refine blk_drew ?_ | refine blk_alloc ?_ _));exact BK307.out))⟩;have n2_ : Aside0 (Below w.heap.size w w15):=⟨(by rw [hw];exact Hd.b_)⟩;clear hw;clear HO_3;clear BK307;clear HB;have HO_3:=n0_;have BK307:=n1_;have HB:=n2_;clear n0_ n1_ n2_;have q16 : ((ji10) : Int) ≤ ((l0.length : Int) : Int):=of_decide_eq_true Hd.a_;obtain ⟨i016,hi016,_,hsz16,_⟩:=info_parts info37;have hroom16 : l0.length ≤ c0:=HC0.out;have hC16 : Kd.C k37 _ (some ad306) l0.length l0:=HR0.out;have q016 : (0 : Int) ≤ ((ji10) : Int):=of_decide_eq_true Hd.a_;have hcut16:=cut_from (P:=Try.prog) 26 37 .i64 Try.underlying26 hi016 5 hsz16 (some ad306) l0.length c0 (ji10) q016 q16;have hr16:=Kd.C_drop (m:=((ji10) : Int).toNat) (c:=c0) hC16 (by omega) hroom16;obtain ⟨A16,hA16⟩ : ∃ A1,A1 = (if c0 = ((ji10) : Int).toNat then (some ad306) else ((some ad306) : Option Addr).map (·.add (((ji10) : Int).toNat * 5))):=⟨_,rfl⟩;obtain ⟨c16,hc16⟩ : ∃ c1,c1 = c0 - ((ji10) : Int).toNat:=⟨_,rfl⟩;have hy16 : y308.length = l0.length - ((ji10) : Int).toNat:=(by rw [Ny308.out,List.length_drop] <;> omega);rw [show (l0).drop ((ji10) : Int).toNat = y308 from Ny308.out.symm] at hr16;replace hr16 : Kd.C k37 _ A16 y308.length y308:=(by rw [hA16];exact hr16);rw [← hy16,← hA16,← hc16] at hcut16;have HR311:=Aside0.mk hr16;have HC311:=Aside0.mk (show y308.length ≤ c16 from by rw [hy16,hc16];exact Nat.sub_le_sub_right hroom16 _);clear hr16 hC16 hroom16 hi016 hsz16 hc16;have KY16:=Aside0.mk hy16;have KA16:=Aside0.mk hA16;clear hy16 hA16;replace q16:=eq_true q16))
         go_loopg [3,26] k1 (fun kq v3 v26 w' => ∃ (x3_2 : List (S78)) (x26_2 : Int),v26 = .int .i64 x26_2 ∧ Aside0 (impl_MeetsOf.l1 kq l0 x3_2 l0 (l0.length : Int) x16_1 y308 (y308.length : Int) x26_2 ((rd_T37 l0 x16_1).f0) ((rd_T37 l0 x16_1).f1) ((rd_T37 l0 x16_1).f2) ((rd_T37 l0 x16_1).f3) ((rd_T37 l0 x16_1).f4) = some r) ∧ Aside0 (kq ≤ k1) ∧ Aside0 (Kd.R k78 78 w' w.heap.size (fun _ => True) v3 x3_2) ∧ Aside0 (w'.heap[gb307]? = some (.cells #[.int .i64 ((rd_T37 l0 x16_1).f0),.int .i64 ((rd_T37 l0 x16_1).f1),.int .i64 ((rd_T37 l0 x16_1).f2),.string ((rd_T37 l0 x16_1).f3),(.slice A306_4 ((rd_T37 l0 x16_1).f4).length c306_4)] 37 (0,0))) ∧ Aside0 (Below w.heap.size w w'))
         case atStart => exact ⟨(x3_1),(0),(by first | rfl | (simp;done) | (simp [*];done)),H',⟨Nat.le_refl _⟩,⟨by (with_reducible repeat (first | apply Kd.R_alloc | apply Kd.R_drewN | apply Kd.R_drew));exact HO_3.out⟩,⟨by (with_reducible repeat (first | refine blk_drewN ?_ _ | refine blk_drew ?_ | refine blk_alloc ?_ _));exact BK307.out⟩,⟨Hd.b_⟩⟩
         case round =>
          clear H'
          try clear c1
          try clear q1
          try clear c2
          try clear p2
          try clear c3
          try clear p3
          try clear q3
          try clear hx3
          try clear p6
          try clear c7
          try clear c7b0
          try clear c8
          try clear c8b0
          try clear c9
          try clear c9b0
          try clear c11
          try clear c11b0
          try clear c11b1
          try clear c12
          try clear c12b0
          try clear c12b1
          try clear c16
          try clear q16
          try clear hcz14_0
          try clear hcz14_1
          try clear hcz14_2
          try clear hcz14_3
          try clear hcz14_4
          try clear hfz14_0
          try clear hfz14_1
          try clear hfz14_2
          try clear hfz14_3
          try clear hfz14_4
          try clear hx306_0
          try clear hx306_1
          try clear hx306_2
          try clear hx306_3
          try clear hx306_4
          try clear p2
          try clear p306
          try clear q016
          try clear q16
          try clear q306
          obtain ⟨x3_2,x26_2,rfl,HA,HK2,HO_3,BK307,HB⟩:=hrel
          cases gk with
          | zero => exact absurd HA.out (by simp [impl_MeetsOf.l1])
          | succ k2 =>
           have H:=HA.out
           clear HA
           simp only [impl_MeetsOf.l1] at H
           by_cases c17 : x26_2 < (y308.length : Int)
           ·
            rw [if_pos c17] at H
            have c17b0 : decide (x26_2 < (y308.length : Int)) = true:=decide_eq_true c17
            clear c17
            by_cases c18 : 0 ≤ x26_2
            ·
             rw [if_pos c18] at H
             have c18b0 : decide (0 ≤ x26_2) = true:=decide_eq_true c18
             clear c18
             by_cases c19 : x26_2 < (y308.length : Int)
             ·
              rw [if_pos c19] at H
              have c19b0 : decide (x26_2 < (y308.length : Int)) = true:=decide_eq_true c19
              clear c19
              replace H:=Option.bind_eq_some_iff.mp H
              obtain ⟨t314,A200,H⟩:=H
              replace H : (if t314 = 0 then (impl_MeetsOf.l1 k2 l0 x3_2 l0 (l0.length : Int) x16_1 y308 (y308.length : Int) (wrap64 (x26_2 + 1)) ((rd_T37 l0 x16_1).f0) ((rd_T37 l0 x16_1).f1) ((rd_T37 l0 x16_1).f2) ((rd_T37 l0 x16_1).f3) ((rd_T37 l0 x16_1).f4)) else (if x3_2.length < 5864062014805 then (impl_MeetsOf.l1 k2 l0 (x3_2 ++ [(⟨((rd_T37 l0 x16_1).f0),(rd_T37 y308 x26_2).f0,t314⟩ : S78)]) l0 (l0.length : Int) x16_1 y308 (y308.length : Int) (wrap64 (x26_2 + 1)) ((rd_T37 l0 x16_1).f0) ((rd_T37 l0 x16_1).f1) ((rd_T37 l0 x16_1).f2) ((rd_T37 l0 x16_1).f3) ((rd_T37 l0 x16_1).f4)) else (none))) = some r:=H
              have A20:=Aside0.mk A200
              clear A200
              by_cases c21 : t314 = 0
              ·
               rw [if_pos c21] at H
               have c21b0 : (t314 == 0) = true:=beq_iff_eq.mpr c21
               have c21b1 : (t314 != 0) = false:=bne_eq_false_iff_eq.mpr c21
               clear c21
               have H':=Aside0.mk H
               clear H
               have p312 : 0 ≤ (x26_2 : Int):=of_decide_eq_true Hd.a_
               have q312 : x26_2 < (y308.length : Int):=of_decide_eq_true Hd.a_
               obtain ⟨ad312,A312_4,c312_4,e312,hx312_0,hx312_1,hx312_2,hx312_3,hx312_4,hl312_4,hi312_4⟩:=at_T37 HR311.out x26_2 p312 q312
               cases e312
               replace hx312_0:=(HB.out.cell (World.block_lt_of_cell? w _ hx312_0)).trans hx312_0
               replace hx312_1:=(HB.out.cell (World.block_lt_of_cell? w _ hx312_1)).trans hx312_1
               replace hx312_2:=(HB.out.cell (World.block_lt_of_cell? w _ hx312_2)).trans hx312_2
               replace hx312_3:=(HB.out.cell (World.block_lt_of_cell? w _ hx312_3)).trans hx312_3
               replace hx312_4:=(HB.out.cell (World.block_lt_of_cell? w _ hx312_4)).trans hx312_4
               have HR312_4:=Aside0.mk hi312_4
               have HC312_4:=Aside0.mk hl312_4
               clear hi312_4 hl312_4
               replace p312:=eq_true p312
               replace q312:=eq_true q312
               go_wp2_with (first | ((with_reducible refine gate_dst (N:=7) rfl ?_);refine Hd.box_ 7 (#[.int .i64 0,.int .i64 0,.int .i64 0,.string (⟨#[]⟩ : ByteArray),.slice none 0 0]) 37 ?_;intro gb313 hg w22 hbox hb;replace HO_3:=Aside0.mk (Kd.R_below (Hd.r_ HO_3) hb);have BK313:=Aside0.mk (hbox);have GW313:=Aside0.mk ((Hd.g_ hg Hd.b_ : w.heap.size ≤ gb313));have GE313:=Aside0.mk ((Hd.g_ hg Hd.b_ : w.heap.size ≤ gb313));replace HB:=Aside0.mk (below_step Hd.b_ hb);have NB307_313:=Aside0.mk ((Hd.lt_ BK307 hg));have NB313_307:=Aside0.mk ((Hd.gt_ BK307 hg));replace BK307:=Aside0.mk (Hd.kb_ BK307 hb);clear hb hbox hg;have hnb23:=NB313_307.out;have hnc23:=NB307_313.out;obtain ⟨hcz24_0,hcz24_1,hcz24_2,hcz24_3,hcz24_4⟩:=Hd.c5_ BK313.out;obtain ⟨hfz24_0,hfz24_1,hfz24_2,hfz24_3,hfz24_4⟩:=Hd.f5_ BK313.out;obtain ⟨hcz25_0,hcz25_1,hcz25_2,hcz25_3,hcz25_4⟩:=Hd.c5_ BK307.out;obtain ⟨hfz25_0,hfz25_1,hfz25_2,hfz25_3,hfz25_4⟩:=Hd.f5_ BK307.out) | ((with_reducible refine gate_callee (f:=19) rfl ?_);refine goesL_ (some 32) rfl rfl Try.func19 (by kernel_rfl) rfl #[.agg #[.int .i64 ((rd_T37 l0 x16_1).f0),.int .i64 ((rd_T37 l0 x16_1).f1),.int .i64 ((rd_T37 l0 x16_1).f2),.string ((rd_T37 l0 x16_1).f3),.slice A306_4 ((rd_T37 l0 x16_1).f4).length c306_4],.agg #[.int .i64 ((rd_T37 y308 x26_2).f0),.int .i64 ((rd_T37 y308 x26_2).f1),.int .i64 ((rd_T37 y308 x26_2).f2),.string ((rd_T37 y308 x26_2).f3),.slice A312_4 ((rd_T37 y308 x26_2).f4).length c312_4]] rfl Hd.m_ ?_;(with_reducible refine (impl_FeaturesMeet.calls k2 ((rd_T37 l0 x16_1).f0) ((rd_T37 l0 x16_1).f1) ((rd_T37 l0 x16_1).f2) ((rd_T37 l0 x16_1).f3) _ _ ((rd_T37 l0 x16_1).f4) ((rd_T37 y308 x26_2).f0) ((rd_T37 y308 x26_2).f1) ((rd_T37 y308 x26_2).f2) ((rd_T37 y308 x26_2).f3) _ _ ((rd_T37 y308 x26_2).f4) t314 _ ?side1 ?side2 ?side3 ?side4 A20.out).mono ?_);(case side1 => exact Kd.C_below HR306_4.out Hd.b_);(case side2 => exact HC306_4.out);(case side3 => exact Kd.C_below HR312_4.out Hd.b_);(case side4 => exact HC312_4.out);rintro e w26 ⟨rfl,hb⟩;refine ⟨_,rfl,?_⟩;replace HO_3:=Aside0.mk (Kd.R_below (by (with_reducible repeat (first | apply Kd.R_alloc | apply Kd.R_drewN | apply Kd.R_drew));exact (Kd.R_mono (Kd.R_far (p:=⟨gb313,4,none⟩) (Kd.R_far (p:=⟨gb313,3,none⟩) (Kd.R_far (p:=⟨gb313,2,none⟩) (Kd.R_far (p:=⟨gb313,1,none⟩) (Kd.R_far (p:=⟨gb313,0,none⟩) (Kd.R_types HO_3.out BK313.out (by decide)) (fun _ hk => hk.2) (.int .i64 ((rd_T37 y308 x26_2).f0))) (fun _ hk => hk.2) (.int .i64 ((rd_T37 y308 x26_2).f1))) (fun _ hk => hk.2) (.int .i64 ((rd_T37 y308 x26_2).f2))) (fun _ hk => hk.2) (.string ((rd_T37 y308 x26_2).f3))) (fun _ hk => hk.2) (.slice A312_4 ((rd_T37 y308 x26_2).f4).length c312_4)) (fun _ h_ => h_.1))) hb);replace BK307:=Aside0.mk (blk_below (g:=gb307) (o:=.cells #[.int .i64 ((rd_T37 l0 x16_1).f0),.int .i64 ((rd_T37 l0 x16_1).f1),.int .i64 ((rd_T37 l0 x16_1).f2),.string ((rd_T37 l0 x16_1).f3),.slice A306_4 ((rd_T37 l0 x16_1).f4).length c306_4] 37 (0,0)) (by (with_reducible repeat (first | refine blk_drewN ?_ _ | refine blk_drew ?_ | refine blk_alloc ?_ _));refine blk_far ?_ NB307_313.out _;(with_reducible repeat (first | refine blk_drewN ?_ _ | refine blk_drew ?_ | refine blk_alloc ?_ _));refine blk_far ?_ NB307_313.out _;(with_reducible repeat (first | refine blk_drewN ?_ _ | refine blk_drew ?_ | refine blk_alloc ?_ _));refine blk_far ?_ NB307_313.out _;(with_reducible repeat (first | refine blk_drewN ?_ _ | refine blk_drew ?_ | refine blk_alloc ?_ _));refine blk_far ?_ NB307_313.out _;(with_reducible repeat (first | refine blk_drewN ?_ _ | refine blk_drew ?_ | refine blk_alloc ?_ _));refine blk_far ?_ NB307_313.out _;(with_reducible repeat (first | refine blk_drewN ?_ _ | refine blk_drew ?_ | refine blk_alloc ?_ _));exact BK307.out) hb);replace BK313:=Aside0.mk (blk_below (g:=gb313) (o:=.cells #[.int .i64 ((rd_T37 y308 x26_2).f0),.int .i64 ((rd_T37 y308 x26_2).f1),.int .i64 ((rd_T37 y308 x26_2).f2),.string ((rd_T37 y308 x26_2).f3),.slice A312_4 ((rd_T37 y308 x26_2).f4).length c312_4] 37 (0,0)) (by (with_reducible repeat (first | refine blk_drewN ?_ _ | refine blk_drew ?_ | refine blk_alloc ?_ _));refine blk_put (cs:=#[.int .i64 ((rd_T37 y308 x26_2).f0),.int .i64 ((rd_T37 y308 x26_2).f1),.int .i64 ((rd_T37 y308 x26_2).f2),.string ((rd_T37 y308 x26_2).f3),.slice none 0 0]) ?_ 4 _ rfl;(with_reducible repeat (first | refine blk_drewN ?_ _ | refine blk_drew ?_ | refine blk_alloc ?_ _));refine blk_put (cs:=#[.int .i64 ((rd_T37 y308 x26_2).f0),.int .i64 ((rd_T37 y308 x26_2).f1),.int .i64 ((rd_T37 y308 x26_2).f2),.string (⟨#[]⟩ : ByteArray),.slice none 0 0]) ?_ 3 _ rfl;(with_reducible repeat (first | refine blk_drewN ?_ _ | refine blk_drew ?_ | refine blk_alloc ?_ _));refine blk_put (cs:=#[.int .i64 ((rd_T37 y308 x26_2).f0),.int .i64 ((rd_T37 y308 x26_2).f1),.int .i64 0,.string (⟨#[]⟩ : ByteArray),.slice none 0 0]) ?_ 2 _ rfl;(with_reducible repeat (first | refine blk_drewN ?_ _ | refine blk_drew ?_ | refine blk_alloc ?_ _));refine blk_put (cs:=#[.int .i64 ((rd_T37 y308 x26_2).f0),.int .i64 0,.int .i64 0,.string (⟨#[]⟩ : ByteArray),.slice none 0 0]) ?_ 1 _ rfl;(with_reducible repeat (first | refine blk_drewN ?_ _ | refine blk_drew ?_ | refine blk_alloc ?_ _));refine blk_put (cs:=#[.int .i64 0,.int .i64 0,.int .i64 0,.string (⟨#[]⟩ : ByteArray),.slice none 0 0]) ?_ 0 _ rfl;(with_reducible repeat (first | refine blk_drewN ?_ _ | refine blk_drew ?_ | refine blk_alloc ?_ _));exact BK313.out) hb);replace HB:=Aside0.mk (below_step Hd.b_ hb);(try clear hb);(try clear hb2);(try clear hk);(try clear hi)))
               go_roundg k2
               case measure => have:=HK1.out;have:=HK2.out;omega
               case rel => exact ⟨(x3_2),(wrap64 (x26_2 + 1)),(by first | rfl | (simp;done) | (simp [*];done)),H',⟨by have:=HK1.out;have:=HK2.out;omega⟩,⟨by (with_reducible repeat (first | apply Kd.R_alloc | apply Kd.R_drewN | apply Kd.R_drew));exact HO_3.out⟩,⟨by (with_reducible repeat (first | refine blk_drewN ?_ _ | refine blk_drew ?_ | refine blk_alloc ?_ _));exact BK307.out⟩,⟨Hd.b_⟩⟩
              ·
               rw [if_neg c21] at H
               have c21b0 : (t314 == 0) = false:=beq_eq_false_iff_ne.mpr c21
               have c21b1 : (t314 != 0) = true:=bne_iff_ne.mpr c21
               by_cases c27 : x3_2.length < 5864062014805
               ·
                rw [if_pos c27] at H
                have LMc27:=Aside0.mk c27
                clear c27
                obtain ⟨y315,hy315⟩ : ∃ y_ : List (S78),y_ = (x3_2 ++ [(⟨((rd_T37 l0 x16_1).f0),(rd_T37 y308 x26_2).f0,t314⟩ : S78)]):=⟨_,rfl⟩
                replace H : (impl_MeetsOf.l1 k2 l0 y315 l0 (l0.length : Int) x16_1 y308 (y308.length : Int) (wrap64 (x26_2 + 1)) ((rd_T37 l0 x16_1).f0) ((rd_T37 l0 x16_1).f1) ((rd_T37 l0 x16_1).f2) ((rd_T37 l0 x16_1).f3) ((rd_T37 l0 x16_1).f4)) = some r:=by first | (rw [hy315];with_reducible exact H) | (have H2_:=(Option.bind_some _ _).symm.trans H;rw [hy315];with_reducible exact H2_) | (have H2_:=(Option.bind_some _ _).symm.trans H;with_reducible exact H2_) | with_reducible exact H | (rw [hy315];exact H) | exact H
                have Ny315:=Aside0.mk hy315
                clear hy315
                have H':=Aside0.mk H
                clear H
                have p312 : 0 ≤ (x26_2 : Int):=of_decide_eq_true Hd.a_
                have q312 : x26_2 < (y308.length : Int):=of_decide_eq_true Hd.a_
                obtain ⟨ad312,A312_4,c312_4,e312,hx312_0,hx312_1,hx312_2,hx312_3,hx312_4,hl312_4,hi312_4⟩:=at_T37 HR311.out x26_2 p312 q312
                cases e312
                replace hx312_0:=(HB.out.cell (World.block_lt_of_cell? w _ hx312_0)).trans hx312_0
                replace hx312_1:=(HB.out.cell (World.block_lt_of_cell? w _ hx312_1)).trans hx312_1
                replace hx312_2:=(HB.out.cell (World.block_lt_of_cell? w _ hx312_2)).trans hx312_2
                replace hx312_3:=(HB.out.cell (World.block_lt_of_cell? w _ hx312_3)).trans hx312_3
                replace hx312_4:=(HB.out.cell (World.block_lt_of_cell? w _ hx312_4)).trans hx312_4
                have HR312_4:=Aside0.mk hi312_4
                have HC312_4:=Aside0.mk hl312_4
                clear hi312_4 hl312_4
                replace p312:=eq_true p312
                replace q312:=eq_true q312
                go_wp2_with (first | ((with_reducible refine gate_dst (N:=7) rfl ?_);refine Hd.box_ 7 (#[.int .i64 0,.int .i64 0,.int .i64 0,.string (⟨#[]⟩ : ByteArray),.slice none 0 0]) 37 ?_;intro gb313 hg w28 hbox hb;replace HO_3:=Aside0.mk (Kd.R_below (Hd.r_ HO_3) hb);have BK313:=Aside0.mk (hbox);have GW313:=Aside0.mk ((Hd.g_ hg Hd.b_ : w.heap.size ≤ gb313));have GE313:=Aside0.mk ((Hd.g_ hg Hd.b_ : w.heap.size ≤ gb313));replace HB:=Aside0.mk (below_step Hd.b_ hb);have NB307_313:=Aside0.mk ((Hd.lt_ BK307 hg));have NB313_307:=Aside0.mk ((Hd.gt_ BK307 hg));replace BK307:=Aside0.mk (Hd.kb_ BK307 hb);clear hb hbox hg;have hnb29:=NB313_307.out;have hnc29:=NB307_313.out;obtain ⟨hcz30_0,hcz30_1,hcz30_2,hcz30_3,hcz30_4⟩:=Hd.c5_ BK313.out;obtain ⟨hfz30_0,hfz30_1,hfz30_2,hfz30_3,hfz30_4⟩:=Hd.f5_ BK313.out;obtain ⟨hcz31_0,hcz31_1,hcz31_2,hcz31_3,hcz31_4⟩:=Hd.c5_ BK307.out;obtain ⟨hfz31_0,hfz31_1,hfz31_2,hfz31_3,hfz31_4⟩:=Hd.f5_ BK307.out) | ((with_reducible refine gate_callee (f:=19) rfl ?_);refine goesL_ (some 32) rfl rfl Try.func19 (by kernel_rfl) rfl #[.agg #[.int .i64 ((rd_T37 l0 x16_1).f0),.int .i64 ((rd_T37 l0 x16_1).f1),.int .i64 ((rd_T37 l0 x16_1).f2),.string ((rd_T37 l0 x16_1).f3),.slice A306_4 ((rd_T37 l0 x16_1).f4).length c306_4],.agg #[.int .i64 ((rd_T37 y308 x26_2).f0),.int .i64 ((rd_T37 y308 x26_2).f1),.int .i64 ((rd_T37 y308 x26_2).f2),.string ((rd_T37 y308 x26_2).f3),.slice A312_4 ((rd_T37 y308 x26_2).f4).length c312_4]] rfl Hd.m_ ?_;(with_reducible refine (impl_FeaturesMeet.calls k2 ((rd_T37 l0 x16_1).f0) ((rd_T37 l0 x16_1).f1) ((rd_T37 l0 x16_1).f2) ((rd_T37 l0 x16_1).f3) _ _ ((rd_T37 l0 x16_1).f4) ((rd_T37 y308 x26_2).f0) ((rd_T37 y308 x26_2).f1) ((rd_T37 y308 x26_2).f2) ((rd_T37 y308 x26_2).f3) _ _ ((rd_T37 y308 x26_2).f4) t314 _ ?side1 ?side2 ?side3 ?side4 A20.out).mono ?_);(case side1 => exact Kd.C_below HR306_4.out Hd.b_);(case side2 => exact HC306_4.out);(case side3 => exact Kd.C_below HR312_4.out Hd.b_);(case side4 => exact HC312_4.out);rintro e w32 ⟨rfl,hb⟩;refine ⟨_,rfl,?_⟩;replace HO_3:=Aside0.mk (Kd.R_below (by (with_reducible repeat (first | apply Kd.R_alloc | apply Kd.R_drewN | apply Kd.R_drew));exact (Kd.R_mono (Kd.R_far (p:=⟨gb313,4,none⟩) (Kd.R_far (p:=⟨gb313,3,none⟩) (Kd.R_far (p:=⟨gb313,2,none⟩) (Kd.R_far (p:=⟨gb313,1,none⟩) (Kd.R_far (p:=⟨gb313,0,none⟩) (Kd.R_types HO_3.out BK313.out (by decide)) (fun _ hk => hk.2) (.int .i64 ((rd_T37 y308 x26_2).f0))) (fun _ hk => hk.2) (.int .i64 ((rd_T37 y308 x26_2).f1))) (fun _ hk => hk.2) (.int .i64 ((rd_T37 y308 x26_2).f2))) (fun _ hk => hk.2) (.string ((rd_T37 y308 x26_2).f3))) (fun _ hk => hk.2) (.slice A312_4 ((rd_T37 y308 x26_2).f4).length c312_4)) (fun _ h_ => h_.1))) hb);replace BK307:=Aside0.mk (blk_below (g:=gb307) (o:=.cells #[.int .i64 ((rd_T37 l0 x16_1).f0),.int .i64 ((rd_T37 l0 x16_1).f1),.int .i64 ((rd_T37 l0 x16_1).f2),.string ((rd_T37 l0 x16_1).f3),.slice A306_4 ((rd_T37 l0 x16_1).f4).length c306_4] 37 (0,0)) (by (with_reducible repeat (first | refine blk_drewN ?_ _ | refine blk_drew ?_ | refine blk_alloc ?_ _));refine blk_far ?_ NB307_313.out _;(with_reducible repeat (first | refine blk_drewN ?_ _ | refine blk_drew ?_ | refine blk_alloc ?_ _));refine blk_far ?_ NB307_313.out _;(with_reducible repeat (first | refine blk_drewN ?_ _ | refine blk_drew ?_ | refine blk_alloc ?_ _));refine blk_far ?_ NB307_313.out _;(with_reducible repeat (first | refine blk_drewN ?_ _ | refine blk_drew ?_ | refine blk_alloc ?_ _));refine blk_far ?_ NB307_313.out _;(with_reducible repeat (first | refine blk_drewN ?_ _ | refine blk_drew ?_ | refine blk_alloc ?_ _));refine blk_far ?_ NB307_313.out _;(with_reducible repeat (first | refine blk_drewN ?_ _ | refine blk_drew ?_ | refine blk_alloc ?_ _));exact BK307.out) hb);replace BK313:=Aside0.mk (blk_below (g:=gb313) (o:=.cells #[.int .i64 ((rd_T37 y308 x26_2).f0),.int .i64 ((rd_T37 y308 x26_2).f1),.int .i64 ((rd_T37 y308 x26_2).f2),.string ((rd_T37 y308 x26_2).f3),.slice A312_4 ((rd_T37 y308 x26_2).f4).length c312_4] 37 (0,0)) (by (with_reducible repeat (first | refine blk_drewN ?_ _ | refine blk_drew ?_ | refine blk_alloc ?_ _));refine blk_put (cs:=#[.int .i64 ((rd_T37 y308 x26_2).f0),.int .i64 ((rd_T37 y308 x26_2).f1),.int .i64 ((rd_T37 y308 x26_2).f2),.string ((rd_T37 y308 x26_2).f3),.slice none 0 0]) ?_ 4 _ rfl;(with_reducible repeat (first | refine blk_drewN ?_ _ | refine blk_drew ?_ | refine blk_alloc ?_ _));refine blk_put (cs:=#[.int .i64 ((rd_T37 y308 x26_2).f0),.int .i64 ((rd_T37 y308 x26_2).f1),.int .i64 ((rd_T37 y308 x26_2).f2),.string (⟨#[]⟩ : ByteArray),.slice none 0 0]) ?_ 3 _ rfl;(with_reducible repeat (first | refine blk_drewN ?_ _ | refine blk_drew ?_ | refine blk_alloc ?_ _));refine blk_put (cs:=#[.int .i64 ((rd_T37 y308 x26_2).f0),.int .i64 ((rd_T37 y308 x26_2).f1),.int .i64 0,.string (⟨#[]⟩ : ByteArray),.slice none 0 0]) ?_ 2 _ rfl;(with_reducible repeat (first | refine blk_drewN ?_ _ | refine blk_drew ?_ | refine blk_alloc ?_ _));refine blk_put (cs:=#[.int .i64 ((rd_T37 y308 x26_2).f0),.int .i64 0,.int .i64 0,.string (⟨#[]⟩ : ByteArray),.slice none 0 0]) ?_ 1 _ rfl;(with_reducible repeat (first | refine blk_drewN ?_ _ | refine blk_drew ?_ | refine blk_alloc ?_ _));refine blk_put (cs:=#[.int .i64 0,.int .i64 0,.int .i64 0,.string (⟨#[]⟩ : ByteArray),.slice none 0 0]) ?_ 0 _ rfl;(with_reducible repeat (first | refine blk_drewN ?_ _ | refine blk_drew ?_ | refine blk_alloc ?_ _));exact BK313.out) hb);replace HB:=Aside0.mk (below_step Hd.b_ hb);(try clear hb);(try clear hb2);(try clear hk);(try clear hi);obtain ⟨hcz33_0,hcz33_1,hcz33_2,hcz33_3,hcz33_4⟩:=Hd.c5_ BK307.out;obtain ⟨hfz33_0,hfz33_1,hfz33_2,hfz33_3,hfz33_4⟩:=Hd.f5_ BK307.out;obtain ⟨hcz34_0,hcz34_1,hcz34_2,hcz34_3,hcz34_4⟩:=Hd.c5_ BK313.out;obtain ⟨hfz34_0,hfz34_1,hfz34_2,hfz34_3,hfz34_4⟩:=Hd.f5_ BK313.out) | ((with_reducible refine gate_builtin (b:=.append) (xs:=#[.tmp 35,.tmp 42]) rfl ?_);at_builtin;refine Kd.R_append k78 (w0:=w) w.heap.size rfl (.tmp 35) (.tmp 42) 42 78 (.agg #[(.int .i64 0),(.int .i64 0),(.int .i64 0)]) 24 rfl Try.underlying42 info78 rfl (by decide) (by omega) u3 x3_2 (⟨((rd_T37 l0 x16_1).f0),(rd_T37 y308 x26_2).f0,t314⟩ : S78) [.int .i64 ((rd_T37 l0 x16_1).f0),.int .i64 ((rd_T37 y308 x26_2).f0),.int .i64 t314] (fun _ => True) (fun _ => False) rfl rfl ?aP (fun _ hk => hk.elim) ?aF ?aO ?aB ?aS ?aL ?_;(case aP => exact k78_mkM _ _ _ (⟨((rd_T37 l0 x16_1).f0),(rd_T37 y308 x26_2).f0,t314⟩ : S78));(case aB => exact Hd.b_);(case aF => exact (fun _ _ => trivial));(case aO => exact (Hd.r_ HO_3));(case aS => exact (below_size Hd.b_));(case aL => have:=LMc27.out;omega);intro v316 w35 ho hb hg hat;rw [← Ny315.out] at ho;have n0_:=Aside0.mk (blk_grown (g:=gb307) (o:=.cells #[.int .i64 ((rd_T37 l0 x16_1).f0),.int .i64 ((rd_T37 l0 x16_1).f1),.int .i64 ((rd_T37 l0 x16_1).f2),.string ((rd_T37 l0 x16_1).f3),.slice A306_4 ((rd_T37 l0 x16_1).f4).length c306_4] 37 (0,0)) (Hd.k_ BK307) hg (Kd.R_ne HO_3.out BK307.out (by decide)));have n1_:=Aside0.mk (blk_grown (g:=gb313) (o:=.cells #[.int .i64 ((rd_T37 y308 x26_2).f0),.int .i64 ((rd_T37 y308 x26_2).f1),.int .i64 ((rd_T37 y308 x26_2).f2),.string ((rd_T37 y308 x26_2).f3),.slice A312_4 ((rd_T37 y308 x26_2).f4).length c312_4] 37 (0,0)) (Hd.k_ BK313) hg (Kd.R_ne HO_3.out BK313.out (by decide)));have n2_:=Aside0.mk (hb);have n3_:=Aside0.mk (ho);clear BK307;clear BK313;clear HB;clear HO_3;have BK307:=n0_;have BK313:=n1_;have HB:=n2_;have HO317:=n3_;clear n0_ n1_ n2_ n3_;clear ho hb hg hat))
                go_roundg k2
                case measure => have:=HK1.out;have:=HK2.out;omega
                case rel => exact ⟨(y315),(wrap64 (x26_2 + 1)),(by first | rfl | (simp;done) | (simp [*];done)),H',⟨by have:=HK1.out;have:=HK2.out;omega⟩,⟨by (with_reducible repeat (first | apply Kd.R_alloc | apply Kd.R_drewN | apply Kd.R_drew));exact HO317.out⟩,⟨by (with_reducible repeat (first | refine blk_drewN ?_ _ | refine blk_drew ?_ | refine blk_alloc ?_ _));exact BK307.out⟩,⟨Hd.b_⟩⟩
               ·
                rw [if_neg c27] at H
                exact absurd H (by simp)
             ·
              rw [if_neg c19] at H
              exact absurd H (by simp)
            ·
             rw [if_neg c18] at H
             exact absurd H (by simp)
           ·
            rw [if_neg c17] at H
            have c17b0 : decide (x26_2 < (y308.length : Int)) = false:=decide_eq_false c17
            clear c17
            have H':=Aside0.mk H
            clear H
            go_wp2
            go_roundg k2
            case measure => have:=HK1.out;have:=HK2.out;omega
            case rel => exact ⟨(x3_2),(wrap64 (x16_1 + 1)),(by first | rfl | (simp;done) | (simp [*];done)),H',⟨by have:=HK1.out;have:=HK2.out;omega⟩,⟨by (with_reducible repeat (first | apply Kd.R_alloc | apply Kd.R_drewN | apply Kd.R_drew));exact HO_3.out⟩,⟨Hd.b_⟩⟩
        ·
         rw [if_neg c12] at H
         exact absurd H (by simp)
       ·
        rw [if_neg c11] at H
        exact absurd H (by simp)
      ·
       rw [if_neg c9] at H
       exact absurd H (by simp)
     ·
      rw [if_neg c8] at H
      exact absurd H (by simp)
    ·
     rw [if_neg c7] at H
     have c7b0 : decide (x16_1 < (l0.length : Int)) = false:=decide_eq_false c7
     clear c7
     obtain rfl:=Option.some.inj H
     go_wp2
     go_ret
     exact ⟨_,Hd.e_,by (with_reducible repeat (first | apply Kd.R_alloc | apply Kd.R_drewN | apply Kd.R_drew));exact HO_3.out,Hd.b_⟩
 ·
  replace c3:=Bool.eq_false_iff.mpr c3
  subst c3
  have H1 : (some y302) = some r:=by rw [if_neg (show ¬ (false = true) by decide)] at H;exact H
  clear H
  have H:=H1
  clear H1
  obtain rfl:=Option.some.inj H
  go_enter Try.func21,Try.ntmps21
  go_wp2_with (first | ((with_reducible refine gate_dst (N:=9) rfl ?_);refine Kd.R_lit k78 _ 78 ?hg (N:=9) ?hd (xs:=([] : List (S78))) (inner:=[]) (ok:=fun _ => True) (okp:=fun _ => True) ?hr ?hp (fun _ hk => hk) trivial (Below.refl _ _) (Nat.le_refl _) (by simp) ?_;(case hd => rfl);(case hg => rfl);(case hr => first | (go_simp;done) | (go_simp;rfl));(case hp => exact (Reps.none _ _));intro v303 w36 ho37 hb hg_ hnew_;clear hg_ hnew_;(first | rw [← Ny302.out] at ho37 | (simp only [Int.reduceToNat] at ho37;rw [← Ny302.out] at ho37));have HO304:=Aside0.mk (Kd.R_lower ho37 (below_size Hd.b_));replace HB:=Aside0.mk (below_step Hd.b_ hb);clear hb ho37) | ((with_reducible refine gate_callee (f:=24) rfl ?_);refine goesL_ (some 11) rfl rfl Try.func24 (by kernel_rfl) rfl #[.slice A0 l0.length c0] rfl Hd.m_ ?_;(with_reducible refine (impl_IsSource.calls k _ _ l0 false _ ?side1 ?side2 A2.out).mono ?_);(case side1 => repeat (first | exact (Kd.C_below HR0.out HB.out) | (with_reducible refine Kd.C_alloc ?_ _) | (with_reducible refine Kd.C_drewN ?_ _) | (with_reducible refine Kd.C_drew ?_)));(case side2 => exact HC0.out);rintro e w38 ⟨rfl,hb⟩;refine ⟨_,rfl,?_⟩;replace HO304:=Aside0.mk (Kd.R_below (Hd.r_ HO304) hb);replace HB:=Aside0.mk (below_step Hd.b_ hb);(try clear hb);(try clear hb2);(try clear hk);(try clear hi)))
  go_ret
  exact ⟨_,Hd.e_,by (with_reducible repeat (first | apply Kd.R_alloc | apply Kd.R_drewN | apply Kd.R_drew));exact HO304.out,Hd.b_⟩
def spec_l1In.f (a0 : Int) (a1 : Int) (a2 : Int) : Option (Bool):=if a0 ≥ a1 then (some (decide (a0 ≤ a2))) else (some false)
set_option maxHeartbeats 8000000 in
set_option maxRecDepth 100000 in
theorem spec_l1In.calls (a0 : Int) (a1 : Int) (a2 : Int) (r : Bool) (w : World) (h : spec_l1In.f a0 a1 a2 = some r) :
  Calls Try.prog 61 #[.int .i64 a0,.int .i64 a1,.int .i64 a2] w fun e w' => e = .returned (.bool r) ∧ Drawn0 w w':=by
 have H : (if a0 ≥ a1 then (some (decide (a0 ≤ a2))) else (some false)) = some r:=h
 clear h
 by_cases c4 : a0 ≥ a1
 ·
  rw [if_pos c4] at H
  have c4b0 : decide (a1 ≤ a0) = true:=decide_eq_true c4
  clear c4
  obtain rfl:=Option.some.inj H
  go_enter Try.func61,Try.ntmps61
  go_wp2
  go_ret
  exact ⟨by first | rfl | (simp;done) | (simp [*];done),by repeat (first | exact Drawn0.refl _ | apply Drawn0.step)⟩
 ·
  rw [if_neg c4] at H
  have c4b0 : decide (a1 ≤ a0) = false:=decide_eq_false c4
  clear c4
  obtain rfl:=Option.some.inj H
  go_enter Try.func61,Try.ntmps61
  go_wp2
  go_ret
  exact ⟨by first | rfl | (simp;done) | (simp [*];done),by repeat (first | exact Drawn0.refl _ | apply Drawn0.step)⟩
def spec_IsPoint.f (a0_0 : Int) (a0_1 : Int) : Option (Bool):=(spec_l1In.f a0_0 0 200).bind fun t319 => (if t319 = true then ((spec_l1In.f a0_1 0 200).bind fun t320 => (some t320)) else (some false))
set_option maxHeartbeats 8000000 in
set_option maxRecDepth 100000 in
theorem spec_IsPoint.calls (a0_0 : Int) (a0_1 : Int) (r : Bool) (w : World) (h : spec_IsPoint.f a0_0 a0_1 = some r) :
  Calls Try.prog 88 #[.agg #[.int .i64 a0_0,.int .i64 a0_1]] w fun e w' => e = .returned (.bool r) ∧ Below w.heap.size w w':=by
 have hu63:=Try.underlying63
 have HB:=Aside0.mk (Below.refl w.heap.size w)
 have H : ((spec_l1In.f a0_0 0 200).bind fun t319 => (if t319 = true then ((spec_l1In.f a0_1 0 200).bind fun t320 => (some t320)) else (some false))) = some r:=h
 clear h
 replace H:=Option.bind_eq_some_iff.mp H
 obtain ⟨t319,A20,H⟩:=H
 replace H : (if t319 = true then ((spec_l1In.f a0_1 0 200).bind fun t320 => (some t320)) else (some false)) = some r:=H
 have A2:=Aside0.mk A20
 clear A20
 by_cases c3 : t319 = true
 ·
  subst c3
  have H1 : ((spec_l1In.f a0_1 0 200).bind fun t320 => (some t320)) = some r:=by rw [if_pos rfl] at H;exact H
  clear H
  have H:=H1
  clear H1
  replace H:=Option.bind_eq_some_iff.mp H
  obtain ⟨t320,A40,H⟩:=H
  replace H : (some t320) = some r:=H
  have A4:=Aside0.mk A40
  clear A40
  obtain rfl:=Option.some.inj H
  go_enter Try.func88,Try.ntmps88
  go_wp2_with (first | ((with_reducible refine gate_dst (N:=1) rfl ?_);refine Hd.box_ 1 (#[.int .i64 a0_0,.int .i64 a0_1]) 63 ?_;intro gb318 hg w5 hbox hb;have BK318:=Aside0.mk (hbox);have GW318:=Aside0.mk ((Hd.g_ hg Hd.b_ : w.heap.size ≤ gb318));have GE318:=Aside0.mk ((Hd.g_ hg Hd.b_ : w.heap.size ≤ gb318));replace HB:=Aside0.mk (below_step Hd.b_ hb);clear hb hbox hg;obtain ⟨hcz6_0,hcz6_1⟩:=Hd.c2_ BK318.out;obtain ⟨hfz6_0,hfz6_1⟩:=Hd.f2_ BK318.out) | ((with_reducible refine gate_callee (f:=61) rfl ?_);refine goesL_ (some 5) rfl rfl Try.func61 (by kernel_rfl) rfl #[.int .i64 a0_0,.int .i64 0,.int .i64 200] rfl Hd.m_ ?_;(with_reducible refine (spec_l1In.calls a0_0 0 200 true _ A2.out).mono ?_);rintro e w' ⟨rfl,⟨nd,rfl⟩⟩;refine ⟨_,rfl,?_⟩) | (go_at_call 61;(with_reducible refine (spec_l1In.calls a0_1 0 200 t320 _ A4.out).mono ?_);rintro e w' ⟨rfl,⟨nd,rfl⟩⟩))
  go_ret
  exact ⟨Hd.e_,Hd.b_⟩
 ·
  replace c3:=Bool.eq_false_iff.mpr c3
  subst c3
  have H1 : (some false) = some r:=by rw [if_neg (show ¬ (false = true) by decide)] at H;exact H
  clear H
  have H:=H1
  clear H1
  obtain rfl:=Option.some.inj H
  go_enter Try.func88,Try.ntmps88
  go_wp2_with (first | ((with_reducible refine gate_dst (N:=1) rfl ?_);refine Hd.box_ 1 (#[.int .i64 a0_0,.int .i64 a0_1]) 63 ?_;intro gb318 hg w7 hbox hb;have BK318:=Aside0.mk (hbox);have GW318:=Aside0.mk ((Hd.g_ hg Hd.b_ : w.heap.size ≤ gb318));have GE318:=Aside0.mk ((Hd.g_ hg Hd.b_ : w.heap.size ≤ gb318));replace HB:=Aside0.mk (below_step Hd.b_ hb);clear hb hbox hg;obtain ⟨hcz8_0,hcz8_1⟩:=Hd.c2_ BK318.out;obtain ⟨hfz8_0,hfz8_1⟩:=Hd.f2_ BK318.out) | ((with_reducible refine gate_callee (f:=61) rfl ?_);refine goesL_ (some 5) rfl rfl Try.func61 (by kernel_rfl) rfl #[.int .i64 a0_0,.int .i64 0,.int .i64 200] rfl Hd.m_ ?_;(with_reducible refine (spec_l1In.calls a0_0 0 200 false _ A2.out).mono ?_);rintro e w' ⟨rfl,⟨nd,rfl⟩⟩;refine ⟨_,rfl,?_⟩))
  go_ret
  exact ⟨Hd.e_,Hd.b_⟩
end Go.Proofs.Ytchmbcembbbplad.MFnExactMeetsOf
