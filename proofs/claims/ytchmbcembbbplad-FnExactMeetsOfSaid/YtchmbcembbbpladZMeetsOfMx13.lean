-- Laid by this session's program pp.py, after the kit's print and texts of the session's own. Not trusted: Lean checks it.
import Derived.Test.YtchmbcembbbpladZMeetsOfMx0
import Derived.Test.YtchmbcembbbpladZMeetsOfMx1
import Derived.Test.YtchmbcembbbpladZMeetsOfMx10
import Derived.Test.YtchmbcembbbpladZMeetsOfMx11
import Derived.Test.YtchmbcembbbpladZMeetsOfMx12
namespace Go.Proofs.Ytchmbcembbbplad.MFnExactMeetsOf
open Go.RowKit Go.Proofs.YtchmbcembbbpladW.PrintWords Go.Proofs.YtchmbcembbbpladW.PrintLast Go.Proofs.YtchmbcembbbpladW.PrintMore
attribute [local go_sem] max2_int min2_int max_two min_two max_three min_three max_four min_four   -- for this text's walks alone
set_option linter.unusedVariables false
set_option linter.unusedSimpArgs false
attribute [local go_sem high] eqA63
mutual
def spec_HowMeet.j0 : Nat → Bool → Int → Int → Int → Int → Int → Int → Int → Int → Option (Int)
 | 0,_,_,_,_,_,_,_,_,_ => none
 | k + 1,x12,x367000,x367001,x367002,x367003,x368000,x368001,x368002,x368003 => if x12 = true then (some 0) else ((spec_Max.f x367000 x367002).bind fun t370 => ((spec_Min.f x368000 x368002).bind fun t371 => (if t370 < t371 then (spec_HowMeet.j1 k true x367000 x367001 x367002 x367003 x368000 x368001 x368002 x368003) else ((spec_Max.f x368000 x368002).bind fun t372 => ((spec_Min.f x367000 x367002).bind fun t373 => (if t372 < t373 then (spec_HowMeet.j1 k true x367000 x367001 x367002 x367003 x368000 x368001 x368002 x368003) else ((spec_Max.f x367001 x367003).bind fun t374 => ((spec_Min.f x368001 x368003).bind fun t375 => (if t374 < t375 then (spec_HowMeet.j1 k true x367000 x367001 x367002 x367003 x368000 x368001 x368002 x368003) else ((spec_Max.f x368001 x368003).bind fun t376 => ((spec_Min.f x367001 x367003).bind fun t377 => (spec_HowMeet.j1 k (decide (t376 < t377)) x367000 x367001 x367002 x367003 x368000 x368001 x368002 x368003))))))))))))
def spec_HowMeet.j1 : Nat → Bool → Int → Int → Int → Int → Int → Int → Int → Int → Option (Int)
 | 0,_,_,_,_,_,_,_,_,_ => none
 | k + 1,x78,x367000,x367001,x367002,x367003,x368000,x368001,x368002,x368003 => if x78 = true then (some 0) else ((spec_l5Shared.f k x367000 x367001 x367002 x367003 x368000 x368001 x368002 x368003).bind fun t378 => (if t378 = 0 then ((spec_SideOf.f k x367000 x367001 x367002 x367003 x368000 x368001).bind fun t379 => ((spec_SideOf.f k x367000 x367001 x367002 x367003 x368002 x368003).bind fun t380 => (if (wrap64 (t379 * t380)) < 0 then ((spec_SideOf.f k x368000 x368001 x368002 x368003 x367000 x367001).bind fun t381 => ((spec_SideOf.f k x368000 x368001 x368002 x368003 x367002 x367003).bind fun t382 => (if (wrap64 (t381 * t382)) < 0 then (some 2) else (some 0)))) else (some 0)))) else (if t378 = 1 then (some 1) else (some 3))))
end
def spec_HowMeet.f (k : Nat) (a0_0 : Int) (a0_1 : Int) (a0_2 : Int) (a0_3 : Int) (a1_0 : Int) (a1_1 : Int) (a1_2 : Int) (a1_3 : Int) : Option (Int):=(spec_IsSegment.f a0_0 a0_1 a0_2 a0_3).bind fun t368 => (if t368 = true then ((spec_IsSegment.f a1_0 a1_1 a1_2 a1_3).bind fun t369 => (spec_HowMeet.j0 k (!t369) a0_0 a0_1 a0_2 a0_3 a1_0 a1_1 a1_2 a1_3)) else (spec_HowMeet.j0 k true a0_0 a0_1 a0_2 a0_3 a1_0 a1_1 a1_2 a1_3))
set_option maxHeartbeats 8000000 in
set_option maxRecDepth 100000 in
theorem spec_HowMeet.calls (k : Nat) (a0_0 : Int) (a0_1 : Int) (a0_2 : Int) (a0_3 : Int) (a1_0 : Int) (a1_1 : Int) (a1_2 : Int) (a1_3 : Int) (r : Int) (w : World) (h : spec_HowMeet.f k a0_0 a0_1 a0_2 a0_3 a1_0 a1_1 a1_2 a1_3 = some r) :
  Calls Try.prog 87 #[.agg #[.int .i64 a0_0,.int .i64 a0_1,.int .i64 a0_2,.int .i64 a0_3],.agg #[.int .i64 a1_0,.int .i64 a1_1,.int .i64 a1_2,.int .i64 a1_3]] w fun e w' => e = .returned (.int .i64 r) ∧ Below w.heap.size w w':=by
 have hu100:=Try.underlying100
 have hu63:=Try.underlying63
 have HB:=Aside0.mk (Below.refl w.heap.size w)
 have H : ((spec_IsSegment.f a0_0 a0_1 a0_2 a0_3).bind fun t368 => (if t368 = true then ((spec_IsSegment.f a1_0 a1_1 a1_2 a1_3).bind fun t369 => (spec_HowMeet.j0 k (!t369) a0_0 a0_1 a0_2 a0_3 a1_0 a1_1 a1_2 a1_3)) else (spec_HowMeet.j0 k true a0_0 a0_1 a0_2 a0_3 a1_0 a1_1 a1_2 a1_3))) = some r:=h
 clear h
 have HC3:=Aside0.mk H
 clear H
 go_enter Try.func87,Try.ntmps87
 go_upto_region 1 with (first | ((with_reducible refine gate_dst (N:=2) rfl ?_);refine Hd.box_ 2 (#[.int .i64 a0_0,.int .i64 a0_1,.int .i64 a0_2,.int .i64 a0_3]) 100 ?_;intro gb366 hg w4 hbox hb;have BK366:=Aside0.mk (hbox);have GW366:=Aside0.mk ((Hd.g_ hg Hd.b_ : w.heap.size ≤ gb366));have GE366:=Aside0.mk ((Hd.g_ hg Hd.b_ : w.heap.size ≤ gb366));replace HB:=Aside0.mk (below_step Hd.b_ hb);clear hb hbox hg) | ((with_reducible refine gate_dst (N:=3) rfl ?_);refine Hd.box_ 3 (#[.int .i64 a1_0,.int .i64 a1_1,.int .i64 a1_2,.int .i64 a1_3]) 100 ?_;intro gb367 hg w5 hbox hb;have BK367:=Aside0.mk (hbox);have GW367:=Aside0.mk ((Hd.g_ hg Hd.b_ : w.heap.size ≤ gb367));have GE367:=Aside0.mk ((Hd.g_ hg Hd.b_ : w.heap.size ≤ gb367));replace HB:=Aside0.mk (below_step Hd.b_ hb);have NB366_367:=Aside0.mk ((Hd.lt_ BK366 hg));have NB367_366:=Aside0.mk ((Hd.gt_ BK366 hg));replace BK366:=Aside0.mk (Hd.kb_ BK366 hb);clear hb hbox hg))
 (try simp only [Act.put,List.setIfInBounds_toArray,List.set_cons_zero,List.set_cons_succ])
 go_cut [12] (fun v12 wc => ∃ (kq : Nat) (x12_2 : Bool),v12 = .bool x12_2 ∧ Aside0 (spec_HowMeet.j0 kq x12_2 a0_0 a0_1 a0_2 a0_3 a1_0 a1_1 a1_2 a1_3 = some r) ∧ Aside0 (kq ≤ k) ∧ Aside0 (wc.heap[gb366]? = some (.cells #[.int .i64 a0_0,.int .i64 a0_1,.int .i64 a0_2,.int .i64 a0_3] 100 (0,0))) ∧ Aside0 (wc.heap[gb367]? = some (.cells #[.int .i64 a1_0,.int .i64 a1_1,.int .i64 a1_2,.int .i64 a1_3] 100 (0,0))) ∧ Aside0 (Below w.heap.size w wc))
 case first =>
  have H:=HC3.out
  clear HC3
  replace H:=Option.bind_eq_some_iff.mp H
  obtain ⟨t368,A60,H⟩:=H
  replace H : (if t368 = true then ((spec_IsSegment.f a1_0 a1_1 a1_2 a1_3).bind fun t369 => (spec_HowMeet.j0 k (!t369) a0_0 a0_1 a0_2 a0_3 a1_0 a1_1 a1_2 a1_3)) else (spec_HowMeet.j0 k true a0_0 a0_1 a0_2 a0_3 a1_0 a1_1 a1_2 a1_3)) = some r:=H
  have A6:=Aside0.mk A60
  clear A60
  by_cases c7 : t368 = true
  ·
   subst c7
   have H1 : ((spec_IsSegment.f a1_0 a1_1 a1_2 a1_3).bind fun t369 => (spec_HowMeet.j0 k (!t369) a0_0 a0_1 a0_2 a0_3 a1_0 a1_1 a1_2 a1_3)) = some r:=by rw [if_pos rfl] at H;exact H
   clear H
   have H:=H1
   clear H1
   replace H:=Option.bind_eq_some_iff.mp H
   obtain ⟨t369,A80,H⟩:=H
   replace H : (spec_HowMeet.j0 k (!t369) a0_0 a0_1 a0_2 a0_3 a1_0 a1_1 a1_2 a1_3) = some r:=H
   have A8:=Aside0.mk A80
   clear A80
   have H':=Aside0.mk H
   clear H
   have hnb9:=NB366_367.out
   have hnc9:=NB367_366.out
   obtain ⟨hcz10_0,hcz10_1,hcz10_2,hcz10_3⟩:=Hd.c4_ BK366.out
   obtain ⟨hfz10_0,hfz10_1,hfz10_2,hfz10_3⟩:=Hd.f4_ BK366.out
   go_wp2_with (first | ((with_reducible refine gate_callee (f:=115) rfl ?_);refine goesL_ (some 6) rfl rfl Try.func115 (by kernel_rfl) rfl #[.agg #[.int .i64 a0_0,.int .i64 a0_1,.int .i64 a0_2,.int .i64 a0_3]] rfl Hd.m_ ?_;(with_reducible refine (spec_IsSegment.calls a0_0 a0_1 a0_2 a0_3 true _ A6.out).mono ?_);rintro e w11 ⟨rfl,hb⟩;refine ⟨_,rfl,?_⟩;replace BK366:=Aside0.mk (Hd.kb_ BK366 hb);replace BK367:=Aside0.mk (Hd.kb_ BK367 hb);replace HB:=Aside0.mk (below_step Hd.b_ hb);(try clear hb);(try clear hb2);(try clear hk);(try clear hi);obtain ⟨hcz12_0,hcz12_1,hcz12_2,hcz12_3⟩:=Hd.c4_ BK367.out;obtain ⟨hfz12_0,hfz12_1,hfz12_2,hfz12_3⟩:=Hd.f4_ BK367.out) | (go_at_call 115;(with_reducible refine (spec_IsSegment.calls a1_0 a1_1 a1_2 a1_3 t369 _ A8.out).mono ?_);rintro e w13 ⟨rfl,hb⟩;replace BK366:=Aside0.mk (Hd.kb_ BK366 hb);replace BK367:=Aside0.mk (Hd.kb_ BK367 hb);replace HB:=Aside0.mk (below_step Hd.b_ hb);(try clear hb);(try clear hb2);(try clear hk);(try clear hi)))
   go_meet
   case rel => exact ⟨_,(!t369),(by first | rfl | (simp;done) | (simp [*];done)),H',⟨by first | omega | exact Nat.le_refl _⟩,⟨by (with_reducible repeat (first | refine blk_drewN ?_ _ | refine blk_drew ?_ | refine blk_alloc ?_ _));exact BK366.out⟩,⟨by (with_reducible repeat (first | refine blk_drewN ?_ _ | refine blk_drew ?_ | refine blk_alloc ?_ _));exact BK367.out⟩,⟨Hd.b_⟩⟩
  ·
   replace c7:=Bool.eq_false_iff.mpr c7
   subst c7
   have H1 : (spec_HowMeet.j0 k true a0_0 a0_1 a0_2 a0_3 a1_0 a1_1 a1_2 a1_3) = some r:=by rw [if_neg (show ¬ (false = true) by decide)] at H;exact H
   clear H
   have H:=H1
   clear H1
   have H':=Aside0.mk H
   clear H
   have hnb14:=NB366_367.out
   have hnc14:=NB367_366.out
   obtain ⟨hcz15_0,hcz15_1,hcz15_2,hcz15_3⟩:=Hd.c4_ BK366.out
   obtain ⟨hfz15_0,hfz15_1,hfz15_2,hfz15_3⟩:=Hd.f4_ BK366.out
   go_wp2_with (first | ((with_reducible refine gate_callee (f:=115) rfl ?_);refine goesL_ (some 6) rfl rfl Try.func115 (by kernel_rfl) rfl #[.agg #[.int .i64 a0_0,.int .i64 a0_1,.int .i64 a0_2,.int .i64 a0_3]] rfl Hd.m_ ?_;(with_reducible refine (spec_IsSegment.calls a0_0 a0_1 a0_2 a0_3 false _ A6.out).mono ?_);rintro e w16 ⟨rfl,hb⟩;refine ⟨_,rfl,?_⟩;replace BK366:=Aside0.mk (Hd.kb_ BK366 hb);replace BK367:=Aside0.mk (Hd.kb_ BK367 hb);replace HB:=Aside0.mk (below_step Hd.b_ hb);(try clear hb);(try clear hb2);(try clear hk);(try clear hi)))
   go_meet
   case rel => exact ⟨_,(true),(by first | rfl | (simp;done) | (simp [*];done)),H',⟨by first | omega | exact Nat.le_refl _⟩,⟨by (with_reducible repeat (first | refine blk_drewN ?_ _ | refine blk_drew ?_ | refine blk_alloc ?_ _));exact BK366.out⟩,⟨by (with_reducible repeat (first | refine blk_drewN ?_ _ | refine blk_drew ?_ | refine blk_alloc ?_ _));exact BK367.out⟩,⟨Hd.b_⟩⟩
 case rest =>
  clear HC3
  try clear c1
  try clear p2
  try clear c7
  try clear c8
  try clear c9
  try clear c11
  try clear c14
  try clear hcz10_0
  try clear hcz10_1
  try clear hcz10_2
  try clear hcz10_3
  try clear hcz12_0
  try clear hcz12_1
  try clear hcz12_2
  try clear hcz12_3
  try clear hcz15_0
  try clear hcz15_1
  try clear hcz15_2
  try clear hcz15_3
  try clear hfz10_0
  try clear hfz10_1
  try clear hfz10_2
  try clear hfz10_3
  try clear hfz12_0
  try clear hfz12_1
  try clear hfz12_2
  try clear hfz12_3
  try clear hfz15_0
  try clear hfz15_1
  try clear hfz15_2
  try clear hfz15_3
  obtain ⟨kq,x12_2,rfl,HA,HJ2,BK366,BK367,HB⟩:=hcut
  cases kq with
  | zero => exact absurd HA.out (by simp [spec_HowMeet.j0])
  | succ kj2 =>
   have H:=HA.out
   clear HA
   simp only [spec_HowMeet.j0] at H
   by_cases c17 : x12_2 = true
   ·
    subst c17
    have H1 : (some 0) = some r:=by rw [if_pos rfl] at H;exact H
    clear H
    have H:=H1
    clear H1
    obtain rfl:=Option.some.inj H
    go_wp2
    go_ret
    exact ⟨Hd.e_,Hd.b_⟩
   ·
    replace c17:=Bool.eq_false_iff.mpr c17
    subst c17
    have H1 : ((spec_Max.f a0_0 a0_2).bind fun t370 => ((spec_Min.f a1_0 a1_2).bind fun t371 => (if t370 < t371 then (spec_HowMeet.j1 kj2 true a0_0 a0_1 a0_2 a0_3 a1_0 a1_1 a1_2 a1_3) else ((spec_Max.f a1_0 a1_2).bind fun t372 => ((spec_Min.f a0_0 a0_2).bind fun t373 => (if t372 < t373 then (spec_HowMeet.j1 kj2 true a0_0 a0_1 a0_2 a0_3 a1_0 a1_1 a1_2 a1_3) else ((spec_Max.f a0_1 a0_3).bind fun t374 => ((spec_Min.f a1_1 a1_3).bind fun t375 => (if t374 < t375 then (spec_HowMeet.j1 kj2 true a0_0 a0_1 a0_2 a0_3 a1_0 a1_1 a1_2 a1_3) else ((spec_Max.f a1_1 a1_3).bind fun t376 => ((spec_Min.f a0_1 a0_3).bind fun t377 => (spec_HowMeet.j1 kj2 (decide (t376 < t377)) a0_0 a0_1 a0_2 a0_3 a1_0 a1_1 a1_2 a1_3)))))))))))) = some r:=by rw [if_neg (show ¬ (false = true) by decide)] at H;exact H
    clear H
    have H:=H1
    clear H1
    have HC18:=Aside0.mk H
    clear H
    go_upto_region 3 with (fail)
    go_cut [78] (fun v78 wc => ∃ (kq : Nat) (x78_17 : Bool),v78 = .bool x78_17 ∧ Aside0 (spec_HowMeet.j1 kq x78_17 a0_0 a0_1 a0_2 a0_3 a1_0 a1_1 a1_2 a1_3 = some r) ∧ Aside0 (kq ≤ kj2) ∧ Aside0 (wc.heap[gb366]? = some (.cells #[.int .i64 a0_0,.int .i64 a0_1,.int .i64 a0_2,.int .i64 a0_3] 100 (0,0))) ∧ Aside0 (wc.heap[gb367]? = some (.cells #[.int .i64 a1_0,.int .i64 a1_1,.int .i64 a1_2,.int .i64 a1_3] 100 (0,0))) ∧ Aside0 (Below w.heap.size w wc))
    case first =>
     have H:=HC18.out
     clear HC18
     replace H:=Option.bind_eq_some_iff.mp H
     obtain ⟨t370,A190,H⟩:=H
     replace H : ((spec_Min.f a1_0 a1_2).bind fun t371 => (if t370 < t371 then (spec_HowMeet.j1 kj2 true a0_0 a0_1 a0_2 a0_3 a1_0 a1_1 a1_2 a1_3) else ((spec_Max.f a1_0 a1_2).bind fun t372 => ((spec_Min.f a0_0 a0_2).bind fun t373 => (if t372 < t373 then (spec_HowMeet.j1 kj2 true a0_0 a0_1 a0_2 a0_3 a1_0 a1_1 a1_2 a1_3) else ((spec_Max.f a0_1 a0_3).bind fun t374 => ((spec_Min.f a1_1 a1_3).bind fun t375 => (if t374 < t375 then (spec_HowMeet.j1 kj2 true a0_0 a0_1 a0_2 a0_3 a1_0 a1_1 a1_2 a1_3) else ((spec_Max.f a1_1 a1_3).bind fun t376 => ((spec_Min.f a0_1 a0_3).bind fun t377 => (spec_HowMeet.j1 kj2 (decide (t376 < t377)) a0_0 a0_1 a0_2 a0_3 a1_0 a1_1 a1_2 a1_3))))))))))) = some r:=H
     have A19:=Aside0.mk A190
     clear A190
     replace H:=Option.bind_eq_some_iff.mp H
     obtain ⟨t371,A200,H⟩:=H
     replace H : (if t370 < t371 then (spec_HowMeet.j1 kj2 true a0_0 a0_1 a0_2 a0_3 a1_0 a1_1 a1_2 a1_3) else ((spec_Max.f a1_0 a1_2).bind fun t372 => ((spec_Min.f a0_0 a0_2).bind fun t373 => (if t372 < t373 then (spec_HowMeet.j1 kj2 true a0_0 a0_1 a0_2 a0_3 a1_0 a1_1 a1_2 a1_3) else ((spec_Max.f a0_1 a0_3).bind fun t374 => ((spec_Min.f a1_1 a1_3).bind fun t375 => (if t374 < t375 then (spec_HowMeet.j1 kj2 true a0_0 a0_1 a0_2 a0_3 a1_0 a1_1 a1_2 a1_3) else ((spec_Max.f a1_1 a1_3).bind fun t376 => ((spec_Min.f a0_1 a0_3).bind fun t377 => (spec_HowMeet.j1 kj2 (decide (t376 < t377)) a0_0 a0_1 a0_2 a0_3 a1_0 a1_1 a1_2 a1_3)))))))))) = some r:=H
     have A20:=Aside0.mk A200
     clear A200
     by_cases c21 : t370 < t371
     ·
      rw [if_pos c21] at H
      have c21b0 : decide (t370 < t371) = true:=decide_eq_true c21
      clear c21
      (first | rw [c21b0] | (simp only [i64_w,i32_w];rw [c21b0]) | skip)
      have H':=Aside0.mk H
      clear H
      try go_wp2
      replace BK366:=Aside0.mk (blk_drew BK366.out)
      replace BK367:=Aside0.mk (blk_drew BK367.out)
      replace HB:=Aside0.mk (below_drew1 HB.out)
      obtain ⟨s0_,s1_,s2_,s3_⟩:=Hd.HW.k4 (W0:=wc.drew) BK366
      obtain ⟨s4_,s5_,s6_,s7_⟩:=Hd.HW.k4 (W0:=wc.drew) BK367
      refine Hd.HW.region (by kernel_rfl) (by kernel_rfl) ?_
      try dsimp only [List.append]
      repeat (go_big_quiet_step ((first | (go_at_call 86;with_reducible exact Hd.HW.d (spec_Max.calls a0_0 a0_2 t370 _ A19.out)) | (go_at_call 116;with_reducible exact Hd.HW.d (spec_Min.calls a1_0 a1_2 t371 _ A20.out)))))
      refine wpQuiet_nil ?_
      intro _ hq_
      obtain ⟨q_,rfl⟩:=hq_
      clear s0_ s1_ s2_ s3_ s4_ s5_ s6_ s7_
      replace BK366:=Aside0.mk (blk_below BK366.out q_.b)
      replace BK367:=Aside0.mk (blk_below BK367.out q_.b)
      replace HB:=Aside0.mk (below_step HB.out q_.b)
      generalize q_.W = w22 at BK366 BK367 HB ⊢
      try simp only [i64_w,i32_w]
      try go_wp2
      go_meet
      case rel => exact ⟨_,(true),(by first | rfl | (simp;done) | (simp [*];done)),H',⟨by have:=HJ2.out;first | omega | exact Nat.le_refl _⟩,⟨by (with_reducible repeat (first | refine blk_drewN ?_ _ | refine blk_drew ?_ | refine blk_alloc ?_ _));exact BK366.out⟩,⟨by (with_reducible repeat (first | refine blk_drewN ?_ _ | refine blk_drew ?_ | refine blk_alloc ?_ _));exact BK367.out⟩,⟨Hd.b_⟩⟩
     ·
      rw [if_neg c21] at H
      have c21b0 : decide (t370 < t371) = false:=decide_eq_false c21
      clear c21
      (first | rw [c21b0] | (simp only [i64_w,i32_w];rw [c21b0]) | skip)
      replace H:=Option.bind_eq_some_iff.mp H
      obtain ⟨t372,A230,H⟩:=H
      replace H : ((spec_Min.f a0_0 a0_2).bind fun t373 => (if t372 < t373 then (spec_HowMeet.j1 kj2 true a0_0 a0_1 a0_2 a0_3 a1_0 a1_1 a1_2 a1_3) else ((spec_Max.f a0_1 a0_3).bind fun t374 => ((spec_Min.f a1_1 a1_3).bind fun t375 => (if t374 < t375 then (spec_HowMeet.j1 kj2 true a0_0 a0_1 a0_2 a0_3 a1_0 a1_1 a1_2 a1_3) else ((spec_Max.f a1_1 a1_3).bind fun t376 => ((spec_Min.f a0_1 a0_3).bind fun t377 => (spec_HowMeet.j1 kj2 (decide (t376 < t377)) a0_0 a0_1 a0_2 a0_3 a1_0 a1_1 a1_2 a1_3)))))))) = some r:=H
      have A23:=Aside0.mk A230
      clear A230
      replace H:=Option.bind_eq_some_iff.mp H
      obtain ⟨t373,A240,H⟩:=H
      replace H : (if t372 < t373 then (spec_HowMeet.j1 kj2 true a0_0 a0_1 a0_2 a0_3 a1_0 a1_1 a1_2 a1_3) else ((spec_Max.f a0_1 a0_3).bind fun t374 => ((spec_Min.f a1_1 a1_3).bind fun t375 => (if t374 < t375 then (spec_HowMeet.j1 kj2 true a0_0 a0_1 a0_2 a0_3 a1_0 a1_1 a1_2 a1_3) else ((spec_Max.f a1_1 a1_3).bind fun t376 => ((spec_Min.f a0_1 a0_3).bind fun t377 => (spec_HowMeet.j1 kj2 (decide (t376 < t377)) a0_0 a0_1 a0_2 a0_3 a1_0 a1_1 a1_2 a1_3))))))) = some r:=H
      have A24:=Aside0.mk A240
      clear A240
      by_cases c25 : t372 < t373
      ·
       rw [if_pos c25] at H
       have c25b0 : decide (t372 < t373) = true:=decide_eq_true c25
       clear c25
       have H':=Aside0.mk H
       clear H
       try go_wp2
       replace BK366:=Aside0.mk (blk_drew BK366.out)
       replace BK367:=Aside0.mk (blk_drew BK367.out)
       replace HB:=Aside0.mk (below_drew1 HB.out)
       obtain ⟨s0_,s1_,s2_,s3_⟩:=Hd.HW.k4 (W0:=wc.drew) BK366
       obtain ⟨s4_,s5_,s6_,s7_⟩:=Hd.HW.k4 (W0:=wc.drew) BK367
       refine Hd.HW.region (by kernel_rfl) (by kernel_rfl) ?_
       try dsimp only [List.append]
       repeat (go_big_quiet_step ((first | (go_at_call 86;with_reducible exact Hd.HW.d (spec_Max.calls a0_0 a0_2 t370 _ A19.out)) | (go_at_call 116;with_reducible exact Hd.HW.d (spec_Min.calls a1_0 a1_2 t371 _ A20.out)) | (go_at_call 86;with_reducible exact Hd.HW.d (spec_Max.calls a1_0 a1_2 t372 _ A23.out)) | (go_at_call 116;with_reducible exact Hd.HW.d (spec_Min.calls a0_0 a0_2 t373 _ A24.out)))))
       refine wpQuiet_nil ?_
       intro _ hq_
       obtain ⟨q_,rfl⟩:=hq_
       clear s0_ s1_ s2_ s3_ s4_ s5_ s6_ s7_
       replace BK366:=Aside0.mk (blk_below BK366.out q_.b)
       replace BK367:=Aside0.mk (blk_below BK367.out q_.b)
       replace HB:=Aside0.mk (below_step HB.out q_.b)
       generalize q_.W = w26 at BK366 BK367 HB ⊢
       try simp only [i64_w,i32_w]
       try go_wp2
       go_meet
       case rel => exact ⟨_,(true),(by first | rfl | (simp;done) | (simp [*];done)),H',⟨by have:=HJ2.out;first | omega | exact Nat.le_refl _⟩,⟨by (with_reducible repeat (first | refine blk_drewN ?_ _ | refine blk_drew ?_ | refine blk_alloc ?_ _));exact BK366.out⟩,⟨by (with_reducible repeat (first | refine blk_drewN ?_ _ | refine blk_drew ?_ | refine blk_alloc ?_ _));exact BK367.out⟩,⟨Hd.b_⟩⟩
      ·
       rw [if_neg c25] at H
       have c25b0 : decide (t372 < t373) = false:=decide_eq_false c25
       clear c25
       replace H:=Option.bind_eq_some_iff.mp H
       obtain ⟨t374,A270,H⟩:=H
       replace H : ((spec_Min.f a1_1 a1_3).bind fun t375 => (if t374 < t375 then (spec_HowMeet.j1 kj2 true a0_0 a0_1 a0_2 a0_3 a1_0 a1_1 a1_2 a1_3) else ((spec_Max.f a1_1 a1_3).bind fun t376 => ((spec_Min.f a0_1 a0_3).bind fun t377 => (spec_HowMeet.j1 kj2 (decide (t376 < t377)) a0_0 a0_1 a0_2 a0_3 a1_0 a1_1 a1_2 a1_3))))) = some r:=H
       have A27:=Aside0.mk A270
       clear A270
       replace H:=Option.bind_eq_some_iff.mp H
       obtain ⟨t375,A280,H⟩:=H
       replace H : (if t374 < t375 then (spec_HowMeet.j1 kj2 true a0_0 a0_1 a0_2 a0_3 a1_0 a1_1 a1_2 a1_3) else ((spec_Max.f a1_1 a1_3).bind fun t376 => ((spec_Min.f a0_1 a0_3).bind fun t377 => (spec_HowMeet.j1 kj2 (decide (t376 < t377)) a0_0 a0_1 a0_2 a0_3 a1_0 a1_1 a1_2 a1_3)))) = some r:=H
       have A28:=Aside0.mk A280
       clear A280
       by_cases c29 : t374 < t375
       ·
        rw [if_pos c29] at H
        have c29b0 : decide (t374 < t375) = true:=decide_eq_true c29
        clear c29
        have H':=Aside0.mk H
        clear H
        try go_wp2
        replace BK366:=Aside0.mk (blk_drew BK366.out)
        replace BK367:=Aside0.mk (blk_drew BK367.out)
        replace HB:=Aside0.mk (below_drew1 HB.out)
        obtain ⟨s0_,s1_,s2_,s3_⟩:=Hd.HW.k4 (W0:=wc.drew) BK366
        obtain ⟨s4_,s5_,s6_,s7_⟩:=Hd.HW.k4 (W0:=wc.drew) BK367
        refine Hd.HW.region (by kernel_rfl) (by kernel_rfl) ?_
        try dsimp only [List.append]
        repeat (go_big_quiet_step ((first | (go_at_call 86;with_reducible exact Hd.HW.d (spec_Max.calls a0_0 a0_2 t370 _ A19.out)) | (go_at_call 116;with_reducible exact Hd.HW.d (spec_Min.calls a1_0 a1_2 t371 _ A20.out)) | (go_at_call 86;with_reducible exact Hd.HW.d (spec_Max.calls a1_0 a1_2 t372 _ A23.out)) | (go_at_call 116;with_reducible exact Hd.HW.d (spec_Min.calls a0_0 a0_2 t373 _ A24.out)) | (go_at_call 86;with_reducible exact Hd.HW.d (spec_Max.calls a0_1 a0_3 t374 _ A27.out)) | (go_at_call 116;with_reducible exact Hd.HW.d (spec_Min.calls a1_1 a1_3 t375 _ A28.out)))))
        refine wpQuiet_nil ?_
        intro _ hq_
        obtain ⟨q_,rfl⟩:=hq_
        clear s0_ s1_ s2_ s3_ s4_ s5_ s6_ s7_
        replace BK366:=Aside0.mk (blk_below BK366.out q_.b)
        replace BK367:=Aside0.mk (blk_below BK367.out q_.b)
        replace HB:=Aside0.mk (below_step HB.out q_.b)
        generalize q_.W = w30 at BK366 BK367 HB ⊢
        try simp only [i64_w,i32_w]
        try go_wp2
        go_meet
        case rel => exact ⟨_,(true),(by first | rfl | (simp;done) | (simp [*];done)),H',⟨by have:=HJ2.out;first | omega | exact Nat.le_refl _⟩,⟨by (with_reducible repeat (first | refine blk_drewN ?_ _ | refine blk_drew ?_ | refine blk_alloc ?_ _));exact BK366.out⟩,⟨by (with_reducible repeat (first | refine blk_drewN ?_ _ | refine blk_drew ?_ | refine blk_alloc ?_ _));exact BK367.out⟩,⟨Hd.b_⟩⟩
       ·
        rw [if_neg c29] at H
        have c29b0 : decide (t374 < t375) = false:=decide_eq_false c29
        clear c29
        replace H:=Option.bind_eq_some_iff.mp H
        obtain ⟨t376,A310,H⟩:=H
        replace H : ((spec_Min.f a0_1 a0_3).bind fun t377 => (spec_HowMeet.j1 kj2 (decide (t376 < t377)) a0_0 a0_1 a0_2 a0_3 a1_0 a1_1 a1_2 a1_3)) = some r:=H
        have A31:=Aside0.mk A310
        clear A310
        replace H:=Option.bind_eq_some_iff.mp H
        obtain ⟨t377,A320,H⟩:=H
        replace H : (spec_HowMeet.j1 kj2 (decide (t376 < t377)) a0_0 a0_1 a0_2 a0_3 a1_0 a1_1 a1_2 a1_3) = some r:=H
        have A32:=Aside0.mk A320
        clear A320
        have H':=Aside0.mk H
        clear H
        try go_wp2
        replace BK366:=Aside0.mk (blk_drew BK366.out)
        replace BK367:=Aside0.mk (blk_drew BK367.out)
        replace HB:=Aside0.mk (below_drew1 HB.out)
        obtain ⟨s0_,s1_,s2_,s3_⟩:=Hd.HW.k4 (W0:=wc.drew) BK366
        obtain ⟨s4_,s5_,s6_,s7_⟩:=Hd.HW.k4 (W0:=wc.drew) BK367
        refine Hd.HW.region (by kernel_rfl) (by kernel_rfl) ?_
        try dsimp only [List.append]
        repeat (go_big_quiet_step ((first | (go_at_call 86;with_reducible exact Hd.HW.d (spec_Max.calls a0_0 a0_2 t370 _ A19.out)) | (go_at_call 116;with_reducible exact Hd.HW.d (spec_Min.calls a1_0 a1_2 t371 _ A20.out)) | (go_at_call 86;with_reducible exact Hd.HW.d (spec_Max.calls a1_0 a1_2 t372 _ A23.out)) | (go_at_call 116;with_reducible exact Hd.HW.d (spec_Min.calls a0_0 a0_2 t373 _ A24.out)) | (go_at_call 86;with_reducible exact Hd.HW.d (spec_Max.calls a0_1 a0_3 t374 _ A27.out)) | (go_at_call 116;with_reducible exact Hd.HW.d (spec_Min.calls a1_1 a1_3 t375 _ A28.out)) | (go_at_call 86;with_reducible exact Hd.HW.d (spec_Max.calls a1_1 a1_3 t376 _ A31.out)) | (go_at_call 116;with_reducible exact Hd.HW.d (spec_Min.calls a0_1 a0_3 t377 _ A32.out)))))
        refine wpQuiet_nil ?_
        intro _ hq_
        obtain ⟨q_,rfl⟩:=hq_
        clear s0_ s1_ s2_ s3_ s4_ s5_ s6_ s7_
        replace BK366:=Aside0.mk (blk_below BK366.out q_.b)
        replace BK367:=Aside0.mk (blk_below BK367.out q_.b)
        replace HB:=Aside0.mk (below_step HB.out q_.b)
        generalize q_.W = w33 at BK366 BK367 HB ⊢
        try simp only [i64_w,i32_w]
        try go_wp2
        go_meet
        case rel => exact ⟨_,(decide (t376 < t377)),(by first | rfl | (simp;done) | (simp [*];done)),H',⟨by have:=HJ2.out;first | omega | exact Nat.le_refl _⟩,⟨by (with_reducible repeat (first | refine blk_drewN ?_ _ | refine blk_drew ?_ | refine blk_alloc ?_ _));exact BK366.out⟩,⟨by (with_reducible repeat (first | refine blk_drewN ?_ _ | refine blk_drew ?_ | refine blk_alloc ?_ _));exact BK367.out⟩,⟨Hd.b_⟩⟩
    case rest =>
     clear HC18
     try clear c1
     try clear c2
     try clear p2
     try clear c8
     try clear c11
     try clear c29
     try clear c29b0
     obtain ⟨kq,x78_17,rfl,HA,HJ17,BK366,BK367,HB⟩:=hcut
     cases kq with
     | zero => exact absurd HA.out (by simp [spec_HowMeet.j1])
     | succ kj17 =>
      have H:=HA.out
      clear HA
      simp only [spec_HowMeet.j1] at H
      by_cases c34 : x78_17 = true
      ·
       subst c34
       have H1 : (some 0) = some r:=by rw [if_pos rfl] at H;exact H
       clear H
       have H:=H1
       clear H1
       obtain rfl:=Option.some.inj H
       go_wp2
       go_ret
       exact ⟨Hd.e_,Hd.b_⟩
      ·
       replace c34:=Bool.eq_false_iff.mpr c34
       subst c34
       have H1 : ((spec_l5Shared.f kj17 a0_0 a0_1 a0_2 a0_3 a1_0 a1_1 a1_2 a1_3).bind fun t378 => (if t378 = 0 then ((spec_SideOf.f kj17 a0_0 a0_1 a0_2 a0_3 a1_0 a1_1).bind fun t379 => ((spec_SideOf.f kj17 a0_0 a0_1 a0_2 a0_3 a1_2 a1_3).bind fun t380 => (if (wrap64 (t379 * t380)) < 0 then ((spec_SideOf.f kj17 a1_0 a1_1 a1_2 a1_3 a0_0 a0_1).bind fun t381 => ((spec_SideOf.f kj17 a1_0 a1_1 a1_2 a1_3 a0_2 a0_3).bind fun t382 => (if (wrap64 (t381 * t382)) < 0 then (some 2) else (some 0)))) else (some 0)))) else (if t378 = 1 then (some 1) else (some 3)))) = some r:=by rw [if_neg (show ¬ (false = true) by decide)] at H;exact H
       clear H
       have H:=H1
       clear H1
       replace H:=Option.bind_eq_some_iff.mp H
       obtain ⟨t378,A350,H⟩:=H
       replace H : (if t378 = 0 then ((spec_SideOf.f kj17 a0_0 a0_1 a0_2 a0_3 a1_0 a1_1).bind fun t379 => ((spec_SideOf.f kj17 a0_0 a0_1 a0_2 a0_3 a1_2 a1_3).bind fun t380 => (if (wrap64 (t379 * t380)) < 0 then ((spec_SideOf.f kj17 a1_0 a1_1 a1_2 a1_3 a0_0 a0_1).bind fun t381 => ((spec_SideOf.f kj17 a1_0 a1_1 a1_2 a1_3 a0_2 a0_3).bind fun t382 => (if (wrap64 (t381 * t382)) < 0 then (some 2) else (some 0)))) else (some 0)))) else (if t378 = 1 then (some 1) else (some 3))) = some r:=H
       have A35:=Aside0.mk A350
       clear A350
       by_cases c36 : t378 = 0
       ·
        rw [if_pos c36] at H
        have c36b0 : (t378 == 0) = true:=beq_iff_eq.mpr c36
        have c36b1 : (t378 != 0) = false:=bne_eq_false_iff_eq.mpr c36
        clear c36
        replace H:=Option.bind_eq_some_iff.mp H
        obtain ⟨t379,A370,H⟩:=H
        replace H : ((spec_SideOf.f kj17 a0_0 a0_1 a0_2 a0_3 a1_2 a1_3).bind fun t380 => (if (wrap64 (t379 * t380)) < 0 then ((spec_SideOf.f kj17 a1_0 a1_1 a1_2 a1_3 a0_0 a0_1).bind fun t381 => ((spec_SideOf.f kj17 a1_0 a1_1 a1_2 a1_3 a0_2 a0_3).bind fun t382 => (if (wrap64 (t381 * t382)) < 0 then (some 2) else (some 0)))) else (some 0))) = some r:=H
        have A37:=Aside0.mk A370
        clear A370
        replace H:=Option.bind_eq_some_iff.mp H
        obtain ⟨t380,A380,H⟩:=H
        replace H : (if (wrap64 (t379 * t380)) < 0 then ((spec_SideOf.f kj17 a1_0 a1_1 a1_2 a1_3 a0_0 a0_1).bind fun t381 => ((spec_SideOf.f kj17 a1_0 a1_1 a1_2 a1_3 a0_2 a0_3).bind fun t382 => (if (wrap64 (t381 * t382)) < 0 then (some 2) else (some 0)))) else (some 0)) = some r:=H
        have A38:=Aside0.mk A380
        clear A380
        by_cases c39 : (wrap64 (t379 * t380)) < 0
        ·
         rw [if_pos c39] at H
         have c39b0 : decide ((wrap64 (t379 * t380)) < 0) = true:=decide_eq_true c39
         clear c39
         replace H:=Option.bind_eq_some_iff.mp H
         obtain ⟨t381,A400,H⟩:=H
         replace H : ((spec_SideOf.f kj17 a1_0 a1_1 a1_2 a1_3 a0_2 a0_3).bind fun t382 => (if (wrap64 (t381 * t382)) < 0 then (some 2) else (some 0))) = some r:=H
         have A40:=Aside0.mk A400
         clear A400
         replace H:=Option.bind_eq_some_iff.mp H
         obtain ⟨t382,A410,H⟩:=H
         replace H : (if (wrap64 (t381 * t382)) < 0 then (some 2) else (some 0)) = some r:=H
         have A41:=Aside0.mk A410
         clear A410
         by_cases c42 : (wrap64 (t381 * t382)) < 0
         ·
          rw [if_pos c42] at H
          have c42b0 : decide ((wrap64 (t381 * t382)) < 0) = true:=decide_eq_true c42
          clear c42
          obtain rfl:=Option.some.inj H
          have hnb43:=NB366_367.out
          have hnc43:=NB367_366.out
          obtain ⟨hcz44_0,hcz44_1,hcz44_2,hcz44_3⟩:=Hd.c4_ BK366.out
          obtain ⟨hfz44_0,hfz44_1,hfz44_2,hfz44_3⟩:=Hd.f4_ BK366.out
          obtain ⟨hcz45_0,hcz45_1,hcz45_2,hcz45_3⟩:=Hd.c4_ BK367.out
          obtain ⟨hfz45_0,hfz45_1,hfz45_2,hfz45_3⟩:=Hd.f4_ BK367.out
          try go_wp2_with (first | ((with_reducible refine gate_callee (f:=117) rfl ?_);refine goesL_ (some 81) rfl rfl Try.func117 (by kernel_rfl) rfl #[.agg #[.int .i64 a0_0,.int .i64 a0_1,.int .i64 a0_2,.int .i64 a0_3],.agg #[.int .i64 a1_0,.int .i64 a1_1,.int .i64 a1_2,.int .i64 a1_3]] rfl Hd.m_ ?_;(with_reducible refine (spec_l5Shared.calls kj17 a0_0 a0_1 a0_2 a0_3 a1_0 a1_1 a1_2 a1_3 t378 _ A35.out).mono ?_);rintro e w46 ⟨rfl,hb⟩;refine ⟨_,rfl,?_⟩;replace BK366:=Aside0.mk (Hd.kb_ BK366 hb);replace BK367:=Aside0.mk (Hd.kb_ BK367 hb);replace HB:=Aside0.mk (below_step Hd.b_ hb);(try clear hb);(try clear hb2);(try clear hk);(try clear hi)))
          replace BK366:=Aside0.mk (blk_drew BK366.out)
          replace BK367:=Aside0.mk (blk_drew BK367.out)
          replace HB:=Aside0.mk (below_drew1 HB.out)
          obtain ⟨s0_,s1_,s2_,s3_⟩:=Hd.HW.k4 (W0:=w46.drew) BK366
          obtain ⟨s4_,s5_,s6_,s7_⟩:=Hd.HW.k4 (W0:=w46.drew) BK367
          refine Hd.HW.region (by kernel_rfl) (by kernel_rfl) ?_
          try dsimp only [List.append]
          repeat (go_big_quiet_step ((first | (go_at_call 118;with_reducible exact Hd.HW.c (spec_SideOf.calls kj17 a0_0 a0_1 a0_2 a0_3 a1_0 a1_1 t379 _ A37.out)) | (go_at_call 118;with_reducible exact Hd.HW.c (spec_SideOf.calls kj17 a0_0 a0_1 a0_2 a0_3 a1_2 a1_3 t380 _ A38.out)) | (go_at_call 118;with_reducible exact Hd.HW.c (spec_SideOf.calls kj17 a1_0 a1_1 a1_2 a1_3 a0_0 a0_1 t381 _ A40.out)) | (go_at_call 118;with_reducible exact Hd.HW.c (spec_SideOf.calls kj17 a1_0 a1_1 a1_2 a1_3 a0_2 a0_3 t382 _ A41.out)))))
          refine wpQuiet_nil ?_
          intro _ hq_
          obtain ⟨q_,rfl⟩:=hq_
          clear s0_ s1_ s2_ s3_ s4_ s5_ s6_ s7_
          replace BK366:=Aside0.mk (blk_below BK366.out q_.b)
          replace BK367:=Aside0.mk (blk_below BK367.out q_.b)
          replace HB:=Aside0.mk (below_step HB.out q_.b)
          generalize q_.W = w51 at BK366 BK367 HB ⊢
          try simp only [i64_w,i32_w]
          try go_wp2
          go_ret
          exact ⟨Hd.e_,Hd.b_⟩
         ·
          rw [if_neg c42] at H
          have c42b0 : decide ((wrap64 (t381 * t382)) < 0) = false:=decide_eq_false c42
          clear c42
          obtain rfl:=Option.some.inj H
          have hnb52:=NB366_367.out
          have hnc52:=NB367_366.out
          obtain ⟨hcz53_0,hcz53_1,hcz53_2,hcz53_3⟩:=Hd.c4_ BK366.out
          obtain ⟨hfz53_0,hfz53_1,hfz53_2,hfz53_3⟩:=Hd.f4_ BK366.out
          obtain ⟨hcz54_0,hcz54_1,hcz54_2,hcz54_3⟩:=Hd.c4_ BK367.out
          obtain ⟨hfz54_0,hfz54_1,hfz54_2,hfz54_3⟩:=Hd.f4_ BK367.out
          try go_wp2_with (first | ((with_reducible refine gate_callee (f:=117) rfl ?_);refine goesL_ (some 81) rfl rfl Try.func117 (by kernel_rfl) rfl #[.agg #[.int .i64 a0_0,.int .i64 a0_1,.int .i64 a0_2,.int .i64 a0_3],.agg #[.int .i64 a1_0,.int .i64 a1_1,.int .i64 a1_2,.int .i64 a1_3]] rfl Hd.m_ ?_;(with_reducible refine (spec_l5Shared.calls kj17 a0_0 a0_1 a0_2 a0_3 a1_0 a1_1 a1_2 a1_3 t378 _ A35.out).mono ?_);rintro e w55 ⟨rfl,hb⟩;refine ⟨_,rfl,?_⟩;replace BK366:=Aside0.mk (Hd.kb_ BK366 hb);replace BK367:=Aside0.mk (Hd.kb_ BK367 hb);replace HB:=Aside0.mk (below_step Hd.b_ hb);(try clear hb);(try clear hb2);(try clear hk);(try clear hi)))
          replace BK366:=Aside0.mk (blk_drew BK366.out)
          replace BK367:=Aside0.mk (blk_drew BK367.out)
          replace HB:=Aside0.mk (below_drew1 HB.out)
          obtain ⟨s0_,s1_,s2_,s3_⟩:=Hd.HW.k4 (W0:=w55.drew) BK366
          obtain ⟨s4_,s5_,s6_,s7_⟩:=Hd.HW.k4 (W0:=w55.drew) BK367
          refine Hd.HW.region (by kernel_rfl) (by kernel_rfl) ?_
          try dsimp only [List.append]
          repeat (go_big_quiet_step ((first | (go_at_call 118;with_reducible exact Hd.HW.c (spec_SideOf.calls kj17 a0_0 a0_1 a0_2 a0_3 a1_0 a1_1 t379 _ A37.out)) | (go_at_call 118;with_reducible exact Hd.HW.c (spec_SideOf.calls kj17 a0_0 a0_1 a0_2 a0_3 a1_2 a1_3 t380 _ A38.out)) | (go_at_call 118;with_reducible exact Hd.HW.c (spec_SideOf.calls kj17 a1_0 a1_1 a1_2 a1_3 a0_0 a0_1 t381 _ A40.out)) | (go_at_call 118;with_reducible exact Hd.HW.c (spec_SideOf.calls kj17 a1_0 a1_1 a1_2 a1_3 a0_2 a0_3 t382 _ A41.out)))))
          refine wpQuiet_nil ?_
          intro _ hq_
          obtain ⟨q_,rfl⟩:=hq_
          clear s0_ s1_ s2_ s3_ s4_ s5_ s6_ s7_
          replace BK366:=Aside0.mk (blk_below BK366.out q_.b)
          replace BK367:=Aside0.mk (blk_below BK367.out q_.b)
          replace HB:=Aside0.mk (below_step HB.out q_.b)
          generalize q_.W = w60 at BK366 BK367 HB ⊢
          try simp only [i64_w,i32_w]
          try go_wp2
          go_ret
          exact ⟨Hd.e_,Hd.b_⟩
        ·
         rw [if_neg c39] at H
         have c39b0 : decide ((wrap64 (t379 * t380)) < 0) = false:=decide_eq_false c39
         clear c39
         obtain rfl:=Option.some.inj H
         have hnb61:=NB366_367.out
         have hnc61:=NB367_366.out
         obtain ⟨hcz62_0,hcz62_1,hcz62_2,hcz62_3⟩:=Hd.c4_ BK366.out
         obtain ⟨hfz62_0,hfz62_1,hfz62_2,hfz62_3⟩:=Hd.f4_ BK366.out
         obtain ⟨hcz63_0,hcz63_1,hcz63_2,hcz63_3⟩:=Hd.c4_ BK367.out
         obtain ⟨hfz63_0,hfz63_1,hfz63_2,hfz63_3⟩:=Hd.f4_ BK367.out
         try go_wp2_with (first | ((with_reducible refine gate_callee (f:=117) rfl ?_);refine goesL_ (some 81) rfl rfl Try.func117 (by kernel_rfl) rfl #[.agg #[.int .i64 a0_0,.int .i64 a0_1,.int .i64 a0_2,.int .i64 a0_3],.agg #[.int .i64 a1_0,.int .i64 a1_1,.int .i64 a1_2,.int .i64 a1_3]] rfl Hd.m_ ?_;(with_reducible refine (spec_l5Shared.calls kj17 a0_0 a0_1 a0_2 a0_3 a1_0 a1_1 a1_2 a1_3 t378 _ A35.out).mono ?_);rintro e w64 ⟨rfl,hb⟩;refine ⟨_,rfl,?_⟩;replace BK366:=Aside0.mk (Hd.kb_ BK366 hb);replace BK367:=Aside0.mk (Hd.kb_ BK367 hb);replace HB:=Aside0.mk (below_step Hd.b_ hb);(try clear hb);(try clear hb2);(try clear hk);(try clear hi)))
         replace BK366:=Aside0.mk (blk_drew BK366.out)
         replace BK367:=Aside0.mk (blk_drew BK367.out)
         replace HB:=Aside0.mk (below_drew1 HB.out)
         obtain ⟨s0_,s1_,s2_,s3_⟩:=Hd.HW.k4 (W0:=w64.drew) BK366
         obtain ⟨s4_,s5_,s6_,s7_⟩:=Hd.HW.k4 (W0:=w64.drew) BK367
         refine Hd.HW.region (by kernel_rfl) (by kernel_rfl) ?_
         try dsimp only [List.append]
         repeat (go_big_quiet_step ((first | (go_at_call 118;with_reducible exact Hd.HW.c (spec_SideOf.calls kj17 a0_0 a0_1 a0_2 a0_3 a1_0 a1_1 t379 _ A37.out)) | (go_at_call 118;with_reducible exact Hd.HW.c (spec_SideOf.calls kj17 a0_0 a0_1 a0_2 a0_3 a1_2 a1_3 t380 _ A38.out)))))
         refine wpQuiet_nil ?_
         intro _ hq_
         obtain ⟨q_,rfl⟩:=hq_
         clear s0_ s1_ s2_ s3_ s4_ s5_ s6_ s7_
         replace BK366:=Aside0.mk (blk_below BK366.out q_.b)
         replace BK367:=Aside0.mk (blk_below BK367.out q_.b)
         replace HB:=Aside0.mk (below_step HB.out q_.b)
         generalize q_.W = w67 at BK366 BK367 HB ⊢
         try simp only [i64_w,i32_w]
         try go_wp2
         go_ret
         exact ⟨Hd.e_,Hd.b_⟩
       ·
        rw [if_neg c36] at H
        have c36b0 : (t378 == 0) = false:=beq_eq_false_iff_ne.mpr c36
        have c36b1 : (t378 != 0) = true:=bne_iff_ne.mpr c36
        by_cases c68 : t378 = 1
        ·
         rw [if_pos c68] at H
         have c68b0 : (t378 == 1) = true:=beq_iff_eq.mpr c68
         have c68b1 : (t378 != 1) = false:=bne_eq_false_iff_eq.mpr c68
         clear c68
         obtain rfl:=Option.some.inj H
         have hnb69:=NB366_367.out
         have hnc69:=NB367_366.out
         obtain ⟨hcz70_0,hcz70_1,hcz70_2,hcz70_3⟩:=Hd.c4_ BK366.out
         obtain ⟨hfz70_0,hfz70_1,hfz70_2,hfz70_3⟩:=Hd.f4_ BK366.out
         obtain ⟨hcz71_0,hcz71_1,hcz71_2,hcz71_3⟩:=Hd.c4_ BK367.out
         obtain ⟨hfz71_0,hfz71_1,hfz71_2,hfz71_3⟩:=Hd.f4_ BK367.out
         go_wp2_with (first | ((with_reducible refine gate_callee (f:=117) rfl ?_);refine goesL_ (some 81) rfl rfl Try.func117 (by kernel_rfl) rfl #[.agg #[.int .i64 a0_0,.int .i64 a0_1,.int .i64 a0_2,.int .i64 a0_3],.agg #[.int .i64 a1_0,.int .i64 a1_1,.int .i64 a1_2,.int .i64 a1_3]] rfl Hd.m_ ?_;(with_reducible refine (spec_l5Shared.calls kj17 a0_0 a0_1 a0_2 a0_3 a1_0 a1_1 a1_2 a1_3 t378 _ A35.out).mono ?_);rintro e w72 ⟨rfl,hb⟩;refine ⟨_,rfl,?_⟩;replace BK366:=Aside0.mk (Hd.kb_ BK366 hb);replace BK367:=Aside0.mk (Hd.kb_ BK367 hb);replace HB:=Aside0.mk (below_step Hd.b_ hb);(try clear hb);(try clear hb2);(try clear hk);(try clear hi)))
         go_ret
         exact ⟨Hd.e_,Hd.b_⟩
        ·
         rw [if_neg c68] at H
         have c68b0 : (t378 == 1) = false:=beq_eq_false_iff_ne.mpr c68
         have c68b1 : (t378 != 1) = true:=bne_iff_ne.mpr c68
         obtain rfl:=Option.some.inj H
         have hnb73:=NB366_367.out
         have hnc73:=NB367_366.out
         obtain ⟨hcz74_0,hcz74_1,hcz74_2,hcz74_3⟩:=Hd.c4_ BK366.out
         obtain ⟨hfz74_0,hfz74_1,hfz74_2,hfz74_3⟩:=Hd.f4_ BK366.out
         obtain ⟨hcz75_0,hcz75_1,hcz75_2,hcz75_3⟩:=Hd.c4_ BK367.out
         obtain ⟨hfz75_0,hfz75_1,hfz75_2,hfz75_3⟩:=Hd.f4_ BK367.out
         go_wp2_with (first | ((with_reducible refine gate_callee (f:=117) rfl ?_);refine goesL_ (some 81) rfl rfl Try.func117 (by kernel_rfl) rfl #[.agg #[.int .i64 a0_0,.int .i64 a0_1,.int .i64 a0_2,.int .i64 a0_3],.agg #[.int .i64 a1_0,.int .i64 a1_1,.int .i64 a1_2,.int .i64 a1_3]] rfl Hd.m_ ?_;(with_reducible refine (spec_l5Shared.calls kj17 a0_0 a0_1 a0_2 a0_3 a1_0 a1_1 a1_2 a1_3 t378 _ A35.out).mono ?_);rintro e w76 ⟨rfl,hb⟩;refine ⟨_,rfl,?_⟩;replace BK366:=Aside0.mk (Hd.kb_ BK366 hb);replace BK367:=Aside0.mk (Hd.kb_ BK367 hb);replace HB:=Aside0.mk (below_step Hd.b_ hb);(try clear hb);(try clear hb2);(try clear hk);(try clear hi)))
         go_ret
         exact ⟨Hd.e_,Hd.b_⟩
def spec_IsLine.l0 : Nat → List (S63) → Int → Option (Bool)
 | 0,_,_ => none
 | k + 1,x0,x3 => if x3 < (x0.length : Int) then (if 0 ≤ x3 then ((spec_IsPoint.f ((rd_T63 x0 x3).f0) ((rd_T63 x0 x3).f1)).bind fun t384 => (if t384 = true then (if x3 > 0 then (if 0 ≤ (wrap64 (x3 - 1)) then (if (wrap64 (x3 - 1)) < (x0.length : Int) then (if (((rd_T63 x0 (wrap64 (x3 - 1))).f0) == ((rd_T63 x0 x3).f0) && (((rd_T63 x0 (wrap64 (x3 - 1))).f1) == ((rd_T63 x0 x3).f1))) = true then (some false) else (spec_IsLine.l0 k x0 (wrap64 (x3 + 1)))) else (none)) else (none)) else (spec_IsLine.l0 k x0 (wrap64 (x3 + 1)))) else (some false))) else (none)) else ((spec_l1In.f (x0.length : Int) 2 10).bind fun t387 => (some t387))
def spec_IsLine.f (k : Nat) (l0 : List (S63)) : Option (Bool):=spec_IsLine.l0 k l0 0
set_option maxHeartbeats 8000000 in
set_option maxRecDepth 100000 in
theorem spec_IsLine.calls (k : Nat) (A0 : Option Addr) (c0 : Nat) (l0 : List (S63)) (r : Bool) (w : World) (hr0 : Kd.C k63 w A0 l0.length l0) (hc0 : l0.length ≤ c0) (h : spec_IsLine.f k l0 = some r) :
  Calls Try.prog 134 #[.slice A0 l0.length c0] w fun e w' => e = .returned (.bool r) ∧ Below w.heap.size w w':=by
 have hu63:=Try.underlying63
 have HR0:=Aside0.mk hr0
 have HC0:=Aside0.mk hc0
 clear hr0 hc0
 have HB:=Aside0.mk (Below.refl w.heap.size w)
 have H : (spec_IsLine.l0 k l0 0) = some r:=h
 clear h
 have H':=Aside0.mk H
 clear H
 go_enter Try.func134,Try.ntmps134
 go_wp2
 go_loopg [3] k (fun kq v3 w' => ∃ (x3_1 : Int),v3 = .int .i64 x3_1 ∧ Aside0 (spec_IsLine.l0 kq l0 x3_1 = some r) ∧ Aside0 (kq ≤ k) ∧ Aside0 (Below w.heap.size w w'))
 case atStart => exact ⟨(0),(by first | rfl | (simp;done) | (simp [*];done)),H',⟨Nat.le_refl _⟩,⟨Hd.b_⟩⟩
 case round =>
  clear H'
  try clear c1
  obtain ⟨x3_1,rfl,HA,HK1,HB⟩:=hrel
  cases gk with
  | zero => exact absurd HA.out (by simp [spec_IsLine.l0])
  | succ k1 =>
   have H:=HA.out
   clear HA
   simp only [spec_IsLine.l0] at H
   by_cases c2 : x3_1 < (l0.length : Int)
   ·
    rw [if_pos c2] at H
    have c2b0 : decide (x3_1 < (l0.length : Int)) = true:=decide_eq_true c2
    clear c2
    by_cases c3 : 0 ≤ x3_1
    ·
     rw [if_pos c3] at H
     have c3b0 : decide (0 ≤ x3_1) = true:=decide_eq_true c3
     clear c3
     replace H:=Option.bind_eq_some_iff.mp H
     obtain ⟨t384,A40,H⟩:=H
     replace H : (if t384 = true then (if x3_1 > 0 then (if 0 ≤ (wrap64 (x3_1 - 1)) then (if (wrap64 (x3_1 - 1)) < (l0.length : Int) then (if (((rd_T63 l0 (wrap64 (x3_1 - 1))).f0) == ((rd_T63 l0 x3_1).f0) && (((rd_T63 l0 (wrap64 (x3_1 - 1))).f1) == ((rd_T63 l0 x3_1).f1))) = true then (some false) else (spec_IsLine.l0 k1 l0 (wrap64 (x3_1 + 1)))) else (none)) else (none)) else (spec_IsLine.l0 k1 l0 (wrap64 (x3_1 + 1)))) else (some false)) = some r:=H
     have A4:=Aside0.mk A40
     clear A40
     by_cases c5 : t384 = true
     ·
      subst c5
      have H1 : (if x3_1 > 0 then (if 0 ≤ (wrap64 (x3_1 - 1)) then (if (wrap64 (x3_1 - 1)) < (l0.length : Int) then (if (((rd_T63 l0 (wrap64 (x3_1 - 1))).f0) == ((rd_T63 l0 x3_1).f0) && (((rd_T63 l0 (wrap64 (x3_1 - 1))).f1) == ((rd_T63 l0 x3_1).f1))) = true then (some false) else (spec_IsLine.l0 k1 l0 (wrap64 (x3_1 + 1)))) else (none)) else (none)) else (spec_IsLine.l0 k1 l0 (wrap64 (x3_1 + 1)))) = some r:=by rw [if_pos rfl] at H;exact H
      clear H
      have H:=H1
      clear H1
      by_cases c6 : x3_1 > 0
      ·
       rw [if_pos c6] at H
       have c6b0 : decide (0 < x3_1) = true:=decide_eq_true c6
       clear c6
       obtain ⟨ji7,hji7⟩ : ∃ j_ : Int,(wrap64 (x3_1 - 1)) = j_:=⟨_,rfl⟩
       replace H : (if 0 ≤ (ji7) then (if (ji7) < (l0.length : Int) then (if (((rd_T63 l0 (ji7)).f0) == ((rd_T63 l0 x3_1).f0) && (((rd_T63 l0 (ji7)).f1) == ((rd_T63 l0 x3_1).f1))) = true then (some false) else (spec_IsLine.l0 k1 l0 (wrap64 (x3_1 + 1)))) else (none)) else (none)) = some r:=by first | (rw [hji7] at H;exact H) | (simp only [hji7] at H ⊢;exact H)
       (try rw [hji7] at A4)
       have hji7w : (IntKind.i64.wrap (x3_1 - 1)) = ji7:=(i64_w _).trans hji7
       by_cases c8 : 0 ≤ (ji7)
       ·
        rw [if_pos c8] at H
        have c8b0 : decide (0 ≤ (ji7)) = true:=decide_eq_true c8
        clear c8
        by_cases c9 : (ji7) < (l0.length : Int)
        ·
         rw [if_pos c9] at H
         have c9b0 : decide ((ji7) < (l0.length : Int)) = true:=decide_eq_true c9
         clear c9
         by_cases c10 : (((rd_T63 l0 (ji7)).f0) == ((rd_T63 l0 x3_1).f0) && (((rd_T63 l0 (ji7)).f1) == ((rd_T63 l0 x3_1).f1))) = true
         ·
          rw [if_pos c10] at H
          have c10b0 : (((rd_T63 l0 (ji7)).f0) == ((rd_T63 l0 x3_1).f0) && (((rd_T63 l0 (ji7)).f1) == ((rd_T63 l0 x3_1).f1))) = true:=c10
          (try (have c10b1 : decide (((rd_T63 l0 (ji7)).f0) = ((rd_T63 l0 x3_1).f0) && (((rd_T63 l0 (ji7)).f1) == ((rd_T63 l0 x3_1).f1))) = true:=by simpa using c10))
          (try (have c10b2 : (((rd_T63 l0 (ji7)).f0) == ((rd_T63 l0 x3_1).f0) && (((rd_T63 l0 (ji7)).f1) == ((rd_T63 l0 x3_1).f1))) = true:=by simpa using c10))
          clear c10
          obtain rfl:=Option.some.inj H
          try go_wp2
          replace HB:=Aside0.mk (below_drew1 HB.out)
          have p383 : 0 ≤ (x3_1 : Int):=of_decide_eq_true Hd.a_
          have q383 : x3_1 < (l0.length : Int):=of_decide_eq_true Hd.a_
          obtain ⟨ad383,e383,hx383_0,hx383_1⟩:=at_T63 HR0.out x3_1 p383 q383
          have hw383_1:=hx383_1
          have hw383_0:=hx383_0
          cases e383
          replace hx383_0:=(HB.out.cell (World.block_lt_of_cell? w _ hx383_0)).trans hx383_0
          replace hx383_1:=(HB.out.cell (World.block_lt_of_cell? w _ hx383_1)).trans hx383_1
          replace p383:=eq_true p383
          replace q383:=eq_true q383
          have p385 : 0 ≤ ((ji7) : Int):=of_decide_eq_true Hd.a_
          have q385 : (ji7) < (l0.length : Int):=of_decide_eq_true Hd.a_
          obtain ⟨ad385,e385,hx385_0,hx385_1⟩:=at_T63 HR0.out (ji7) p385 q385
          have hw385_1:=hx385_1
          have hw385_0:=hx385_0
          obtain rfl : ad383 = ad385:=(by injection e385)
          replace hx385_0:=(HB.out.cell (World.block_lt_of_cell? w _ hx385_0)).trans hx385_0
          replace hx385_1:=(HB.out.cell (World.block_lt_of_cell? w _ hx385_1)).trans hx385_1
          replace p385:=eq_true p385
          replace q385:=eq_true q385
          have p386 : 0 ≤ (x3_1 : Int):=of_decide_eq_true Hd.a_
          have q386 : x3_1 < (l0.length : Int):=of_decide_eq_true Hd.a_
          obtain ⟨ad386,e386,hx386_0,hx386_1⟩:=at_T63 HR0.out x3_1 p386 q386
          have hw386_1:=hx386_1
          have hw386_0:=hx386_0
          obtain rfl : ad383 = ad386:=(by injection e386)
          replace hx386_0:=(HB.out.cell (World.block_lt_of_cell? w _ hx386_0)).trans hx386_0
          replace hx386_1:=(HB.out.cell (World.block_lt_of_cell? w _ hx386_1)).trans hx386_1
          replace p386:=eq_true p386
          replace q386:=eq_true q386
          have s0_:=Hd.HW.x (W0:=wr.drew) ((HB.out.cell (World.block_lt_of_cell? w _ hw383_0)).trans hw383_0)
          have s1_:=Hd.HW.x (W0:=wr.drew) ((HB.out.cell (World.block_lt_of_cell? w _ hw383_1)).trans hw383_1)
          have s2_:=Hd.HW.x (W0:=wr.drew) ((HB.out.cell (World.block_lt_of_cell? w _ hw385_0)).trans hw385_0)
          have s3_:=Hd.HW.x (W0:=wr.drew) ((HB.out.cell (World.block_lt_of_cell? w _ hw385_1)).trans hw385_1)
          have s4_:=Hd.HW.x (W0:=wr.drew) ((HB.out.cell (World.block_lt_of_cell? w _ hw386_0)).trans hw386_0)
          have s5_:=Hd.HW.x (W0:=wr.drew) ((HB.out.cell (World.block_lt_of_cell? w _ hw386_1)).trans hw386_1)
          refine Hd.HW.region (by kernel_rfl) (by kernel_rfl) ?_
          repeat (go_big_quiet_step ((first | (go_at_call 88;with_reducible exact Hd.HW.c (spec_IsPoint.calls ((rd_T63 l0 x3_1).f0) ((rd_T63 l0 x3_1).f1) true _ A4.out)))))
          refine wpQuiet_nil ?_
          intro _ hq_
          obtain ⟨q_,rfl⟩:=hq_
          clear s0_ s1_ s2_ s3_ s4_ s5_
          replace HB:=Aside0.mk (below_step HB.out q_.b)
          replace hx383_0:=q_.cell hx383_0
          replace hx383_1:=q_.cell hx383_1
          replace hx385_0:=q_.cell hx385_0
          replace hx385_1:=q_.cell hx385_1
          replace hx386_0:=q_.cell hx386_0
          replace hx386_1:=q_.cell hx386_1
          generalize q_.W = w12 at HB hx383_0 hx383_1 hx385_0 hx385_1 hx386_0 hx386_1 ⊢
          try simp only [i64_w,i32_w]
          try go_wp2
          go_ret
          exact ⟨by first | rfl | (simp [errW_none,errW_some] <;> rfl) | (simp only [← hji7];first | rfl | (simp [errW_none,errW_some] <;> rfl)) | (simp [*,errW_none,errW_some] <;> rfl),Hd.b_⟩
         ·
          rw [if_neg c10] at H
          have c10b0 : (((rd_T63 l0 (ji7)).f0) == ((rd_T63 l0 x3_1).f0) && (((rd_T63 l0 (ji7)).f1) == ((rd_T63 l0 x3_1).f1))) = false:=by simpa using c10
          (try (have c10b1 : decide (((rd_T63 l0 (ji7)).f0) = ((rd_T63 l0 x3_1).f0) && (((rd_T63 l0 (ji7)).f1) == ((rd_T63 l0 x3_1).f1))) = false:=by simpa using c10))
          (try (have c10b2 : (((rd_T63 l0 (ji7)).f0) == ((rd_T63 l0 x3_1).f0) && (((rd_T63 l0 (ji7)).f1) == ((rd_T63 l0 x3_1).f1))) = false:=by simpa using c10))
          (try (have c10b3 : ¬ (((rd_T63 l0 (ji7)).f0) = ((rd_T63 l0 x3_1).f0) && (((rd_T63 l0 (ji7)).f1) == ((rd_T63 l0 x3_1).f1))):=by simpa using c10))
          clear c10
          have H':=Aside0.mk H
          clear H
          try go_wp2
          replace HB:=Aside0.mk (below_drew1 HB.out)
          have p383 : 0 ≤ (x3_1 : Int):=of_decide_eq_true Hd.a_
          have q383 : x3_1 < (l0.length : Int):=of_decide_eq_true Hd.a_
          obtain ⟨ad383,e383,hx383_0,hx383_1⟩:=at_T63 HR0.out x3_1 p383 q383
          have hw383_1:=hx383_1
          have hw383_0:=hx383_0
          cases e383
          replace hx383_0:=(HB.out.cell (World.block_lt_of_cell? w _ hx383_0)).trans hx383_0
          replace hx383_1:=(HB.out.cell (World.block_lt_of_cell? w _ hx383_1)).trans hx383_1
          replace p383:=eq_true p383
          replace q383:=eq_true q383
          have p385 : 0 ≤ ((ji7) : Int):=of_decide_eq_true Hd.a_
          have q385 : (ji7) < (l0.length : Int):=of_decide_eq_true Hd.a_
          obtain ⟨ad385,e385,hx385_0,hx385_1⟩:=at_T63 HR0.out (ji7) p385 q385
          have hw385_1:=hx385_1
          have hw385_0:=hx385_0
          obtain rfl : ad383 = ad385:=(by injection e385)
          replace hx385_0:=(HB.out.cell (World.block_lt_of_cell? w _ hx385_0)).trans hx385_0
          replace hx385_1:=(HB.out.cell (World.block_lt_of_cell? w _ hx385_1)).trans hx385_1
          replace p385:=eq_true p385
          replace q385:=eq_true q385
          have p386 : 0 ≤ (x3_1 : Int):=of_decide_eq_true Hd.a_
          have q386 : x3_1 < (l0.length : Int):=of_decide_eq_true Hd.a_
          obtain ⟨ad386,e386,hx386_0,hx386_1⟩:=at_T63 HR0.out x3_1 p386 q386
          have hw386_1:=hx386_1
          have hw386_0:=hx386_0
          obtain rfl : ad383 = ad386:=(by injection e386)
          replace hx386_0:=(HB.out.cell (World.block_lt_of_cell? w _ hx386_0)).trans hx386_0
          replace hx386_1:=(HB.out.cell (World.block_lt_of_cell? w _ hx386_1)).trans hx386_1
          replace p386:=eq_true p386
          replace q386:=eq_true q386
          have s0_:=Hd.HW.x (W0:=wr.drew) ((HB.out.cell (World.block_lt_of_cell? w _ hw383_0)).trans hw383_0)
          have s1_:=Hd.HW.x (W0:=wr.drew) ((HB.out.cell (World.block_lt_of_cell? w _ hw383_1)).trans hw383_1)
          have s2_:=Hd.HW.x (W0:=wr.drew) ((HB.out.cell (World.block_lt_of_cell? w _ hw385_0)).trans hw385_0)
          have s3_:=Hd.HW.x (W0:=wr.drew) ((HB.out.cell (World.block_lt_of_cell? w _ hw385_1)).trans hw385_1)
          have s4_:=Hd.HW.x (W0:=wr.drew) ((HB.out.cell (World.block_lt_of_cell? w _ hw386_0)).trans hw386_0)
          have s5_:=Hd.HW.x (W0:=wr.drew) ((HB.out.cell (World.block_lt_of_cell? w _ hw386_1)).trans hw386_1)
          refine Hd.HW.region (by kernel_rfl) (by kernel_rfl) ?_
          repeat (go_big_quiet_step ((first | (go_at_call 88;with_reducible exact Hd.HW.c (spec_IsPoint.calls ((rd_T63 l0 x3_1).f0) ((rd_T63 l0 x3_1).f1) true _ A4.out)))))
          refine wpQuiet_nil ?_
          intro _ hq_
          obtain ⟨q_,rfl⟩:=hq_
          clear s0_ s1_ s2_ s3_ s4_ s5_
          replace HB:=Aside0.mk (below_step HB.out q_.b)
          replace hx383_0:=q_.cell hx383_0
          replace hx383_1:=q_.cell hx383_1
          replace hx385_0:=q_.cell hx385_0
          replace hx385_1:=q_.cell hx385_1
          replace hx386_0:=q_.cell hx386_0
          replace hx386_1:=q_.cell hx386_1
          generalize q_.W = w14 at HB hx383_0 hx383_1 hx385_0 hx385_1 hx386_0 hx386_1 ⊢
          try simp only [i64_w,i32_w]
          try go_wp2
          go_roundg k1
          case measure => have:=HK1.out;omega
          case rel => exact ⟨(wrap64 (x3_1 + 1)),(by first | rfl | (simp;done) | (simp [*];done)),H',⟨by have:=HK1.out;omega⟩,⟨Hd.b_⟩⟩
        ·
         rw [if_neg c9] at H
         exact absurd H (by simp)
       ·
        rw [if_neg c8] at H
        exact absurd H (by simp)
      ·
       rw [if_neg c6] at H
       have c6b0 : decide (0 < x3_1) = false:=decide_eq_false c6
       clear c6
       have H':=Aside0.mk H
       clear H
       try go_wp2
       replace HB:=Aside0.mk (below_drew1 HB.out)
       have p383 : 0 ≤ (x3_1 : Int):=of_decide_eq_true Hd.a_
       have q383 : x3_1 < (l0.length : Int):=of_decide_eq_true Hd.a_
       obtain ⟨ad383,e383,hx383_0,hx383_1⟩:=at_T63 HR0.out x3_1 p383 q383
       have hw383_1:=hx383_1
       have hw383_0:=hx383_0
       cases e383
       replace hx383_0:=(HB.out.cell (World.block_lt_of_cell? w _ hx383_0)).trans hx383_0
       replace hx383_1:=(HB.out.cell (World.block_lt_of_cell? w _ hx383_1)).trans hx383_1
       replace p383:=eq_true p383
       replace q383:=eq_true q383
       have s0_:=Hd.HW.x (W0:=wr.drew) ((HB.out.cell (World.block_lt_of_cell? w _ hw383_0)).trans hw383_0)
       have s1_:=Hd.HW.x (W0:=wr.drew) ((HB.out.cell (World.block_lt_of_cell? w _ hw383_1)).trans hw383_1)
       refine Hd.HW.region (by kernel_rfl) (by kernel_rfl) ?_
       repeat (go_big_quiet_step ((first | (go_at_call 88;with_reducible exact Hd.HW.c (spec_IsPoint.calls ((rd_T63 l0 x3_1).f0) ((rd_T63 l0 x3_1).f1) true _ A4.out)))))
       refine wpQuiet_nil ?_
       intro _ hq_
       obtain ⟨q_,rfl⟩:=hq_
       clear s0_ s1_
       replace HB:=Aside0.mk (below_step HB.out q_.b)
       replace hx383_0:=q_.cell hx383_0
       replace hx383_1:=q_.cell hx383_1
       generalize q_.W = w16 at HB hx383_0 hx383_1 ⊢
       try simp only [i64_w,i32_w]
       try go_wp2
       go_roundg k1
       case measure => have:=HK1.out;omega
       case rel => exact ⟨(wrap64 (x3_1 + 1)),(by first | rfl | (simp;done) | (simp [*];done)),H',⟨by have:=HK1.out;omega⟩,⟨Hd.b_⟩⟩
     ·
      replace c5:=Bool.eq_false_iff.mpr c5
      subst c5
      have H1 : (some false) = some r:=by rw [if_neg (show ¬ (false = true) by decide)] at H;exact H
      clear H
      have H:=H1
      clear H1
      obtain rfl:=Option.some.inj H
      try go_wp2
      replace HB:=Aside0.mk (below_drew1 HB.out)
      have p383 : 0 ≤ (x3_1 : Int):=of_decide_eq_true Hd.a_
      have q383 : x3_1 < (l0.length : Int):=of_decide_eq_true Hd.a_
      obtain ⟨ad383,e383,hx383_0,hx383_1⟩:=at_T63 HR0.out x3_1 p383 q383
      have hw383_1:=hx383_1
      have hw383_0:=hx383_0
      cases e383
      replace hx383_0:=(HB.out.cell (World.block_lt_of_cell? w _ hx383_0)).trans hx383_0
      replace hx383_1:=(HB.out.cell (World.block_lt_of_cell? w _ hx383_1)).trans hx383_1
      replace p383:=eq_true p383
      replace q383:=eq_true q383
      have s0_:=Hd.HW.x (W0:=wr.drew) ((HB.out.cell (World.block_lt_of_cell? w _ hw383_0)).trans hw383_0)
      have s1_:=Hd.HW.x (W0:=wr.drew) ((HB.out.cell (World.block_lt_of_cell? w _ hw383_1)).trans hw383_1)
      refine Hd.HW.region (by kernel_rfl) (by kernel_rfl) ?_
      repeat (go_big_quiet_step ((first | (go_at_call 88;with_reducible exact Hd.HW.c (spec_IsPoint.calls ((rd_T63 l0 x3_1).f0) ((rd_T63 l0 x3_1).f1) false _ A4.out)))))
      refine wpQuiet_nil ?_
      intro _ hq_
      obtain ⟨q_,rfl⟩:=hq_
      clear s0_ s1_
      replace HB:=Aside0.mk (below_step HB.out q_.b)
      replace hx383_0:=q_.cell hx383_0
      replace hx383_1:=q_.cell hx383_1
      generalize q_.W = w18 at HB hx383_0 hx383_1 ⊢
      try simp only [i64_w,i32_w]
      try go_wp2
      go_ret
      exact ⟨Hd.e_,Hd.b_⟩
    ·
     rw [if_neg c3] at H
     exact absurd H (by simp)
   ·
    rw [if_neg c2] at H
    have c2b0 : decide (x3_1 < (l0.length : Int)) = false:=decide_eq_false c2
    clear c2
    replace H:=Option.bind_eq_some_iff.mp H
    obtain ⟨t387,A190,H⟩:=H
    replace H : (some t387) = some r:=H
    have A19:=Aside0.mk A190
    clear A190
    obtain rfl:=Option.some.inj H
    go_wp2_with (first | ((with_reducible refine gate_callee (f:=61) rfl ?_);refine goesL_ (some 34) rfl rfl Try.func61 (by kernel_rfl) rfl #[.int .i64 (l0.length : Int),.int .i64 2,.int .i64 10] rfl Hd.m_ ?_;(with_reducible refine (spec_l1In.calls (l0.length : Int) 2 10 t387 _ A19.out).mono ?_);rintro e w' ⟨rfl,⟨nd,rfl⟩⟩;refine ⟨_,rfl,?_⟩))
    go_ret
    exact ⟨Hd.e_,Hd.b_⟩
end Go.Proofs.Ytchmbcembbbplad.MFnExactMeetsOf
