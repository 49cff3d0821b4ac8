-- Laid by this session's program pp.py, after the kit's print and texts of the session's own. Not trusted: Lean checks it.
import Derived.Test.YtbbdhlggnglfgaaZTakeFeatureMx0
import Derived.Test.YtbbdhlggnglfgaaZTakeFeatureMx11
import Derived.Test.YtbbdhlggnglfgaaZTakeFeatureMx12
import Derived.Test.YtbbdhlggnglfgaaZTakeFeatureMx13
namespace Go.Proofs.Ytbbdhlggnglfgaa.MFnExactTakeFeature
open Go.RowKit Go.Proofs.YtbbdhlggnglfgaaW.PrintWords Go.Proofs.YtbbdhlggnglfgaaW.PrintLast Go.Proofs.YtbbdhlggnglfgaaW.PrintMore
attribute [local go_sem] max2_int min2_int max_two min_two max_three min_three max_four min_four   -- for this text's walks alone
set_option linter.unusedVariables false
set_option linter.unusedSimpArgs false
mutual
def spec_HowMeet.j0 : Nat → Bool → Int → Int → Int → Int → Int → Int → Int → Int → Option (Int)
 | 0, _, _, _, _, _, _, _, _, _ => none
 | k + 1, x12, x387000, x387001, x387002, x387003, x388000, x388001, x388002, x388003 => if x12 = true then (some 0) else ((spec_Max.f x387000 x387002).bind fun t390 => ((spec_Min.f x388000 x388002).bind fun t391 => (if t390 < t391 then (spec_HowMeet.j1 k true x387000 x387001 x387002 x387003 x388000 x388001 x388002 x388003) else ((spec_Max.f x388000 x388002).bind fun t392 => ((spec_Min.f x387000 x387002).bind fun t393 => (if t392 < t393 then (spec_HowMeet.j1 k true x387000 x387001 x387002 x387003 x388000 x388001 x388002 x388003) else ((spec_Max.f x387001 x387003).bind fun t394 => ((spec_Min.f x388001 x388003).bind fun t395 => (if t394 < t395 then (spec_HowMeet.j1 k true x387000 x387001 x387002 x387003 x388000 x388001 x388002 x388003) else ((spec_Max.f x388001 x388003).bind fun t396 => ((spec_Min.f x387001 x387003).bind fun t397 => (spec_HowMeet.j1 k (decide (t396 < t397)) x387000 x387001 x387002 x387003 x388000 x388001 x388002 x388003))))))))))))
def spec_HowMeet.j1 : Nat → Bool → Int → Int → Int → Int → Int → Int → Int → Int → Option (Int)
 | 0, _, _, _, _, _, _, _, _, _ => none
 | k + 1, x78, x387000, x387001, x387002, x387003, x388000, x388001, x388002, x388003 => if x78 = true then (some 0) else ((spec_l5Shared.f k x387000 x387001 x387002 x387003 x388000 x388001 x388002 x388003).bind fun t398 => (if t398 = 0 then ((spec_SideOf.f k x387000 x387001 x387002 x387003 x388000 x388001).bind fun t399 => ((spec_SideOf.f k x387000 x387001 x387002 x387003 x388002 x388003).bind fun t400 => (if (wrap64 (t399 * t400)) < 0 then ((spec_SideOf.f k x388000 x388001 x388002 x388003 x387000 x387001).bind fun t401 => ((spec_SideOf.f k x388000 x388001 x388002 x388003 x387002 x387003).bind fun t402 => (if (wrap64 (t401 * t402)) < 0 then (some 2) else (some 0)))) else (some 0)))) else (if t398 = 1 then (some 1) else (some 3))))
end
def spec_HowMeet.f (k : Nat) (a0_0 : Int) (a0_1 : Int) (a0_2 : Int) (a0_3 : Int) (a1_0 : Int) (a1_1 : Int) (a1_2 : Int) (a1_3 : Int) : Option (Int) := (spec_IsSegment.f a0_0 a0_1 a0_2 a0_3).bind fun t388 => (if t388 = true then ((spec_IsSegment.f a1_0 a1_1 a1_2 a1_3).bind fun t389 => (spec_HowMeet.j0 k (!t389) a0_0 a0_1 a0_2 a0_3 a1_0 a1_1 a1_2 a1_3)) else (spec_HowMeet.j0 k true a0_0 a0_1 a0_2 a0_3 a1_0 a1_1 a1_2 a1_3))
set_option maxHeartbeats 8000000 in
set_option maxRecDepth 100000 in
theorem spec_HowMeet.calls (k : Nat) (a0_0 : Int) (a0_1 : Int) (a0_2 : Int) (a0_3 : Int) (a1_0 : Int) (a1_1 : Int) (a1_2 : Int) (a1_3 : Int) (r : Int) (w : World) (h : spec_HowMeet.f k a0_0 a0_1 a0_2 a0_3 a1_0 a1_1 a1_2 a1_3 = some r) :
  Calls Try.prog 96 #[.agg #[.int .i64 a0_0, .int .i64 a0_1, .int .i64 a0_2, .int .i64 a0_3], .agg #[.int .i64 a1_0, .int .i64 a1_1, .int .i64 a1_2, .int .i64 a1_3]] w fun e w' => e = .returned (.int .i64 r) ∧ Below w.heap.size w w' := by
 have hu101 := Try.underlying101
 have hu75 := Try.underlying75
 have HB := Aside0.mk (Below.refl w.heap.size w)
 have H : ((spec_IsSegment.f a0_0 a0_1 a0_2 a0_3).bind fun t388 => (if t388 = true then ((spec_IsSegment.f a1_0 a1_1 a1_2 a1_3).bind fun t389 => (spec_HowMeet.j0 k (!t389) a0_0 a0_1 a0_2 a0_3 a1_0 a1_1 a1_2 a1_3)) else (spec_HowMeet.j0 k true a0_0 a0_1 a0_2 a0_3 a1_0 a1_1 a1_2 a1_3))) = some r := h
 clear h
 have HC3 := Aside0.mk H
 clear H
 go_enter Try.func96, Try.ntmps96
 go_upto_region 1 with (first | ((with_reducible refine gate_dst (N := 2) rfl ?_); refine Hd.box_ 2 (#[.int .i64 a0_0, .int .i64 a0_1, .int .i64 a0_2, .int .i64 a0_3]) 101 ?_; intro gb386 hg w4 hbox hb; have BK386 := Aside0.mk (hbox); have GW386 := Aside0.mk ((Hd.g_ hg Hd.b_ : w.heap.size ≤ gb386)); have GE386 := Aside0.mk ((Hd.g_ hg Hd.b_ : w.heap.size ≤ gb386)); replace HB := Aside0.mk (below_step Hd.b_ hb); clear hb hbox hg) | ((with_reducible refine gate_dst (N := 3) rfl ?_); refine Hd.box_ 3 (#[.int .i64 a1_0, .int .i64 a1_1, .int .i64 a1_2, .int .i64 a1_3]) 101 ?_; intro gb387 hg w5 hbox hb; have BK387 := Aside0.mk (hbox); have GW387 := Aside0.mk ((Hd.g_ hg Hd.b_ : w.heap.size ≤ gb387)); have GE387 := Aside0.mk ((Hd.g_ hg Hd.b_ : w.heap.size ≤ gb387)); replace HB := Aside0.mk (below_step Hd.b_ hb); have NB386_387 := Aside0.mk ((Hd.lt_ BK386 hg)); have NB387_386 := Aside0.mk ((Hd.gt_ BK386 hg)); replace BK386 := Aside0.mk (Hd.kb_ BK386 hb); clear hb hbox hg))
 (try simp only [Act.put, List.setIfInBounds_toArray, List.set_cons_zero, List.set_cons_succ])
 go_cut [12] (fun v12 wc => ∃ (kq : Nat) (x12_2 : Bool), v12 = .bool x12_2 ∧ Aside0 (spec_HowMeet.j0 kq x12_2 a0_0 a0_1 a0_2 a0_3 a1_0 a1_1 a1_2 a1_3 = some r) ∧ Aside0 (kq ≤ k) ∧ Aside0 (wc.heap[gb386]? = some (.cells #[.int .i64 a0_0, .int .i64 a0_1, .int .i64 a0_2, .int .i64 a0_3] 101 (0, 0))) ∧ Aside0 (wc.heap[gb387]? = some (.cells #[.int .i64 a1_0, .int .i64 a1_1, .int .i64 a1_2, .int .i64 a1_3] 101 (0, 0))) ∧ Aside0 (Below w.heap.size w wc))
 case first =>
  have H := HC3.out
  clear HC3
  replace H := Option.bind_eq_some_iff.mp H
  obtain ⟨t388, A60, H⟩ := H
  replace H : (if t388 = true then ((spec_IsSegment.f a1_0 a1_1 a1_2 a1_3).bind fun t389 => (spec_HowMeet.j0 k (!t389) a0_0 a0_1 a0_2 a0_3 a1_0 a1_1 a1_2 a1_3)) else (spec_HowMeet.j0 k true a0_0 a0_1 a0_2 a0_3 a1_0 a1_1 a1_2 a1_3)) = some r := H
  have A6 := Aside0.mk A60
  clear A60
  by_cases c7 : t388 = true
  ·
   subst c7
   have H1 : ((spec_IsSegment.f a1_0 a1_1 a1_2 a1_3).bind fun t389 => (spec_HowMeet.j0 k (!t389) a0_0 a0_1 a0_2 a0_3 a1_0 a1_1 a1_2 a1_3)) = some r := by rw [if_pos rfl] at H; exact H
   clear H
   have H := H1
   clear H1
   replace H := Option.bind_eq_some_iff.mp H
   obtain ⟨t389, A80, H⟩ := H
   replace H : (spec_HowMeet.j0 k (!t389) a0_0 a0_1 a0_2 a0_3 a1_0 a1_1 a1_2 a1_3) = some r := H
   have A8 := Aside0.mk A80
   clear A80
   have H' := Aside0.mk H
   clear H
   have hnb9 := NB386_387.out
   have hnc9 := NB387_386.out
   obtain ⟨hcz10_0, hcz10_1, hcz10_2, hcz10_3⟩ := Hd.c4_ BK386.out
   obtain ⟨hfz10_0, hfz10_1, hfz10_2, hfz10_3⟩ := Hd.f4_ BK386.out
   go_wp2_with (first | ((with_reducible refine gate_callee (f := 99) rfl ?_); refine goesL_ (some 6) rfl rfl Try.func99 (by kernel_rfl) rfl #[.agg #[.int .i64 a0_0, .int .i64 a0_1, .int .i64 a0_2, .int .i64 a0_3]] rfl Hd.m_ ?_; (with_reducible refine (spec_IsSegment.calls a0_0 a0_1 a0_2 a0_3 true _ A6.out).mono ?_); rintro e w11 ⟨rfl, hb⟩; refine ⟨_, rfl, ?_⟩; replace BK386 := Aside0.mk (Hd.kb_ BK386 hb); replace BK387 := Aside0.mk (Hd.kb_ BK387 hb); replace HB := Aside0.mk (below_step Hd.b_ hb); (try clear hb); (try clear hb2); (try clear hk); (try clear hi); obtain ⟨hcz12_0, hcz12_1, hcz12_2, hcz12_3⟩ := Hd.c4_ BK387.out; obtain ⟨hfz12_0, hfz12_1, hfz12_2, hfz12_3⟩ := Hd.f4_ BK387.out) | (go_at_call 99; (with_reducible refine (spec_IsSegment.calls a1_0 a1_1 a1_2 a1_3 t389 _ A8.out).mono ?_); rintro e w13 ⟨rfl, hb⟩; replace BK386 := Aside0.mk (Hd.kb_ BK386 hb); replace BK387 := Aside0.mk (Hd.kb_ BK387 hb); replace HB := Aside0.mk (below_step Hd.b_ hb); (try clear hb); (try clear hb2); (try clear hk); (try clear hi)))
   go_meet
   case rel => exact ⟨_, (!t389), (by first | rfl | (simp; done) | (simp [*]; done)), H', ⟨by first | omega | exact Nat.le_refl _⟩, ⟨by (with_reducible repeat (first | refine blk_drewN ?_ _ | refine blk_drew ?_ | refine blk_alloc ?_ _)); exact BK386.out⟩, ⟨by (with_reducible repeat (first | refine blk_drewN ?_ _ | refine blk_drew ?_ | refine blk_alloc ?_ _)); exact BK387.out⟩, ⟨Hd.b_⟩⟩
  ·
   replace c7 := Bool.eq_false_iff.mpr c7
   subst c7
   have H1 : (spec_HowMeet.j0 k true a0_0 a0_1 a0_2 a0_3 a1_0 a1_1 a1_2 a1_3) = some r := by rw [if_neg (show ¬ (false = true) by decide)] at H; exact H
   clear H
   have H := H1
   clear H1
   have H' := Aside0.mk H
   clear H
   have hnb14 := NB386_387.out
   have hnc14 := NB387_386.out
   obtain ⟨hcz15_0, hcz15_1, hcz15_2, hcz15_3⟩ := Hd.c4_ BK386.out
   obtain ⟨hfz15_0, hfz15_1, hfz15_2, hfz15_3⟩ := Hd.f4_ BK386.out
   go_wp2_with (first | ((with_reducible refine gate_callee (f := 99) rfl ?_); refine goesL_ (some 6) rfl rfl Try.func99 (by kernel_rfl) rfl #[.agg #[.int .i64 a0_0, .int .i64 a0_1, .int .i64 a0_2, .int .i64 a0_3]] rfl Hd.m_ ?_; (with_reducible refine (spec_IsSegment.calls a0_0 a0_1 a0_2 a0_3 false _ A6.out).mono ?_); rintro e w16 ⟨rfl, hb⟩; refine ⟨_, rfl, ?_⟩; replace BK386 := Aside0.mk (Hd.kb_ BK386 hb); replace BK387 := Aside0.mk (Hd.kb_ BK387 hb); replace HB := Aside0.mk (below_step Hd.b_ hb); (try clear hb); (try clear hb2); (try clear hk); (try clear hi)))
   go_meet
   case rel => exact ⟨_, (true), (by first | rfl | (simp; done) | (simp [*]; done)), H', ⟨by first | omega | exact Nat.le_refl _⟩, ⟨by (with_reducible repeat (first | refine blk_drewN ?_ _ | refine blk_drew ?_ | refine blk_alloc ?_ _)); exact BK386.out⟩, ⟨by (with_reducible repeat (first | refine blk_drewN ?_ _ | refine blk_drew ?_ | refine blk_alloc ?_ _)); exact BK387.out⟩, ⟨Hd.b_⟩⟩
 case rest =>
  clear HC3
  try clear c1
  try clear p2
  try clear c7
  try clear c9
  try clear c14
  try clear hcz10_0
  try clear hcz10_1
  try clear hcz10_2
  try clear hcz10_3
  try clear hcz12_0
  try clear hcz12_1
  try clear hcz12_2
  try clear hcz12_3
  try clear hcz15_0
  try clear hcz15_1
  try clear hcz15_2
  try clear hcz15_3
  try clear hfz10_0
  try clear hfz10_1
  try clear hfz10_2
  try clear hfz10_3
  try clear hfz12_0
  try clear hfz12_1
  try clear hfz12_2
  try clear hfz12_3
  try clear hfz15_0
  try clear hfz15_1
  try clear hfz15_2
  try clear hfz15_3
  obtain ⟨kq, x12_2, rfl, HA, HJ2, BK386, BK387, HB⟩ := hcut
  cases kq with
  | zero => exact absurd HA.out (by simp [spec_HowMeet.j0])
  | succ kj2 =>
   have H := HA.out
   clear HA
   simp only [spec_HowMeet.j0] at H
   by_cases c17 : x12_2 = true
   ·
    subst c17
    have H1 : (some 0) = some r := by rw [if_pos rfl] at H; exact H
    clear H
    have H := H1
    clear H1
    obtain rfl := Option.some.inj H
    go_wp2
    go_ret
    exact ⟨Hd.e_, Hd.b_⟩
   ·
    replace c17 := Bool.eq_false_iff.mpr c17
    subst c17
    have H1 : ((spec_Max.f a0_0 a0_2).bind fun t390 => ((spec_Min.f a1_0 a1_2).bind fun t391 => (if t390 < t391 then (spec_HowMeet.j1 kj2 true a0_0 a0_1 a0_2 a0_3 a1_0 a1_1 a1_2 a1_3) else ((spec_Max.f a1_0 a1_2).bind fun t392 => ((spec_Min.f a0_0 a0_2).bind fun t393 => (if t392 < t393 then (spec_HowMeet.j1 kj2 true a0_0 a0_1 a0_2 a0_3 a1_0 a1_1 a1_2 a1_3) else ((spec_Max.f a0_1 a0_3).bind fun t394 => ((spec_Min.f a1_1 a1_3).bind fun t395 => (if t394 < t395 then (spec_HowMeet.j1 kj2 true a0_0 a0_1 a0_2 a0_3 a1_0 a1_1 a1_2 a1_3) else ((spec_Max.f a1_1 a1_3).bind fun t396 => ((spec_Min.f a0_1 a0_3).bind fun t397 => (spec_HowMeet.j1 kj2 (decide (t396 < t397)) a0_0 a0_1 a0_2 a0_3 a1_0 a1_1 a1_2 a1_3)))))))))))) = some r := by rw [if_neg (show ¬ (false = true) by decide)] at H; exact H
    clear H
    have H := H1
    clear H1
    have HC18 := Aside0.mk H
    clear H
    go_upto_region 3 with (fail)
    go_cut [78] (fun v78 wc => ∃ (kq : Nat) (x78_17 : Bool), v78 = .bool x78_17 ∧ Aside0 (spec_HowMeet.j1 kq x78_17 a0_0 a0_1 a0_2 a0_3 a1_0 a1_1 a1_2 a1_3 = some r) ∧ Aside0 (kq ≤ kj2) ∧ Aside0 (wc.heap[gb386]? = some (.cells #[.int .i64 a0_0, .int .i64 a0_1, .int .i64 a0_2, .int .i64 a0_3] 101 (0, 0))) ∧ Aside0 (wc.heap[gb387]? = some (.cells #[.int .i64 a1_0, .int .i64 a1_1, .int .i64 a1_2, .int .i64 a1_3] 101 (0, 0))) ∧ Aside0 (Below w.heap.size w wc))
    case first =>
     have H := HC18.out
     clear HC18
     replace H := Option.bind_eq_some_iff.mp H
     obtain ⟨t390, A190, H⟩ := H
     replace H : ((spec_Min.f a1_0 a1_2).bind fun t391 => (if t390 < t391 then (spec_HowMeet.j1 kj2 true a0_0 a0_1 a0_2 a0_3 a1_0 a1_1 a1_2 a1_3) else ((spec_Max.f a1_0 a1_2).bind fun t392 => ((spec_Min.f a0_0 a0_2).bind fun t393 => (if t392 < t393 then (spec_HowMeet.j1 kj2 true a0_0 a0_1 a0_2 a0_3 a1_0 a1_1 a1_2 a1_3) else ((spec_Max.f a0_1 a0_3).bind fun t394 => ((spec_Min.f a1_1 a1_3).bind fun t395 => (if t394 < t395 then (spec_HowMeet.j1 kj2 true a0_0 a0_1 a0_2 a0_3 a1_0 a1_1 a1_2 a1_3) else ((spec_Max.f a1_1 a1_3).bind fun t396 => ((spec_Min.f a0_1 a0_3).bind fun t397 => (spec_HowMeet.j1 kj2 (decide (t396 < t397)) a0_0 a0_1 a0_2 a0_3 a1_0 a1_1 a1_2 a1_3))))))))))) = some r := H
     have A19 := Aside0.mk A190
     clear A190
     replace H := Option.bind_eq_some_iff.mp H
     obtain ⟨t391, A200, H⟩ := H
     replace H : (if t390 < t391 then (spec_HowMeet.j1 kj2 true a0_0 a0_1 a0_2 a0_3 a1_0 a1_1 a1_2 a1_3) else ((spec_Max.f a1_0 a1_2).bind fun t392 => ((spec_Min.f a0_0 a0_2).bind fun t393 => (if t392 < t393 then (spec_HowMeet.j1 kj2 true a0_0 a0_1 a0_2 a0_3 a1_0 a1_1 a1_2 a1_3) else ((spec_Max.f a0_1 a0_3).bind fun t394 => ((spec_Min.f a1_1 a1_3).bind fun t395 => (if t394 < t395 then (spec_HowMeet.j1 kj2 true a0_0 a0_1 a0_2 a0_3 a1_0 a1_1 a1_2 a1_3) else ((spec_Max.f a1_1 a1_3).bind fun t396 => ((spec_Min.f a0_1 a0_3).bind fun t397 => (spec_HowMeet.j1 kj2 (decide (t396 < t397)) a0_0 a0_1 a0_2 a0_3 a1_0 a1_1 a1_2 a1_3)))))))))) = some r := H
     have A20 := Aside0.mk A200
     clear A200
     by_cases c21 : t390 < t391
     ·
      rw [if_pos c21] at H
      have c21b0 : decide (t390 < t391) = true := decide_eq_true c21
      clear c21
      (first | rw [c21b0] | (simp only [i64_w, i32_w]; rw [c21b0]) | skip)
      have H' := Aside0.mk H
      clear H
      try go_wp2
      replace BK386 := Aside0.mk (blk_drew BK386.out)
      replace BK387 := Aside0.mk (blk_drew BK387.out)
      replace HB := Aside0.mk (below_drew1 HB.out)
      obtain ⟨s0_, s1_, s2_, s3_⟩ := Hd.HW.k4 (W0 := wc.drew) BK386
      obtain ⟨s4_, s5_, s6_, s7_⟩ := Hd.HW.k4 (W0 := wc.drew) BK387
      refine Hd.HW.region (by kernel_rfl) (by kernel_rfl) ?_
      try dsimp only [List.append]
      repeat (go_big_quiet_step ((first | (go_at_call 109; with_reducible exact Hd.HW.d (spec_Max.calls a0_0 a0_2 t390 _ A19.out)) | (go_at_call 104; with_reducible exact Hd.HW.d (spec_Min.calls a1_0 a1_2 t391 _ A20.out)))))
      refine wpQuiet_nil ?_
      intro _ hq_
      obtain ⟨q_, rfl⟩ := hq_
      clear s0_ s1_ s2_ s3_ s4_ s5_ s6_ s7_
      replace BK386 := Aside0.mk (blk_below BK386.out q_.b)
      replace BK387 := Aside0.mk (blk_below BK387.out q_.b)
      replace HB := Aside0.mk (below_step HB.out q_.b)
      generalize q_.W = w22 at BK386 BK387 HB ⊢
      try simp only [i64_w, i32_w]
      try go_wp2
      go_meet
      case rel => exact ⟨_, (true), (by first | rfl | (simp; done) | (simp [*]; done)), H', ⟨by have := HJ2.out; first | omega | exact Nat.le_refl _⟩, ⟨by (with_reducible repeat (first | refine blk_drewN ?_ _ | refine blk_drew ?_ | refine blk_alloc ?_ _)); exact BK386.out⟩, ⟨by (with_reducible repeat (first | refine blk_drewN ?_ _ | refine blk_drew ?_ | refine blk_alloc ?_ _)); exact BK387.out⟩, ⟨Hd.b_⟩⟩
     ·
      rw [if_neg c21] at H
      have c21b0 : decide (t390 < t391) = false := decide_eq_false c21
      clear c21
      (first | rw [c21b0] | (simp only [i64_w, i32_w]; rw [c21b0]) | skip)
      replace H := Option.bind_eq_some_iff.mp H
      obtain ⟨t392, A230, H⟩ := H
      replace H : ((spec_Min.f a0_0 a0_2).bind fun t393 => (if t392 < t393 then (spec_HowMeet.j1 kj2 true a0_0 a0_1 a0_2 a0_3 a1_0 a1_1 a1_2 a1_3) else ((spec_Max.f a0_1 a0_3).bind fun t394 => ((spec_Min.f a1_1 a1_3).bind fun t395 => (if t394 < t395 then (spec_HowMeet.j1 kj2 true a0_0 a0_1 a0_2 a0_3 a1_0 a1_1 a1_2 a1_3) else ((spec_Max.f a1_1 a1_3).bind fun t396 => ((spec_Min.f a0_1 a0_3).bind fun t397 => (spec_HowMeet.j1 kj2 (decide (t396 < t397)) a0_0 a0_1 a0_2 a0_3 a1_0 a1_1 a1_2 a1_3)))))))) = some r := H
      have A23 := Aside0.mk A230
      clear A230
      replace H := Option.bind_eq_some_iff.mp H
      obtain ⟨t393, A240, H⟩ := H
      replace H : (if t392 < t393 then (spec_HowMeet.j1 kj2 true a0_0 a0_1 a0_2 a0_3 a1_0 a1_1 a1_2 a1_3) else ((spec_Max.f a0_1 a0_3).bind fun t394 => ((spec_Min.f a1_1 a1_3).bind fun t395 => (if t394 < t395 then (spec_HowMeet.j1 kj2 true a0_0 a0_1 a0_2 a0_3 a1_0 a1_1 a1_2 a1_3) else ((spec_Max.f a1_1 a1_3).bind fun t396 => ((spec_Min.f a0_1 a0_3).bind fun t397 => (spec_HowMeet.j1 kj2 (decide (t396 < t397)) a0_0 a0_1 a0_2 a0_3 a1_0 a1_1 a1_2 a1_3))))))) = some r := H
      have A24 := Aside0.mk A240
      clear A240
      by_cases c25 : t392 < t393
      ·
       rw [if_pos c25] at H
       have c25b0 : decide (t392 < t393) = true := decide_eq_true c25
       clear c25
       have H' := Aside0.mk H
       clear H
       try go_wp2
       replace BK386 := Aside0.mk (blk_drew BK386.out)
       replace BK387 := Aside0.mk (blk_drew BK387.out)
       replace HB := Aside0.mk (below_drew1 HB.out)
       obtain ⟨s0_, s1_, s2_, s3_⟩ := Hd.HW.k4 (W0 := wc.drew) BK386
       obtain ⟨s4_, s5_, s6_, s7_⟩ := Hd.HW.k4 (W0 := wc.drew) BK387
       refine Hd.HW.region (by kernel_rfl) (by kernel_rfl) ?_
       try dsimp only [List.append]
       repeat (go_big_quiet_step ((first | (go_at_call 109; with_reducible exact Hd.HW.d (spec_Max.calls a0_0 a0_2 t390 _ A19.out)) | (go_at_call 104; with_reducible exact Hd.HW.d (spec_Min.calls a1_0 a1_2 t391 _ A20.out)) | (go_at_call 109; with_reducible exact Hd.HW.d (spec_Max.calls a1_0 a1_2 t392 _ A23.out)) | (go_at_call 104; with_reducible exact Hd.HW.d (spec_Min.calls a0_0 a0_2 t393 _ A24.out)))))
       refine wpQuiet_nil ?_
       intro _ hq_
       obtain ⟨q_, rfl⟩ := hq_
       clear s0_ s1_ s2_ s3_ s4_ s5_ s6_ s7_
       replace BK386 := Aside0.mk (blk_below BK386.out q_.b)
       replace BK387 := Aside0.mk (blk_below BK387.out q_.b)
       replace HB := Aside0.mk (below_step HB.out q_.b)
       generalize q_.W = w26 at BK386 BK387 HB ⊢
       try simp only [i64_w, i32_w]
       try go_wp2
       go_meet
       case rel => exact ⟨_, (true), (by first | rfl | (simp; done) | (simp [*]; done)), H', ⟨by have := HJ2.out; first | omega | exact Nat.le_refl _⟩, ⟨by (with_reducible repeat (first | refine blk_drewN ?_ _ | refine blk_drew ?_ | refine blk_alloc ?_ _)); exact BK386.out⟩, ⟨by (with_reducible repeat (first | refine blk_drewN ?_ _ | refine blk_drew ?_ | refine blk_alloc ?_ _)); exact BK387.out⟩, ⟨Hd.b_⟩⟩
      ·
       rw [if_neg c25] at H
       have c25b0 : decide (t392 < t393) = false := decide_eq_false c25
       clear c25
       replace H := Option.bind_eq_some_iff.mp H
       obtain ⟨t394, A270, H⟩ := H
       replace H : ((spec_Min.f a1_1 a1_3).bind fun t395 => (if t394 < t395 then (spec_HowMeet.j1 kj2 true a0_0 a0_1 a0_2 a0_3 a1_0 a1_1 a1_2 a1_3) else ((spec_Max.f a1_1 a1_3).bind fun t396 => ((spec_Min.f a0_1 a0_3).bind fun t397 => (spec_HowMeet.j1 kj2 (decide (t396 < t397)) a0_0 a0_1 a0_2 a0_3 a1_0 a1_1 a1_2 a1_3))))) = some r := H
       have A27 := Aside0.mk A270
       clear A270
       replace H := Option.bind_eq_some_iff.mp H
       obtain ⟨t395, A280, H⟩ := H
       replace H : (if t394 < t395 then (spec_HowMeet.j1 kj2 true a0_0 a0_1 a0_2 a0_3 a1_0 a1_1 a1_2 a1_3) else ((spec_Max.f a1_1 a1_3).bind fun t396 => ((spec_Min.f a0_1 a0_3).bind fun t397 => (spec_HowMeet.j1 kj2 (decide (t396 < t397)) a0_0 a0_1 a0_2 a0_3 a1_0 a1_1 a1_2 a1_3)))) = some r := H
       have A28 := Aside0.mk A280
       clear A280
       by_cases c29 : t394 < t395
       ·
        rw [if_pos c29] at H
        have c29b0 : decide (t394 < t395) = true := decide_eq_true c29
        clear c29
        have H' := Aside0.mk H
        clear H
        try go_wp2
        replace BK386 := Aside0.mk (blk_drew BK386.out)
        replace BK387 := Aside0.mk (blk_drew BK387.out)
        replace HB := Aside0.mk (below_drew1 HB.out)
        obtain ⟨s0_, s1_, s2_, s3_⟩ := Hd.HW.k4 (W0 := wc.drew) BK386
        obtain ⟨s4_, s5_, s6_, s7_⟩ := Hd.HW.k4 (W0 := wc.drew) BK387
        refine Hd.HW.region (by kernel_rfl) (by kernel_rfl) ?_
        try dsimp only [List.append]
        repeat (go_big_quiet_step ((first | (go_at_call 109; with_reducible exact Hd.HW.d (spec_Max.calls a0_0 a0_2 t390 _ A19.out)) | (go_at_call 104; with_reducible exact Hd.HW.d (spec_Min.calls a1_0 a1_2 t391 _ A20.out)) | (go_at_call 109; with_reducible exact Hd.HW.d (spec_Max.calls a1_0 a1_2 t392 _ A23.out)) | (go_at_call 104; with_reducible exact Hd.HW.d (spec_Min.calls a0_0 a0_2 t393 _ A24.out)) | (go_at_call 109; with_reducible exact Hd.HW.d (spec_Max.calls a0_1 a0_3 t394 _ A27.out)) | (go_at_call 104; with_reducible exact Hd.HW.d (spec_Min.calls a1_1 a1_3 t395 _ A28.out)))))
        refine wpQuiet_nil ?_
        intro _ hq_
        obtain ⟨q_, rfl⟩ := hq_
        clear s0_ s1_ s2_ s3_ s4_ s5_ s6_ s7_
        replace BK386 := Aside0.mk (blk_below BK386.out q_.b)
        replace BK387 := Aside0.mk (blk_below BK387.out q_.b)
        replace HB := Aside0.mk (below_step HB.out q_.b)
        generalize q_.W = w30 at BK386 BK387 HB ⊢
        try simp only [i64_w, i32_w]
        try go_wp2
        go_meet
        case rel => exact ⟨_, (true), (by first | rfl | (simp; done) | (simp [*]; done)), H', ⟨by have := HJ2.out; first | omega | exact Nat.le_refl _⟩, ⟨by (with_reducible repeat (first | refine blk_drewN ?_ _ | refine blk_drew ?_ | refine blk_alloc ?_ _)); exact BK386.out⟩, ⟨by (with_reducible repeat (first | refine blk_drewN ?_ _ | refine blk_drew ?_ | refine blk_alloc ?_ _)); exact BK387.out⟩, ⟨Hd.b_⟩⟩
       ·
        rw [if_neg c29] at H
        have c29b0 : decide (t394 < t395) = false := decide_eq_false c29
        clear c29
        replace H := Option.bind_eq_some_iff.mp H
        obtain ⟨t396, A310, H⟩ := H
        replace H : ((spec_Min.f a0_1 a0_3).bind fun t397 => (spec_HowMeet.j1 kj2 (decide (t396 < t397)) a0_0 a0_1 a0_2 a0_3 a1_0 a1_1 a1_2 a1_3)) = some r := H
        have A31 := Aside0.mk A310
        clear A310
        replace H := Option.bind_eq_some_iff.mp H
        obtain ⟨t397, A320, H⟩ := H
        replace H : (spec_HowMeet.j1 kj2 (decide (t396 < t397)) a0_0 a0_1 a0_2 a0_3 a1_0 a1_1 a1_2 a1_3) = some r := H
        have A32 := Aside0.mk A320
        clear A320
        have H' := Aside0.mk H
        clear H
        try go_wp2
        replace BK386 := Aside0.mk (blk_drew BK386.out)
        replace BK387 := Aside0.mk (blk_drew BK387.out)
        replace HB := Aside0.mk (below_drew1 HB.out)
        obtain ⟨s0_, s1_, s2_, s3_⟩ := Hd.HW.k4 (W0 := wc.drew) BK386
        obtain ⟨s4_, s5_, s6_, s7_⟩ := Hd.HW.k4 (W0 := wc.drew) BK387
        refine Hd.HW.region (by kernel_rfl) (by kernel_rfl) ?_
        try dsimp only [List.append]
        repeat (go_big_quiet_step ((first | (go_at_call 109; with_reducible exact Hd.HW.d (spec_Max.calls a0_0 a0_2 t390 _ A19.out)) | (go_at_call 104; with_reducible exact Hd.HW.d (spec_Min.calls a1_0 a1_2 t391 _ A20.out)) | (go_at_call 109; with_reducible exact Hd.HW.d (spec_Max.calls a1_0 a1_2 t392 _ A23.out)) | (go_at_call 104; with_reducible exact Hd.HW.d (spec_Min.calls a0_0 a0_2 t393 _ A24.out)) | (go_at_call 109; with_reducible exact Hd.HW.d (spec_Max.calls a0_1 a0_3 t394 _ A27.out)) | (go_at_call 104; with_reducible exact Hd.HW.d (spec_Min.calls a1_1 a1_3 t395 _ A28.out)) | (go_at_call 109; with_reducible exact Hd.HW.d (spec_Max.calls a1_1 a1_3 t396 _ A31.out)) | (go_at_call 104; with_reducible exact Hd.HW.d (spec_Min.calls a0_1 a0_3 t397 _ A32.out)))))
        refine wpQuiet_nil ?_
        intro _ hq_
        obtain ⟨q_, rfl⟩ := hq_
        clear s0_ s1_ s2_ s3_ s4_ s5_ s6_ s7_
        replace BK386 := Aside0.mk (blk_below BK386.out q_.b)
        replace BK387 := Aside0.mk (blk_below BK387.out q_.b)
        replace HB := Aside0.mk (below_step HB.out q_.b)
        generalize q_.W = w33 at BK386 BK387 HB ⊢
        try simp only [i64_w, i32_w]
        try go_wp2
        go_meet
        case rel => exact ⟨_, (decide (t396 < t397)), (by first | rfl | (simp; done) | (simp [*]; done)), H', ⟨by have := HJ2.out; first | omega | exact Nat.le_refl _⟩, ⟨by (with_reducible repeat (first | refine blk_drewN ?_ _ | refine blk_drew ?_ | refine blk_alloc ?_ _)); exact BK386.out⟩, ⟨by (with_reducible repeat (first | refine blk_drewN ?_ _ | refine blk_drew ?_ | refine blk_alloc ?_ _)); exact BK387.out⟩, ⟨Hd.b_⟩⟩
    case rest =>
     clear HC18
     try clear c1
     try clear c2
     try clear p2
     try clear c10
     try clear c29
     try clear c29b0
     obtain ⟨kq, x78_17, rfl, HA, HJ17, BK386, BK387, HB⟩ := hcut
     cases kq with
     | zero => exact absurd HA.out (by simp [spec_HowMeet.j1])
     | succ kj17 =>
      have H := HA.out
      clear HA
      simp only [spec_HowMeet.j1] at H
      by_cases c34 : x78_17 = true
      ·
       subst c34
       have H1 : (some 0) = some r := by rw [if_pos rfl] at H; exact H
       clear H
       have H := H1
       clear H1
       obtain rfl := Option.some.inj H
       go_wp2
       go_ret
       exact ⟨Hd.e_, Hd.b_⟩
      ·
       replace c34 := Bool.eq_false_iff.mpr c34
       subst c34
       have H1 : ((spec_l5Shared.f kj17 a0_0 a0_1 a0_2 a0_3 a1_0 a1_1 a1_2 a1_3).bind fun t398 => (if t398 = 0 then ((spec_SideOf.f kj17 a0_0 a0_1 a0_2 a0_3 a1_0 a1_1).bind fun t399 => ((spec_SideOf.f kj17 a0_0 a0_1 a0_2 a0_3 a1_2 a1_3).bind fun t400 => (if (wrap64 (t399 * t400)) < 0 then ((spec_SideOf.f kj17 a1_0 a1_1 a1_2 a1_3 a0_0 a0_1).bind fun t401 => ((spec_SideOf.f kj17 a1_0 a1_1 a1_2 a1_3 a0_2 a0_3).bind fun t402 => (if (wrap64 (t401 * t402)) < 0 then (some 2) else (some 0)))) else (some 0)))) else (if t398 = 1 then (some 1) else (some 3)))) = some r := by rw [if_neg (show ¬ (false = true) by decide)] at H; exact H
       clear H
       have H := H1
       clear H1
       replace H := Option.bind_eq_some_iff.mp H
       obtain ⟨t398, A350, H⟩ := H
       replace H : (if t398 = 0 then ((spec_SideOf.f kj17 a0_0 a0_1 a0_2 a0_3 a1_0 a1_1).bind fun t399 => ((spec_SideOf.f kj17 a0_0 a0_1 a0_2 a0_3 a1_2 a1_3).bind fun t400 => (if (wrap64 (t399 * t400)) < 0 then ((spec_SideOf.f kj17 a1_0 a1_1 a1_2 a1_3 a0_0 a0_1).bind fun t401 => ((spec_SideOf.f kj17 a1_0 a1_1 a1_2 a1_3 a0_2 a0_3).bind fun t402 => (if (wrap64 (t401 * t402)) < 0 then (some 2) else (some 0)))) else (some 0)))) else (if t398 = 1 then (some 1) else (some 3))) = some r := H
       have A35 := Aside0.mk A350
       clear A350
       by_cases c36 : t398 = 0
       ·
        rw [if_pos c36] at H
        have c36b0 : (t398 == 0) = true := beq_iff_eq.mpr c36
        have c36b1 : (t398 != 0) = false := bne_eq_false_iff_eq.mpr c36
        clear c36
        replace H := Option.bind_eq_some_iff.mp H
        obtain ⟨t399, A370, H⟩ := H
        replace H : ((spec_SideOf.f kj17 a0_0 a0_1 a0_2 a0_3 a1_2 a1_3).bind fun t400 => (if (wrap64 (t399 * t400)) < 0 then ((spec_SideOf.f kj17 a1_0 a1_1 a1_2 a1_3 a0_0 a0_1).bind fun t401 => ((spec_SideOf.f kj17 a1_0 a1_1 a1_2 a1_3 a0_2 a0_3).bind fun t402 => (if (wrap64 (t401 * t402)) < 0 then (some 2) else (some 0)))) else (some 0))) = some r := H
        have A37 := Aside0.mk A370
        clear A370
        replace H := Option.bind_eq_some_iff.mp H
        obtain ⟨t400, A380, H⟩ := H
        replace H : (if (wrap64 (t399 * t400)) < 0 then ((spec_SideOf.f kj17 a1_0 a1_1 a1_2 a1_3 a0_0 a0_1).bind fun t401 => ((spec_SideOf.f kj17 a1_0 a1_1 a1_2 a1_3 a0_2 a0_3).bind fun t402 => (if (wrap64 (t401 * t402)) < 0 then (some 2) else (some 0)))) else (some 0)) = some r := H
        have A38 := Aside0.mk A380
        clear A380
        by_cases c39 : (wrap64 (t399 * t400)) < 0
        ·
         rw [if_pos c39] at H
         have c39b0 : decide ((wrap64 (t399 * t400)) < 0) = true := decide_eq_true c39
         clear c39
         replace H := Option.bind_eq_some_iff.mp H
         obtain ⟨t401, A400, H⟩ := H
         replace H : ((spec_SideOf.f kj17 a1_0 a1_1 a1_2 a1_3 a0_2 a0_3).bind fun t402 => (if (wrap64 (t401 * t402)) < 0 then (some 2) else (some 0))) = some r := H
         have A40 := Aside0.mk A400
         clear A400
         replace H := Option.bind_eq_some_iff.mp H
         obtain ⟨t402, A410, H⟩ := H
         replace H : (if (wrap64 (t401 * t402)) < 0 then (some 2) else (some 0)) = some r := H
         have A41 := Aside0.mk A410
         clear A410
         by_cases c42 : (wrap64 (t401 * t402)) < 0
         ·
          rw [if_pos c42] at H
          have c42b0 : decide ((wrap64 (t401 * t402)) < 0) = true := decide_eq_true c42
          clear c42
          obtain rfl := Option.some.inj H
          have hnb43 := NB386_387.out
          have hnc43 := NB387_386.out
          obtain ⟨hcz44_0, hcz44_1, hcz44_2, hcz44_3⟩ := Hd.c4_ BK386.out
          obtain ⟨hfz44_0, hfz44_1, hfz44_2, hfz44_3⟩ := Hd.f4_ BK386.out
          obtain ⟨hcz45_0, hcz45_1, hcz45_2, hcz45_3⟩ := Hd.c4_ BK387.out
          obtain ⟨hfz45_0, hfz45_1, hfz45_2, hfz45_3⟩ := Hd.f4_ BK387.out
          try go_wp2_with (first | ((with_reducible refine gate_callee (f := 110) rfl ?_); refine goesL_ (some 81) rfl rfl Try.func110 (by kernel_rfl) rfl #[.agg #[.int .i64 a0_0, .int .i64 a0_1, .int .i64 a0_2, .int .i64 a0_3], .agg #[.int .i64 a1_0, .int .i64 a1_1, .int .i64 a1_2, .int .i64 a1_3]] rfl Hd.m_ ?_; (with_reducible refine (spec_l5Shared.calls kj17 a0_0 a0_1 a0_2 a0_3 a1_0 a1_1 a1_2 a1_3 t398 _ A35.out).mono ?_); rintro e w46 ⟨rfl, hb⟩; refine ⟨_, rfl, ?_⟩; replace BK386 := Aside0.mk (Hd.kb_ BK386 hb); replace BK387 := Aside0.mk (Hd.kb_ BK387 hb); replace HB := Aside0.mk (below_step Hd.b_ hb); (try clear hb); (try clear hb2); (try clear hk); (try clear hi)))
          replace BK386 := Aside0.mk (blk_drew BK386.out)
          replace BK387 := Aside0.mk (blk_drew BK387.out)
          replace HB := Aside0.mk (below_drew1 HB.out)
          obtain ⟨s0_, s1_, s2_, s3_⟩ := Hd.HW.k4 (W0 := w46.drew) BK386
          obtain ⟨s4_, s5_, s6_, s7_⟩ := Hd.HW.k4 (W0 := w46.drew) BK387
          refine Hd.HW.region (by kernel_rfl) (by kernel_rfl) ?_
          try dsimp only [List.append]
          repeat (go_big_quiet_step ((first | (go_at_call 111; with_reducible exact Hd.HW.c (spec_SideOf.calls kj17 a0_0 a0_1 a0_2 a0_3 a1_0 a1_1 t399 _ A37.out)) | (go_at_call 111; with_reducible exact Hd.HW.c (spec_SideOf.calls kj17 a0_0 a0_1 a0_2 a0_3 a1_2 a1_3 t400 _ A38.out)) | (go_at_call 111; with_reducible exact Hd.HW.c (spec_SideOf.calls kj17 a1_0 a1_1 a1_2 a1_3 a0_0 a0_1 t401 _ A40.out)) | (go_at_call 111; with_reducible exact Hd.HW.c (spec_SideOf.calls kj17 a1_0 a1_1 a1_2 a1_3 a0_2 a0_3 t402 _ A41.out)))))
          refine wpQuiet_nil ?_
          intro _ hq_
          obtain ⟨q_, rfl⟩ := hq_
          clear s0_ s1_ s2_ s3_ s4_ s5_ s6_ s7_
          replace BK386 := Aside0.mk (blk_below BK386.out q_.b)
          replace BK387 := Aside0.mk (blk_below BK387.out q_.b)
          replace HB := Aside0.mk (below_step HB.out q_.b)
          generalize q_.W = w51 at BK386 BK387 HB ⊢
          try simp only [i64_w, i32_w]
          try go_wp2
          go_ret
          exact ⟨Hd.e_, Hd.b_⟩
         ·
          rw [if_neg c42] at H
          have c42b0 : decide ((wrap64 (t401 * t402)) < 0) = false := decide_eq_false c42
          clear c42
          obtain rfl := Option.some.inj H
          have hnb52 := NB386_387.out
          have hnc52 := NB387_386.out
          obtain ⟨hcz53_0, hcz53_1, hcz53_2, hcz53_3⟩ := Hd.c4_ BK386.out
          obtain ⟨hfz53_0, hfz53_1, hfz53_2, hfz53_3⟩ := Hd.f4_ BK386.out
          obtain ⟨hcz54_0, hcz54_1, hcz54_2, hcz54_3⟩ := Hd.c4_ BK387.out
          obtain ⟨hfz54_0, hfz54_1, hfz54_2, hfz54_3⟩ := Hd.f4_ BK387.out
          try go_wp2_with (first | ((with_reducible refine gate_callee (f := 110) rfl ?_); refine goesL_ (some 81) rfl rfl Try.func110 (by kernel_rfl) rfl #[.agg #[.int .i64 a0_0, .int .i64 a0_1, .int .i64 a0_2, .int .i64 a0_3], .agg #[.int .i64 a1_0, .int .i64 a1_1, .int .i64 a1_2, .int .i64 a1_3]] rfl Hd.m_ ?_; (with_reducible refine (spec_l5Shared.calls kj17 a0_0 a0_1 a0_2 a0_3 a1_0 a1_1 a1_2 a1_3 t398 _ A35.out).mono ?_); rintro e w55 ⟨rfl, hb⟩; refine ⟨_, rfl, ?_⟩; replace BK386 := Aside0.mk (Hd.kb_ BK386 hb); replace BK387 := Aside0.mk (Hd.kb_ BK387 hb); replace HB := Aside0.mk (below_step Hd.b_ hb); (try clear hb); (try clear hb2); (try clear hk); (try clear hi)))
          replace BK386 := Aside0.mk (blk_drew BK386.out)
          replace BK387 := Aside0.mk (blk_drew BK387.out)
          replace HB := Aside0.mk (below_drew1 HB.out)
          obtain ⟨s0_, s1_, s2_, s3_⟩ := Hd.HW.k4 (W0 := w55.drew) BK386
          obtain ⟨s4_, s5_, s6_, s7_⟩ := Hd.HW.k4 (W0 := w55.drew) BK387
          refine Hd.HW.region (by kernel_rfl) (by kernel_rfl) ?_
          try dsimp only [List.append]
          repeat (go_big_quiet_step ((first | (go_at_call 111; with_reducible exact Hd.HW.c (spec_SideOf.calls kj17 a0_0 a0_1 a0_2 a0_3 a1_0 a1_1 t399 _ A37.out)) | (go_at_call 111; with_reducible exact Hd.HW.c (spec_SideOf.calls kj17 a0_0 a0_1 a0_2 a0_3 a1_2 a1_3 t400 _ A38.out)) | (go_at_call 111; with_reducible exact Hd.HW.c (spec_SideOf.calls kj17 a1_0 a1_1 a1_2 a1_3 a0_0 a0_1 t401 _ A40.out)) | (go_at_call 111; with_reducible exact Hd.HW.c (spec_SideOf.calls kj17 a1_0 a1_1 a1_2 a1_3 a0_2 a0_3 t402 _ A41.out)))))
          refine wpQuiet_nil ?_
          intro _ hq_
          obtain ⟨q_, rfl⟩ := hq_
          clear s0_ s1_ s2_ s3_ s4_ s5_ s6_ s7_
          replace BK386 := Aside0.mk (blk_below BK386.out q_.b)
          replace BK387 := Aside0.mk (blk_below BK387.out q_.b)
          replace HB := Aside0.mk (below_step HB.out q_.b)
          generalize q_.W = w60 at BK386 BK387 HB ⊢
          try simp only [i64_w, i32_w]
          try go_wp2
          go_ret
          exact ⟨Hd.e_, Hd.b_⟩
        ·
         rw [if_neg c39] at H
         have c39b0 : decide ((wrap64 (t399 * t400)) < 0) = false := decide_eq_false c39
         clear c39
         obtain rfl := Option.some.inj H
         have hnb61 := NB386_387.out
         have hnc61 := NB387_386.out
         obtain ⟨hcz62_0, hcz62_1, hcz62_2, hcz62_3⟩ := Hd.c4_ BK386.out
         obtain ⟨hfz62_0, hfz62_1, hfz62_2, hfz62_3⟩ := Hd.f4_ BK386.out
         obtain ⟨hcz63_0, hcz63_1, hcz63_2, hcz63_3⟩ := Hd.c4_ BK387.out
         obtain ⟨hfz63_0, hfz63_1, hfz63_2, hfz63_3⟩ := Hd.f4_ BK387.out
         try go_wp2_with (first | ((with_reducible refine gate_callee (f := 110) rfl ?_); refine goesL_ (some 81) rfl rfl Try.func110 (by kernel_rfl) rfl #[.agg #[.int .i64 a0_0, .int .i64 a0_1, .int .i64 a0_2, .int .i64 a0_3], .agg #[.int .i64 a1_0, .int .i64 a1_1, .int .i64 a1_2, .int .i64 a1_3]] rfl Hd.m_ ?_; (with_reducible refine (spec_l5Shared.calls kj17 a0_0 a0_1 a0_2 a0_3 a1_0 a1_1 a1_2 a1_3 t398 _ A35.out).mono ?_); rintro e w64 ⟨rfl, hb⟩; refine ⟨_, rfl, ?_⟩; replace BK386 := Aside0.mk (Hd.kb_ BK386 hb); replace BK387 := Aside0.mk (Hd.kb_ BK387 hb); replace HB := Aside0.mk (below_step Hd.b_ hb); (try clear hb); (try clear hb2); (try clear hk); (try clear hi)))
         replace BK386 := Aside0.mk (blk_drew BK386.out)
         replace BK387 := Aside0.mk (blk_drew BK387.out)
         replace HB := Aside0.mk (below_drew1 HB.out)
         obtain ⟨s0_, s1_, s2_, s3_⟩ := Hd.HW.k4 (W0 := w64.drew) BK386
         obtain ⟨s4_, s5_, s6_, s7_⟩ := Hd.HW.k4 (W0 := w64.drew) BK387
         refine Hd.HW.region (by kernel_rfl) (by kernel_rfl) ?_
         try dsimp only [List.append]
         repeat (go_big_quiet_step ((first | (go_at_call 111; with_reducible exact Hd.HW.c (spec_SideOf.calls kj17 a0_0 a0_1 a0_2 a0_3 a1_0 a1_1 t399 _ A37.out)) | (go_at_call 111; with_reducible exact Hd.HW.c (spec_SideOf.calls kj17 a0_0 a0_1 a0_2 a0_3 a1_2 a1_3 t400 _ A38.out)))))
         refine wpQuiet_nil ?_
         intro _ hq_
         obtain ⟨q_, rfl⟩ := hq_
         clear s0_ s1_ s2_ s3_ s4_ s5_ s6_ s7_
         replace BK386 := Aside0.mk (blk_below BK386.out q_.b)
         replace BK387 := Aside0.mk (blk_below BK387.out q_.b)
         replace HB := Aside0.mk (below_step HB.out q_.b)
         generalize q_.W = w67 at BK386 BK387 HB ⊢
         try simp only [i64_w, i32_w]
         try go_wp2
         go_ret
         exact ⟨Hd.e_, Hd.b_⟩
       ·
        rw [if_neg c36] at H
        have c36b0 : (t398 == 0) = false := beq_eq_false_iff_ne.mpr c36
        have c36b1 : (t398 != 0) = true := bne_iff_ne.mpr c36
        by_cases c68 : t398 = 1
        ·
         rw [if_pos c68] at H
         have c68b0 : (t398 == 1) = true := beq_iff_eq.mpr c68
         have c68b1 : (t398 != 1) = false := bne_eq_false_iff_eq.mpr c68
         clear c68
         obtain rfl := Option.some.inj H
         have hnb69 := NB386_387.out
         have hnc69 := NB387_386.out
         obtain ⟨hcz70_0, hcz70_1, hcz70_2, hcz70_3⟩ := Hd.c4_ BK386.out
         obtain ⟨hfz70_0, hfz70_1, hfz70_2, hfz70_3⟩ := Hd.f4_ BK386.out
         obtain ⟨hcz71_0, hcz71_1, hcz71_2, hcz71_3⟩ := Hd.c4_ BK387.out
         obtain ⟨hfz71_0, hfz71_1, hfz71_2, hfz71_3⟩ := Hd.f4_ BK387.out
         go_wp2_with (first | ((with_reducible refine gate_callee (f := 110) rfl ?_); refine goesL_ (some 81) rfl rfl Try.func110 (by kernel_rfl) rfl #[.agg #[.int .i64 a0_0, .int .i64 a0_1, .int .i64 a0_2, .int .i64 a0_3], .agg #[.int .i64 a1_0, .int .i64 a1_1, .int .i64 a1_2, .int .i64 a1_3]] rfl Hd.m_ ?_; (with_reducible refine (spec_l5Shared.calls kj17 a0_0 a0_1 a0_2 a0_3 a1_0 a1_1 a1_2 a1_3 t398 _ A35.out).mono ?_); rintro e w72 ⟨rfl, hb⟩; refine ⟨_, rfl, ?_⟩; replace BK386 := Aside0.mk (Hd.kb_ BK386 hb); replace BK387 := Aside0.mk (Hd.kb_ BK387 hb); replace HB := Aside0.mk (below_step Hd.b_ hb); (try clear hb); (try clear hb2); (try clear hk); (try clear hi)))
         go_ret
         exact ⟨Hd.e_, Hd.b_⟩
        ·
         rw [if_neg c68] at H
         have c68b0 : (t398 == 1) = false := beq_eq_false_iff_ne.mpr c68
         have c68b1 : (t398 != 1) = true := bne_iff_ne.mpr c68
         obtain rfl := Option.some.inj H
         have hnb73 := NB386_387.out
         have hnc73 := NB387_386.out
         obtain ⟨hcz74_0, hcz74_1, hcz74_2, hcz74_3⟩ := Hd.c4_ BK386.out
         obtain ⟨hfz74_0, hfz74_1, hfz74_2, hfz74_3⟩ := Hd.f4_ BK386.out
         obtain ⟨hcz75_0, hcz75_1, hcz75_2, hcz75_3⟩ := Hd.c4_ BK387.out
         obtain ⟨hfz75_0, hfz75_1, hfz75_2, hfz75_3⟩ := Hd.f4_ BK387.out
         go_wp2_with (first | ((with_reducible refine gate_callee (f := 110) rfl ?_); refine goesL_ (some 81) rfl rfl Try.func110 (by kernel_rfl) rfl #[.agg #[.int .i64 a0_0, .int .i64 a0_1, .int .i64 a0_2, .int .i64 a0_3], .agg #[.int .i64 a1_0, .int .i64 a1_1, .int .i64 a1_2, .int .i64 a1_3]] rfl Hd.m_ ?_; (with_reducible refine (spec_l5Shared.calls kj17 a0_0 a0_1 a0_2 a0_3 a1_0 a1_1 a1_2 a1_3 t398 _ A35.out).mono ?_); rintro e w76 ⟨rfl, hb⟩; refine ⟨_, rfl, ?_⟩; replace BK386 := Aside0.mk (Hd.kb_ BK386 hb); replace BK387 := Aside0.mk (Hd.kb_ BK387 hb); replace HB := Aside0.mk (below_step Hd.b_ hb); (try clear hb); (try clear hb2); (try clear hk); (try clear hi)))
         go_ret
         exact ⟨Hd.e_, Hd.b_⟩
mutual
def spec_IsSimple.l0 : Nat → List (S75) → List (S101) → Int → Option (Bool)
 | 0, _, _, _ => none
 | k + 1, x0, x3, x4 => if x4 < (x3.length : Int) then (spec_IsSimple.l1 k x0 x3 x4 0) else ((spec_IsLine.f k x0).bind fun t406 => (some t406))
def spec_IsSimple.l1 : Nat → List (S75) → List (S101) → Int → Int → Option (Bool)
 | 0, _, _, _, _ => none
 | k + 1, x0, x3, x4, x5 => if x5 < x4 then (if (wrap64 (x5 + 1)) = x4 then (if 0 ≤ x4 then (if x4 < (x3.length : Int) then (if 0 ≤ x5 then (if x5 < (x3.length : Int) then ((spec_HowMeet.f k ((rd_T101 x3 x4).f0.f0) ((rd_T101 x3 x4).f0.f1) ((rd_T101 x3 x4).f1.f0) ((rd_T101 x3 x4).f1.f1) ((rd_T101 x3 x5).f0.f0) ((rd_T101 x3 x5).f0.f1) ((rd_T101 x3 x5).f1.f0) ((rd_T101 x3 x5).f1.f1)).bind fun t409 => (if t409 = 1 then (spec_IsSimple.l1 k x0 x3 x4 (wrap64 (x5 + 1))) else (some false))) else (none)) else (none)) else (none)) else (none)) else (if 0 ≤ x4 then (if x4 < (x3.length : Int) then (if 0 ≤ x5 then (if x5 < (x3.length : Int) then ((spec_HowMeet.f k ((rd_T101 x3 x4).f0.f0) ((rd_T101 x3 x4).f0.f1) ((rd_T101 x3 x4).f1.f0) ((rd_T101 x3 x4).f1.f1) ((rd_T101 x3 x5).f0.f0) ((rd_T101 x3 x5).f0.f1) ((rd_T101 x3 x5).f1.f0) ((rd_T101 x3 x5).f1.f1)).bind fun t412 => (if t412 = 0 then (spec_IsSimple.l1 k x0 x3 x4 (wrap64 (x5 + 1))) else (some false))) else (none)) else (none)) else (none)) else (none))) else (spec_IsSimple.l0 k x0 x3 (wrap64 (x4 + 1)))
end
def spec_IsSimple.f (k : Nat) (l0 : List (S75)) : Option (Bool) := (spec_SegmentsOf.f k l0).bind fun t403 => (spec_IsSimple.l0 k l0 t403 0)
set_option maxHeartbeats 8000000 in
set_option maxRecDepth 100000 in
theorem spec_IsSimple.calls (k : Nat) (A0 : Option Addr) (c0 : Nat) (l0 : List (S75)) (r : Bool) (w : World) (hr0 : Kd.C k75 w A0 l0.length l0) (hc0 : l0.length ≤ c0) (h : spec_IsSimple.f k l0 = some r) :
  Calls Try.prog 82 #[.slice A0 l0.length c0] w fun e w' => e = .returned (.bool r) ∧ Below w.heap.size w w' := by
 have hu101 := Try.underlying101
 have HR0 := Aside0.mk hr0
 have HC0 := Aside0.mk hc0
 clear hr0 hc0
 have HB := Aside0.mk (Below.refl w.heap.size w)
 have H : ((spec_SegmentsOf.f k l0).bind fun t403 => (spec_IsSimple.l0 k l0 t403 0)) = some r := h
 clear h
 replace H := Option.bind_eq_some_iff.mp H
 obtain ⟨t403, A20, H⟩ := H
 replace H : (spec_IsSimple.l0 k l0 t403 0) = some r := H
 have A2 := Aside0.mk A20
 clear A20
 have H' := Aside0.mk H
 clear H
 go_enter Try.func82, Try.ntmps82
 go_wp2_with (first | ((with_reducible refine gate_callee (f := 95) rfl ?_); refine goesL_ (some 8) rfl rfl Try.func95 (by kernel_rfl) rfl #[.slice A0 l0.length c0] rfl Hd.m_ ?_; (with_reducible refine (spec_SegmentsOf.calls k _ _ l0 t403 _ ?side1 ?side2 A2.out).mono ?_); (case side1 => repeat (first | exact HR0.out | (with_reducible refine Kd.C_alloc ?_ _) | (with_reducible refine Kd.C_drewN ?_ _) | (with_reducible refine Kd.C_drew ?_))); (case side2 => exact HC0.out); rintro e w3 ⟨v404, rfl, ho0, hb⟩; refine ⟨_, rfl, ?_⟩; have HO405 := Aside0.mk (Kd.R_lower ho0 (below_size Hd.b_)); replace HB := Aside0.mk (below_step Hd.b_ hb); (try clear hb); (try clear hb2); (try clear hk); (try clear hi); (try clear ho0)))
 go_loopg [4] k (fun kq v4 w' => ∃ (x4_1 : Int), v4 = .int .i64 x4_1 ∧ Aside0 (spec_IsSimple.l0 kq l0 t403 x4_1 = some r) ∧ Aside0 (kq ≤ k) ∧ Aside0 (Kd.R k101 101 w' w.heap.size (fun _ => True) v404 t403) ∧ Aside0 (Below w.heap.size w w'))
 case atStart => exact ⟨(0), (by first | rfl | (simp; done) | (simp [*]; done)), H', ⟨Nat.le_refl _⟩, ⟨by (with_reducible repeat (first | apply Kd.R_alloc | apply Kd.R_drewN | apply Kd.R_drew)); exact HO405.out⟩, ⟨Hd.b_⟩⟩
 case round =>
  clear H'
  try clear p2
  obtain ⟨x4_1, rfl, HA, HK1, HO_3, HB⟩ := hrel
  cases gk with
  | zero => exact absurd HA.out (by simp [spec_IsSimple.l0])
  | succ k1 =>
   have H := HA.out
   clear HA
   simp only [spec_IsSimple.l0] at H
   by_cases c4 : x4_1 < (t403.length : Int)
   ·
    rw [if_pos c4] at H
    have c4b0 : decide (x4_1 < (t403.length : Int)) = true := decide_eq_true c4
    clear c4
    have H' := Aside0.mk H
    clear H
    obtain ⟨Ao5, co5, eo5⟩ := Kd.R_slice HO_3.out
    subst eo5
    go_wp2
    go_loopg [5] k1 (fun kq v5 w' => ∃ (x5_2 : Int), v5 = .int .i64 x5_2 ∧ Aside0 (spec_IsSimple.l1 kq l0 t403 x4_1 x5_2 = some r) ∧ Aside0 (kq ≤ k1) ∧ Aside0 (Kd.R k101 101 w' w.heap.size (fun _ => True) (.slice Ao5 t403.length co5) t403) ∧ Aside0 (Below w.heap.size w w'))
    case atStart => exact ⟨(0), (by first | rfl | (simp; done) | (simp [*]; done)), H', ⟨Nat.le_refl _⟩, ⟨by (with_reducible repeat (first | apply Kd.R_alloc | apply Kd.R_drewN | apply Kd.R_drew)); exact HO_3.out⟩, ⟨Hd.b_⟩⟩
    case round =>
     clear H'
     try clear p2
     try clear c4
     try clear c4b0
     try clear p2
     obtain ⟨x5_2, rfl, HA, HK2, HO_3, HB⟩ := hrel
     cases gk with
     | zero => exact absurd HA.out (by simp [spec_IsSimple.l1])
     | succ k2 =>
      have H := HA.out
      clear HA
      simp only [spec_IsSimple.l1] at H
      by_cases c6 : x5_2 < x4_1
      ·
       rw [if_pos c6] at H
       have c6b0 : decide (x5_2 < x4_1) = true := decide_eq_true c6
       clear c6
       by_cases c7 : (wrap64 (x5_2 + 1)) = x4_1
       ·
        rw [if_pos c7] at H
        have c7b0 : ((wrap64 (x5_2 + 1)) == x4_1) = true := beq_iff_eq.mpr c7
        have c7b1 : ((wrap64 (x5_2 + 1)) != x4_1) = false := bne_eq_false_iff_eq.mpr c7
        clear c7
        by_cases c8 : 0 ≤ x4_1
        ·
         rw [if_pos c8] at H
         have c8b0 : decide (0 ≤ x4_1) = true := decide_eq_true c8
         clear c8
         by_cases c9 : x4_1 < (t403.length : Int)
         ·
          rw [if_pos c9] at H
          have c9b0 : decide (x4_1 < (t403.length : Int)) = true := decide_eq_true c9
          clear c9
          by_cases c10 : 0 ≤ x5_2
          ·
           rw [if_pos c10] at H
           have c10b0 : decide (0 ≤ x5_2) = true := decide_eq_true c10
           clear c10
           by_cases c11 : x5_2 < (t403.length : Int)
           ·
            rw [if_pos c11] at H
            have c11b0 : decide (x5_2 < (t403.length : Int)) = true := decide_eq_true c11
            clear c11
            replace H := Option.bind_eq_some_iff.mp H
            obtain ⟨t409, A120, H⟩ := H
            replace H : (if t409 = 1 then (spec_IsSimple.l1 k2 l0 t403 x4_1 (wrap64 (x5_2 + 1))) else (some false)) = some r := H
            have A12 := Aside0.mk A120
            clear A120
            by_cases c13 : t409 = 1
            ·
             rw [if_pos c13] at H
             have c13b0 : (t409 == 1) = true := beq_iff_eq.mpr c13
             have c13b1 : (t409 != 1) = false := bne_eq_false_iff_eq.mpr c13
             clear c13
             have H' := Aside0.mk H
             clear H
             try go_wp2
             replace HO_3 := Aside0.mk (Kd.R_drew HO_3.out)
             replace HB := Aside0.mk (below_drew1 HB.out)
             have p407 : 0 ≤ (x4_1 : Int) := of_decide_eq_true Hd.a_
             have q407 : x4_1 < (t403.length : Int) := of_decide_eq_true Hd.a_
             obtain ⟨ad407, e407, hx407_0, hx407_1, hx407_2, hx407_3⟩ := at_T101 (Kd.R_reads' HO_3.out).2.2 x4_1 p407 q407
             cases e407
             replace p407 := eq_true p407
             replace q407 := eq_true q407
             have p408 : 0 ≤ (x5_2 : Int) := of_decide_eq_true Hd.a_
             have q408 : x5_2 < (t403.length : Int) := of_decide_eq_true Hd.a_
             obtain ⟨ad408, e408, hx408_0, hx408_1, hx408_2, hx408_3⟩ := at_T101 (Kd.R_reads' HO_3.out).2.2 x5_2 p408 q408
             obtain rfl : ad407 = ad408 := (by injection e408)
             replace p408 := eq_true p408
             replace q408 := eq_true q408
             have s0_ := Hd.HW.x (W0 := wr.drew) hx407_0
             have s1_ := Hd.HW.x (W0 := wr.drew) hx407_1
             have s2_ := Hd.HW.x (W0 := wr.drew) hx407_2
             have s3_ := Hd.HW.x (W0 := wr.drew) hx407_3
             have s4_ := Hd.HW.x (W0 := wr.drew) hx408_0
             have s5_ := Hd.HW.x (W0 := wr.drew) hx408_1
             have s6_ := Hd.HW.x (W0 := wr.drew) hx408_2
             have s7_ := Hd.HW.x (W0 := wr.drew) hx408_3
             refine Hd.HW.region (by kernel_rfl) (by kernel_rfl) ?_
             repeat (go_big_quiet_step ((first | (go_at_call 96; with_reducible exact Hd.HW.c (spec_HowMeet.calls k2 ((rd_T101 t403 x4_1).f0.f0) ((rd_T101 t403 x4_1).f0.f1) ((rd_T101 t403 x4_1).f1.f0) ((rd_T101 t403 x4_1).f1.f1) ((rd_T101 t403 x5_2).f0.f0) ((rd_T101 t403 x5_2).f0.f1) ((rd_T101 t403 x5_2).f1.f0) ((rd_T101 t403 x5_2).f1.f1) t409 _ A12.out)))))
             refine wpQuiet_nil ?_
             intro _ hq_
             obtain ⟨q_, rfl⟩ := hq_
             clear s0_ s1_ s2_ s3_ s4_ s5_ s6_ s7_
             replace HO_3 := Aside0.mk (Kd.R_below HO_3.out q_.b)
             replace HB := Aside0.mk (below_step HB.out q_.b)
             replace hx407_0 := q_.cell hx407_0
             replace hx407_1 := q_.cell hx407_1
             replace hx407_2 := q_.cell hx407_2
             replace hx407_3 := q_.cell hx407_3
             replace hx408_0 := q_.cell hx408_0
             replace hx408_1 := q_.cell hx408_1
             replace hx408_2 := q_.cell hx408_2
             replace hx408_3 := q_.cell hx408_3
             generalize q_.W = w15 at HO_3 HB hx407_0 hx407_1 hx407_2 hx407_3 hx408_0 hx408_1 hx408_2 hx408_3 ⊢
             try simp only [i64_w, i32_w]
             try go_wp2
             go_roundg k2
             case measure => have := HK1.out; have := HK2.out; omega
             case rel => exact ⟨(wrap64 (x5_2 + 1)), (by first | rfl | (simp; done) | (simp [*]; done)), H', ⟨by have := HK1.out; have := HK2.out; omega⟩, ⟨by (with_reducible repeat (first | apply Kd.R_alloc | apply Kd.R_drewN | apply Kd.R_drew)); exact HO_3.out⟩, ⟨Hd.b_⟩⟩
            ·
             rw [if_neg c13] at H
             have c13b0 : (t409 == 1) = false := beq_eq_false_iff_ne.mpr c13
             have c13b1 : (t409 != 1) = true := bne_iff_ne.mpr c13
             obtain rfl := Option.some.inj H
             try go_wp2
             replace HO_3 := Aside0.mk (Kd.R_drew HO_3.out)
             replace HB := Aside0.mk (below_drew1 HB.out)
             have p407 : 0 ≤ (x4_1 : Int) := of_decide_eq_true Hd.a_
             have q407 : x4_1 < (t403.length : Int) := of_decide_eq_true Hd.a_
             obtain ⟨ad407, e407, hx407_0, hx407_1, hx407_2, hx407_3⟩ := at_T101 (Kd.R_reads' HO_3.out).2.2 x4_1 p407 q407
             cases e407
             replace p407 := eq_true p407
             replace q407 := eq_true q407
             have p408 : 0 ≤ (x5_2 : Int) := of_decide_eq_true Hd.a_
             have q408 : x5_2 < (t403.length : Int) := of_decide_eq_true Hd.a_
             obtain ⟨ad408, e408, hx408_0, hx408_1, hx408_2, hx408_3⟩ := at_T101 (Kd.R_reads' HO_3.out).2.2 x5_2 p408 q408
             obtain rfl : ad407 = ad408 := (by injection e408)
             replace p408 := eq_true p408
             replace q408 := eq_true q408
             have s0_ := Hd.HW.x (W0 := wr.drew) hx407_0
             have s1_ := Hd.HW.x (W0 := wr.drew) hx407_1
             have s2_ := Hd.HW.x (W0 := wr.drew) hx407_2
             have s3_ := Hd.HW.x (W0 := wr.drew) hx407_3
             have s4_ := Hd.HW.x (W0 := wr.drew) hx408_0
             have s5_ := Hd.HW.x (W0 := wr.drew) hx408_1
             have s6_ := Hd.HW.x (W0 := wr.drew) hx408_2
             have s7_ := Hd.HW.x (W0 := wr.drew) hx408_3
             refine Hd.HW.region (by kernel_rfl) (by kernel_rfl) ?_
             repeat (go_big_quiet_step ((first | (go_at_call 96; with_reducible exact Hd.HW.c (spec_HowMeet.calls k2 ((rd_T101 t403 x4_1).f0.f0) ((rd_T101 t403 x4_1).f0.f1) ((rd_T101 t403 x4_1).f1.f0) ((rd_T101 t403 x4_1).f1.f1) ((rd_T101 t403 x5_2).f0.f0) ((rd_T101 t403 x5_2).f0.f1) ((rd_T101 t403 x5_2).f1.f0) ((rd_T101 t403 x5_2).f1.f1) t409 _ A12.out)))))
             refine wpQuiet_nil ?_
             intro _ hq_
             obtain ⟨q_, rfl⟩ := hq_
             clear s0_ s1_ s2_ s3_ s4_ s5_ s6_ s7_
             replace HO_3 := Aside0.mk (Kd.R_below HO_3.out q_.b)
             replace HB := Aside0.mk (below_step HB.out q_.b)
             replace hx407_0 := q_.cell hx407_0
             replace hx407_1 := q_.cell hx407_1
             replace hx407_2 := q_.cell hx407_2
             replace hx407_3 := q_.cell hx407_3
             replace hx408_0 := q_.cell hx408_0
             replace hx408_1 := q_.cell hx408_1
             replace hx408_2 := q_.cell hx408_2
             replace hx408_3 := q_.cell hx408_3
             generalize q_.W = w17 at HO_3 HB hx407_0 hx407_1 hx407_2 hx407_3 hx408_0 hx408_1 hx408_2 hx408_3 ⊢
             try simp only [i64_w, i32_w]
             try go_wp2
             go_ret
             exact ⟨Hd.e_, Hd.b_⟩
           ·
            rw [if_neg c11] at H
            exact absurd H (by simp)
          ·
           rw [if_neg c10] at H
           exact absurd H (by simp)
         ·
          rw [if_neg c9] at H
          exact absurd H (by simp)
        ·
         rw [if_neg c8] at H
         exact absurd H (by simp)
       ·
        rw [if_neg c7] at H
        have c7b0 : ((wrap64 (x5_2 + 1)) == x4_1) = false := beq_eq_false_iff_ne.mpr c7
        have c7b1 : ((wrap64 (x5_2 + 1)) != x4_1) = true := bne_iff_ne.mpr c7
        by_cases c18 : 0 ≤ x4_1
        ·
         rw [if_pos c18] at H
         have c18b0 : decide (0 ≤ x4_1) = true := decide_eq_true c18
         clear c18
         by_cases c19 : x4_1 < (t403.length : Int)
         ·
          rw [if_pos c19] at H
          have c19b0 : decide (x4_1 < (t403.length : Int)) = true := decide_eq_true c19
          clear c19
          by_cases c20 : 0 ≤ x5_2
          ·
           rw [if_pos c20] at H
           have c20b0 : decide (0 ≤ x5_2) = true := decide_eq_true c20
           clear c20
           by_cases c21 : x5_2 < (t403.length : Int)
           ·
            rw [if_pos c21] at H
            have c21b0 : decide (x5_2 < (t403.length : Int)) = true := decide_eq_true c21
            clear c21
            replace H := Option.bind_eq_some_iff.mp H
            obtain ⟨t412, A220, H⟩ := H
            replace H : (if t412 = 0 then (spec_IsSimple.l1 k2 l0 t403 x4_1 (wrap64 (x5_2 + 1))) else (some false)) = some r := H
            have A22 := Aside0.mk A220
            clear A220
            by_cases c23 : t412 = 0
            ·
             rw [if_pos c23] at H
             have c23b0 : (t412 == 0) = true := beq_iff_eq.mpr c23
             have c23b1 : (t412 != 0) = false := bne_eq_false_iff_eq.mpr c23
             clear c23
             have H' := Aside0.mk H
             clear H
             try go_wp2
             replace HO_3 := Aside0.mk (Kd.R_drew HO_3.out)
             replace HB := Aside0.mk (below_drew1 HB.out)
             have p410 : 0 ≤ (x4_1 : Int) := of_decide_eq_true Hd.a_
             have q410 : x4_1 < (t403.length : Int) := of_decide_eq_true Hd.a_
             obtain ⟨ad410, e410, hx410_0, hx410_1, hx410_2, hx410_3⟩ := at_T101 (Kd.R_reads' HO_3.out).2.2 x4_1 p410 q410
             cases e410
             replace p410 := eq_true p410
             replace q410 := eq_true q410
             have p411 : 0 ≤ (x5_2 : Int) := of_decide_eq_true Hd.a_
             have q411 : x5_2 < (t403.length : Int) := of_decide_eq_true Hd.a_
             obtain ⟨ad411, e411, hx411_0, hx411_1, hx411_2, hx411_3⟩ := at_T101 (Kd.R_reads' HO_3.out).2.2 x5_2 p411 q411
             obtain rfl : ad410 = ad411 := (by injection e411)
             replace p411 := eq_true p411
             replace q411 := eq_true q411
             have s0_ := Hd.HW.x (W0 := wr.drew) hx410_0
             have s1_ := Hd.HW.x (W0 := wr.drew) hx410_1
             have s2_ := Hd.HW.x (W0 := wr.drew) hx410_2
             have s3_ := Hd.HW.x (W0 := wr.drew) hx410_3
             have s4_ := Hd.HW.x (W0 := wr.drew) hx411_0
             have s5_ := Hd.HW.x (W0 := wr.drew) hx411_1
             have s6_ := Hd.HW.x (W0 := wr.drew) hx411_2
             have s7_ := Hd.HW.x (W0 := wr.drew) hx411_3
             refine Hd.HW.region (by kernel_rfl) (by kernel_rfl) ?_
             repeat (go_big_quiet_step ((first | (go_at_call 96; with_reducible exact Hd.HW.c (spec_HowMeet.calls k2 ((rd_T101 t403 x4_1).f0.f0) ((rd_T101 t403 x4_1).f0.f1) ((rd_T101 t403 x4_1).f1.f0) ((rd_T101 t403 x4_1).f1.f1) ((rd_T101 t403 x5_2).f0.f0) ((rd_T101 t403 x5_2).f0.f1) ((rd_T101 t403 x5_2).f1.f0) ((rd_T101 t403 x5_2).f1.f1) t412 _ A22.out)))))
             refine wpQuiet_nil ?_
             intro _ hq_
             obtain ⟨q_, rfl⟩ := hq_
             clear s0_ s1_ s2_ s3_ s4_ s5_ s6_ s7_
             replace HO_3 := Aside0.mk (Kd.R_below HO_3.out q_.b)
             replace HB := Aside0.mk (below_step HB.out q_.b)
             replace hx410_0 := q_.cell hx410_0
             replace hx410_1 := q_.cell hx410_1
             replace hx410_2 := q_.cell hx410_2
             replace hx410_3 := q_.cell hx410_3
             replace hx411_0 := q_.cell hx411_0
             replace hx411_1 := q_.cell hx411_1
             replace hx411_2 := q_.cell hx411_2
             replace hx411_3 := q_.cell hx411_3
             generalize q_.W = w25 at HO_3 HB hx410_0 hx410_1 hx410_2 hx410_3 hx411_0 hx411_1 hx411_2 hx411_3 ⊢
             try simp only [i64_w, i32_w]
             try go_wp2
             go_roundg k2
             case measure => have := HK1.out; have := HK2.out; omega
             case rel => exact ⟨(wrap64 (x5_2 + 1)), (by first | rfl | (simp; done) | (simp [*]; done)), H', ⟨by have := HK1.out; have := HK2.out; omega⟩, ⟨by (with_reducible repeat (first | apply Kd.R_alloc | apply Kd.R_drewN | apply Kd.R_drew)); exact HO_3.out⟩, ⟨Hd.b_⟩⟩
            ·
             rw [if_neg c23] at H
             have c23b0 : (t412 == 0) = false := beq_eq_false_iff_ne.mpr c23
             have c23b1 : (t412 != 0) = true := bne_iff_ne.mpr c23
             obtain rfl := Option.some.inj H
             try go_wp2
             replace HO_3 := Aside0.mk (Kd.R_drew HO_3.out)
             replace HB := Aside0.mk (below_drew1 HB.out)
             have p410 : 0 ≤ (x4_1 : Int) := of_decide_eq_true Hd.a_
             have q410 : x4_1 < (t403.length : Int) := of_decide_eq_true Hd.a_
             obtain ⟨ad410, e410, hx410_0, hx410_1, hx410_2, hx410_3⟩ := at_T101 (Kd.R_reads' HO_3.out).2.2 x4_1 p410 q410
             cases e410
             replace p410 := eq_true p410
             replace q410 := eq_true q410
             have p411 : 0 ≤ (x5_2 : Int) := of_decide_eq_true Hd.a_
             have q411 : x5_2 < (t403.length : Int) := of_decide_eq_true Hd.a_
             obtain ⟨ad411, e411, hx411_0, hx411_1, hx411_2, hx411_3⟩ := at_T101 (Kd.R_reads' HO_3.out).2.2 x5_2 p411 q411
             obtain rfl : ad410 = ad411 := (by injection e411)
             replace p411 := eq_true p411
             replace q411 := eq_true q411
             have s0_ := Hd.HW.x (W0 := wr.drew) hx410_0
             have s1_ := Hd.HW.x (W0 := wr.drew) hx410_1
             have s2_ := Hd.HW.x (W0 := wr.drew) hx410_2
             have s3_ := Hd.HW.x (W0 := wr.drew) hx410_3
             have s4_ := Hd.HW.x (W0 := wr.drew) hx411_0
             have s5_ := Hd.HW.x (W0 := wr.drew) hx411_1
             have s6_ := Hd.HW.x (W0 := wr.drew) hx411_2
             have s7_ := Hd.HW.x (W0 := wr.drew) hx411_3
             refine Hd.HW.region (by kernel_rfl) (by kernel_rfl) ?_
             repeat (go_big_quiet_step ((first | (go_at_call 96; with_reducible exact Hd.HW.c (spec_HowMeet.calls k2 ((rd_T101 t403 x4_1).f0.f0) ((rd_T101 t403 x4_1).f0.f1) ((rd_T101 t403 x4_1).f1.f0) ((rd_T101 t403 x4_1).f1.f1) ((rd_T101 t403 x5_2).f0.f0) ((rd_T101 t403 x5_2).f0.f1) ((rd_T101 t403 x5_2).f1.f0) ((rd_T101 t403 x5_2).f1.f1) t412 _ A22.out)))))
             refine wpQuiet_nil ?_
             intro _ hq_
             obtain ⟨q_, rfl⟩ := hq_
             clear s0_ s1_ s2_ s3_ s4_ s5_ s6_ s7_
             replace HO_3 := Aside0.mk (Kd.R_below HO_3.out q_.b)
             replace HB := Aside0.mk (below_step HB.out q_.b)
             replace hx410_0 := q_.cell hx410_0
             replace hx410_1 := q_.cell hx410_1
             replace hx410_2 := q_.cell hx410_2
             replace hx410_3 := q_.cell hx410_3
             replace hx411_0 := q_.cell hx411_0
             replace hx411_1 := q_.cell hx411_1
             replace hx411_2 := q_.cell hx411_2
             replace hx411_3 := q_.cell hx411_3
             generalize q_.W = w27 at HO_3 HB hx410_0 hx410_1 hx410_2 hx410_3 hx411_0 hx411_1 hx411_2 hx411_3 ⊢
             try simp only [i64_w, i32_w]
             try go_wp2
             go_ret
             exact ⟨Hd.e_, Hd.b_⟩
           ·
            rw [if_neg c21] at H
            exact absurd H (by simp)
          ·
           rw [if_neg c20] at H
           exact absurd H (by simp)
         ·
          rw [if_neg c19] at H
          exact absurd H (by simp)
        ·
         rw [if_neg c18] at H
         exact absurd H (by simp)
      ·
       rw [if_neg c6] at H
       have c6b0 : decide (x5_2 < x4_1) = false := decide_eq_false c6
       clear c6
       have H' := Aside0.mk H
       clear H
       go_wp2
       go_roundg k2
       case measure => have := HK1.out; have := HK2.out; omega
       case rel => exact ⟨(wrap64 (x4_1 + 1)), (by first | rfl | (simp; done) | (simp [*]; done)), H', ⟨by have := HK1.out; have := HK2.out; omega⟩, ⟨by (with_reducible repeat (first | apply Kd.R_alloc | apply Kd.R_drewN | apply Kd.R_drew)); exact HO_3.out⟩, ⟨Hd.b_⟩⟩
   ·
    rw [if_neg c4] at H
    have c4b0 : decide (x4_1 < (t403.length : Int)) = false := decide_eq_false c4
    clear c4
    replace H := Option.bind_eq_some_iff.mp H
    obtain ⟨t406, A280, H⟩ := H
    replace H : (some t406) = some r := H
    have A28 := Aside0.mk A280
    clear A280
    obtain rfl := Option.some.inj H
    obtain ⟨Ao29, co29, eo29⟩ := Kd.R_slice HO_3.out
    subst eo29
    go_wp2_with (first | ((with_reducible refine gate_callee (f := 97) rfl ?_); refine goesL_ (some 36) rfl rfl Try.func97 (by kernel_rfl) rfl #[.slice A0 l0.length c0] rfl Hd.m_ ?_; (with_reducible refine (spec_IsLine.calls k1 _ _ l0 t406 _ ?side1 ?side2 A28.out).mono ?_); (case side1 => repeat (first | exact (Kd.C_below HR0.out HB.out) | (with_reducible refine Kd.C_alloc ?_ _) | (with_reducible refine Kd.C_drewN ?_ _) | (with_reducible refine Kd.C_drew ?_))); (case side2 => exact HC0.out); rintro e w30 ⟨rfl, hb⟩; refine ⟨_, rfl, ?_⟩; replace HO_3 := Aside0.mk (Kd.R_below (Hd.r_ HO_3) hb); replace HB := Aside0.mk (below_step Hd.b_ hb); (try clear hb); (try clear hb2); (try clear hk); (try clear hi)))
    go_ret
    exact ⟨Hd.e_, Hd.b_⟩
end Go.Proofs.Ytbbdhlggnglfgaa.MFnExactTakeFeature
