-- Laid by this session's program pp.py, after the kit's print and texts of the session's own. Not trusted: Lean checks it.
import Derived.Test.YtchmbcembbbplacZSafeRingMx0
import Derived.Test.YtchmbcembbbplacZSafeRingMx7
import Derived.Test.YtchmbcembbbplacZSafeRingMx8
namespace Go.Proofs.Ytchmbcembbbplac.MFnExactSafeRing
open Go.RowKit Go.Proofs.YtchmbcembbbplacW.PrintWords Go.Proofs.YtchmbcembbbplacW.PrintLast Go.Proofs.YtchmbcembbbplacW.PrintMore
attribute [local go_sem] max2_int min2_int max_two min_two max_three min_three max_four min_four   -- for this text's walks alone
set_option linter.unusedVariables false
set_option linter.unusedSimpArgs false
mutual
def spec_HowMeet.j0 : Nat → Bool → Int → Int → Int → Int → Int → Int → Int → Int → Option (Int)
 | 0, _, _, _, _, _, _, _, _, _ => none
 | k + 1, x12, x311000, x311001, x311002, x311003, x312000, x312001, x312002, x312003 => if x12 = true then (some 0) else ((spec_Max.f x311000 x311002).bind fun t314 => ((spec_Min.f x312000 x312002).bind fun t315 => (if t314 < t315 then (spec_HowMeet.j1 k true x311000 x311001 x311002 x311003 x312000 x312001 x312002 x312003) else ((spec_Max.f x312000 x312002).bind fun t316 => ((spec_Min.f x311000 x311002).bind fun t317 => (if t316 < t317 then (spec_HowMeet.j1 k true x311000 x311001 x311002 x311003 x312000 x312001 x312002 x312003) else ((spec_Max.f x311001 x311003).bind fun t318 => ((spec_Min.f x312001 x312003).bind fun t319 => (if t318 < t319 then (spec_HowMeet.j1 k true x311000 x311001 x311002 x311003 x312000 x312001 x312002 x312003) else ((spec_Max.f x312001 x312003).bind fun t320 => ((spec_Min.f x311001 x311003).bind fun t321 => (spec_HowMeet.j1 k (decide (t320 < t321)) x311000 x311001 x311002 x311003 x312000 x312001 x312002 x312003))))))))))))
def spec_HowMeet.j1 : Nat → Bool → Int → Int → Int → Int → Int → Int → Int → Int → Option (Int)
 | 0, _, _, _, _, _, _, _, _, _ => none
 | k + 1, x78, x311000, x311001, x311002, x311003, x312000, x312001, x312002, x312003 => if x78 = true then (some 0) else ((spec_l5Shared.f k x311000 x311001 x311002 x311003 x312000 x312001 x312002 x312003).bind fun t322 => (if t322 = 0 then ((spec_SideOf.f k x311000 x311001 x311002 x311003 x312000 x312001).bind fun t323 => ((spec_SideOf.f k x311000 x311001 x311002 x311003 x312002 x312003).bind fun t324 => (if (wrap64 (t323 * t324)) < 0 then ((spec_SideOf.f k x312000 x312001 x312002 x312003 x311000 x311001).bind fun t325 => ((spec_SideOf.f k x312000 x312001 x312002 x312003 x311002 x311003).bind fun t326 => (if (wrap64 (t325 * t326)) < 0 then (some 2) else (some 0)))) else (some 0)))) else (if t322 = 1 then (some 1) else (some 3))))
end
def spec_HowMeet.f (k : Nat) (a0_0 : Int) (a0_1 : Int) (a0_2 : Int) (a0_3 : Int) (a1_0 : Int) (a1_1 : Int) (a1_2 : Int) (a1_3 : Int) : Option (Int) := (spec_IsSegment.f a0_0 a0_1 a0_2 a0_3).bind fun t312 => (if t312 = true then ((spec_IsSegment.f a1_0 a1_1 a1_2 a1_3).bind fun t313 => (spec_HowMeet.j0 k (!t313) a0_0 a0_1 a0_2 a0_3 a1_0 a1_1 a1_2 a1_3)) else (spec_HowMeet.j0 k true a0_0 a0_1 a0_2 a0_3 a1_0 a1_1 a1_2 a1_3))
set_option maxHeartbeats 8000000 in
set_option maxRecDepth 100000 in
theorem spec_HowMeet.calls (k : Nat) (a0_0 : Int) (a0_1 : Int) (a0_2 : Int) (a0_3 : Int) (a1_0 : Int) (a1_1 : Int) (a1_2 : Int) (a1_3 : Int) (r : Int) (w : World) (h : spec_HowMeet.f k a0_0 a0_1 a0_2 a0_3 a1_0 a1_1 a1_2 a1_3 = some r) :
  Calls Try.prog 129 #[.agg #[.int .i64 a0_0, .int .i64 a0_1, .int .i64 a0_2, .int .i64 a0_3], .agg #[.int .i64 a1_0, .int .i64 a1_1, .int .i64 a1_2, .int .i64 a1_3]] w fun e w' => e = .returned (.int .i64 r) ∧ Below w.heap.size w w' := by
 have hu111 := Try.underlying111
 have hu49 := Try.underlying49
 have HB := Aside0.mk (Below.refl w.heap.size w)
 have H : ((spec_IsSegment.f a0_0 a0_1 a0_2 a0_3).bind fun t312 => (if t312 = true then ((spec_IsSegment.f a1_0 a1_1 a1_2 a1_3).bind fun t313 => (spec_HowMeet.j0 k (!t313) a0_0 a0_1 a0_2 a0_3 a1_0 a1_1 a1_2 a1_3)) else (spec_HowMeet.j0 k true a0_0 a0_1 a0_2 a0_3 a1_0 a1_1 a1_2 a1_3))) = some r := h
 clear h
 have HC3 := Aside0.mk H
 clear H
 go_enter Try.func129, Try.ntmps129
 go_upto_region 1 with (first | ((with_reducible refine gate_dst (N := 2) rfl ?_); refine Hd.box_ 2 (#[.int .i64 a0_0, .int .i64 a0_1, .int .i64 a0_2, .int .i64 a0_3]) 111 ?_; intro gb310 hg w4 hbox hb; have BK310 := Aside0.mk (hbox); have GW310 := Aside0.mk ((Hd.g_ hg Hd.b_ : w.heap.size ≤ gb310)); have GE310 := Aside0.mk ((Hd.g_ hg Hd.b_ : w.heap.size ≤ gb310)); replace HB := Aside0.mk (below_step Hd.b_ hb); clear hb hbox hg) | ((with_reducible refine gate_dst (N := 3) rfl ?_); refine Hd.box_ 3 (#[.int .i64 a1_0, .int .i64 a1_1, .int .i64 a1_2, .int .i64 a1_3]) 111 ?_; intro gb311 hg w5 hbox hb; have BK311 := Aside0.mk (hbox); have GW311 := Aside0.mk ((Hd.g_ hg Hd.b_ : w.heap.size ≤ gb311)); have GE311 := Aside0.mk ((Hd.g_ hg Hd.b_ : w.heap.size ≤ gb311)); replace HB := Aside0.mk (below_step Hd.b_ hb); have NB310_311 := Aside0.mk ((Hd.lt_ BK310 hg)); have NB311_310 := Aside0.mk ((Hd.gt_ BK310 hg)); replace BK310 := Aside0.mk (Hd.kb_ BK310 hb); clear hb hbox hg))
 (try simp only [Act.put, List.setIfInBounds_toArray, List.set_cons_zero, List.set_cons_succ])
 go_cut [12] (fun v12 wc => ∃ (kq : Nat) (x12_2 : Bool), v12 = .bool x12_2 ∧ Aside0 (spec_HowMeet.j0 kq x12_2 a0_0 a0_1 a0_2 a0_3 a1_0 a1_1 a1_2 a1_3 = some r) ∧ Aside0 (kq ≤ k) ∧ Aside0 (wc.heap[gb310]? = some (.cells #[.int .i64 a0_0, .int .i64 a0_1, .int .i64 a0_2, .int .i64 a0_3] 111 (0, 0))) ∧ Aside0 (wc.heap[gb311]? = some (.cells #[.int .i64 a1_0, .int .i64 a1_1, .int .i64 a1_2, .int .i64 a1_3] 111 (0, 0))) ∧ Aside0 (Below w.heap.size w wc))
 case first =>
  have H := HC3.out
  clear HC3
  replace H := Option.bind_eq_some_iff.mp H
  obtain ⟨t312, A60, H⟩ := H
  replace H : (if t312 = true then ((spec_IsSegment.f a1_0 a1_1 a1_2 a1_3).bind fun t313 => (spec_HowMeet.j0 k (!t313) a0_0 a0_1 a0_2 a0_3 a1_0 a1_1 a1_2 a1_3)) else (spec_HowMeet.j0 k true a0_0 a0_1 a0_2 a0_3 a1_0 a1_1 a1_2 a1_3)) = some r := H
  have A6 := Aside0.mk A60
  clear A60
  by_cases c7 : t312 = true
  ·
   subst c7
   have H1 : ((spec_IsSegment.f a1_0 a1_1 a1_2 a1_3).bind fun t313 => (spec_HowMeet.j0 k (!t313) a0_0 a0_1 a0_2 a0_3 a1_0 a1_1 a1_2 a1_3)) = some r := by rw [if_pos rfl] at H; exact H
   clear H
   have H := H1
   clear H1
   replace H := Option.bind_eq_some_iff.mp H
   obtain ⟨t313, A80, H⟩ := H
   replace H : (spec_HowMeet.j0 k (!t313) a0_0 a0_1 a0_2 a0_3 a1_0 a1_1 a1_2 a1_3) = some r := H
   have A8 := Aside0.mk A80
   clear A80
   have H' := Aside0.mk H
   clear H
   have hnb9 := NB310_311.out
   have hnc9 := NB311_310.out
   obtain ⟨hcz10_0, hcz10_1, hcz10_2, hcz10_3⟩ := Hd.c4_ BK310.out
   obtain ⟨hfz10_0, hfz10_1, hfz10_2, hfz10_3⟩ := Hd.f4_ BK310.out
   go_wp2_with (first | ((with_reducible refine gate_callee (f := 137) rfl ?_); refine goesL_ (some 6) rfl rfl Try.func137 (by kernel_rfl) rfl #[.agg #[.int .i64 a0_0, .int .i64 a0_1, .int .i64 a0_2, .int .i64 a0_3]] rfl Hd.m_ ?_; (with_reducible refine (spec_IsSegment.calls a0_0 a0_1 a0_2 a0_3 true _ A6.out).mono ?_); rintro e w11 ⟨rfl, hb⟩; refine ⟨_, rfl, ?_⟩; replace BK310 := Aside0.mk (Hd.kb_ BK310 hb); replace BK311 := Aside0.mk (Hd.kb_ BK311 hb); replace HB := Aside0.mk (below_step Hd.b_ hb); (try clear hb); (try clear hb2); (try clear hk); (try clear hi); obtain ⟨hcz12_0, hcz12_1, hcz12_2, hcz12_3⟩ := Hd.c4_ BK311.out; obtain ⟨hfz12_0, hfz12_1, hfz12_2, hfz12_3⟩ := Hd.f4_ BK311.out) | (go_at_call 137; (with_reducible refine (spec_IsSegment.calls a1_0 a1_1 a1_2 a1_3 t313 _ A8.out).mono ?_); rintro e w13 ⟨rfl, hb⟩; replace BK310 := Aside0.mk (Hd.kb_ BK310 hb); replace BK311 := Aside0.mk (Hd.kb_ BK311 hb); replace HB := Aside0.mk (below_step Hd.b_ hb); (try clear hb); (try clear hb2); (try clear hk); (try clear hi)))
   go_meet
   case rel => exact ⟨_, (!t313), (by first | rfl | (simp; done) | (simp [*]; done)), H', ⟨by first | omega | exact Nat.le_refl _⟩, ⟨by (with_reducible repeat (first | refine blk_drewN ?_ _ | refine blk_drew ?_ | refine blk_alloc ?_ _)); exact BK310.out⟩, ⟨by (with_reducible repeat (first | refine blk_drewN ?_ _ | refine blk_drew ?_ | refine blk_alloc ?_ _)); exact BK311.out⟩, ⟨Hd.b_⟩⟩
  ·
   replace c7 := Bool.eq_false_iff.mpr c7
   subst c7
   have H1 : (spec_HowMeet.j0 k true a0_0 a0_1 a0_2 a0_3 a1_0 a1_1 a1_2 a1_3) = some r := by rw [if_neg (show ¬ (false = true) by decide)] at H; exact H
   clear H
   have H := H1
   clear H1
   have H' := Aside0.mk H
   clear H
   have hnb14 := NB310_311.out
   have hnc14 := NB311_310.out
   obtain ⟨hcz15_0, hcz15_1, hcz15_2, hcz15_3⟩ := Hd.c4_ BK310.out
   obtain ⟨hfz15_0, hfz15_1, hfz15_2, hfz15_3⟩ := Hd.f4_ BK310.out
   go_wp2_with (first | ((with_reducible refine gate_callee (f := 137) rfl ?_); refine goesL_ (some 6) rfl rfl Try.func137 (by kernel_rfl) rfl #[.agg #[.int .i64 a0_0, .int .i64 a0_1, .int .i64 a0_2, .int .i64 a0_3]] rfl Hd.m_ ?_; (with_reducible refine (spec_IsSegment.calls a0_0 a0_1 a0_2 a0_3 false _ A6.out).mono ?_); rintro e w16 ⟨rfl, hb⟩; refine ⟨_, rfl, ?_⟩; replace BK310 := Aside0.mk (Hd.kb_ BK310 hb); replace BK311 := Aside0.mk (Hd.kb_ BK311 hb); replace HB := Aside0.mk (below_step Hd.b_ hb); (try clear hb); (try clear hb2); (try clear hk); (try clear hi)))
   go_meet
   case rel => exact ⟨_, (true), (by first | rfl | (simp; done) | (simp [*]; done)), H', ⟨by first | omega | exact Nat.le_refl _⟩, ⟨by (with_reducible repeat (first | refine blk_drewN ?_ _ | refine blk_drew ?_ | refine blk_alloc ?_ _)); exact BK310.out⟩, ⟨by (with_reducible repeat (first | refine blk_drewN ?_ _ | refine blk_drew ?_ | refine blk_alloc ?_ _)); exact BK311.out⟩, ⟨Hd.b_⟩⟩
 case rest =>
  clear HC3
  try clear c1
  try clear p2
  try clear c7
  try clear c9
  try clear c12
  try clear c13
  try clear c14
  try clear hcz10_0
  try clear hcz10_1
  try clear hcz10_2
  try clear hcz10_3
  try clear hcz12_0
  try clear hcz12_1
  try clear hcz12_2
  try clear hcz12_3
  try clear hcz15_0
  try clear hcz15_1
  try clear hcz15_2
  try clear hcz15_3
  try clear hfz10_0
  try clear hfz10_1
  try clear hfz10_2
  try clear hfz10_3
  try clear hfz12_0
  try clear hfz12_1
  try clear hfz12_2
  try clear hfz12_3
  try clear hfz15_0
  try clear hfz15_1
  try clear hfz15_2
  try clear hfz15_3
  obtain ⟨kq, x12_2, rfl, HA, HJ2, BK310, BK311, HB⟩ := hcut
  cases kq with
  | zero => exact absurd HA.out (by simp [spec_HowMeet.j0])
  | succ kj2 =>
   have H := HA.out
   clear HA
   simp only [spec_HowMeet.j0] at H
   by_cases c17 : x12_2 = true
   ·
    subst c17
    have H1 : (some 0) = some r := by rw [if_pos rfl] at H; exact H
    clear H
    have H := H1
    clear H1
    obtain rfl := Option.some.inj H
    go_wp2
    go_ret
    exact ⟨Hd.e_, Hd.b_⟩
   ·
    replace c17 := Bool.eq_false_iff.mpr c17
    subst c17
    have H1 : ((spec_Max.f a0_0 a0_2).bind fun t314 => ((spec_Min.f a1_0 a1_2).bind fun t315 => (if t314 < t315 then (spec_HowMeet.j1 kj2 true a0_0 a0_1 a0_2 a0_3 a1_0 a1_1 a1_2 a1_3) else ((spec_Max.f a1_0 a1_2).bind fun t316 => ((spec_Min.f a0_0 a0_2).bind fun t317 => (if t316 < t317 then (spec_HowMeet.j1 kj2 true a0_0 a0_1 a0_2 a0_3 a1_0 a1_1 a1_2 a1_3) else ((spec_Max.f a0_1 a0_3).bind fun t318 => ((spec_Min.f a1_1 a1_3).bind fun t319 => (if t318 < t319 then (spec_HowMeet.j1 kj2 true a0_0 a0_1 a0_2 a0_3 a1_0 a1_1 a1_2 a1_3) else ((spec_Max.f a1_1 a1_3).bind fun t320 => ((spec_Min.f a0_1 a0_3).bind fun t321 => (spec_HowMeet.j1 kj2 (decide (t320 < t321)) a0_0 a0_1 a0_2 a0_3 a1_0 a1_1 a1_2 a1_3)))))))))))) = some r := by rw [if_neg (show ¬ (false = true) by decide)] at H; exact H
    clear H
    have H := H1
    clear H1
    have HC18 := Aside0.mk H
    clear H
    go_upto_region 3 with (fail)
    go_cut [78] (fun v78 wc => ∃ (kq : Nat) (x78_17 : Bool), v78 = .bool x78_17 ∧ Aside0 (spec_HowMeet.j1 kq x78_17 a0_0 a0_1 a0_2 a0_3 a1_0 a1_1 a1_2 a1_3 = some r) ∧ Aside0 (kq ≤ kj2) ∧ Aside0 (wc.heap[gb310]? = some (.cells #[.int .i64 a0_0, .int .i64 a0_1, .int .i64 a0_2, .int .i64 a0_3] 111 (0, 0))) ∧ Aside0 (wc.heap[gb311]? = some (.cells #[.int .i64 a1_0, .int .i64 a1_1, .int .i64 a1_2, .int .i64 a1_3] 111 (0, 0))) ∧ Aside0 (Below w.heap.size w wc))
    case first =>
     have H := HC18.out
     clear HC18
     replace H := Option.bind_eq_some_iff.mp H
     obtain ⟨t314, A190, H⟩ := H
     replace H : ((spec_Min.f a1_0 a1_2).bind fun t315 => (if t314 < t315 then (spec_HowMeet.j1 kj2 true a0_0 a0_1 a0_2 a0_3 a1_0 a1_1 a1_2 a1_3) else ((spec_Max.f a1_0 a1_2).bind fun t316 => ((spec_Min.f a0_0 a0_2).bind fun t317 => (if t316 < t317 then (spec_HowMeet.j1 kj2 true a0_0 a0_1 a0_2 a0_3 a1_0 a1_1 a1_2 a1_3) else ((spec_Max.f a0_1 a0_3).bind fun t318 => ((spec_Min.f a1_1 a1_3).bind fun t319 => (if t318 < t319 then (spec_HowMeet.j1 kj2 true a0_0 a0_1 a0_2 a0_3 a1_0 a1_1 a1_2 a1_3) else ((spec_Max.f a1_1 a1_3).bind fun t320 => ((spec_Min.f a0_1 a0_3).bind fun t321 => (spec_HowMeet.j1 kj2 (decide (t320 < t321)) a0_0 a0_1 a0_2 a0_3 a1_0 a1_1 a1_2 a1_3))))))))))) = some r := H
     have A19 := Aside0.mk A190
     clear A190
     replace H := Option.bind_eq_some_iff.mp H
     obtain ⟨t315, A200, H⟩ := H
     replace H : (if t314 < t315 then (spec_HowMeet.j1 kj2 true a0_0 a0_1 a0_2 a0_3 a1_0 a1_1 a1_2 a1_3) else ((spec_Max.f a1_0 a1_2).bind fun t316 => ((spec_Min.f a0_0 a0_2).bind fun t317 => (if t316 < t317 then (spec_HowMeet.j1 kj2 true a0_0 a0_1 a0_2 a0_3 a1_0 a1_1 a1_2 a1_3) else ((spec_Max.f a0_1 a0_3).bind fun t318 => ((spec_Min.f a1_1 a1_3).bind fun t319 => (if t318 < t319 then (spec_HowMeet.j1 kj2 true a0_0 a0_1 a0_2 a0_3 a1_0 a1_1 a1_2 a1_3) else ((spec_Max.f a1_1 a1_3).bind fun t320 => ((spec_Min.f a0_1 a0_3).bind fun t321 => (spec_HowMeet.j1 kj2 (decide (t320 < t321)) a0_0 a0_1 a0_2 a0_3 a1_0 a1_1 a1_2 a1_3)))))))))) = some r := H
     have A20 := Aside0.mk A200
     clear A200
     by_cases c21 : t314 < t315
     ·
      rw [if_pos c21] at H
      have c21b0 : decide (t314 < t315) = true := decide_eq_true c21
      clear c21
      (first | rw [c21b0] | (simp only [i64_w, i32_w]; rw [c21b0]) | skip)
      have H' := Aside0.mk H
      clear H
      try go_wp2
      replace BK310 := Aside0.mk (blk_drew BK310.out)
      replace BK311 := Aside0.mk (blk_drew BK311.out)
      replace HB := Aside0.mk (below_drew1 HB.out)
      obtain ⟨s0_, s1_, s2_, s3_⟩ := Hd.HW.k4 (W0 := wc.drew) BK310
      obtain ⟨s4_, s5_, s6_, s7_⟩ := Hd.HW.k4 (W0 := wc.drew) BK311
      refine Hd.HW.region (by kernel_rfl) (by kernel_rfl) ?_
      try dsimp only [List.append]
      repeat (go_big_quiet_step ((first | (go_at_call 128; with_reducible exact Hd.HW.d (spec_Max.calls a0_0 a0_2 t314 _ A19.out)) | (go_at_call 156; with_reducible exact Hd.HW.d (spec_Min.calls a1_0 a1_2 t315 _ A20.out)))))
      refine wpQuiet_nil ?_
      intro _ hq_
      obtain ⟨q_, rfl⟩ := hq_
      clear s0_ s1_ s2_ s3_ s4_ s5_ s6_ s7_
      replace BK310 := Aside0.mk (blk_below BK310.out q_.b)
      replace BK311 := Aside0.mk (blk_below BK311.out q_.b)
      replace HB := Aside0.mk (below_step HB.out q_.b)
      generalize q_.W = w22 at BK310 BK311 HB ⊢
      try simp only [i64_w, i32_w]
      try go_wp2
      go_meet
      case rel => exact ⟨_, (true), (by first | rfl | (simp; done) | (simp [*]; done)), H', ⟨by have := HJ2.out; first | omega | exact Nat.le_refl _⟩, ⟨by (with_reducible repeat (first | refine blk_drewN ?_ _ | refine blk_drew ?_ | refine blk_alloc ?_ _)); exact BK310.out⟩, ⟨by (with_reducible repeat (first | refine blk_drewN ?_ _ | refine blk_drew ?_ | refine blk_alloc ?_ _)); exact BK311.out⟩, ⟨Hd.b_⟩⟩
     ·
      rw [if_neg c21] at H
      have c21b0 : decide (t314 < t315) = false := decide_eq_false c21
      clear c21
      (first | rw [c21b0] | (simp only [i64_w, i32_w]; rw [c21b0]) | skip)
      replace H := Option.bind_eq_some_iff.mp H
      obtain ⟨t316, A230, H⟩ := H
      replace H : ((spec_Min.f a0_0 a0_2).bind fun t317 => (if t316 < t317 then (spec_HowMeet.j1 kj2 true a0_0 a0_1 a0_2 a0_3 a1_0 a1_1 a1_2 a1_3) else ((spec_Max.f a0_1 a0_3).bind fun t318 => ((spec_Min.f a1_1 a1_3).bind fun t319 => (if t318 < t319 then (spec_HowMeet.j1 kj2 true a0_0 a0_1 a0_2 a0_3 a1_0 a1_1 a1_2 a1_3) else ((spec_Max.f a1_1 a1_3).bind fun t320 => ((spec_Min.f a0_1 a0_3).bind fun t321 => (spec_HowMeet.j1 kj2 (decide (t320 < t321)) a0_0 a0_1 a0_2 a0_3 a1_0 a1_1 a1_2 a1_3)))))))) = some r := H
      have A23 := Aside0.mk A230
      clear A230
      replace H := Option.bind_eq_some_iff.mp H
      obtain ⟨t317, A240, H⟩ := H
      replace H : (if t316 < t317 then (spec_HowMeet.j1 kj2 true a0_0 a0_1 a0_2 a0_3 a1_0 a1_1 a1_2 a1_3) else ((spec_Max.f a0_1 a0_3).bind fun t318 => ((spec_Min.f a1_1 a1_3).bind fun t319 => (if t318 < t319 then (spec_HowMeet.j1 kj2 true a0_0 a0_1 a0_2 a0_3 a1_0 a1_1 a1_2 a1_3) else ((spec_Max.f a1_1 a1_3).bind fun t320 => ((spec_Min.f a0_1 a0_3).bind fun t321 => (spec_HowMeet.j1 kj2 (decide (t320 < t321)) a0_0 a0_1 a0_2 a0_3 a1_0 a1_1 a1_2 a1_3))))))) = some r := H
      have A24 := Aside0.mk A240
      clear A240
      by_cases c25 : t316 < t317
      ·
       rw [if_pos c25] at H
       have c25b0 : decide (t316 < t317) = true := decide_eq_true c25
       clear c25
       have H' := Aside0.mk H
       clear H
       try go_wp2
       replace BK310 := Aside0.mk (blk_drew BK310.out)
       replace BK311 := Aside0.mk (blk_drew BK311.out)
       replace HB := Aside0.mk (below_drew1 HB.out)
       obtain ⟨s0_, s1_, s2_, s3_⟩ := Hd.HW.k4 (W0 := wc.drew) BK310
       obtain ⟨s4_, s5_, s6_, s7_⟩ := Hd.HW.k4 (W0 := wc.drew) BK311
       refine Hd.HW.region (by kernel_rfl) (by kernel_rfl) ?_
       try dsimp only [List.append]
       repeat (go_big_quiet_step ((first | (go_at_call 128; with_reducible exact Hd.HW.d (spec_Max.calls a0_0 a0_2 t314 _ A19.out)) | (go_at_call 156; with_reducible exact Hd.HW.d (spec_Min.calls a1_0 a1_2 t315 _ A20.out)) | (go_at_call 128; with_reducible exact Hd.HW.d (spec_Max.calls a1_0 a1_2 t316 _ A23.out)) | (go_at_call 156; with_reducible exact Hd.HW.d (spec_Min.calls a0_0 a0_2 t317 _ A24.out)))))
       refine wpQuiet_nil ?_
       intro _ hq_
       obtain ⟨q_, rfl⟩ := hq_
       clear s0_ s1_ s2_ s3_ s4_ s5_ s6_ s7_
       replace BK310 := Aside0.mk (blk_below BK310.out q_.b)
       replace BK311 := Aside0.mk (blk_below BK311.out q_.b)
       replace HB := Aside0.mk (below_step HB.out q_.b)
       generalize q_.W = w26 at BK310 BK311 HB ⊢
       try simp only [i64_w, i32_w]
       try go_wp2
       go_meet
       case rel => exact ⟨_, (true), (by first | rfl | (simp; done) | (simp [*]; done)), H', ⟨by have := HJ2.out; first | omega | exact Nat.le_refl _⟩, ⟨by (with_reducible repeat (first | refine blk_drewN ?_ _ | refine blk_drew ?_ | refine blk_alloc ?_ _)); exact BK310.out⟩, ⟨by (with_reducible repeat (first | refine blk_drewN ?_ _ | refine blk_drew ?_ | refine blk_alloc ?_ _)); exact BK311.out⟩, ⟨Hd.b_⟩⟩
      ·
       rw [if_neg c25] at H
       have c25b0 : decide (t316 < t317) = false := decide_eq_false c25
       clear c25
       replace H := Option.bind_eq_some_iff.mp H
       obtain ⟨t318, A270, H⟩ := H
       replace H : ((spec_Min.f a1_1 a1_3).bind fun t319 => (if t318 < t319 then (spec_HowMeet.j1 kj2 true a0_0 a0_1 a0_2 a0_3 a1_0 a1_1 a1_2 a1_3) else ((spec_Max.f a1_1 a1_3).bind fun t320 => ((spec_Min.f a0_1 a0_3).bind fun t321 => (spec_HowMeet.j1 kj2 (decide (t320 < t321)) a0_0 a0_1 a0_2 a0_3 a1_0 a1_1 a1_2 a1_3))))) = some r := H
       have A27 := Aside0.mk A270
       clear A270
       replace H := Option.bind_eq_some_iff.mp H
       obtain ⟨t319, A280, H⟩ := H
       replace H : (if t318 < t319 then (spec_HowMeet.j1 kj2 true a0_0 a0_1 a0_2 a0_3 a1_0 a1_1 a1_2 a1_3) else ((spec_Max.f a1_1 a1_3).bind fun t320 => ((spec_Min.f a0_1 a0_3).bind fun t321 => (spec_HowMeet.j1 kj2 (decide (t320 < t321)) a0_0 a0_1 a0_2 a0_3 a1_0 a1_1 a1_2 a1_3)))) = some r := H
       have A28 := Aside0.mk A280
       clear A280
       by_cases c29 : t318 < t319
       ·
        rw [if_pos c29] at H
        have c29b0 : decide (t318 < t319) = true := decide_eq_true c29
        clear c29
        have H' := Aside0.mk H
        clear H
        try go_wp2
        replace BK310 := Aside0.mk (blk_drew BK310.out)
        replace BK311 := Aside0.mk (blk_drew BK311.out)
        replace HB := Aside0.mk (below_drew1 HB.out)
        obtain ⟨s0_, s1_, s2_, s3_⟩ := Hd.HW.k4 (W0 := wc.drew) BK310
        obtain ⟨s4_, s5_, s6_, s7_⟩ := Hd.HW.k4 (W0 := wc.drew) BK311
        refine Hd.HW.region (by kernel_rfl) (by kernel_rfl) ?_
        try dsimp only [List.append]
        repeat (go_big_quiet_step ((first | (go_at_call 128; with_reducible exact Hd.HW.d (spec_Max.calls a0_0 a0_2 t314 _ A19.out)) | (go_at_call 156; with_reducible exact Hd.HW.d (spec_Min.calls a1_0 a1_2 t315 _ A20.out)) | (go_at_call 128; with_reducible exact Hd.HW.d (spec_Max.calls a1_0 a1_2 t316 _ A23.out)) | (go_at_call 156; with_reducible exact Hd.HW.d (spec_Min.calls a0_0 a0_2 t317 _ A24.out)) | (go_at_call 128; with_reducible exact Hd.HW.d (spec_Max.calls a0_1 a0_3 t318 _ A27.out)) | (go_at_call 156; with_reducible exact Hd.HW.d (spec_Min.calls a1_1 a1_3 t319 _ A28.out)))))
        refine wpQuiet_nil ?_
        intro _ hq_
        obtain ⟨q_, rfl⟩ := hq_
        clear s0_ s1_ s2_ s3_ s4_ s5_ s6_ s7_
        replace BK310 := Aside0.mk (blk_below BK310.out q_.b)
        replace BK311 := Aside0.mk (blk_below BK311.out q_.b)
        replace HB := Aside0.mk (below_step HB.out q_.b)
        generalize q_.W = w30 at BK310 BK311 HB ⊢
        try simp only [i64_w, i32_w]
        try go_wp2
        go_meet
        case rel => exact ⟨_, (true), (by first | rfl | (simp; done) | (simp [*]; done)), H', ⟨by have := HJ2.out; first | omega | exact Nat.le_refl _⟩, ⟨by (with_reducible repeat (first | refine blk_drewN ?_ _ | refine blk_drew ?_ | refine blk_alloc ?_ _)); exact BK310.out⟩, ⟨by (with_reducible repeat (first | refine blk_drewN ?_ _ | refine blk_drew ?_ | refine blk_alloc ?_ _)); exact BK311.out⟩, ⟨Hd.b_⟩⟩
       ·
        rw [if_neg c29] at H
        have c29b0 : decide (t318 < t319) = false := decide_eq_false c29
        clear c29
        replace H := Option.bind_eq_some_iff.mp H
        obtain ⟨t320, A310, H⟩ := H
        replace H : ((spec_Min.f a0_1 a0_3).bind fun t321 => (spec_HowMeet.j1 kj2 (decide (t320 < t321)) a0_0 a0_1 a0_2 a0_3 a1_0 a1_1 a1_2 a1_3)) = some r := H
        have A31 := Aside0.mk A310
        clear A310
        replace H := Option.bind_eq_some_iff.mp H
        obtain ⟨t321, A320, H⟩ := H
        replace H : (spec_HowMeet.j1 kj2 (decide (t320 < t321)) a0_0 a0_1 a0_2 a0_3 a1_0 a1_1 a1_2 a1_3) = some r := H
        have A32 := Aside0.mk A320
        clear A320
        have H' := Aside0.mk H
        clear H
        try go_wp2
        replace BK310 := Aside0.mk (blk_drew BK310.out)
        replace BK311 := Aside0.mk (blk_drew BK311.out)
        replace HB := Aside0.mk (below_drew1 HB.out)
        obtain ⟨s0_, s1_, s2_, s3_⟩ := Hd.HW.k4 (W0 := wc.drew) BK310
        obtain ⟨s4_, s5_, s6_, s7_⟩ := Hd.HW.k4 (W0 := wc.drew) BK311
        refine Hd.HW.region (by kernel_rfl) (by kernel_rfl) ?_
        try dsimp only [List.append]
        repeat (go_big_quiet_step ((first | (go_at_call 128; with_reducible exact Hd.HW.d (spec_Max.calls a0_0 a0_2 t314 _ A19.out)) | (go_at_call 156; with_reducible exact Hd.HW.d (spec_Min.calls a1_0 a1_2 t315 _ A20.out)) | (go_at_call 128; with_reducible exact Hd.HW.d (spec_Max.calls a1_0 a1_2 t316 _ A23.out)) | (go_at_call 156; with_reducible exact Hd.HW.d (spec_Min.calls a0_0 a0_2 t317 _ A24.out)) | (go_at_call 128; with_reducible exact Hd.HW.d (spec_Max.calls a0_1 a0_3 t318 _ A27.out)) | (go_at_call 156; with_reducible exact Hd.HW.d (spec_Min.calls a1_1 a1_3 t319 _ A28.out)) | (go_at_call 128; with_reducible exact Hd.HW.d (spec_Max.calls a1_1 a1_3 t320 _ A31.out)) | (go_at_call 156; with_reducible exact Hd.HW.d (spec_Min.calls a0_1 a0_3 t321 _ A32.out)))))
        refine wpQuiet_nil ?_
        intro _ hq_
        obtain ⟨q_, rfl⟩ := hq_
        clear s0_ s1_ s2_ s3_ s4_ s5_ s6_ s7_
        replace BK310 := Aside0.mk (blk_below BK310.out q_.b)
        replace BK311 := Aside0.mk (blk_below BK311.out q_.b)
        replace HB := Aside0.mk (below_step HB.out q_.b)
        generalize q_.W = w33 at BK310 BK311 HB ⊢
        try simp only [i64_w, i32_w]
        try go_wp2
        go_meet
        case rel => exact ⟨_, (decide (t320 < t321)), (by first | rfl | (simp; done) | (simp [*]; done)), H', ⟨by have := HJ2.out; first | omega | exact Nat.le_refl _⟩, ⟨by (with_reducible repeat (first | refine blk_drewN ?_ _ | refine blk_drew ?_ | refine blk_alloc ?_ _)); exact BK310.out⟩, ⟨by (with_reducible repeat (first | refine blk_drewN ?_ _ | refine blk_drew ?_ | refine blk_alloc ?_ _)); exact BK311.out⟩, ⟨Hd.b_⟩⟩
    case rest =>
     clear HC18
     try clear c1
     try clear c2
     try clear p2
     try clear c12
     try clear c15
     try clear c29
     try clear c29b0
     obtain ⟨kq, x78_17, rfl, HA, HJ17, BK310, BK311, HB⟩ := hcut
     cases kq with
     | zero => exact absurd HA.out (by simp [spec_HowMeet.j1])
     | succ kj17 =>
      have H := HA.out
      clear HA
      simp only [spec_HowMeet.j1] at H
      by_cases c34 : x78_17 = true
      ·
       subst c34
       have H1 : (some 0) = some r := by rw [if_pos rfl] at H; exact H
       clear H
       have H := H1
       clear H1
       obtain rfl := Option.some.inj H
       go_wp2
       go_ret
       exact ⟨Hd.e_, Hd.b_⟩
      ·
       replace c34 := Bool.eq_false_iff.mpr c34
       subst c34
       have H1 : ((spec_l5Shared.f kj17 a0_0 a0_1 a0_2 a0_3 a1_0 a1_1 a1_2 a1_3).bind fun t322 => (if t322 = 0 then ((spec_SideOf.f kj17 a0_0 a0_1 a0_2 a0_3 a1_0 a1_1).bind fun t323 => ((spec_SideOf.f kj17 a0_0 a0_1 a0_2 a0_3 a1_2 a1_3).bind fun t324 => (if (wrap64 (t323 * t324)) < 0 then ((spec_SideOf.f kj17 a1_0 a1_1 a1_2 a1_3 a0_0 a0_1).bind fun t325 => ((spec_SideOf.f kj17 a1_0 a1_1 a1_2 a1_3 a0_2 a0_3).bind fun t326 => (if (wrap64 (t325 * t326)) < 0 then (some 2) else (some 0)))) else (some 0)))) else (if t322 = 1 then (some 1) else (some 3)))) = some r := by rw [if_neg (show ¬ (false = true) by decide)] at H; exact H
       clear H
       have H := H1
       clear H1
       replace H := Option.bind_eq_some_iff.mp H
       obtain ⟨t322, A350, H⟩ := H
       replace H : (if t322 = 0 then ((spec_SideOf.f kj17 a0_0 a0_1 a0_2 a0_3 a1_0 a1_1).bind fun t323 => ((spec_SideOf.f kj17 a0_0 a0_1 a0_2 a0_3 a1_2 a1_3).bind fun t324 => (if (wrap64 (t323 * t324)) < 0 then ((spec_SideOf.f kj17 a1_0 a1_1 a1_2 a1_3 a0_0 a0_1).bind fun t325 => ((spec_SideOf.f kj17 a1_0 a1_1 a1_2 a1_3 a0_2 a0_3).bind fun t326 => (if (wrap64 (t325 * t326)) < 0 then (some 2) else (some 0)))) else (some 0)))) else (if t322 = 1 then (some 1) else (some 3))) = some r := H
       have A35 := Aside0.mk A350
       clear A350
       by_cases c36 : t322 = 0
       ·
        rw [if_pos c36] at H
        have c36b0 : (t322 == 0) = true := beq_iff_eq.mpr c36
        have c36b1 : (t322 != 0) = false := bne_eq_false_iff_eq.mpr c36
        clear c36
        replace H := Option.bind_eq_some_iff.mp H
        obtain ⟨t323, A370, H⟩ := H
        replace H : ((spec_SideOf.f kj17 a0_0 a0_1 a0_2 a0_3 a1_2 a1_3).bind fun t324 => (if (wrap64 (t323 * t324)) < 0 then ((spec_SideOf.f kj17 a1_0 a1_1 a1_2 a1_3 a0_0 a0_1).bind fun t325 => ((spec_SideOf.f kj17 a1_0 a1_1 a1_2 a1_3 a0_2 a0_3).bind fun t326 => (if (wrap64 (t325 * t326)) < 0 then (some 2) else (some 0)))) else (some 0))) = some r := H
        have A37 := Aside0.mk A370
        clear A370
        replace H := Option.bind_eq_some_iff.mp H
        obtain ⟨t324, A380, H⟩ := H
        replace H : (if (wrap64 (t323 * t324)) < 0 then ((spec_SideOf.f kj17 a1_0 a1_1 a1_2 a1_3 a0_0 a0_1).bind fun t325 => ((spec_SideOf.f kj17 a1_0 a1_1 a1_2 a1_3 a0_2 a0_3).bind fun t326 => (if (wrap64 (t325 * t326)) < 0 then (some 2) else (some 0)))) else (some 0)) = some r := H
        have A38 := Aside0.mk A380
        clear A380
        by_cases c39 : (wrap64 (t323 * t324)) < 0
        ·
         rw [if_pos c39] at H
         have c39b0 : decide ((wrap64 (t323 * t324)) < 0) = true := decide_eq_true c39
         clear c39
         replace H := Option.bind_eq_some_iff.mp H
         obtain ⟨t325, A400, H⟩ := H
         replace H : ((spec_SideOf.f kj17 a1_0 a1_1 a1_2 a1_3 a0_2 a0_3).bind fun t326 => (if (wrap64 (t325 * t326)) < 0 then (some 2) else (some 0))) = some r := H
         have A40 := Aside0.mk A400
         clear A400
         replace H := Option.bind_eq_some_iff.mp H
         obtain ⟨t326, A410, H⟩ := H
         replace H : (if (wrap64 (t325 * t326)) < 0 then (some 2) else (some 0)) = some r := H
         have A41 := Aside0.mk A410
         clear A410
         by_cases c42 : (wrap64 (t325 * t326)) < 0
         ·
          rw [if_pos c42] at H
          have c42b0 : decide ((wrap64 (t325 * t326)) < 0) = true := decide_eq_true c42
          clear c42
          obtain rfl := Option.some.inj H
          have hnb43 := NB310_311.out
          have hnc43 := NB311_310.out
          obtain ⟨hcz44_0, hcz44_1, hcz44_2, hcz44_3⟩ := Hd.c4_ BK310.out
          obtain ⟨hfz44_0, hfz44_1, hfz44_2, hfz44_3⟩ := Hd.f4_ BK310.out
          obtain ⟨hcz45_0, hcz45_1, hcz45_2, hcz45_3⟩ := Hd.c4_ BK311.out
          obtain ⟨hfz45_0, hfz45_1, hfz45_2, hfz45_3⟩ := Hd.f4_ BK311.out
          try go_wp2_with (first | ((with_reducible refine gate_callee (f := 157) rfl ?_); refine goesL_ (some 81) rfl rfl Try.func157 (by kernel_rfl) rfl #[.agg #[.int .i64 a0_0, .int .i64 a0_1, .int .i64 a0_2, .int .i64 a0_3], .agg #[.int .i64 a1_0, .int .i64 a1_1, .int .i64 a1_2, .int .i64 a1_3]] rfl Hd.m_ ?_; (with_reducible refine (spec_l5Shared.calls kj17 a0_0 a0_1 a0_2 a0_3 a1_0 a1_1 a1_2 a1_3 t322 _ A35.out).mono ?_); rintro e w46 ⟨rfl, hb⟩; refine ⟨_, rfl, ?_⟩; replace BK310 := Aside0.mk (Hd.kb_ BK310 hb); replace BK311 := Aside0.mk (Hd.kb_ BK311 hb); replace HB := Aside0.mk (below_step Hd.b_ hb); (try clear hb); (try clear hb2); (try clear hk); (try clear hi)))
          replace BK310 := Aside0.mk (blk_drew BK310.out)
          replace BK311 := Aside0.mk (blk_drew BK311.out)
          replace HB := Aside0.mk (below_drew1 HB.out)
          obtain ⟨s0_, s1_, s2_, s3_⟩ := Hd.HW.k4 (W0 := w46.drew) BK310
          obtain ⟨s4_, s5_, s6_, s7_⟩ := Hd.HW.k4 (W0 := w46.drew) BK311
          refine Hd.HW.region (by kernel_rfl) (by kernel_rfl) ?_
          try dsimp only [List.append]
          repeat (go_big_quiet_step ((first | (go_at_call 158; with_reducible exact Hd.HW.c (spec_SideOf.calls kj17 a0_0 a0_1 a0_2 a0_3 a1_0 a1_1 t323 _ A37.out)) | (go_at_call 158; with_reducible exact Hd.HW.c (spec_SideOf.calls kj17 a0_0 a0_1 a0_2 a0_3 a1_2 a1_3 t324 _ A38.out)) | (go_at_call 158; with_reducible exact Hd.HW.c (spec_SideOf.calls kj17 a1_0 a1_1 a1_2 a1_3 a0_0 a0_1 t325 _ A40.out)) | (go_at_call 158; with_reducible exact Hd.HW.c (spec_SideOf.calls kj17 a1_0 a1_1 a1_2 a1_3 a0_2 a0_3 t326 _ A41.out)))))
          refine wpQuiet_nil ?_
          intro _ hq_
          obtain ⟨q_, rfl⟩ := hq_
          clear s0_ s1_ s2_ s3_ s4_ s5_ s6_ s7_
          replace BK310 := Aside0.mk (blk_below BK310.out q_.b)
          replace BK311 := Aside0.mk (blk_below BK311.out q_.b)
          replace HB := Aside0.mk (below_step HB.out q_.b)
          generalize q_.W = w51 at BK310 BK311 HB ⊢
          try simp only [i64_w, i32_w]
          try go_wp2
          go_ret
          exact ⟨Hd.e_, Hd.b_⟩
         ·
          rw [if_neg c42] at H
          have c42b0 : decide ((wrap64 (t325 * t326)) < 0) = false := decide_eq_false c42
          clear c42
          obtain rfl := Option.some.inj H
          have hnb52 := NB310_311.out
          have hnc52 := NB311_310.out
          obtain ⟨hcz53_0, hcz53_1, hcz53_2, hcz53_3⟩ := Hd.c4_ BK310.out
          obtain ⟨hfz53_0, hfz53_1, hfz53_2, hfz53_3⟩ := Hd.f4_ BK310.out
          obtain ⟨hcz54_0, hcz54_1, hcz54_2, hcz54_3⟩ := Hd.c4_ BK311.out
          obtain ⟨hfz54_0, hfz54_1, hfz54_2, hfz54_3⟩ := Hd.f4_ BK311.out
          try go_wp2_with (first | ((with_reducible refine gate_callee (f := 157) rfl ?_); refine goesL_ (some 81) rfl rfl Try.func157 (by kernel_rfl) rfl #[.agg #[.int .i64 a0_0, .int .i64 a0_1, .int .i64 a0_2, .int .i64 a0_3], .agg #[.int .i64 a1_0, .int .i64 a1_1, .int .i64 a1_2, .int .i64 a1_3]] rfl Hd.m_ ?_; (with_reducible refine (spec_l5Shared.calls kj17 a0_0 a0_1 a0_2 a0_3 a1_0 a1_1 a1_2 a1_3 t322 _ A35.out).mono ?_); rintro e w55 ⟨rfl, hb⟩; refine ⟨_, rfl, ?_⟩; replace BK310 := Aside0.mk (Hd.kb_ BK310 hb); replace BK311 := Aside0.mk (Hd.kb_ BK311 hb); replace HB := Aside0.mk (below_step Hd.b_ hb); (try clear hb); (try clear hb2); (try clear hk); (try clear hi)))
          replace BK310 := Aside0.mk (blk_drew BK310.out)
          replace BK311 := Aside0.mk (blk_drew BK311.out)
          replace HB := Aside0.mk (below_drew1 HB.out)
          obtain ⟨s0_, s1_, s2_, s3_⟩ := Hd.HW.k4 (W0 := w55.drew) BK310
          obtain ⟨s4_, s5_, s6_, s7_⟩ := Hd.HW.k4 (W0 := w55.drew) BK311
          refine Hd.HW.region (by kernel_rfl) (by kernel_rfl) ?_
          try dsimp only [List.append]
          repeat (go_big_quiet_step ((first | (go_at_call 158; with_reducible exact Hd.HW.c (spec_SideOf.calls kj17 a0_0 a0_1 a0_2 a0_3 a1_0 a1_1 t323 _ A37.out)) | (go_at_call 158; with_reducible exact Hd.HW.c (spec_SideOf.calls kj17 a0_0 a0_1 a0_2 a0_3 a1_2 a1_3 t324 _ A38.out)) | (go_at_call 158; with_reducible exact Hd.HW.c (spec_SideOf.calls kj17 a1_0 a1_1 a1_2 a1_3 a0_0 a0_1 t325 _ A40.out)) | (go_at_call 158; with_reducible exact Hd.HW.c (spec_SideOf.calls kj17 a1_0 a1_1 a1_2 a1_3 a0_2 a0_3 t326 _ A41.out)))))
          refine wpQuiet_nil ?_
          intro _ hq_
          obtain ⟨q_, rfl⟩ := hq_
          clear s0_ s1_ s2_ s3_ s4_ s5_ s6_ s7_
          replace BK310 := Aside0.mk (blk_below BK310.out q_.b)
          replace BK311 := Aside0.mk (blk_below BK311.out q_.b)
          replace HB := Aside0.mk (below_step HB.out q_.b)
          generalize q_.W = w60 at BK310 BK311 HB ⊢
          try simp only [i64_w, i32_w]
          try go_wp2
          go_ret
          exact ⟨Hd.e_, Hd.b_⟩
        ·
         rw [if_neg c39] at H
         have c39b0 : decide ((wrap64 (t323 * t324)) < 0) = false := decide_eq_false c39
         clear c39
         obtain rfl := Option.some.inj H
         have hnb61 := NB310_311.out
         have hnc61 := NB311_310.out
         obtain ⟨hcz62_0, hcz62_1, hcz62_2, hcz62_3⟩ := Hd.c4_ BK310.out
         obtain ⟨hfz62_0, hfz62_1, hfz62_2, hfz62_3⟩ := Hd.f4_ BK310.out
         obtain ⟨hcz63_0, hcz63_1, hcz63_2, hcz63_3⟩ := Hd.c4_ BK311.out
         obtain ⟨hfz63_0, hfz63_1, hfz63_2, hfz63_3⟩ := Hd.f4_ BK311.out
         try go_wp2_with (first | ((with_reducible refine gate_callee (f := 157) rfl ?_); refine goesL_ (some 81) rfl rfl Try.func157 (by kernel_rfl) rfl #[.agg #[.int .i64 a0_0, .int .i64 a0_1, .int .i64 a0_2, .int .i64 a0_3], .agg #[.int .i64 a1_0, .int .i64 a1_1, .int .i64 a1_2, .int .i64 a1_3]] rfl Hd.m_ ?_; (with_reducible refine (spec_l5Shared.calls kj17 a0_0 a0_1 a0_2 a0_3 a1_0 a1_1 a1_2 a1_3 t322 _ A35.out).mono ?_); rintro e w64 ⟨rfl, hb⟩; refine ⟨_, rfl, ?_⟩; replace BK310 := Aside0.mk (Hd.kb_ BK310 hb); replace BK311 := Aside0.mk (Hd.kb_ BK311 hb); replace HB := Aside0.mk (below_step Hd.b_ hb); (try clear hb); (try clear hb2); (try clear hk); (try clear hi)))
         replace BK310 := Aside0.mk (blk_drew BK310.out)
         replace BK311 := Aside0.mk (blk_drew BK311.out)
         replace HB := Aside0.mk (below_drew1 HB.out)
         obtain ⟨s0_, s1_, s2_, s3_⟩ := Hd.HW.k4 (W0 := w64.drew) BK310
         obtain ⟨s4_, s5_, s6_, s7_⟩ := Hd.HW.k4 (W0 := w64.drew) BK311
         refine Hd.HW.region (by kernel_rfl) (by kernel_rfl) ?_
         try dsimp only [List.append]
         repeat (go_big_quiet_step ((first | (go_at_call 158; with_reducible exact Hd.HW.c (spec_SideOf.calls kj17 a0_0 a0_1 a0_2 a0_3 a1_0 a1_1 t323 _ A37.out)) | (go_at_call 158; with_reducible exact Hd.HW.c (spec_SideOf.calls kj17 a0_0 a0_1 a0_2 a0_3 a1_2 a1_3 t324 _ A38.out)))))
         refine wpQuiet_nil ?_
         intro _ hq_
         obtain ⟨q_, rfl⟩ := hq_
         clear s0_ s1_ s2_ s3_ s4_ s5_ s6_ s7_
         replace BK310 := Aside0.mk (blk_below BK310.out q_.b)
         replace BK311 := Aside0.mk (blk_below BK311.out q_.b)
         replace HB := Aside0.mk (below_step HB.out q_.b)
         generalize q_.W = w67 at BK310 BK311 HB ⊢
         try simp only [i64_w, i32_w]
         try go_wp2
         go_ret
         exact ⟨Hd.e_, Hd.b_⟩
       ·
        rw [if_neg c36] at H
        have c36b0 : (t322 == 0) = false := beq_eq_false_iff_ne.mpr c36
        have c36b1 : (t322 != 0) = true := bne_iff_ne.mpr c36
        by_cases c68 : t322 = 1
        ·
         rw [if_pos c68] at H
         have c68b0 : (t322 == 1) = true := beq_iff_eq.mpr c68
         have c68b1 : (t322 != 1) = false := bne_eq_false_iff_eq.mpr c68
         clear c68
         obtain rfl := Option.some.inj H
         have hnb69 := NB310_311.out
         have hnc69 := NB311_310.out
         obtain ⟨hcz70_0, hcz70_1, hcz70_2, hcz70_3⟩ := Hd.c4_ BK310.out
         obtain ⟨hfz70_0, hfz70_1, hfz70_2, hfz70_3⟩ := Hd.f4_ BK310.out
         obtain ⟨hcz71_0, hcz71_1, hcz71_2, hcz71_3⟩ := Hd.c4_ BK311.out
         obtain ⟨hfz71_0, hfz71_1, hfz71_2, hfz71_3⟩ := Hd.f4_ BK311.out
         go_wp2_with (first | ((with_reducible refine gate_callee (f := 157) rfl ?_); refine goesL_ (some 81) rfl rfl Try.func157 (by kernel_rfl) rfl #[.agg #[.int .i64 a0_0, .int .i64 a0_1, .int .i64 a0_2, .int .i64 a0_3], .agg #[.int .i64 a1_0, .int .i64 a1_1, .int .i64 a1_2, .int .i64 a1_3]] rfl Hd.m_ ?_; (with_reducible refine (spec_l5Shared.calls kj17 a0_0 a0_1 a0_2 a0_3 a1_0 a1_1 a1_2 a1_3 t322 _ A35.out).mono ?_); rintro e w72 ⟨rfl, hb⟩; refine ⟨_, rfl, ?_⟩; replace BK310 := Aside0.mk (Hd.kb_ BK310 hb); replace BK311 := Aside0.mk (Hd.kb_ BK311 hb); replace HB := Aside0.mk (below_step Hd.b_ hb); (try clear hb); (try clear hb2); (try clear hk); (try clear hi)))
         go_ret
         exact ⟨Hd.e_, Hd.b_⟩
        ·
         rw [if_neg c68] at H
         have c68b0 : (t322 == 1) = false := beq_eq_false_iff_ne.mpr c68
         have c68b1 : (t322 != 1) = true := bne_iff_ne.mpr c68
         obtain rfl := Option.some.inj H
         have hnb73 := NB310_311.out
         have hnc73 := NB311_310.out
         obtain ⟨hcz74_0, hcz74_1, hcz74_2, hcz74_3⟩ := Hd.c4_ BK310.out
         obtain ⟨hfz74_0, hfz74_1, hfz74_2, hfz74_3⟩ := Hd.f4_ BK310.out
         obtain ⟨hcz75_0, hcz75_1, hcz75_2, hcz75_3⟩ := Hd.c4_ BK311.out
         obtain ⟨hfz75_0, hfz75_1, hfz75_2, hfz75_3⟩ := Hd.f4_ BK311.out
         go_wp2_with (first | ((with_reducible refine gate_callee (f := 157) rfl ?_); refine goesL_ (some 81) rfl rfl Try.func157 (by kernel_rfl) rfl #[.agg #[.int .i64 a0_0, .int .i64 a0_1, .int .i64 a0_2, .int .i64 a0_3], .agg #[.int .i64 a1_0, .int .i64 a1_1, .int .i64 a1_2, .int .i64 a1_3]] rfl Hd.m_ ?_; (with_reducible refine (spec_l5Shared.calls kj17 a0_0 a0_1 a0_2 a0_3 a1_0 a1_1 a1_2 a1_3 t322 _ A35.out).mono ?_); rintro e w76 ⟨rfl, hb⟩; refine ⟨_, rfl, ?_⟩; replace BK310 := Aside0.mk (Hd.kb_ BK310 hb); replace BK311 := Aside0.mk (Hd.kb_ BK311 hb); replace HB := Aside0.mk (below_step Hd.b_ hb); (try clear hb); (try clear hb2); (try clear hk); (try clear hi)))
         go_ret
         exact ⟨Hd.e_, Hd.b_⟩
def spec_l7Segments.l0 : Nat → List (S49) → List (S111) → Int → Option ((List (S111)))
 | 0, _, _, _ => none
 | k + 1, x0, x3, x4 => if x4 < (x0.length : Int) then (if 0 ≤ x4 then (if (x0.length : Int) = 0 then (none) else (if 0 ≤ (Int.tmod (wrap64 (x4 + 1)) (x0.length : Int)) then (if (Int.tmod (wrap64 (x4 + 1)) (x0.length : Int)) < (x0.length : Int) then (if x3.length < 4398046511104 then (spec_l7Segments.l0 k x0 (x3 ++ [(⟨(⟨(rd_T49 x0 x4).f0, (rd_T49 x0 x4).f1⟩ : S49), (⟨(rd_T49 x0 (Int.tmod (wrap64 (x4 + 1)) (x0.length : Int))).f0, (rd_T49 x0 (Int.tmod (wrap64 (x4 + 1)) (x0.length : Int))).f1⟩ : S49)⟩ : S111)]) (wrap64 (x4 + 1))) else (none)) else (none)) else (none))) else (none)) else (some x3)
def spec_l7Segments.f (k : Nat) (l0 : List (S49)) : Option ((List (S111))) := spec_l7Segments.l0 k l0 (([] : List (S111))) 0
def spec_l7Segments.T5 : Bool × List (List Nat × List Nat) := (true, [([], []), ([], []), ([], []), ([1, 2], [1, 2]), ([3], [3]), ([], []), ([], []), ([6], [6]), ([], []), ([8], [8]), ([7, 9], [7, 9]), ([5, 10], [5, 10]), ([11], [11]), ([4, 12], [4, 12]), ([13], [13]), ([0, 14], [0, 14]), ([15, 15, 0, 1, 2, 3, 4, 5, 6, 7, 8, 9, 10, 11, 12, 13, 14, 15], [0, 15])])
def spec_l7Segments.B5 : List Nat := [0, 0, 0, 6, 14, 0, 0, 64, 0, 256, 960, 2016, 4064, 8190, 16382, 32767, 65535]
theorem spec_l7Segments.tab5 : rtab .any (opsOf Try.f136 5) = spec_l7Segments.T5 := by kernel_rfl
theorem spec_l7Segments.bits5 : waitsOk spec_l7Segments.T5.2 spec_l7Segments.B5 = true := by kernel_rfl
set_option maxHeartbeats 8000000 in
set_option maxRecDepth 100000 in
theorem spec_l7Segments.calls (k : Nat) (A0 : Option Addr) (c0 : Nat) (l0 : List (S49)) (r : List (S111)) (w : World) (hr0 : Kd.C k49 w A0 l0.length l0) (hc0 : l0.length ≤ c0) (h : spec_l7Segments.f k l0 = some r) :
  Calls Try.prog 136 #[.slice A0 l0.length c0] w fun e w' => ∃ v0_ : Value, e = .returned (v0_) ∧ Kd.R k111 111 w' w.heap.size (fun _ => True) v0_ r ∧ Below w.heap.size w w' := by
 have hu49 := Try.underlying49
 have hu111 := Try.underlying111
 have HR0 := Aside0.mk hr0
 have HC0 := Aside0.mk hc0
 clear hr0 hc0
 have HB := Aside0.mk (Below.refl w.heap.size w)
 have H : (spec_l7Segments.l0 k l0 (([] : List (S111))) 0) = some r := h
 clear h
 obtain ⟨y327, hy327⟩ : ∃ y_ : List (S111), y_ = (([] : List (S111))) := ⟨_, rfl⟩
 replace H : (spec_l7Segments.l0 k l0 y327 0) = some r := by first | (rw [hy327]; with_reducible exact H) | (have H2_ := (Option.bind_some _ _).symm.trans H; rw [hy327]; with_reducible exact H2_) | (have H2_ := (Option.bind_some _ _).symm.trans H; with_reducible exact H2_) | with_reducible exact H | (rw [hy327]; exact H) | exact H
 have Ny327 := Aside0.mk hy327
 clear hy327
 have H' := Aside0.mk H
 clear H
 go_enter Try.func136, Try.ntmps136
 go_wp2_with (first | ((with_reducible refine gate_dst (N := 5) rfl ?_); refine Kd.R_lit k111 _ 111 ?hg (N := 5) ?hd (xs := ([] : List (S111))) (inner := []) (ok := fun _ => True) (okp := fun _ => True) ?hr ?hp (fun _ hk => hk) trivial (Below.refl _ _) (Nat.le_refl _) (by simp) ?_; (case hd => rfl); (case hg => rfl); (case hr => first | (go_simp; done) | (go_simp; rfl)); (case hp => exact (Reps.none _ _)); intro v328 w2 ho3 hb hg_ hnew_; clear hg_ hnew_; (first | rw [← Ny327.out] at ho3 | (simp only [Int.reduceToNat] at ho3; rw [← Ny327.out] at ho3)); have HO329 := Aside0.mk (Kd.R_lower ho3 (below_size Hd.b_)); replace HB := Aside0.mk (below_step Hd.b_ hb); clear hb ho3))
 go_loopg [3, 4] k (fun kq v3 v4 w' => ∃ (x3_1 : List (S111)) (x4_1 : Int), v4 = .int .i64 x4_1 ∧ Aside0 (spec_l7Segments.l0 kq l0 x3_1 x4_1 = some r) ∧ Aside0 (kq ≤ k) ∧ Aside0 (Kd.R k111 111 w' w.heap.size (fun _ => True) v3 x3_1) ∧ Aside0 (Below w.heap.size w w'))
 case atStart => exact ⟨(y327), (0), (by first | rfl | (simp; done) | (simp [*]; done)), H', ⟨Nat.le_refl _⟩, ⟨by (with_reducible repeat (first | apply Kd.R_alloc | apply Kd.R_drewN | apply Kd.R_drew)); exact HO329.out⟩, ⟨Hd.b_⟩⟩
 case round =>
  clear H'
  try clear c1
  try clear p2
  obtain ⟨x3_1, x4_1, rfl, HA, HK1, HO_3, HB⟩ := hrel
  cases gk with
  | zero => exact absurd HA.out (by simp [spec_l7Segments.l0])
  | succ k1 =>
   have H := HA.out
   clear HA
   simp only [spec_l7Segments.l0] at H
   by_cases c4 : x4_1 < (l0.length : Int)
   ·
    rw [if_pos c4] at H
    have c4b0 : decide (x4_1 < (l0.length : Int)) = true := decide_eq_true c4
    clear c4
    by_cases c5 : 0 ≤ x4_1
    ·
     rw [if_pos c5] at H
     have c5b0 : decide (0 ≤ x4_1) = true := decide_eq_true c5
     clear c5
     by_cases c6 : (l0.length : Int) = 0
     ·
      rw [if_pos c6] at H
      exact absurd H (by simp)
     ·
      rw [if_neg c6] at H
      have c6b0 : ((l0.length : Int) == 0) = false := beq_eq_false_iff_ne.mpr c6
      have c6b1 : ((l0.length : Int) != 0) = true := bne_iff_ne.mpr c6
      have c6b2 : ¬ (l0 = []) := fun h_ => c6 (by rw [h_]; rfl)
      obtain ⟨ji7, hji7⟩ : ∃ j_ : Int, (Int.tmod (wrap64 (x4_1 + 1)) (l0.length : Int)) = j_ := ⟨_, rfl⟩
      replace H : (if 0 ≤ (ji7) then (if (ji7) < (l0.length : Int) then (if x3_1.length < 4398046511104 then (spec_l7Segments.l0 k1 l0 (x3_1 ++ [(⟨(⟨(rd_T49 l0 x4_1).f0, (rd_T49 l0 x4_1).f1⟩ : S49), (⟨(rd_T49 l0 (ji7)).f0, (rd_T49 l0 (ji7)).f1⟩ : S49)⟩ : S111)]) (wrap64 (x4_1 + 1))) else (none)) else (none)) else (none)) = some r := by first | (rw [hji7] at H; exact H) | (simp only [hji7] at H ⊢; exact H)
      by_cases c8 : 0 ≤ (ji7)
      ·
       rw [if_pos c8] at H
       have c8b0 : decide (0 ≤ (ji7)) = true := decide_eq_true c8
       clear c8
       by_cases c9 : (ji7) < (l0.length : Int)
       ·
        rw [if_pos c9] at H
        have c9b0 : decide ((ji7) < (l0.length : Int)) = true := decide_eq_true c9
        clear c9
        by_cases c10 : x3_1.length < 4398046511104
        ·
         rw [if_pos c10] at H
         have LMc10 := Aside0.mk c10
         clear c10
         obtain ⟨y332, hy332⟩ : ∃ y_ : List (S111), y_ = (x3_1 ++ [(⟨(⟨(rd_T49 l0 x4_1).f0, (rd_T49 l0 x4_1).f1⟩ : S49), (⟨(rd_T49 l0 (ji7)).f0, (rd_T49 l0 (ji7)).f1⟩ : S49)⟩ : S111)]) := ⟨_, rfl⟩
         replace H : (spec_l7Segments.l0 k1 l0 y332 (wrap64 (x4_1 + 1))) = some r := by first | (rw [hy332]; with_reducible exact H) | (have H2_ := (Option.bind_some _ _).symm.trans H; rw [hy332]; with_reducible exact H2_) | (have H2_ := (Option.bind_some _ _).symm.trans H; with_reducible exact H2_) | with_reducible exact H | (rw [hy332]; exact H) | exact H
         have Ny332 := Aside0.mk hy332
         clear hy332
         have H' := Aside0.mk H
         clear H
         try go_wp2
         replace HO_3 := Aside0.mk (Kd.R_drew HO_3.out)
         replace HB := Aside0.mk (below_drew1 HB.out)
         have p330 : 0 ≤ (x4_1 : Int) := of_decide_eq_true Hd.a_
         have q330 : x4_1 < (l0.length : Int) := of_decide_eq_true Hd.a_
         obtain ⟨ad330, e330, hx330_0, hx330_1⟩ := at_T49 HR0.out x4_1 p330 q330
         have hw330_1 := hx330_1
         have hw330_0 := hx330_0
         cases e330
         replace hx330_0 := (HB.out.cell (World.block_lt_of_cell? w _ hx330_0)).trans hx330_0
         replace hx330_1 := (HB.out.cell (World.block_lt_of_cell? w _ hx330_1)).trans hx330_1
         replace p330 := eq_true p330
         replace q330 := eq_true q330
         have p331 : 0 ≤ ((ji7) : Int) := of_decide_eq_true Hd.a_
         have q331 : (ji7) < (l0.length : Int) := of_decide_eq_true Hd.a_
         obtain ⟨ad331, e331, hx331_0, hx331_1⟩ := at_T49 HR0.out (ji7) p331 q331
         have hw331_1 := hx331_1
         have hw331_0 := hx331_0
         obtain rfl : ad330 = ad331 := (by injection e331)
         replace hx331_0 := (HB.out.cell (World.block_lt_of_cell? w _ hx331_0)).trans hx331_0
         replace hx331_1 := (HB.out.cell (World.block_lt_of_cell? w _ hx331_1)).trans hx331_1
         replace p331 := eq_true p331
         replace q331 := eq_true q331
         refine start_ (n := 17) (S := fun w' => w'.cell? (ad330.add ((x4_1).toNat * 2)) = some (.int .i64 ((rd_T49 l0 x4_1).f0)) ∧ w'.cell? ⟨(ad330.add ((x4_1).toNat * 2)).block, (ad330.add ((x4_1).toNat * 2)).off + 1, none⟩ = some (.int .i64 ((rd_T49 l0 x4_1).f1)) ∧ w'.cell? (ad330.add (((ji7)).toNat * 2)) = some (.int .i64 ((rd_T49 l0 (ji7)).f0)) ∧ w'.cell? ⟨(ad330.add (((ji7)).toNat * 2)).block, (ad330.add (((ji7)).toNat * 2)).off + 1, none⟩ = some (.int .i64 ((rd_T49 l0 (ji7)).f1))) (ds := []) #[false, false, false, false, false, false, false, false, false, false, false, false, false, false, false, false, false] (by kernel_rfl) rfl rfl ⟨((HB.out.cell (World.block_lt_of_cell? w _ hw330_0)).trans hw330_0), ((HB.out.cell (World.block_lt_of_cell? w _ hw330_1)).trans hw330_1), ((HB.out.cell (World.block_lt_of_cell? w _ hw331_0)).trans hw331_0), ((HB.out.cell (World.block_lt_of_cell? w _ hw331_1)).trans hw331_1)⟩ (fun hHeld => ?_); refine with_tabW spec_l7Segments.tab5 spec_l7Segments.bits5 (fun HT_ HW_ => ?_)
         generalize wr.drew = w11 at HO_3 HB hx330_0 hx330_1 hx331_0 hx331_1 hHeld ⊢
         refine Hd.p_ HT_ 0 (some 12) #[true, false, false, false, false, false, false, false, false, false, false, false, false, false, false, false, false] ?_
         refine Hd.p_ HT_ 1 (some 13) #[true, true, false, false, false, false, false, false, false, false, false, false, false, false, false, false, false] ?_
         refine Hd.p_ HT_ 2 (some 14) #[true, true, true, false, false, false, false, false, false, false, false, false, false, false, false, false, false] ?_
         refine Hd.p_ HT_ 3 (some 15) #[true, true, true, true, false, false, false, false, false, false, false, false, false, false, false, false, false] ?_
         refine Hd.p_ HT_ 5 (some 17) #[true, true, true, true, false, true, false, false, false, false, false, false, false, false, false, false, false] ?_
         refine Hd.p_ HT_ 6 (some 18) #[true, true, true, true, false, true, true, false, false, false, false, false, false, false, false, false, false] ?_
         refine Hd.p_ HT_ 7 (some 19) #[true, true, true, true, false, true, true, true, false, false, false, false, false, false, false, false, false] ?_
         refine Hd.p_ HT_ 8 (some 20) #[true, true, true, true, false, true, true, true, true, false, false, false, false, false, false, false, false] ?_
         refine Hd.p_ HT_ 9 (some 21) #[true, true, true, true, false, true, true, true, true, true, false, false, false, false, false, false, false] ?_
         refine Hd.p_ HT_ 10 (some 22) #[true, true, true, true, false, true, true, true, true, true, true, false, false, false, false, false, false] ?_
         refine Hd.p_ HT_ 11 (some 23) #[true, true, true, true, false, true, true, true, true, true, true, true, false, false, false, false, false] ?_
         refine Hd.t_ HT_ HW_ hHeld 4 (some 16) #[true, true, true, true, true, true, true, true, true, true, true, true, false, false, false, false, false] ?_
         refine Hd.t_ HT_ HW_ hHeld 12 (some 24) #[true, true, true, true, true, true, true, true, true, true, true, true, true, false, false, false, false] ?_
         refine Hd.p_ HT_ 13 (some 25) #[true, true, true, true, true, true, true, true, true, true, true, true, true, true, false, false, false] ?_
         refine Hd.o_ HT_ 14 (some 26) #[true, true, true, true, true, true, true, true, true, true, true, true, true, true, true, false, false] (fun K hK => ?_)
         refine value_ (w1 := ?_) (v := ?_) (by rfl) rfl ?_ ?_
         rotate_left 2
         ·
          go_simp
          constructor
          ·
           rfl
          ·
           rfl
         refine hK.out _ _ ⟨(World.cell?_alloc_lt _ _ _ (World.block_lt_of_cell? _ _ (((HB.out.cell (World.block_lt_of_cell? w _ hw330_0)).trans hw330_0)))).trans (((HB.out.cell (World.block_lt_of_cell? w _ hw330_0)).trans hw330_0)), (World.cell?_alloc_lt _ _ _ (World.block_lt_of_cell? _ _ (((HB.out.cell (World.block_lt_of_cell? w _ hw330_1)).trans hw330_1)))).trans (((HB.out.cell (World.block_lt_of_cell? w _ hw330_1)).trans hw330_1)), (World.cell?_alloc_lt _ _ _ (World.block_lt_of_cell? _ _ (((HB.out.cell (World.block_lt_of_cell? w _ hw331_0)).trans hw331_0)))).trans (((HB.out.cell (World.block_lt_of_cell? w _ hw331_0)).trans hw331_0)), (World.cell?_alloc_lt _ _ _ (World.block_lt_of_cell? _ _ (((HB.out.cell (World.block_lt_of_cell? w _ hw331_1)).trans hw331_1)))).trans (((HB.out.cell (World.block_lt_of_cell? w _ hw331_1)).trans hw331_1))⟩ (fun hHeld => ?_)
         clear hK K
         refine Hd.n_ (some 26) ?_
         refine Hd.o_ HT_ 15 (some 27) #[true, true, true, true, true, true, true, true, true, true, true, true, true, true, true, true, false] (fun K hK => ?_)
         refine Kd.R_append_step k111 (w0 := w) w.heap.size (by rfl) (.tmp 12) (.tmp 26) 91 111 (.agg #[(.int .i64 0), (.int .i64 0), (.int .i64 0), (.int .i64 0)]) 32 rfl Try.underlying91 info111 rfl (by decide) (by omega) u3 x3_1 (⟨(⟨(rd_T49 l0 x4_1).f0, (rd_T49 l0 x4_1).f1⟩ : S49), (⟨(rd_T49 l0 (ji7)).f0, (rd_T49 l0 (ji7)).f1⟩ : S49)⟩ : S111) [.int .i64 ((rd_T49 l0 x4_1).f0), .int .i64 ((rd_T49 l0 x4_1).f1), .int .i64 ((rd_T49 l0 (ji7)).f0), .int .i64 ((rd_T49 l0 (ji7)).f1)] (fun _ => True) (fun _ => False) rfl rfl ?aP (fun _ hk => hk.elim) ?aF ?aO ?aB ?aS ?aL ?_
         (case aP => exact k111_mkM _ _ _ (⟨(⟨(rd_T49 l0 x4_1).f0, (rd_T49 l0 x4_1).f1⟩ : S49), (⟨(rd_T49 l0 (ji7)).f0, (rd_T49 l0 (ji7)).f1⟩ : S49)⟩ : S111))
         (case aB => exact Hd.b_)
         (case aF => exact (fun _ _ => trivial))
         (case aO => exact (Hd.r_ HO_3))
         (case aS => exact (below_size Hd.b_))
         (case aL => have := LMc10.out; omega)
         intro v333 w12 ho hb hg hat
         rw [← Ny332.out] at ho
         have n0_ := Aside0.mk (hb)
         have n1_ := Aside0.mk (ho)
         clear HB
         clear HO_3
         have HB := n0_
         have HO334 := n1_
         clear n0_ n1_
         clear ho hb hg hat
         refine hK.out _ _ ⟨((HB.out.cell (World.block_lt_of_cell? w _ hw330_0)).trans hw330_0), ((HB.out.cell (World.block_lt_of_cell? w _ hw330_1)).trans hw330_1), ((HB.out.cell (World.block_lt_of_cell? w _ hw331_0)).trans hw331_0), ((HB.out.cell (World.block_lt_of_cell? w _ hw331_1)).trans hw331_1)⟩ (fun hHeld => ?_)
         clear hK K
         refine Hd.n_ (some 27) ?_
         refine Hd.p_ HT_ 16 (some 3) #[true, true, true, true, true, true, true, true, true, true, true, true, true, true, true, true, true] ?_
         refine done_ (done_of HT_.out (by kernel_rfl)) ?_
         try go_wp2
         go_roundg k1
         case measure => have := HK1.out; omega
         case rel => exact ⟨(y332), (wrap64 (x4_1 + 1)), (by first | rfl | (simp; done) | (simp [*]; done)), H', ⟨by have := HK1.out; omega⟩, ⟨by (with_reducible repeat (first | apply Kd.R_alloc | apply Kd.R_drewN | apply Kd.R_drew)); exact HO334.out⟩, ⟨Hd.b_⟩⟩
        ·
         rw [if_neg c10] at H
         exact absurd H (by simp)
       ·
        rw [if_neg c9] at H
        exact absurd H (by simp)
      ·
       rw [if_neg c8] at H
       exact absurd H (by simp)
    ·
     rw [if_neg c5] at H
     exact absurd H (by simp)
   ·
    rw [if_neg c4] at H
    have c4b0 : decide (x4_1 < (l0.length : Int)) = false := decide_eq_false c4
    clear c4
    obtain rfl := Option.some.inj H
    go_wp2
    go_ret
    exact ⟨_, Hd.e_, by (with_reducible repeat (first | apply Kd.R_alloc | apply Kd.R_drewN | apply Kd.R_drew)); exact HO_3.out, Hd.b_⟩
end Go.Proofs.Ytchmbcembbbplac.MFnExactSafeRing
