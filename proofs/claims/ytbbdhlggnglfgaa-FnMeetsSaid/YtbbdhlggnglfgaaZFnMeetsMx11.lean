-- Laid by this session's program pp.py, after the kit's print and texts of the session's own. Not trusted: Lean checks it.
import Derived.Test.YtbbdhlggnglfgaaZFnMeetsMx0
import Derived.Test.YtbbdhlggnglfgaaZFnMeetsMx9
import Derived.Test.YtbbdhlggnglfgaaZFnMeetsMx10
namespace Go.Proofs.Ytbbdhlggnglfgaa.MFnMeets
open Go.RowKit Go.Proofs.YtbbdhlggnglfgaaW.PrintWords Go.Proofs.YtbbdhlggnglfgaaW.PrintLast Go.Proofs.YtbbdhlggnglfgaaW.PrintMore
attribute [local go_sem] max2_int min2_int max_two min_two max_three min_three max_four min_four   -- for this text's walks alone
set_option linter.unusedVariables false
set_option maxHeartbeats 8000000
set_option maxRecDepth 100000
set_option linter.unusedSimpArgs false
mutual
def spec_HowMeet.j0 : Nat → Bool → Int → Int → Int → Int → Int → Int → Int → Int → Option (Int)
 | 0,_,_,_,_,_,_,_,_,_ => none
 | k + 1,x12,x320000,x320001,x320002,x320003,x321000,x321001,x321002,x321003 => if x12 = true then (some 0) else ((spec_Max.f x320000 x320002).bind fun t323 => ((spec_Min.f x321000 x321002).bind fun t324 => (if t323 < t324 then (spec_HowMeet.j1 k true x320000 x320001 x320002 x320003 x321000 x321001 x321002 x321003) else ((spec_Max.f x321000 x321002).bind fun t325 => ((spec_Min.f x320000 x320002).bind fun t326 => (if t325 < t326 then (spec_HowMeet.j1 k true x320000 x320001 x320002 x320003 x321000 x321001 x321002 x321003) else ((spec_Max.f x320001 x320003).bind fun t327 => ((spec_Min.f x321001 x321003).bind fun t328 => (if t327 < t328 then (spec_HowMeet.j1 k true x320000 x320001 x320002 x320003 x321000 x321001 x321002 x321003) else ((spec_Max.f x321001 x321003).bind fun t329 => ((spec_Min.f x320001 x320003).bind fun t330 => (spec_HowMeet.j1 k (decide (t329 < t330)) x320000 x320001 x320002 x320003 x321000 x321001 x321002 x321003))))))))))))
def spec_HowMeet.j1 : Nat → Bool → Int → Int → Int → Int → Int → Int → Int → Int → Option (Int)
 | 0,_,_,_,_,_,_,_,_,_ => none
 | k + 1,x78,x320000,x320001,x320002,x320003,x321000,x321001,x321002,x321003 => if x78 = true then (some 0) else ((spec_l5Shared.f k x320000 x320001 x320002 x320003 x321000 x321001 x321002 x321003).bind fun t331 => (if t331 = 0 then ((spec_SideOf.f k x320000 x320001 x320002 x320003 x321000 x321001).bind fun t332 => ((spec_SideOf.f k x320000 x320001 x320002 x320003 x321002 x321003).bind fun t333 => (if (wrap64 (t332 * t333)) < 0 then ((spec_SideOf.f k x321000 x321001 x321002 x321003 x320000 x320001).bind fun t334 => ((spec_SideOf.f k x321000 x321001 x321002 x321003 x320002 x320003).bind fun t335 => (if (wrap64 (t334 * t335)) < 0 then (some 2) else (some 0)))) else (some 0)))) else (if t331 = 1 then (some 1) else (some 3))))
end
def spec_HowMeet.f (k : Nat) (a0_0 : Int) (a0_1 : Int) (a0_2 : Int) (a0_3 : Int) (a1_0 : Int) (a1_1 : Int) (a1_2 : Int) (a1_3 : Int) : Option (Int):=(spec_IsSegment.f a0_0 a0_1 a0_2 a0_3).bind fun t321 => (if t321 = true then ((spec_IsSegment.f a1_0 a1_1 a1_2 a1_3).bind fun t322 => (spec_HowMeet.j0 k (!t322) a0_0 a0_1 a0_2 a0_3 a1_0 a1_1 a1_2 a1_3)) else (spec_HowMeet.j0 k true a0_0 a0_1 a0_2 a0_3 a1_0 a1_1 a1_2 a1_3))
theorem spec_HowMeet.calls (k : Nat) (a0_0 : Int) (a0_1 : Int) (a0_2 : Int) (a0_3 : Int) (a1_0 : Int) (a1_1 : Int) (a1_2 : Int) (a1_3 : Int) (r : Int) (w : World) (h : spec_HowMeet.f k a0_0 a0_1 a0_2 a0_3 a1_0 a1_1 a1_2 a1_3 = some r) :
  Calls Try.prog 96 #[.agg #[.int .i64 a0_0,.int .i64 a0_1,.int .i64 a0_2,.int .i64 a0_3],.agg #[.int .i64 a1_0,.int .i64 a1_1,.int .i64 a1_2,.int .i64 a1_3]] w fun e w' => e = .returned (.int .i64 r) ∧ Below w.heap.size w w':=by
 have hu101:=Try.underlying101
 have hu75:=Try.underlying75
 have HB:=ak (Below.refl w.heap.size w)
 have H:=h;clear h;unfold spec_HowMeet.f at H
 have HC3:=ak H
 clear H
 go_enter Try.func96,Try.ntmps96
 go_upto_region 1 with (first | ((with_reducible refine gate_dst (N:=2) rfl ?_);refine Hd.box_ 2 (#[.int .i64 a0_0,.int .i64 a0_1,.int .i64 a0_2,.int .i64 a0_3]) 101 ?_;intro gb319 hg w4 hbox hb;have BK319:=ak (hbox);have GW319:=ak ((Hd.g_ hg Hd.b_ : w.heap.size ≤ gb319));have GE319:=ak ((Hd.g_ hg Hd.b_ : w.heap.size ≤ gb319));replace HB:=ak (below_step Hd.b_ hb);clear hb hbox hg) | ((with_reducible refine gate_dst (N:=3) rfl ?_);refine Hd.box_ 3 (#[.int .i64 a1_0,.int .i64 a1_1,.int .i64 a1_2,.int .i64 a1_3]) 101 ?_;intro gb320 hg w5 hbox hb;have BK320:=ak (hbox);have GW320:=ak ((Hd.g_ hg Hd.b_ : w.heap.size ≤ gb320));have GE320:=ak ((Hd.g_ hg Hd.b_ : w.heap.size ≤ gb320));replace HB:=ak (below_step Hd.b_ hb);have NB319_320:=ak ((Hd.lt_ BK319 hg));have NB320_319:=ak ((Hd.gt_ BK319 hg));replace BK319:=ak (Hd.kb_ BK319 hb);clear hb hbox hg))
 (try simp only [Act.put,List.setIfInBounds_toArray,List.set_cons_zero,List.set_cons_succ])
 go_cut [12] (fun v12 wc => ∃ (kq : Nat) (x12_2 : Bool),v12 = .bool x12_2 ∧ Aside0 (spec_HowMeet.j0 kq x12_2 a0_0 a0_1 a0_2 a0_3 a1_0 a1_1 a1_2 a1_3 = some r) ∧ Aside0 (kq ≤ k) ∧ Aside0 (wc.heap[gb319]? = some (.cells #[.int .i64 a0_0,.int .i64 a0_1,.int .i64 a0_2,.int .i64 a0_3] 101 (0,0))) ∧ Aside0 (wc.heap[gb320]? = some (.cells #[.int .i64 a1_0,.int .i64 a1_1,.int .i64 a1_2,.int .i64 a1_3] 101 (0,0))) ∧ Aside0 (Below w.heap.size w wc))
 case first =>
  have H:=HC3.out
  clear HC3
  replace H:=Hd.bd_ H;obtain ⟨t321,A6,H⟩:=H
  by_cases c7 : t321 = true
  ·
   subst c7
   rw [if_pos rfl] at H
   replace H:=Hd.bd_ H;obtain ⟨t322,A8,H⟩:=H
   have H':=ak H
   clear H
   have hnb9:=NB319_320.out
   have hnc9:=NB320_319.out
   obtain ⟨hcz10_0,hcz10_1,hcz10_2,hcz10_3⟩:=Hd.c4_ BK319.out
   obtain ⟨hfz10_0,hfz10_1,hfz10_2,hfz10_3⟩:=Hd.f4_ BK319.out
   go_wp2_with (first | ((with_reducible refine gate_callee (f:=99) rfl ?_);refine Hd.gl_ 6 Try.func99 #[.agg #[.int .i64 a0_0,.int .i64 a0_1,.int .i64 a0_2,.int .i64 a0_3]] ?_;(with_reducible refine (spec_IsSegment.calls a0_0 a0_1 a0_2 a0_3 true _ A6.out).mono ?_);rintro e w11 ⟨rfl,hb⟩;refine ⟨_,rfl,?_⟩;replace BK319:=ak (Hd.kb_ BK319 hb);replace BK320:=ak (Hd.kb_ BK320 hb);replace HB:=ak (below_step Hd.b_ hb);clear hb;obtain ⟨hcz12_0,hcz12_1,hcz12_2,hcz12_3⟩:=Hd.c4_ BK320.out;obtain ⟨hfz12_0,hfz12_1,hfz12_2,hfz12_3⟩:=Hd.f4_ BK320.out) | (go_at_call 99;(with_reducible refine (spec_IsSegment.calls a1_0 a1_1 a1_2 a1_3 t322 _ A8.out).mono ?_);rintro e w13 ⟨rfl,hb⟩;replace BK319:=ak (Hd.kb_ BK319 hb);replace BK320:=ak (Hd.kb_ BK320 hb);replace HB:=ak (below_step Hd.b_ hb);clear hb))
   go_meet
   case rel => exact ⟨_,(!t322),z8_,H',⟨z50_⟩,⟨z4_ BK319⟩,⟨z4_ BK320⟩,⟨Hd.b_⟩⟩
  replace c7:=Bool.eq_false_iff.mpr c7
  subst c7
  rw [if_neg (show ¬ (false = true) by decide)] at H
  have H':=ak H
  clear H
  have hnb14:=NB319_320.out
  have hnc14:=NB320_319.out
  obtain ⟨hcz15_0,hcz15_1,hcz15_2,hcz15_3⟩:=Hd.c4_ BK319.out
  obtain ⟨hfz15_0,hfz15_1,hfz15_2,hfz15_3⟩:=Hd.f4_ BK319.out
  go_wp2_with (first | ((with_reducible refine gate_callee (f:=99) rfl ?_);refine Hd.gl_ 6 Try.func99 #[.agg #[.int .i64 a0_0,.int .i64 a0_1,.int .i64 a0_2,.int .i64 a0_3]] ?_;(with_reducible refine (spec_IsSegment.calls a0_0 a0_1 a0_2 a0_3 false _ A6.out).mono ?_);rintro e w16 ⟨rfl,hb⟩;refine ⟨_,rfl,?_⟩;replace BK319:=ak (Hd.kb_ BK319 hb);replace BK320:=ak (Hd.kb_ BK320 hb);replace HB:=ak (below_step Hd.b_ hb);clear hb))
  go_meet
  case rel => exact ⟨_,(true),z8_,H',⟨z50_⟩,⟨z4_ BK319⟩,⟨z4_ BK320⟩,⟨Hd.b_⟩⟩
 case rest =>
  clear HC3
  try clear c1;try clear p2;try clear c7;try clear c9;try clear c14;try clear hcz10_0;try clear hcz10_1;try clear hcz10_2;try clear hcz10_3;try clear hcz12_0;try clear hcz12_1;try clear hcz12_2;try clear hcz12_3;try clear hcz15_0;try clear hcz15_1;try clear hcz15_2;try clear hcz15_3;try clear hfz10_0;try clear hfz10_1;try clear hfz10_2;try clear hfz10_3;try clear hfz12_0;try clear hfz12_1;try clear hfz12_2;try clear hfz12_3;try clear hfz15_0;try clear hfz15_1;try clear hfz15_2;try clear hfz15_3
  obtain ⟨kq,x12_2,rfl,HA,HJ2,BK319,BK320,HB⟩:=hcut
  cases kq with
  | zero => exact absurd HA.out (by simp [spec_HowMeet.j0])
  | succ kj2 =>
   have H:=HA.out
   clear HA
   simp only [spec_HowMeet.j0] at H
   by_cases c17 : x12_2 = true
   ·
    subst c17
    rw [if_pos rfl] at H
    obtain rfl:=Option.some.inj H
    go_wp2
    go_ret
    exact ⟨Hd.e_,Hd.b_⟩
   replace c17:=Bool.eq_false_iff.mpr c17
   subst c17
   rw [if_neg (show ¬ (false = true) by decide)] at H
   have HC18:=ak H
   clear H
   go_upto_region 3 with (fail)
   go_cut [78] (fun v78 wc => ∃ (kq : Nat) (x78_17 : Bool),v78 = .bool x78_17 ∧ Aside0 (spec_HowMeet.j1 kq x78_17 a0_0 a0_1 a0_2 a0_3 a1_0 a1_1 a1_2 a1_3 = some r) ∧ Aside0 (kq ≤ kj2) ∧ Aside0 (wc.heap[gb319]? = some (.cells #[.int .i64 a0_0,.int .i64 a0_1,.int .i64 a0_2,.int .i64 a0_3] 101 (0,0))) ∧ Aside0 (wc.heap[gb320]? = some (.cells #[.int .i64 a1_0,.int .i64 a1_1,.int .i64 a1_2,.int .i64 a1_3] 101 (0,0))) ∧ Aside0 (Below w.heap.size w wc))
   case first =>
    have H:=HC18.out
    clear HC18
    replace H:=Hd.bd_ H;obtain ⟨t323,A19,H⟩:=H
    replace H:=Hd.bd_ H;obtain ⟨t324,A20,H⟩:=H
    by_cases c21 : t323 < t324
    ·
     rw [if_pos c21] at H
     have c21b0:=decide_eq_true c21
     clear c21
     (first | rw [c21b0] | (simp only [i64_w,i32_w];rw [c21b0]) | skip)
     have H':=ak H
     clear H
     try go_wp2
     replace BK319:=ak (blk_drew BK319.out)
     replace BK320:=ak (blk_drew BK320.out)
     replace HB:=ak (below_drew1 HB.out)
     obtain ⟨s0_,s1_,s2_,s3_⟩:=Hd.HW.k4 (W0:=wc.drew) BK319
     obtain ⟨s4_,s5_,s6_,s7_⟩:=Hd.HW.k4 (W0:=wc.drew) BK320
     refine Hd.HW.region (by kernel_rfl) (by kernel_rfl) ?_
     try dsimp only [List.append]
     repeat (go_big_quiet_step ((first | (go_at_call 109;with_reducible exact Hd.HW.d (spec_Max.calls a0_0 a0_2 t323 _ A19.out)) | (go_at_call 104;with_reducible exact Hd.HW.d (spec_Min.calls a1_0 a1_2 t324 _ A20.out)))))
     refine wpQuiet_nil ?_
     intro _ hq_
     obtain ⟨q_,rfl⟩:=hq_
     clear s0_ s1_ s2_ s3_ s4_ s5_ s6_ s7_
     replace BK319:=ak (blk_below BK319.out q_.b)
     replace BK320:=ak (blk_below BK320.out q_.b)
     replace HB:=ak (below_step HB.out q_.b)
     generalize q_.W = w22 at BK319 BK320 HB ⊢
     try simp only [i64_w,i32_w]
     try go_wp2
     go_meet
     case rel => exact ⟨_,(true),z8_,H',⟨z77_⟩,⟨z4_ BK319⟩,⟨z4_ BK320⟩,⟨Hd.b_⟩⟩
    rw [if_neg c21] at H
    have c21b0:=decide_eq_false c21
    clear c21
    (first | rw [c21b0] | (simp only [i64_w,i32_w];rw [c21b0]) | skip)
    replace H:=Hd.bd_ H;obtain ⟨t325,A23,H⟩:=H
    replace H:=Hd.bd_ H;obtain ⟨t326,A24,H⟩:=H
    by_cases c25 : t325 < t326
    ·
     rw [if_pos c25] at H
     have c25b0:=decide_eq_true c25
     clear c25
     have H':=ak H
     clear H
     try go_wp2
     replace BK319:=ak (blk_drew BK319.out)
     replace BK320:=ak (blk_drew BK320.out)
     replace HB:=ak (below_drew1 HB.out)
     obtain ⟨s0_,s1_,s2_,s3_⟩:=Hd.HW.k4 (W0:=wc.drew) BK319
     obtain ⟨s4_,s5_,s6_,s7_⟩:=Hd.HW.k4 (W0:=wc.drew) BK320
     refine Hd.HW.region (by kernel_rfl) (by kernel_rfl) ?_
     try dsimp only [List.append]
     repeat (go_big_quiet_step ((first | (go_at_call 109;with_reducible exact Hd.HW.d (spec_Max.calls a0_0 a0_2 t323 _ A19.out)) | (go_at_call 104;with_reducible exact Hd.HW.d (spec_Min.calls a1_0 a1_2 t324 _ A20.out)) | (go_at_call 109;with_reducible exact Hd.HW.d (spec_Max.calls a1_0 a1_2 t325 _ A23.out)) | (go_at_call 104;with_reducible exact Hd.HW.d (spec_Min.calls a0_0 a0_2 t326 _ A24.out)))))
     refine wpQuiet_nil ?_
     intro _ hq_
     obtain ⟨q_,rfl⟩:=hq_
     clear s0_ s1_ s2_ s3_ s4_ s5_ s6_ s7_
     replace BK319:=ak (blk_below BK319.out q_.b)
     replace BK320:=ak (blk_below BK320.out q_.b)
     replace HB:=ak (below_step HB.out q_.b)
     generalize q_.W = w26 at BK319 BK320 HB ⊢
     try simp only [i64_w,i32_w]
     try go_wp2
     go_meet
     case rel => exact ⟨_,(true),z8_,H',⟨z77_⟩,⟨z4_ BK319⟩,⟨z4_ BK320⟩,⟨Hd.b_⟩⟩
    rw [if_neg c25] at H
    have c25b0:=decide_eq_false c25
    clear c25
    replace H:=Hd.bd_ H;obtain ⟨t327,A27,H⟩:=H
    replace H:=Hd.bd_ H;obtain ⟨t328,A28,H⟩:=H
    by_cases c29 : t327 < t328
    ·
     rw [if_pos c29] at H
     have c29b0:=decide_eq_true c29
     clear c29
     have H':=ak H
     clear H
     try go_wp2
     replace BK319:=ak (blk_drew BK319.out)
     replace BK320:=ak (blk_drew BK320.out)
     replace HB:=ak (below_drew1 HB.out)
     obtain ⟨s0_,s1_,s2_,s3_⟩:=Hd.HW.k4 (W0:=wc.drew) BK319
     obtain ⟨s4_,s5_,s6_,s7_⟩:=Hd.HW.k4 (W0:=wc.drew) BK320
     refine Hd.HW.region (by kernel_rfl) (by kernel_rfl) ?_
     try dsimp only [List.append]
     repeat (go_big_quiet_step ((first | (go_at_call 109;with_reducible exact Hd.HW.d (spec_Max.calls a0_0 a0_2 t323 _ A19.out)) | (go_at_call 104;with_reducible exact Hd.HW.d (spec_Min.calls a1_0 a1_2 t324 _ A20.out)) | (go_at_call 109;with_reducible exact Hd.HW.d (spec_Max.calls a1_0 a1_2 t325 _ A23.out)) | (go_at_call 104;with_reducible exact Hd.HW.d (spec_Min.calls a0_0 a0_2 t326 _ A24.out)) | (go_at_call 109;with_reducible exact Hd.HW.d (spec_Max.calls a0_1 a0_3 t327 _ A27.out)) | (go_at_call 104;with_reducible exact Hd.HW.d (spec_Min.calls a1_1 a1_3 t328 _ A28.out)))))
     refine wpQuiet_nil ?_
     intro _ hq_
     obtain ⟨q_,rfl⟩:=hq_
     clear s0_ s1_ s2_ s3_ s4_ s5_ s6_ s7_
     replace BK319:=ak (blk_below BK319.out q_.b)
     replace BK320:=ak (blk_below BK320.out q_.b)
     replace HB:=ak (below_step HB.out q_.b)
     generalize q_.W = w30 at BK319 BK320 HB ⊢
     try simp only [i64_w,i32_w]
     try go_wp2
     go_meet
     case rel => exact ⟨_,(true),z8_,H',⟨z77_⟩,⟨z4_ BK319⟩,⟨z4_ BK320⟩,⟨Hd.b_⟩⟩
    rw [if_neg c29] at H
    have c29b0:=decide_eq_false c29
    clear c29
    replace H:=Hd.bd_ H;obtain ⟨t329,A31,H⟩:=H
    replace H:=Hd.bd_ H;obtain ⟨t330,A32,H⟩:=H
    have H':=ak H
    clear H
    try go_wp2
    replace BK319:=ak (blk_drew BK319.out)
    replace BK320:=ak (blk_drew BK320.out)
    replace HB:=ak (below_drew1 HB.out)
    obtain ⟨s0_,s1_,s2_,s3_⟩:=Hd.HW.k4 (W0:=wc.drew) BK319
    obtain ⟨s4_,s5_,s6_,s7_⟩:=Hd.HW.k4 (W0:=wc.drew) BK320
    refine Hd.HW.region (by kernel_rfl) (by kernel_rfl) ?_
    try dsimp only [List.append]
    repeat (go_big_quiet_step ((first | (go_at_call 109;with_reducible exact Hd.HW.d (spec_Max.calls a0_0 a0_2 t323 _ A19.out)) | (go_at_call 104;with_reducible exact Hd.HW.d (spec_Min.calls a1_0 a1_2 t324 _ A20.out)) | (go_at_call 109;with_reducible exact Hd.HW.d (spec_Max.calls a1_0 a1_2 t325 _ A23.out)) | (go_at_call 104;with_reducible exact Hd.HW.d (spec_Min.calls a0_0 a0_2 t326 _ A24.out)) | (go_at_call 109;with_reducible exact Hd.HW.d (spec_Max.calls a0_1 a0_3 t327 _ A27.out)) | (go_at_call 104;with_reducible exact Hd.HW.d (spec_Min.calls a1_1 a1_3 t328 _ A28.out)) | (go_at_call 109;with_reducible exact Hd.HW.d (spec_Max.calls a1_1 a1_3 t329 _ A31.out)) | (go_at_call 104;with_reducible exact Hd.HW.d (spec_Min.calls a0_1 a0_3 t330 _ A32.out)))))
    refine wpQuiet_nil ?_
    intro _ hq_
    obtain ⟨q_,rfl⟩:=hq_
    clear s0_ s1_ s2_ s3_ s4_ s5_ s6_ s7_
    replace BK319:=ak (blk_below BK319.out q_.b)
    replace BK320:=ak (blk_below BK320.out q_.b)
    replace HB:=ak (below_step HB.out q_.b)
    generalize q_.W = w33 at BK319 BK320 HB ⊢
    try simp only [i64_w,i32_w]
    try go_wp2
    go_meet
    case rel => exact ⟨_,(decide (t329 < t330)),z8_,H',⟨z77_⟩,⟨z4_ BK319⟩,⟨z4_ BK320⟩,⟨Hd.b_⟩⟩
   case rest =>
    clear HC18
    try clear c1;try clear c2;try clear p2;try clear c10;try clear c29;try clear c29b0
    obtain ⟨kq,x78_17,rfl,HA,HJ17,BK319,BK320,HB⟩:=hcut
    cases kq with
    | zero => exact absurd HA.out (by simp [spec_HowMeet.j1])
    | succ kj17 =>
     have H:=HA.out
     clear HA
     simp only [spec_HowMeet.j1] at H
     by_cases c34 : x78_17 = true
     ·
      subst c34
      rw [if_pos rfl] at H
      obtain rfl:=Option.some.inj H
      go_wp2
      go_ret
      exact ⟨Hd.e_,Hd.b_⟩
     replace c34:=Bool.eq_false_iff.mpr c34
     subst c34
     rw [if_neg (show ¬ (false = true) by decide)] at H
     replace H:=Hd.bd_ H;obtain ⟨t331,A35,H⟩:=H
     by_cases c36 : t331 = 0;rotate_left
     ·
      rw [if_neg c36] at H
      have c36b0:=beq_eq_false_iff_ne.mpr c36
      have c36b1:=bne_iff_ne.mpr c36
      by_cases c68 : t331 = 1;rotate_left
      ·
       rw [if_neg c68] at H
       have c68b0:=beq_eq_false_iff_ne.mpr c68
       have c68b1:=bne_iff_ne.mpr c68
       obtain rfl:=Option.some.inj H
       have hnb73:=NB319_320.out
       have hnc73:=NB320_319.out
       obtain ⟨hcz74_0,hcz74_1,hcz74_2,hcz74_3⟩:=Hd.c4_ BK319.out
       obtain ⟨hfz74_0,hfz74_1,hfz74_2,hfz74_3⟩:=Hd.f4_ BK319.out
       obtain ⟨hcz75_0,hcz75_1,hcz75_2,hcz75_3⟩:=Hd.c4_ BK320.out
       obtain ⟨hfz75_0,hfz75_1,hfz75_2,hfz75_3⟩:=Hd.f4_ BK320.out
       go_wp2_with (first | ((with_reducible refine gate_callee (f:=110) rfl ?_);refine Hd.gl_ 81 Try.func110 #[.agg #[.int .i64 a0_0,.int .i64 a0_1,.int .i64 a0_2,.int .i64 a0_3],.agg #[.int .i64 a1_0,.int .i64 a1_1,.int .i64 a1_2,.int .i64 a1_3]] ?_;(with_reducible refine (spec_l5Shared.calls kj17 a0_0 a0_1 a0_2 a0_3 a1_0 a1_1 a1_2 a1_3 t331 _ A35.out).mono ?_);rintro e w76 ⟨rfl,hb⟩;refine ⟨_,rfl,?_⟩;replace BK319:=ak (Hd.kb_ BK319 hb);replace BK320:=ak (Hd.kb_ BK320 hb);replace HB:=ak (below_step Hd.b_ hb);clear hb))
       go_ret
       exact ⟨Hd.e_,Hd.b_⟩
      rw [if_pos c68] at H
      have c68b0:=beq_iff_eq.mpr c68
      have c68b1:=bne_eq_false_iff_eq.mpr c68
      clear c68
      obtain rfl:=Option.some.inj H
      have hnb69:=NB319_320.out
      have hnc69:=NB320_319.out
      obtain ⟨hcz70_0,hcz70_1,hcz70_2,hcz70_3⟩:=Hd.c4_ BK319.out
      obtain ⟨hfz70_0,hfz70_1,hfz70_2,hfz70_3⟩:=Hd.f4_ BK319.out
      obtain ⟨hcz71_0,hcz71_1,hcz71_2,hcz71_3⟩:=Hd.c4_ BK320.out
      obtain ⟨hfz71_0,hfz71_1,hfz71_2,hfz71_3⟩:=Hd.f4_ BK320.out
      go_wp2_with (first | ((with_reducible refine gate_callee (f:=110) rfl ?_);refine Hd.gl_ 81 Try.func110 #[.agg #[.int .i64 a0_0,.int .i64 a0_1,.int .i64 a0_2,.int .i64 a0_3],.agg #[.int .i64 a1_0,.int .i64 a1_1,.int .i64 a1_2,.int .i64 a1_3]] ?_;(with_reducible refine (spec_l5Shared.calls kj17 a0_0 a0_1 a0_2 a0_3 a1_0 a1_1 a1_2 a1_3 t331 _ A35.out).mono ?_);rintro e w72 ⟨rfl,hb⟩;refine ⟨_,rfl,?_⟩;replace BK319:=ak (Hd.kb_ BK319 hb);replace BK320:=ak (Hd.kb_ BK320 hb);replace HB:=ak (below_step Hd.b_ hb);clear hb))
      go_ret
      exact ⟨Hd.e_,Hd.b_⟩
     rw [if_pos c36] at H
     have c36b0:=beq_iff_eq.mpr c36
     have c36b1:=bne_eq_false_iff_eq.mpr c36
     clear c36
     replace H:=Hd.bd_ H;obtain ⟨t332,A37,H⟩:=H
     replace H:=Hd.bd_ H;obtain ⟨t333,A38,H⟩:=H
     by_cases c39 : (wrap64 (t332 * t333)) < 0;rotate_left
     ·
      rw [if_neg c39] at H
      have c39b0:=decide_eq_false c39
      clear c39
      obtain rfl:=Option.some.inj H
      have hnb61:=NB319_320.out
      have hnc61:=NB320_319.out
      obtain ⟨hcz62_0,hcz62_1,hcz62_2,hcz62_3⟩:=Hd.c4_ BK319.out
      obtain ⟨hfz62_0,hfz62_1,hfz62_2,hfz62_3⟩:=Hd.f4_ BK319.out
      obtain ⟨hcz63_0,hcz63_1,hcz63_2,hcz63_3⟩:=Hd.c4_ BK320.out
      obtain ⟨hfz63_0,hfz63_1,hfz63_2,hfz63_3⟩:=Hd.f4_ BK320.out
      try go_wp2_with (first | ((with_reducible refine gate_callee (f:=110) rfl ?_);refine Hd.gl_ 81 Try.func110 #[.agg #[.int .i64 a0_0,.int .i64 a0_1,.int .i64 a0_2,.int .i64 a0_3],.agg #[.int .i64 a1_0,.int .i64 a1_1,.int .i64 a1_2,.int .i64 a1_3]] ?_;(with_reducible refine (spec_l5Shared.calls kj17 a0_0 a0_1 a0_2 a0_3 a1_0 a1_1 a1_2 a1_3 t331 _ A35.out).mono ?_);rintro e w64 ⟨rfl,hb⟩;refine ⟨_,rfl,?_⟩;replace BK319:=ak (Hd.kb_ BK319 hb);replace BK320:=ak (Hd.kb_ BK320 hb);replace HB:=ak (below_step Hd.b_ hb);clear hb))
      replace BK319:=ak (blk_drew BK319.out)
      replace BK320:=ak (blk_drew BK320.out)
      replace HB:=ak (below_drew1 HB.out)
      obtain ⟨s0_,s1_,s2_,s3_⟩:=Hd.HW.k4 (W0:=w64.drew) BK319
      obtain ⟨s4_,s5_,s6_,s7_⟩:=Hd.HW.k4 (W0:=w64.drew) BK320
      refine Hd.HW.region (by kernel_rfl) (by kernel_rfl) ?_
      try dsimp only [List.append]
      repeat (go_big_quiet_step ((first | (go_at_call 111;with_reducible exact Hd.HW.c (spec_SideOf.calls kj17 a0_0 a0_1 a0_2 a0_3 a1_0 a1_1 t332 _ A37.out)) | (go_at_call 111;with_reducible exact Hd.HW.c (spec_SideOf.calls kj17 a0_0 a0_1 a0_2 a0_3 a1_2 a1_3 t333 _ A38.out)))))
      refine wpQuiet_nil ?_
      intro _ hq_
      obtain ⟨q_,rfl⟩:=hq_
      clear s0_ s1_ s2_ s3_ s4_ s5_ s6_ s7_
      replace BK319:=ak (blk_below BK319.out q_.b)
      replace BK320:=ak (blk_below BK320.out q_.b)
      replace HB:=ak (below_step HB.out q_.b)
      generalize q_.W = w67 at BK319 BK320 HB ⊢
      try simp only [i64_w,i32_w]
      try go_wp2
      go_ret
      exact ⟨Hd.e_,Hd.b_⟩
     rw [if_pos c39] at H
     have c39b0:=decide_eq_true c39
     clear c39
     replace H:=Hd.bd_ H;obtain ⟨t334,A40,H⟩:=H
     replace H:=Hd.bd_ H;obtain ⟨t335,A41,H⟩:=H
     by_cases c42 : (wrap64 (t334 * t335)) < 0
     ·
      rw [if_pos c42] at H
      have c42b0:=decide_eq_true c42
      clear c42
      obtain rfl:=Option.some.inj H
      have hnb43:=NB319_320.out
      have hnc43:=NB320_319.out
      obtain ⟨hcz44_0,hcz44_1,hcz44_2,hcz44_3⟩:=Hd.c4_ BK319.out
      obtain ⟨hfz44_0,hfz44_1,hfz44_2,hfz44_3⟩:=Hd.f4_ BK319.out
      obtain ⟨hcz45_0,hcz45_1,hcz45_2,hcz45_3⟩:=Hd.c4_ BK320.out
      obtain ⟨hfz45_0,hfz45_1,hfz45_2,hfz45_3⟩:=Hd.f4_ BK320.out
      try go_wp2_with (first | ((with_reducible refine gate_callee (f:=110) rfl ?_);refine Hd.gl_ 81 Try.func110 #[.agg #[.int .i64 a0_0,.int .i64 a0_1,.int .i64 a0_2,.int .i64 a0_3],.agg #[.int .i64 a1_0,.int .i64 a1_1,.int .i64 a1_2,.int .i64 a1_3]] ?_;(with_reducible refine (spec_l5Shared.calls kj17 a0_0 a0_1 a0_2 a0_3 a1_0 a1_1 a1_2 a1_3 t331 _ A35.out).mono ?_);rintro e w46 ⟨rfl,hb⟩;refine ⟨_,rfl,?_⟩;replace BK319:=ak (Hd.kb_ BK319 hb);replace BK320:=ak (Hd.kb_ BK320 hb);replace HB:=ak (below_step Hd.b_ hb);clear hb))
      replace BK319:=ak (blk_drew BK319.out)
      replace BK320:=ak (blk_drew BK320.out)
      replace HB:=ak (below_drew1 HB.out)
      obtain ⟨s0_,s1_,s2_,s3_⟩:=Hd.HW.k4 (W0:=w46.drew) BK319
      obtain ⟨s4_,s5_,s6_,s7_⟩:=Hd.HW.k4 (W0:=w46.drew) BK320
      refine Hd.HW.region (by kernel_rfl) (by kernel_rfl) ?_
      try dsimp only [List.append]
      repeat (go_big_quiet_step ((first | (go_at_call 111;with_reducible exact Hd.HW.c (spec_SideOf.calls kj17 a0_0 a0_1 a0_2 a0_3 a1_0 a1_1 t332 _ A37.out)) | (go_at_call 111;with_reducible exact Hd.HW.c (spec_SideOf.calls kj17 a0_0 a0_1 a0_2 a0_3 a1_2 a1_3 t333 _ A38.out)) | (go_at_call 111;with_reducible exact Hd.HW.c (spec_SideOf.calls kj17 a1_0 a1_1 a1_2 a1_3 a0_0 a0_1 t334 _ A40.out)) | (go_at_call 111;with_reducible exact Hd.HW.c (spec_SideOf.calls kj17 a1_0 a1_1 a1_2 a1_3 a0_2 a0_3 t335 _ A41.out)))))
      refine wpQuiet_nil ?_
      intro _ hq_
      obtain ⟨q_,rfl⟩:=hq_
      clear s0_ s1_ s2_ s3_ s4_ s5_ s6_ s7_
      replace BK319:=ak (blk_below BK319.out q_.b)
      replace BK320:=ak (blk_below BK320.out q_.b)
      replace HB:=ak (below_step HB.out q_.b)
      generalize q_.W = w51 at BK319 BK320 HB ⊢
      try simp only [i64_w,i32_w]
      try go_wp2
      go_ret
      exact ⟨Hd.e_,Hd.b_⟩
     rw [if_neg c42] at H
     have c42b0:=decide_eq_false c42
     clear c42
     obtain rfl:=Option.some.inj H
     have hnb52:=NB319_320.out
     have hnc52:=NB320_319.out
     obtain ⟨hcz53_0,hcz53_1,hcz53_2,hcz53_3⟩:=Hd.c4_ BK319.out
     obtain ⟨hfz53_0,hfz53_1,hfz53_2,hfz53_3⟩:=Hd.f4_ BK319.out
     obtain ⟨hcz54_0,hcz54_1,hcz54_2,hcz54_3⟩:=Hd.c4_ BK320.out
     obtain ⟨hfz54_0,hfz54_1,hfz54_2,hfz54_3⟩:=Hd.f4_ BK320.out
     try go_wp2_with (first | ((with_reducible refine gate_callee (f:=110) rfl ?_);refine Hd.gl_ 81 Try.func110 #[.agg #[.int .i64 a0_0,.int .i64 a0_1,.int .i64 a0_2,.int .i64 a0_3],.agg #[.int .i64 a1_0,.int .i64 a1_1,.int .i64 a1_2,.int .i64 a1_3]] ?_;(with_reducible refine (spec_l5Shared.calls kj17 a0_0 a0_1 a0_2 a0_3 a1_0 a1_1 a1_2 a1_3 t331 _ A35.out).mono ?_);rintro e w55 ⟨rfl,hb⟩;refine ⟨_,rfl,?_⟩;replace BK319:=ak (Hd.kb_ BK319 hb);replace BK320:=ak (Hd.kb_ BK320 hb);replace HB:=ak (below_step Hd.b_ hb);clear hb))
     replace BK319:=ak (blk_drew BK319.out)
     replace BK320:=ak (blk_drew BK320.out)
     replace HB:=ak (below_drew1 HB.out)
     obtain ⟨s0_,s1_,s2_,s3_⟩:=Hd.HW.k4 (W0:=w55.drew) BK319
     obtain ⟨s4_,s5_,s6_,s7_⟩:=Hd.HW.k4 (W0:=w55.drew) BK320
     refine Hd.HW.region (by kernel_rfl) (by kernel_rfl) ?_
     try dsimp only [List.append]
     repeat (go_big_quiet_step ((first | (go_at_call 111;with_reducible exact Hd.HW.c (spec_SideOf.calls kj17 a0_0 a0_1 a0_2 a0_3 a1_0 a1_1 t332 _ A37.out)) | (go_at_call 111;with_reducible exact Hd.HW.c (spec_SideOf.calls kj17 a0_0 a0_1 a0_2 a0_3 a1_2 a1_3 t333 _ A38.out)) | (go_at_call 111;with_reducible exact Hd.HW.c (spec_SideOf.calls kj17 a1_0 a1_1 a1_2 a1_3 a0_0 a0_1 t334 _ A40.out)) | (go_at_call 111;with_reducible exact Hd.HW.c (spec_SideOf.calls kj17 a1_0 a1_1 a1_2 a1_3 a0_2 a0_3 t335 _ A41.out)))))
     refine wpQuiet_nil ?_
     intro _ hq_
     obtain ⟨q_,rfl⟩:=hq_
     clear s0_ s1_ s2_ s3_ s4_ s5_ s6_ s7_
     replace BK319:=ak (blk_below BK319.out q_.b)
     replace BK320:=ak (blk_below BK320.out q_.b)
     replace HB:=ak (below_step HB.out q_.b)
     generalize q_.W = w60 at BK319 BK320 HB ⊢
     try simp only [i64_w,i32_w]
     try go_wp2
     go_ret
     exact ⟨Hd.e_,Hd.b_⟩
mutual
def spec_IsSimple.l0 : Nat → List (S75) → List (S101) → Int → Option (Bool)
 | 0,_,_,_ => none
 | k + 1,x0,x3,x4 => if x4 < (x3.length : Int) then (spec_IsSimple.l1 k x0 x3 x4 0) else ((spec_IsLine.f k x0).bind fun t339 => (some t339))
def spec_IsSimple.l1 : Nat → List (S75) → List (S101) → Int → Int → Option (Bool)
 | 0,_,_,_,_ => none
 | k + 1,x0,x3,x4,x5 => if x5 < x4 then (if (wrap64 (x5 + 1)) = x4 then (if 0 ≤ x4 then (if x4 < (x3.length : Int) then (if 0 ≤ x5 then (if x5 < (x3.length : Int) then ((spec_HowMeet.f k ((rd_T101 x3 x4).f0.f0) ((rd_T101 x3 x4).f0.f1) ((rd_T101 x3 x4).f1.f0) ((rd_T101 x3 x4).f1.f1) ((rd_T101 x3 x5).f0.f0) ((rd_T101 x3 x5).f0.f1) ((rd_T101 x3 x5).f1.f0) ((rd_T101 x3 x5).f1.f1)).bind fun t342 => (if t342 = 1 then (spec_IsSimple.l1 k x0 x3 x4 (wrap64 (x5 + 1))) else (some false))) else (none)) else (none)) else (none)) else (none)) else (if 0 ≤ x4 then (if x4 < (x3.length : Int) then (if 0 ≤ x5 then (if x5 < (x3.length : Int) then ((spec_HowMeet.f k ((rd_T101 x3 x4).f0.f0) ((rd_T101 x3 x4).f0.f1) ((rd_T101 x3 x4).f1.f0) ((rd_T101 x3 x4).f1.f1) ((rd_T101 x3 x5).f0.f0) ((rd_T101 x3 x5).f0.f1) ((rd_T101 x3 x5).f1.f0) ((rd_T101 x3 x5).f1.f1)).bind fun t345 => (if t345 = 0 then (spec_IsSimple.l1 k x0 x3 x4 (wrap64 (x5 + 1))) else (some false))) else (none)) else (none)) else (none)) else (none))) else (spec_IsSimple.l0 k x0 x3 (wrap64 (x4 + 1)))
end
def spec_IsSimple.f (k : Nat) (l0 : List (S75)) : Option (Bool):=(spec_SegmentsOf.f k l0).bind fun t336 => (spec_IsSimple.l0 k l0 t336 0)
theorem spec_IsSimple.calls (k : Nat) (A0 : Option Addr) (c0 : Nat) (l0 : List (S75)) (r : Bool) (w : World) (hr0 : Kd.C k75 w A0 l0.length l0) (hc0 : l0.length ≤ c0) (h : spec_IsSimple.f k l0 = some r) :
  Calls Try.prog 82 #[.slice A0 l0.length c0] w fun e w' => e = .returned (.bool r) ∧ Below w.heap.size w w':=by
 have hu101:=Try.underlying101
 have HR0:=ak hr0
 have HC0:=ak hc0
 clear hr0 hc0
 have HB:=ak (Below.refl w.heap.size w)
 have H:=h;clear h;unfold spec_IsSimple.f at H
 replace H:=Hd.bd_ H;obtain ⟨t336,A2,H⟩:=H
 have H':=ak H
 clear H
 go_enter Try.func82,Try.ntmps82
 go_wp2_with (first | ((with_reducible refine gate_callee (f:=95) rfl ?_);refine Hd.gl_ 8 Try.func95 #[.slice A0 l0.length c0] ?_;(with_reducible refine (spec_SegmentsOf.calls k _ _ l0 t336 _ ?side1 ?side2 A2.out).mono ?_);(case side1 => exact z27_ HR0);(case side2 => exact HC0.out);rintro e w3 ⟨v337,rfl,ho0,hb⟩;refine ⟨_,rfl,?_⟩;have HO338:=z78_;replace HB:=ak (below_step Hd.b_ hb);clear hb ho0))
 go_loopg [4] k (fun kq v4 w' => ∃ (x4_1 : Int),v4 = .int .i64 x4_1 ∧ Aside0 (spec_IsSimple.l0 kq l0 t336 x4_1 = some r) ∧ Aside0 (kq ≤ k) ∧ Aside0 (Kd.R k101 101 w' w.heap.size (fun _ => True) v337 t336) ∧ Aside0 (Below w.heap.size w w'))
 case atStart => exact ⟨(0),z8_,H',⟨Nat.le_refl _⟩,⟨z6_ HO338⟩,⟨Hd.b_⟩⟩
 case round =>
  clear H'
  try clear p2
  obtain ⟨x4_1,rfl,HA,HK1,HO_3,HB⟩:=hrel
  cases gk with
  | zero => exact absurd HA.out (by simp [spec_IsSimple.l0])
  | succ k1 =>
   have H:=HA.out
   clear HA
   simp only [spec_IsSimple.l0] at H
   by_cases c4 : x4_1 < (t336.length : Int);rotate_left
   ·
    rw [if_neg c4] at H
    have c4b0:=decide_eq_false c4
    clear c4
    replace H:=Hd.bd_ H;obtain ⟨t339,A28,H⟩:=H
    obtain rfl:=Option.some.inj H
    obtain ⟨Ao29,co29,eo29⟩:=Kd.R_slice HO_3.out
    subst eo29
    go_wp2_with (first | ((with_reducible refine gate_callee (f:=97) rfl ?_);refine Hd.gl_ 36 Try.func97 #[.slice A0 l0.length c0] ?_;(with_reducible refine (spec_IsLine.calls k1 _ _ l0 t339 _ ?side1 ?side2 A28.out).mono ?_);(case side1 => exact z14_ HR0);(case side2 => exact HC0.out);rintro e w30 ⟨rfl,hb⟩;refine ⟨_,rfl,?_⟩;replace HO_3:=z87_;replace HB:=ak (below_step Hd.b_ hb);clear hb))
    go_ret
    exact ⟨Hd.e_,Hd.b_⟩
   rw [if_pos c4] at H
   have c4b0:=decide_eq_true c4
   clear c4
   have H':=ak H
   clear H
   obtain ⟨Ao5,co5,eo5⟩:=Kd.R_slice HO_3.out
   subst eo5
   go_wp2
   go_loopg [5] k1 (fun kq v5 w' => ∃ (x5_2 : Int),v5 = .int .i64 x5_2 ∧ Aside0 (spec_IsSimple.l1 kq l0 t336 x4_1 x5_2 = some r) ∧ Aside0 (kq ≤ k1) ∧ Aside0 (Kd.R k101 101 w' w.heap.size (fun _ => True) (.slice Ao5 t336.length co5) t336) ∧ Aside0 (Below w.heap.size w w'))
   case atStart => exact ⟨(0),z8_,H',⟨Nat.le_refl _⟩,⟨z6_ HO_3⟩,⟨Hd.b_⟩⟩
   case round =>
    clear H'
    try clear p2;try clear c4;try clear c4b0;try clear p2
    obtain ⟨x5_2,rfl,HA,HK2,HO_3,HB⟩:=hrel
    cases gk with
    | zero => exact absurd HA.out (by simp [spec_IsSimple.l1])
    | succ k2 =>
     have H:=HA.out
     clear HA
     simp only [spec_IsSimple.l1] at H
     by_cases c6 : x5_2 < x4_1;rotate_left
     ·
      rw [if_neg c6] at H
      have c6b0:=decide_eq_false c6
      clear c6
      have H':=ak H
      clear H
      go_wp2
      go_roundg k2
      case measure => have:=HK1.out;have:=HK2.out;omega
      case rel => exact ⟨(wrap64 (x4_1 + 1)),z8_,H',⟨z62_⟩,⟨z6_ HO_3⟩,⟨Hd.b_⟩⟩
     rw [if_pos c6] at H
     have c6b0:=decide_eq_true c6
     clear c6
     by_cases c7 : (wrap64 (x5_2 + 1)) = x4_1;rotate_left
     ·
      rw [if_neg c7] at H
      have c7b0:=beq_eq_false_iff_ne.mpr c7
      have c7b1:=bne_iff_ne.mpr c7
      by_cases c18 : 0 ≤ x4_1;rotate_left
      ·
       rw [if_neg c18] at H
       exact absurd H (by simp)
      rw [if_pos c18] at H
      have c18b0:=decide_eq_true c18
      clear c18
      by_cases c19 : x4_1 < (t336.length : Int);rotate_left
      ·
       rw [if_neg c19] at H
       exact absurd H (by simp)
      rw [if_pos c19] at H
      have c19b0:=decide_eq_true c19
      clear c19
      by_cases c20 : 0 ≤ x5_2;rotate_left
      ·
       rw [if_neg c20] at H
       exact absurd H (by simp)
      rw [if_pos c20] at H
      have c20b0:=decide_eq_true c20
      clear c20
      by_cases c21 : x5_2 < (t336.length : Int);rotate_left
      ·
       rw [if_neg c21] at H
       exact absurd H (by simp)
      rw [if_pos c21] at H
      have c21b0:=decide_eq_true c21
      clear c21
      replace H:=Hd.bd_ H;obtain ⟨t345,A22,H⟩:=H
      by_cases c23 : t345 = 0;rotate_left
      ·
       rw [if_neg c23] at H
       have c23b0:=beq_eq_false_iff_ne.mpr c23
       have c23b1:=bne_iff_ne.mpr c23
       obtain rfl:=Option.some.inj H
       try go_wp2
       replace HO_3:=ak (Kd.R_drew HO_3.out)
       replace HB:=ak (below_drew1 HB.out)
       have p343 : 0 ≤ (x4_1 : Int):=of_decide_eq_true Hd.a_
       have q343 : x4_1 < (t336.length : Int):=of_decide_eq_true Hd.a_
       obtain ⟨ad343,e343,hx343_0,hx343_1,hx343_2,hx343_3⟩:=at_T101 (Kd.R_reads' HO_3.out).2.2 x4_1 p343 q343
       cases e343
       replace p343:=eq_true p343
       replace q343:=eq_true q343
       have p344 : 0 ≤ (x5_2 : Int):=of_decide_eq_true Hd.a_
       have q344 : x5_2 < (t336.length : Int):=of_decide_eq_true Hd.a_
       obtain ⟨ad344,e344,hx344_0,hx344_1,hx344_2,hx344_3⟩:=at_T101 (Kd.R_reads' HO_3.out).2.2 x5_2 p344 q344
       obtain rfl : ad343 = ad344:=(by injection e344)
       replace p344:=eq_true p344
       replace q344:=eq_true q344
       have s0_:=Hd.HW.x (W0:=wr.drew) hx343_0
       have s1_:=Hd.HW.x (W0:=wr.drew) hx343_1
       have s2_:=Hd.HW.x (W0:=wr.drew) hx343_2
       have s3_:=Hd.HW.x (W0:=wr.drew) hx343_3
       have s4_:=Hd.HW.x (W0:=wr.drew) hx344_0
       have s5_:=Hd.HW.x (W0:=wr.drew) hx344_1
       have s6_:=Hd.HW.x (W0:=wr.drew) hx344_2
       have s7_:=Hd.HW.x (W0:=wr.drew) hx344_3
       refine Hd.HW.region (by kernel_rfl) (by kernel_rfl) ?_
       repeat (go_big_quiet_step ((first | (go_at_call 96;with_reducible exact Hd.HW.c (spec_HowMeet.calls k2 ((rd_T101 t336 x4_1).f0.f0) ((rd_T101 t336 x4_1).f0.f1) ((rd_T101 t336 x4_1).f1.f0) ((rd_T101 t336 x4_1).f1.f1) ((rd_T101 t336 x5_2).f0.f0) ((rd_T101 t336 x5_2).f0.f1) ((rd_T101 t336 x5_2).f1.f0) ((rd_T101 t336 x5_2).f1.f1) t345 _ A22.out)))))
       refine wpQuiet_nil ?_
       intro _ hq_
       obtain ⟨q_,rfl⟩:=hq_
       clear s0_ s1_ s2_ s3_ s4_ s5_ s6_ s7_
       replace HO_3:=ak (Kd.R_below HO_3.out q_.b)
       replace HB:=ak (below_step HB.out q_.b)
       replace hx343_0:=q_.cell hx343_0
       replace hx343_1:=q_.cell hx343_1
       replace hx343_2:=q_.cell hx343_2
       replace hx343_3:=q_.cell hx343_3
       replace hx344_0:=q_.cell hx344_0
       replace hx344_1:=q_.cell hx344_1
       replace hx344_2:=q_.cell hx344_2
       replace hx344_3:=q_.cell hx344_3
       generalize q_.W = w27 at HO_3 HB hx343_0 hx343_1 hx343_2 hx343_3 hx344_0 hx344_1 hx344_2 hx344_3 ⊢
       try simp only [i64_w,i32_w]
       try go_wp2
       go_ret
       exact ⟨Hd.e_,Hd.b_⟩
      rw [if_pos c23] at H
      have c23b0:=beq_iff_eq.mpr c23
      have c23b1:=bne_eq_false_iff_eq.mpr c23
      clear c23
      have H':=ak H
      clear H
      try go_wp2
      replace HO_3:=ak (Kd.R_drew HO_3.out)
      replace HB:=ak (below_drew1 HB.out)
      have p343 : 0 ≤ (x4_1 : Int):=of_decide_eq_true Hd.a_
      have q343 : x4_1 < (t336.length : Int):=of_decide_eq_true Hd.a_
      obtain ⟨ad343,e343,hx343_0,hx343_1,hx343_2,hx343_3⟩:=at_T101 (Kd.R_reads' HO_3.out).2.2 x4_1 p343 q343
      cases e343
      replace p343:=eq_true p343
      replace q343:=eq_true q343
      have p344 : 0 ≤ (x5_2 : Int):=of_decide_eq_true Hd.a_
      have q344 : x5_2 < (t336.length : Int):=of_decide_eq_true Hd.a_
      obtain ⟨ad344,e344,hx344_0,hx344_1,hx344_2,hx344_3⟩:=at_T101 (Kd.R_reads' HO_3.out).2.2 x5_2 p344 q344
      obtain rfl : ad343 = ad344:=(by injection e344)
      replace p344:=eq_true p344
      replace q344:=eq_true q344
      have s0_:=Hd.HW.x (W0:=wr.drew) hx343_0
      have s1_:=Hd.HW.x (W0:=wr.drew) hx343_1
      have s2_:=Hd.HW.x (W0:=wr.drew) hx343_2
      have s3_:=Hd.HW.x (W0:=wr.drew) hx343_3
      have s4_:=Hd.HW.x (W0:=wr.drew) hx344_0
      have s5_:=Hd.HW.x (W0:=wr.drew) hx344_1
      have s6_:=Hd.HW.x (W0:=wr.drew) hx344_2
      have s7_:=Hd.HW.x (W0:=wr.drew) hx344_3
      refine Hd.HW.region (by kernel_rfl) (by kernel_rfl) ?_
      repeat (go_big_quiet_step ((first | (go_at_call 96;with_reducible exact Hd.HW.c (spec_HowMeet.calls k2 ((rd_T101 t336 x4_1).f0.f0) ((rd_T101 t336 x4_1).f0.f1) ((rd_T101 t336 x4_1).f1.f0) ((rd_T101 t336 x4_1).f1.f1) ((rd_T101 t336 x5_2).f0.f0) ((rd_T101 t336 x5_2).f0.f1) ((rd_T101 t336 x5_2).f1.f0) ((rd_T101 t336 x5_2).f1.f1) t345 _ A22.out)))))
      refine wpQuiet_nil ?_
      intro _ hq_
      obtain ⟨q_,rfl⟩:=hq_
      clear s0_ s1_ s2_ s3_ s4_ s5_ s6_ s7_
      replace HO_3:=ak (Kd.R_below HO_3.out q_.b)
      replace HB:=ak (below_step HB.out q_.b)
      replace hx343_0:=q_.cell hx343_0
      replace hx343_1:=q_.cell hx343_1
      replace hx343_2:=q_.cell hx343_2
      replace hx343_3:=q_.cell hx343_3
      replace hx344_0:=q_.cell hx344_0
      replace hx344_1:=q_.cell hx344_1
      replace hx344_2:=q_.cell hx344_2
      replace hx344_3:=q_.cell hx344_3
      generalize q_.W = w25 at HO_3 HB hx343_0 hx343_1 hx343_2 hx343_3 hx344_0 hx344_1 hx344_2 hx344_3 ⊢
      try simp only [i64_w,i32_w]
      try go_wp2
      go_roundg k2
      case measure => have:=HK1.out;have:=HK2.out;omega
      case rel => exact ⟨(wrap64 (x5_2 + 1)),z8_,H',⟨z62_⟩,⟨z6_ HO_3⟩,⟨Hd.b_⟩⟩
     rw [if_pos c7] at H
     have c7b0:=beq_iff_eq.mpr c7
     have c7b1:=bne_eq_false_iff_eq.mpr c7
     clear c7
     by_cases c8 : 0 ≤ x4_1;rotate_left
     ·
      rw [if_neg c8] at H
      exact absurd H (by simp)
     rw [if_pos c8] at H
     have c8b0:=decide_eq_true c8
     clear c8
     by_cases c9 : x4_1 < (t336.length : Int);rotate_left
     ·
      rw [if_neg c9] at H
      exact absurd H (by simp)
     rw [if_pos c9] at H
     have c9b0:=decide_eq_true c9
     clear c9
     by_cases c10 : 0 ≤ x5_2;rotate_left
     ·
      rw [if_neg c10] at H
      exact absurd H (by simp)
     rw [if_pos c10] at H
     have c10b0:=decide_eq_true c10
     clear c10
     by_cases c11 : x5_2 < (t336.length : Int);rotate_left
     ·
      rw [if_neg c11] at H
      exact absurd H (by simp)
     rw [if_pos c11] at H
     have c11b0:=decide_eq_true c11
     clear c11
     replace H:=Hd.bd_ H;obtain ⟨t342,A12,H⟩:=H
     by_cases c13 : t342 = 1;rotate_left
     ·
      rw [if_neg c13] at H
      have c13b0:=beq_eq_false_iff_ne.mpr c13
      have c13b1:=bne_iff_ne.mpr c13
      obtain rfl:=Option.some.inj H
      try go_wp2
      replace HO_3:=ak (Kd.R_drew HO_3.out)
      replace HB:=ak (below_drew1 HB.out)
      have p340 : 0 ≤ (x4_1 : Int):=of_decide_eq_true Hd.a_
      have q340 : x4_1 < (t336.length : Int):=of_decide_eq_true Hd.a_
      obtain ⟨ad340,e340,hx340_0,hx340_1,hx340_2,hx340_3⟩:=at_T101 (Kd.R_reads' HO_3.out).2.2 x4_1 p340 q340
      cases e340
      replace p340:=eq_true p340
      replace q340:=eq_true q340
      have p341 : 0 ≤ (x5_2 : Int):=of_decide_eq_true Hd.a_
      have q341 : x5_2 < (t336.length : Int):=of_decide_eq_true Hd.a_
      obtain ⟨ad341,e341,hx341_0,hx341_1,hx341_2,hx341_3⟩:=at_T101 (Kd.R_reads' HO_3.out).2.2 x5_2 p341 q341
      obtain rfl : ad340 = ad341:=(by injection e341)
      replace p341:=eq_true p341
      replace q341:=eq_true q341
      have s0_:=Hd.HW.x (W0:=wr.drew) hx340_0
      have s1_:=Hd.HW.x (W0:=wr.drew) hx340_1
      have s2_:=Hd.HW.x (W0:=wr.drew) hx340_2
      have s3_:=Hd.HW.x (W0:=wr.drew) hx340_3
      have s4_:=Hd.HW.x (W0:=wr.drew) hx341_0
      have s5_:=Hd.HW.x (W0:=wr.drew) hx341_1
      have s6_:=Hd.HW.x (W0:=wr.drew) hx341_2
      have s7_:=Hd.HW.x (W0:=wr.drew) hx341_3
      refine Hd.HW.region (by kernel_rfl) (by kernel_rfl) ?_
      repeat (go_big_quiet_step ((first | (go_at_call 96;with_reducible exact Hd.HW.c (spec_HowMeet.calls k2 ((rd_T101 t336 x4_1).f0.f0) ((rd_T101 t336 x4_1).f0.f1) ((rd_T101 t336 x4_1).f1.f0) ((rd_T101 t336 x4_1).f1.f1) ((rd_T101 t336 x5_2).f0.f0) ((rd_T101 t336 x5_2).f0.f1) ((rd_T101 t336 x5_2).f1.f0) ((rd_T101 t336 x5_2).f1.f1) t342 _ A12.out)))))
      refine wpQuiet_nil ?_
      intro _ hq_
      obtain ⟨q_,rfl⟩:=hq_
      clear s0_ s1_ s2_ s3_ s4_ s5_ s6_ s7_
      replace HO_3:=ak (Kd.R_below HO_3.out q_.b)
      replace HB:=ak (below_step HB.out q_.b)
      replace hx340_0:=q_.cell hx340_0
      replace hx340_1:=q_.cell hx340_1
      replace hx340_2:=q_.cell hx340_2
      replace hx340_3:=q_.cell hx340_3
      replace hx341_0:=q_.cell hx341_0
      replace hx341_1:=q_.cell hx341_1
      replace hx341_2:=q_.cell hx341_2
      replace hx341_3:=q_.cell hx341_3
      generalize q_.W = w17 at HO_3 HB hx340_0 hx340_1 hx340_2 hx340_3 hx341_0 hx341_1 hx341_2 hx341_3 ⊢
      try simp only [i64_w,i32_w]
      try go_wp2
      go_ret
      exact ⟨Hd.e_,Hd.b_⟩
     rw [if_pos c13] at H
     have c13b0:=beq_iff_eq.mpr c13
     have c13b1:=bne_eq_false_iff_eq.mpr c13
     clear c13
     have H':=ak H
     clear H
     try go_wp2
     replace HO_3:=ak (Kd.R_drew HO_3.out)
     replace HB:=ak (below_drew1 HB.out)
     have p340 : 0 ≤ (x4_1 : Int):=of_decide_eq_true Hd.a_
     have q340 : x4_1 < (t336.length : Int):=of_decide_eq_true Hd.a_
     obtain ⟨ad340,e340,hx340_0,hx340_1,hx340_2,hx340_3⟩:=at_T101 (Kd.R_reads' HO_3.out).2.2 x4_1 p340 q340
     cases e340
     replace p340:=eq_true p340
     replace q340:=eq_true q340
     have p341 : 0 ≤ (x5_2 : Int):=of_decide_eq_true Hd.a_
     have q341 : x5_2 < (t336.length : Int):=of_decide_eq_true Hd.a_
     obtain ⟨ad341,e341,hx341_0,hx341_1,hx341_2,hx341_3⟩:=at_T101 (Kd.R_reads' HO_3.out).2.2 x5_2 p341 q341
     obtain rfl : ad340 = ad341:=(by injection e341)
     replace p341:=eq_true p341
     replace q341:=eq_true q341
     have s0_:=Hd.HW.x (W0:=wr.drew) hx340_0
     have s1_:=Hd.HW.x (W0:=wr.drew) hx340_1
     have s2_:=Hd.HW.x (W0:=wr.drew) hx340_2
     have s3_:=Hd.HW.x (W0:=wr.drew) hx340_3
     have s4_:=Hd.HW.x (W0:=wr.drew) hx341_0
     have s5_:=Hd.HW.x (W0:=wr.drew) hx341_1
     have s6_:=Hd.HW.x (W0:=wr.drew) hx341_2
     have s7_:=Hd.HW.x (W0:=wr.drew) hx341_3
     refine Hd.HW.region (by kernel_rfl) (by kernel_rfl) ?_
     repeat (go_big_quiet_step ((first | (go_at_call 96;with_reducible exact Hd.HW.c (spec_HowMeet.calls k2 ((rd_T101 t336 x4_1).f0.f0) ((rd_T101 t336 x4_1).f0.f1) ((rd_T101 t336 x4_1).f1.f0) ((rd_T101 t336 x4_1).f1.f1) ((rd_T101 t336 x5_2).f0.f0) ((rd_T101 t336 x5_2).f0.f1) ((rd_T101 t336 x5_2).f1.f0) ((rd_T101 t336 x5_2).f1.f1) t342 _ A12.out)))))
     refine wpQuiet_nil ?_
     intro _ hq_
     obtain ⟨q_,rfl⟩:=hq_
     clear s0_ s1_ s2_ s3_ s4_ s5_ s6_ s7_
     replace HO_3:=ak (Kd.R_below HO_3.out q_.b)
     replace HB:=ak (below_step HB.out q_.b)
     replace hx340_0:=q_.cell hx340_0
     replace hx340_1:=q_.cell hx340_1
     replace hx340_2:=q_.cell hx340_2
     replace hx340_3:=q_.cell hx340_3
     replace hx341_0:=q_.cell hx341_0
     replace hx341_1:=q_.cell hx341_1
     replace hx341_2:=q_.cell hx341_2
     replace hx341_3:=q_.cell hx341_3
     generalize q_.W = w15 at HO_3 HB hx340_0 hx340_1 hx340_2 hx340_3 hx341_0 hx341_1 hx341_2 hx341_3 ⊢
     try simp only [i64_w,i32_w]
     try go_wp2
     go_roundg k2
     case measure => have:=HK1.out;have:=HK2.out;omega
     case rel => exact ⟨(wrap64 (x5_2 + 1)),z8_,H',⟨z62_⟩,⟨z6_ HO_3⟩,⟨Hd.b_⟩⟩
end Go.Proofs.Ytbbdhlggnglfgaa.MFnMeets
