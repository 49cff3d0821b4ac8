-- Laid by this session's program pp.py, after the kit's print and texts of the session's own. Not trusted: Lean checks it.
import Derived.Test.YtbbdhlggnglfgaaZPutFeatureMx0
import Derived.Test.YtbbdhlggnglfgaaZPutFeatureMx2
import Derived.Test.YtbbdhlggnglfgaaZPutFeatureMx3
import Derived.Test.YtbbdhlggnglfgaaZPutFeatureMx4
namespace Go.Proofs.Ytbbdhlggnglfgaa.MFnExactPutFeature
open Go.RowKit Go.Proofs.YtbbdhlggnglfgaaW.PrintWords Go.Proofs.YtbbdhlggnglfgaaW.PrintLast Go.Proofs.YtbbdhlggnglfgaaW.PrintMore
attribute [local go_sem] max2_int min2_int max_two min_two max_three min_three max_four min_four   -- for this text's walks alone
set_option linter.unusedVariables false
set_option maxHeartbeats 8000000
set_option maxRecDepth 100000
set_option linter.unusedSimpArgs false
mutual
def spec_HowMeet.j0 : Nat → Bool → Int → Int → Int → Int → Int → Int → Int → Int → Option (Int)
 | 0,_,_,_,_,_,_,_,_,_ => none
 | k + 1,x12,x190000,x190001,x190002,x190003,x191000,x191001,x191002,x191003 => if x12 = true then (some 0) else ((spec_Max.f x190000 x190002).bind fun t193 => ((spec_Min.f x191000 x191002).bind fun t194 => (if t193 < t194 then (spec_HowMeet.j1 k true x190000 x190001 x190002 x190003 x191000 x191001 x191002 x191003) else ((spec_Max.f x191000 x191002).bind fun t195 => ((spec_Min.f x190000 x190002).bind fun t196 => (if t195 < t196 then (spec_HowMeet.j1 k true x190000 x190001 x190002 x190003 x191000 x191001 x191002 x191003) else ((spec_Max.f x190001 x190003).bind fun t197 => ((spec_Min.f x191001 x191003).bind fun t198 => (if t197 < t198 then (spec_HowMeet.j1 k true x190000 x190001 x190002 x190003 x191000 x191001 x191002 x191003) else ((spec_Max.f x191001 x191003).bind fun t199 => ((spec_Min.f x190001 x190003).bind fun t200 => (spec_HowMeet.j1 k (decide (t199 < t200)) x190000 x190001 x190002 x190003 x191000 x191001 x191002 x191003))))))))))))
def spec_HowMeet.j1 : Nat → Bool → Int → Int → Int → Int → Int → Int → Int → Int → Option (Int)
 | 0,_,_,_,_,_,_,_,_,_ => none
 | k + 1,x78,x190000,x190001,x190002,x190003,x191000,x191001,x191002,x191003 => if x78 = true then (some 0) else ((spec_l5Shared.f k x190000 x190001 x190002 x190003 x191000 x191001 x191002 x191003).bind fun t201 => (if t201 = 0 then ((spec_SideOf.f k x190000 x190001 x190002 x190003 x191000 x191001).bind fun t202 => ((spec_SideOf.f k x190000 x190001 x190002 x190003 x191002 x191003).bind fun t203 => (if (wrap64 (t202 * t203)) < 0 then ((spec_SideOf.f k x191000 x191001 x191002 x191003 x190000 x190001).bind fun t204 => ((spec_SideOf.f k x191000 x191001 x191002 x191003 x190002 x190003).bind fun t205 => (if (wrap64 (t204 * t205)) < 0 then (some 2) else (some 0)))) else (some 0)))) else (if t201 = 1 then (some 1) else (some 3))))
end
def spec_HowMeet.f (k : Nat) (a0_0 : Int) (a0_1 : Int) (a0_2 : Int) (a0_3 : Int) (a1_0 : Int) (a1_1 : Int) (a1_2 : Int) (a1_3 : Int) : Option (Int):=(spec_IsSegment.f a0_0 a0_1 a0_2 a0_3).bind fun t191 => (if t191 = true then ((spec_IsSegment.f a1_0 a1_1 a1_2 a1_3).bind fun t192 => (spec_HowMeet.j0 k (!t192) a0_0 a0_1 a0_2 a0_3 a1_0 a1_1 a1_2 a1_3)) else (spec_HowMeet.j0 k true a0_0 a0_1 a0_2 a0_3 a1_0 a1_1 a1_2 a1_3))
theorem spec_HowMeet.calls (k : Nat) (a0_0 : Int) (a0_1 : Int) (a0_2 : Int) (a0_3 : Int) (a1_0 : Int) (a1_1 : Int) (a1_2 : Int) (a1_3 : Int) (r : Int) (w : World) (h : spec_HowMeet.f k a0_0 a0_1 a0_2 a0_3 a1_0 a1_1 a1_2 a1_3 = some r) :
  Calls Try.prog 96 #[.agg #[.int .i64 a0_0,.int .i64 a0_1,.int .i64 a0_2,.int .i64 a0_3],.agg #[.int .i64 a1_0,.int .i64 a1_1,.int .i64 a1_2,.int .i64 a1_3]] w fun e w' => e = .returned (.int .i64 r) ∧ Below w.heap.size w w':=by
 have hu101:=Try.underlying101
 have hu75:=Try.underlying75
 have HB:=ak (Below.refl w.heap.size w)
 have H:=h;clear h;unfold spec_HowMeet.f at H
 have HC3:=ak H
 clear H
 go_enter Try.func96,Try.ntmps96
 go_upto_region 1 with (first | ((with_reducible refine gate_dst (N:=2) rfl ?_);refine Hd.box_ 2 (#[.int .i64 a0_0,.int .i64 a0_1,.int .i64 a0_2,.int .i64 a0_3]) 101 ?_;intro gb189 hg w4 hbox hb;have BK189:=ak (hbox);have GW189:=ak ((Hd.g_ hg Hd.b_ : w.heap.size ≤ gb189));have GE189:=ak ((Hd.g_ hg Hd.b_ : w.heap.size ≤ gb189));replace HB:=ak (below_step Hd.b_ hb);clear hb hbox hg) | ((with_reducible refine gate_dst (N:=3) rfl ?_);refine Hd.box_ 3 (#[.int .i64 a1_0,.int .i64 a1_1,.int .i64 a1_2,.int .i64 a1_3]) 101 ?_;intro gb190 hg w5 hbox hb;have BK190:=ak (hbox);have GW190:=ak ((Hd.g_ hg Hd.b_ : w.heap.size ≤ gb190));have GE190:=ak ((Hd.g_ hg Hd.b_ : w.heap.size ≤ gb190));replace HB:=ak (below_step Hd.b_ hb);have NB189_190:=ak ((Hd.lt_ BK189 hg));have NB190_189:=ak ((Hd.gt_ BK189 hg));replace BK189:=ak (Hd.kb_ BK189 hb);clear hb hbox hg))
 (try simp only [Act.put,List.setIfInBounds_toArray,List.set_cons_zero,List.set_cons_succ])
 go_cut [12] (fun v12 wc => ∃ (kq : Nat) (x12_2 : Bool),v12 = .bool x12_2 ∧ Aside0 (spec_HowMeet.j0 kq x12_2 a0_0 a0_1 a0_2 a0_3 a1_0 a1_1 a1_2 a1_3 = some r) ∧ Aside0 (kq ≤ k) ∧ Aside0 (wc.heap[gb189]? = some (.cells #[.int .i64 a0_0,.int .i64 a0_1,.int .i64 a0_2,.int .i64 a0_3] 101 (0,0))) ∧ Aside0 (wc.heap[gb190]? = some (.cells #[.int .i64 a1_0,.int .i64 a1_1,.int .i64 a1_2,.int .i64 a1_3] 101 (0,0))) ∧ Aside0 (Below w.heap.size w wc))
 case first =>
  have H:=HC3.out
  clear HC3
  replace H:=Hd.bd_ H;obtain ⟨t191,A6,H⟩:=H
  by_cases c7 : t191 = true
  ·
   subst c7
   rw [if_pos rfl] at H
   replace H:=Hd.bd_ H;obtain ⟨t192,A8,H⟩:=H
   have H':=ak H
   clear H
   have hnb9:=NB189_190.out
   have hnc9:=NB190_189.out
   obtain ⟨hcz10_0,hcz10_1,hcz10_2,hcz10_3⟩:=Hd.c4_ BK189.out
   obtain ⟨hfz10_0,hfz10_1,hfz10_2,hfz10_3⟩:=Hd.f4_ BK189.out
   go_wp2_with (first | ((with_reducible refine gate_callee (f:=99) rfl ?_);refine Hd.gl_ 6 Try.func99 #[.agg #[.int .i64 a0_0,.int .i64 a0_1,.int .i64 a0_2,.int .i64 a0_3]] ?_;(with_reducible refine (spec_IsSegment.calls a0_0 a0_1 a0_2 a0_3 true _ A6.out).mono ?_);rintro e w11 ⟨rfl,hb⟩;refine ⟨_,rfl,?_⟩;replace BK189:=ak (Hd.kb_ BK189 hb);replace BK190:=ak (Hd.kb_ BK190 hb);replace HB:=ak (below_step Hd.b_ hb);clear hb;obtain ⟨hcz12_0,hcz12_1,hcz12_2,hcz12_3⟩:=Hd.c4_ BK190.out;obtain ⟨hfz12_0,hfz12_1,hfz12_2,hfz12_3⟩:=Hd.f4_ BK190.out) | (go_at_call 99;(with_reducible refine (spec_IsSegment.calls a1_0 a1_1 a1_2 a1_3 t192 _ A8.out).mono ?_);rintro e w13 ⟨rfl,hb⟩;replace BK189:=ak (Hd.kb_ BK189 hb);replace BK190:=ak (Hd.kb_ BK190 hb);replace HB:=ak (below_step Hd.b_ hb);clear hb))
   go_meet
   case rel => exact ⟨_,(!t192),z2_,H',⟨z21_⟩,⟨z0_ BK189⟩,⟨z0_ BK190⟩,⟨Hd.b_⟩⟩
  replace c7:=Bool.eq_false_iff.mpr c7
  subst c7
  rw [if_neg (show ¬ (false = true) by decide)] at H
  have H':=ak H
  clear H
  have hnb14:=NB189_190.out
  have hnc14:=NB190_189.out
  obtain ⟨hcz15_0,hcz15_1,hcz15_2,hcz15_3⟩:=Hd.c4_ BK189.out
  obtain ⟨hfz15_0,hfz15_1,hfz15_2,hfz15_3⟩:=Hd.f4_ BK189.out
  go_wp2_with (first | ((with_reducible refine gate_callee (f:=99) rfl ?_);refine Hd.gl_ 6 Try.func99 #[.agg #[.int .i64 a0_0,.int .i64 a0_1,.int .i64 a0_2,.int .i64 a0_3]] ?_;(with_reducible refine (spec_IsSegment.calls a0_0 a0_1 a0_2 a0_3 false _ A6.out).mono ?_);rintro e w16 ⟨rfl,hb⟩;refine ⟨_,rfl,?_⟩;replace BK189:=ak (Hd.kb_ BK189 hb);replace BK190:=ak (Hd.kb_ BK190 hb);replace HB:=ak (below_step Hd.b_ hb);clear hb))
  go_meet
  case rel => exact ⟨_,(true),z2_,H',⟨z21_⟩,⟨z0_ BK189⟩,⟨z0_ BK190⟩,⟨Hd.b_⟩⟩
 case rest =>
  clear HC3
  try clear c1;try clear p2;try clear c7;try clear c9;try clear c14;try clear hcz10_0;try clear hcz10_1;try clear hcz10_2;try clear hcz10_3;try clear hcz12_0;try clear hcz12_1;try clear hcz12_2;try clear hcz12_3;try clear hcz15_0;try clear hcz15_1;try clear hcz15_2;try clear hcz15_3;try clear hfz10_0;try clear hfz10_1;try clear hfz10_2;try clear hfz10_3;try clear hfz12_0;try clear hfz12_1;try clear hfz12_2;try clear hfz12_3;try clear hfz15_0;try clear hfz15_1;try clear hfz15_2;try clear hfz15_3
  obtain ⟨kq,x12_2,rfl,HA,HJ2,BK189,BK190,HB⟩:=hcut
  cases kq with
  | zero => exact absurd HA.out (by simp [spec_HowMeet.j0])
  | succ kj2 =>
   have H:=HA.out
   clear HA
   simp only [spec_HowMeet.j0] at H
   by_cases c17 : x12_2 = true
   ·
    subst c17
    rw [if_pos rfl] at H
    obtain rfl:=Option.some.inj H
    go_wp2
    go_ret
    exact ⟨Hd.e_,Hd.b_⟩
   replace c17:=Bool.eq_false_iff.mpr c17
   subst c17
   rw [if_neg (show ¬ (false = true) by decide)] at H
   have HC18:=ak H
   clear H
   go_upto_region 3 with (fail)
   go_cut [78] (fun v78 wc => ∃ (kq : Nat) (x78_17 : Bool),v78 = .bool x78_17 ∧ Aside0 (spec_HowMeet.j1 kq x78_17 a0_0 a0_1 a0_2 a0_3 a1_0 a1_1 a1_2 a1_3 = some r) ∧ Aside0 (kq ≤ kj2) ∧ Aside0 (wc.heap[gb189]? = some (.cells #[.int .i64 a0_0,.int .i64 a0_1,.int .i64 a0_2,.int .i64 a0_3] 101 (0,0))) ∧ Aside0 (wc.heap[gb190]? = some (.cells #[.int .i64 a1_0,.int .i64 a1_1,.int .i64 a1_2,.int .i64 a1_3] 101 (0,0))) ∧ Aside0 (Below w.heap.size w wc))
   case first =>
    have H:=HC18.out
    clear HC18
    replace H:=Hd.bd_ H;obtain ⟨t193,A19,H⟩:=H
    replace H:=Hd.bd_ H;obtain ⟨t194,A20,H⟩:=H
    by_cases c21 : t193 < t194
    ·
     rw [if_pos c21] at H
     have c21b0:=decide_eq_true c21
     clear c21
     (first | rw [c21b0] | (simp only [i64_w,i32_w];rw [c21b0]) | skip)
     have H':=ak H
     clear H
     try go_wp2
     replace BK189:=ak (blk_drew BK189.out)
     replace BK190:=ak (blk_drew BK190.out)
     replace HB:=ak (below_drew1 HB.out)
     obtain ⟨s0_,s1_,s2_,s3_⟩:=Hd.HW.k4 (W0:=wc.drew) BK189
     obtain ⟨s4_,s5_,s6_,s7_⟩:=Hd.HW.k4 (W0:=wc.drew) BK190
     refine Hd.HW.region (by kernel_rfl) (by kernel_rfl) ?_
     try dsimp only [List.append]
     repeat (go_big_quiet_step ((first | (go_at_call 109;with_reducible exact Hd.HW.d (spec_Max.calls a0_0 a0_2 t193 _ A19.out)) | (go_at_call 104;with_reducible exact Hd.HW.d (spec_Min.calls a1_0 a1_2 t194 _ A20.out)))))
     refine wpQuiet_nil ?_
     intro _ hq_
     obtain ⟨q_,rfl⟩:=hq_
     clear s0_ s1_ s2_ s3_ s4_ s5_ s6_ s7_
     replace BK189:=ak (blk_below BK189.out q_.b)
     replace BK190:=ak (blk_below BK190.out q_.b)
     replace HB:=ak (below_step HB.out q_.b)
     generalize q_.W = w22 at BK189 BK190 HB ⊢
     try simp only [i64_w,i32_w]
     try go_wp2
     go_meet
     case rel => exact ⟨_,(true),z2_,H',⟨z49_⟩,⟨z0_ BK189⟩,⟨z0_ BK190⟩,⟨Hd.b_⟩⟩
    rw [if_neg c21] at H
    have c21b0:=decide_eq_false c21
    clear c21
    (first | rw [c21b0] | (simp only [i64_w,i32_w];rw [c21b0]) | skip)
    replace H:=Hd.bd_ H;obtain ⟨t195,A23,H⟩:=H
    replace H:=Hd.bd_ H;obtain ⟨t196,A24,H⟩:=H
    by_cases c25 : t195 < t196
    ·
     rw [if_pos c25] at H
     have c25b0:=decide_eq_true c25
     clear c25
     have H':=ak H
     clear H
     try go_wp2
     replace BK189:=ak (blk_drew BK189.out)
     replace BK190:=ak (blk_drew BK190.out)
     replace HB:=ak (below_drew1 HB.out)
     obtain ⟨s0_,s1_,s2_,s3_⟩:=Hd.HW.k4 (W0:=wc.drew) BK189
     obtain ⟨s4_,s5_,s6_,s7_⟩:=Hd.HW.k4 (W0:=wc.drew) BK190
     refine Hd.HW.region (by kernel_rfl) (by kernel_rfl) ?_
     try dsimp only [List.append]
     repeat (go_big_quiet_step ((first | (go_at_call 109;with_reducible exact Hd.HW.d (spec_Max.calls a0_0 a0_2 t193 _ A19.out)) | (go_at_call 104;with_reducible exact Hd.HW.d (spec_Min.calls a1_0 a1_2 t194 _ A20.out)) | (go_at_call 109;with_reducible exact Hd.HW.d (spec_Max.calls a1_0 a1_2 t195 _ A23.out)) | (go_at_call 104;with_reducible exact Hd.HW.d (spec_Min.calls a0_0 a0_2 t196 _ A24.out)))))
     refine wpQuiet_nil ?_
     intro _ hq_
     obtain ⟨q_,rfl⟩:=hq_
     clear s0_ s1_ s2_ s3_ s4_ s5_ s6_ s7_
     replace BK189:=ak (blk_below BK189.out q_.b)
     replace BK190:=ak (blk_below BK190.out q_.b)
     replace HB:=ak (below_step HB.out q_.b)
     generalize q_.W = w26 at BK189 BK190 HB ⊢
     try simp only [i64_w,i32_w]
     try go_wp2
     go_meet
     case rel => exact ⟨_,(true),z2_,H',⟨z49_⟩,⟨z0_ BK189⟩,⟨z0_ BK190⟩,⟨Hd.b_⟩⟩
    rw [if_neg c25] at H
    have c25b0:=decide_eq_false c25
    clear c25
    replace H:=Hd.bd_ H;obtain ⟨t197,A27,H⟩:=H
    replace H:=Hd.bd_ H;obtain ⟨t198,A28,H⟩:=H
    by_cases c29 : t197 < t198
    ·
     rw [if_pos c29] at H
     have c29b0:=decide_eq_true c29
     clear c29
     have H':=ak H
     clear H
     try go_wp2
     replace BK189:=ak (blk_drew BK189.out)
     replace BK190:=ak (blk_drew BK190.out)
     replace HB:=ak (below_drew1 HB.out)
     obtain ⟨s0_,s1_,s2_,s3_⟩:=Hd.HW.k4 (W0:=wc.drew) BK189
     obtain ⟨s4_,s5_,s6_,s7_⟩:=Hd.HW.k4 (W0:=wc.drew) BK190
     refine Hd.HW.region (by kernel_rfl) (by kernel_rfl) ?_
     try dsimp only [List.append]
     repeat (go_big_quiet_step ((first | (go_at_call 109;with_reducible exact Hd.HW.d (spec_Max.calls a0_0 a0_2 t193 _ A19.out)) | (go_at_call 104;with_reducible exact Hd.HW.d (spec_Min.calls a1_0 a1_2 t194 _ A20.out)) | (go_at_call 109;with_reducible exact Hd.HW.d (spec_Max.calls a1_0 a1_2 t195 _ A23.out)) | (go_at_call 104;with_reducible exact Hd.HW.d (spec_Min.calls a0_0 a0_2 t196 _ A24.out)) | (go_at_call 109;with_reducible exact Hd.HW.d (spec_Max.calls a0_1 a0_3 t197 _ A27.out)) | (go_at_call 104;with_reducible exact Hd.HW.d (spec_Min.calls a1_1 a1_3 t198 _ A28.out)))))
     refine wpQuiet_nil ?_
     intro _ hq_
     obtain ⟨q_,rfl⟩:=hq_
     clear s0_ s1_ s2_ s3_ s4_ s5_ s6_ s7_
     replace BK189:=ak (blk_below BK189.out q_.b)
     replace BK190:=ak (blk_below BK190.out q_.b)
     replace HB:=ak (below_step HB.out q_.b)
     generalize q_.W = w30 at BK189 BK190 HB ⊢
     try simp only [i64_w,i32_w]
     try go_wp2
     go_meet
     case rel => exact ⟨_,(true),z2_,H',⟨z49_⟩,⟨z0_ BK189⟩,⟨z0_ BK190⟩,⟨Hd.b_⟩⟩
    rw [if_neg c29] at H
    have c29b0:=decide_eq_false c29
    clear c29
    replace H:=Hd.bd_ H;obtain ⟨t199,A31,H⟩:=H
    replace H:=Hd.bd_ H;obtain ⟨t200,A32,H⟩:=H
    have H':=ak H
    clear H
    try go_wp2
    replace BK189:=ak (blk_drew BK189.out)
    replace BK190:=ak (blk_drew BK190.out)
    replace HB:=ak (below_drew1 HB.out)
    obtain ⟨s0_,s1_,s2_,s3_⟩:=Hd.HW.k4 (W0:=wc.drew) BK189
    obtain ⟨s4_,s5_,s6_,s7_⟩:=Hd.HW.k4 (W0:=wc.drew) BK190
    refine Hd.HW.region (by kernel_rfl) (by kernel_rfl) ?_
    try dsimp only [List.append]
    repeat (go_big_quiet_step ((first | (go_at_call 109;with_reducible exact Hd.HW.d (spec_Max.calls a0_0 a0_2 t193 _ A19.out)) | (go_at_call 104;with_reducible exact Hd.HW.d (spec_Min.calls a1_0 a1_2 t194 _ A20.out)) | (go_at_call 109;with_reducible exact Hd.HW.d (spec_Max.calls a1_0 a1_2 t195 _ A23.out)) | (go_at_call 104;with_reducible exact Hd.HW.d (spec_Min.calls a0_0 a0_2 t196 _ A24.out)) | (go_at_call 109;with_reducible exact Hd.HW.d (spec_Max.calls a0_1 a0_3 t197 _ A27.out)) | (go_at_call 104;with_reducible exact Hd.HW.d (spec_Min.calls a1_1 a1_3 t198 _ A28.out)) | (go_at_call 109;with_reducible exact Hd.HW.d (spec_Max.calls a1_1 a1_3 t199 _ A31.out)) | (go_at_call 104;with_reducible exact Hd.HW.d (spec_Min.calls a0_1 a0_3 t200 _ A32.out)))))
    refine wpQuiet_nil ?_
    intro _ hq_
    obtain ⟨q_,rfl⟩:=hq_
    clear s0_ s1_ s2_ s3_ s4_ s5_ s6_ s7_
    replace BK189:=ak (blk_below BK189.out q_.b)
    replace BK190:=ak (blk_below BK190.out q_.b)
    replace HB:=ak (below_step HB.out q_.b)
    generalize q_.W = w33 at BK189 BK190 HB ⊢
    try simp only [i64_w,i32_w]
    try go_wp2
    go_meet
    case rel => exact ⟨_,(decide (t199 < t200)),z2_,H',⟨z49_⟩,⟨z0_ BK189⟩,⟨z0_ BK190⟩,⟨Hd.b_⟩⟩
   case rest =>
    clear HC18
    try clear c1;try clear c2;try clear p2;try clear c10;try clear c29;try clear c29b0
    obtain ⟨kq,x78_17,rfl,HA,HJ17,BK189,BK190,HB⟩:=hcut
    cases kq with
    | zero => exact absurd HA.out (by simp [spec_HowMeet.j1])
    | succ kj17 =>
     have H:=HA.out
     clear HA
     simp only [spec_HowMeet.j1] at H
     by_cases c34 : x78_17 = true
     ·
      subst c34
      rw [if_pos rfl] at H
      obtain rfl:=Option.some.inj H
      go_wp2
      go_ret
      exact ⟨Hd.e_,Hd.b_⟩
     replace c34:=Bool.eq_false_iff.mpr c34
     subst c34
     rw [if_neg (show ¬ (false = true) by decide)] at H
     replace H:=Hd.bd_ H;obtain ⟨t201,A35,H⟩:=H
     by_cases c36 : t201 = 0;rotate_left
     ·
      rw [if_neg c36] at H
      have c36b0:=beq_eq_false_iff_ne.mpr c36
      have c36b1:=bne_iff_ne.mpr c36
      by_cases c68 : t201 = 1;rotate_left
      ·
       rw [if_neg c68] at H
       have c68b0:=beq_eq_false_iff_ne.mpr c68
       have c68b1:=bne_iff_ne.mpr c68
       obtain rfl:=Option.some.inj H
       have hnb73:=NB189_190.out
       have hnc73:=NB190_189.out
       obtain ⟨hcz74_0,hcz74_1,hcz74_2,hcz74_3⟩:=Hd.c4_ BK189.out
       obtain ⟨hfz74_0,hfz74_1,hfz74_2,hfz74_3⟩:=Hd.f4_ BK189.out
       obtain ⟨hcz75_0,hcz75_1,hcz75_2,hcz75_3⟩:=Hd.c4_ BK190.out
       obtain ⟨hfz75_0,hfz75_1,hfz75_2,hfz75_3⟩:=Hd.f4_ BK190.out
       go_wp2_with (first | ((with_reducible refine gate_callee (f:=110) rfl ?_);refine Hd.gl_ 81 Try.func110 #[.agg #[.int .i64 a0_0,.int .i64 a0_1,.int .i64 a0_2,.int .i64 a0_3],.agg #[.int .i64 a1_0,.int .i64 a1_1,.int .i64 a1_2,.int .i64 a1_3]] ?_;(with_reducible refine (spec_l5Shared.calls kj17 a0_0 a0_1 a0_2 a0_3 a1_0 a1_1 a1_2 a1_3 t201 _ A35.out).mono ?_);rintro e w76 ⟨rfl,hb⟩;refine ⟨_,rfl,?_⟩;replace BK189:=ak (Hd.kb_ BK189 hb);replace BK190:=ak (Hd.kb_ BK190 hb);replace HB:=ak (below_step Hd.b_ hb);clear hb))
       go_ret
       exact ⟨Hd.e_,Hd.b_⟩
      rw [if_pos c68] at H
      have c68b0:=beq_iff_eq.mpr c68
      have c68b1:=bne_eq_false_iff_eq.mpr c68
      clear c68
      obtain rfl:=Option.some.inj H
      have hnb69:=NB189_190.out
      have hnc69:=NB190_189.out
      obtain ⟨hcz70_0,hcz70_1,hcz70_2,hcz70_3⟩:=Hd.c4_ BK189.out
      obtain ⟨hfz70_0,hfz70_1,hfz70_2,hfz70_3⟩:=Hd.f4_ BK189.out
      obtain ⟨hcz71_0,hcz71_1,hcz71_2,hcz71_3⟩:=Hd.c4_ BK190.out
      obtain ⟨hfz71_0,hfz71_1,hfz71_2,hfz71_3⟩:=Hd.f4_ BK190.out
      go_wp2_with (first | ((with_reducible refine gate_callee (f:=110) rfl ?_);refine Hd.gl_ 81 Try.func110 #[.agg #[.int .i64 a0_0,.int .i64 a0_1,.int .i64 a0_2,.int .i64 a0_3],.agg #[.int .i64 a1_0,.int .i64 a1_1,.int .i64 a1_2,.int .i64 a1_3]] ?_;(with_reducible refine (spec_l5Shared.calls kj17 a0_0 a0_1 a0_2 a0_3 a1_0 a1_1 a1_2 a1_3 t201 _ A35.out).mono ?_);rintro e w72 ⟨rfl,hb⟩;refine ⟨_,rfl,?_⟩;replace BK189:=ak (Hd.kb_ BK189 hb);replace BK190:=ak (Hd.kb_ BK190 hb);replace HB:=ak (below_step Hd.b_ hb);clear hb))
      go_ret
      exact ⟨Hd.e_,Hd.b_⟩
     rw [if_pos c36] at H
     have c36b0:=beq_iff_eq.mpr c36
     have c36b1:=bne_eq_false_iff_eq.mpr c36
     clear c36
     replace H:=Hd.bd_ H;obtain ⟨t202,A37,H⟩:=H
     replace H:=Hd.bd_ H;obtain ⟨t203,A38,H⟩:=H
     by_cases c39 : (wrap64 (t202 * t203)) < 0;rotate_left
     ·
      rw [if_neg c39] at H
      have c39b0:=decide_eq_false c39
      clear c39
      obtain rfl:=Option.some.inj H
      have hnb61:=NB189_190.out
      have hnc61:=NB190_189.out
      obtain ⟨hcz62_0,hcz62_1,hcz62_2,hcz62_3⟩:=Hd.c4_ BK189.out
      obtain ⟨hfz62_0,hfz62_1,hfz62_2,hfz62_3⟩:=Hd.f4_ BK189.out
      obtain ⟨hcz63_0,hcz63_1,hcz63_2,hcz63_3⟩:=Hd.c4_ BK190.out
      obtain ⟨hfz63_0,hfz63_1,hfz63_2,hfz63_3⟩:=Hd.f4_ BK190.out
      try go_wp2_with (first | ((with_reducible refine gate_callee (f:=110) rfl ?_);refine Hd.gl_ 81 Try.func110 #[.agg #[.int .i64 a0_0,.int .i64 a0_1,.int .i64 a0_2,.int .i64 a0_3],.agg #[.int .i64 a1_0,.int .i64 a1_1,.int .i64 a1_2,.int .i64 a1_3]] ?_;(with_reducible refine (spec_l5Shared.calls kj17 a0_0 a0_1 a0_2 a0_3 a1_0 a1_1 a1_2 a1_3 t201 _ A35.out).mono ?_);rintro e w64 ⟨rfl,hb⟩;refine ⟨_,rfl,?_⟩;replace BK189:=ak (Hd.kb_ BK189 hb);replace BK190:=ak (Hd.kb_ BK190 hb);replace HB:=ak (below_step Hd.b_ hb);clear hb))
      replace BK189:=ak (blk_drew BK189.out)
      replace BK190:=ak (blk_drew BK190.out)
      replace HB:=ak (below_drew1 HB.out)
      obtain ⟨s0_,s1_,s2_,s3_⟩:=Hd.HW.k4 (W0:=w64.drew) BK189
      obtain ⟨s4_,s5_,s6_,s7_⟩:=Hd.HW.k4 (W0:=w64.drew) BK190
      refine Hd.HW.region (by kernel_rfl) (by kernel_rfl) ?_
      try dsimp only [List.append]
      repeat (go_big_quiet_step ((first | (go_at_call 111;with_reducible exact Hd.HW.c (spec_SideOf.calls kj17 a0_0 a0_1 a0_2 a0_3 a1_0 a1_1 t202 _ A37.out)) | (go_at_call 111;with_reducible exact Hd.HW.c (spec_SideOf.calls kj17 a0_0 a0_1 a0_2 a0_3 a1_2 a1_3 t203 _ A38.out)))))
      refine wpQuiet_nil ?_
      intro _ hq_
      obtain ⟨q_,rfl⟩:=hq_
      clear s0_ s1_ s2_ s3_ s4_ s5_ s6_ s7_
      replace BK189:=ak (blk_below BK189.out q_.b)
      replace BK190:=ak (blk_below BK190.out q_.b)
      replace HB:=ak (below_step HB.out q_.b)
      generalize q_.W = w67 at BK189 BK190 HB ⊢
      try simp only [i64_w,i32_w]
      try go_wp2
      go_ret
      exact ⟨Hd.e_,Hd.b_⟩
     rw [if_pos c39] at H
     have c39b0:=decide_eq_true c39
     clear c39
     replace H:=Hd.bd_ H;obtain ⟨t204,A40,H⟩:=H
     replace H:=Hd.bd_ H;obtain ⟨t205,A41,H⟩:=H
     by_cases c42 : (wrap64 (t204 * t205)) < 0
     ·
      rw [if_pos c42] at H
      have c42b0:=decide_eq_true c42
      clear c42
      obtain rfl:=Option.some.inj H
      have hnb43:=NB189_190.out
      have hnc43:=NB190_189.out
      obtain ⟨hcz44_0,hcz44_1,hcz44_2,hcz44_3⟩:=Hd.c4_ BK189.out
      obtain ⟨hfz44_0,hfz44_1,hfz44_2,hfz44_3⟩:=Hd.f4_ BK189.out
      obtain ⟨hcz45_0,hcz45_1,hcz45_2,hcz45_3⟩:=Hd.c4_ BK190.out
      obtain ⟨hfz45_0,hfz45_1,hfz45_2,hfz45_3⟩:=Hd.f4_ BK190.out
      try go_wp2_with (first | ((with_reducible refine gate_callee (f:=110) rfl ?_);refine Hd.gl_ 81 Try.func110 #[.agg #[.int .i64 a0_0,.int .i64 a0_1,.int .i64 a0_2,.int .i64 a0_3],.agg #[.int .i64 a1_0,.int .i64 a1_1,.int .i64 a1_2,.int .i64 a1_3]] ?_;(with_reducible refine (spec_l5Shared.calls kj17 a0_0 a0_1 a0_2 a0_3 a1_0 a1_1 a1_2 a1_3 t201 _ A35.out).mono ?_);rintro e w46 ⟨rfl,hb⟩;refine ⟨_,rfl,?_⟩;replace BK189:=ak (Hd.kb_ BK189 hb);replace BK190:=ak (Hd.kb_ BK190 hb);replace HB:=ak (below_step Hd.b_ hb);clear hb))
      replace BK189:=ak (blk_drew BK189.out)
      replace BK190:=ak (blk_drew BK190.out)
      replace HB:=ak (below_drew1 HB.out)
      obtain ⟨s0_,s1_,s2_,s3_⟩:=Hd.HW.k4 (W0:=w46.drew) BK189
      obtain ⟨s4_,s5_,s6_,s7_⟩:=Hd.HW.k4 (W0:=w46.drew) BK190
      refine Hd.HW.region (by kernel_rfl) (by kernel_rfl) ?_
      try dsimp only [List.append]
      repeat (go_big_quiet_step ((first | (go_at_call 111;with_reducible exact Hd.HW.c (spec_SideOf.calls kj17 a0_0 a0_1 a0_2 a0_3 a1_0 a1_1 t202 _ A37.out)) | (go_at_call 111;with_reducible exact Hd.HW.c (spec_SideOf.calls kj17 a0_0 a0_1 a0_2 a0_3 a1_2 a1_3 t203 _ A38.out)) | (go_at_call 111;with_reducible exact Hd.HW.c (spec_SideOf.calls kj17 a1_0 a1_1 a1_2 a1_3 a0_0 a0_1 t204 _ A40.out)) | (go_at_call 111;with_reducible exact Hd.HW.c (spec_SideOf.calls kj17 a1_0 a1_1 a1_2 a1_3 a0_2 a0_3 t205 _ A41.out)))))
      refine wpQuiet_nil ?_
      intro _ hq_
      obtain ⟨q_,rfl⟩:=hq_
      clear s0_ s1_ s2_ s3_ s4_ s5_ s6_ s7_
      replace BK189:=ak (blk_below BK189.out q_.b)
      replace BK190:=ak (blk_below BK190.out q_.b)
      replace HB:=ak (below_step HB.out q_.b)
      generalize q_.W = w51 at BK189 BK190 HB ⊢
      try simp only [i64_w,i32_w]
      try go_wp2
      go_ret
      exact ⟨Hd.e_,Hd.b_⟩
     rw [if_neg c42] at H
     have c42b0:=decide_eq_false c42
     clear c42
     obtain rfl:=Option.some.inj H
     have hnb52:=NB189_190.out
     have hnc52:=NB190_189.out
     obtain ⟨hcz53_0,hcz53_1,hcz53_2,hcz53_3⟩:=Hd.c4_ BK189.out
     obtain ⟨hfz53_0,hfz53_1,hfz53_2,hfz53_3⟩:=Hd.f4_ BK189.out
     obtain ⟨hcz54_0,hcz54_1,hcz54_2,hcz54_3⟩:=Hd.c4_ BK190.out
     obtain ⟨hfz54_0,hfz54_1,hfz54_2,hfz54_3⟩:=Hd.f4_ BK190.out
     try go_wp2_with (first | ((with_reducible refine gate_callee (f:=110) rfl ?_);refine Hd.gl_ 81 Try.func110 #[.agg #[.int .i64 a0_0,.int .i64 a0_1,.int .i64 a0_2,.int .i64 a0_3],.agg #[.int .i64 a1_0,.int .i64 a1_1,.int .i64 a1_2,.int .i64 a1_3]] ?_;(with_reducible refine (spec_l5Shared.calls kj17 a0_0 a0_1 a0_2 a0_3 a1_0 a1_1 a1_2 a1_3 t201 _ A35.out).mono ?_);rintro e w55 ⟨rfl,hb⟩;refine ⟨_,rfl,?_⟩;replace BK189:=ak (Hd.kb_ BK189 hb);replace BK190:=ak (Hd.kb_ BK190 hb);replace HB:=ak (below_step Hd.b_ hb);clear hb))
     replace BK189:=ak (blk_drew BK189.out)
     replace BK190:=ak (blk_drew BK190.out)
     replace HB:=ak (below_drew1 HB.out)
     obtain ⟨s0_,s1_,s2_,s3_⟩:=Hd.HW.k4 (W0:=w55.drew) BK189
     obtain ⟨s4_,s5_,s6_,s7_⟩:=Hd.HW.k4 (W0:=w55.drew) BK190
     refine Hd.HW.region (by kernel_rfl) (by kernel_rfl) ?_
     try dsimp only [List.append]
     repeat (go_big_quiet_step ((first | (go_at_call 111;with_reducible exact Hd.HW.c (spec_SideOf.calls kj17 a0_0 a0_1 a0_2 a0_3 a1_0 a1_1 t202 _ A37.out)) | (go_at_call 111;with_reducible exact Hd.HW.c (spec_SideOf.calls kj17 a0_0 a0_1 a0_2 a0_3 a1_2 a1_3 t203 _ A38.out)) | (go_at_call 111;with_reducible exact Hd.HW.c (spec_SideOf.calls kj17 a1_0 a1_1 a1_2 a1_3 a0_0 a0_1 t204 _ A40.out)) | (go_at_call 111;with_reducible exact Hd.HW.c (spec_SideOf.calls kj17 a1_0 a1_1 a1_2 a1_3 a0_2 a0_3 t205 _ A41.out)))))
     refine wpQuiet_nil ?_
     intro _ hq_
     obtain ⟨q_,rfl⟩:=hq_
     clear s0_ s1_ s2_ s3_ s4_ s5_ s6_ s7_
     replace BK189:=ak (blk_below BK189.out q_.b)
     replace BK190:=ak (blk_below BK190.out q_.b)
     replace HB:=ak (below_step HB.out q_.b)
     generalize q_.W = w60 at BK189 BK190 HB ⊢
     try simp only [i64_w,i32_w]
     try go_wp2
     go_ret
     exact ⟨Hd.e_,Hd.b_⟩
mutual
def spec_IsSimple.l0 : Nat → List (S75) → List (S101) → Int → Option (Bool)
 | 0,_,_,_ => none
 | k + 1,x0,x3,x4 => if x4 < (x3.length : Int) then (spec_IsSimple.l1 k x0 x3 x4 0) else ((spec_IsLine.f k x0).bind fun t209 => (some t209))
def spec_IsSimple.l1 : Nat → List (S75) → List (S101) → Int → Int → Option (Bool)
 | 0,_,_,_,_ => none
 | k + 1,x0,x3,x4,x5 => if x5 < x4 then (if (wrap64 (x5 + 1)) = x4 then (if 0 ≤ x4 then (if x4 < (x3.length : Int) then (if 0 ≤ x5 then (if x5 < (x3.length : Int) then ((spec_HowMeet.f k ((rd_T101 x3 x4).f0.f0) ((rd_T101 x3 x4).f0.f1) ((rd_T101 x3 x4).f1.f0) ((rd_T101 x3 x4).f1.f1) ((rd_T101 x3 x5).f0.f0) ((rd_T101 x3 x5).f0.f1) ((rd_T101 x3 x5).f1.f0) ((rd_T101 x3 x5).f1.f1)).bind fun t212 => (if t212 = 1 then (spec_IsSimple.l1 k x0 x3 x4 (wrap64 (x5 + 1))) else (some false))) else (none)) else (none)) else (none)) else (none)) else (if 0 ≤ x4 then (if x4 < (x3.length : Int) then (if 0 ≤ x5 then (if x5 < (x3.length : Int) then ((spec_HowMeet.f k ((rd_T101 x3 x4).f0.f0) ((rd_T101 x3 x4).f0.f1) ((rd_T101 x3 x4).f1.f0) ((rd_T101 x3 x4).f1.f1) ((rd_T101 x3 x5).f0.f0) ((rd_T101 x3 x5).f0.f1) ((rd_T101 x3 x5).f1.f0) ((rd_T101 x3 x5).f1.f1)).bind fun t215 => (if t215 = 0 then (spec_IsSimple.l1 k x0 x3 x4 (wrap64 (x5 + 1))) else (some false))) else (none)) else (none)) else (none)) else (none))) else (spec_IsSimple.l0 k x0 x3 (wrap64 (x4 + 1)))
end
def spec_IsSimple.f (k : Nat) (l0 : List (S75)) : Option (Bool):=(spec_SegmentsOf.f k l0).bind fun t206 => (spec_IsSimple.l0 k l0 t206 0)
theorem spec_IsSimple.calls (k : Nat) (A0 : Option Addr) (c0 : Nat) (l0 : List (S75)) (r : Bool) (w : World) (hr0 : Kd.C k75 w A0 l0.length l0) (hc0 : l0.length ≤ c0) (h : spec_IsSimple.f k l0 = some r) :
  Calls Try.prog 82 #[.slice A0 l0.length c0] w fun e w' => e = .returned (.bool r) ∧ Below w.heap.size w w':=by
 have hu101:=Try.underlying101
 have HR0:=ak hr0
 have HC0:=ak hc0
 clear hr0 hc0
 have HB:=ak (Below.refl w.heap.size w)
 have H:=h;clear h;unfold spec_IsSimple.f at H
 replace H:=Hd.bd_ H;obtain ⟨t206,A2,H⟩:=H
 have H':=ak H
 clear H
 go_enter Try.func82,Try.ntmps82
 go_wp2_with (first | ((with_reducible refine gate_callee (f:=95) rfl ?_);refine Hd.gl_ 8 Try.func95 #[.slice A0 l0.length c0] ?_;(with_reducible refine (spec_SegmentsOf.calls k _ _ l0 t206 _ ?side1 ?side2 A2.out).mono ?_);(case side1 => exact z43_ HR0);(case side2 => exact HC0.out);rintro e w3 ⟨v207,rfl,ho0,hb⟩;refine ⟨_,rfl,?_⟩;have HO208:=z59_;replace HB:=ak (below_step Hd.b_ hb);clear hb ho0))
 go_loopg [4] k (fun kq v4 w' => ∃ (x4_1 : Int),v4 = .int .i64 x4_1 ∧ Aside0 (spec_IsSimple.l0 kq l0 t206 x4_1 = some r) ∧ Aside0 (kq ≤ k) ∧ Aside0 (Kd.R k101 101 w' w.heap.size (fun _ => True) v207 t206) ∧ Aside0 (Below w.heap.size w w'))
 case atStart => exact ⟨(0),z2_,H',⟨Nat.le_refl _⟩,⟨z4_ HO208⟩,⟨Hd.b_⟩⟩
 case round =>
  clear H'
  try clear p2
  obtain ⟨x4_1,rfl,HA,HK1,HO_3,HB⟩:=hrel
  cases gk with
  | zero => exact absurd HA.out (by simp [spec_IsSimple.l0])
  | succ k1 =>
   have H:=HA.out
   clear HA
   simp only [spec_IsSimple.l0] at H
   by_cases c4 : x4_1 < (t206.length : Int);rotate_left
   ·
    rw [if_neg c4] at H
    have c4b0:=decide_eq_false c4
    clear c4
    replace H:=Hd.bd_ H;obtain ⟨t209,A28,H⟩:=H
    obtain rfl:=Option.some.inj H
    obtain ⟨Ao29,co29,eo29⟩:=Kd.R_slice HO_3.out
    subst eo29
    go_wp2_with (first | ((with_reducible refine gate_callee (f:=97) rfl ?_);refine Hd.gl_ 36 Try.func97 #[.slice A0 l0.length c0] ?_;(with_reducible refine (spec_IsLine.calls k1 _ _ l0 t209 _ ?side1 ?side2 A28.out).mono ?_);(case side1 => exact z1_ HR0);(case side2 => exact HC0.out);rintro e w30 ⟨rfl,hb⟩;refine ⟨_,rfl,?_⟩;replace HO_3:=z71_;replace HB:=ak (below_step Hd.b_ hb);clear hb))
    go_ret
    exact ⟨Hd.e_,Hd.b_⟩
   rw [if_pos c4] at H
   have c4b0:=decide_eq_true c4
   clear c4
   have H':=ak H
   clear H
   obtain ⟨Ao5,co5,eo5⟩:=Kd.R_slice HO_3.out
   subst eo5
   go_wp2
   go_loopg [5] k1 (fun kq v5 w' => ∃ (x5_2 : Int),v5 = .int .i64 x5_2 ∧ Aside0 (spec_IsSimple.l1 kq l0 t206 x4_1 x5_2 = some r) ∧ Aside0 (kq ≤ k1) ∧ Aside0 (Kd.R k101 101 w' w.heap.size (fun _ => True) (.slice Ao5 t206.length co5) t206) ∧ Aside0 (Below w.heap.size w w'))
   case atStart => exact ⟨(0),z2_,H',⟨Nat.le_refl _⟩,⟨z4_ HO_3⟩,⟨Hd.b_⟩⟩
   case round =>
    clear H'
    try clear p2;try clear c4;try clear c4b0;try clear p2
    obtain ⟨x5_2,rfl,HA,HK2,HO_3,HB⟩:=hrel
    cases gk with
    | zero => exact absurd HA.out (by simp [spec_IsSimple.l1])
    | succ k2 =>
     have H:=HA.out
     clear HA
     simp only [spec_IsSimple.l1] at H
     by_cases c6 : x5_2 < x4_1;rotate_left
     ·
      rw [if_neg c6] at H
      have c6b0:=decide_eq_false c6
      clear c6
      have H':=ak H
      clear H
      go_wp2
      go_roundg k2
      case measure => have:=HK1.out;have:=HK2.out;omega
      case rel => exact ⟨(wrap64 (x4_1 + 1)),z2_,H',⟨by have:=HK1.out;have:=HK2.out;omega⟩,⟨z4_ HO_3⟩,⟨Hd.b_⟩⟩
     rw [if_pos c6] at H
     have c6b0:=decide_eq_true c6
     clear c6
     by_cases c7 : (wrap64 (x5_2 + 1)) = x4_1;rotate_left
     ·
      rw [if_neg c7] at H
      have c7b0:=beq_eq_false_iff_ne.mpr c7
      have c7b1:=bne_iff_ne.mpr c7
      by_cases c18 : 0 ≤ x4_1;rotate_left
      ·
       rw [if_neg c18] at H
       exact absurd H (by simp)
      rw [if_pos c18] at H
      have c18b0:=decide_eq_true c18
      clear c18
      by_cases c19 : x4_1 < (t206.length : Int);rotate_left
      ·
       rw [if_neg c19] at H
       exact absurd H (by simp)
      rw [if_pos c19] at H
      have c19b0:=decide_eq_true c19
      clear c19
      by_cases c20 : 0 ≤ x5_2;rotate_left
      ·
       rw [if_neg c20] at H
       exact absurd H (by simp)
      rw [if_pos c20] at H
      have c20b0:=decide_eq_true c20
      clear c20
      by_cases c21 : x5_2 < (t206.length : Int);rotate_left
      ·
       rw [if_neg c21] at H
       exact absurd H (by simp)
      rw [if_pos c21] at H
      have c21b0:=decide_eq_true c21
      clear c21
      replace H:=Hd.bd_ H;obtain ⟨t215,A22,H⟩:=H
      by_cases c23 : t215 = 0;rotate_left
      ·
       rw [if_neg c23] at H
       have c23b0:=beq_eq_false_iff_ne.mpr c23
       have c23b1:=bne_iff_ne.mpr c23
       obtain rfl:=Option.some.inj H
       try go_wp2
       replace HO_3:=ak (Kd.R_drew HO_3.out)
       replace HB:=ak (below_drew1 HB.out)
       have p213 : 0 ≤ (x4_1 : Int):=of_decide_eq_true Hd.a_
       have q213 : x4_1 < (t206.length : Int):=of_decide_eq_true Hd.a_
       obtain ⟨ad213,e213,hx213_0,hx213_1,hx213_2,hx213_3⟩:=at_T101 (Kd.R_reads' HO_3.out).2.2 x4_1 p213 q213
       cases e213
       replace p213:=eq_true p213
       replace q213:=eq_true q213
       have p214 : 0 ≤ (x5_2 : Int):=of_decide_eq_true Hd.a_
       have q214 : x5_2 < (t206.length : Int):=of_decide_eq_true Hd.a_
       obtain ⟨ad214,e214,hx214_0,hx214_1,hx214_2,hx214_3⟩:=at_T101 (Kd.R_reads' HO_3.out).2.2 x5_2 p214 q214
       obtain rfl : ad213 = ad214:=(by injection e214)
       replace p214:=eq_true p214
       replace q214:=eq_true q214
       have s0_:=Hd.HW.x (W0:=wr.drew) hx213_0
       have s1_:=Hd.HW.x (W0:=wr.drew) hx213_1
       have s2_:=Hd.HW.x (W0:=wr.drew) hx213_2
       have s3_:=Hd.HW.x (W0:=wr.drew) hx213_3
       have s4_:=Hd.HW.x (W0:=wr.drew) hx214_0
       have s5_:=Hd.HW.x (W0:=wr.drew) hx214_1
       have s6_:=Hd.HW.x (W0:=wr.drew) hx214_2
       have s7_:=Hd.HW.x (W0:=wr.drew) hx214_3
       refine Hd.HW.region (by kernel_rfl) (by kernel_rfl) ?_
       repeat (go_big_quiet_step ((first | (go_at_call 96;with_reducible exact Hd.HW.c (spec_HowMeet.calls k2 ((rd_T101 t206 x4_1).f0.f0) ((rd_T101 t206 x4_1).f0.f1) ((rd_T101 t206 x4_1).f1.f0) ((rd_T101 t206 x4_1).f1.f1) ((rd_T101 t206 x5_2).f0.f0) ((rd_T101 t206 x5_2).f0.f1) ((rd_T101 t206 x5_2).f1.f0) ((rd_T101 t206 x5_2).f1.f1) t215 _ A22.out)))))
       refine wpQuiet_nil ?_
       intro _ hq_
       obtain ⟨q_,rfl⟩:=hq_
       clear s0_ s1_ s2_ s3_ s4_ s5_ s6_ s7_
       replace HO_3:=ak (Kd.R_below HO_3.out q_.b)
       replace HB:=ak (below_step HB.out q_.b)
       replace hx213_0:=q_.cell hx213_0
       replace hx213_1:=q_.cell hx213_1
       replace hx213_2:=q_.cell hx213_2
       replace hx213_3:=q_.cell hx213_3
       replace hx214_0:=q_.cell hx214_0
       replace hx214_1:=q_.cell hx214_1
       replace hx214_2:=q_.cell hx214_2
       replace hx214_3:=q_.cell hx214_3
       generalize q_.W = w27 at HO_3 HB hx213_0 hx213_1 hx213_2 hx213_3 hx214_0 hx214_1 hx214_2 hx214_3 ⊢
       try simp only [i64_w,i32_w]
       try go_wp2
       go_ret
       exact ⟨Hd.e_,Hd.b_⟩
      rw [if_pos c23] at H
      have c23b0:=beq_iff_eq.mpr c23
      have c23b1:=bne_eq_false_iff_eq.mpr c23
      clear c23
      have H':=ak H
      clear H
      try go_wp2
      replace HO_3:=ak (Kd.R_drew HO_3.out)
      replace HB:=ak (below_drew1 HB.out)
      have p213 : 0 ≤ (x4_1 : Int):=of_decide_eq_true Hd.a_
      have q213 : x4_1 < (t206.length : Int):=of_decide_eq_true Hd.a_
      obtain ⟨ad213,e213,hx213_0,hx213_1,hx213_2,hx213_3⟩:=at_T101 (Kd.R_reads' HO_3.out).2.2 x4_1 p213 q213
      cases e213
      replace p213:=eq_true p213
      replace q213:=eq_true q213
      have p214 : 0 ≤ (x5_2 : Int):=of_decide_eq_true Hd.a_
      have q214 : x5_2 < (t206.length : Int):=of_decide_eq_true Hd.a_
      obtain ⟨ad214,e214,hx214_0,hx214_1,hx214_2,hx214_3⟩:=at_T101 (Kd.R_reads' HO_3.out).2.2 x5_2 p214 q214
      obtain rfl : ad213 = ad214:=(by injection e214)
      replace p214:=eq_true p214
      replace q214:=eq_true q214
      have s0_:=Hd.HW.x (W0:=wr.drew) hx213_0
      have s1_:=Hd.HW.x (W0:=wr.drew) hx213_1
      have s2_:=Hd.HW.x (W0:=wr.drew) hx213_2
      have s3_:=Hd.HW.x (W0:=wr.drew) hx213_3
      have s4_:=Hd.HW.x (W0:=wr.drew) hx214_0
      have s5_:=Hd.HW.x (W0:=wr.drew) hx214_1
      have s6_:=Hd.HW.x (W0:=wr.drew) hx214_2
      have s7_:=Hd.HW.x (W0:=wr.drew) hx214_3
      refine Hd.HW.region (by kernel_rfl) (by kernel_rfl) ?_
      repeat (go_big_quiet_step ((first | (go_at_call 96;with_reducible exact Hd.HW.c (spec_HowMeet.calls k2 ((rd_T101 t206 x4_1).f0.f0) ((rd_T101 t206 x4_1).f0.f1) ((rd_T101 t206 x4_1).f1.f0) ((rd_T101 t206 x4_1).f1.f1) ((rd_T101 t206 x5_2).f0.f0) ((rd_T101 t206 x5_2).f0.f1) ((rd_T101 t206 x5_2).f1.f0) ((rd_T101 t206 x5_2).f1.f1) t215 _ A22.out)))))
      refine wpQuiet_nil ?_
      intro _ hq_
      obtain ⟨q_,rfl⟩:=hq_
      clear s0_ s1_ s2_ s3_ s4_ s5_ s6_ s7_
      replace HO_3:=ak (Kd.R_below HO_3.out q_.b)
      replace HB:=ak (below_step HB.out q_.b)
      replace hx213_0:=q_.cell hx213_0
      replace hx213_1:=q_.cell hx213_1
      replace hx213_2:=q_.cell hx213_2
      replace hx213_3:=q_.cell hx213_3
      replace hx214_0:=q_.cell hx214_0
      replace hx214_1:=q_.cell hx214_1
      replace hx214_2:=q_.cell hx214_2
      replace hx214_3:=q_.cell hx214_3
      generalize q_.W = w25 at HO_3 HB hx213_0 hx213_1 hx213_2 hx213_3 hx214_0 hx214_1 hx214_2 hx214_3 ⊢
      try simp only [i64_w,i32_w]
      try go_wp2
      go_roundg k2
      case measure => have:=HK1.out;have:=HK2.out;omega
      case rel => exact ⟨(wrap64 (x5_2 + 1)),z2_,H',⟨by have:=HK1.out;have:=HK2.out;omega⟩,⟨z4_ HO_3⟩,⟨Hd.b_⟩⟩
     rw [if_pos c7] at H
     have c7b0:=beq_iff_eq.mpr c7
     have c7b1:=bne_eq_false_iff_eq.mpr c7
     clear c7
     by_cases c8 : 0 ≤ x4_1;rotate_left
     ·
      rw [if_neg c8] at H
      exact absurd H (by simp)
     rw [if_pos c8] at H
     have c8b0:=decide_eq_true c8
     clear c8
     by_cases c9 : x4_1 < (t206.length : Int);rotate_left
     ·
      rw [if_neg c9] at H
      exact absurd H (by simp)
     rw [if_pos c9] at H
     have c9b0:=decide_eq_true c9
     clear c9
     by_cases c10 : 0 ≤ x5_2;rotate_left
     ·
      rw [if_neg c10] at H
      exact absurd H (by simp)
     rw [if_pos c10] at H
     have c10b0:=decide_eq_true c10
     clear c10
     by_cases c11 : x5_2 < (t206.length : Int);rotate_left
     ·
      rw [if_neg c11] at H
      exact absurd H (by simp)
     rw [if_pos c11] at H
     have c11b0:=decide_eq_true c11
     clear c11
     replace H:=Hd.bd_ H;obtain ⟨t212,A12,H⟩:=H
     by_cases c13 : t212 = 1;rotate_left
     ·
      rw [if_neg c13] at H
      have c13b0:=beq_eq_false_iff_ne.mpr c13
      have c13b1:=bne_iff_ne.mpr c13
      obtain rfl:=Option.some.inj H
      try go_wp2
      replace HO_3:=ak (Kd.R_drew HO_3.out)
      replace HB:=ak (below_drew1 HB.out)
      have p210 : 0 ≤ (x4_1 : Int):=of_decide_eq_true Hd.a_
      have q210 : x4_1 < (t206.length : Int):=of_decide_eq_true Hd.a_
      obtain ⟨ad210,e210,hx210_0,hx210_1,hx210_2,hx210_3⟩:=at_T101 (Kd.R_reads' HO_3.out).2.2 x4_1 p210 q210
      cases e210
      replace p210:=eq_true p210
      replace q210:=eq_true q210
      have p211 : 0 ≤ (x5_2 : Int):=of_decide_eq_true Hd.a_
      have q211 : x5_2 < (t206.length : Int):=of_decide_eq_true Hd.a_
      obtain ⟨ad211,e211,hx211_0,hx211_1,hx211_2,hx211_3⟩:=at_T101 (Kd.R_reads' HO_3.out).2.2 x5_2 p211 q211
      obtain rfl : ad210 = ad211:=(by injection e211)
      replace p211:=eq_true p211
      replace q211:=eq_true q211
      have s0_:=Hd.HW.x (W0:=wr.drew) hx210_0
      have s1_:=Hd.HW.x (W0:=wr.drew) hx210_1
      have s2_:=Hd.HW.x (W0:=wr.drew) hx210_2
      have s3_:=Hd.HW.x (W0:=wr.drew) hx210_3
      have s4_:=Hd.HW.x (W0:=wr.drew) hx211_0
      have s5_:=Hd.HW.x (W0:=wr.drew) hx211_1
      have s6_:=Hd.HW.x (W0:=wr.drew) hx211_2
      have s7_:=Hd.HW.x (W0:=wr.drew) hx211_3
      refine Hd.HW.region (by kernel_rfl) (by kernel_rfl) ?_
      repeat (go_big_quiet_step ((first | (go_at_call 96;with_reducible exact Hd.HW.c (spec_HowMeet.calls k2 ((rd_T101 t206 x4_1).f0.f0) ((rd_T101 t206 x4_1).f0.f1) ((rd_T101 t206 x4_1).f1.f0) ((rd_T101 t206 x4_1).f1.f1) ((rd_T101 t206 x5_2).f0.f0) ((rd_T101 t206 x5_2).f0.f1) ((rd_T101 t206 x5_2).f1.f0) ((rd_T101 t206 x5_2).f1.f1) t212 _ A12.out)))))
      refine wpQuiet_nil ?_
      intro _ hq_
      obtain ⟨q_,rfl⟩:=hq_
      clear s0_ s1_ s2_ s3_ s4_ s5_ s6_ s7_
      replace HO_3:=ak (Kd.R_below HO_3.out q_.b)
      replace HB:=ak (below_step HB.out q_.b)
      replace hx210_0:=q_.cell hx210_0
      replace hx210_1:=q_.cell hx210_1
      replace hx210_2:=q_.cell hx210_2
      replace hx210_3:=q_.cell hx210_3
      replace hx211_0:=q_.cell hx211_0
      replace hx211_1:=q_.cell hx211_1
      replace hx211_2:=q_.cell hx211_2
      replace hx211_3:=q_.cell hx211_3
      generalize q_.W = w17 at HO_3 HB hx210_0 hx210_1 hx210_2 hx210_3 hx211_0 hx211_1 hx211_2 hx211_3 ⊢
      try simp only [i64_w,i32_w]
      try go_wp2
      go_ret
      exact ⟨Hd.e_,Hd.b_⟩
     rw [if_pos c13] at H
     have c13b0:=beq_iff_eq.mpr c13
     have c13b1:=bne_eq_false_iff_eq.mpr c13
     clear c13
     have H':=ak H
     clear H
     try go_wp2
     replace HO_3:=ak (Kd.R_drew HO_3.out)
     replace HB:=ak (below_drew1 HB.out)
     have p210 : 0 ≤ (x4_1 : Int):=of_decide_eq_true Hd.a_
     have q210 : x4_1 < (t206.length : Int):=of_decide_eq_true Hd.a_
     obtain ⟨ad210,e210,hx210_0,hx210_1,hx210_2,hx210_3⟩:=at_T101 (Kd.R_reads' HO_3.out).2.2 x4_1 p210 q210
     cases e210
     replace p210:=eq_true p210
     replace q210:=eq_true q210
     have p211 : 0 ≤ (x5_2 : Int):=of_decide_eq_true Hd.a_
     have q211 : x5_2 < (t206.length : Int):=of_decide_eq_true Hd.a_
     obtain ⟨ad211,e211,hx211_0,hx211_1,hx211_2,hx211_3⟩:=at_T101 (Kd.R_reads' HO_3.out).2.2 x5_2 p211 q211
     obtain rfl : ad210 = ad211:=(by injection e211)
     replace p211:=eq_true p211
     replace q211:=eq_true q211
     have s0_:=Hd.HW.x (W0:=wr.drew) hx210_0
     have s1_:=Hd.HW.x (W0:=wr.drew) hx210_1
     have s2_:=Hd.HW.x (W0:=wr.drew) hx210_2
     have s3_:=Hd.HW.x (W0:=wr.drew) hx210_3
     have s4_:=Hd.HW.x (W0:=wr.drew) hx211_0
     have s5_:=Hd.HW.x (W0:=wr.drew) hx211_1
     have s6_:=Hd.HW.x (W0:=wr.drew) hx211_2
     have s7_:=Hd.HW.x (W0:=wr.drew) hx211_3
     refine Hd.HW.region (by kernel_rfl) (by kernel_rfl) ?_
     repeat (go_big_quiet_step ((first | (go_at_call 96;with_reducible exact Hd.HW.c (spec_HowMeet.calls k2 ((rd_T101 t206 x4_1).f0.f0) ((rd_T101 t206 x4_1).f0.f1) ((rd_T101 t206 x4_1).f1.f0) ((rd_T101 t206 x4_1).f1.f1) ((rd_T101 t206 x5_2).f0.f0) ((rd_T101 t206 x5_2).f0.f1) ((rd_T101 t206 x5_2).f1.f0) ((rd_T101 t206 x5_2).f1.f1) t212 _ A12.out)))))
     refine wpQuiet_nil ?_
     intro _ hq_
     obtain ⟨q_,rfl⟩:=hq_
     clear s0_ s1_ s2_ s3_ s4_ s5_ s6_ s7_
     replace HO_3:=ak (Kd.R_below HO_3.out q_.b)
     replace HB:=ak (below_step HB.out q_.b)
     replace hx210_0:=q_.cell hx210_0
     replace hx210_1:=q_.cell hx210_1
     replace hx210_2:=q_.cell hx210_2
     replace hx210_3:=q_.cell hx210_3
     replace hx211_0:=q_.cell hx211_0
     replace hx211_1:=q_.cell hx211_1
     replace hx211_2:=q_.cell hx211_2
     replace hx211_3:=q_.cell hx211_3
     generalize q_.W = w15 at HO_3 HB hx210_0 hx210_1 hx210_2 hx210_3 hx211_0 hx211_1 hx211_2 hx211_3 ⊢
     try simp only [i64_w,i32_w]
     try go_wp2
     go_roundg k2
     case measure => have:=HK1.out;have:=HK2.out;omega
     case rel => exact ⟨(wrap64 (x5_2 + 1)),z2_,H',⟨by have:=HK1.out;have:=HK2.out;omega⟩,⟨z4_ HO_3⟩,⟨Hd.b_⟩⟩
end Go.Proofs.Ytbbdhlggnglfgaa.MFnExactPutFeature
