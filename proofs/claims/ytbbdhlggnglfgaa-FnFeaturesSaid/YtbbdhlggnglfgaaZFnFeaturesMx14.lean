-- Laid by this session's program pp.py, after the kit's print and texts of the session's own. Not trusted: Lean checks it.
import Derived.Test.YtbbdhlggnglfgaaZFnFeaturesMx0
import Derived.Test.YtbbdhlggnglfgaaZFnFeaturesMx12
import Derived.Test.YtbbdhlggnglfgaaZFnFeaturesMx13
namespace Go.Proofs.Ytbbdhlggnglfgaa.MFnFeatures
open Go.RowKit Go.Proofs.YtbbdhlggnglfgaaW.PrintWords Go.Proofs.YtbbdhlggnglfgaaW.PrintLast Go.Proofs.YtbbdhlggnglfgaaW.PrintMore
attribute [local go_sem] max2_int min2_int max_two min_two max_three min_three max_four min_four
set_option linter.unusedVariables false
set_option maxHeartbeats 8000000
set_option maxRecDepth 100000
set_option linter.unusedSimpArgs false
mutual
def spec_HowMeet.j0:Nat→Bool→Int→Int→Int→Int→Int→Int→Int→Int→Option (Int)
 | 0,_,_,_,_,_,_,_,_,_=>none
 | k+1,x12,x394000,x394001,x394002,x394003,x395000,x395001,x395002,x395003=>if x12=true then (some 0) else ((spec_Max.f x394000 x394002).bind fun t397=>((spec_Min.f x395000 x395002).bind fun t398=>(if t397<t398 then (spec_HowMeet.j1 k true x394000 x394001 x394002 x394003 x395000 x395001 x395002 x395003) else ((spec_Max.f x395000 x395002).bind fun t399=>((spec_Min.f x394000 x394002).bind fun t400=>(if t399<t400 then (spec_HowMeet.j1 k true x394000 x394001 x394002 x394003 x395000 x395001 x395002 x395003) else ((spec_Max.f x394001 x394003).bind fun t401=>((spec_Min.f x395001 x395003).bind fun t402=>(if t401<t402 then (spec_HowMeet.j1 k true x394000 x394001 x394002 x394003 x395000 x395001 x395002 x395003) else ((spec_Max.f x395001 x395003).bind fun t403=>((spec_Min.f x394001 x394003).bind fun t404=>(spec_HowMeet.j1 k (decide (t403<t404)) x394000 x394001 x394002 x394003 x395000 x395001 x395002 x395003))))))))))))
def spec_HowMeet.j1:Nat→Bool→Int→Int→Int→Int→Int→Int→Int→Int→Option (Int)
 | 0,_,_,_,_,_,_,_,_,_=>none
 | k+1,x78,x394000,x394001,x394002,x394003,x395000,x395001,x395002,x395003=>if x78=true then (some 0) else ((spec_l5Shared.f k x394000 x394001 x394002 x394003 x395000 x395001 x395002 x395003).bind fun t405=>(if t405=0 then ((spec_SideOf.f k x394000 x394001 x394002 x394003 x395000 x395001).bind fun t406=>((spec_SideOf.f k x394000 x394001 x394002 x394003 x395002 x395003).bind fun t407=>(if (wrap64 (t406*t407))<0 then ((spec_SideOf.f k x395000 x395001 x395002 x395003 x394000 x394001).bind fun t408=>((spec_SideOf.f k x395000 x395001 x395002 x395003 x394002 x394003).bind fun t409=>(if (wrap64 (t408*t409))<0 then (some 2) else (some 0)))) else (some 0)))) else (if t405=1 then (some 1) else (some 3))))
end
def spec_HowMeet.f (k:Nat) (a0_0:Int) (a0_1:Int) (a0_2:Int) (a0_3:Int) (a1_0:Int) (a1_1:Int) (a1_2:Int) (a1_3:Int):Option (Int):=(spec_IsSegment.f a0_0 a0_1 a0_2 a0_3).bind fun t395=>(if t395=true then ((spec_IsSegment.f a1_0 a1_1 a1_2 a1_3).bind fun t396=>(spec_HowMeet.j0 k (!t396) a0_0 a0_1 a0_2 a0_3 a1_0 a1_1 a1_2 a1_3)) else (spec_HowMeet.j0 k true a0_0 a0_1 a0_2 a0_3 a1_0 a1_1 a1_2 a1_3))
theorem spec_HowMeet.calls (k:Nat) (a0_0:Int) (a0_1:Int) (a0_2:Int) (a0_3:Int) (a1_0:Int) (a1_1:Int) (a1_2:Int) (a1_3:Int) (r:Int) (w:World) (h:spec_HowMeet.f k a0_0 a0_1 a0_2 a0_3 a1_0 a1_1 a1_2 a1_3=some r) :
  Calls Try.prog 96 #[.agg #[.int .i64 a0_0,.int .i64 a0_1,.int .i64 a0_2,.int .i64 a0_3],.agg #[.int .i64 a1_0,.int .i64 a1_1,.int .i64 a1_2,.int .i64 a1_3]] w fun e w'=>e = .returned (.int .i64 r)∧Below w.heap.size w w':=by
 have hu101:=Try.underlying101
 have hu75:=Try.underlying75
 have HB:=z52_
 have H:=h;clear h;unfold spec_HowMeet.f at H
 have HC3:=ak H
 clear H
 go_enter Try.func96,Try.ntmps96
 go_upto_region 1 with (first|((with_reducible refine gate_dst (N:=2) rfl ?_);refine Hd.box_ 2 (#[.int .i64 a0_0,.int .i64 a0_1,.int .i64 a0_2,.int .i64 a0_3]) 101 ?_;intro gb393 hg w4 hbox hb;have BK393:=ak (hbox);have GW393:=ak ((Hd.g_ hg Hd.b_:w.heap.size≤gb393));have GE393:=ak ((Hd.g_ hg Hd.b_:w.heap.size≤gb393));replace HB:=z17_;clear hb hbox hg)|((with_reducible refine gate_dst (N:=3) rfl ?_);refine Hd.box_ 3 (#[.int .i64 a1_0,.int .i64 a1_1,.int .i64 a1_2,.int .i64 a1_3]) 101 ?_;intro gb394 hg w5 hbox hb;have BK394:=ak (hbox);have GW394:=ak ((Hd.g_ hg Hd.b_:w.heap.size≤gb394));have GE394:=ak ((Hd.g_ hg Hd.b_:w.heap.size≤gb394));replace HB:=z17_;have NB393_394:=ak ((Hd.lt_ BK393 hg));have NB394_393:=ak ((Hd.gt_ BK393 hg));replace BK393:=z187_;clear hb hbox hg))
 (try simp only[Act.put,List.setIfInBounds_toArray,List.set_cons_zero,List.set_cons_succ])
 go_cut [12] (fun v12 wc=>∃ (kq:Nat) (x12_2:Bool),v12 = .bool x12_2∧Aside0 (spec_HowMeet.j0 kq x12_2 a0_0 a0_1 a0_2 a0_3 a1_0 a1_1 a1_2 a1_3=some r)∧Aside0 (kq≤k)∧Aside0 (wc.heap[gb393]?=some (.cells #[.int .i64 a0_0,.int .i64 a0_1,.int .i64 a0_2,.int .i64 a0_3] 101 (0,0)))∧Aside0 (wc.heap[gb394]?=some (.cells #[.int .i64 a1_0,.int .i64 a1_1,.int .i64 a1_2,.int .i64 a1_3] 101 (0,0)))∧Aside0 (Below w.heap.size w wc))
 case first =>
  have H:=HC3.out
  clear HC3
  replace H:=Hd.bd_ H;obtain⟨t395,A6,H⟩:=H
  by_cases c7:t395=true
  ·
   subst c7
   rw [if_pos rfl] at H
   replace H:=Hd.bd_ H;obtain⟨t396,A8,H⟩:=H
   have H':=ak H
   clear H
   have hnb9:=NB393_394.out
   have hnc9:=NB394_393.out
   obtain⟨hcz10_0,hcz10_1,hcz10_2,hcz10_3⟩:=Hd.c4_ BK393.out
   obtain⟨hfz10_0,hfz10_1,hfz10_2,hfz10_3⟩:=Hd.f4_ BK393.out
   go_wp2_with (first|((with_reducible refine gate_callee (f:=99) rfl ?_);refine Hd.gl_ 6 Try.func99 #[.agg #[.int .i64 a0_0,.int .i64 a0_1,.int .i64 a0_2,.int .i64 a0_3]] ?_;(with_reducible refine(spec_IsSegment.calls a0_0 a0_1 a0_2 a0_3 true _ A6.out).mono ?_);rintro e w11 ⟨rfl,hb⟩;refine⟨_,rfl,?_⟩;replace BK393:=z187_;replace BK394:=z209_;replace HB:=z17_;(try clear hb);obtain⟨hcz12_0,hcz12_1,hcz12_2,hcz12_3⟩:=Hd.c4_ BK394.out;obtain⟨hfz12_0,hfz12_1,hfz12_2,hfz12_3⟩:=Hd.f4_ BK394.out)|(go_at_call 99;(with_reducible refine(spec_IsSegment.calls a1_0 a1_1 a1_2 a1_3 t396 _ A8.out).mono ?_);rintro e w13 ⟨rfl,hb⟩;replace BK393:=z187_;replace BK394:=z209_;replace HB:=z17_;(try clear hb);(try clear hk);(try clear hi)))
   go_meet
   case rel=>exact⟨_,(!t396),z14_,H',⟨z73_⟩,⟨z6_ BK393⟩,⟨z6_ BK394⟩,⟨Hd.b_⟩⟩
  replace c7:=Bool.eq_false_iff.mpr c7
  subst c7
  rw [if_neg (show ¬ (false=true) by decide)] at H
  have H':=ak H
  clear H
  have hnb14:=NB393_394.out
  have hnc14:=NB394_393.out
  obtain⟨hcz15_0,hcz15_1,hcz15_2,hcz15_3⟩:=Hd.c4_ BK393.out
  obtain⟨hfz15_0,hfz15_1,hfz15_2,hfz15_3⟩:=Hd.f4_ BK393.out
  go_wp2_with (first|((with_reducible refine gate_callee (f:=99) rfl ?_);refine Hd.gl_ 6 Try.func99 #[.agg #[.int .i64 a0_0,.int .i64 a0_1,.int .i64 a0_2,.int .i64 a0_3]] ?_;(with_reducible refine(spec_IsSegment.calls a0_0 a0_1 a0_2 a0_3 false _ A6.out).mono ?_);rintro e w16 ⟨rfl,hb⟩;refine⟨_,rfl,?_⟩;replace BK393:=z187_;replace BK394:=z209_;replace HB:=z17_;(try clear hb)))
  go_meet
  case rel=>exact⟨_,(true),z14_,H',⟨z73_⟩,⟨z6_ BK393⟩,⟨z6_ BK394⟩,⟨Hd.b_⟩⟩
 case rest =>
  clear HC3
  try clear c7;try clear hcz10_0;try clear hcz10_1;try clear hcz10_2;try clear hcz10_3;try clear hcz12_0;try clear hcz12_1;try clear hcz12_2;try clear hcz12_3;try clear hcz15_0;try clear hcz15_1;try clear hcz15_2;try clear hcz15_3;try clear hfz10_0;try clear hfz10_1;try clear hfz10_2;try clear hfz10_3;try clear hfz12_0;try clear hfz12_1;try clear hfz12_2;try clear hfz12_3;try clear hfz15_0;try clear hfz15_1;try clear hfz15_2;try clear hfz15_3
  obtain⟨kq,x12_2,rfl,HA,HJ2,BK393,BK394,HB⟩:=hcut
  cases kq with
  | zero=>exact absurd HA.out (by simp [spec_HowMeet.j0])
  | succ kj2 =>
   have H:=HA.out
   clear HA
   simp only[spec_HowMeet.j0] at H
   by_cases c17:x12_2=true
   ·
    subst c17
    rw [if_pos rfl] at H
    obtain rfl:=Option.some.inj H
    go_wp2
    go_ret
    exact⟨Hd.e_,Hd.b_⟩
   replace c17:=Bool.eq_false_iff.mpr c17
   subst c17
   rw [if_neg (show ¬ (false=true) by decide)] at H
   have HC18:=ak H
   clear H
   go_upto_region 3 with (fail)
   go_cut [78] (fun v78 wc=>∃ (kq:Nat) (x78_17:Bool),v78 = .bool x78_17∧Aside0 (spec_HowMeet.j1 kq x78_17 a0_0 a0_1 a0_2 a0_3 a1_0 a1_1 a1_2 a1_3=some r)∧Aside0 (kq≤kj2)∧Aside0 (wc.heap[gb393]?=some (.cells #[.int .i64 a0_0,.int .i64 a0_1,.int .i64 a0_2,.int .i64 a0_3] 101 (0,0)))∧Aside0 (wc.heap[gb394]?=some (.cells #[.int .i64 a1_0,.int .i64 a1_1,.int .i64 a1_2,.int .i64 a1_3] 101 (0,0)))∧Aside0 (Below w.heap.size w wc))
   case first =>
    have H:=HC18.out
    clear HC18
    replace H:=Hd.bd_ H;obtain⟨t397,A19,H⟩:=H
    replace H:=Hd.bd_ H;obtain⟨t398,A20,H⟩:=H
    by_cases c21:t397<t398
    ·
     rw [if_pos c21] at H
     have c21b0:=decide_eq_true c21
     clear c21
     (first|rw [c21b0]|(simp only[i64_w,i32_w];rw [c21b0])|skip)
     have H':=ak H
     clear H
     try go_wp2
     replace BK393:=z65_ BK393
     replace BK394:=z65_ BK394
     replace HB:=z42_
     obtain⟨s0_,s1_,s2_,s3_⟩:=Hd.HW.k4 (W0:=wc.drew) BK393
     obtain⟨s4_,s5_,s6_,s7_⟩:=Hd.HW.k4 (W0:=wc.drew) BK394
     refine Hd.HW.region (by kernel_rfl) (by kernel_rfl) ?_
     try dsimp only[List.append]
     repeat (go_big_quiet_step ((first|(go_at_call 109;with_reducible exact Hd.HW.d (spec_Max.calls a0_0 a0_2 t397 _ A19.out))|(go_at_call 104;with_reducible exact Hd.HW.d (spec_Min.calls a1_0 a1_2 t398 _ A20.out)))))
     refine wpQuiet_nil ?_
     intro _ hq_
     obtain⟨q_,rfl⟩:=hq_
     clear s0_ s1_ s2_ s3_ s4_ s5_ s6_ s7_
     replace BK393:=z63_ BK393
     replace BK394:=z63_ BK394
     replace HB:=z58_
     generalize q_.W=w22 at BK393 BK394 HB ⊢
     try simp only[i64_w,i32_w]
     try go_wp2
     go_meet
     case rel=>exact⟨_,(true),z14_,H',⟨z114_⟩,⟨z6_ BK393⟩,⟨z6_ BK394⟩,⟨Hd.b_⟩⟩
    rw [if_neg c21] at H
    have c21b0:=decide_eq_false c21
    clear c21
    (first|rw [c21b0]|(simp only[i64_w,i32_w];rw [c21b0])|skip)
    replace H:=Hd.bd_ H;obtain⟨t399,A23,H⟩:=H
    replace H:=Hd.bd_ H;obtain⟨t400,A24,H⟩:=H
    by_cases c25:t399<t400
    ·
     rw [if_pos c25] at H
     have c25b0:=decide_eq_true c25
     clear c25
     have H':=ak H
     clear H
     try go_wp2
     replace BK393:=z65_ BK393
     replace BK394:=z65_ BK394
     replace HB:=z42_
     obtain⟨s0_,s1_,s2_,s3_⟩:=Hd.HW.k4 (W0:=wc.drew) BK393
     obtain⟨s4_,s5_,s6_,s7_⟩:=Hd.HW.k4 (W0:=wc.drew) BK394
     refine Hd.HW.region (by kernel_rfl) (by kernel_rfl) ?_
     try dsimp only[List.append]
     repeat (go_big_quiet_step ((first|(go_at_call 109;with_reducible exact Hd.HW.d (spec_Max.calls a0_0 a0_2 t397 _ A19.out))|(go_at_call 104;with_reducible exact Hd.HW.d (spec_Min.calls a1_0 a1_2 t398 _ A20.out))|(go_at_call 109;with_reducible exact Hd.HW.d (spec_Max.calls a1_0 a1_2 t399 _ A23.out))|(go_at_call 104;with_reducible exact Hd.HW.d (spec_Min.calls a0_0 a0_2 t400 _ A24.out)))))
     refine wpQuiet_nil ?_
     intro _ hq_
     obtain⟨q_,rfl⟩:=hq_
     clear s0_ s1_ s2_ s3_ s4_ s5_ s6_ s7_
     replace BK393:=z63_ BK393
     replace BK394:=z63_ BK394
     replace HB:=z58_
     generalize q_.W=w26 at BK393 BK394 HB ⊢
     try simp only[i64_w,i32_w]
     try go_wp2
     go_meet
     case rel=>exact⟨_,(true),z14_,H',⟨z114_⟩,⟨z6_ BK393⟩,⟨z6_ BK394⟩,⟨Hd.b_⟩⟩
    rw [if_neg c25] at H
    have c25b0:=decide_eq_false c25
    clear c25
    replace H:=Hd.bd_ H;obtain⟨t401,A27,H⟩:=H
    replace H:=Hd.bd_ H;obtain⟨t402,A28,H⟩:=H
    by_cases c29:t401<t402
    ·
     rw [if_pos c29] at H
     have c29b0:=decide_eq_true c29
     clear c29
     have H':=ak H
     clear H
     try go_wp2
     replace BK393:=z65_ BK393
     replace BK394:=z65_ BK394
     replace HB:=z42_
     obtain⟨s0_,s1_,s2_,s3_⟩:=Hd.HW.k4 (W0:=wc.drew) BK393
     obtain⟨s4_,s5_,s6_,s7_⟩:=Hd.HW.k4 (W0:=wc.drew) BK394
     refine Hd.HW.region (by kernel_rfl) (by kernel_rfl) ?_
     try dsimp only[List.append]
     repeat (go_big_quiet_step ((first|(go_at_call 109;with_reducible exact Hd.HW.d (spec_Max.calls a0_0 a0_2 t397 _ A19.out))|(go_at_call 104;with_reducible exact Hd.HW.d (spec_Min.calls a1_0 a1_2 t398 _ A20.out))|(go_at_call 109;with_reducible exact Hd.HW.d (spec_Max.calls a1_0 a1_2 t399 _ A23.out))|(go_at_call 104;with_reducible exact Hd.HW.d (spec_Min.calls a0_0 a0_2 t400 _ A24.out))|(go_at_call 109;with_reducible exact Hd.HW.d (spec_Max.calls a0_1 a0_3 t401 _ A27.out))|(go_at_call 104;with_reducible exact Hd.HW.d (spec_Min.calls a1_1 a1_3 t402 _ A28.out)))))
     refine wpQuiet_nil ?_
     intro _ hq_
     obtain⟨q_,rfl⟩:=hq_
     clear s0_ s1_ s2_ s3_ s4_ s5_ s6_ s7_
     replace BK393:=z63_ BK393
     replace BK394:=z63_ BK394
     replace HB:=z58_
     generalize q_.W=w30 at BK393 BK394 HB ⊢
     try simp only[i64_w,i32_w]
     try go_wp2
     go_meet
     case rel=>exact⟨_,(true),z14_,H',⟨z114_⟩,⟨z6_ BK393⟩,⟨z6_ BK394⟩,⟨Hd.b_⟩⟩
    rw [if_neg c29] at H
    have c29b0:=decide_eq_false c29
    clear c29
    replace H:=Hd.bd_ H;obtain⟨t403,A31,H⟩:=H
    replace H:=Hd.bd_ H;obtain⟨t404,A32,H⟩:=H
    have H':=ak H
    clear H
    try go_wp2
    replace BK393:=z65_ BK393
    replace BK394:=z65_ BK394
    replace HB:=z42_
    obtain⟨s0_,s1_,s2_,s3_⟩:=Hd.HW.k4 (W0:=wc.drew) BK393
    obtain⟨s4_,s5_,s6_,s7_⟩:=Hd.HW.k4 (W0:=wc.drew) BK394
    refine Hd.HW.region (by kernel_rfl) (by kernel_rfl) ?_
    try dsimp only[List.append]
    repeat (go_big_quiet_step ((first|(go_at_call 109;with_reducible exact Hd.HW.d (spec_Max.calls a0_0 a0_2 t397 _ A19.out))|(go_at_call 104;with_reducible exact Hd.HW.d (spec_Min.calls a1_0 a1_2 t398 _ A20.out))|(go_at_call 109;with_reducible exact Hd.HW.d (spec_Max.calls a1_0 a1_2 t399 _ A23.out))|(go_at_call 104;with_reducible exact Hd.HW.d (spec_Min.calls a0_0 a0_2 t400 _ A24.out))|(go_at_call 109;with_reducible exact Hd.HW.d (spec_Max.calls a0_1 a0_3 t401 _ A27.out))|(go_at_call 104;with_reducible exact Hd.HW.d (spec_Min.calls a1_1 a1_3 t402 _ A28.out))|(go_at_call 109;with_reducible exact Hd.HW.d (spec_Max.calls a1_1 a1_3 t403 _ A31.out))|(go_at_call 104;with_reducible exact Hd.HW.d (spec_Min.calls a0_1 a0_3 t404 _ A32.out)))))
    refine wpQuiet_nil ?_
    intro _ hq_
    obtain⟨q_,rfl⟩:=hq_
    clear s0_ s1_ s2_ s3_ s4_ s5_ s6_ s7_
    replace BK393:=z63_ BK393
    replace BK394:=z63_ BK394
    replace HB:=z58_
    generalize q_.W=w33 at BK393 BK394 HB ⊢
    try simp only[i64_w,i32_w]
    try go_wp2
    go_meet
    case rel=>exact⟨_,(decide (t403<t404)),z14_,H',⟨z114_⟩,⟨z6_ BK393⟩,⟨z6_ BK394⟩,⟨Hd.b_⟩⟩
   case rest =>
    clear HC18
    try clear c29;try clear c29b0
    obtain⟨kq,x78_17,rfl,HA,HJ17,BK393,BK394,HB⟩:=hcut
    cases kq with
    | zero=>exact absurd HA.out (by simp [spec_HowMeet.j1])
    | succ kj17 =>
     have H:=HA.out
     clear HA
     simp only[spec_HowMeet.j1] at H
     by_cases c34:x78_17=true
     ·
      subst c34
      rw [if_pos rfl] at H
      obtain rfl:=Option.some.inj H
      go_wp2
      go_ret
      exact⟨Hd.e_,Hd.b_⟩
     replace c34:=Bool.eq_false_iff.mpr c34
     subst c34
     rw [if_neg (show ¬ (false=true) by decide)] at H
     replace H:=Hd.bd_ H;obtain⟨t405,A35,H⟩:=H
     by_cases c36:t405=0;rotate_left
     ·
      rw [if_neg c36] at H
      have c36b0:=beq_eq_false_iff_ne.mpr c36
      have c36b1:=bne_iff_ne.mpr c36
      by_cases c68:t405=1;rotate_left
      ·
       rw [if_neg c68] at H
       have c68b0:=beq_eq_false_iff_ne.mpr c68
       have c68b1:=bne_iff_ne.mpr c68
       obtain rfl:=Option.some.inj H
       have hnb73:=NB393_394.out
       have hnc73:=NB394_393.out
       obtain⟨hcz74_0,hcz74_1,hcz74_2,hcz74_3⟩:=Hd.c4_ BK393.out
       obtain⟨hfz74_0,hfz74_1,hfz74_2,hfz74_3⟩:=Hd.f4_ BK393.out
       obtain⟨hcz75_0,hcz75_1,hcz75_2,hcz75_3⟩:=Hd.c4_ BK394.out
       obtain⟨hfz75_0,hfz75_1,hfz75_2,hfz75_3⟩:=Hd.f4_ BK394.out
       go_wp2_with (first|((with_reducible refine gate_callee (f:=110) rfl ?_);refine Hd.gl_ 81 Try.func110 #[.agg #[.int .i64 a0_0,.int .i64 a0_1,.int .i64 a0_2,.int .i64 a0_3],.agg #[.int .i64 a1_0,.int .i64 a1_1,.int .i64 a1_2,.int .i64 a1_3]] ?_;(with_reducible refine(spec_l5Shared.calls kj17 a0_0 a0_1 a0_2 a0_3 a1_0 a1_1 a1_2 a1_3 t405 _ A35.out).mono ?_);rintro e w76 ⟨rfl,hb⟩;refine⟨_,rfl,?_⟩;replace BK393:=z187_;replace BK394:=z209_;replace HB:=z17_;(try clear hb)))
       go_ret
       exact⟨Hd.e_,Hd.b_⟩
      rw [if_pos c68] at H
      have c68b0:=beq_iff_eq.mpr c68
      have c68b1:=bne_eq_false_iff_eq.mpr c68
      clear c68
      obtain rfl:=Option.some.inj H
      have hnb69:=NB393_394.out
      have hnc69:=NB394_393.out
      obtain⟨hcz70_0,hcz70_1,hcz70_2,hcz70_3⟩:=Hd.c4_ BK393.out
      obtain⟨hfz70_0,hfz70_1,hfz70_2,hfz70_3⟩:=Hd.f4_ BK393.out
      obtain⟨hcz71_0,hcz71_1,hcz71_2,hcz71_3⟩:=Hd.c4_ BK394.out
      obtain⟨hfz71_0,hfz71_1,hfz71_2,hfz71_3⟩:=Hd.f4_ BK394.out
      go_wp2_with (first|((with_reducible refine gate_callee (f:=110) rfl ?_);refine Hd.gl_ 81 Try.func110 #[.agg #[.int .i64 a0_0,.int .i64 a0_1,.int .i64 a0_2,.int .i64 a0_3],.agg #[.int .i64 a1_0,.int .i64 a1_1,.int .i64 a1_2,.int .i64 a1_3]] ?_;(with_reducible refine(spec_l5Shared.calls kj17 a0_0 a0_1 a0_2 a0_3 a1_0 a1_1 a1_2 a1_3 t405 _ A35.out).mono ?_);rintro e w72 ⟨rfl,hb⟩;refine⟨_,rfl,?_⟩;replace BK393:=z187_;replace BK394:=z209_;replace HB:=z17_;(try clear hb)))
      go_ret
      exact⟨Hd.e_,Hd.b_⟩
     rw [if_pos c36] at H
     have c36b0:=beq_iff_eq.mpr c36
     have c36b1:=bne_eq_false_iff_eq.mpr c36
     clear c36
     replace H:=Hd.bd_ H;obtain⟨t406,A37,H⟩:=H
     replace H:=Hd.bd_ H;obtain⟨t407,A38,H⟩:=H
     by_cases c39:(wrap64 (t406*t407))<0;rotate_left
     ·
      rw [if_neg c39] at H
      have c39b0:=decide_eq_false c39
      clear c39
      obtain rfl:=Option.some.inj H
      have hnb61:=NB393_394.out
      have hnc61:=NB394_393.out
      obtain⟨hcz62_0,hcz62_1,hcz62_2,hcz62_3⟩:=Hd.c4_ BK393.out
      obtain⟨hfz62_0,hfz62_1,hfz62_2,hfz62_3⟩:=Hd.f4_ BK393.out
      obtain⟨hcz63_0,hcz63_1,hcz63_2,hcz63_3⟩:=Hd.c4_ BK394.out
      obtain⟨hfz63_0,hfz63_1,hfz63_2,hfz63_3⟩:=Hd.f4_ BK394.out
      try go_wp2_with (first|((with_reducible refine gate_callee (f:=110) rfl ?_);refine Hd.gl_ 81 Try.func110 #[.agg #[.int .i64 a0_0,.int .i64 a0_1,.int .i64 a0_2,.int .i64 a0_3],.agg #[.int .i64 a1_0,.int .i64 a1_1,.int .i64 a1_2,.int .i64 a1_3]] ?_;(with_reducible refine(spec_l5Shared.calls kj17 a0_0 a0_1 a0_2 a0_3 a1_0 a1_1 a1_2 a1_3 t405 _ A35.out).mono ?_);rintro e w64 ⟨rfl,hb⟩;refine⟨_,rfl,?_⟩;replace BK393:=z187_;replace BK394:=z209_;replace HB:=z17_;(try clear hb)))
      replace BK393:=z65_ BK393
      replace BK394:=z65_ BK394
      replace HB:=z42_
      obtain⟨s0_,s1_,s2_,s3_⟩:=Hd.HW.k4 (W0:=w64.drew) BK393
      obtain⟨s4_,s5_,s6_,s7_⟩:=Hd.HW.k4 (W0:=w64.drew) BK394
      refine Hd.HW.region (by kernel_rfl) (by kernel_rfl) ?_
      try dsimp only[List.append]
      repeat (go_big_quiet_step ((first|(go_at_call 111;with_reducible exact Hd.HW.c (spec_SideOf.calls kj17 a0_0 a0_1 a0_2 a0_3 a1_0 a1_1 t406 _ A37.out))|(go_at_call 111;with_reducible exact Hd.HW.c (spec_SideOf.calls kj17 a0_0 a0_1 a0_2 a0_3 a1_2 a1_3 t407 _ A38.out)))))
      refine wpQuiet_nil ?_
      intro _ hq_
      obtain⟨q_,rfl⟩:=hq_
      clear s0_ s1_ s2_ s3_ s4_ s5_ s6_ s7_
      replace BK393:=z63_ BK393
      replace BK394:=z63_ BK394
      replace HB:=z58_
      generalize q_.W=w67 at BK393 BK394 HB ⊢
      try simp only[i64_w,i32_w]
      try go_wp2
      go_ret
      exact⟨Hd.e_,Hd.b_⟩
     rw [if_pos c39] at H
     have c39b0:=decide_eq_true c39
     clear c39
     replace H:=Hd.bd_ H;obtain⟨t408,A40,H⟩:=H
     replace H:=Hd.bd_ H;obtain⟨t409,A41,H⟩:=H
     by_cases c42:(wrap64 (t408*t409))<0
     ·
      rw [if_pos c42] at H
      have c42b0:=decide_eq_true c42
      clear c42
      obtain rfl:=Option.some.inj H
      have hnb43:=NB393_394.out
      have hnc43:=NB394_393.out
      obtain⟨hcz44_0,hcz44_1,hcz44_2,hcz44_3⟩:=Hd.c4_ BK393.out
      obtain⟨hfz44_0,hfz44_1,hfz44_2,hfz44_3⟩:=Hd.f4_ BK393.out
      obtain⟨hcz45_0,hcz45_1,hcz45_2,hcz45_3⟩:=Hd.c4_ BK394.out
      obtain⟨hfz45_0,hfz45_1,hfz45_2,hfz45_3⟩:=Hd.f4_ BK394.out
      try go_wp2_with (first|((with_reducible refine gate_callee (f:=110) rfl ?_);refine Hd.gl_ 81 Try.func110 #[.agg #[.int .i64 a0_0,.int .i64 a0_1,.int .i64 a0_2,.int .i64 a0_3],.agg #[.int .i64 a1_0,.int .i64 a1_1,.int .i64 a1_2,.int .i64 a1_3]] ?_;(with_reducible refine(spec_l5Shared.calls kj17 a0_0 a0_1 a0_2 a0_3 a1_0 a1_1 a1_2 a1_3 t405 _ A35.out).mono ?_);rintro e w46 ⟨rfl,hb⟩;refine⟨_,rfl,?_⟩;replace BK393:=z187_;replace BK394:=z209_;replace HB:=z17_;(try clear hb)))
      replace BK393:=z65_ BK393
      replace BK394:=z65_ BK394
      replace HB:=z42_
      obtain⟨s0_,s1_,s2_,s3_⟩:=Hd.HW.k4 (W0:=w46.drew) BK393
      obtain⟨s4_,s5_,s6_,s7_⟩:=Hd.HW.k4 (W0:=w46.drew) BK394
      refine Hd.HW.region (by kernel_rfl) (by kernel_rfl) ?_
      try dsimp only[List.append]
      repeat (go_big_quiet_step ((first|(go_at_call 111;with_reducible exact Hd.HW.c (spec_SideOf.calls kj17 a0_0 a0_1 a0_2 a0_3 a1_0 a1_1 t406 _ A37.out))|(go_at_call 111;with_reducible exact Hd.HW.c (spec_SideOf.calls kj17 a0_0 a0_1 a0_2 a0_3 a1_2 a1_3 t407 _ A38.out))|(go_at_call 111;with_reducible exact Hd.HW.c (spec_SideOf.calls kj17 a1_0 a1_1 a1_2 a1_3 a0_0 a0_1 t408 _ A40.out))|(go_at_call 111;with_reducible exact Hd.HW.c (spec_SideOf.calls kj17 a1_0 a1_1 a1_2 a1_3 a0_2 a0_3 t409 _ A41.out)))))
      refine wpQuiet_nil ?_
      intro _ hq_
      obtain⟨q_,rfl⟩:=hq_
      clear s0_ s1_ s2_ s3_ s4_ s5_ s6_ s7_
      replace BK393:=z63_ BK393
      replace BK394:=z63_ BK394
      replace HB:=z58_
      generalize q_.W=w51 at BK393 BK394 HB ⊢
      try simp only[i64_w,i32_w]
      try go_wp2
      go_ret
      exact⟨Hd.e_,Hd.b_⟩
     rw [if_neg c42] at H
     have c42b0:=decide_eq_false c42
     clear c42
     obtain rfl:=Option.some.inj H
     have hnb52:=NB393_394.out
     have hnc52:=NB394_393.out
     obtain⟨hcz53_0,hcz53_1,hcz53_2,hcz53_3⟩:=Hd.c4_ BK393.out
     obtain⟨hfz53_0,hfz53_1,hfz53_2,hfz53_3⟩:=Hd.f4_ BK393.out
     obtain⟨hcz54_0,hcz54_1,hcz54_2,hcz54_3⟩:=Hd.c4_ BK394.out
     obtain⟨hfz54_0,hfz54_1,hfz54_2,hfz54_3⟩:=Hd.f4_ BK394.out
     try go_wp2_with (first|((with_reducible refine gate_callee (f:=110) rfl ?_);refine Hd.gl_ 81 Try.func110 #[.agg #[.int .i64 a0_0,.int .i64 a0_1,.int .i64 a0_2,.int .i64 a0_3],.agg #[.int .i64 a1_0,.int .i64 a1_1,.int .i64 a1_2,.int .i64 a1_3]] ?_;(with_reducible refine(spec_l5Shared.calls kj17 a0_0 a0_1 a0_2 a0_3 a1_0 a1_1 a1_2 a1_3 t405 _ A35.out).mono ?_);rintro e w55 ⟨rfl,hb⟩;refine⟨_,rfl,?_⟩;replace BK393:=z187_;replace BK394:=z209_;replace HB:=z17_;(try clear hb)))
     replace BK393:=z65_ BK393
     replace BK394:=z65_ BK394
     replace HB:=z42_
     obtain⟨s0_,s1_,s2_,s3_⟩:=Hd.HW.k4 (W0:=w55.drew) BK393
     obtain⟨s4_,s5_,s6_,s7_⟩:=Hd.HW.k4 (W0:=w55.drew) BK394
     refine Hd.HW.region (by kernel_rfl) (by kernel_rfl) ?_
     try dsimp only[List.append]
     repeat (go_big_quiet_step ((first|(go_at_call 111;with_reducible exact Hd.HW.c (spec_SideOf.calls kj17 a0_0 a0_1 a0_2 a0_3 a1_0 a1_1 t406 _ A37.out))|(go_at_call 111;with_reducible exact Hd.HW.c (spec_SideOf.calls kj17 a0_0 a0_1 a0_2 a0_3 a1_2 a1_3 t407 _ A38.out))|(go_at_call 111;with_reducible exact Hd.HW.c (spec_SideOf.calls kj17 a1_0 a1_1 a1_2 a1_3 a0_0 a0_1 t408 _ A40.out))|(go_at_call 111;with_reducible exact Hd.HW.c (spec_SideOf.calls kj17 a1_0 a1_1 a1_2 a1_3 a0_2 a0_3 t409 _ A41.out)))))
     refine wpQuiet_nil ?_
     intro _ hq_
     obtain⟨q_,rfl⟩:=hq_
     clear s0_ s1_ s2_ s3_ s4_ s5_ s6_ s7_
     replace BK393:=z63_ BK393
     replace BK394:=z63_ BK394
     replace HB:=z58_
     generalize q_.W=w60 at BK393 BK394 HB ⊢
     try simp only[i64_w,i32_w]
     try go_wp2
     go_ret
     exact⟨Hd.e_,Hd.b_⟩
mutual
def spec_IsSimple.l0:Nat→List (S75)→List (S101)→Int→Option (Bool)
 | 0,_,_,_=>none
 | k+1,x0,x3,x4=>if x4<(x3.length:Int) then (spec_IsSimple.l1 k x0 x3 x4 0) else ((spec_IsLine.f k x0).bind fun t413=>(some t413))
def spec_IsSimple.l1:Nat→List (S75)→List (S101)→Int→Int→Option (Bool)
 | 0,_,_,_,_=>none
 | k+1,x0,x3,x4,x5=>if x5<x4 then (if (wrap64 (x5+1))=x4 then (if 0≤x4 then (if x4<(x3.length:Int) then (if 0≤x5 then (if x5<(x3.length:Int) then ((spec_HowMeet.f k ((rd_T101 x3 x4).f0.f0) ((rd_T101 x3 x4).f0.f1) ((rd_T101 x3 x4).f1.f0) ((rd_T101 x3 x4).f1.f1) ((rd_T101 x3 x5).f0.f0) ((rd_T101 x3 x5).f0.f1) ((rd_T101 x3 x5).f1.f0) ((rd_T101 x3 x5).f1.f1)).bind fun t416=>(if t416=1 then (spec_IsSimple.l1 k x0 x3 x4 (wrap64 (x5+1))) else (some false))) else (none)) else (none)) else (none)) else (none)) else (if 0≤x4 then (if x4<(x3.length:Int) then (if 0≤x5 then (if x5<(x3.length:Int) then ((spec_HowMeet.f k ((rd_T101 x3 x4).f0.f0) ((rd_T101 x3 x4).f0.f1) ((rd_T101 x3 x4).f1.f0) ((rd_T101 x3 x4).f1.f1) ((rd_T101 x3 x5).f0.f0) ((rd_T101 x3 x5).f0.f1) ((rd_T101 x3 x5).f1.f0) ((rd_T101 x3 x5).f1.f1)).bind fun t419=>(if t419=0 then (spec_IsSimple.l1 k x0 x3 x4 (wrap64 (x5+1))) else (some false))) else (none)) else (none)) else (none)) else (none))) else (spec_IsSimple.l0 k x0 x3 (wrap64 (x4+1)))
end
def spec_IsSimple.f (k:Nat) (l0:List (S75)):Option (Bool):=(spec_SegmentsOf.f k l0).bind fun t410=>(spec_IsSimple.l0 k l0 t410 0)
theorem spec_IsSimple.calls (k:Nat) (A0:Option Addr) (c0:Nat) (l0:List (S75)) (r:Bool) (w:World) (hr0:Kd.C k75 w A0 l0.length l0) (hc0:l0.length≤c0) (h:spec_IsSimple.f k l0=some r) :
  Calls Try.prog 82 #[.slice A0 l0.length c0] w fun e w'=>e = .returned (.bool r)∧Below w.heap.size w w':=by
 have hu101:=Try.underlying101
 have HR0:=ak hr0
 have HC0:=ak hc0
 clear hr0 hc0
 have HB:=z52_
 have H:=h;clear h;unfold spec_IsSimple.f at H
 replace H:=Hd.bd_ H;obtain⟨t410,A2,H⟩:=H
 have H':=ak H
 clear H
 go_enter Try.func82,Try.ntmps82
 go_wp2_with (first|((with_reducible refine gate_callee (f:=95) rfl ?_);refine Hd.gl_ 8 Try.func95 #[.slice A0 l0.length c0] ?_;(with_reducible refine(spec_SegmentsOf.calls k _ _ l0 t410 _ ?side1 ?side2 A2.out).mono ?_);(case side1=>exact z37_ HR0);(case side2=>exact HC0.out);rintro e w3 ⟨v411,rfl,ho0,hb⟩;refine⟨_,rfl,?_⟩;have HO412:=z140_;replace HB:=z17_;(try clear hb);(try clear ho0)))
 go_loopg [4] k (fun kq v4 w'=>∃ (x4_1:Int),v4 = .int .i64 x4_1∧Aside0 (spec_IsSimple.l0 kq l0 t410 x4_1=some r)∧Aside0 (kq≤k)∧Aside0 (Kd.R k101 101 w' w.heap.size (fun _=>True) v411 t410)∧Aside0 (Below w.heap.size w w'))
 case atStart=>exact⟨(0),z14_,H',⟨Nat.le_refl _⟩,⟨z12_ HO412⟩,⟨Hd.b_⟩⟩
 case round =>
  clear H'
  obtain⟨x4_1,rfl,HA,HK1,HO_3,HB⟩:=hrel
  cases gk with
  | zero=>exact absurd HA.out (by simp [spec_IsSimple.l0])
  | succ k1 =>
   have H:=HA.out
   clear HA
   simp only[spec_IsSimple.l0] at H
   by_cases c4:x4_1<(t410.length:Int);rotate_left
   ·
    rw [if_neg c4] at H
    have c4b0:=z198_
    clear c4
    replace H:=Hd.bd_ H;obtain⟨t413,A28,H⟩:=H
    obtain rfl:=Option.some.inj H
    obtain⟨Ao29,co29,eo29⟩:=Kd.R_slice HO_3.out
    subst eo29
    go_wp2_with (first|((with_reducible refine gate_callee (f:=97) rfl ?_);refine Hd.gl_ 36 Try.func97 #[.slice A0 l0.length c0] ?_;(with_reducible refine(spec_IsLine.calls k1 _ _ l0 t413 _ ?side1 ?side2 A28.out).mono ?_);(case side1=>exact z15_ HR0);(case side2=>exact HC0.out);rintro e w30 ⟨rfl,hb⟩;refine⟨_,rfl,?_⟩;replace HO_3:=z152_;replace HB:=z17_;(try clear hb)))
    go_ret
    exact⟨Hd.e_,Hd.b_⟩
   rw [if_pos c4] at H
   have c4b0:=decide_eq_true c4
   clear c4
   have H':=ak H
   clear H
   obtain⟨Ao5,co5,eo5⟩:=Kd.R_slice HO_3.out
   subst eo5
   go_wp2
   go_loopg [5] k1 (fun kq v5 w'=>∃ (x5_2:Int),v5 = .int .i64 x5_2∧Aside0 (spec_IsSimple.l1 kq l0 t410 x4_1 x5_2=some r)∧Aside0 (kq≤k1)∧Aside0 (Kd.R k101 101 w' w.heap.size (fun _=>True) (.slice Ao5 t410.length co5) t410)∧Aside0 (Below w.heap.size w w'))
   case atStart=>exact⟨(0),z14_,H',⟨Nat.le_refl _⟩,⟨z12_ HO_3⟩,⟨Hd.b_⟩⟩
   case round =>
    clear H'
    try clear c4;try clear c4b0
    obtain⟨x5_2,rfl,HA,HK2,HO_3,HB⟩:=hrel
    cases gk with
    | zero=>exact absurd HA.out (by simp [spec_IsSimple.l1])
    | succ k2 =>
     have H:=HA.out
     clear HA
     simp only[spec_IsSimple.l1] at H
     by_cases c6:x5_2<x4_1;rotate_left
     ·
      rw [if_neg c6] at H
      have c6b0:=decide_eq_false c6
      clear c6
      have H':=ak H
      clear H
      go_wp2
      go_roundg k2
      case measure=>have:=HK1.out;have:=HK2.out;omega
      case rel=>exact⟨(wrap64 (x4_1+1)),z14_,H',⟨z145_⟩,⟨z12_ HO_3⟩,⟨Hd.b_⟩⟩
     rw [if_pos c6] at H
     have c6b0:=decide_eq_true c6
     clear c6
     by_cases c7:(wrap64 (x5_2+1))=x4_1;rotate_left
     ·
      rw [if_neg c7] at H
      have c7b0:=beq_eq_false_iff_ne.mpr c7
      have c7b1:=bne_iff_ne.mpr c7
      by_cases c18:0≤x4_1;rotate_left
      ·
       rw [if_neg c18] at H
       exact absurd H (by simp)
      rw [if_pos c18] at H
      have c18b0:=decide_eq_true c18
      clear c18
      by_cases c19:x4_1<(t410.length:Int);rotate_left
      ·
       rw [if_neg c19] at H
       exact absurd H (by simp)
      rw [if_pos c19] at H
      have c19b0:=decide_eq_true c19
      clear c19
      by_cases c20:0≤x5_2;rotate_left
      ·
       rw [if_neg c20] at H
       exact absurd H (by simp)
      rw [if_pos c20] at H
      have c20b0:=decide_eq_true c20
      clear c20
      by_cases c21:x5_2<(t410.length:Int);rotate_left
      ·
       rw [if_neg c21] at H
       exact absurd H (by simp)
      rw [if_pos c21] at H
      have c21b0:=decide_eq_true c21
      clear c21
      replace H:=Hd.bd_ H;obtain⟨t419,A22,H⟩:=H
      by_cases c23:t419=0;rotate_left
      ·
       rw [if_neg c23] at H
       have c23b0:=beq_eq_false_iff_ne.mpr c23
       have c23b1:=bne_iff_ne.mpr c23
       obtain rfl:=Option.some.inj H
       try go_wp2
       replace HO_3:=z97_ HO_3
       replace HB:=z42_
       have p417:0≤(x4_1:Int):=od_
       have q417:x4_1<(t410.length:Int):=od_
       obtain⟨ad417,e417,hx417_0,hx417_1,hx417_2,hx417_3⟩:=at_T101 (Kd.R_reads' HO_3.out).2.2 x4_1 p417 q417
       cases e417
       replace p417:=eq_true p417
       replace q417:=eq_true q417
       have p418:0≤(x5_2:Int):=od_
       have q418:x5_2<(t410.length:Int):=od_
       obtain⟨ad418,e418,hx418_0,hx418_1,hx418_2,hx418_3⟩:=at_T101 (Kd.R_reads' HO_3.out).2.2 x5_2 p418 q418
       obtain rfl:ad417=ad418:=(by injection e418)
       replace p418:=eq_true p418
       replace q418:=eq_true q418
       have s0_:=Hd.HW.x (W0:=wr.drew) hx417_0
       have s1_:=Hd.HW.x (W0:=wr.drew) hx417_1
       have s2_:=Hd.HW.x (W0:=wr.drew) hx417_2
       have s3_:=Hd.HW.x (W0:=wr.drew) hx417_3
       have s4_:=Hd.HW.x (W0:=wr.drew) hx418_0
       have s5_:=Hd.HW.x (W0:=wr.drew) hx418_1
       have s6_:=Hd.HW.x (W0:=wr.drew) hx418_2
       have s7_:=Hd.HW.x (W0:=wr.drew) hx418_3
       refine Hd.HW.region (by kernel_rfl) (by kernel_rfl) ?_
       repeat (go_big_quiet_step ((first|(go_at_call 96;with_reducible exact Hd.HW.c (spec_HowMeet.calls k2 ((rd_T101 t410 x4_1).f0.f0) ((rd_T101 t410 x4_1).f0.f1) ((rd_T101 t410 x4_1).f1.f0) ((rd_T101 t410 x4_1).f1.f1) ((rd_T101 t410 x5_2).f0.f0) ((rd_T101 t410 x5_2).f0.f1) ((rd_T101 t410 x5_2).f1.f0) ((rd_T101 t410 x5_2).f1.f1) t419 _ A22.out)))))
       refine wpQuiet_nil ?_
       intro _ hq_
       obtain⟨q_,rfl⟩:=hq_
       clear s0_ s1_ s2_ s3_ s4_ s5_ s6_ s7_
       replace HO_3:=z89_ HO_3
       replace HB:=z58_
       replace hx417_0:=q_.cell hx417_0
       replace hx417_1:=q_.cell hx417_1
       replace hx417_2:=q_.cell hx417_2
       replace hx417_3:=q_.cell hx417_3
       replace hx418_0:=q_.cell hx418_0
       replace hx418_1:=q_.cell hx418_1
       replace hx418_2:=q_.cell hx418_2
       replace hx418_3:=q_.cell hx418_3
       generalize q_.W=w27 at HO_3 HB hx417_0 hx417_1 hx417_2 hx417_3 hx418_0 hx418_1 hx418_2 hx418_3 ⊢
       try simp only[i64_w,i32_w]
       try go_wp2
       go_ret
       exact⟨Hd.e_,Hd.b_⟩
      rw [if_pos c23] at H
      have c23b0:=beq_iff_eq.mpr c23
      have c23b1:=bne_eq_false_iff_eq.mpr c23
      clear c23
      have H':=ak H
      clear H
      try go_wp2
      replace HO_3:=z97_ HO_3
      replace HB:=z42_
      have p417:0≤(x4_1:Int):=od_
      have q417:x4_1<(t410.length:Int):=od_
      obtain⟨ad417,e417,hx417_0,hx417_1,hx417_2,hx417_3⟩:=at_T101 (Kd.R_reads' HO_3.out).2.2 x4_1 p417 q417
      cases e417
      replace p417:=eq_true p417
      replace q417:=eq_true q417
      have p418:0≤(x5_2:Int):=od_
      have q418:x5_2<(t410.length:Int):=od_
      obtain⟨ad418,e418,hx418_0,hx418_1,hx418_2,hx418_3⟩:=at_T101 (Kd.R_reads' HO_3.out).2.2 x5_2 p418 q418
      obtain rfl:ad417=ad418:=(by injection e418)
      replace p418:=eq_true p418
      replace q418:=eq_true q418
      have s0_:=Hd.HW.x (W0:=wr.drew) hx417_0
      have s1_:=Hd.HW.x (W0:=wr.drew) hx417_1
      have s2_:=Hd.HW.x (W0:=wr.drew) hx417_2
      have s3_:=Hd.HW.x (W0:=wr.drew) hx417_3
      have s4_:=Hd.HW.x (W0:=wr.drew) hx418_0
      have s5_:=Hd.HW.x (W0:=wr.drew) hx418_1
      have s6_:=Hd.HW.x (W0:=wr.drew) hx418_2
      have s7_:=Hd.HW.x (W0:=wr.drew) hx418_3
      refine Hd.HW.region (by kernel_rfl) (by kernel_rfl) ?_
      repeat (go_big_quiet_step ((first|(go_at_call 96;with_reducible exact Hd.HW.c (spec_HowMeet.calls k2 ((rd_T101 t410 x4_1).f0.f0) ((rd_T101 t410 x4_1).f0.f1) ((rd_T101 t410 x4_1).f1.f0) ((rd_T101 t410 x4_1).f1.f1) ((rd_T101 t410 x5_2).f0.f0) ((rd_T101 t410 x5_2).f0.f1) ((rd_T101 t410 x5_2).f1.f0) ((rd_T101 t410 x5_2).f1.f1) t419 _ A22.out)))))
      refine wpQuiet_nil ?_
      intro _ hq_
      obtain⟨q_,rfl⟩:=hq_
      clear s0_ s1_ s2_ s3_ s4_ s5_ s6_ s7_
      replace HO_3:=z89_ HO_3
      replace HB:=z58_
      replace hx417_0:=q_.cell hx417_0
      replace hx417_1:=q_.cell hx417_1
      replace hx417_2:=q_.cell hx417_2
      replace hx417_3:=q_.cell hx417_3
      replace hx418_0:=q_.cell hx418_0
      replace hx418_1:=q_.cell hx418_1
      replace hx418_2:=q_.cell hx418_2
      replace hx418_3:=q_.cell hx418_3
      generalize q_.W=w25 at HO_3 HB hx417_0 hx417_1 hx417_2 hx417_3 hx418_0 hx418_1 hx418_2 hx418_3 ⊢
      try simp only[i64_w,i32_w]
      try go_wp2
      go_roundg k2
      case measure=>have:=HK1.out;have:=HK2.out;omega
      case rel=>exact⟨(wrap64 (x5_2+1)),z14_,H',⟨z145_⟩,⟨z12_ HO_3⟩,⟨Hd.b_⟩⟩
     rw [if_pos c7] at H
     have c7b0:=beq_iff_eq.mpr c7
     have c7b1:=bne_eq_false_iff_eq.mpr c7
     clear c7
     by_cases c8:0≤x4_1;rotate_left
     ·
      rw [if_neg c8] at H
      exact absurd H (by simp)
     rw [if_pos c8] at H
     have c8b0:=decide_eq_true c8
     clear c8
     by_cases c9:x4_1<(t410.length:Int);rotate_left
     ·
      rw [if_neg c9] at H
      exact absurd H (by simp)
     rw [if_pos c9] at H
     have c9b0:=decide_eq_true c9
     clear c9
     by_cases c10:0≤x5_2;rotate_left
     ·
      rw [if_neg c10] at H
      exact absurd H (by simp)
     rw [if_pos c10] at H
     have c10b0:=z212_
     clear c10
     by_cases c11:x5_2<(t410.length:Int);rotate_left
     ·
      rw [if_neg c11] at H
      exact absurd H (by simp)
     rw [if_pos c11] at H
     have c11b0:=decide_eq_true c11
     clear c11
     replace H:=Hd.bd_ H;obtain⟨t416,A12,H⟩:=H
     by_cases c13:t416=1;rotate_left
     ·
      rw [if_neg c13] at H
      have c13b0:=beq_eq_false_iff_ne.mpr c13
      have c13b1:=bne_iff_ne.mpr c13
      obtain rfl:=Option.some.inj H
      try go_wp2
      replace HO_3:=z97_ HO_3
      replace HB:=z42_
      have p414:0≤(x4_1:Int):=od_
      have q414:x4_1<(t410.length:Int):=od_
      obtain⟨ad414,e414,hx414_0,hx414_1,hx414_2,hx414_3⟩:=at_T101 (Kd.R_reads' HO_3.out).2.2 x4_1 p414 q414
      cases e414
      replace p414:=eq_true p414
      replace q414:=eq_true q414
      have p415:0≤(x5_2:Int):=od_
      have q415:x5_2<(t410.length:Int):=od_
      obtain⟨ad415,e415,hx415_0,hx415_1,hx415_2,hx415_3⟩:=at_T101 (Kd.R_reads' HO_3.out).2.2 x5_2 p415 q415
      obtain rfl:ad414=ad415:=(by injection e415)
      replace p415:=eq_true p415
      replace q415:=eq_true q415
      have s0_:=Hd.HW.x (W0:=wr.drew) hx414_0
      have s1_:=Hd.HW.x (W0:=wr.drew) hx414_1
      have s2_:=Hd.HW.x (W0:=wr.drew) hx414_2
      have s3_:=Hd.HW.x (W0:=wr.drew) hx414_3
      have s4_:=Hd.HW.x (W0:=wr.drew) hx415_0
      have s5_:=Hd.HW.x (W0:=wr.drew) hx415_1
      have s6_:=Hd.HW.x (W0:=wr.drew) hx415_2
      have s7_:=Hd.HW.x (W0:=wr.drew) hx415_3
      refine Hd.HW.region (by kernel_rfl) (by kernel_rfl) ?_
      repeat (go_big_quiet_step ((first|(go_at_call 96;with_reducible exact Hd.HW.c (spec_HowMeet.calls k2 ((rd_T101 t410 x4_1).f0.f0) ((rd_T101 t410 x4_1).f0.f1) ((rd_T101 t410 x4_1).f1.f0) ((rd_T101 t410 x4_1).f1.f1) ((rd_T101 t410 x5_2).f0.f0) ((rd_T101 t410 x5_2).f0.f1) ((rd_T101 t410 x5_2).f1.f0) ((rd_T101 t410 x5_2).f1.f1) t416 _ A12.out)))))
      refine wpQuiet_nil ?_
      intro _ hq_
      obtain⟨q_,rfl⟩:=hq_
      clear s0_ s1_ s2_ s3_ s4_ s5_ s6_ s7_
      replace HO_3:=z89_ HO_3
      replace HB:=z58_
      replace hx414_0:=q_.cell hx414_0
      replace hx414_1:=q_.cell hx414_1
      replace hx414_2:=q_.cell hx414_2
      replace hx414_3:=q_.cell hx414_3
      replace hx415_0:=q_.cell hx415_0
      replace hx415_1:=q_.cell hx415_1
      replace hx415_2:=q_.cell hx415_2
      replace hx415_3:=q_.cell hx415_3
      generalize q_.W=w17 at HO_3 HB hx414_0 hx414_1 hx414_2 hx414_3 hx415_0 hx415_1 hx415_2 hx415_3 ⊢
      try simp only[i64_w,i32_w]
      try go_wp2
      go_ret
      exact⟨Hd.e_,Hd.b_⟩
     rw [if_pos c13] at H
     have c13b0:=beq_iff_eq.mpr c13
     have c13b1:=bne_eq_false_iff_eq.mpr c13
     clear c13
     have H':=ak H
     clear H
     try go_wp2
     replace HO_3:=z97_ HO_3
     replace HB:=z42_
     have p414:0≤(x4_1:Int):=od_
     have q414:x4_1<(t410.length:Int):=od_
     obtain⟨ad414,e414,hx414_0,hx414_1,hx414_2,hx414_3⟩:=at_T101 (Kd.R_reads' HO_3.out).2.2 x4_1 p414 q414
     cases e414
     replace p414:=eq_true p414
     replace q414:=eq_true q414
     have p415:0≤(x5_2:Int):=od_
     have q415:x5_2<(t410.length:Int):=od_
     obtain⟨ad415,e415,hx415_0,hx415_1,hx415_2,hx415_3⟩:=at_T101 (Kd.R_reads' HO_3.out).2.2 x5_2 p415 q415
     obtain rfl:ad414=ad415:=(by injection e415)
     replace p415:=eq_true p415
     replace q415:=eq_true q415
     have s0_:=Hd.HW.x (W0:=wr.drew) hx414_0
     have s1_:=Hd.HW.x (W0:=wr.drew) hx414_1
     have s2_:=Hd.HW.x (W0:=wr.drew) hx414_2
     have s3_:=Hd.HW.x (W0:=wr.drew) hx414_3
     have s4_:=Hd.HW.x (W0:=wr.drew) hx415_0
     have s5_:=Hd.HW.x (W0:=wr.drew) hx415_1
     have s6_:=Hd.HW.x (W0:=wr.drew) hx415_2
     have s7_:=Hd.HW.x (W0:=wr.drew) hx415_3
     refine Hd.HW.region (by kernel_rfl) (by kernel_rfl) ?_
     repeat (go_big_quiet_step ((first|(go_at_call 96;with_reducible exact Hd.HW.c (spec_HowMeet.calls k2 ((rd_T101 t410 x4_1).f0.f0) ((rd_T101 t410 x4_1).f0.f1) ((rd_T101 t410 x4_1).f1.f0) ((rd_T101 t410 x4_1).f1.f1) ((rd_T101 t410 x5_2).f0.f0) ((rd_T101 t410 x5_2).f0.f1) ((rd_T101 t410 x5_2).f1.f0) ((rd_T101 t410 x5_2).f1.f1) t416 _ A12.out)))))
     refine wpQuiet_nil ?_
     intro _ hq_
     obtain⟨q_,rfl⟩:=hq_
     clear s0_ s1_ s2_ s3_ s4_ s5_ s6_ s7_
     replace HO_3:=z89_ HO_3
     replace HB:=z58_
     replace hx414_0:=q_.cell hx414_0
     replace hx414_1:=q_.cell hx414_1
     replace hx414_2:=q_.cell hx414_2
     replace hx414_3:=q_.cell hx414_3
     replace hx415_0:=q_.cell hx415_0
     replace hx415_1:=q_.cell hx415_1
     replace hx415_2:=q_.cell hx415_2
     replace hx415_3:=q_.cell hx415_3
     generalize q_.W=w15 at HO_3 HB hx414_0 hx414_1 hx414_2 hx414_3 hx415_0 hx415_1 hx415_2 hx415_3 ⊢
     try simp only[i64_w,i32_w]
     try go_wp2
     go_roundg k2
     case measure=>have:=HK1.out;have:=HK2.out;omega
     case rel=>exact⟨(wrap64 (x5_2+1)),z14_,H',⟨z145_⟩,⟨z12_ HO_3⟩,⟨Hd.b_⟩⟩
end Go.Proofs.Ytbbdhlggnglfgaa.MFnFeatures
