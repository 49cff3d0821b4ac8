-- Laid by this session's program pp.py, after the kit's print and texts of the session's own. Not trusted: Lean checks it.
import Derived.Test.YtbbdhlggnglfgaaZPutFeatureMx0
import Derived.Test.YtbbdhlggnglfgaaZPutFeatureMx11
import Derived.Test.YtbbdhlggnglfgaaZPutFeatureMx12
namespace Go.Proofs.Ytbbdhlggnglfgaa.MFnExactPutFeature
open Go.RowKit Go.Proofs.YtbbdhlggnglfgaaW.PrintWords Go.Proofs.YtbbdhlggnglfgaaW.PrintLast Go.Proofs.YtbbdhlggnglfgaaW.PrintMore
attribute [local go_sem] max2_int min2_int max_two min_two max_three min_three max_four min_four   -- for this text's walks alone
set_option linter.unusedVariables false
set_option maxHeartbeats 8000000
set_option maxRecDepth 100000
set_option linter.unusedSimpArgs false
mutual
def impl_IsSimple.l0 : Nat → List (S101) → Int → Int → Option (Bool)
 | 0,_,_,_ => none
 | k + 1,x3,x13,x14 => if x14 < x13 then (impl_IsSimple.l1 k x3 x14 x13 x14 x14 0) else (some true)
def impl_IsSimple.l1 : Nat → List (S101) → Int → Int → Int → Int → Int → Option (Bool)
 | 0,_,_,_,_,_,_ => none
 | k + 1,x3,x4,x13,x14,x17,x18 => if x18 < x17 then (if x18 = (wrap64 (x4 - 1)) then (if 0 ≤ x4 then (if x4 < (x3.length : Int) then (if 0 ≤ x18 then (if x18 < (x3.length : Int) then ((impl_HowMeet.f k ((rd_T101 x3 x4).f0.f0) ((rd_T101 x3 x4).f0.f1) ((rd_T101 x3 x4).f1.f0) ((rd_T101 x3 x4).f1.f1) ((rd_T101 x3 x18).f0.f0) ((rd_T101 x3 x18).f0.f1) ((rd_T101 x3 x18).f1.f0) ((rd_T101 x3 x18).f1.f1)).bind fun t399 => (if t399 = 1 then (impl_IsSimple.l1 k x3 x4 x13 x14 x17 (wrap64 (x18 + 1))) else (some false))) else (none)) else (none)) else (none)) else (none)) else (if 0 ≤ x4 then (if x4 < (x3.length : Int) then (if 0 ≤ x18 then (if x18 < (x3.length : Int) then ((impl_HowMeet.f k ((rd_T101 x3 x4).f0.f0) ((rd_T101 x3 x4).f0.f1) ((rd_T101 x3 x4).f1.f0) ((rd_T101 x3 x4).f1.f1) ((rd_T101 x3 x18).f0.f0) ((rd_T101 x3 x18).f0.f1) ((rd_T101 x3 x18).f1.f0) ((rd_T101 x3 x18).f1.f1)).bind fun t402 => (if t402 = 0 then (impl_IsSimple.l1 k x3 x4 x13 x14 x17 (wrap64 (x18 + 1))) else (some false))) else (none)) else (none)) else (none)) else (none))) else (impl_IsSimple.l0 k x3 x13 (wrap64 (x14 + 1)))
end
def impl_IsSimple.f (k : Nat) (l0 : List (S75)) : Option (Bool):=(impl_IsLine.f k l0).bind fun t393 => (if t393 = true then ((impl_SegmentsOf.f k l0).bind fun t394 => (impl_IsSimple.l0 k t394 (t394.length : Int) 0)) else (some false))
theorem impl_IsSimple.calls (k : Nat) (A0 : Option Addr) (c0 : Nat) (l0 : List (S75)) (r : Bool) (w : World) (hr0 : Kd.C k75 w A0 l0.length l0) (hc0 : l0.length ≤ c0) (h : impl_IsSimple.f k l0 = some r) :
  Calls Try.prog 74 #[.slice A0 l0.length c0] w fun e w' => e = .returned (.bool r) ∧ Below w.heap.size w w':=by
 have hu101:=Try.underlying101
 have HR0:=ak hr0
 have HC0:=ak hc0
 clear hr0 hc0
 have HB:=ak (Below.refl w.heap.size w)
 have H:=h;clear h;unfold impl_IsSimple.f at H
 replace H:=Hd.bd_ H;obtain ⟨t393,A2,H⟩:=H
 by_cases c3 : t393 = true;rotate_left
 ·
  replace c3:=Bool.eq_false_iff.mpr c3
  subst c3
  rw [if_neg (show ¬ (false = true) by decide)] at H
  obtain rfl:=Option.some.inj H
  go_enter Try.func74,Try.ntmps74
  go_wp2_with (first | ((with_reducible refine gate_callee (f:=88) rfl ?_);refine Hd.gl_ 8 Try.func88 #[.slice A0 l0.length c0] ?_;(with_reducible refine (impl_IsLine.calls k _ _ l0 false _ ?side1 ?side2 A2.out).mono ?_);(case side1 => exact z43_ HR0);(case side2 => exact HC0.out);rintro e w31 ⟨rfl,hb⟩;refine ⟨_,rfl,?_⟩;replace HB:=ak (below_step Hd.b_ hb);clear hb))
  go_ret
  exact ⟨Hd.e_,Hd.b_⟩
 subst c3
 rw [if_pos rfl] at H
 replace H:=Hd.bd_ H;obtain ⟨t394,A4,H⟩:=H
 have H':=ak H
 clear H
 go_enter Try.func74,Try.ntmps74
 go_wp2_with (first | ((with_reducible refine gate_callee (f:=88) rfl ?_);refine Hd.gl_ 8 Try.func88 #[.slice A0 l0.length c0] ?_;(with_reducible refine (impl_IsLine.calls k _ _ l0 true _ ?side1 ?side2 A2.out).mono ?_);(case side1 => exact z43_ HR0);(case side2 => exact HC0.out);rintro e w5 ⟨rfl,hb⟩;refine ⟨_,rfl,?_⟩;replace HB:=ak (below_step Hd.b_ hb);clear hb) | ((with_reducible refine gate_callee (f:=77) rfl ?_);refine Hd.gl_ 11 Try.func77 #[.slice A0 l0.length c0] ?_;(with_reducible refine (impl_SegmentsOf.calls k _ _ l0 t394 _ ?side1 ?side2 A4.out).mono ?_);(case side1 => exact z1_ HR0);(case side2 => exact HC0.out);rintro e w6 ⟨v395,rfl,ho0,hb⟩;refine ⟨_,rfl,?_⟩;have HO396:=z59_;replace HB:=ak (below_step Hd.b_ hb);clear hb ho0;obtain ⟨Ao7,co7,eo7⟩:=Kd.R_slice HO396.out;subst eo7))
 go_loopg [14] k (fun kq v14 w' => ∃ (x14_1 : Int),v14 = .int .i64 x14_1 ∧ Aside0 (impl_IsSimple.l0 kq t394 (t394.length : Int) x14_1 = some r) ∧ Aside0 (kq ≤ k) ∧ Aside0 (Kd.R k101 101 w' w.heap.size (fun _ => True) (.slice Ao7 t394.length co7) t394) ∧ Aside0 (Below w.heap.size w w'))
 case atStart => exact ⟨(0),z2_,H',⟨Nat.le_refl _⟩,⟨z4_ HO396⟩,⟨Hd.b_⟩⟩
 case round =>
  clear H'
  try clear p2;try clear c3;try clear c7
  obtain ⟨x14_1,rfl,HA,HK1,HO_3,HB⟩:=hrel
  cases gk with
  | zero => exact absurd HA.out (by simp [impl_IsSimple.l0])
  | succ k1 =>
   have H:=HA.out
   clear HA
   simp only [impl_IsSimple.l0] at H
   by_cases c8 : x14_1 < (t394.length : Int);rotate_left
   ·
    rw [if_neg c8] at H
    have c8b0:=decide_eq_false c8
    clear c8
    obtain rfl:=Option.some.inj H
    go_wp2
    go_ret
    exact ⟨Hd.e_,Hd.b_⟩
   rw [if_pos c8] at H
   have c8b0:=decide_eq_true c8
   clear c8
   have H':=ak H
   clear H
   go_wp2
   go_loopg [18] k1 (fun kq v18 w' => ∃ (x18_2 : Int),v18 = .int .i64 x18_2 ∧ Aside0 (impl_IsSimple.l1 kq t394 x14_1 (t394.length : Int) x14_1 x14_1 x18_2 = some r) ∧ Aside0 (kq ≤ k1) ∧ Aside0 (Kd.R k101 101 w' w.heap.size (fun _ => True) (.slice Ao7 t394.length co7) t394) ∧ Aside0 (Below w.heap.size w w'))
   case atStart => exact ⟨(0),z2_,H',⟨Nat.le_refl _⟩,⟨z4_ HO_3⟩,⟨Hd.b_⟩⟩
   case round =>
    clear H'
    try clear p2;try clear c3;try clear c7;try clear c8;try clear c8b0;try clear p2
    obtain ⟨x18_2,rfl,HA,HK2,HO_3,HB⟩:=hrel
    cases gk with
    | zero => exact absurd HA.out (by simp [impl_IsSimple.l1])
    | succ k2 =>
     have H:=HA.out
     clear HA
     simp only [impl_IsSimple.l1] at H
     by_cases c9 : x18_2 < x14_1;rotate_left
     ·
      rw [if_neg c9] at H
      have c9b0:=decide_eq_false c9
      clear c9
      have H':=ak H
      clear H
      go_wp2
      go_roundg k2
      case measure => have:=HK1.out;have:=HK2.out;omega
      case rel => exact ⟨(wrap64 (x14_1 + 1)),z2_,H',⟨by have:=HK1.out;have:=HK2.out;omega⟩,⟨z4_ HO_3⟩,⟨Hd.b_⟩⟩
     rw [if_pos c9] at H
     have c9b0:=decide_eq_true c9
     clear c9
     by_cases c10 : x18_2 = (wrap64 (x14_1 - 1));rotate_left
     ·
      rw [if_neg c10] at H
      have c10b0:=beq_eq_false_iff_ne.mpr c10
      have c10b1:=bne_iff_ne.mpr c10
      by_cases c21 : 0 ≤ x14_1;rotate_left
      ·
       rw [if_neg c21] at H
       exact absurd H (by simp)
      rw [if_pos c21] at H
      have c21b0:=decide_eq_true c21
      clear c21
      by_cases c22 : x14_1 < (t394.length : Int);rotate_left
      ·
       rw [if_neg c22] at H
       exact absurd H (by simp)
      rw [if_pos c22] at H
      have c22b0:=decide_eq_true c22
      clear c22
      by_cases c23 : 0 ≤ x18_2;rotate_left
      ·
       rw [if_neg c23] at H
       exact absurd H (by simp)
      rw [if_pos c23] at H
      have c23b0:=decide_eq_true c23
      clear c23
      by_cases c24 : x18_2 < (t394.length : Int);rotate_left
      ·
       rw [if_neg c24] at H
       exact absurd H (by simp)
      rw [if_pos c24] at H
      have c24b0:=decide_eq_true c24
      clear c24
      replace H:=Hd.bd_ H;obtain ⟨t402,A25,H⟩:=H
      by_cases c26 : t402 = 0;rotate_left
      ·
       rw [if_neg c26] at H
       have c26b0:=beq_eq_false_iff_ne.mpr c26
       have c26b1:=bne_iff_ne.mpr c26
       obtain rfl:=Option.some.inj H
       try go_wp2
       replace HO_3:=ak (Kd.R_drew HO_3.out)
       replace HB:=ak (below_drew1 HB.out)
       have p400 : 0 ≤ (x14_1 : Int):=of_decide_eq_true Hd.a_
       have q400 : x14_1 < (t394.length : Int):=of_decide_eq_true Hd.a_
       obtain ⟨ad400,e400,hx400_0,hx400_1,hx400_2,hx400_3⟩:=at_T101 (Kd.R_reads' HO_3.out).2.2 x14_1 p400 q400
       cases e400
       replace p400:=eq_true p400
       replace q400:=eq_true q400
       have p401 : 0 ≤ (x18_2 : Int):=of_decide_eq_true Hd.a_
       have q401 : x18_2 < (t394.length : Int):=of_decide_eq_true Hd.a_
       obtain ⟨ad401,e401,hx401_0,hx401_1,hx401_2,hx401_3⟩:=at_T101 (Kd.R_reads' HO_3.out).2.2 x18_2 p401 q401
       obtain rfl : ad400 = ad401:=(by injection e401)
       replace p401:=eq_true p401
       replace q401:=eq_true q401
       have s0_:=Hd.HW.x (W0:=wr.drew) hx400_0
       have s1_:=Hd.HW.x (W0:=wr.drew) hx400_1
       have s2_:=Hd.HW.x (W0:=wr.drew) hx400_2
       have s3_:=Hd.HW.x (W0:=wr.drew) hx400_3
       have s4_:=Hd.HW.x (W0:=wr.drew) hx401_0
       have s5_:=Hd.HW.x (W0:=wr.drew) hx401_1
       have s6_:=Hd.HW.x (W0:=wr.drew) hx401_2
       have s7_:=Hd.HW.x (W0:=wr.drew) hx401_3
       refine Hd.HW.region (by kernel_rfl) (by kernel_rfl) ?_
       repeat (go_big_quiet_step ((first | (go_at_call 76;with_reducible exact Hd.HW.c (impl_HowMeet.calls k2 ((rd_T101 t394 x14_1).f0.f0) ((rd_T101 t394 x14_1).f0.f1) ((rd_T101 t394 x14_1).f1.f0) ((rd_T101 t394 x14_1).f1.f1) ((rd_T101 t394 x18_2).f0.f0) ((rd_T101 t394 x18_2).f0.f1) ((rd_T101 t394 x18_2).f1.f0) ((rd_T101 t394 x18_2).f1.f1) t402 _ A25.out)))))
       refine wpQuiet_nil ?_
       intro _ hq_
       obtain ⟨q_,rfl⟩:=hq_
       clear s0_ s1_ s2_ s3_ s4_ s5_ s6_ s7_
       replace HO_3:=ak (Kd.R_below HO_3.out q_.b)
       replace HB:=ak (below_step HB.out q_.b)
       replace hx400_0:=q_.cell hx400_0
       replace hx400_1:=q_.cell hx400_1
       replace hx400_2:=q_.cell hx400_2
       replace hx400_3:=q_.cell hx400_3
       replace hx401_0:=q_.cell hx401_0
       replace hx401_1:=q_.cell hx401_1
       replace hx401_2:=q_.cell hx401_2
       replace hx401_3:=q_.cell hx401_3
       generalize q_.W = w30 at HO_3 HB hx400_0 hx400_1 hx400_2 hx400_3 hx401_0 hx401_1 hx401_2 hx401_3 ⊢
       try simp only [i64_w,i32_w]
       try go_wp2
       go_ret
       exact ⟨Hd.e_,Hd.b_⟩
      rw [if_pos c26] at H
      have c26b0:=beq_iff_eq.mpr c26
      have c26b1:=bne_eq_false_iff_eq.mpr c26
      clear c26
      have H':=ak H
      clear H
      try go_wp2
      replace HO_3:=ak (Kd.R_drew HO_3.out)
      replace HB:=ak (below_drew1 HB.out)
      have p400 : 0 ≤ (x14_1 : Int):=of_decide_eq_true Hd.a_
      have q400 : x14_1 < (t394.length : Int):=of_decide_eq_true Hd.a_
      obtain ⟨ad400,e400,hx400_0,hx400_1,hx400_2,hx400_3⟩:=at_T101 (Kd.R_reads' HO_3.out).2.2 x14_1 p400 q400
      cases e400
      replace p400:=eq_true p400
      replace q400:=eq_true q400
      have p401 : 0 ≤ (x18_2 : Int):=of_decide_eq_true Hd.a_
      have q401 : x18_2 < (t394.length : Int):=of_decide_eq_true Hd.a_
      obtain ⟨ad401,e401,hx401_0,hx401_1,hx401_2,hx401_3⟩:=at_T101 (Kd.R_reads' HO_3.out).2.2 x18_2 p401 q401
      obtain rfl : ad400 = ad401:=(by injection e401)
      replace p401:=eq_true p401
      replace q401:=eq_true q401
      have s0_:=Hd.HW.x (W0:=wr.drew) hx400_0
      have s1_:=Hd.HW.x (W0:=wr.drew) hx400_1
      have s2_:=Hd.HW.x (W0:=wr.drew) hx400_2
      have s3_:=Hd.HW.x (W0:=wr.drew) hx400_3
      have s4_:=Hd.HW.x (W0:=wr.drew) hx401_0
      have s5_:=Hd.HW.x (W0:=wr.drew) hx401_1
      have s6_:=Hd.HW.x (W0:=wr.drew) hx401_2
      have s7_:=Hd.HW.x (W0:=wr.drew) hx401_3
      refine Hd.HW.region (by kernel_rfl) (by kernel_rfl) ?_
      repeat (go_big_quiet_step ((first | (go_at_call 76;with_reducible exact Hd.HW.c (impl_HowMeet.calls k2 ((rd_T101 t394 x14_1).f0.f0) ((rd_T101 t394 x14_1).f0.f1) ((rd_T101 t394 x14_1).f1.f0) ((rd_T101 t394 x14_1).f1.f1) ((rd_T101 t394 x18_2).f0.f0) ((rd_T101 t394 x18_2).f0.f1) ((rd_T101 t394 x18_2).f1.f0) ((rd_T101 t394 x18_2).f1.f1) t402 _ A25.out)))))
      refine wpQuiet_nil ?_
      intro _ hq_
      obtain ⟨q_,rfl⟩:=hq_
      clear s0_ s1_ s2_ s3_ s4_ s5_ s6_ s7_
      replace HO_3:=ak (Kd.R_below HO_3.out q_.b)
      replace HB:=ak (below_step HB.out q_.b)
      replace hx400_0:=q_.cell hx400_0
      replace hx400_1:=q_.cell hx400_1
      replace hx400_2:=q_.cell hx400_2
      replace hx400_3:=q_.cell hx400_3
      replace hx401_0:=q_.cell hx401_0
      replace hx401_1:=q_.cell hx401_1
      replace hx401_2:=q_.cell hx401_2
      replace hx401_3:=q_.cell hx401_3
      generalize q_.W = w28 at HO_3 HB hx400_0 hx400_1 hx400_2 hx400_3 hx401_0 hx401_1 hx401_2 hx401_3 ⊢
      try simp only [i64_w,i32_w]
      try go_wp2
      go_roundg k2
      case measure => have:=HK1.out;have:=HK2.out;omega
      case rel => exact ⟨(wrap64 (x18_2 + 1)),z2_,H',⟨by have:=HK1.out;have:=HK2.out;omega⟩,⟨z4_ HO_3⟩,⟨Hd.b_⟩⟩
     rw [if_pos c10] at H
     have c10b0:=beq_iff_eq.mpr c10
     have c10b1:=bne_eq_false_iff_eq.mpr c10
     clear c10
     by_cases c11 : 0 ≤ x14_1;rotate_left
     ·
      rw [if_neg c11] at H
      exact absurd H (by simp)
     rw [if_pos c11] at H
     have c11b0:=decide_eq_true c11
     clear c11
     by_cases c12 : x14_1 < (t394.length : Int);rotate_left
     ·
      rw [if_neg c12] at H
      exact absurd H (by simp)
     rw [if_pos c12] at H
     have c12b0:=decide_eq_true c12
     clear c12
     by_cases c13 : 0 ≤ x18_2;rotate_left
     ·
      rw [if_neg c13] at H
      exact absurd H (by simp)
     rw [if_pos c13] at H
     have c13b0:=decide_eq_true c13
     clear c13
     by_cases c14 : x18_2 < (t394.length : Int);rotate_left
     ·
      rw [if_neg c14] at H
      exact absurd H (by simp)
     rw [if_pos c14] at H
     have c14b0:=decide_eq_true c14
     clear c14
     replace H:=Hd.bd_ H;obtain ⟨t399,A15,H⟩:=H
     by_cases c16 : t399 = 1;rotate_left
     ·
      rw [if_neg c16] at H
      have c16b0:=beq_eq_false_iff_ne.mpr c16
      have c16b1:=bne_iff_ne.mpr c16
      obtain rfl:=Option.some.inj H
      try go_wp2
      replace HO_3:=ak (Kd.R_drew HO_3.out)
      replace HB:=ak (below_drew1 HB.out)
      have p397 : 0 ≤ (x14_1 : Int):=of_decide_eq_true Hd.a_
      have q397 : x14_1 < (t394.length : Int):=of_decide_eq_true Hd.a_
      obtain ⟨ad397,e397,hx397_0,hx397_1,hx397_2,hx397_3⟩:=at_T101 (Kd.R_reads' HO_3.out).2.2 x14_1 p397 q397
      cases e397
      replace p397:=eq_true p397
      replace q397:=eq_true q397
      have p398 : 0 ≤ (x18_2 : Int):=of_decide_eq_true Hd.a_
      have q398 : x18_2 < (t394.length : Int):=of_decide_eq_true Hd.a_
      obtain ⟨ad398,e398,hx398_0,hx398_1,hx398_2,hx398_3⟩:=at_T101 (Kd.R_reads' HO_3.out).2.2 x18_2 p398 q398
      obtain rfl : ad397 = ad398:=(by injection e398)
      replace p398:=eq_true p398
      replace q398:=eq_true q398
      have s0_:=Hd.HW.x (W0:=wr.drew) hx397_0
      have s1_:=Hd.HW.x (W0:=wr.drew) hx397_1
      have s2_:=Hd.HW.x (W0:=wr.drew) hx397_2
      have s3_:=Hd.HW.x (W0:=wr.drew) hx397_3
      have s4_:=Hd.HW.x (W0:=wr.drew) hx398_0
      have s5_:=Hd.HW.x (W0:=wr.drew) hx398_1
      have s6_:=Hd.HW.x (W0:=wr.drew) hx398_2
      have s7_:=Hd.HW.x (W0:=wr.drew) hx398_3
      refine Hd.HW.region (by kernel_rfl) (by kernel_rfl) ?_
      repeat (go_big_quiet_step ((first | (go_at_call 76;with_reducible exact Hd.HW.c (impl_HowMeet.calls k2 ((rd_T101 t394 x14_1).f0.f0) ((rd_T101 t394 x14_1).f0.f1) ((rd_T101 t394 x14_1).f1.f0) ((rd_T101 t394 x14_1).f1.f1) ((rd_T101 t394 x18_2).f0.f0) ((rd_T101 t394 x18_2).f0.f1) ((rd_T101 t394 x18_2).f1.f0) ((rd_T101 t394 x18_2).f1.f1) t399 _ A15.out)))))
      refine wpQuiet_nil ?_
      intro _ hq_
      obtain ⟨q_,rfl⟩:=hq_
      clear s0_ s1_ s2_ s3_ s4_ s5_ s6_ s7_
      replace HO_3:=ak (Kd.R_below HO_3.out q_.b)
      replace HB:=ak (below_step HB.out q_.b)
      replace hx397_0:=q_.cell hx397_0
      replace hx397_1:=q_.cell hx397_1
      replace hx397_2:=q_.cell hx397_2
      replace hx397_3:=q_.cell hx397_3
      replace hx398_0:=q_.cell hx398_0
      replace hx398_1:=q_.cell hx398_1
      replace hx398_2:=q_.cell hx398_2
      replace hx398_3:=q_.cell hx398_3
      generalize q_.W = w20 at HO_3 HB hx397_0 hx397_1 hx397_2 hx397_3 hx398_0 hx398_1 hx398_2 hx398_3 ⊢
      try simp only [i64_w,i32_w]
      try go_wp2
      go_ret
      exact ⟨Hd.e_,Hd.b_⟩
     rw [if_pos c16] at H
     have c16b0:=beq_iff_eq.mpr c16
     have c16b1:=bne_eq_false_iff_eq.mpr c16
     clear c16
     have H':=ak H
     clear H
     try go_wp2
     replace HO_3:=ak (Kd.R_drew HO_3.out)
     replace HB:=ak (below_drew1 HB.out)
     have p397 : 0 ≤ (x14_1 : Int):=of_decide_eq_true Hd.a_
     have q397 : x14_1 < (t394.length : Int):=of_decide_eq_true Hd.a_
     obtain ⟨ad397,e397,hx397_0,hx397_1,hx397_2,hx397_3⟩:=at_T101 (Kd.R_reads' HO_3.out).2.2 x14_1 p397 q397
     cases e397
     replace p397:=eq_true p397
     replace q397:=eq_true q397
     have p398 : 0 ≤ (x18_2 : Int):=of_decide_eq_true Hd.a_
     have q398 : x18_2 < (t394.length : Int):=of_decide_eq_true Hd.a_
     obtain ⟨ad398,e398,hx398_0,hx398_1,hx398_2,hx398_3⟩:=at_T101 (Kd.R_reads' HO_3.out).2.2 x18_2 p398 q398
     obtain rfl : ad397 = ad398:=(by injection e398)
     replace p398:=eq_true p398
     replace q398:=eq_true q398
     have s0_:=Hd.HW.x (W0:=wr.drew) hx397_0
     have s1_:=Hd.HW.x (W0:=wr.drew) hx397_1
     have s2_:=Hd.HW.x (W0:=wr.drew) hx397_2
     have s3_:=Hd.HW.x (W0:=wr.drew) hx397_3
     have s4_:=Hd.HW.x (W0:=wr.drew) hx398_0
     have s5_:=Hd.HW.x (W0:=wr.drew) hx398_1
     have s6_:=Hd.HW.x (W0:=wr.drew) hx398_2
     have s7_:=Hd.HW.x (W0:=wr.drew) hx398_3
     refine Hd.HW.region (by kernel_rfl) (by kernel_rfl) ?_
     repeat (go_big_quiet_step ((first | (go_at_call 76;with_reducible exact Hd.HW.c (impl_HowMeet.calls k2 ((rd_T101 t394 x14_1).f0.f0) ((rd_T101 t394 x14_1).f0.f1) ((rd_T101 t394 x14_1).f1.f0) ((rd_T101 t394 x14_1).f1.f1) ((rd_T101 t394 x18_2).f0.f0) ((rd_T101 t394 x18_2).f0.f1) ((rd_T101 t394 x18_2).f1.f0) ((rd_T101 t394 x18_2).f1.f1) t399 _ A15.out)))))
     refine wpQuiet_nil ?_
     intro _ hq_
     obtain ⟨q_,rfl⟩:=hq_
     clear s0_ s1_ s2_ s3_ s4_ s5_ s6_ s7_
     replace HO_3:=ak (Kd.R_below HO_3.out q_.b)
     replace HB:=ak (below_step HB.out q_.b)
     replace hx397_0:=q_.cell hx397_0
     replace hx397_1:=q_.cell hx397_1
     replace hx397_2:=q_.cell hx397_2
     replace hx397_3:=q_.cell hx397_3
     replace hx398_0:=q_.cell hx398_0
     replace hx398_1:=q_.cell hx398_1
     replace hx398_2:=q_.cell hx398_2
     replace hx398_3:=q_.cell hx398_3
     generalize q_.W = w18 at HO_3 HB hx397_0 hx397_1 hx397_2 hx397_3 hx398_0 hx398_1 hx398_2 hx398_3 ⊢
     try simp only [i64_w,i32_w]
     try go_wp2
     go_roundg k2
     case measure => have:=HK1.out;have:=HK2.out;omega
     case rel => exact ⟨(wrap64 (x18_2 + 1)),z2_,H',⟨by have:=HK1.out;have:=HK2.out;omega⟩,⟨z4_ HO_3⟩,⟨Hd.b_⟩⟩
def impl_around.l0 : Nat → List (S75) → List (S101) → List (S75) → Int → Int → Option ((List (S101)))
 | 0,_,_,_,_,_ => none
 | k + 1,x0,x3,x7,x8,x9 => if x9 < x8 then (if 0 ≤ x9 then (if x9 < (x7.length : Int) then (if (x0.length : Int) = 0 then (none) else (if 0 ≤ (Int.tmod (wrap64 (x9 + 1)) (x0.length : Int)) then (if (Int.tmod (wrap64 (x9 + 1)) (x0.length : Int)) < (x0.length : Int) then (if x3.length < 4398046511104 then (impl_around.l0 k x0 (x3 ++ [(⟨(⟨(rd_T75 x7 x9).f0,(rd_T75 x7 x9).f1⟩ : S75),(⟨(rd_T75 x0 (Int.tmod (wrap64 (x9 + 1)) (x0.length : Int))).f0,(rd_T75 x0 (Int.tmod (wrap64 (x9 + 1)) (x0.length : Int))).f1⟩ : S75)⟩ : S101)]) x7 x8 (wrap64 (x9 + 1))) else (none)) else (none)) else (none))) else (none)) else (none)) else (some x3)
def impl_around.f (k : Nat) (l0 : List (S75)) : Option ((List (S101))):=impl_around.l0 k l0 (([] : List (S101))) l0 (l0.length : Int) 0
def impl_around.T5 : Bool × List (List Nat × List Nat):=(true,[([],[]),([],[]),([],[]),([],[]),([3],[3]),([],[]),([5],[5]),([4,6],[4,6]),([2,7],[2,7]),([8],[8]),([1,9],[1,9]),([10],[10]),([0,11],[0,11]),([12,12,0,1,2,3,4,5,6,7,8,9,10,11,12],[0,12])])
def impl_around.B5 : List Nat:=[0,0,0,0,8,0,32,120,252,508,1022,2046,4095,8191]
theorem impl_around.tab5 : rtab .any (opsOf Try.f89 5) = impl_around.T5:=by kernel_rfl
theorem impl_around.bits5 : waitsOk impl_around.T5.2 impl_around.B5 = true:=by kernel_rfl
theorem impl_around.calls (k : Nat) (A0 : Option Addr) (c0 : Nat) (l0 : List (S75)) (r : List (S101)) (w : World) (hr0 : Kd.C k75 w A0 l0.length l0) (hc0 : l0.length ≤ c0) (h : impl_around.f k l0 = some r) :
  Calls Try.prog 89 #[.slice A0 l0.length c0] w fun e w' => ∃ v0_ : Value,e = .returned (v0_) ∧ Kd.R k101 101 w' w.heap.size (fun _ => True) v0_ r ∧ Below w.heap.size w w':=by
 have hu75:=Try.underlying75
 have hu101:=Try.underlying101
 have HR0:=ak hr0
 have HC0:=ak hc0
 clear hr0 hc0
 have HB:=ak (Below.refl w.heap.size w)
 have H:=h;clear h;unfold impl_around.f at H
 generalize hy403 : (([] : List (S101))) = y403 at H;have Ny403:=ak hy403.symm;clear hy403;try rw [Option.bind_some] at H
 have H':=ak H
 clear H
 go_enter Try.func89,Try.ntmps89
 go_wp2_with (first | ((with_reducible refine gate_dst (N:=6) rfl ?_);refine Kd.R_lit k101 _ 101 ?hg (N:=6) ?hd (xs:=([] : List (S101))) (inner:=[]) (ok:=fun _ => True) (okp:=fun _ => True) ?hr ?hp (fun _ hk => hk) trivial (Below.refl _ _) (Nat.le_refl _) (by simp) ?_;(case hd => rfl);(case hg => rfl);(case hr => exact z24_);(case hp => exact (Reps.none _ _));intro v404 w2 ho3 hb hg_ hnew_;clear hg_ hnew_;(first | rw [← Ny403.out] at ho3 | (simp only [Int.reduceToNat] at ho3;rw [← Ny403.out] at ho3));have HO405:=ak (Kd.R_lower ho3 (below_size Hd.b_));replace HB:=ak (below_step Hd.b_ hb);clear hb ho3))
 go_loopg [3,9] k (fun kq v3 v9 w' => ∃ (x3_1 : List (S101)) (x9_1 : Int),v9 = .int .i64 x9_1 ∧ Aside0 (impl_around.l0 kq l0 x3_1 l0 (l0.length : Int) x9_1 = some r) ∧ Aside0 (kq ≤ k) ∧ Aside0 (Kd.R k101 101 w' w.heap.size (fun _ => True) v3 x3_1) ∧ Aside0 (Below w.heap.size w w'))
 case atStart => exact ⟨(y403),(0),z2_,H',⟨Nat.le_refl _⟩,⟨z4_ HO405⟩,⟨Hd.b_⟩⟩
 case round =>
  clear H'
  try clear p2
  obtain ⟨x3_1,x9_1,rfl,HA,HK1,HO_3,HB⟩:=hrel
  cases gk with
  | zero => exact absurd HA.out (by simp [impl_around.l0])
  | succ k1 =>
   have H:=HA.out
   clear HA
   simp only [impl_around.l0] at H
   by_cases c4 : x9_1 < (l0.length : Int);rotate_left
   ·
    rw [if_neg c4] at H
    have c4b0:=decide_eq_false c4
    clear c4
    obtain rfl:=Option.some.inj H
    go_wp2
    go_ret
    exact ⟨_,Hd.e_,z4_ HO_3,Hd.b_⟩
   rw [if_pos c4] at H
   have c4b0:=decide_eq_true c4
   clear c4
   by_cases c5 : 0 ≤ x9_1;rotate_left
   ·
    rw [if_neg c5] at H
    exact absurd H (by simp)
   rw [if_pos c5] at H
   have c5b0:=decide_eq_true c5
   clear c5
   by_cases c6 : x9_1 < (l0.length : Int);rotate_left
   ·
    rw [if_neg c6] at H
    exact absurd H (by simp)
   rw [if_pos c6] at H
   have c6b0:=decide_eq_true c6
   clear c6
   by_cases c7 : (l0.length : Int) = 0
   ·
    rw [if_pos c7] at H
    exact absurd H (by simp)
   rw [if_neg c7] at H
   have c7b0:=beq_eq_false_iff_ne.mpr c7
   have c7b1:=bne_iff_ne.mpr c7
   have c7b2 : ¬ (l0 = []):=fun h_ => c7 (by rw [h_];rfl)
   obtain ⟨ji8,hji8⟩ : ∃ j_ : Int,(Int.tmod (wrap64 (x9_1 + 1)) (l0.length : Int)) = j_:=⟨_,rfl⟩
   replace H : (if 0 ≤ (ji8) then (if (ji8) < (l0.length : Int) then (if x3_1.length < 4398046511104 then (impl_around.l0 k1 l0 (x3_1 ++ [(⟨(⟨(rd_T75 l0 x9_1).f0,(rd_T75 l0 x9_1).f1⟩ : S75),(⟨(rd_T75 l0 (ji8)).f0,(rd_T75 l0 (ji8)).f1⟩ : S75)⟩ : S101)]) l0 (l0.length : Int) (wrap64 (x9_1 + 1))) else (none)) else (none)) else (none)) = some r:=by first | (rw [hji8] at H;exact H) | (simp only [hji8] at H ⊢;exact H)
   by_cases c9 : 0 ≤ (ji8);rotate_left
   ·
    rw [if_neg c9] at H
    exact absurd H (by simp)
   rw [if_pos c9] at H
   have c9b0:=decide_eq_true c9
   clear c9
   by_cases c10 : (ji8) < (l0.length : Int);rotate_left
   ·
    rw [if_neg c10] at H
    exact absurd H (by simp)
   rw [if_pos c10] at H
   have c10b0:=decide_eq_true c10
   clear c10
   by_cases c11 : x3_1.length < 4398046511104;rotate_left
   ·
    rw [if_neg c11] at H
    exact absurd H (by simp)
   rw [if_pos c11] at H
   have LMc11:=ak c11
   clear c11
   generalize hy409 : (x3_1 ++ [(⟨(⟨(rd_T75 l0 x9_1).f0,(rd_T75 l0 x9_1).f1⟩ : S75),(⟨(rd_T75 l0 (ji8)).f0,(rd_T75 l0 (ji8)).f1⟩ : S75)⟩ : S101)]) = y409 at H;have Ny409:=ak hy409.symm;clear hy409;try rw [Option.bind_some] at H
   have H':=ak H
   clear H
   have p406 : 0 ≤ (x9_1 : Int):=of_decide_eq_true Hd.a_
   have q406 : x9_1 < (l0.length : Int):=of_decide_eq_true Hd.a_
   obtain ⟨ad406,e406,hx406_0,hx406_1⟩:=at_T75 HR0.out x9_1 p406 q406
   cases e406
   replace hx406_0:=(HB.out.cell (World.block_lt_of_cell? w _ hx406_0)).trans hx406_0
   replace hx406_1:=(HB.out.cell (World.block_lt_of_cell? w _ hx406_1)).trans hx406_1
   replace p406:=eq_true p406
   replace q406:=eq_true q406
   try go_wp2_with (first | ((with_reducible refine gate_dst (N:=5) rfl ?_);refine Hd.box_ 5 (#[.int .i64 0,.int .i64 0]) 75 ?_;intro gb407 hg w12 hbox hb;replace HO_3:=z71_;have BK407:=ak (hbox);have GW407:=ak ((Hd.g_ hg Hd.b_ : w.heap.size ≤ gb407));have GE407:=ak ((Hd.g_ hg Hd.b_ : w.heap.size ≤ gb407));replace HB:=ak (below_step Hd.b_ hb);clear hb hbox hg;obtain ⟨hcz13_0,hcz13_1⟩:=Hd.c2_ BK407.out;obtain ⟨hfz13_0,hfz13_1⟩:=Hd.f2_ BK407.out))
   have n0_ : Aside0 (Kd.R k101 101 ((w12.setCell ⟨gb407,0,none⟩ (.int .i64 ((rd_T75 l0 x9_1).f0))).setCell ⟨gb407,1,none⟩ (.int .i64 ((rd_T75 l0 x9_1).f1))) w.heap.size (fun _ => True) u3 x3_1):=⟨by (with_reducible repeat (first | apply Kd.R_alloc | apply Kd.R_drewN | apply Kd.R_drew));exact Kd.R_mono (Kd.R_far (p:=⟨gb407,1,none⟩) (Kd.R_far (p:=⟨gb407,0,none⟩) (Kd.R_types HO_3.out BK407.out (by decide)) (fun _ hk => hk.2) (.int .i64 ((rd_T75 l0 x9_1).f0))) (fun _ hk => hk.2) (.int .i64 ((rd_T75 l0 x9_1).f1))) (fun _ hk => trivial)⟩
   have n1_ : Aside0 (((w12.setCell ⟨gb407,0,none⟩ (.int .i64 ((rd_T75 l0 x9_1).f0))).setCell ⟨gb407,1,none⟩ (.int .i64 ((rd_T75 l0 x9_1).f1))).heap[gb407]? = some (.cells #[.int .i64 ((rd_T75 l0 x9_1).f0),.int .i64 ((rd_T75 l0 x9_1).f1)] 75 (0,0))):=⟨by (with_reducible repeat (first | refine blk_drewN ?_ _ | refine blk_drew ?_ | refine blk_alloc ?_ _));refine blk_put (cs:=#[.int .i64 ((rd_T75 l0 x9_1).f0),.int .i64 0]) ?_ 1 _ rfl;(with_reducible repeat (first | refine blk_drewN ?_ _ | refine blk_drew ?_ | refine blk_alloc ?_ _));refine blk_put (cs:=#[.int .i64 0,.int .i64 0]) ?_ 0 _ rfl;(with_reducible repeat (first | refine blk_drewN ?_ _ | refine blk_drew ?_ | refine blk_alloc ?_ _));exact BK407.out⟩
   have n2_ : Aside0 (Below w.heap.size w ((w12.setCell ⟨gb407,0,none⟩ (.int .i64 ((rd_T75 l0 x9_1).f0))).setCell ⟨gb407,1,none⟩ (.int .i64 ((rd_T75 l0 x9_1).f1)))):=⟨Hd.b_⟩
   try clear HO_3;try clear BK407;try clear HB
   generalize ((w12.setCell ⟨gb407,0,none⟩ (.int .i64 ((rd_T75 l0 x9_1).f0))).setCell ⟨gb407,1,none⟩ (.int .i64 ((rd_T75 l0 x9_1).f1))) = w14 at n0_ n1_ n2_ ⊢
   have HO_3:=n0_
   have BK407:=n1_
   have HB:=n2_
   clear n0_ n1_ n2_
   replace HO_3:=ak (Kd.R_drew HO_3.out)
   replace BK407:=ak (blk_drew BK407.out)
   replace HB:=ak (below_drew1 HB.out)
   have p408 : 0 ≤ ((ji8) : Int):=of_decide_eq_true Hd.a_
   have q408 : (ji8) < (l0.length : Int):=of_decide_eq_true Hd.a_
   obtain ⟨ad408,e408,hx408_0,hx408_1⟩:=at_T75 HR0.out (ji8) p408 q408
   have hw408_1:=hx408_1
   have hw408_0:=hx408_0
   obtain rfl : ad406 = ad408:=(by injection e408)
   replace hx408_0:=(HB.out.cell (World.block_lt_of_cell? w _ hx408_0)).trans hx408_0
   replace hx408_1:=(HB.out.cell (World.block_lt_of_cell? w _ hx408_1)).trans hx408_1
   replace p408:=eq_true p408
   replace q408:=eq_true q408
   refine start_ (n:=14) (S:=fun w' => w'.cell? ⟨gb407,0,none⟩ = some (.int .i64 ((rd_T75 l0 x9_1).f0)) ∧ w'.cell? ⟨gb407,1,none⟩ = some (.int .i64 ((rd_T75 l0 x9_1).f1)) ∧ w'.cell? (ad406.add (((ji8)).toNat * 2)) = some (.int .i64 ((rd_T75 l0 (ji8)).f0)) ∧ w'.cell? ⟨(ad406.add (((ji8)).toNat * 2)).block,(ad406.add (((ji8)).toNat * 2)).off + 1,none⟩ = some (.int .i64 ((rd_T75 l0 (ji8)).f1))) (ds:=[]) #[N_,N_,N_,N_,N_,N_,N_,N_,N_,N_,N_,N_,N_,N_] (by kernel_rfl) rfl rfl ⟨(blk_cell BK407.out 0).trans rfl,(blk_cell BK407.out 1).trans rfl,((HB.out.cell (World.block_lt_of_cell? w _ hw408_0)).trans hw408_0),((HB.out.cell (World.block_lt_of_cell? w _ hw408_1)).trans hw408_1)⟩ (fun hHeld => ?_);refine with_tabW impl_around.tab5 impl_around.bits5 (fun HT_ HW_ => ?_)
   generalize w14.drew = w15 at HO_3 BK407 HB hx408_0 hx408_1 hHeld ⊢
   refine Hd.p_ HT_ 0 (some 14) #[Y_,N_,N_,N_,N_,N_,N_,N_,N_,N_,N_,N_,N_,N_] ?_
   refine Hd.p_ HT_ 2 (some 16) #[Y_,N_,Y_,N_,N_,N_,N_,N_,N_,N_,N_,N_,N_,N_] ?_
   refine Hd.p_ HT_ 3 (some 17) #[Y_,N_,Y_,Y_,N_,N_,N_,N_,N_,N_,N_,N_,N_,N_] ?_
   refine Hd.p_ HT_ 4 (some 18) #[Y_,N_,Y_,Y_,Y_,N_,N_,N_,N_,N_,N_,N_,N_,N_] ?_
   refine Hd.p_ HT_ 5 (some 19) #[Y_,N_,Y_,Y_,Y_,Y_,N_,N_,N_,N_,N_,N_,N_,N_] ?_
   refine Hd.p_ HT_ 6 (some 20) #[Y_,N_,Y_,Y_,Y_,Y_,Y_,N_,N_,N_,N_,N_,N_,N_] ?_
   refine Hd.p_ HT_ 7 (some 21) #[Y_,N_,Y_,Y_,Y_,Y_,Y_,Y_,N_,N_,N_,N_,N_,N_] ?_
   refine Hd.p_ HT_ 8 (some 22) #[Y_,N_,Y_,Y_,Y_,Y_,Y_,Y_,Y_,N_,N_,N_,N_,N_] ?_
   refine Hd.t_ HT_ HW_ hHeld 1 (some 15) #[Y_,Y_,Y_,Y_,Y_,Y_,Y_,Y_,Y_,N_,N_,N_,N_,N_] ?_
   refine Hd.t_ HT_ HW_ hHeld 9 (some 23) #[Y_,Y_,Y_,Y_,Y_,Y_,Y_,Y_,Y_,Y_,N_,N_,N_,N_] ?_
   refine Hd.p_ HT_ 10 (some 24) #[Y_,Y_,Y_,Y_,Y_,Y_,Y_,Y_,Y_,Y_,Y_,N_,N_,N_] ?_
   refine Hd.o_ HT_ 11 (some 25) #[Y_,Y_,Y_,Y_,Y_,Y_,Y_,Y_,Y_,Y_,Y_,Y_,N_,N_] (fun K hK => ?_)
   refine value_ (w1:=?_) (v:=?_) (by rfl) rfl ?_ ?_
   rotate_left 2
   ·
    go_simp
    constructor
    ·
     rfl
    ·
     rfl
   refine hK.out _ _ ⟨(blk_cell (blk_alloc BK407.out _) 0).trans rfl,(blk_cell (blk_alloc BK407.out _) 1).trans rfl,(World.cell?_alloc_lt _ _ _ (World.block_lt_of_cell? _ _ (((HB.out.cell (World.block_lt_of_cell? w _ hw408_0)).trans hw408_0)))).trans (((HB.out.cell (World.block_lt_of_cell? w _ hw408_0)).trans hw408_0)),(World.cell?_alloc_lt _ _ _ (World.block_lt_of_cell? _ _ (((HB.out.cell (World.block_lt_of_cell? w _ hw408_1)).trans hw408_1)))).trans (((HB.out.cell (World.block_lt_of_cell? w _ hw408_1)).trans hw408_1))⟩ (fun hHeld => ?_)
   clear hK K
   refine Hd.n_ (some 25) ?_
   refine Hd.o_ HT_ 12 (some 26) #[Y_,Y_,Y_,Y_,Y_,Y_,Y_,Y_,Y_,Y_,Y_,Y_,Y_,N_] (fun K hK => ?_)
   refine Kd.R_append_step k101 (w0:=w) w.heap.size (by rfl) (.tmp 14) (.tmp 25) 79 101 (.agg #[(.int .i64 0),(.int .i64 0),(.int .i64 0),(.int .i64 0)]) 32 rfl Try.underlying79 info101 rfl (by decide) (by omega) u3 x3_1 (⟨(⟨(rd_T75 l0 x9_1).f0,(rd_T75 l0 x9_1).f1⟩ : S75),(⟨(rd_T75 l0 (ji8)).f0,(rd_T75 l0 (ji8)).f1⟩ : S75)⟩ : S101) [.int .i64 ((rd_T75 l0 x9_1).f0),.int .i64 ((rd_T75 l0 x9_1).f1),.int .i64 ((rd_T75 l0 (ji8)).f0),.int .i64 ((rd_T75 l0 (ji8)).f1)] (fun _ => True) (fun _ => False) rfl rfl ?aP (fun _ hk => hk.elim) ?aF ?aO ?aB ?aS ?aL ?_
   (case aP => exact k101_mkM _ _ _ (⟨(⟨(rd_T75 l0 x9_1).f0,(rd_T75 l0 x9_1).f1⟩ : S75),(⟨(rd_T75 l0 (ji8)).f0,(rd_T75 l0 (ji8)).f1⟩ : S75)⟩ : S101))
   (case aB => exact Hd.b_)
   (case aF => exact (fun _ _ => trivial))
   (case aO => exact (Hd.r_ HO_3))
   (case aS => exact (below_size Hd.b_))
   (case aL => have:=LMc11.out;omega)
   intro v410 w16 ho hb hg hat
   rw [← Ny409.out] at ho
   have n0_:=ak (blk_grown (g:=gb407) (o:=.cells #[.int .i64 ((rd_T75 l0 x9_1).f0),.int .i64 ((rd_T75 l0 x9_1).f1)] 75 (0,0)) (Hd.k_ BK407) hg (Kd.R_ne HO_3.out BK407.out (by decide)))
   have n1_:=ak (hb)
   have n2_:=ak (ho)
   clear BK407
   clear HB
   clear HO_3
   have BK407:=n0_
   have HB:=n1_
   have HO411:=n2_
   clear n0_ n1_ n2_
   clear ho hb hg hat
   refine hK.out _ _ ⟨(blk_cell BK407.out 0).trans rfl,(blk_cell BK407.out 1).trans rfl,((HB.out.cell (World.block_lt_of_cell? w _ hw408_0)).trans hw408_0),((HB.out.cell (World.block_lt_of_cell? w _ hw408_1)).trans hw408_1)⟩ (fun hHeld => ?_)
   clear hK K
   refine Hd.n_ (some 26) ?_
   refine Hd.p_ HT_ 13 (some 3) #[Y_,Y_,Y_,Y_,Y_,Y_,Y_,Y_,Y_,Y_,Y_,Y_,Y_,Y_] ?_
   refine done_ (done_of HT_.out (by kernel_rfl)) ?_
   try go_wp2
   go_roundg k1
   case measure => have:=HK1.out;omega
   case rel => exact ⟨(y409),(wrap64 (x9_1 + 1)),z2_,H',⟨by have:=HK1.out;omega⟩,⟨z4_ HO411⟩,⟨Hd.b_⟩⟩
end Go.Proofs.Ytbbdhlggnglfgaa.MFnExactPutFeature
