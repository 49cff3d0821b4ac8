-- Laid by this session's program pp.py, after the kit's print and texts of the session's own. Not trusted: Lean checks it.
import Derived.Test.YtbbdhlggnglfgaaZPutFeatureMx0
import Derived.Test.YtbbdhlggnglfgaaZPutFeatureMx9
namespace Go.Proofs.Ytbbdhlggnglfgaa.MFnExactPutFeature
open Go.RowKit Go.Proofs.YtbbdhlggnglfgaaW.PrintWords Go.Proofs.YtbbdhlggnglfgaaW.PrintLast Go.Proofs.YtbbdhlggnglfgaaW.PrintMore
attribute [local go_sem] max2_int min2_int max_two min_two max_three min_three max_four min_four   -- for this text's walks alone
set_option linter.unusedVariables false
set_option maxHeartbeats 8000000
set_option maxRecDepth 100000
set_option linter.unusedSimpArgs false
def impl_SideOf.j0 : Nat → Bool → Int → Int → Int → Int → Int → Int → Option (Int)
 | 0,_,_,_,_,_,_,_ => none
 | k + 1,x19,x330000,x330001,x331000,x331001,x332000,x332001 => if x19 = true then (some 0) else ((impl_cross.f x330000 x330001 x331000 x331001 x332000 x332001).bind fun t335 => ((cmp_Compare_int.f t335 0).bind fun t336 => (some t336)))
def impl_SideOf.f (k : Nat) (a0_0 : Int) (a0_1 : Int) (a1_0 : Int) (a1_1 : Int) (a2_0 : Int) (a2_1 : Int) : Option (Int):=(impl_IsPoint.f a0_0 a0_1).bind fun t332 => (if t332 = true then ((impl_IsPoint.f a1_0 a1_1).bind fun t333 => (if t333 = true then ((impl_IsPoint.f a2_0 a2_1).bind fun t334 => (impl_SideOf.j0 k (!t334) a0_0 a0_1 a1_0 a1_1 a2_0 a2_1)) else (impl_SideOf.j0 k true a0_0 a0_1 a1_0 a1_1 a2_0 a2_1))) else (impl_SideOf.j0 k true a0_0 a0_1 a1_0 a1_1 a2_0 a2_1))
theorem impl_SideOf.calls (k : Nat) (a0_0 : Int) (a0_1 : Int) (a1_0 : Int) (a1_1 : Int) (a2_0 : Int) (a2_1 : Int) (r : Int) (w : World) (h : impl_SideOf.f k a0_0 a0_1 a1_0 a1_1 a2_0 a2_1 = some r) :
  Calls Try.prog 91 #[.agg #[.int .i64 a0_0,.int .i64 a0_1],.agg #[.int .i64 a1_0,.int .i64 a1_1],.agg #[.int .i64 a2_0,.int .i64 a2_1]] w fun e w' => e = .returned (.int .i64 r) ∧ Below w.heap.size w w':=by
 have hu75:=Try.underlying75
 have HB:=ak (Below.refl w.heap.size w)
 have H:=h;clear h;unfold impl_SideOf.f at H
 have HC4:=ak H
 clear H
 go_enter Try.func91,Try.ntmps91
 go_upto_region 1 with (first | ((with_reducible refine gate_dst (N:=3) rfl ?_);refine Hd.box_ 3 (#[.int .i64 a0_0,.int .i64 a0_1]) 75 ?_;intro gb329 hg w5 hbox hb;have BK329:=ak (hbox);have GW329:=ak ((Hd.g_ hg Hd.b_ : w.heap.size ≤ gb329));have GE329:=ak ((Hd.g_ hg Hd.b_ : w.heap.size ≤ gb329));replace HB:=ak (below_step Hd.b_ hb);clear hb hbox hg) | ((with_reducible refine gate_dst (N:=4) rfl ?_);refine Hd.box_ 4 (#[.int .i64 a1_0,.int .i64 a1_1]) 75 ?_;intro gb330 hg w6 hbox hb;have BK330:=ak (hbox);have GW330:=ak ((Hd.g_ hg Hd.b_ : w.heap.size ≤ gb330));have GE330:=ak ((Hd.g_ hg Hd.b_ : w.heap.size ≤ gb330));replace HB:=ak (below_step Hd.b_ hb);have NB329_330:=ak ((Hd.lt_ BK329 hg));have NB330_329:=ak ((Hd.gt_ BK329 hg));replace BK329:=ak (Hd.kb_ BK329 hb);clear hb hbox hg) | ((with_reducible refine gate_dst (N:=5) rfl ?_);refine Hd.box_ 5 (#[.int .i64 a2_0,.int .i64 a2_1]) 75 ?_;intro gb331 hg w7 hbox hb;have BK331:=ak (hbox);have GW331:=ak ((Hd.g_ hg Hd.b_ : w.heap.size ≤ gb331));have GE331:=ak ((Hd.g_ hg Hd.b_ : w.heap.size ≤ gb331));replace HB:=ak (below_step Hd.b_ hb);have NB329_331:=ak ((Hd.lt_ BK329 hg));have NB331_329:=ak ((Hd.gt_ BK329 hg));replace BK329:=ak (Hd.kb_ BK329 hb);have NB330_331:=ak ((Hd.lt_ BK330 hg));have NB331_330:=ak ((Hd.gt_ BK330 hg));replace BK330:=ak (Hd.kb_ BK330 hb);clear hb hbox hg))
 (try simp only [Act.put,List.setIfInBounds_toArray,List.set_cons_zero,List.set_cons_succ])
 go_cut [19] (fun v19 wc => ∃ (kq : Nat) (x19_3 : Bool),v19 = .bool x19_3 ∧ Aside0 (impl_SideOf.j0 kq x19_3 a0_0 a0_1 a1_0 a1_1 a2_0 a2_1 = some r) ∧ Aside0 (kq ≤ k) ∧ Aside0 (wc.heap[gb329]? = some (.cells #[.int .i64 a0_0,.int .i64 a0_1] 75 (0,0))) ∧ Aside0 (wc.heap[gb330]? = some (.cells #[.int .i64 a1_0,.int .i64 a1_1] 75 (0,0))) ∧ Aside0 (wc.heap[gb331]? = some (.cells #[.int .i64 a2_0,.int .i64 a2_1] 75 (0,0))) ∧ Aside0 (Below w.heap.size w wc))
 case first =>
  have H:=HC4.out
  clear HC4
  replace H:=Hd.bd_ H;obtain ⟨t332,A8,H⟩:=H
  by_cases c9 : t332 = true;rotate_left
  ·
   replace c9:=Bool.eq_false_iff.mpr c9
   subst c9
   rw [if_neg (show ¬ (false = true) by decide)] at H
   have H':=ak H
   clear H
   have hnb29:=NB329_330.out
   have hnc29:=NB330_329.out
   have hnb30:=NB329_331.out
   have hnc30:=NB331_329.out
   obtain ⟨hcz31_0,hcz31_1⟩:=Hd.c2_ BK329.out
   obtain ⟨hfz31_0,hfz31_1⟩:=Hd.f2_ BK329.out
   go_wp2_with (first | ((with_reducible refine gate_callee (f:=73) rfl ?_);refine Hd.gl_ 8 Try.func73 #[.agg #[.int .i64 a0_0,.int .i64 a0_1]] ?_;(with_reducible refine (impl_IsPoint.calls a0_0 a0_1 false _ A8.out).mono ?_);rintro e w32 ⟨rfl,hb⟩;refine ⟨_,rfl,?_⟩;replace BK329:=ak (Hd.kb_ BK329 hb);replace BK330:=ak (Hd.kb_ BK330 hb);replace BK331:=ak (Hd.kb_ BK331 hb);replace HB:=ak (below_step Hd.b_ hb);clear hb))
   go_meet
   case rel => exact ⟨_,(true),z2_,H',⟨z21_⟩,⟨z0_ BK329⟩,⟨z0_ BK330⟩,⟨z0_ BK331⟩,⟨Hd.b_⟩⟩
  subst c9
  rw [if_pos rfl] at H
  replace H:=Hd.bd_ H;obtain ⟨t333,A10,H⟩:=H
  by_cases c11 : t333 = true
  ·
   subst c11
   rw [if_pos rfl] at H
   replace H:=Hd.bd_ H;obtain ⟨t334,A12,H⟩:=H
   have H':=ak H
   clear H
   have hnb13:=NB329_330.out
   have hnc13:=NB330_329.out
   have hnb14:=NB329_331.out
   have hnc14:=NB331_329.out
   obtain ⟨hcz15_0,hcz15_1⟩:=Hd.c2_ BK329.out
   obtain ⟨hfz15_0,hfz15_1⟩:=Hd.f2_ BK329.out
   go_wp2_with (first | ((with_reducible refine gate_callee (f:=73) rfl ?_);refine Hd.gl_ 8 Try.func73 #[.agg #[.int .i64 a0_0,.int .i64 a0_1]] ?_;(with_reducible refine (impl_IsPoint.calls a0_0 a0_1 true _ A8.out).mono ?_);rintro e w16 ⟨rfl,hb⟩;refine ⟨_,rfl,?_⟩;replace BK329:=ak (Hd.kb_ BK329 hb);replace BK330:=ak (Hd.kb_ BK330 hb);replace BK331:=ak (Hd.kb_ BK331 hb);replace HB:=ak (below_step Hd.b_ hb);clear hb;have hnb17:=NB330_331.out;have hnc17:=NB331_330.out;obtain ⟨hcz18_0,hcz18_1⟩:=Hd.c2_ BK330.out;obtain ⟨hfz18_0,hfz18_1⟩:=Hd.f2_ BK330.out) | (go_at_call 73;(with_reducible refine (impl_IsPoint.calls a1_0 a1_1 true _ A10.out).mono ?_);rintro e w19 ⟨rfl,hb⟩;replace BK329:=ak (Hd.kb_ BK329 hb);replace BK330:=ak (Hd.kb_ BK330 hb);replace BK331:=ak (Hd.kb_ BK331 hb);replace HB:=ak (below_step Hd.b_ hb);clear hb;obtain ⟨hcz20_0,hcz20_1⟩:=Hd.c2_ BK331.out;obtain ⟨hfz20_0,hfz20_1⟩:=Hd.f2_ BK331.out) | (go_at_call 73;(with_reducible refine (impl_IsPoint.calls a2_0 a2_1 t334 _ A12.out).mono ?_);rintro e w21 ⟨rfl,hb⟩;replace BK329:=ak (Hd.kb_ BK329 hb);replace BK330:=ak (Hd.kb_ BK330 hb);replace BK331:=ak (Hd.kb_ BK331 hb);replace HB:=ak (below_step Hd.b_ hb);clear hb))
   go_meet
   case rel => exact ⟨_,(!t334),z2_,H',⟨z21_⟩,⟨z0_ BK329⟩,⟨z0_ BK330⟩,⟨z0_ BK331⟩,⟨Hd.b_⟩⟩
  replace c11:=Bool.eq_false_iff.mpr c11
  subst c11
  rw [if_neg (show ¬ (false = true) by decide)] at H
  have H':=ak H
  clear H
  have hnb22:=NB329_330.out
  have hnc22:=NB330_329.out
  have hnb23:=NB329_331.out
  have hnc23:=NB331_329.out
  obtain ⟨hcz24_0,hcz24_1⟩:=Hd.c2_ BK329.out
  obtain ⟨hfz24_0,hfz24_1⟩:=Hd.f2_ BK329.out
  go_wp2_with (first | ((with_reducible refine gate_callee (f:=73) rfl ?_);refine Hd.gl_ 8 Try.func73 #[.agg #[.int .i64 a0_0,.int .i64 a0_1]] ?_;(with_reducible refine (impl_IsPoint.calls a0_0 a0_1 true _ A8.out).mono ?_);rintro e w25 ⟨rfl,hb⟩;refine ⟨_,rfl,?_⟩;replace BK329:=ak (Hd.kb_ BK329 hb);replace BK330:=ak (Hd.kb_ BK330 hb);replace BK331:=ak (Hd.kb_ BK331 hb);replace HB:=ak (below_step Hd.b_ hb);clear hb;have hnb26:=NB330_331.out;have hnc26:=NB331_330.out;obtain ⟨hcz27_0,hcz27_1⟩:=Hd.c2_ BK330.out;obtain ⟨hfz27_0,hfz27_1⟩:=Hd.f2_ BK330.out) | (go_at_call 73;(with_reducible refine (impl_IsPoint.calls a1_0 a1_1 false _ A10.out).mono ?_);rintro e w28 ⟨rfl,hb⟩;replace BK329:=ak (Hd.kb_ BK329 hb);replace BK330:=ak (Hd.kb_ BK330 hb);replace BK331:=ak (Hd.kb_ BK331 hb);replace HB:=ak (below_step Hd.b_ hb);clear hb))
  go_meet
  case rel => exact ⟨_,(true),z2_,H',⟨z21_⟩,⟨z0_ BK329⟩,⟨z0_ BK330⟩,⟨z0_ BK331⟩,⟨Hd.b_⟩⟩
 case rest =>
  clear HC4
  try clear c1;try clear c2;try clear p2;try clear c3;try clear c7;try clear c9;try clear c11;try clear c13;try clear c14;try clear c17;try clear c22;try clear c23;try clear c26;try clear c29;try clear c30;try clear hcz15_0;try clear hcz15_1;try clear hcz18_0;try clear hcz18_1;try clear hcz20_0;try clear hcz20_1;try clear hcz24_0;try clear hcz24_1;try clear hcz27_0;try clear hcz27_1;try clear hcz31_0;try clear hcz31_1;try clear hfz15_0;try clear hfz15_1;try clear hfz18_0;try clear hfz18_1;try clear hfz20_0;try clear hfz20_1;try clear hfz24_0;try clear hfz24_1;try clear hfz27_0;try clear hfz27_1;try clear hfz31_0;try clear hfz31_1
  obtain ⟨kq,x19_3,rfl,HA,HJ3,BK329,BK330,BK331,HB⟩:=hcut
  cases kq with
  | zero => exact absurd HA.out (by simp [impl_SideOf.j0])
  | succ kj3 =>
   have H:=HA.out
   clear HA
   simp only [impl_SideOf.j0] at H
   by_cases c33 : x19_3 = true
   ·
    subst c33
    rw [if_pos rfl] at H
    obtain rfl:=Option.some.inj H
    go_wp2
    go_ret
    exact ⟨Hd.e_,Hd.b_⟩
   replace c33:=Bool.eq_false_iff.mpr c33
   subst c33
   rw [if_neg (show ¬ (false = true) by decide)] at H
   replace H:=Hd.bd_ H;obtain ⟨t335,A34,H⟩:=H
   replace H:=Hd.bd_ H;obtain ⟨t336,A35,H⟩:=H
   obtain rfl:=Option.some.inj H
   have hnb36:=NB329_330.out
   have hnc36:=NB330_329.out
   have hnb37:=NB329_331.out
   have hnc37:=NB331_329.out
   obtain ⟨hcz38_0,hcz38_1⟩:=Hd.c2_ BK329.out
   obtain ⟨hfz38_0,hfz38_1⟩:=Hd.f2_ BK329.out
   have hnb39:=NB330_331.out
   have hnc39:=NB331_330.out
   obtain ⟨hcz40_0,hcz40_1⟩:=Hd.c2_ BK330.out
   obtain ⟨hfz40_0,hfz40_1⟩:=Hd.f2_ BK330.out
   obtain ⟨hcz41_0,hcz41_1⟩:=Hd.c2_ BK331.out
   obtain ⟨hfz41_0,hfz41_1⟩:=Hd.f2_ BK331.out
   go_wp2_with (first | ((with_reducible refine gate_callee (f:=107) rfl ?_);refine Hd.gl_ 23 Try.func107 #[.agg #[.int .i64 a0_0,.int .i64 a0_1],.agg #[.int .i64 a1_0,.int .i64 a1_1],.agg #[.int .i64 a2_0,.int .i64 a2_1]] ?_;(with_reducible refine (impl_cross.calls a0_0 a0_1 a1_0 a1_1 a2_0 a2_1 t335 _ A34.out).mono ?_);rintro e w42 ⟨rfl,hb⟩;refine ⟨_,rfl,?_⟩;replace BK329:=ak (Hd.kb_ BK329 hb);replace BK330:=ak (Hd.kb_ BK330 hb);replace BK331:=ak (Hd.kb_ BK331 hb);replace HB:=ak (below_step Hd.b_ hb);clear hb) | ((with_reducible refine gate_callee (f:=106) rfl ?_);refine Hd.gl_ 24 Try.func106 #[.int .i64 t335,.int .i64 0] ?_;(with_reducible refine (cmp_Compare_int.calls t335 0 t336 _ A35.out).mono ?_);rintro e w' ⟨rfl,⟨nd,rfl⟩⟩;refine ⟨_,rfl,?_⟩))
   go_ret
   exact ⟨Hd.e_,Hd.b_⟩
def impl_BeforePoint.f (a0_0 : Int) (a0_1 : Int) (a1_0 : Int) (a1_1 : Int) : Option (Bool):=if a0_1 < a1_1 then (some true) else (if a0_1 = a1_1 then (some (decide (a0_0 < a1_0))) else (some false))
theorem impl_BeforePoint.calls (a0_0 : Int) (a0_1 : Int) (a1_0 : Int) (a1_1 : Int) (r : Bool) (w : World) (h : impl_BeforePoint.f a0_0 a0_1 a1_0 a1_1 = some r) :
  Calls Try.prog 93 #[.agg #[.int .i64 a0_0,.int .i64 a0_1],.agg #[.int .i64 a1_0,.int .i64 a1_1]] w fun e w' => e = .returned (.bool r) ∧ Below w.heap.size w w':=by
 have hu75:=Try.underlying75
 have HB:=ak (Below.refl w.heap.size w)
 have H:=h;clear h;unfold impl_BeforePoint.f at H
 by_cases c3 : a0_1 < a1_1
 ·
  rw [if_pos c3] at H
  have c3b0:=decide_eq_true c3
  clear c3
  obtain rfl:=Option.some.inj H
  go_enter Try.func93,Try.ntmps93
  go_wp2_with (first | ((with_reducible refine gate_dst (N:=2) rfl ?_);refine Hd.box_ 2 (#[.int .i64 a0_0,.int .i64 a0_1]) 75 ?_;intro gb337 hg w4 hbox hb;have BK337:=ak (hbox);have GW337:=ak ((Hd.g_ hg Hd.b_ : w.heap.size ≤ gb337));have GE337:=ak ((Hd.g_ hg Hd.b_ : w.heap.size ≤ gb337));replace HB:=ak (below_step Hd.b_ hb);clear hb hbox hg) | ((with_reducible refine gate_dst (N:=3) rfl ?_);refine Hd.box_ 3 (#[.int .i64 a1_0,.int .i64 a1_1]) 75 ?_;intro gb338 hg w5 hbox hb;have BK338:=ak (hbox);have GW338:=ak ((Hd.g_ hg Hd.b_ : w.heap.size ≤ gb338));have GE338:=ak ((Hd.g_ hg Hd.b_ : w.heap.size ≤ gb338));replace HB:=ak (below_step Hd.b_ hb);have NB337_338:=ak ((Hd.lt_ BK337 hg));have NB338_337:=ak ((Hd.gt_ BK337 hg));replace BK337:=ak (Hd.kb_ BK337 hb);clear hb hbox hg;have hnb6:=NB337_338.out;have hnc6:=NB338_337.out;obtain ⟨hcz7_0,hcz7_1⟩:=Hd.c2_ BK337.out;obtain ⟨hfz7_0,hfz7_1⟩:=Hd.f2_ BK337.out;obtain ⟨hcz8_0,hcz8_1⟩:=Hd.c2_ BK338.out;obtain ⟨hfz8_0,hfz8_1⟩:=Hd.f2_ BK338.out))
  go_ret
  exact ⟨Hd.e_,Hd.b_⟩
 rw [if_neg c3] at H
 have c3b0:=decide_eq_false c3
 clear c3
 by_cases c9 : a0_1 = a1_1;rotate_left
 ·
  rw [if_neg c9] at H
  have c9b0:=beq_eq_false_iff_ne.mpr c9
  have c9b1:=bne_iff_ne.mpr c9
  obtain rfl:=Option.some.inj H
  go_enter Try.func93,Try.ntmps93
  go_wp2_with (first | ((with_reducible refine gate_dst (N:=2) rfl ?_);refine Hd.box_ 2 (#[.int .i64 a0_0,.int .i64 a0_1]) 75 ?_;intro gb337 hg w15 hbox hb;have BK337:=ak (hbox);have GW337:=ak ((Hd.g_ hg Hd.b_ : w.heap.size ≤ gb337));have GE337:=ak ((Hd.g_ hg Hd.b_ : w.heap.size ≤ gb337));replace HB:=ak (below_step Hd.b_ hb);clear hb hbox hg) | ((with_reducible refine gate_dst (N:=3) rfl ?_);refine Hd.box_ 3 (#[.int .i64 a1_0,.int .i64 a1_1]) 75 ?_;intro gb338 hg w16 hbox hb;have BK338:=ak (hbox);have GW338:=ak ((Hd.g_ hg Hd.b_ : w.heap.size ≤ gb338));have GE338:=ak ((Hd.g_ hg Hd.b_ : w.heap.size ≤ gb338));replace HB:=ak (below_step Hd.b_ hb);have NB337_338:=ak ((Hd.lt_ BK337 hg));have NB338_337:=ak ((Hd.gt_ BK337 hg));replace BK337:=ak (Hd.kb_ BK337 hb);clear hb hbox hg;have hnb17:=NB337_338.out;have hnc17:=NB338_337.out;obtain ⟨hcz18_0,hcz18_1⟩:=Hd.c2_ BK337.out;obtain ⟨hfz18_0,hfz18_1⟩:=Hd.f2_ BK337.out;obtain ⟨hcz19_0,hcz19_1⟩:=Hd.c2_ BK338.out;obtain ⟨hfz19_0,hfz19_1⟩:=Hd.f2_ BK338.out))
  go_ret
  exact ⟨Hd.e_,Hd.b_⟩
 rw [if_pos c9] at H
 have c9b0:=beq_iff_eq.mpr c9
 have c9b1:=bne_eq_false_iff_eq.mpr c9
 clear c9
 obtain rfl:=Option.some.inj H
 go_enter Try.func93,Try.ntmps93
 go_wp2_with (first | ((with_reducible refine gate_dst (N:=2) rfl ?_);refine Hd.box_ 2 (#[.int .i64 a0_0,.int .i64 a0_1]) 75 ?_;intro gb337 hg w10 hbox hb;have BK337:=ak (hbox);have GW337:=ak ((Hd.g_ hg Hd.b_ : w.heap.size ≤ gb337));have GE337:=ak ((Hd.g_ hg Hd.b_ : w.heap.size ≤ gb337));replace HB:=ak (below_step Hd.b_ hb);clear hb hbox hg) | ((with_reducible refine gate_dst (N:=3) rfl ?_);refine Hd.box_ 3 (#[.int .i64 a1_0,.int .i64 a1_1]) 75 ?_;intro gb338 hg w11 hbox hb;have BK338:=ak (hbox);have GW338:=ak ((Hd.g_ hg Hd.b_ : w.heap.size ≤ gb338));have GE338:=ak ((Hd.g_ hg Hd.b_ : w.heap.size ≤ gb338));replace HB:=ak (below_step Hd.b_ hb);have NB337_338:=ak ((Hd.lt_ BK337 hg));have NB338_337:=ak ((Hd.gt_ BK337 hg));replace BK337:=ak (Hd.kb_ BK337 hb);clear hb hbox hg;have hnb12:=NB337_338.out;have hnc12:=NB338_337.out;obtain ⟨hcz13_0,hcz13_1⟩:=Hd.c2_ BK337.out;obtain ⟨hfz13_0,hfz13_1⟩:=Hd.f2_ BK337.out;obtain ⟨hcz14_0,hcz14_1⟩:=Hd.c2_ BK338.out;obtain ⟨hfz14_0,hfz14_1⟩:=Hd.f2_ BK338.out))
 go_ret
 exact ⟨Hd.e_,Hd.b_⟩
def impl_TurnSegment.f (a0_0 : Int) (a0_1 : Int) (a0_2 : Int) (a0_3 : Int) : Option (Int × Int × Int × Int):=some (a0_2,a0_3,a0_0,a0_1)
theorem impl_TurnSegment.calls (a0_0 : Int) (a0_1 : Int) (a0_2 : Int) (a0_3 : Int) (r1 : Int) (r2 : Int) (r3 : Int) (r4 : Int) (w : World) (h : impl_TurnSegment.f a0_0 a0_1 a0_2 a0_3 = some (r1,r2,r3,r4)) :
  Calls Try.prog 108 #[.agg #[.int .i64 a0_0,.int .i64 a0_1,.int .i64 a0_2,.int .i64 a0_3]] w fun e w' => e = .returned (.agg #[.int .i64 r1,.int .i64 r2,.int .i64 r3,.int .i64 r4]) ∧ Below w.heap.size w w':=by
 have hu101:=Try.underlying101
 have hu75:=Try.underlying75
 have HB:=ak (Below.refl w.heap.size w)
 have H:=h;clear h;unfold impl_TurnSegment.f at H
 simp only [Option.some.injEq,Prod.mk.injEq] at H
 obtain ⟨rfl,rfl,rfl,rfl⟩:=H
 go_enter Try.func108,Try.ntmps108
 go_wp2_with (first | ((with_reducible refine gate_dst (N:=1) rfl ?_);refine Hd.box_ 1 (#[.int .i64 a0_0,.int .i64 a0_1,.int .i64 a0_2,.int .i64 a0_3]) 101 ?_;intro gb339 hg w2 hbox hb;have BK339:=ak (hbox);have GW339:=ak ((Hd.g_ hg Hd.b_ : w.heap.size ≤ gb339));have GE339:=ak ((Hd.g_ hg Hd.b_ : w.heap.size ≤ gb339));replace HB:=ak (below_step Hd.b_ hb);clear hb hbox hg) | ((with_reducible refine gate_dst (N:=2) rfl ?_);refine Hd.box_ 2 (#[.int .i64 0,.int .i64 0,.int .i64 0,.int .i64 0]) 101 ?_;intro gb340 hg w3 hbox hb;have BK340:=ak (hbox);have GW340:=ak ((Hd.g_ hg Hd.b_ : w.heap.size ≤ gb340));have GE340:=ak ((Hd.g_ hg Hd.b_ : w.heap.size ≤ gb340));replace HB:=ak (below_step Hd.b_ hb);have NB339_340:=ak ((Hd.lt_ BK339 hg));have NB340_339:=ak ((Hd.gt_ BK339 hg));replace BK339:=ak (Hd.kb_ BK339 hb);clear hb hbox hg;have hnb4:=NB339_340.out;have hnc4:=NB340_339.out;obtain ⟨hcz5_0,hcz5_1,hcz5_2,hcz5_3⟩:=Hd.c4_ BK339.out;obtain ⟨hfz5_0,hfz5_1,hfz5_2,hfz5_3⟩:=Hd.f4_ BK339.out;obtain ⟨hcz6_0,hcz6_1,hcz6_2,hcz6_3⟩:=Hd.c4_ BK340.out;obtain ⟨hfz6_0,hfz6_1,hfz6_2,hfz6_3⟩:=Hd.f4_ BK340.out))
 refine bodyPost_ret (results_cell_row rfl _ _ gb340 101 #[.int .i64 a0_2,.int .i64 a0_3,.int .i64 a0_0,.int .i64 a0_1] (0,0) _ rfl (by (with_reducible repeat (first | refine blk_drewN ?_ _ | refine blk_drew ?_ | refine blk_alloc ?_ _));refine blk_put (cs:=#[.int .i64 a0_2,.int .i64 a0_3,.int .i64 a0_0,.int .i64 0]) ?_ 3 _ rfl;(with_reducible repeat (first | refine blk_drewN ?_ _ | refine blk_drew ?_ | refine blk_alloc ?_ _));refine blk_put (cs:=#[.int .i64 a0_2,.int .i64 a0_3,.int .i64 0,.int .i64 0]) ?_ 2 _ rfl;(with_reducible repeat (first | refine blk_drewN ?_ _ | refine blk_drew ?_ | refine blk_alloc ?_ _));refine blk_put (cs:=#[.int .i64 a0_2,.int .i64 0,.int .i64 0,.int .i64 0]) ?_ 1 _ rfl;(with_reducible repeat (first | refine blk_drewN ?_ _ | refine blk_drew ?_ | refine blk_alloc ?_ _));refine blk_put (cs:=#[.int .i64 0,.int .i64 0,.int .i64 0,.int .i64 0]) ?_ 0 _ rfl;(with_reducible repeat (first | refine blk_drewN ?_ _ | refine blk_drew ?_ | refine blk_alloc ?_ _));exact BK340.out) Try.underlying101 rfl (by kernel_rfl)) rfl ?_
 exact ⟨Hd.e_,Hd.b_⟩
def impl_forward.f (a0_0 : Int) (a0_1 : Int) (a0_2 : Int) (a0_3 : Int) : Option (Int × Int × Int × Int):=(impl_BeforePoint.f a0_2 a0_3 a0_0 a0_1).bind fun t343 => (if t343 = true then ((impl_TurnSegment.f a0_0 a0_1 a0_2 a0_3).bind fun bt344 => (some (bt344.1,bt344.2.1,bt344.2.2.1,bt344.2.2.2))) else (some (a0_0,a0_1,a0_2,a0_3)))
theorem impl_forward.calls (a0_0 : Int) (a0_1 : Int) (a0_2 : Int) (a0_3 : Int) (r1 : Int) (r2 : Int) (r3 : Int) (r4 : Int) (w : World) (h : impl_forward.f a0_0 a0_1 a0_2 a0_3 = some (r1,r2,r3,r4)) :
  Calls Try.prog 92 #[.agg #[.int .i64 a0_0,.int .i64 a0_1,.int .i64 a0_2,.int .i64 a0_3]] w fun e w' => e = .returned (.agg #[.int .i64 r1,.int .i64 r2,.int .i64 r3,.int .i64 r4]) ∧ Below w.heap.size w w':=by
 have hu101:=Try.underlying101
 have hu75:=Try.underlying75
 have HB:=ak (Below.refl w.heap.size w)
 have H:=h;clear h;unfold impl_forward.f at H
 replace H:=Hd.bd_ H;obtain ⟨t343,A2,H⟩:=H
 by_cases c3 : t343 = true
 ·
  subst c3
  rw [if_pos rfl] at H
  replace H:=Hd.bd_ H;obtain ⟨⟨t344,t345,t346,t347⟩,A4,H⟩:=H;dsimp only at H
  simp only [Option.some.injEq,Prod.mk.injEq] at H
  obtain ⟨rfl,rfl,rfl,rfl⟩:=H
  go_enter Try.func92,Try.ntmps92
  go_wp2_with (first | ((with_reducible refine gate_dst (N:=1) rfl ?_);refine Hd.box_ 1 (#[.int .i64 a0_0,.int .i64 a0_1,.int .i64 a0_2,.int .i64 a0_3]) 101 ?_;intro gb341 hg w5 hbox hb;have BK341:=ak (hbox);have GW341:=ak ((Hd.g_ hg Hd.b_ : w.heap.size ≤ gb341));have GE341:=ak ((Hd.g_ hg Hd.b_ : w.heap.size ≤ gb341));replace HB:=ak (below_step Hd.b_ hb);clear hb hbox hg) | ((with_reducible refine gate_dst (N:=2) rfl ?_);refine Hd.box_ 2 (#[.int .i64 0,.int .i64 0,.int .i64 0,.int .i64 0]) 101 ?_;intro gb342 hg w6 hbox hb;have BK342:=ak (hbox);have GW342:=ak ((Hd.g_ hg Hd.b_ : w.heap.size ≤ gb342));have GE342:=ak ((Hd.g_ hg Hd.b_ : w.heap.size ≤ gb342));replace HB:=ak (below_step Hd.b_ hb);have NB341_342:=ak ((Hd.lt_ BK341 hg));have NB342_341:=ak ((Hd.gt_ BK341 hg));replace BK341:=ak (Hd.kb_ BK341 hb);clear hb hbox hg;have hnb7:=NB341_342.out;have hnc7:=NB342_341.out;obtain ⟨hcz8_0,hcz8_1,hcz8_2,hcz8_3⟩:=Hd.c4_ BK341.out;obtain ⟨hfz8_0,hfz8_1,hfz8_2,hfz8_3⟩:=Hd.f4_ BK341.out) | ((with_reducible refine gate_callee (f:=93) rfl ?_);refine Hd.gl_ 7 Try.func93 #[.agg #[.int .i64 a0_2,.int .i64 a0_3],.agg #[.int .i64 a0_0,.int .i64 a0_1]] ?_;(with_reducible refine (impl_BeforePoint.calls a0_2 a0_3 a0_0 a0_1 true _ A2.out).mono ?_);rintro e w9 ⟨rfl,hb⟩;refine ⟨_,rfl,?_⟩;replace BK341:=ak (Hd.kb_ BK341 hb);replace BK342:=ak (Hd.kb_ BK342 hb);replace HB:=ak (below_step Hd.b_ hb);clear hb;obtain ⟨hcz10_0,hcz10_1,hcz10_2,hcz10_3⟩:=Hd.c4_ BK341.out;obtain ⟨hfz10_0,hfz10_1,hfz10_2,hfz10_3⟩:=Hd.f4_ BK341.out) | ((with_reducible refine gate_callee (f:=108) rfl ?_);refine Hd.gl_ 9 Try.func108 #[.agg #[.int .i64 a0_0,.int .i64 a0_1,.int .i64 a0_2,.int .i64 a0_3]] ?_;(with_reducible refine (impl_TurnSegment.calls a0_0 a0_1 a0_2 a0_3 t344 t345 t346 t347 _ A4.out).mono ?_);rintro e w11 ⟨rfl,hb⟩;refine ⟨_,rfl,?_⟩;replace BK341:=ak (Hd.kb_ BK341 hb);replace BK342:=ak (Hd.kb_ BK342 hb);replace HB:=ak (below_step Hd.b_ hb);clear hb;obtain ⟨hcz12_0,hcz12_1,hcz12_2,hcz12_3⟩:=Hd.c4_ BK342.out;obtain ⟨hfz12_0,hfz12_1,hfz12_2,hfz12_3⟩:=Hd.f4_ BK342.out))
  refine bodyPost_ret (results_cell_row rfl _ _ gb342 101 #[.int .i64 t344,.int .i64 t345,.int .i64 t346,.int .i64 t347] (0,0) _ rfl (by (with_reducible repeat (first | refine blk_drewN ?_ _ | refine blk_drew ?_ | refine blk_alloc ?_ _));refine blk_put (cs:=#[.int .i64 t344,.int .i64 t345,.int .i64 t346,.int .i64 0]) ?_ 3 _ rfl;(with_reducible repeat (first | refine blk_drewN ?_ _ | refine blk_drew ?_ | refine blk_alloc ?_ _));refine blk_put (cs:=#[.int .i64 t344,.int .i64 t345,.int .i64 0,.int .i64 0]) ?_ 2 _ rfl;(with_reducible repeat (first | refine blk_drewN ?_ _ | refine blk_drew ?_ | refine blk_alloc ?_ _));refine blk_put (cs:=#[.int .i64 t344,.int .i64 0,.int .i64 0,.int .i64 0]) ?_ 1 _ rfl;(with_reducible repeat (first | refine blk_drewN ?_ _ | refine blk_drew ?_ | refine blk_alloc ?_ _));refine blk_put (cs:=#[.int .i64 0,.int .i64 0,.int .i64 0,.int .i64 0]) ?_ 0 _ rfl;(with_reducible repeat (first | refine blk_drewN ?_ _ | refine blk_drew ?_ | refine blk_alloc ?_ _));exact BK342.out) Try.underlying101 rfl (by kernel_rfl)) rfl ?_
  exact ⟨Hd.e_,Hd.b_⟩
 replace c3:=Bool.eq_false_iff.mpr c3
 subst c3
 rw [if_neg (show ¬ (false = true) by decide)] at H
 simp only [Option.some.injEq,Prod.mk.injEq] at H
 obtain ⟨rfl,rfl,rfl,rfl⟩:=H
 go_enter Try.func92,Try.ntmps92
 go_wp2_with (first | ((with_reducible refine gate_dst (N:=1) rfl ?_);refine Hd.box_ 1 (#[.int .i64 a0_0,.int .i64 a0_1,.int .i64 a0_2,.int .i64 a0_3]) 101 ?_;intro gb341 hg w13 hbox hb;have BK341:=ak (hbox);have GW341:=ak ((Hd.g_ hg Hd.b_ : w.heap.size ≤ gb341));have GE341:=ak ((Hd.g_ hg Hd.b_ : w.heap.size ≤ gb341));replace HB:=ak (below_step Hd.b_ hb);clear hb hbox hg) | ((with_reducible refine gate_dst (N:=2) rfl ?_);refine Hd.box_ 2 (#[.int .i64 0,.int .i64 0,.int .i64 0,.int .i64 0]) 101 ?_;intro gb342 hg w14 hbox hb;have BK342:=ak (hbox);have GW342:=ak ((Hd.g_ hg Hd.b_ : w.heap.size ≤ gb342));have GE342:=ak ((Hd.g_ hg Hd.b_ : w.heap.size ≤ gb342));replace HB:=ak (below_step Hd.b_ hb);have NB341_342:=ak ((Hd.lt_ BK341 hg));have NB342_341:=ak ((Hd.gt_ BK341 hg));replace BK341:=ak (Hd.kb_ BK341 hb);clear hb hbox hg;have hnb15:=NB341_342.out;have hnc15:=NB342_341.out;obtain ⟨hcz16_0,hcz16_1,hcz16_2,hcz16_3⟩:=Hd.c4_ BK341.out;obtain ⟨hfz16_0,hfz16_1,hfz16_2,hfz16_3⟩:=Hd.f4_ BK341.out) | ((with_reducible refine gate_callee (f:=93) rfl ?_);refine Hd.gl_ 7 Try.func93 #[.agg #[.int .i64 a0_2,.int .i64 a0_3],.agg #[.int .i64 a0_0,.int .i64 a0_1]] ?_;(with_reducible refine (impl_BeforePoint.calls a0_2 a0_3 a0_0 a0_1 false _ A2.out).mono ?_);rintro e w17 ⟨rfl,hb⟩;refine ⟨_,rfl,?_⟩;replace BK341:=ak (Hd.kb_ BK341 hb);replace BK342:=ak (Hd.kb_ BK342 hb);replace HB:=ak (below_step Hd.b_ hb);clear hb;obtain ⟨hcz18_0,hcz18_1,hcz18_2,hcz18_3⟩:=Hd.c4_ BK341.out;obtain ⟨hfz18_0,hfz18_1,hfz18_2,hfz18_3⟩:=Hd.f4_ BK341.out;obtain ⟨hcz19_0,hcz19_1,hcz19_2,hcz19_3⟩:=Hd.c4_ BK342.out;obtain ⟨hfz19_0,hfz19_1,hfz19_2,hfz19_3⟩:=Hd.f4_ BK342.out))
 refine bodyPost_ret (results_cell_row rfl _ _ gb342 101 #[.int .i64 a0_0,.int .i64 a0_1,.int .i64 a0_2,.int .i64 a0_3] (0,0) _ rfl (by (with_reducible repeat (first | refine blk_drewN ?_ _ | refine blk_drew ?_ | refine blk_alloc ?_ _));refine blk_put (cs:=#[.int .i64 a0_0,.int .i64 a0_1,.int .i64 a0_2,.int .i64 0]) ?_ 3 _ rfl;(with_reducible repeat (first | refine blk_drewN ?_ _ | refine blk_drew ?_ | refine blk_alloc ?_ _));refine blk_put (cs:=#[.int .i64 a0_0,.int .i64 a0_1,.int .i64 0,.int .i64 0]) ?_ 2 _ rfl;(with_reducible repeat (first | refine blk_drewN ?_ _ | refine blk_drew ?_ | refine blk_alloc ?_ _));refine blk_put (cs:=#[.int .i64 a0_0,.int .i64 0,.int .i64 0,.int .i64 0]) ?_ 1 _ rfl;(with_reducible repeat (first | refine blk_drewN ?_ _ | refine blk_drew ?_ | refine blk_alloc ?_ _));refine blk_put (cs:=#[.int .i64 0,.int .i64 0,.int .i64 0,.int .i64 0]) ?_ 0 _ rfl;(with_reducible repeat (first | refine blk_drewN ?_ _ | refine blk_drew ?_ | refine blk_alloc ?_ _));exact BK342.out) Try.underlying101 rfl (by kernel_rfl)) rfl ?_
 exact ⟨Hd.e_,Hd.b_⟩
def impl_IsOn.f (k : Nat) (a0_0 : Int) (a0_1 : Int) (a0_2 : Int) (a0_3 : Int) (a1_0 : Int) (a1_1 : Int) : Option (Bool):=(impl_IsSegment.f a0_0 a0_1 a0_2 a0_3).bind fun t350 => (if t350 = true then ((impl_IsPoint.f a1_0 a1_1).bind fun t351 => (if t351 = true then ((impl_SideOf.f k a0_0 a0_1 a0_2 a0_3 a1_0 a1_1).bind fun t352 => (if t352 = 0 then ((impl_InRange.f a1_0 (mn a0_0 a0_2) (mx a0_0 a0_2)).bind fun t353 => (if t353 = true then ((impl_InRange.f a1_1 (mn a0_1 a0_3) (mx a0_1 a0_3)).bind fun t354 => (some t354)) else (some false))) else (some false))) else (some false))) else (some false))
theorem impl_IsOn.calls (k : Nat) (a0_0 : Int) (a0_1 : Int) (a0_2 : Int) (a0_3 : Int) (a1_0 : Int) (a1_1 : Int) (r : Bool) (w : World) (h : impl_IsOn.f k a0_0 a0_1 a0_2 a0_3 a1_0 a1_1 = some r) :
  Calls Try.prog 94 #[.agg #[.int .i64 a0_0,.int .i64 a0_1,.int .i64 a0_2,.int .i64 a0_3],.agg #[.int .i64 a1_0,.int .i64 a1_1]] w fun e w' => e = .returned (.bool r) ∧ Below w.heap.size w w':=by
 have hu101:=Try.underlying101
 have hu75:=Try.underlying75
 have HB:=ak (Below.refl w.heap.size w)
 have H:=h;clear h;unfold impl_IsOn.f at H
 replace H:=Hd.bd_ H;obtain ⟨t350,A3,H⟩:=H
 by_cases c4 : t350 = true;rotate_left
 ·
  replace c4:=Bool.eq_false_iff.mpr c4
  subst c4
  rw [if_neg (show ¬ (false = true) by decide)] at H
  obtain rfl:=Option.some.inj H
  go_enter Try.func94,Try.ntmps94
  go_wp2_with (first | ((with_reducible refine gate_dst (N:=2) rfl ?_);(try (refine gate_guard (by rfl) ?_;dsimp only));refine Hd.box_ 2 (#[.int .i64 a0_0,.int .i64 a0_1,.int .i64 a0_2,.int .i64 a0_3]) 101 ?_;intro gb348 hg w57 hbox hb;have BK348:=ak (hbox);have GW348:=z46_;have GE348:=z46_;replace HB:=ak (below_step Hd.b_ hb);clear hb hbox hg) | ((with_reducible refine gate_dst (N:=3) rfl ?_);(try (refine gate_guard (by rfl) ?_;dsimp only));refine Hd.box_ 3 (#[.int .i64 a1_0,.int .i64 a1_1]) 75 ?_;intro gb349 hg w58 hbox hb;have BK349:=ak (hbox);have GW349:=z47_;have GE349:=z47_;replace HB:=ak (below_step Hd.b_ hb);have NB348_349:=ak ((Hd.lt_ BK348 hg));have NB349_348:=ak ((Hd.gt_ BK348 hg));replace BK348:=ak (Hd.kb_ BK348 hb);clear hb hbox hg;have hnb59:=NB348_349.out;have hnc59:=NB349_348.out;obtain ⟨hcz60_0,hcz60_1,hcz60_2,hcz60_3⟩:=Hd.c4_ BK348.out;obtain ⟨hfz60_0,hfz60_1,hfz60_2,hfz60_3⟩:=Hd.f4_ BK348.out) | ((with_reducible refine gate_callee (f:=90) rfl ?_);refine Hd.gl_ 6 Try.func90 #[.agg #[.int .i64 a0_0,.int .i64 a0_1,.int .i64 a0_2,.int .i64 a0_3]] ?_;(with_reducible refine (impl_IsSegment.calls a0_0 a0_1 a0_2 a0_3 false _ A3.out).mono ?_);rintro e w61 ⟨rfl,hb⟩;refine ⟨_,rfl,?_⟩;replace BK348:=ak (Hd.kb_ BK348 hb);replace BK349:=ak (Hd.kb_ BK349 hb);replace HB:=ak (below_step Hd.b_ hb);clear hb))
  go_ret
  exact ⟨Hd.e_,Hd.b_⟩
 subst c4
 rw [if_pos rfl] at H
 replace H:=Hd.bd_ H;obtain ⟨t351,A5,H⟩:=H
 by_cases c6 : t351 = true;rotate_left
 ·
  replace c6:=Bool.eq_false_iff.mpr c6
  subst c6
  rw [if_neg (show ¬ (false = true) by decide)] at H
  obtain rfl:=Option.some.inj H
  go_enter Try.func94,Try.ntmps94
  go_wp2_with (first | ((with_reducible refine gate_dst (N:=2) rfl ?_);(try (refine gate_guard (by rfl) ?_;dsimp only));refine Hd.box_ 2 (#[.int .i64 a0_0,.int .i64 a0_1,.int .i64 a0_2,.int .i64 a0_3]) 101 ?_;intro gb348 hg w50 hbox hb;have BK348:=ak (hbox);have GW348:=z46_;have GE348:=z46_;replace HB:=ak (below_step Hd.b_ hb);clear hb hbox hg) | ((with_reducible refine gate_dst (N:=3) rfl ?_);(try (refine gate_guard (by rfl) ?_;dsimp only));refine Hd.box_ 3 (#[.int .i64 a1_0,.int .i64 a1_1]) 75 ?_;intro gb349 hg w51 hbox hb;have BK349:=ak (hbox);have GW349:=z47_;have GE349:=z47_;replace HB:=ak (below_step Hd.b_ hb);have NB348_349:=ak ((Hd.lt_ BK348 hg));have NB349_348:=ak ((Hd.gt_ BK348 hg));replace BK348:=ak (Hd.kb_ BK348 hb);clear hb hbox hg;have hnb52:=NB348_349.out;have hnc52:=NB349_348.out;obtain ⟨hcz53_0,hcz53_1,hcz53_2,hcz53_3⟩:=Hd.c4_ BK348.out;obtain ⟨hfz53_0,hfz53_1,hfz53_2,hfz53_3⟩:=Hd.f4_ BK348.out) | ((with_reducible refine gate_callee (f:=90) rfl ?_);refine Hd.gl_ 6 Try.func90 #[.agg #[.int .i64 a0_0,.int .i64 a0_1,.int .i64 a0_2,.int .i64 a0_3]] ?_;(with_reducible refine (impl_IsSegment.calls a0_0 a0_1 a0_2 a0_3 true _ A3.out).mono ?_);rintro e w54 ⟨rfl,hb⟩;refine ⟨_,rfl,?_⟩;replace BK348:=ak (Hd.kb_ BK348 hb);replace BK349:=ak (Hd.kb_ BK349 hb);replace HB:=ak (below_step Hd.b_ hb);clear hb;obtain ⟨hcz55_0,hcz55_1⟩:=Hd.c2_ BK349.out;obtain ⟨hfz55_0,hfz55_1⟩:=Hd.f2_ BK349.out) | (go_at_call 73;(with_reducible refine (impl_IsPoint.calls a1_0 a1_1 false _ A5.out).mono ?_);rintro e w56 ⟨rfl,hb⟩;replace BK348:=ak (Hd.kb_ BK348 hb);replace BK349:=ak (Hd.kb_ BK349 hb);replace HB:=ak (below_step Hd.b_ hb);clear hb))
  go_ret
  exact ⟨Hd.e_,Hd.b_⟩
 subst c6
 rw [if_pos rfl] at H
 replace H:=Hd.bd_ H;obtain ⟨t352,A7,H⟩:=H
 by_cases c8 : t352 = 0;rotate_left
 ·
  rw [if_neg c8] at H
  have c8b0:=beq_eq_false_iff_ne.mpr c8
  have c8b1:=bne_iff_ne.mpr c8
  obtain rfl:=Option.some.inj H
  go_enter Try.func94,Try.ntmps94
  go_wp2_with (first | ((with_reducible refine gate_dst (N:=2) rfl ?_);(try (refine gate_guard (by rfl) ?_;dsimp only));refine Hd.box_ 2 (#[.int .i64 a0_0,.int .i64 a0_1,.int .i64 a0_2,.int .i64 a0_3]) 101 ?_;intro gb348 hg w40 hbox hb;have BK348:=ak (hbox);have GW348:=z46_;have GE348:=z46_;replace HB:=ak (below_step Hd.b_ hb);clear hb hbox hg) | ((with_reducible refine gate_dst (N:=3) rfl ?_);(try (refine gate_guard (by rfl) ?_;dsimp only));refine Hd.box_ 3 (#[.int .i64 a1_0,.int .i64 a1_1]) 75 ?_;intro gb349 hg w41 hbox hb;have BK349:=ak (hbox);have GW349:=z47_;have GE349:=z47_;replace HB:=ak (below_step Hd.b_ hb);have NB348_349:=ak ((Hd.lt_ BK348 hg));have NB349_348:=ak ((Hd.gt_ BK348 hg));replace BK348:=ak (Hd.kb_ BK348 hb);clear hb hbox hg;have hnb42:=NB348_349.out;have hnc42:=NB349_348.out;obtain ⟨hcz43_0,hcz43_1,hcz43_2,hcz43_3⟩:=Hd.c4_ BK348.out;obtain ⟨hfz43_0,hfz43_1,hfz43_2,hfz43_3⟩:=Hd.f4_ BK348.out) | ((with_reducible refine gate_callee (f:=90) rfl ?_);refine Hd.gl_ 6 Try.func90 #[.agg #[.int .i64 a0_0,.int .i64 a0_1,.int .i64 a0_2,.int .i64 a0_3]] ?_;(with_reducible refine (impl_IsSegment.calls a0_0 a0_1 a0_2 a0_3 true _ A3.out).mono ?_);rintro e w44 ⟨rfl,hb⟩;refine ⟨_,rfl,?_⟩;replace BK348:=ak (Hd.kb_ BK348 hb);replace BK349:=ak (Hd.kb_ BK349 hb);replace HB:=ak (below_step Hd.b_ hb);clear hb;obtain ⟨hcz45_0,hcz45_1⟩:=Hd.c2_ BK349.out;obtain ⟨hfz45_0,hfz45_1⟩:=Hd.f2_ BK349.out) | (go_at_call 73;(with_reducible refine (impl_IsPoint.calls a1_0 a1_1 true _ A5.out).mono ?_);rintro e w46 ⟨rfl,hb⟩;replace BK348:=ak (Hd.kb_ BK348 hb);replace BK349:=ak (Hd.kb_ BK349 hb);replace HB:=ak (below_step Hd.b_ hb);clear hb;obtain ⟨hcz47_0,hcz47_1,hcz47_2,hcz47_3⟩:=Hd.c4_ BK348.out;obtain ⟨hfz47_0,hfz47_1,hfz47_2,hfz47_3⟩:=Hd.f4_ BK348.out;obtain ⟨hcz48_0,hcz48_1⟩:=Hd.c2_ BK349.out;obtain ⟨hfz48_0,hfz48_1⟩:=Hd.f2_ BK349.out) | (go_at_call 91;(with_reducible refine (impl_SideOf.calls k a0_0 a0_1 a0_2 a0_3 a1_0 a1_1 t352 _ A7.out).mono ?_);rintro e w49 ⟨rfl,hb⟩;replace BK348:=ak (Hd.kb_ BK348 hb);replace BK349:=ak (Hd.kb_ BK349 hb);replace HB:=ak (below_step Hd.b_ hb);clear hb))
  go_ret
  exact ⟨Hd.e_,Hd.b_⟩
 rw [if_pos c8] at H
 have c8b0:=beq_iff_eq.mpr c8
 have c8b1:=bne_eq_false_iff_eq.mpr c8
 clear c8
 obtain ⟨ji9,hji9⟩ : ∃ j_ : Int,(mn a0_0 a0_2) = j_:=⟨_,rfl⟩
 replace H : ((impl_InRange.f a1_0 (ji9) (mx a0_0 a0_2)).bind fun t353 => (if t353 = true then ((impl_InRange.f a1_1 (mn a0_1 a0_3) (mx a0_1 a0_3)).bind fun t354 => (some t354)) else (some false))) = some r:=by first | (rw [hji9] at H;exact H) | (simp only [hji9] at H ⊢;exact H)
 (try rw [hji9] at A3)
 (try rw [hji9] at A5)
 (try rw [hji9] at A7)
 have hji9_ : (if a0_2 < a0_0 then a0_2 else a0_0) = ji9:=hji9
 obtain ⟨ji10,hji10⟩ : ∃ j_ : Int,(mx a0_0 a0_2) = j_:=⟨_,rfl⟩
 replace H : ((impl_InRange.f a1_0 (ji9) (ji10)).bind fun t353 => (if t353 = true then ((impl_InRange.f a1_1 (mn a0_1 a0_3) (mx a0_1 a0_3)).bind fun t354 => (some t354)) else (some false))) = some r:=by first | (rw [hji10] at H;exact H) | (simp only [hji10] at H ⊢;exact H)
 (try rw [hji10] at A3)
 (try rw [hji10] at A5)
 (try rw [hji10] at A7)
 have hji10_ : (if a0_0 < a0_2 then a0_2 else a0_0) = ji10:=hji10
 replace H:=Hd.bd_ H;obtain ⟨t353,A11,H⟩:=H
 by_cases c12 : t353 = true;rotate_left
 ·
  replace c12:=Bool.eq_false_iff.mpr c12
  subst c12
  rw [if_neg (show ¬ (false = true) by decide)] at H
  obtain rfl:=Option.some.inj H
  go_enter Try.func94,Try.ntmps94
  go_wp2_with (first | ((with_reducible refine gate_dst (N:=2) rfl ?_);(try (refine gate_guard (by rfl) ?_;dsimp only));refine Hd.box_ 2 (#[.int .i64 a0_0,.int .i64 a0_1,.int .i64 a0_2,.int .i64 a0_3]) 101 ?_;intro gb348 hg w28 hbox hb;have BK348:=ak (hbox);have GW348:=z46_;have GE348:=z46_;replace HB:=ak (below_step Hd.b_ hb);clear hb hbox hg) | ((with_reducible refine gate_dst (N:=3) rfl ?_);(try (refine gate_guard (by rfl) ?_;dsimp only));refine Hd.box_ 3 (#[.int .i64 a1_0,.int .i64 a1_1]) 75 ?_;intro gb349 hg w29 hbox hb;have BK349:=ak (hbox);have GW349:=z47_;have GE349:=z47_;replace HB:=ak (below_step Hd.b_ hb);have NB348_349:=ak ((Hd.lt_ BK348 hg));have NB349_348:=ak ((Hd.gt_ BK348 hg));replace BK348:=ak (Hd.kb_ BK348 hb);clear hb hbox hg;have hnb30:=NB348_349.out;have hnc30:=NB349_348.out;obtain ⟨hcz31_0,hcz31_1,hcz31_2,hcz31_3⟩:=Hd.c4_ BK348.out;obtain ⟨hfz31_0,hfz31_1,hfz31_2,hfz31_3⟩:=Hd.f4_ BK348.out) | ((with_reducible refine gate_callee (f:=90) rfl ?_);refine Hd.gl_ 6 Try.func90 #[.agg #[.int .i64 a0_0,.int .i64 a0_1,.int .i64 a0_2,.int .i64 a0_3]] ?_;(with_reducible refine (impl_IsSegment.calls a0_0 a0_1 a0_2 a0_3 true _ A3.out).mono ?_);rintro e w32 ⟨rfl,hb⟩;refine ⟨_,rfl,?_⟩;replace BK348:=ak (Hd.kb_ BK348 hb);replace BK349:=ak (Hd.kb_ BK349 hb);replace HB:=ak (below_step Hd.b_ hb);clear hb;obtain ⟨hcz33_0,hcz33_1⟩:=Hd.c2_ BK349.out;obtain ⟨hfz33_0,hfz33_1⟩:=Hd.f2_ BK349.out) | (go_at_call 73;(with_reducible refine (impl_IsPoint.calls a1_0 a1_1 true _ A5.out).mono ?_);rintro e w34 ⟨rfl,hb⟩;replace BK348:=ak (Hd.kb_ BK348 hb);replace BK349:=ak (Hd.kb_ BK349 hb);replace HB:=ak (below_step Hd.b_ hb);clear hb;obtain ⟨hcz35_0,hcz35_1,hcz35_2,hcz35_3⟩:=Hd.c4_ BK348.out;obtain ⟨hfz35_0,hfz35_1,hfz35_2,hfz35_3⟩:=Hd.f4_ BK348.out;obtain ⟨hcz36_0,hcz36_1⟩:=Hd.c2_ BK349.out;obtain ⟨hfz36_0,hfz36_1⟩:=Hd.f2_ BK349.out) | (go_at_call 91;(with_reducible refine (impl_SideOf.calls k a0_0 a0_1 a0_2 a0_3 a1_0 a1_1 t352 _ A7.out).mono ?_);rintro e w37 ⟨rfl,hb⟩;replace BK348:=ak (Hd.kb_ BK348 hb);replace BK349:=ak (Hd.kb_ BK349 hb);replace HB:=ak (below_step Hd.b_ hb);clear hb;obtain ⟨hcz38_0,hcz38_1⟩:=Hd.c2_ BK349.out;obtain ⟨hfz38_0,hfz38_1⟩:=Hd.f2_ BK349.out;obtain ⟨hcz39_0,hcz39_1,hcz39_2,hcz39_3⟩:=Hd.c4_ BK348.out;obtain ⟨hfz39_0,hfz39_1,hfz39_2,hfz39_3⟩:=Hd.f4_ BK348.out) | (go_at_call 71;(with_reducible refine (impl_InRange.calls a1_0 ji9 ji10 false _ A11.out).mono ?_);rintro e w' ⟨rfl,⟨nd,rfl⟩⟩))
  go_ret
  exact ⟨by first | rfl | (simp [errW_none,errW_some] <;> rfl) | (simp only [← hji9,← hji10];first | rfl | (simp [errW_none,errW_some] <;> rfl)) | (simp [*,errW_none,errW_some] <;> rfl),Hd.b_⟩
 subst c12
 rw [if_pos rfl] at H
 obtain ⟨ji13,hji13⟩ : ∃ j_ : Int,(mn a0_1 a0_3) = j_:=⟨_,rfl⟩
 replace H : ((impl_InRange.f a1_1 (ji13) (mx a0_1 a0_3)).bind fun t354 => (some t354)) = some r:=by first | (rw [hji13] at H;exact H) | (simp only [hji13] at H ⊢;exact H)
 (try rw [hji13] at A3)
 (try rw [hji13] at A5)
 (try rw [hji13] at A7)
 (try rw [hji13] at A11)
 have hji13_ : (if a0_3 < a0_1 then a0_3 else a0_1) = ji13:=hji13
 obtain ⟨ji14,hji14⟩ : ∃ j_ : Int,(mx a0_1 a0_3) = j_:=⟨_,rfl⟩
 replace H : ((impl_InRange.f a1_1 (ji13) (ji14)).bind fun t354 => (some t354)) = some r:=by first | (rw [hji14] at H;exact H) | (simp only [hji14] at H ⊢;exact H)
 (try rw [hji14] at A3)
 (try rw [hji14] at A5)
 (try rw [hji14] at A7)
 (try rw [hji14] at A11)
 have hji14_ : (if a0_1 < a0_3 then a0_3 else a0_1) = ji14:=hji14
 replace H:=Hd.bd_ H;obtain ⟨t354,A15,H⟩:=H
 obtain rfl:=Option.some.inj H
 go_enter Try.func94,Try.ntmps94
 go_wp2_with (first | ((with_reducible refine gate_dst (N:=2) rfl ?_);(try (refine gate_guard (by rfl) ?_;dsimp only));refine Hd.box_ 2 (#[.int .i64 a0_0,.int .i64 a0_1,.int .i64 a0_2,.int .i64 a0_3]) 101 ?_;intro gb348 hg w16 hbox hb;have BK348:=ak (hbox);have GW348:=z46_;have GE348:=z46_;replace HB:=ak (below_step Hd.b_ hb);clear hb hbox hg) | ((with_reducible refine gate_dst (N:=3) rfl ?_);(try (refine gate_guard (by rfl) ?_;dsimp only));refine Hd.box_ 3 (#[.int .i64 a1_0,.int .i64 a1_1]) 75 ?_;intro gb349 hg w17 hbox hb;have BK349:=ak (hbox);have GW349:=z47_;have GE349:=z47_;replace HB:=ak (below_step Hd.b_ hb);have NB348_349:=ak ((Hd.lt_ BK348 hg));have NB349_348:=ak ((Hd.gt_ BK348 hg));replace BK348:=ak (Hd.kb_ BK348 hb);clear hb hbox hg;have hnb18:=NB348_349.out;have hnc18:=NB349_348.out;obtain ⟨hcz19_0,hcz19_1,hcz19_2,hcz19_3⟩:=Hd.c4_ BK348.out;obtain ⟨hfz19_0,hfz19_1,hfz19_2,hfz19_3⟩:=Hd.f4_ BK348.out) | ((with_reducible refine gate_callee (f:=90) rfl ?_);refine Hd.gl_ 6 Try.func90 #[.agg #[.int .i64 a0_0,.int .i64 a0_1,.int .i64 a0_2,.int .i64 a0_3]] ?_;(with_reducible refine (impl_IsSegment.calls a0_0 a0_1 a0_2 a0_3 true _ A3.out).mono ?_);rintro e w20 ⟨rfl,hb⟩;refine ⟨_,rfl,?_⟩;replace BK348:=ak (Hd.kb_ BK348 hb);replace BK349:=ak (Hd.kb_ BK349 hb);replace HB:=ak (below_step Hd.b_ hb);clear hb;obtain ⟨hcz21_0,hcz21_1⟩:=Hd.c2_ BK349.out;obtain ⟨hfz21_0,hfz21_1⟩:=Hd.f2_ BK349.out) | (go_at_call 73;(with_reducible refine (impl_IsPoint.calls a1_0 a1_1 true _ A5.out).mono ?_);rintro e w22 ⟨rfl,hb⟩;replace BK348:=ak (Hd.kb_ BK348 hb);replace BK349:=ak (Hd.kb_ BK349 hb);replace HB:=ak (below_step Hd.b_ hb);clear hb;obtain ⟨hcz23_0,hcz23_1,hcz23_2,hcz23_3⟩:=Hd.c4_ BK348.out;obtain ⟨hfz23_0,hfz23_1,hfz23_2,hfz23_3⟩:=Hd.f4_ BK348.out;obtain ⟨hcz24_0,hcz24_1⟩:=Hd.c2_ BK349.out;obtain ⟨hfz24_0,hfz24_1⟩:=Hd.f2_ BK349.out) | (go_at_call 91;(with_reducible refine (impl_SideOf.calls k a0_0 a0_1 a0_2 a0_3 a1_0 a1_1 t352 _ A7.out).mono ?_);rintro e w25 ⟨rfl,hb⟩;replace BK348:=ak (Hd.kb_ BK348 hb);replace BK349:=ak (Hd.kb_ BK349 hb);replace HB:=ak (below_step Hd.b_ hb);clear hb;obtain ⟨hcz26_0,hcz26_1⟩:=Hd.c2_ BK349.out;obtain ⟨hfz26_0,hfz26_1⟩:=Hd.f2_ BK349.out;obtain ⟨hcz27_0,hcz27_1,hcz27_2,hcz27_3⟩:=Hd.c4_ BK348.out;obtain ⟨hfz27_0,hfz27_1,hfz27_2,hfz27_3⟩:=Hd.f4_ BK348.out) | (go_at_call 71;(with_reducible refine (impl_InRange.calls a1_0 ji9 ji10 true _ A11.out).mono ?_);rintro e w' ⟨rfl,⟨nd,rfl⟩⟩) | (go_at_call 71;(with_reducible refine (impl_InRange.calls a1_1 ji13 ji14 t354 _ A15.out).mono ?_);rintro e w' ⟨rfl,⟨nd,rfl⟩⟩))
 go_ret
 exact ⟨by first | rfl | (simp [errW_none,errW_some] <;> rfl) | (simp only [← hji9,← hji10,← hji13,← hji14];first | rfl | (simp [errW_none,errW_some] <;> rfl)) | (simp [*,errW_none,errW_some] <;> rfl),Hd.b_⟩
end Go.Proofs.Ytbbdhlggnglfgaa.MFnExactPutFeature
