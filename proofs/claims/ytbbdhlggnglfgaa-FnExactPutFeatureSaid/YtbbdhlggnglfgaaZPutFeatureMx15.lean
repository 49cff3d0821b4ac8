-- Laid by this session's program pp.py, after the kit's print and texts of the session's own. Not trusted: Lean checks it.
import Derived.Test.YtbbdhlggnglfgaaZPutFeatureMx0
import Derived.Test.YtbbdhlggnglfgaaZPutFeatureMx9
import Derived.Test.YtbbdhlggnglfgaaZPutFeatureMx13
import Derived.Test.YtbbdhlggnglfgaaZPutFeatureMx14
namespace Go.Proofs.Ytbbdhlggnglfgaa.MFnExactPutFeature
open Go.RowKit Go.Proofs.YtbbdhlggnglfgaaW.PrintWords Go.Proofs.YtbbdhlggnglfgaaW.PrintLast Go.Proofs.YtbbdhlggnglfgaaW.PrintMore
attribute [local go_sem] max2_int min2_int max_two min_two max_three min_three max_four min_four   -- for this text's walks alone
set_option linter.unusedVariables false
set_option maxHeartbeats 8000000
set_option maxRecDepth 100000
set_option linter.unusedSimpArgs false
def impl_IsFeature.j0 : Nat → Bool → Int → Int → Int → ByteArray → List (S75) → Option (Bool)
 | 0,_,_,_,_,_,_ => none
 | k + 1,x23,x424000,x424001,x424002,x424003,x424004 => if x23 = true then (some false) else (if x424001 = 1 then (if (x424004.length : Int) = 1 then (if 0 < (x424004.length : Int) then ((impl_IsPoint.f ((rd_T75 x424004 0).f0) ((rd_T75 x424004 0).f1)).bind fun t428 => (some t428)) else (none)) else (some false)) else (if x424001 = 2 then ((impl_IsSimple.f k x424004).bind fun t429 => (some t429)) else (if x424001 = 3 then ((impl_IsRing.f k x424004).bind fun t430 => (some t430)) else (some false))))
def impl_IsFeature.f (k : Nat) (a0_0 : Int) (a0_1 : Int) (a0_2 : Int) (a0_3 : ByteArray) (l0_4 : List (S75)) : Option (Bool):=(impl_InRange.f a0_0 1 99).bind fun t424 => (if t424 = true then ((impl_InRange.f a0_2 0 9).bind fun t425 => (if t425 = true then (if a0_3.toList = ([] : List UInt8) then (impl_IsFeature.j0 k false a0_0 a0_1 a0_2 a0_3 l0_4) else ((impl_IsName.f k a0_3).bind fun t426 => (impl_IsFeature.j0 k (!t426) a0_0 a0_1 a0_2 a0_3 l0_4))) else (impl_IsFeature.j0 k true a0_0 a0_1 a0_2 a0_3 l0_4))) else (impl_IsFeature.j0 k true a0_0 a0_1 a0_2 a0_3 l0_4))
theorem impl_IsFeature.calls (k : Nat) (a0_0 : Int) (a0_1 : Int) (a0_2 : Int) (a0_3 : ByteArray) (A0_4 : Option Addr) (c0_4 : Nat) (l0_4 : List (S75)) (r : Bool) (w : World) (hr0_4 : Kd.C k75 w A0_4 l0_4.length l0_4) (hc0_4 : l0_4.length ≤ c0_4) (h : impl_IsFeature.f k a0_0 a0_1 a0_2 a0_3 l0_4 = some r) :
  Calls Try.prog 52 #[.agg #[.int .i64 a0_0,.int .i64 a0_1,.int .i64 a0_2,.string a0_3,.slice A0_4 l0_4.length c0_4]] w fun e w' => e = .returned (.bool r) ∧ Below w.heap.size w w':=by
 have hu34:=Try.underlying34
 have hu75:=Try.underlying75
 have HR0_4:=ak hr0_4
 have HC0_4:=ak hc0_4
 clear hr0_4 hc0_4
 have HB:=ak (Below.refl w.heap.size w)
 have H:=h;clear h;unfold impl_IsFeature.f at H
 have HC2:=ak H
 clear H
 go_enter Try.func52,Try.ntmps52
 go_upto_region 1 with (first | ((with_reducible refine gate_dst (N:=1) rfl ?_);refine Hd.box_ 1 (#[.int .i64 a0_0,.int .i64 a0_1,.int .i64 a0_2,.string a0_3,.slice A0_4 l0_4.length c0_4]) 34 ?_;intro gb423 hg w3 hbox hb;have BK423:=ak (hbox);have GW423:=ak ((Hd.g_ hg Hd.b_ : w.heap.size ≤ gb423));have GE423:=ak ((Hd.g_ hg Hd.b_ : w.heap.size ≤ gb423));replace HB:=ak (below_step Hd.b_ hb);clear hb hbox hg))
 (try simp only [Act.put,List.setIfInBounds_toArray,List.set_cons_zero,List.set_cons_succ])
 go_cut [23] (fun v23 wc => ∃ (kq : Nat) (x23_1 : Bool),v23 = .bool x23_1 ∧ Aside0 (impl_IsFeature.j0 kq x23_1 a0_0 a0_1 a0_2 a0_3 l0_4 = some r) ∧ Aside0 (kq ≤ k) ∧ Aside0 (wc.heap[gb423]? = some (.cells #[.int .i64 a0_0,.int .i64 a0_1,.int .i64 a0_2,.string a0_3,(.slice A0_4 l0_4.length c0_4)] 34 (0,0))) ∧ Aside0 (Below w.heap.size w wc))
 case first =>
  have H:=HC2.out
  clear HC2
  replace H:=Hd.bd_ H;obtain ⟨t424,A4,H⟩:=H
  by_cases c5 : t424 = true;rotate_left
  ·
   replace c5:=Bool.eq_false_iff.mpr c5
   subst c5
   rw [if_neg (show ¬ (false = true) by decide)] at H
   have H':=ak H
   clear H
   obtain ⟨hcz13_0,hcz13_1,hcz13_2,hcz13_3,hcz13_4⟩:=Hd.c5_ BK423.out
   obtain ⟨hfz13_0,hfz13_1,hfz13_2,hfz13_3,hfz13_4⟩:=Hd.f5_ BK423.out
   go_wp2_with (first | ((with_reducible refine gate_callee (f:=71) rfl ?_);refine Hd.gl_ 5 Try.func71 #[.int .i64 a0_0,.int .i64 1,.int .i64 99] ?_;(with_reducible refine (impl_InRange.calls a0_0 1 99 false _ A4.out).mono ?_);rintro e w' ⟨rfl,⟨nd,rfl⟩⟩;refine ⟨_,rfl,?_⟩))
   go_meet
   case rel => exact ⟨_,(true),z2_,H',⟨z21_⟩,⟨z0_ BK423⟩,⟨Hd.b_⟩⟩
  subst c5
  rw [if_pos rfl] at H
  replace H:=Hd.bd_ H;obtain ⟨t425,A6,H⟩:=H
  by_cases c7 : t425 = true;rotate_left
  ·
   replace c7:=Bool.eq_false_iff.mpr c7
   subst c7
   rw [if_neg (show ¬ (false = true) by decide)] at H
   have H':=ak H
   clear H
   obtain ⟨hcz12_0,hcz12_1,hcz12_2,hcz12_3,hcz12_4⟩:=Hd.c5_ BK423.out
   obtain ⟨hfz12_0,hfz12_1,hfz12_2,hfz12_3,hfz12_4⟩:=Hd.f5_ BK423.out
   go_wp2_with (first | ((with_reducible refine gate_callee (f:=71) rfl ?_);refine Hd.gl_ 5 Try.func71 #[.int .i64 a0_0,.int .i64 1,.int .i64 99] ?_;(with_reducible refine (impl_InRange.calls a0_0 1 99 true _ A4.out).mono ?_);rintro e w' ⟨rfl,⟨nd,rfl⟩⟩;refine ⟨_,rfl,?_⟩) | (go_at_call 71;(with_reducible refine (impl_InRange.calls a0_2 0 9 false _ A6.out).mono ?_);rintro e w' ⟨rfl,⟨nd,rfl⟩⟩))
   go_meet
   case rel => exact ⟨_,(true),z2_,H',⟨z21_⟩,⟨z0_ BK423⟩,⟨Hd.b_⟩⟩
  subst c7
  rw [if_pos rfl] at H
  by_cases c8 : a0_3.toList = ([] : List UInt8)
  ·
   rw [if_pos c8] at H
   have c8b0:=beq_iff_eq.mpr c8
   have c8b1:=bne_eq_false_iff_eq.mpr c8
   clear c8
   (first | rw [c8b0] | (simp only [i64_w,i32_w];rw [c8b0]) | skip)
   have H':=ak H
   clear H
   obtain ⟨hcz9_0,hcz9_1,hcz9_2,hcz9_3,hcz9_4⟩:=Hd.c5_ BK423.out
   obtain ⟨hfz9_0,hfz9_1,hfz9_2,hfz9_3,hfz9_4⟩:=Hd.f5_ BK423.out
   go_wp2_with (first | ((with_reducible refine gate_callee (f:=71) rfl ?_);refine Hd.gl_ 5 Try.func71 #[.int .i64 a0_0,.int .i64 1,.int .i64 99] ?_;(with_reducible refine (impl_InRange.calls a0_0 1 99 true _ A4.out).mono ?_);rintro e w' ⟨rfl,⟨nd,rfl⟩⟩;refine ⟨_,rfl,?_⟩) | (go_at_call 71;(with_reducible refine (impl_InRange.calls a0_2 0 9 true _ A6.out).mono ?_);rintro e w' ⟨rfl,⟨nd,rfl⟩⟩))
   go_meet
   case rel => exact ⟨_,(false),z2_,H',⟨z21_⟩,⟨z0_ BK423⟩,⟨Hd.b_⟩⟩
  rw [if_neg c8] at H
  have c8b0:=beq_eq_false_iff_ne.mpr c8
  have c8b1:=bne_iff_ne.mpr c8
  (first | rw [c8b0] | (simp only [i64_w,i32_w];rw [c8b0]) | skip)
  replace H:=Hd.bd_ H;obtain ⟨t426,A10,H⟩:=H
  have H':=ak H
  clear H
  obtain ⟨hcz11_0,hcz11_1,hcz11_2,hcz11_3,hcz11_4⟩:=Hd.c5_ BK423.out
  obtain ⟨hfz11_0,hfz11_1,hfz11_2,hfz11_3,hfz11_4⟩:=Hd.f5_ BK423.out
  go_wp2_with (first | ((with_reducible refine gate_callee (f:=71) rfl ?_);refine Hd.gl_ 5 Try.func71 #[.int .i64 a0_0,.int .i64 1,.int .i64 99] ?_;(with_reducible refine (impl_InRange.calls a0_0 1 99 true _ A4.out).mono ?_);rintro e w' ⟨rfl,⟨nd,rfl⟩⟩;refine ⟨_,rfl,?_⟩) | (go_at_call 71;(with_reducible refine (impl_InRange.calls a0_2 0 9 true _ A6.out).mono ?_);rintro e w' ⟨rfl,⟨nd,rfl⟩⟩) | (go_at_call 72;(with_reducible refine (impl_IsName.calls k a0_3 t426 _ A10.out).mono ?_);rintro e w' ⟨rfl,⟨nd,rfl⟩⟩))
  go_meet
  case rel => exact ⟨_,(!t426),z2_,H',⟨z21_⟩,⟨z0_ BK423⟩,⟨Hd.b_⟩⟩
 case rest =>
  clear HC2
  try clear p2;try clear c5;try clear c7;try clear c8;try clear c8b0;try clear c8b1;try clear hcz11_0;try clear hcz11_1;try clear hcz11_2;try clear hcz11_3;try clear hcz11_4;try clear hcz12_0;try clear hcz12_1;try clear hcz12_2;try clear hcz12_3;try clear hcz12_4;try clear hcz13_0;try clear hcz13_1;try clear hcz13_2;try clear hcz13_3;try clear hcz13_4;try clear hcz9_0;try clear hcz9_1;try clear hcz9_2;try clear hcz9_3;try clear hcz9_4;try clear hfz11_0;try clear hfz11_1;try clear hfz11_2;try clear hfz11_3;try clear hfz11_4;try clear hfz12_0;try clear hfz12_1;try clear hfz12_2;try clear hfz12_3;try clear hfz12_4;try clear hfz13_0;try clear hfz13_1;try clear hfz13_2;try clear hfz13_3;try clear hfz13_4;try clear hfz9_0;try clear hfz9_1;try clear hfz9_2;try clear hfz9_3;try clear hfz9_4
  obtain ⟨kq,x23_1,rfl,HA,HJ1,BK423,HB⟩:=hcut
  cases kq with
  | zero => exact absurd HA.out (by simp [impl_IsFeature.j0])
  | succ kj1 =>
   have H:=HA.out
   clear HA
   simp only [impl_IsFeature.j0] at H
   by_cases c14 : x23_1 = true
   ·
    subst c14
    rw [if_pos rfl] at H
    obtain rfl:=Option.some.inj H
    go_wp2
    go_ret
    exact ⟨Hd.e_,Hd.b_⟩
   replace c14:=Bool.eq_false_iff.mpr c14
   subst c14
   rw [if_neg (show ¬ (false = true) by decide)] at H
   by_cases c15 : a0_1 = 1;rotate_left
   ·
    rw [if_neg c15] at H
    have c15b0:=beq_eq_false_iff_ne.mpr c15
    have c15b1:=bne_iff_ne.mpr c15
    by_cases c22 : a0_1 = 2
    ·
     rw [if_pos c22] at H
     have c22b0:=beq_iff_eq.mpr c22
     have c22b1:=bne_eq_false_iff_eq.mpr c22
     clear c22
     replace H:=Hd.bd_ H;obtain ⟨t429,A23,H⟩:=H
     obtain rfl:=Option.some.inj H
     obtain ⟨hcz24_0,hcz24_1,hcz24_2,hcz24_3,hcz24_4⟩:=Hd.c5_ BK423.out
     obtain ⟨hfz24_0,hfz24_1,hfz24_2,hfz24_3,hfz24_4⟩:=Hd.f5_ BK423.out
     go_wp2_with (first | ((with_reducible refine gate_callee (f:=74) rfl ?_);refine Hd.gl_ 43 Try.func74 #[.slice A0_4 l0_4.length c0_4] ?_;(with_reducible refine (impl_IsSimple.calls kj1 _ _ l0_4 t429 _ ?side1 ?side2 A23.out).mono ?_);(case side1 => exact z1_ HR0_4);(case side2 => exact HC0_4.out);rintro e w25 ⟨rfl,hb⟩;refine ⟨_,rfl,?_⟩;replace BK423:=ak (Hd.kb_ BK423 hb);replace HB:=ak (below_step Hd.b_ hb);clear hb))
     go_ret
     exact ⟨Hd.e_,Hd.b_⟩
    rw [if_neg c22] at H
    have c22b0:=beq_eq_false_iff_ne.mpr c22
    have c22b1:=bne_iff_ne.mpr c22
    by_cases c26 : a0_1 = 3;rotate_left
    ·
     rw [if_neg c26] at H
     have c26b0:=beq_eq_false_iff_ne.mpr c26
     have c26b1:=bne_iff_ne.mpr c26
     obtain rfl:=Option.some.inj H
     obtain ⟨hcz30_0,hcz30_1,hcz30_2,hcz30_3,hcz30_4⟩:=Hd.c5_ BK423.out
     obtain ⟨hfz30_0,hfz30_1,hfz30_2,hfz30_3,hfz30_4⟩:=Hd.f5_ BK423.out
     go_wp2
     go_ret
     exact ⟨Hd.e_,Hd.b_⟩
    rw [if_pos c26] at H
    have c26b0:=beq_iff_eq.mpr c26
    have c26b1:=bne_eq_false_iff_eq.mpr c26
    clear c26
    replace H:=Hd.bd_ H;obtain ⟨t430,A27,H⟩:=H
    obtain rfl:=Option.some.inj H
    obtain ⟨hcz28_0,hcz28_1,hcz28_2,hcz28_3,hcz28_4⟩:=Hd.c5_ BK423.out
    obtain ⟨hfz28_0,hfz28_1,hfz28_2,hfz28_3,hfz28_4⟩:=Hd.f5_ BK423.out
    go_wp2_with (first | ((with_reducible refine gate_callee (f:=75) rfl ?_);refine Hd.gl_ 48 Try.func75 #[.slice A0_4 l0_4.length c0_4] ?_;(with_reducible refine (impl_IsRing.calls kj1 _ _ l0_4 t430 _ ?side1 ?side2 A27.out).mono ?_);(case side1 => exact z1_ HR0_4);(case side2 => exact HC0_4.out);rintro e w29 ⟨rfl,hb⟩;refine ⟨_,rfl,?_⟩;replace BK423:=ak (Hd.kb_ BK423 hb);replace HB:=ak (below_step Hd.b_ hb);clear hb))
    go_ret
    exact ⟨Hd.e_,Hd.b_⟩
   rw [if_pos c15] at H
   have c15b0:=beq_iff_eq.mpr c15
   have c15b1:=bne_eq_false_iff_eq.mpr c15
   clear c15
   by_cases c16 : (l0_4.length : Int) = 1;rotate_left
   ·
    rw [if_neg c16] at H
    have c16b0:=beq_eq_false_iff_ne.mpr c16
    have c16b1:=bne_iff_ne.mpr c16
    obtain rfl:=Option.some.inj H
    obtain ⟨hcz21_0,hcz21_1,hcz21_2,hcz21_3,hcz21_4⟩:=Hd.c5_ BK423.out
    obtain ⟨hfz21_0,hfz21_1,hfz21_2,hfz21_3,hfz21_4⟩:=Hd.f5_ BK423.out
    go_wp2
    go_ret
    exact ⟨Hd.e_,Hd.b_⟩
   rw [if_pos c16] at H
   have c16b0:=beq_iff_eq.mpr c16
   have c16b1:=bne_eq_false_iff_eq.mpr c16
   clear c16
   by_cases c17 : 0 < (l0_4.length : Int);rotate_left
   ·
    rw [if_neg c17] at H
    exact absurd H (by simp)
   rw [if_pos c17] at H
   have c17b0:=decide_eq_true c17
   have c17b1 : decide (0 < l0_4.length) = true:=decide_eq_true (by omega)
   clear c17
   replace H:=Hd.bd_ H;obtain ⟨t428,A18,H⟩:=H
   obtain rfl:=Option.some.inj H
   obtain ⟨hcz19_0,hcz19_1,hcz19_2,hcz19_3,hcz19_4⟩:=Hd.c5_ BK423.out
   obtain ⟨hfz19_0,hfz19_1,hfz19_2,hfz19_3,hfz19_4⟩:=Hd.f5_ BK423.out
   have p427 : 0 ≤ (0 : Int):=(by omega)
   have q427 : 0 < (l0_4.length : Int):=of_decide_eq_true Hd.a_
   obtain ⟨ad427,e427,hx427_0,hx427_1⟩:=at_T75 HR0_4.out 0 p427 q427
   cases e427
   have qi427 : (0 < l0_4.length) = True:=eq_true (by omega)
   (try rw [show ((0 : Int)).toNat = 0 from rfl] at hx427_0)
   (try rw [show 0 * 2 = 0 from rfl] at hx427_0)
   (try rw [Addr.add_zero'] at hx427_0)
   (try rw [show ((0 : Int)).toNat = 0 from rfl] at hx427_1)
   (try rw [show 0 * 2 = 0 from rfl] at hx427_1)
   (try rw [Addr.add_zero'] at hx427_1)
   replace hx427_0:=(HB.out.cell (World.block_lt_of_cell? w _ hx427_0)).trans hx427_0
   replace hx427_1:=(HB.out.cell (World.block_lt_of_cell? w _ hx427_1)).trans hx427_1
   replace p427:=eq_true p427
   replace q427:=eq_true q427
   go_wp2_with (first | (go_at_call 73;(with_reducible refine (impl_IsPoint.calls ((rd_T75 l0_4 0).f0) ((rd_T75 l0_4 0).f1) t428 _ A18.out).mono ?_);rintro e w20 ⟨rfl,hb⟩;replace BK423:=ak (Hd.kb_ BK423 hb);replace HB:=ak (below_step Hd.b_ hb);clear hb))
   go_ret
   exact ⟨Hd.e_,Hd.b_⟩
def impl_IsSource.l0 : Nat → List (S34) → List (S34) → Int → Int → Option (Bool)
 | 0,_,_,_,_ => none
 | k + 1,x0,x8,x9,x10 => if x10 < x9 then (if 0 ≤ x10 then (if x10 < (x8.length : Int) then ((impl_IsFeature.f k ((rd_T34 x8 x10).f0) ((rd_T34 x8 x10).f1) ((rd_T34 x8 x10).f2) ((rd_T34 x8 x10).f3) ((rd_T34 x8 x10).f4)).bind fun t433 => (if t433 = true then (if x10 > 0 then (if 0 ≤ (wrap64 (x10 - 1)) then (if (wrap64 (x10 - 1)) < (x0.length : Int) then (if ((rd_T34 x8 x10).f0) ≤ ((rd_T34 x0 (wrap64 (x10 - 1))).f0) then (some false) else (impl_IsSource.l0 k x0 x8 x9 (wrap64 (x10 + 1)))) else (none)) else (none)) else (impl_IsSource.l0 k x0 x8 x9 (wrap64 (x10 + 1)))) else (some false))) else (none)) else (none)) else (some true)
def impl_IsSource.f (k : Nat) (l0 : List (S34)) : Option (Bool):=if (l0.length : Int) > 16 then (some false) else (impl_IsSource.l0 k l0 l0 (l0.length : Int) 0)
def impl_IsSource.T6 : Bool × List (List Nat × List Nat):=(true,[([],[]),([0],[0]),([1],[1]),([2,1],[2]),([3],[3]),([4,3],[3,4]),([5,3,3],[3,5]),([6],[6]),([7,6],[6,7]),([6],[6]),([6],[6]),([10,6],[6,10]),([9,11,6],[6,9,11]),([12,6],[6,12]),([13,6],[6,13]),([8,14,6],[6,8,14]),([6,15,3],[3,6,15]),([3,16],[3,16])])
def impl_IsSource.B6 : List Nat:=[0,1,3,7,15,31,63,127,255,127,127,1151,3711,7807,15999,32767,65535,131071]
theorem impl_IsSource.tab6 : rtab .any (opsOf Try.f21 6) = impl_IsSource.T6:=by kernel_rfl
theorem impl_IsSource.bits6 : waitsOk impl_IsSource.T6.2 impl_IsSource.B6 = true:=by kernel_rfl
theorem impl_IsSource.calls (k : Nat) (A0 : Option Addr) (c0 : Nat) (l0 : List (S34)) (r : Bool) (w : World) (hr0 : Kd.C k34 w A0 l0.length l0) (hc0 : l0.length ≤ c0) (h : impl_IsSource.f k l0 = some r) :
  Calls Try.prog 21 #[.slice A0 l0.length c0] w fun e w' => e = .returned (.bool r) ∧ Below w.heap.size w w':=by
 have hu34:=Try.underlying34
 have HR0:=ak hr0
 have HC0:=ak hc0
 clear hr0 hc0
 have HB:=ak (Below.refl w.heap.size w)
 have H:=h;clear h;unfold impl_IsSource.f at H
 by_cases c2 : (l0.length : Int) > 16
 ·
  rw [if_pos c2] at H
  have c2b0 : decide (16 < (l0.length : Int)) = true:=decide_eq_true c2
  have c2b1 : decide (16 < l0.length) = true:=decide_eq_true (by omega)
  clear c2
  obtain rfl:=Option.some.inj H
  go_enter Try.func21,Try.ntmps21
  go_wp2
  go_ret
  exact ⟨Hd.e_,Hd.b_⟩
 rw [if_neg c2] at H
 have c2b0 : decide (16 < (l0.length : Int)) = false:=decide_eq_false c2
 have c2b1 : decide (16 < l0.length) = false:=decide_eq_false (by omega)
 clear c2
 have H':=ak H
 clear H
 go_enter Try.func21,Try.ntmps21
 go_wp2
 go_loopg [10] k (fun kq v10 w' => ∃ (x10_1 : Int),v10 = .int .i64 x10_1 ∧ Aside0 (impl_IsSource.l0 kq l0 l0 (l0.length : Int) x10_1 = some r) ∧ Aside0 (kq ≤ k) ∧ Aside0 (Below w.heap.size w w'))
 case atStart => exact ⟨(0),z2_,H',⟨Nat.le_refl _⟩,⟨Hd.b_⟩⟩
 case round =>
  clear H'
  try clear c2;try clear c2b0;try clear c2b1;try clear p2
  obtain ⟨x10_1,rfl,HA,HK1,HB⟩:=hrel
  cases gk with
  | zero => exact absurd HA.out (by simp [impl_IsSource.l0])
  | succ k1 =>
   have H:=HA.out
   clear HA
   simp only [impl_IsSource.l0] at H
   by_cases c3 : x10_1 < (l0.length : Int);rotate_left
   ·
    rw [if_neg c3] at H
    have c3b0:=decide_eq_false c3
    clear c3
    obtain rfl:=Option.some.inj H
    go_wp2
    go_ret
    exact ⟨Hd.e_,Hd.b_⟩
   rw [if_pos c3] at H
   have c3b0:=decide_eq_true c3
   clear c3
   by_cases c4 : 0 ≤ x10_1;rotate_left
   ·
    rw [if_neg c4] at H
    exact absurd H (by simp)
   rw [if_pos c4] at H
   have c4b0:=decide_eq_true c4
   clear c4
   by_cases c5 : x10_1 < (l0.length : Int);rotate_left
   ·
    rw [if_neg c5] at H
    exact absurd H (by simp)
   rw [if_pos c5] at H
   have c5b0:=decide_eq_true c5
   clear c5
   replace H:=Hd.bd_ H;obtain ⟨t433,A6,H⟩:=H
   by_cases c7 : t433 = true;rotate_left
   ·
    replace c7:=Bool.eq_false_iff.mpr c7
    subst c7
    rw [if_neg (show ¬ (false = true) by decide)] at H
    obtain rfl:=Option.some.inj H
    have p431 : 0 ≤ (x10_1 : Int):=of_decide_eq_true Hd.a_
    have q431 : x10_1 < (l0.length : Int):=of_decide_eq_true Hd.a_
    obtain ⟨ad431,A431_4,c431_4,e431,hx431_0,hx431_1,hx431_2,hx431_3,hx431_4,hl431_4,hi431_4⟩:=at_T34 HR0.out x10_1 p431 q431
    cases e431
    replace hx431_0:=(HB.out.cell (World.block_lt_of_cell? w _ hx431_0)).trans hx431_0
    replace hx431_1:=(HB.out.cell (World.block_lt_of_cell? w _ hx431_1)).trans hx431_1
    replace hx431_2:=(HB.out.cell (World.block_lt_of_cell? w _ hx431_2)).trans hx431_2
    replace hx431_3:=(HB.out.cell (World.block_lt_of_cell? w _ hx431_3)).trans hx431_3
    replace hx431_4:=(HB.out.cell (World.block_lt_of_cell? w _ hx431_4)).trans hx431_4
    have HR431_4:=ak hi431_4
    have HC431_4:=ak hl431_4
    clear hi431_4 hl431_4
    replace p431:=eq_true p431
    replace q431:=eq_true q431
    try go_wp2_with (first | ((with_reducible refine gate_dst (N:=4) rfl ?_);refine Hd.box_ 4 (#[.int .i64 0,.int .i64 0,.int .i64 0,.string (⟨#[]⟩ : ByteArray),.slice none 0 0]) 34 ?_;intro gb432 hg w28 hbox hb;have BK432:=ak (hbox);have GW432:=z61_;have GE432:=z61_;replace HB:=ak (below_step Hd.b_ hb);clear hb hbox hg;obtain ⟨hcz29_0,hcz29_1,hcz29_2,hcz29_3,hcz29_4⟩:=Hd.c5_ BK432.out;obtain ⟨hfz29_0,hfz29_1,hfz29_2,hfz29_3,hfz29_4⟩:=Hd.f5_ BK432.out))
    have n0_ : Aside0 ((((((w28.setCell ⟨gb432,0,none⟩ (.int .i64 ((rd_T34 l0 x10_1).f0))).setCell ⟨gb432,1,none⟩ (.int .i64 ((rd_T34 l0 x10_1).f1))).setCell ⟨gb432,2,none⟩ (.int .i64 ((rd_T34 l0 x10_1).f2))).setCell ⟨gb432,3,none⟩ (.string ((rd_T34 l0 x10_1).f3))).setCell ⟨gb432,4,none⟩ (.slice A431_4 ((rd_T34 l0 x10_1).f4).length c431_4)).heap[gb432]? = some (.cells #[.int .i64 ((rd_T34 l0 x10_1).f0),.int .i64 ((rd_T34 l0 x10_1).f1),.int .i64 ((rd_T34 l0 x10_1).f2),.string ((rd_T34 l0 x10_1).f3),.slice A431_4 ((rd_T34 l0 x10_1).f4).length c431_4] 34 (0,0))):=⟨z6_ BK432⟩
    have n1_ : Aside0 (Below w.heap.size w (((((w28.setCell ⟨gb432,0,none⟩ (.int .i64 ((rd_T34 l0 x10_1).f0))).setCell ⟨gb432,1,none⟩ (.int .i64 ((rd_T34 l0 x10_1).f1))).setCell ⟨gb432,2,none⟩ (.int .i64 ((rd_T34 l0 x10_1).f2))).setCell ⟨gb432,3,none⟩ (.string ((rd_T34 l0 x10_1).f3))).setCell ⟨gb432,4,none⟩ (.slice A431_4 ((rd_T34 l0 x10_1).f4).length c431_4))):=⟨Hd.b_⟩
    try clear BK432;try clear HB
    generalize (((((w28.setCell ⟨gb432,0,none⟩ (.int .i64 ((rd_T34 l0 x10_1).f0))).setCell ⟨gb432,1,none⟩ (.int .i64 ((rd_T34 l0 x10_1).f1))).setCell ⟨gb432,2,none⟩ (.int .i64 ((rd_T34 l0 x10_1).f2))).setCell ⟨gb432,3,none⟩ (.string ((rd_T34 l0 x10_1).f3))).setCell ⟨gb432,4,none⟩ (.slice A431_4 ((rd_T34 l0 x10_1).f4).length c431_4)) = w30 at n0_ n1_ ⊢
    have BK432:=n0_
    have HB:=n1_
    clear n0_ n1_
    replace BK432:=ak (blk_drew BK432.out)
    replace HB:=ak (below_drew1 HB.out)
    refine start_ (n:=18) (S:=fun w' => w'.cell? ⟨gb432,0,none⟩ = some (.int .i64 ((rd_T34 l0 x10_1).f0)) ∧ w'.cell? ⟨gb432,1,none⟩ = some (.int .i64 ((rd_T34 l0 x10_1).f1)) ∧ w'.cell? ⟨gb432,2,none⟩ = some (.int .i64 ((rd_T34 l0 x10_1).f2)) ∧ w'.cell? ⟨gb432,3,none⟩ = some (.string ((rd_T34 l0 x10_1).f3)) ∧ w'.cell? ⟨gb432,4,none⟩ = some (.slice A431_4 ((rd_T34 l0 x10_1).f4).length c431_4)) (ds:=[]) #[N_,N_,N_,N_,N_,N_,N_,N_,N_,N_,N_,N_,N_,N_,N_,N_,N_,N_] (by kernel_rfl) rfl rfl ⟨(blk_cell BK432.out 0).trans rfl,(blk_cell BK432.out 1).trans rfl,(blk_cell BK432.out 2).trans rfl,(blk_cell BK432.out 3).trans rfl,(blk_cell BK432.out 4).trans rfl⟩ (fun hHeld => ?_);refine with_tabW impl_IsSource.tab6 impl_IsSource.bits6 (fun HT_ HW_ => ?_)
    generalize w30.drew = w31 at BK432 HB hHeld ⊢
    refine Hd.t_ HT_ HW_ hHeld 0 (some 15) #[Y_,N_,N_,N_,N_,N_,N_,N_,N_,N_,N_,N_,N_,N_,N_,N_,N_,N_] ?_
    refine Hd.o_ HT_ 1 (some 16) #[Y_,Y_,N_,N_,N_,N_,N_,N_,N_,N_,N_,N_,N_,N_,N_,N_,N_,N_] (fun K hK => ?_)
    refine goes_ Try.func52 (by kernel_rfl) rfl #[.agg #[.int .i64 ((rd_T34 l0 x10_1).f0),.int .i64 ((rd_T34 l0 x10_1).f1),.int .i64 ((rd_T34 l0 x10_1).f2),.string ((rd_T34 l0 x10_1).f3),.slice A431_4 ((rd_T34 l0 x10_1).f4).length c431_4]] (by rfl) rfl rfl Hd.m_ ?_
    with_reducible refine (impl_IsFeature.calls k1 ((rd_T34 l0 x10_1).f0) ((rd_T34 l0 x10_1).f1) ((rd_T34 l0 x10_1).f2) ((rd_T34 l0 x10_1).f3) _ _ ((rd_T34 l0 x10_1).f4) false _ ?side1 ?side2 A6.out).mono ?_
    (case side1 => exact z1_ HR431_4)
    (case side2 => exact HC431_4.out)
    rintro e w32 ⟨rfl,hb⟩
    refine ⟨_,rfl,?_⟩
    replace BK432:=ak (Hd.kb_ BK432 hb)
    replace HB:=ak (below_step Hd.b_ hb)
    try clear hb;try clear hb2;try clear hk;try clear hi
    refine hK.out _ _ ⟨(blk_cell BK432.out 0).trans rfl,(blk_cell BK432.out 1).trans rfl,(blk_cell BK432.out 2).trans rfl,(blk_cell BK432.out 3).trans rfl,(blk_cell BK432.out 4).trans rfl⟩ (fun hHeld => ?_)
    clear hK K
    refine Hd.n_ (some 16) ?_
    refine Hd.p_ HT_ 2 (some 17) #[Y_,Y_,Y_,N_,N_,N_,N_,N_,N_,N_,N_,N_,N_,N_,N_,N_,N_,N_] ?_
    refine Hd.p_ HT_ 3 (some 18) #[Y_,Y_,Y_,Y_,N_,N_,N_,N_,N_,N_,N_,N_,N_,N_,N_,N_,N_,N_] ?_
    refine pure_ (i:=4) (N:=some 19) (v:=undef) (a':=?_) #[Y_,Y_,Y_,Y_,Y_,N_,N_,N_,N_,N_,N_,N_,N_,N_,N_,N_,N_,N_] rfl rfl (any_of HT_.out (by kernel_rfl)) (fun _ _ _ h => h) (Or.inr ⟨by rfl,rfl⟩) ?_ ?_
    rotate_left
    ·
     simp only [Act.put,List.setIfInBounds_toArray,List.set_cons_zero,List.set_cons_succ,i64_w,i32_w]
     rfl
    refine pure_ (i:=5) (N:=some 20) (v:=undef) (a':=?_) #[Y_,Y_,Y_,Y_,Y_,Y_,N_,N_,N_,N_,N_,N_,N_,N_,N_,N_,N_,N_] rfl rfl (any_of HT_.out (by kernel_rfl)) (fun _ _ _ h => h) (Or.inr ⟨by rfl,rfl⟩) ?_ ?_
    rotate_left
    ·
     simp only [Act.put,List.setIfInBounds_toArray,List.set_cons_zero,List.set_cons_succ,i64_w,i32_w]
     rfl
    refine pure_ (i:=6) (N:=some 21) (v:=undef) (a':=?_) #[Y_,Y_,Y_,Y_,Y_,Y_,Y_,N_,N_,N_,N_,N_,N_,N_,N_,N_,N_,N_] rfl rfl (any_of HT_.out (by kernel_rfl)) (fun _ _ _ h => h) (Or.inr ⟨by rfl,rfl⟩) ?_ ?_
    rotate_left
    ·
     simp only [Act.put,List.setIfInBounds_toArray,List.set_cons_zero,List.set_cons_succ,i64_w,i32_w]
     rfl
    refine pure_ (i:=7) (N:=some 22) (v:=undef) (a':=?_) #[Y_,Y_,Y_,Y_,Y_,Y_,Y_,Y_,N_,N_,N_,N_,N_,N_,N_,N_,N_,N_] rfl rfl (any_of HT_.out (by kernel_rfl)) (fun _ _ _ h => h) (Or.inr ⟨by rfl,rfl⟩) ?_ ?_
    rotate_left
    ·
     simp only [Act.put,List.setIfInBounds_toArray,List.set_cons_zero,List.set_cons_succ,i64_w,i32_w]
     rfl
    refine pure_ (i:=8) (N:=some 23) (v:=undef) (a':=?_) #[Y_,Y_,Y_,Y_,Y_,Y_,Y_,Y_,Y_,N_,N_,N_,N_,N_,N_,N_,N_,N_] rfl rfl (any_of HT_.out (by kernel_rfl)) (fun _ _ _ h => h) (Or.inr ⟨by rfl,rfl⟩) ?_ ?_
    rotate_left
    ·
     simp only [Act.put,List.setIfInBounds_toArray,List.set_cons_zero,List.set_cons_succ,i64_w,i32_w]
     rfl
    refine pure_ (i:=9) (N:=some 24) (v:=undef) (a':=?_) #[Y_,Y_,Y_,Y_,Y_,Y_,Y_,Y_,Y_,Y_,N_,N_,N_,N_,N_,N_,N_,N_] rfl rfl (any_of HT_.out (by kernel_rfl)) (fun _ _ _ h => h) (Or.inr ⟨by rfl,rfl⟩) ?_ ?_
    rotate_left
    ·
     simp only [Act.put,List.setIfInBounds_toArray,List.set_cons_zero,List.set_cons_succ,i64_w,i32_w]
     rfl
    refine pure_ (i:=10) (N:=some 25) (v:=undef) (a':=?_) #[Y_,Y_,Y_,Y_,Y_,Y_,Y_,Y_,Y_,Y_,Y_,N_,N_,N_,N_,N_,N_,N_] rfl rfl (any_of HT_.out (by kernel_rfl)) (fun _ _ _ h => h) (Or.inr ⟨by rfl,rfl⟩) ?_ ?_
    rotate_left
    ·
     simp only [Act.put,List.setIfInBounds_toArray,List.set_cons_zero,List.set_cons_succ,i64_w,i32_w]
     rfl
    refine pure_ (i:=11) (N:=some 26) (v:=undef) (a':=?_) #[Y_,Y_,Y_,Y_,Y_,Y_,Y_,Y_,Y_,Y_,Y_,Y_,N_,N_,N_,N_,N_,N_] rfl rfl (any_of HT_.out (by kernel_rfl)) (fun _ _ _ h => h) (Or.inr ⟨by rfl,rfl⟩) ?_ ?_
    rotate_left
    ·
     simp only [Act.put,List.setIfInBounds_toArray,List.set_cons_zero,List.set_cons_succ,i64_w,i32_w]
     rfl
    refine pure_ (i:=12) (N:=some 27) (v:=undef) (a':=?_) #[Y_,Y_,Y_,Y_,Y_,Y_,Y_,Y_,Y_,Y_,Y_,Y_,Y_,N_,N_,N_,N_,N_] rfl rfl (any_of HT_.out (by kernel_rfl)) (fun _ _ _ h => h) (Or.inr ⟨by rfl,rfl⟩) ?_ ?_
    rotate_left
    ·
     simp only [Act.put,List.setIfInBounds_toArray,List.set_cons_zero,List.set_cons_succ,i64_w,i32_w]
     rfl
    refine pure_ (i:=13) (N:=some 28) (v:=undef) (a':=?_) #[Y_,Y_,Y_,Y_,Y_,Y_,Y_,Y_,Y_,Y_,Y_,Y_,Y_,Y_,N_,N_,N_,N_] rfl rfl (any_of HT_.out (by kernel_rfl)) (fun _ _ _ h => h) (Or.inr ⟨by rfl,rfl⟩) ?_ ?_
    rotate_left
    ·
     simp only [Act.put,List.setIfInBounds_toArray,List.set_cons_zero,List.set_cons_succ,i64_w,i32_w]
     rfl
    refine pure_ (i:=14) (N:=some 29) (v:=undef) (a':=?_) #[Y_,Y_,Y_,Y_,Y_,Y_,Y_,Y_,Y_,Y_,Y_,Y_,Y_,Y_,Y_,N_,N_,N_] rfl rfl (any_of HT_.out (by kernel_rfl)) (fun _ _ _ h => h) (Or.inr ⟨by rfl,rfl⟩) ?_ ?_
    rotate_left
    ·
     simp only [Act.put,List.setIfInBounds_toArray,List.set_cons_zero,List.set_cons_succ,i64_w,i32_w]
     rfl
    refine pure_ (i:=15) (N:=some 30) (v:=undef) (a':=?_) #[Y_,Y_,Y_,Y_,Y_,Y_,Y_,Y_,Y_,Y_,Y_,Y_,Y_,Y_,Y_,Y_,N_,N_] rfl rfl (any_of HT_.out (by kernel_rfl)) (fun _ _ _ h => h) (Or.inr ⟨by rfl,rfl⟩) ?_ ?_
    rotate_left
    ·
     simp only [Act.put,List.setIfInBounds_toArray,List.set_cons_zero,List.set_cons_succ,i64_w,i32_w]
     rfl
    refine pure_ (i:=16) (N:=some 31) (v:=undef) (a':=?_) #[Y_,Y_,Y_,Y_,Y_,Y_,Y_,Y_,Y_,Y_,Y_,Y_,Y_,Y_,Y_,Y_,Y_,N_] rfl rfl (any_of HT_.out (by kernel_rfl)) (fun _ _ _ h => h) (Or.inr ⟨by rfl,rfl⟩) ?_ ?_
    rotate_left
    ·
     simp only [Act.put,List.setIfInBounds_toArray,List.set_cons_zero,List.set_cons_succ,i64_w,i32_w]
     rfl
    refine Hd.p_ HT_ 17 (some 32) #[Y_,Y_,Y_,Y_,Y_,Y_,Y_,Y_,Y_,Y_,Y_,Y_,Y_,Y_,Y_,Y_,Y_,Y_] ?_
    refine done_ (done_of HT_.out (by kernel_rfl)) ?_
    try go_wp2
    go_ret
    exact ⟨Hd.e_,Hd.b_⟩
   subst c7
   rw [if_pos rfl] at H
   by_cases c8 : x10_1 > 0;rotate_left
   ·
    rw [if_neg c8] at H
    have c8b0 : decide (0 < x10_1) = false:=decide_eq_false c8
    clear c8
    have H':=ak H
    clear H
    have p431 : 0 ≤ (x10_1 : Int):=of_decide_eq_true Hd.a_
    have q431 : x10_1 < (l0.length : Int):=of_decide_eq_true Hd.a_
    obtain ⟨ad431,A431_4,c431_4,e431,hx431_0,hx431_1,hx431_2,hx431_3,hx431_4,hl431_4,hi431_4⟩:=at_T34 HR0.out x10_1 p431 q431
    cases e431
    replace hx431_0:=(HB.out.cell (World.block_lt_of_cell? w _ hx431_0)).trans hx431_0
    replace hx431_1:=(HB.out.cell (World.block_lt_of_cell? w _ hx431_1)).trans hx431_1
    replace hx431_2:=(HB.out.cell (World.block_lt_of_cell? w _ hx431_2)).trans hx431_2
    replace hx431_3:=(HB.out.cell (World.block_lt_of_cell? w _ hx431_3)).trans hx431_3
    replace hx431_4:=(HB.out.cell (World.block_lt_of_cell? w _ hx431_4)).trans hx431_4
    have HR431_4:=ak hi431_4
    have HC431_4:=ak hl431_4
    clear hi431_4 hl431_4
    replace p431:=eq_true p431
    replace q431:=eq_true q431
    try go_wp2_with (first | ((with_reducible refine gate_dst (N:=4) rfl ?_);refine Hd.box_ 4 (#[.int .i64 0,.int .i64 0,.int .i64 0,.string (⟨#[]⟩ : ByteArray),.slice none 0 0]) 34 ?_;intro gb432 hg w23 hbox hb;have BK432:=ak (hbox);have GW432:=z61_;have GE432:=z61_;replace HB:=ak (below_step Hd.b_ hb);clear hb hbox hg;obtain ⟨hcz24_0,hcz24_1,hcz24_2,hcz24_3,hcz24_4⟩:=Hd.c5_ BK432.out;obtain ⟨hfz24_0,hfz24_1,hfz24_2,hfz24_3,hfz24_4⟩:=Hd.f5_ BK432.out))
    have n0_ : Aside0 ((((((w23.setCell ⟨gb432,0,none⟩ (.int .i64 ((rd_T34 l0 x10_1).f0))).setCell ⟨gb432,1,none⟩ (.int .i64 ((rd_T34 l0 x10_1).f1))).setCell ⟨gb432,2,none⟩ (.int .i64 ((rd_T34 l0 x10_1).f2))).setCell ⟨gb432,3,none⟩ (.string ((rd_T34 l0 x10_1).f3))).setCell ⟨gb432,4,none⟩ (.slice A431_4 ((rd_T34 l0 x10_1).f4).length c431_4)).heap[gb432]? = some (.cells #[.int .i64 ((rd_T34 l0 x10_1).f0),.int .i64 ((rd_T34 l0 x10_1).f1),.int .i64 ((rd_T34 l0 x10_1).f2),.string ((rd_T34 l0 x10_1).f3),.slice A431_4 ((rd_T34 l0 x10_1).f4).length c431_4] 34 (0,0))):=⟨z6_ BK432⟩
    have n1_ : Aside0 (Below w.heap.size w (((((w23.setCell ⟨gb432,0,none⟩ (.int .i64 ((rd_T34 l0 x10_1).f0))).setCell ⟨gb432,1,none⟩ (.int .i64 ((rd_T34 l0 x10_1).f1))).setCell ⟨gb432,2,none⟩ (.int .i64 ((rd_T34 l0 x10_1).f2))).setCell ⟨gb432,3,none⟩ (.string ((rd_T34 l0 x10_1).f3))).setCell ⟨gb432,4,none⟩ (.slice A431_4 ((rd_T34 l0 x10_1).f4).length c431_4))):=⟨Hd.b_⟩
    try clear BK432;try clear HB
    generalize (((((w23.setCell ⟨gb432,0,none⟩ (.int .i64 ((rd_T34 l0 x10_1).f0))).setCell ⟨gb432,1,none⟩ (.int .i64 ((rd_T34 l0 x10_1).f1))).setCell ⟨gb432,2,none⟩ (.int .i64 ((rd_T34 l0 x10_1).f2))).setCell ⟨gb432,3,none⟩ (.string ((rd_T34 l0 x10_1).f3))).setCell ⟨gb432,4,none⟩ (.slice A431_4 ((rd_T34 l0 x10_1).f4).length c431_4)) = w25 at n0_ n1_ ⊢
    have BK432:=n0_
    have HB:=n1_
    clear n0_ n1_
    replace BK432:=ak (blk_drew BK432.out)
    replace HB:=ak (below_drew1 HB.out)
    refine start_ (n:=18) (S:=fun w' => w'.cell? ⟨gb432,0,none⟩ = some (.int .i64 ((rd_T34 l0 x10_1).f0)) ∧ w'.cell? ⟨gb432,1,none⟩ = some (.int .i64 ((rd_T34 l0 x10_1).f1)) ∧ w'.cell? ⟨gb432,2,none⟩ = some (.int .i64 ((rd_T34 l0 x10_1).f2)) ∧ w'.cell? ⟨gb432,3,none⟩ = some (.string ((rd_T34 l0 x10_1).f3)) ∧ w'.cell? ⟨gb432,4,none⟩ = some (.slice A431_4 ((rd_T34 l0 x10_1).f4).length c431_4)) (ds:=[]) #[N_,N_,N_,N_,N_,N_,N_,N_,N_,N_,N_,N_,N_,N_,N_,N_,N_,N_] (by kernel_rfl) rfl rfl ⟨(blk_cell BK432.out 0).trans rfl,(blk_cell BK432.out 1).trans rfl,(blk_cell BK432.out 2).trans rfl,(blk_cell BK432.out 3).trans rfl,(blk_cell BK432.out 4).trans rfl⟩ (fun hHeld => ?_);refine with_tabW impl_IsSource.tab6 impl_IsSource.bits6 (fun HT_ HW_ => ?_)
    generalize w25.drew = w26 at BK432 HB hHeld ⊢
    refine Hd.t_ HT_ HW_ hHeld 0 (some 15) #[Y_,N_,N_,N_,N_,N_,N_,N_,N_,N_,N_,N_,N_,N_,N_,N_,N_,N_] ?_
    refine Hd.o_ HT_ 1 (some 16) #[Y_,Y_,N_,N_,N_,N_,N_,N_,N_,N_,N_,N_,N_,N_,N_,N_,N_,N_] (fun K hK => ?_)
    refine goes_ Try.func52 (by kernel_rfl) rfl #[.agg #[.int .i64 ((rd_T34 l0 x10_1).f0),.int .i64 ((rd_T34 l0 x10_1).f1),.int .i64 ((rd_T34 l0 x10_1).f2),.string ((rd_T34 l0 x10_1).f3),.slice A431_4 ((rd_T34 l0 x10_1).f4).length c431_4]] (by rfl) rfl rfl Hd.m_ ?_
    with_reducible refine (impl_IsFeature.calls k1 ((rd_T34 l0 x10_1).f0) ((rd_T34 l0 x10_1).f1) ((rd_T34 l0 x10_1).f2) ((rd_T34 l0 x10_1).f3) _ _ ((rd_T34 l0 x10_1).f4) true _ ?side1 ?side2 A6.out).mono ?_
    (case side1 => exact z1_ HR431_4)
    (case side2 => exact HC431_4.out)
    rintro e w27 ⟨rfl,hb⟩
    refine ⟨_,rfl,?_⟩
    replace BK432:=ak (Hd.kb_ BK432 hb)
    replace HB:=ak (below_step Hd.b_ hb)
    try clear hb;try clear hb2;try clear hk;try clear hi
    refine hK.out _ _ ⟨(blk_cell BK432.out 0).trans rfl,(blk_cell BK432.out 1).trans rfl,(blk_cell BK432.out 2).trans rfl,(blk_cell BK432.out 3).trans rfl,(blk_cell BK432.out 4).trans rfl⟩ (fun hHeld => ?_)
    clear hK K
    refine Hd.n_ (some 16) ?_
    refine Hd.p_ HT_ 2 (some 17) #[Y_,Y_,Y_,N_,N_,N_,N_,N_,N_,N_,N_,N_,N_,N_,N_,N_,N_,N_] ?_
    refine Hd.p_ HT_ 3 (some 18) #[Y_,Y_,Y_,Y_,N_,N_,N_,N_,N_,N_,N_,N_,N_,N_,N_,N_,N_,N_] ?_
    refine Hd.p_ HT_ 4 (some 19) #[Y_,Y_,Y_,Y_,Y_,N_,N_,N_,N_,N_,N_,N_,N_,N_,N_,N_,N_,N_] ?_
    refine Hd.p_ HT_ 5 (some 20) #[Y_,Y_,Y_,Y_,Y_,Y_,N_,N_,N_,N_,N_,N_,N_,N_,N_,N_,N_,N_] ?_
    refine Hd.p_ HT_ 6 (some 21) #[Y_,Y_,Y_,Y_,Y_,Y_,Y_,N_,N_,N_,N_,N_,N_,N_,N_,N_,N_,N_] ?_
    refine pure_ (i:=7) (N:=some 22) (v:=undef) (a':=?_) #[Y_,Y_,Y_,Y_,Y_,Y_,Y_,Y_,N_,N_,N_,N_,N_,N_,N_,N_,N_,N_] rfl rfl (any_of HT_.out (by kernel_rfl)) (fun _ _ _ h => h) (Or.inr ⟨by rfl,rfl⟩) ?_ ?_
    rotate_left
    ·
     simp only [Act.put,List.setIfInBounds_toArray,List.set_cons_zero,List.set_cons_succ,i64_w,i32_w]
     rfl
    refine pure_ (i:=8) (N:=some 23) (v:=undef) (a':=?_) #[Y_,Y_,Y_,Y_,Y_,Y_,Y_,Y_,Y_,N_,N_,N_,N_,N_,N_,N_,N_,N_] rfl rfl (any_of HT_.out (by kernel_rfl)) (fun _ _ _ h => h) (Or.inr ⟨by rfl,rfl⟩) ?_ ?_
    rotate_left
    ·
     simp only [Act.put,List.setIfInBounds_toArray,List.set_cons_zero,List.set_cons_succ,i64_w,i32_w]
     rfl
    refine pure_ (i:=9) (N:=some 24) (v:=undef) (a':=?_) #[Y_,Y_,Y_,Y_,Y_,Y_,Y_,Y_,Y_,Y_,N_,N_,N_,N_,N_,N_,N_,N_] rfl rfl (any_of HT_.out (by kernel_rfl)) (fun _ _ _ h => h) (Or.inr ⟨by rfl,rfl⟩) ?_ ?_
    rotate_left
    ·
     simp only [Act.put,List.setIfInBounds_toArray,List.set_cons_zero,List.set_cons_succ,i64_w,i32_w]
     rfl
    refine pure_ (i:=10) (N:=some 25) (v:=undef) (a':=?_) #[Y_,Y_,Y_,Y_,Y_,Y_,Y_,Y_,Y_,Y_,Y_,N_,N_,N_,N_,N_,N_,N_] rfl rfl (any_of HT_.out (by kernel_rfl)) (fun _ _ _ h => h) (Or.inr ⟨by rfl,rfl⟩) ?_ ?_
    rotate_left
    ·
     simp only [Act.put,List.setIfInBounds_toArray,List.set_cons_zero,List.set_cons_succ,i64_w,i32_w]
     rfl
    refine pure_ (i:=11) (N:=some 26) (v:=undef) (a':=?_) #[Y_,Y_,Y_,Y_,Y_,Y_,Y_,Y_,Y_,Y_,Y_,Y_,N_,N_,N_,N_,N_,N_] rfl rfl (any_of HT_.out (by kernel_rfl)) (fun _ _ _ h => h) (Or.inr ⟨by rfl,rfl⟩) ?_ ?_
    rotate_left
    ·
     simp only [Act.put,List.setIfInBounds_toArray,List.set_cons_zero,List.set_cons_succ,i64_w,i32_w]
     rfl
    refine pure_ (i:=12) (N:=some 27) (v:=undef) (a':=?_) #[Y_,Y_,Y_,Y_,Y_,Y_,Y_,Y_,Y_,Y_,Y_,Y_,Y_,N_,N_,N_,N_,N_] rfl rfl (any_of HT_.out (by kernel_rfl)) (fun _ _ _ h => h) (Or.inr ⟨by rfl,rfl⟩) ?_ ?_
    rotate_left
    ·
     simp only [Act.put,List.setIfInBounds_toArray,List.set_cons_zero,List.set_cons_succ,i64_w,i32_w]
     rfl
    refine pure_ (i:=13) (N:=some 28) (v:=undef) (a':=?_) #[Y_,Y_,Y_,Y_,Y_,Y_,Y_,Y_,Y_,Y_,Y_,Y_,Y_,Y_,N_,N_,N_,N_] rfl rfl (any_of HT_.out (by kernel_rfl)) (fun _ _ _ h => h) (Or.inr ⟨by rfl,rfl⟩) ?_ ?_
    rotate_left
    ·
     simp only [Act.put,List.setIfInBounds_toArray,List.set_cons_zero,List.set_cons_succ,i64_w,i32_w]
     rfl
    refine pure_ (i:=14) (N:=some 29) (v:=undef) (a':=?_) #[Y_,Y_,Y_,Y_,Y_,Y_,Y_,Y_,Y_,Y_,Y_,Y_,Y_,Y_,Y_,N_,N_,N_] rfl rfl (any_of HT_.out (by kernel_rfl)) (fun _ _ _ h => h) (Or.inr ⟨by rfl,rfl⟩) ?_ ?_
    rotate_left
    ·
     simp only [Act.put,List.setIfInBounds_toArray,List.set_cons_zero,List.set_cons_succ,i64_w,i32_w]
     rfl
    refine pure_ (i:=15) (N:=some 30) (v:=undef) (a':=?_) #[Y_,Y_,Y_,Y_,Y_,Y_,Y_,Y_,Y_,Y_,Y_,Y_,Y_,Y_,Y_,Y_,N_,N_] rfl rfl (any_of HT_.out (by kernel_rfl)) (fun _ _ _ h => h) (Or.inr ⟨by rfl,rfl⟩) ?_ ?_
    rotate_left
    ·
     simp only [Act.put,List.setIfInBounds_toArray,List.set_cons_zero,List.set_cons_succ,i64_w,i32_w]
     rfl
    refine Hd.p_ HT_ 16 (some 31) #[Y_,Y_,Y_,Y_,Y_,Y_,Y_,Y_,Y_,Y_,Y_,Y_,Y_,Y_,Y_,Y_,Y_,N_] ?_
    refine Hd.p_ HT_ 17 (some 32) #[Y_,Y_,Y_,Y_,Y_,Y_,Y_,Y_,Y_,Y_,Y_,Y_,Y_,Y_,Y_,Y_,Y_,Y_] ?_
    refine done_ (done_of HT_.out (by kernel_rfl)) ?_
    try go_wp2
    go_roundg k1
    case measure => have:=HK1.out;omega
    case rel => exact ⟨(wrap64 (x10_1 + 1)),z2_,H',⟨by have:=HK1.out;omega⟩,⟨Hd.b_⟩⟩
   rw [if_pos c8] at H
   have c8b0 : decide (0 < x10_1) = true:=decide_eq_true c8
   clear c8
   obtain ⟨ji9,hji9⟩ : ∃ j_ : Int,(wrap64 (x10_1 - 1)) = j_:=⟨_,rfl⟩
   replace H : (if 0 ≤ (ji9) then (if (ji9) < (l0.length : Int) then (if ((rd_T34 l0 x10_1).f0) ≤ ((rd_T34 l0 (ji9)).f0) then (some false) else (impl_IsSource.l0 k1 l0 l0 (l0.length : Int) (wrap64 (x10_1 + 1)))) else (none)) else (none)) = some r:=by first | (rw [hji9] at H;exact H) | (simp only [hji9] at H ⊢;exact H)
   (try rw [hji9] at A6)
   have hji9w : (IntKind.i64.wrap (x10_1 - 1)) = ji9:=(i64_w _).trans hji9
   by_cases c10 : 0 ≤ (ji9);rotate_left
   ·
    rw [if_neg c10] at H
    exact absurd H (by simp)
   rw [if_pos c10] at H
   have c10b0:=decide_eq_true c10
   clear c10
   by_cases c11 : (ji9) < (l0.length : Int);rotate_left
   ·
    rw [if_neg c11] at H
    exact absurd H (by simp)
   rw [if_pos c11] at H
   have c11b0:=decide_eq_true c11
   clear c11
   by_cases c12 : ((rd_T34 l0 x10_1).f0) ≤ ((rd_T34 l0 (ji9)).f0)
   ·
    rw [if_pos c12] at H
    have c12b0:=decide_eq_true c12
    clear c12
    obtain rfl:=Option.some.inj H
    have p431 : 0 ≤ (x10_1 : Int):=of_decide_eq_true Hd.a_
    have q431 : x10_1 < (l0.length : Int):=of_decide_eq_true Hd.a_
    obtain ⟨ad431,A431_4,c431_4,e431,hx431_0,hx431_1,hx431_2,hx431_3,hx431_4,hl431_4,hi431_4⟩:=at_T34 HR0.out x10_1 p431 q431
    cases e431
    replace hx431_0:=(HB.out.cell (World.block_lt_of_cell? w _ hx431_0)).trans hx431_0
    replace hx431_1:=(HB.out.cell (World.block_lt_of_cell? w _ hx431_1)).trans hx431_1
    replace hx431_2:=(HB.out.cell (World.block_lt_of_cell? w _ hx431_2)).trans hx431_2
    replace hx431_3:=(HB.out.cell (World.block_lt_of_cell? w _ hx431_3)).trans hx431_3
    replace hx431_4:=(HB.out.cell (World.block_lt_of_cell? w _ hx431_4)).trans hx431_4
    have HR431_4:=ak hi431_4
    have HC431_4:=ak hl431_4
    clear hi431_4 hl431_4
    replace p431:=eq_true p431
    replace q431:=eq_true q431
    try go_wp2_with (first | ((with_reducible refine gate_dst (N:=4) rfl ?_);refine Hd.box_ 4 (#[.int .i64 0,.int .i64 0,.int .i64 0,.string (⟨#[]⟩ : ByteArray),.slice none 0 0]) 34 ?_;intro gb432 hg w13 hbox hb;have BK432:=ak (hbox);have GW432:=z61_;have GE432:=z61_;replace HB:=ak (below_step Hd.b_ hb);clear hb hbox hg;obtain ⟨hcz14_0,hcz14_1,hcz14_2,hcz14_3,hcz14_4⟩:=Hd.c5_ BK432.out;obtain ⟨hfz14_0,hfz14_1,hfz14_2,hfz14_3,hfz14_4⟩:=Hd.f5_ BK432.out))
    have n0_ : Aside0 ((((((w13.setCell ⟨gb432,0,none⟩ (.int .i64 ((rd_T34 l0 x10_1).f0))).setCell ⟨gb432,1,none⟩ (.int .i64 ((rd_T34 l0 x10_1).f1))).setCell ⟨gb432,2,none⟩ (.int .i64 ((rd_T34 l0 x10_1).f2))).setCell ⟨gb432,3,none⟩ (.string ((rd_T34 l0 x10_1).f3))).setCell ⟨gb432,4,none⟩ (.slice A431_4 ((rd_T34 l0 x10_1).f4).length c431_4)).heap[gb432]? = some (.cells #[.int .i64 ((rd_T34 l0 x10_1).f0),.int .i64 ((rd_T34 l0 x10_1).f1),.int .i64 ((rd_T34 l0 x10_1).f2),.string ((rd_T34 l0 x10_1).f3),.slice A431_4 ((rd_T34 l0 x10_1).f4).length c431_4] 34 (0,0))):=⟨z6_ BK432⟩
    have n1_ : Aside0 (Below w.heap.size w (((((w13.setCell ⟨gb432,0,none⟩ (.int .i64 ((rd_T34 l0 x10_1).f0))).setCell ⟨gb432,1,none⟩ (.int .i64 ((rd_T34 l0 x10_1).f1))).setCell ⟨gb432,2,none⟩ (.int .i64 ((rd_T34 l0 x10_1).f2))).setCell ⟨gb432,3,none⟩ (.string ((rd_T34 l0 x10_1).f3))).setCell ⟨gb432,4,none⟩ (.slice A431_4 ((rd_T34 l0 x10_1).f4).length c431_4))):=⟨Hd.b_⟩
    try clear BK432;try clear HB
    generalize (((((w13.setCell ⟨gb432,0,none⟩ (.int .i64 ((rd_T34 l0 x10_1).f0))).setCell ⟨gb432,1,none⟩ (.int .i64 ((rd_T34 l0 x10_1).f1))).setCell ⟨gb432,2,none⟩ (.int .i64 ((rd_T34 l0 x10_1).f2))).setCell ⟨gb432,3,none⟩ (.string ((rd_T34 l0 x10_1).f3))).setCell ⟨gb432,4,none⟩ (.slice A431_4 ((rd_T34 l0 x10_1).f4).length c431_4)) = w15 at n0_ n1_ ⊢
    have BK432:=n0_
    have HB:=n1_
    clear n0_ n1_
    replace BK432:=ak (blk_drew BK432.out)
    replace HB:=ak (below_drew1 HB.out)
    have p434 : 0 ≤ ((ji9) : Int):=of_decide_eq_true Hd.a_
    have q434 : (ji9) < (l0.length : Int):=of_decide_eq_true Hd.a_
    obtain ⟨ad434,A434_4,c434_4,e434,hx434_0,hx434_1,hx434_2,hx434_3,hx434_4,hl434_4,hi434_4⟩:=at_T34 HR0.out (ji9) p434 q434
    have hw434_4:=hx434_4
    have hw434_3:=hx434_3
    have hw434_2:=hx434_2
    have hw434_1:=hx434_1
    have hw434_0:=hx434_0
    obtain rfl : ad431 = ad434:=(by injection e434)
    replace hx434_0:=(HB.out.cell (World.block_lt_of_cell? w _ hx434_0)).trans hx434_0
    replace hx434_1:=(HB.out.cell (World.block_lt_of_cell? w _ hx434_1)).trans hx434_1
    replace hx434_2:=(HB.out.cell (World.block_lt_of_cell? w _ hx434_2)).trans hx434_2
    replace hx434_3:=(HB.out.cell (World.block_lt_of_cell? w _ hx434_3)).trans hx434_3
    replace hx434_4:=(HB.out.cell (World.block_lt_of_cell? w _ hx434_4)).trans hx434_4
    have HR434_4:=ak hi434_4
    have HC434_4:=ak hl434_4
    clear hi434_4 hl434_4
    replace p434:=eq_true p434
    replace q434:=eq_true q434
    refine start_ (n:=18) (S:=fun w' => w'.cell? ⟨gb432,0,none⟩ = some (.int .i64 ((rd_T34 l0 x10_1).f0)) ∧ w'.cell? ⟨gb432,1,none⟩ = some (.int .i64 ((rd_T34 l0 x10_1).f1)) ∧ w'.cell? ⟨gb432,2,none⟩ = some (.int .i64 ((rd_T34 l0 x10_1).f2)) ∧ w'.cell? ⟨gb432,3,none⟩ = some (.string ((rd_T34 l0 x10_1).f3)) ∧ w'.cell? ⟨gb432,4,none⟩ = some (.slice A431_4 ((rd_T34 l0 x10_1).f4).length c431_4) ∧ w'.cell? (ad431.add (((ji9)).toNat * 5)) = some (.int .i64 ((rd_T34 l0 (ji9)).f0)) ∧ w'.cell? ⟨(ad431.add (((ji9)).toNat * 5)).block,(ad431.add (((ji9)).toNat * 5)).off + 1,none⟩ = some (.int .i64 ((rd_T34 l0 (ji9)).f1)) ∧ w'.cell? ⟨(ad431.add (((ji9)).toNat * 5)).block,(ad431.add (((ji9)).toNat * 5)).off + 2,none⟩ = some (.int .i64 ((rd_T34 l0 (ji9)).f2)) ∧ w'.cell? ⟨(ad431.add (((ji9)).toNat * 5)).block,(ad431.add (((ji9)).toNat * 5)).off + 3,none⟩ = some (.string ((rd_T34 l0 (ji9)).f3)) ∧ w'.cell? ⟨(ad431.add (((ji9)).toNat * 5)).block,(ad431.add (((ji9)).toNat * 5)).off + 4,none⟩ = some (.slice A434_4 ((rd_T34 l0 (ji9)).f4).length c434_4)) (ds:=[]) #[N_,N_,N_,N_,N_,N_,N_,N_,N_,N_,N_,N_,N_,N_,N_,N_,N_,N_] (by kernel_rfl) rfl rfl ⟨(blk_cell BK432.out 0).trans rfl,(blk_cell BK432.out 1).trans rfl,(blk_cell BK432.out 2).trans rfl,(blk_cell BK432.out 3).trans rfl,(blk_cell BK432.out 4).trans rfl,((HB.out.cell (World.block_lt_of_cell? w _ hw434_0)).trans hw434_0),((HB.out.cell (World.block_lt_of_cell? w _ hw434_1)).trans hw434_1),((HB.out.cell (World.block_lt_of_cell? w _ hw434_2)).trans hw434_2),((HB.out.cell (World.block_lt_of_cell? w _ hw434_3)).trans hw434_3),((HB.out.cell (World.block_lt_of_cell? w _ hw434_4)).trans hw434_4)⟩ (fun hHeld => ?_);refine with_tabW impl_IsSource.tab6 impl_IsSource.bits6 (fun HT_ HW_ => ?_)
    generalize w15.drew = w16 at BK432 HB HR434_4 hx434_0 hx434_1 hx434_2 hx434_3 hx434_4 hHeld ⊢
    refine Hd.t_ HT_ HW_ hHeld 0 (some 15) #[Y_,N_,N_,N_,N_,N_,N_,N_,N_,N_,N_,N_,N_,N_,N_,N_,N_,N_] ?_
    refine Hd.o_ HT_ 1 (some 16) #[Y_,Y_,N_,N_,N_,N_,N_,N_,N_,N_,N_,N_,N_,N_,N_,N_,N_,N_] (fun K hK => ?_)
    refine goes_ Try.func52 (by kernel_rfl) rfl #[.agg #[.int .i64 ((rd_T34 l0 x10_1).f0),.int .i64 ((rd_T34 l0 x10_1).f1),.int .i64 ((rd_T34 l0 x10_1).f2),.string ((rd_T34 l0 x10_1).f3),.slice A431_4 ((rd_T34 l0 x10_1).f4).length c431_4]] (by rfl) rfl rfl Hd.m_ ?_
    with_reducible refine (impl_IsFeature.calls k1 ((rd_T34 l0 x10_1).f0) ((rd_T34 l0 x10_1).f1) ((rd_T34 l0 x10_1).f2) ((rd_T34 l0 x10_1).f3) _ _ ((rd_T34 l0 x10_1).f4) true _ ?side1 ?side2 A6.out).mono ?_
    (case side1 => exact z1_ HR431_4)
    (case side2 => exact HC431_4.out)
    rintro e w17 ⟨rfl,hb⟩
    refine ⟨_,rfl,?_⟩
    replace BK432:=ak (Hd.kb_ BK432 hb)
    replace HB:=ak (below_step Hd.b_ hb)
    try clear hb;try clear hb2;try clear hk;try clear hi
    refine hK.out _ _ ⟨(blk_cell BK432.out 0).trans rfl,(blk_cell BK432.out 1).trans rfl,(blk_cell BK432.out 2).trans rfl,(blk_cell BK432.out 3).trans rfl,(blk_cell BK432.out 4).trans rfl,((HB.out.cell (World.block_lt_of_cell? w _ hw434_0)).trans hw434_0),((HB.out.cell (World.block_lt_of_cell? w _ hw434_1)).trans hw434_1),((HB.out.cell (World.block_lt_of_cell? w _ hw434_2)).trans hw434_2),((HB.out.cell (World.block_lt_of_cell? w _ hw434_3)).trans hw434_3),((HB.out.cell (World.block_lt_of_cell? w _ hw434_4)).trans hw434_4)⟩ (fun hHeld => ?_)
    clear hK K
    refine Hd.n_ (some 16) ?_
    refine Hd.p_ HT_ 2 (some 17) #[Y_,Y_,Y_,N_,N_,N_,N_,N_,N_,N_,N_,N_,N_,N_,N_,N_,N_,N_] ?_
    refine Hd.p_ HT_ 3 (some 18) #[Y_,Y_,Y_,Y_,N_,N_,N_,N_,N_,N_,N_,N_,N_,N_,N_,N_,N_,N_] ?_
    refine Hd.p_ HT_ 4 (some 19) #[Y_,Y_,Y_,Y_,Y_,N_,N_,N_,N_,N_,N_,N_,N_,N_,N_,N_,N_,N_] ?_
    refine Hd.p_ HT_ 5 (some 20) #[Y_,Y_,Y_,Y_,Y_,Y_,N_,N_,N_,N_,N_,N_,N_,N_,N_,N_,N_,N_] ?_
    refine Hd.p_ HT_ 6 (some 21) #[Y_,Y_,Y_,Y_,Y_,Y_,Y_,N_,N_,N_,N_,N_,N_,N_,N_,N_,N_,N_] ?_
    refine Hd.p_ HT_ 7 (some 22) #[Y_,Y_,Y_,Y_,Y_,Y_,Y_,Y_,N_,N_,N_,N_,N_,N_,N_,N_,N_,N_] ?_
    refine Hd.p_ HT_ 9 (some 24) #[Y_,Y_,Y_,Y_,Y_,Y_,Y_,Y_,N_,Y_,N_,N_,N_,N_,N_,N_,N_,N_] ?_
    refine Hd.p_ HT_ 10 (some 25) #[Y_,Y_,Y_,Y_,Y_,Y_,Y_,Y_,N_,Y_,Y_,N_,N_,N_,N_,N_,N_,N_] ?_
    refine Hd.p_ HT_ 11 (some 26) #[Y_,Y_,Y_,Y_,Y_,Y_,Y_,Y_,N_,Y_,Y_,Y_,N_,N_,N_,N_,N_,N_] ?_
    refine Hd.p_ HT_ 12 (some 27) #[Y_,Y_,Y_,Y_,Y_,Y_,Y_,Y_,N_,Y_,Y_,Y_,Y_,N_,N_,N_,N_,N_] ?_
    refine Hd.p_ HT_ 13 (some 28) #[Y_,Y_,Y_,Y_,Y_,Y_,Y_,Y_,N_,Y_,Y_,Y_,Y_,Y_,N_,N_,N_,N_] ?_
    refine Hd.t_ HT_ HW_ hHeld 8 (some 23) #[Y_,Y_,Y_,Y_,Y_,Y_,Y_,Y_,Y_,Y_,Y_,Y_,Y_,Y_,N_,N_,N_,N_] ?_
    refine Hd.t_ HT_ HW_ hHeld 14 (some 29) #[Y_,Y_,Y_,Y_,Y_,Y_,Y_,Y_,Y_,Y_,Y_,Y_,Y_,Y_,Y_,N_,N_,N_] ?_
    refine Hd.p_ HT_ 15 (some 30) #[Y_,Y_,Y_,Y_,Y_,Y_,Y_,Y_,Y_,Y_,Y_,Y_,Y_,Y_,Y_,Y_,N_,N_] ?_
    refine Hd.p_ HT_ 16 (some 31) #[Y_,Y_,Y_,Y_,Y_,Y_,Y_,Y_,Y_,Y_,Y_,Y_,Y_,Y_,Y_,Y_,Y_,N_] ?_
    refine Hd.p_ HT_ 17 (some 32) #[Y_,Y_,Y_,Y_,Y_,Y_,Y_,Y_,Y_,Y_,Y_,Y_,Y_,Y_,Y_,Y_,Y_,Y_] ?_
    refine done_ (done_of HT_.out (by kernel_rfl)) ?_
    try go_wp2
    go_ret
    exact ⟨by first | rfl | (simp [errW_none,errW_some] <;> rfl) | (simp only [← hji9];first | rfl | (simp [errW_none,errW_some] <;> rfl)) | (simp [*,errW_none,errW_some] <;> rfl),Hd.b_⟩
   rw [if_neg c12] at H
   have c12b0:=decide_eq_false c12
   clear c12
   have H':=ak H
   clear H
   have p431 : 0 ≤ (x10_1 : Int):=of_decide_eq_true Hd.a_
   have q431 : x10_1 < (l0.length : Int):=of_decide_eq_true Hd.a_
   obtain ⟨ad431,A431_4,c431_4,e431,hx431_0,hx431_1,hx431_2,hx431_3,hx431_4,hl431_4,hi431_4⟩:=at_T34 HR0.out x10_1 p431 q431
   cases e431
   replace hx431_0:=(HB.out.cell (World.block_lt_of_cell? w _ hx431_0)).trans hx431_0
   replace hx431_1:=(HB.out.cell (World.block_lt_of_cell? w _ hx431_1)).trans hx431_1
   replace hx431_2:=(HB.out.cell (World.block_lt_of_cell? w _ hx431_2)).trans hx431_2
   replace hx431_3:=(HB.out.cell (World.block_lt_of_cell? w _ hx431_3)).trans hx431_3
   replace hx431_4:=(HB.out.cell (World.block_lt_of_cell? w _ hx431_4)).trans hx431_4
   have HR431_4:=ak hi431_4
   have HC431_4:=ak hl431_4
   clear hi431_4 hl431_4
   replace p431:=eq_true p431
   replace q431:=eq_true q431
   try go_wp2_with (first | ((with_reducible refine gate_dst (N:=4) rfl ?_);refine Hd.box_ 4 (#[.int .i64 0,.int .i64 0,.int .i64 0,.string (⟨#[]⟩ : ByteArray),.slice none 0 0]) 34 ?_;intro gb432 hg w18 hbox hb;have BK432:=ak (hbox);have GW432:=z61_;have GE432:=z61_;replace HB:=ak (below_step Hd.b_ hb);clear hb hbox hg;obtain ⟨hcz19_0,hcz19_1,hcz19_2,hcz19_3,hcz19_4⟩:=Hd.c5_ BK432.out;obtain ⟨hfz19_0,hfz19_1,hfz19_2,hfz19_3,hfz19_4⟩:=Hd.f5_ BK432.out))
   have n0_ : Aside0 ((((((w18.setCell ⟨gb432,0,none⟩ (.int .i64 ((rd_T34 l0 x10_1).f0))).setCell ⟨gb432,1,none⟩ (.int .i64 ((rd_T34 l0 x10_1).f1))).setCell ⟨gb432,2,none⟩ (.int .i64 ((rd_T34 l0 x10_1).f2))).setCell ⟨gb432,3,none⟩ (.string ((rd_T34 l0 x10_1).f3))).setCell ⟨gb432,4,none⟩ (.slice A431_4 ((rd_T34 l0 x10_1).f4).length c431_4)).heap[gb432]? = some (.cells #[.int .i64 ((rd_T34 l0 x10_1).f0),.int .i64 ((rd_T34 l0 x10_1).f1),.int .i64 ((rd_T34 l0 x10_1).f2),.string ((rd_T34 l0 x10_1).f3),.slice A431_4 ((rd_T34 l0 x10_1).f4).length c431_4] 34 (0,0))):=⟨z6_ BK432⟩
   have n1_ : Aside0 (Below w.heap.size w (((((w18.setCell ⟨gb432,0,none⟩ (.int .i64 ((rd_T34 l0 x10_1).f0))).setCell ⟨gb432,1,none⟩ (.int .i64 ((rd_T34 l0 x10_1).f1))).setCell ⟨gb432,2,none⟩ (.int .i64 ((rd_T34 l0 x10_1).f2))).setCell ⟨gb432,3,none⟩ (.string ((rd_T34 l0 x10_1).f3))).setCell ⟨gb432,4,none⟩ (.slice A431_4 ((rd_T34 l0 x10_1).f4).length c431_4))):=⟨Hd.b_⟩
   try clear BK432;try clear HB
   generalize (((((w18.setCell ⟨gb432,0,none⟩ (.int .i64 ((rd_T34 l0 x10_1).f0))).setCell ⟨gb432,1,none⟩ (.int .i64 ((rd_T34 l0 x10_1).f1))).setCell ⟨gb432,2,none⟩ (.int .i64 ((rd_T34 l0 x10_1).f2))).setCell ⟨gb432,3,none⟩ (.string ((rd_T34 l0 x10_1).f3))).setCell ⟨gb432,4,none⟩ (.slice A431_4 ((rd_T34 l0 x10_1).f4).length c431_4)) = w20 at n0_ n1_ ⊢
   have BK432:=n0_
   have HB:=n1_
   clear n0_ n1_
   replace BK432:=ak (blk_drew BK432.out)
   replace HB:=ak (below_drew1 HB.out)
   have p434 : 0 ≤ ((ji9) : Int):=of_decide_eq_true Hd.a_
   have q434 : (ji9) < (l0.length : Int):=of_decide_eq_true Hd.a_
   obtain ⟨ad434,A434_4,c434_4,e434,hx434_0,hx434_1,hx434_2,hx434_3,hx434_4,hl434_4,hi434_4⟩:=at_T34 HR0.out (ji9) p434 q434
   have hw434_4:=hx434_4
   have hw434_3:=hx434_3
   have hw434_2:=hx434_2
   have hw434_1:=hx434_1
   have hw434_0:=hx434_0
   obtain rfl : ad431 = ad434:=(by injection e434)
   replace hx434_0:=(HB.out.cell (World.block_lt_of_cell? w _ hx434_0)).trans hx434_0
   replace hx434_1:=(HB.out.cell (World.block_lt_of_cell? w _ hx434_1)).trans hx434_1
   replace hx434_2:=(HB.out.cell (World.block_lt_of_cell? w _ hx434_2)).trans hx434_2
   replace hx434_3:=(HB.out.cell (World.block_lt_of_cell? w _ hx434_3)).trans hx434_3
   replace hx434_4:=(HB.out.cell (World.block_lt_of_cell? w _ hx434_4)).trans hx434_4
   have HR434_4:=ak hi434_4
   have HC434_4:=ak hl434_4
   clear hi434_4 hl434_4
   replace p434:=eq_true p434
   replace q434:=eq_true q434
   refine start_ (n:=18) (S:=fun w' => w'.cell? ⟨gb432,0,none⟩ = some (.int .i64 ((rd_T34 l0 x10_1).f0)) ∧ w'.cell? ⟨gb432,1,none⟩ = some (.int .i64 ((rd_T34 l0 x10_1).f1)) ∧ w'.cell? ⟨gb432,2,none⟩ = some (.int .i64 ((rd_T34 l0 x10_1).f2)) ∧ w'.cell? ⟨gb432,3,none⟩ = some (.string ((rd_T34 l0 x10_1).f3)) ∧ w'.cell? ⟨gb432,4,none⟩ = some (.slice A431_4 ((rd_T34 l0 x10_1).f4).length c431_4) ∧ w'.cell? (ad431.add (((ji9)).toNat * 5)) = some (.int .i64 ((rd_T34 l0 (ji9)).f0)) ∧ w'.cell? ⟨(ad431.add (((ji9)).toNat * 5)).block,(ad431.add (((ji9)).toNat * 5)).off + 1,none⟩ = some (.int .i64 ((rd_T34 l0 (ji9)).f1)) ∧ w'.cell? ⟨(ad431.add (((ji9)).toNat * 5)).block,(ad431.add (((ji9)).toNat * 5)).off + 2,none⟩ = some (.int .i64 ((rd_T34 l0 (ji9)).f2)) ∧ w'.cell? ⟨(ad431.add (((ji9)).toNat * 5)).block,(ad431.add (((ji9)).toNat * 5)).off + 3,none⟩ = some (.string ((rd_T34 l0 (ji9)).f3)) ∧ w'.cell? ⟨(ad431.add (((ji9)).toNat * 5)).block,(ad431.add (((ji9)).toNat * 5)).off + 4,none⟩ = some (.slice A434_4 ((rd_T34 l0 (ji9)).f4).length c434_4)) (ds:=[]) #[N_,N_,N_,N_,N_,N_,N_,N_,N_,N_,N_,N_,N_,N_,N_,N_,N_,N_] (by kernel_rfl) rfl rfl ⟨(blk_cell BK432.out 0).trans rfl,(blk_cell BK432.out 1).trans rfl,(blk_cell BK432.out 2).trans rfl,(blk_cell BK432.out 3).trans rfl,(blk_cell BK432.out 4).trans rfl,((HB.out.cell (World.block_lt_of_cell? w _ hw434_0)).trans hw434_0),((HB.out.cell (World.block_lt_of_cell? w _ hw434_1)).trans hw434_1),((HB.out.cell (World.block_lt_of_cell? w _ hw434_2)).trans hw434_2),((HB.out.cell (World.block_lt_of_cell? w _ hw434_3)).trans hw434_3),((HB.out.cell (World.block_lt_of_cell? w _ hw434_4)).trans hw434_4)⟩ (fun hHeld => ?_);refine with_tabW impl_IsSource.tab6 impl_IsSource.bits6 (fun HT_ HW_ => ?_)
   generalize w20.drew = w21 at BK432 HB HR434_4 hx434_0 hx434_1 hx434_2 hx434_3 hx434_4 hHeld ⊢
   refine Hd.t_ HT_ HW_ hHeld 0 (some 15) #[Y_,N_,N_,N_,N_,N_,N_,N_,N_,N_,N_,N_,N_,N_,N_,N_,N_,N_] ?_
   refine Hd.o_ HT_ 1 (some 16) #[Y_,Y_,N_,N_,N_,N_,N_,N_,N_,N_,N_,N_,N_,N_,N_,N_,N_,N_] (fun K hK => ?_)
   refine goes_ Try.func52 (by kernel_rfl) rfl #[.agg #[.int .i64 ((rd_T34 l0 x10_1).f0),.int .i64 ((rd_T34 l0 x10_1).f1),.int .i64 ((rd_T34 l0 x10_1).f2),.string ((rd_T34 l0 x10_1).f3),.slice A431_4 ((rd_T34 l0 x10_1).f4).length c431_4]] (by rfl) rfl rfl Hd.m_ ?_
   with_reducible refine (impl_IsFeature.calls k1 ((rd_T34 l0 x10_1).f0) ((rd_T34 l0 x10_1).f1) ((rd_T34 l0 x10_1).f2) ((rd_T34 l0 x10_1).f3) _ _ ((rd_T34 l0 x10_1).f4) true _ ?side1 ?side2 A6.out).mono ?_
   (case side1 => exact z1_ HR431_4)
   (case side2 => exact HC431_4.out)
   rintro e w22 ⟨rfl,hb⟩
   refine ⟨_,rfl,?_⟩
   replace BK432:=ak (Hd.kb_ BK432 hb)
   replace HB:=ak (below_step Hd.b_ hb)
   try clear hb;try clear hb2;try clear hk;try clear hi
   refine hK.out _ _ ⟨(blk_cell BK432.out 0).trans rfl,(blk_cell BK432.out 1).trans rfl,(blk_cell BK432.out 2).trans rfl,(blk_cell BK432.out 3).trans rfl,(blk_cell BK432.out 4).trans rfl,((HB.out.cell (World.block_lt_of_cell? w _ hw434_0)).trans hw434_0),((HB.out.cell (World.block_lt_of_cell? w _ hw434_1)).trans hw434_1),((HB.out.cell (World.block_lt_of_cell? w _ hw434_2)).trans hw434_2),((HB.out.cell (World.block_lt_of_cell? w _ hw434_3)).trans hw434_3),((HB.out.cell (World.block_lt_of_cell? w _ hw434_4)).trans hw434_4)⟩ (fun hHeld => ?_)
   clear hK K
   refine Hd.n_ (some 16) ?_
   refine Hd.p_ HT_ 2 (some 17) #[Y_,Y_,Y_,N_,N_,N_,N_,N_,N_,N_,N_,N_,N_,N_,N_,N_,N_,N_] ?_
   refine Hd.p_ HT_ 3 (some 18) #[Y_,Y_,Y_,Y_,N_,N_,N_,N_,N_,N_,N_,N_,N_,N_,N_,N_,N_,N_] ?_
   refine Hd.p_ HT_ 4 (some 19) #[Y_,Y_,Y_,Y_,Y_,N_,N_,N_,N_,N_,N_,N_,N_,N_,N_,N_,N_,N_] ?_
   refine Hd.p_ HT_ 5 (some 20) #[Y_,Y_,Y_,Y_,Y_,Y_,N_,N_,N_,N_,N_,N_,N_,N_,N_,N_,N_,N_] ?_
   refine Hd.p_ HT_ 6 (some 21) #[Y_,Y_,Y_,Y_,Y_,Y_,Y_,N_,N_,N_,N_,N_,N_,N_,N_,N_,N_,N_] ?_
   refine Hd.p_ HT_ 7 (some 22) #[Y_,Y_,Y_,Y_,Y_,Y_,Y_,Y_,N_,N_,N_,N_,N_,N_,N_,N_,N_,N_] ?_
   refine Hd.p_ HT_ 9 (some 24) #[Y_,Y_,Y_,Y_,Y_,Y_,Y_,Y_,N_,Y_,N_,N_,N_,N_,N_,N_,N_,N_] ?_
   refine Hd.p_ HT_ 10 (some 25) #[Y_,Y_,Y_,Y_,Y_,Y_,Y_,Y_,N_,Y_,Y_,N_,N_,N_,N_,N_,N_,N_] ?_
   refine Hd.p_ HT_ 11 (some 26) #[Y_,Y_,Y_,Y_,Y_,Y_,Y_,Y_,N_,Y_,Y_,Y_,N_,N_,N_,N_,N_,N_] ?_
   refine Hd.p_ HT_ 12 (some 27) #[Y_,Y_,Y_,Y_,Y_,Y_,Y_,Y_,N_,Y_,Y_,Y_,Y_,N_,N_,N_,N_,N_] ?_
   refine Hd.p_ HT_ 13 (some 28) #[Y_,Y_,Y_,Y_,Y_,Y_,Y_,Y_,N_,Y_,Y_,Y_,Y_,Y_,N_,N_,N_,N_] ?_
   refine Hd.t_ HT_ HW_ hHeld 8 (some 23) #[Y_,Y_,Y_,Y_,Y_,Y_,Y_,Y_,Y_,Y_,Y_,Y_,Y_,Y_,N_,N_,N_,N_] ?_
   refine Hd.t_ HT_ HW_ hHeld 14 (some 29) #[Y_,Y_,Y_,Y_,Y_,Y_,Y_,Y_,Y_,Y_,Y_,Y_,Y_,Y_,Y_,N_,N_,N_] ?_
   refine Hd.p_ HT_ 15 (some 30) #[Y_,Y_,Y_,Y_,Y_,Y_,Y_,Y_,Y_,Y_,Y_,Y_,Y_,Y_,Y_,Y_,N_,N_] ?_
   refine Hd.p_ HT_ 16 (some 31) #[Y_,Y_,Y_,Y_,Y_,Y_,Y_,Y_,Y_,Y_,Y_,Y_,Y_,Y_,Y_,Y_,Y_,N_] ?_
   refine Hd.p_ HT_ 17 (some 32) #[Y_,Y_,Y_,Y_,Y_,Y_,Y_,Y_,Y_,Y_,Y_,Y_,Y_,Y_,Y_,Y_,Y_,Y_] ?_
   refine done_ (done_of HT_.out (by kernel_rfl)) ?_
   try go_wp2
   go_roundg k1
   case measure => have:=HK1.out;omega
   case rel => exact ⟨(wrap64 (x10_1 + 1)),z2_,H',⟨by have:=HK1.out;omega⟩,⟨Hd.b_⟩⟩
def impl_Point.f (l0 : List (S75)) : Option ((List (S75))):=(some (([] : List (S75)) : List (S75))).bind fun y435 => (if y435.length + l0.length < 8796093022208 then (some (y435 ++ l0)) else (none))
theorem impl_Point.eqnil (W : World) (a : Option Addr) (l c : Nat) : (binOp .eql 32 (.slice a l c) (.slice none 0 0)).run Try.prog W = .ok (.bool a.isNone) W:=by
  cases a <;> kernel_rfl
attribute [local go_sem] impl_Point.eqnil
theorem impl_Point.calls (A0 : Option Addr) (c0 : Nat) (l0 : List (S75)) (r : List (S75)) (w : World) (hr0 : Kd.C k75 w A0 l0.length l0) (hc0 : l0.length ≤ c0) (h : impl_Point.f l0 = some r) :
    Calls Try.prog 62 #[.slice A0 l0.length c0] w fun e w' => ∃ v0_ : Value,e = .returned (v0_) ∧ Kd.R k75 75 w' w.heap.size (fun _ => True) v0_ r ∧ Below w.heap.size w w':=by
  cases A0
  case none =>
    have hl : l0 = []:=by
      obtain ⟨_,_,h3⟩:=hr0
      cases l0 with
      | nil => rfl
      | cons a l => obtain ⟨ad,e,_⟩:=h3 (by simp);cases e
    subst hl
    have hr : r = []:=by simp [impl_Point.f] at h;exact h
    subst hr
    go_enter Try.func62,Try.ntmps62
    go_wp2
    go_ret
    exact ⟨_,rfl,Kd.R_nil _ _ _ _ _,by repeat (first | exact Below.refl _ _ | apply below_alloc | apply pw_below_drewN | apply below_drew1)⟩
  have HR0:=ak hr0
  have HC0:=ak hc0
  clear hr0 hc0
  have HB:=ak (Below.refl w.heap.size w)
  have H:=h;clear h;unfold impl_Point.f at H
  generalize hy435 : (([] : List (S75))) = y435 at H;have Ny435:=ak hy435.symm;clear hy435;try rw [Option.bind_some] at H
  by_cases c2 : y435.length + l0.length < 8796093022208
  · rw [if_pos c2] at H
    have LMc2:=ak c2
    clear c2
    generalize hy438 : (y435 ++ l0) = y438 at H;have Ny438:=ak hy438.symm;clear hy438;try rw [Option.bind_some] at H
    obtain rfl:=Option.some.inj H
    go_enter Try.func62,Try.ntmps62
    go_wp2_with (first | ((with_reducible refine gate_dst (N:=5) rfl ?_);refine Kd.R_lit k75 _ 75 ?hg (N:=5) ?hd (xs:=([] : List (S75))) (inner:=[]) (ok:=fun _ => True) (okp:=fun _ => True) ?hr ?hp (fun _ hk => hk) trivial (Below.refl _ _) (Nat.le_refl _) (by simp) ?_;(case hd => rfl);(case hg => rfl);(case hr => exact z24_);(case hp => exact (Reps.none _ _));intro v436 w3 ho4 hb hg_ hnew_;clear hg_ hnew_;(first | rw [← Ny435.out] at ho4 | (simp only [Int.reduceToNat] at ho4;rw [← Ny435.out] at ho4));have n0_:=ak (Kd.R_lower ho4 (below_size z30_));have n1_:=ak (below_step z30_ hb);clear HB;have HO437:=n0_;have HB:=n1_;clear n0_ n1_;clear hb ho4) | ((with_reducible refine gate_builtin (b:=.append) (xs:=#[.tmp 5,.tmp 6]) rfl ?_);at_builtin;refine Kd.R_append_rows k75 (w0:=w) w.heap.size rfl (.tmp 5) (.tmp 6) 32 75 (.agg #[(.int .i64 0),(.int .i64 0)]) 16 rfl Try.underlying32 info75 rfl (by decide) (by omega) v436 y435 l0 _ _ _ (fun _ => True) (fun _ => False) rfl rfl ?aO ?aR (fun _ _ h => h) (fun _ h => h.elim) ?aF ?aB ?aS ?aL ?_;(case aR => exact z1_ HR0);(case aB => exact z30_);(case aF => exact (fun _ _ => trivial));(case aO => exact (z4_ HO437));(case aS => exact (below_size z30_));(case aL => have:=LMc2.out;omega);intro v439 w5 ho hb hg hat;rw [← Ny438.out] at ho;have n0_:=ak (hb);have n1_:=ak (ho);clear HB;clear HO437;have HB:=n0_;have HO440:=n1_;clear n0_ n1_;clear ho hb hg hat))
    go_ret
    exact ⟨_,by first | rfl | (simp [errW_none,errW_some] <;> rfl) | (simp [*,errW_none,errW_some] <;> rfl),z4_ HO440,z30_⟩
  · rw [if_neg c2] at H
    exact absurd H (by simp)
def impl_cloneFeature.f (a0_0 : Int) (a0_1 : Int) (a0_2 : Int) (a0_3 : ByteArray) (l0_4 : List (S75)) : Option (Int × Int × Int × ByteArray × (List (S75))):=(impl_Point.f l0_4).bind fun t443 => (some (a0_0,a0_1,a0_2,a0_3,t443))
theorem impl_cloneFeature.calls (a0_0 : Int) (a0_1 : Int) (a0_2 : Int) (a0_3 : ByteArray) (A0_4 : Option Addr) (c0_4 : Nat) (l0_4 : List (S75)) (r1 : Int) (r2 : Int) (r3 : Int) (r4 : ByteArray) (r5 : List (S75)) (w : World) (hr0_4 : Kd.C k75 w A0_4 l0_4.length l0_4) (hc0_4 : l0_4.length ≤ c0_4) (h : impl_cloneFeature.f a0_0 a0_1 a0_2 a0_3 l0_4 = some (r1,r2,r3,r4,r5)) :
  Calls Try.prog 39 #[.agg #[.int .i64 a0_0,.int .i64 a0_1,.int .i64 a0_2,.string a0_3,.slice A0_4 l0_4.length c0_4]] w fun e w' => ∃ v4_ : Value,e = .returned (.agg #[.int .i64 r1,.int .i64 r2,.int .i64 r3,.string r4,v4_]) ∧ Kd.R k75 75 w' w.heap.size (fun _ => True) v4_ r5 ∧ Below w.heap.size w w':=by
 have hu34:=Try.underlying34
 have HR0_4:=ak hr0_4
 have HC0_4:=ak hc0_4
 clear hr0_4 hc0_4
 have HB:=ak (Below.refl w.heap.size w)
 have H:=h;clear h;unfold impl_cloneFeature.f at H
 replace H:=Hd.bd_ H;obtain ⟨t443,A2,H⟩:=H
 simp only [Option.some.injEq,Prod.mk.injEq] at H
 obtain ⟨rfl,rfl,rfl,rfl,rfl⟩:=H
 go_enter Try.func39,Try.ntmps39
 go_wp2_with (first | ((with_reducible refine gate_dst (N:=1) rfl ?_);refine Hd.box_ 1 (#[.int .i64 a0_0,.int .i64 a0_1,.int .i64 a0_2,.string a0_3,.slice A0_4 l0_4.length c0_4]) 34 ?_;intro gb441 hg w3 hbox hb;have BK441:=ak (hbox);have GW441:=ak ((Hd.g_ hg Hd.b_ : w.heap.size ≤ gb441));have GE441:=ak ((Hd.g_ hg Hd.b_ : w.heap.size ≤ gb441));replace HB:=ak (below_step Hd.b_ hb);clear hb hbox hg) | ((with_reducible refine gate_dst (N:=2) rfl ?_);refine Hd.box_ 2 (#[.int .i64 0,.int .i64 0,.int .i64 0,.string (⟨#[]⟩ : ByteArray),.slice none 0 0]) 34 ?_;intro gb442 hg w4 hbox hb;have BK442:=ak (hbox);have GW442:=ak ((Hd.g_ hg Hd.b_ : w.heap.size ≤ gb442));have GE442:=ak ((Hd.g_ hg Hd.b_ : w.heap.size ≤ gb442));replace HB:=ak (below_step Hd.b_ hb);have NB441_442:=ak ((Hd.lt_ BK441 hg));have NB442_441:=ak ((Hd.gt_ BK441 hg));replace BK441:=ak (Hd.kb_ BK441 hb);clear hb hbox hg;have hnb5:=NB441_442.out;have hnc5:=NB442_441.out;obtain ⟨hcz6_0,hcz6_1,hcz6_2,hcz6_3,hcz6_4⟩:=Hd.c5_ BK441.out;obtain ⟨hfz6_0,hfz6_1,hfz6_2,hfz6_3,hfz6_4⟩:=Hd.f5_ BK441.out) | ((with_reducible refine gate_callee (f:=62) rfl ?_);refine Hd.gl_ 5 Try.func62 #[.slice A0_4 l0_4.length c0_4] ?_;(with_reducible refine (impl_Point.calls _ _ l0_4 t443 _ ?side1 ?side2 A2.out).mono ?_);(case side1 => exact z1_ HR0_4);(case side2 => exact HC0_4.out);rintro e w7 ⟨v444,rfl,ho0,hb⟩;refine ⟨_,rfl,?_⟩;have HO445:=z59_;replace BK441:=ak (Hd.kb_ BK441 hb);replace BK442:=ak (Hd.kb_ BK442 hb);replace HB:=ak (below_step Hd.b_ hb);clear hb ho0;obtain ⟨Ao8,co8,eo8⟩:=Kd.R_slice HO445.out;subst eo8;obtain ⟨hcz9_0,hcz9_1,hcz9_2,hcz9_3,hcz9_4⟩:=Hd.c5_ BK441.out;obtain ⟨hfz9_0,hfz9_1,hfz9_2,hfz9_3,hfz9_4⟩:=Hd.f5_ BK441.out;obtain ⟨hcz10_0,hcz10_1,hcz10_2,hcz10_3,hcz10_4⟩:=Hd.c5_ BK442.out;obtain ⟨hfz10_0,hfz10_1,hfz10_2,hfz10_3,hfz10_4⟩:=Hd.f5_ BK442.out))
 refine bodyPost_ret (results_cell_row rfl _ _ gb442 34 #[.int .i64 a0_0,.int .i64 a0_1,.int .i64 a0_2,.string a0_3,.slice Ao8 t443.length co8] (0,0) _ rfl (z8_ NB442_441 BK442) Try.underlying34 rfl (by kernel_rfl)) rfl ?_
 exact ⟨_,Hd.e_,by (with_reducible repeat (first | apply Kd.R_alloc | apply Kd.R_drewN | apply Kd.R_drew));exact Kd.R_mono (Kd.R_far (p:=⟨gb442,4,none⟩) (Kd.R_far (p:=⟨gb442,3,none⟩) (Kd.R_far (p:=⟨gb442,2,none⟩) (Kd.R_far (p:=⟨gb442,1,none⟩) (Kd.R_far (p:=⟨gb442,0,none⟩) (Kd.R_far (p:=⟨gb441,4,none⟩) (Kd.R_types (Kd.R_types HO445.out BK441.out (by decide)) BK442.out (by decide)) (fun _ hk => hk.1.2) (.slice Ao8 t443.length co8)) (fun _ hk => hk.2) (.int .i64 a0_0)) (fun _ hk => hk.2) (.int .i64 a0_1)) (fun _ hk => hk.2) (.int .i64 a0_2)) (fun _ hk => hk.2) (.string a0_3)) (fun _ hk => hk.2) (.slice Ao8 t443.length co8)) (fun _ hk => trivial),Hd.b_⟩
end Go.Proofs.Ytbbdhlggnglfgaa.MFnExactPutFeature
