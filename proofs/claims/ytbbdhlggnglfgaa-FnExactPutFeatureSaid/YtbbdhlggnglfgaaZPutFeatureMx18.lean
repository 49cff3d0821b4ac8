-- Laid by this session's program pp.py, after the kit's print and texts of the session's own. Not trusted: Lean checks it.
import Derived.Test.YtbbdhlggnglfgaaZPutFeatureMx0
import Derived.Test.YtbbdhlggnglfgaaZPutFeatureMx17
namespace Go.Proofs.Ytbbdhlggnglfgaa.MFnExactPutFeature
open Go.RowKit Go.Proofs.YtbbdhlggnglfgaaW.PrintWords Go.Proofs.YtbbdhlggnglfgaaW.PrintLast Go.Proofs.YtbbdhlggnglfgaaW.PrintMore
attribute [local go_sem] max2_int min2_int max_two min_two max_three min_three max_four min_four   -- for this text's walks alone
set_option linter.unusedVariables false
set_option maxHeartbeats 8000000
set_option maxRecDepth 100000
set_option linter.unusedSimpArgs false
def laws_eqPointS.l0 : Nat → List (S75) → List (S75) → Int → Option (Bool)
 | 0,_,_,_ => none
 | k + 1,x0,x1,x5 => if x5 < (x0.length : Int) then (if 0 ≤ x5 then (if x5 < (x1.length : Int) then ((laws_eqPoint.f ((rd_T75 x0 x5).f0) ((rd_T75 x0 x5).f1) ((rd_T75 x1 x5).f0) ((rd_T75 x1 x5).f1)).bind fun t513 => (if t513 = true then (laws_eqPointS.l0 k x0 x1 (wrap64 (x5 + 1))) else (some false))) else (none)) else (none)) else (some true)
def laws_eqPointS.f (k : Nat) (l0 : List (S75)) (l1 : List (S75)) : Option (Bool):=if (l0.length : Int) = (l1.length : Int) then (laws_eqPointS.l0 k l0 l1 0) else (some false)
theorem laws_eqPointS.calls (k : Nat) (A0 : Option Addr) (c0 : Nat) (l0 : List (S75)) (A1 : Option Addr) (c1 : Nat) (l1 : List (S75)) (r : Bool) (w : World) (hr0 : Kd.C k75 w A0 l0.length l0) (hc0 : l0.length ≤ c0) (hr1 : Kd.C k75 w A1 l1.length l1) (hc1 : l1.length ≤ c1) (h : laws_eqPointS.f k l0 l1 = some r) :
  Calls Try.prog 41 #[.slice A0 l0.length c0,.slice A1 l1.length c1] w fun e w' => e = .returned (.bool r) ∧ Below w.heap.size w w':=by
 have hu75:=Try.underlying75
 have HR0:=ak hr0
 have HC0:=ak hc0
 clear hr0 hc0
 have HR1:=ak hr1
 have HC1:=ak hc1
 clear hr1 hc1
 have HB:=ak (Below.refl w.heap.size w)
 have H:=h;clear h;unfold laws_eqPointS.f at H
 by_cases c3 : (l0.length : Int) = (l1.length : Int);rotate_left
 ·
  rw [if_neg c3] at H
  have c3b0:=beq_eq_false_iff_ne.mpr c3
  have c3b1:=bne_iff_ne.mpr c3
  have c3b2 : (l0.length == l1.length) = false:=by first | simpa using c3 | (simp at c3 ⊢;omega)
  obtain rfl:=Option.some.inj H
  go_enter Try.func41,Try.ntmps41
  go_wp2
  go_ret
  exact ⟨Hd.e_,Hd.b_⟩
 rw [if_pos c3] at H
 have c3b0:=beq_iff_eq.mpr c3
 have c3b1:=bne_eq_false_iff_eq.mpr c3
 have c3b2 : (l0.length == l1.length) = true:=by first | simpa using c3 | (simp at c3 ⊢;omega)
 clear c3
 have H':=ak H
 clear H
 go_enter Try.func41,Try.ntmps41
 go_wp2
 go_loopg [5] k (fun kq v5 w' => ∃ (x5_1 : Int),v5 = .int .i64 x5_1 ∧ Aside0 (laws_eqPointS.l0 kq l0 l1 x5_1 = some r) ∧ Aside0 (kq ≤ k) ∧ Aside0 (Below w.heap.size w w'))
 case atStart => exact ⟨(0),z2_,H',⟨Nat.le_refl _⟩,⟨Hd.b_⟩⟩
 case round =>
  clear H'
  try clear c1;try clear p2;try clear c3;try clear c3b0;try clear c3b1;try clear c3b2
  obtain ⟨x5_1,rfl,HA,HK1,HB⟩:=hrel
  cases gk with
  | zero => exact absurd HA.out (by simp [laws_eqPointS.l0])
  | succ k1 =>
   have H:=HA.out
   clear HA
   simp only [laws_eqPointS.l0] at H
   by_cases c4 : x5_1 < (l0.length : Int);rotate_left
   ·
    rw [if_neg c4] at H
    have c4b0:=decide_eq_false c4
    clear c4
    obtain rfl:=Option.some.inj H
    go_wp2
    go_ret
    exact ⟨Hd.e_,Hd.b_⟩
   rw [if_pos c4] at H
   have c4b0:=decide_eq_true c4
   clear c4
   by_cases c5 : 0 ≤ x5_1;rotate_left
   ·
    rw [if_neg c5] at H
    exact absurd H (by simp)
   rw [if_pos c5] at H
   have c5b0:=decide_eq_true c5
   clear c5
   by_cases c6 : x5_1 < (l1.length : Int);rotate_left
   ·
    rw [if_neg c6] at H
    exact absurd H (by simp)
   rw [if_pos c6] at H
   have c6b0:=decide_eq_true c6
   clear c6
   replace H:=Hd.bd_ H;obtain ⟨t513,A7,H⟩:=H
   by_cases c8 : t513 = true;rotate_left
   ·
    replace c8:=Bool.eq_false_iff.mpr c8
    subst c8
    rw [if_neg (show ¬ (false = true) by decide)] at H
    obtain rfl:=Option.some.inj H
    try go_wp2
    replace HB:=ak (below_drew1 HB.out)
    have p511 : 0 ≤ (x5_1 : Int):=of_decide_eq_true Hd.a_
    have q511 : x5_1 < (l0.length : Int):=of_decide_eq_true Hd.a_
    obtain ⟨ad511,e511,hx511_0,hx511_1⟩:=at_T75 HR0.out x5_1 p511 q511
    have hw511_1:=hx511_1
    have hw511_0:=hx511_0
    cases e511
    replace hx511_0:=(HB.out.cell (World.block_lt_of_cell? w _ hx511_0)).trans hx511_0
    replace hx511_1:=(HB.out.cell (World.block_lt_of_cell? w _ hx511_1)).trans hx511_1
    replace p511:=eq_true p511
    replace q511:=eq_true q511
    have p512 : 0 ≤ (x5_1 : Int):=of_decide_eq_true Hd.a_
    have q512 : x5_1 < (l1.length : Int):=of_decide_eq_true Hd.a_
    obtain ⟨ad512,e512,hx512_0,hx512_1⟩:=at_T75 HR1.out x5_1 p512 q512
    have hw512_1:=hx512_1
    have hw512_0:=hx512_0
    cases e512
    replace hx512_0:=(HB.out.cell (World.block_lt_of_cell? w _ hx512_0)).trans hx512_0
    replace hx512_1:=(HB.out.cell (World.block_lt_of_cell? w _ hx512_1)).trans hx512_1
    replace p512:=eq_true p512
    replace q512:=eq_true q512
    have s0_:=Hd.HW.x (W0:=wr.drew) ((HB.out.cell (World.block_lt_of_cell? w _ hw511_0)).trans hw511_0)
    have s1_:=Hd.HW.x (W0:=wr.drew) ((HB.out.cell (World.block_lt_of_cell? w _ hw511_1)).trans hw511_1)
    have s2_:=Hd.HW.x (W0:=wr.drew) ((HB.out.cell (World.block_lt_of_cell? w _ hw512_0)).trans hw512_0)
    have s3_:=Hd.HW.x (W0:=wr.drew) ((HB.out.cell (World.block_lt_of_cell? w _ hw512_1)).trans hw512_1)
    refine Hd.HW.region (by kernel_rfl) (by kernel_rfl) ?_
    repeat (go_big_quiet_step ((first | (go_at_call 65;with_reducible exact Hd.HW.c (laws_eqPoint.calls ((rd_T75 l0 x5_1).f0) ((rd_T75 l0 x5_1).f1) ((rd_T75 l1 x5_1).f0) ((rd_T75 l1 x5_1).f1) false _ A7.out)))))
    refine wpQuiet_nil ?_
    intro _ hq_
    obtain ⟨q_,rfl⟩:=hq_
    clear s0_ s1_ s2_ s3_
    replace HB:=ak (below_step HB.out q_.b)
    replace hx511_0:=q_.cell hx511_0
    replace hx511_1:=q_.cell hx511_1
    replace hx512_0:=q_.cell hx512_0
    replace hx512_1:=q_.cell hx512_1
    generalize q_.W = w12 at HB hx511_0 hx511_1 hx512_0 hx512_1 ⊢
    try simp only [i64_w,i32_w]
    try go_wp2
    go_ret
    exact ⟨Hd.e_,Hd.b_⟩
   subst c8
   rw [if_pos rfl] at H
   have H':=ak H
   clear H
   try go_wp2
   replace HB:=ak (below_drew1 HB.out)
   have p511 : 0 ≤ (x5_1 : Int):=of_decide_eq_true Hd.a_
   have q511 : x5_1 < (l0.length : Int):=of_decide_eq_true Hd.a_
   obtain ⟨ad511,e511,hx511_0,hx511_1⟩:=at_T75 HR0.out x5_1 p511 q511
   have hw511_1:=hx511_1
   have hw511_0:=hx511_0
   cases e511
   replace hx511_0:=(HB.out.cell (World.block_lt_of_cell? w _ hx511_0)).trans hx511_0
   replace hx511_1:=(HB.out.cell (World.block_lt_of_cell? w _ hx511_1)).trans hx511_1
   replace p511:=eq_true p511
   replace q511:=eq_true q511
   have p512 : 0 ≤ (x5_1 : Int):=of_decide_eq_true Hd.a_
   have q512 : x5_1 < (l1.length : Int):=of_decide_eq_true Hd.a_
   obtain ⟨ad512,e512,hx512_0,hx512_1⟩:=at_T75 HR1.out x5_1 p512 q512
   have hw512_1:=hx512_1
   have hw512_0:=hx512_0
   cases e512
   replace hx512_0:=(HB.out.cell (World.block_lt_of_cell? w _ hx512_0)).trans hx512_0
   replace hx512_1:=(HB.out.cell (World.block_lt_of_cell? w _ hx512_1)).trans hx512_1
   replace p512:=eq_true p512
   replace q512:=eq_true q512
   have s0_:=Hd.HW.x (W0:=wr.drew) ((HB.out.cell (World.block_lt_of_cell? w _ hw511_0)).trans hw511_0)
   have s1_:=Hd.HW.x (W0:=wr.drew) ((HB.out.cell (World.block_lt_of_cell? w _ hw511_1)).trans hw511_1)
   have s2_:=Hd.HW.x (W0:=wr.drew) ((HB.out.cell (World.block_lt_of_cell? w _ hw512_0)).trans hw512_0)
   have s3_:=Hd.HW.x (W0:=wr.drew) ((HB.out.cell (World.block_lt_of_cell? w _ hw512_1)).trans hw512_1)
   refine Hd.HW.region (by kernel_rfl) (by kernel_rfl) ?_
   repeat (go_big_quiet_step ((first | (go_at_call 65;with_reducible exact Hd.HW.c (laws_eqPoint.calls ((rd_T75 l0 x5_1).f0) ((rd_T75 l0 x5_1).f1) ((rd_T75 l1 x5_1).f0) ((rd_T75 l1 x5_1).f1) true _ A7.out)))))
   refine wpQuiet_nil ?_
   intro _ hq_
   obtain ⟨q_,rfl⟩:=hq_
   clear s0_ s1_ s2_ s3_
   replace HB:=ak (below_step HB.out q_.b)
   replace hx511_0:=q_.cell hx511_0
   replace hx511_1:=q_.cell hx511_1
   replace hx512_0:=q_.cell hx512_0
   replace hx512_1:=q_.cell hx512_1
   generalize q_.W = w10 at HB hx511_0 hx511_1 hx512_0 hx512_1 ⊢
   try simp only [i64_w,i32_w]
   try go_wp2
   go_roundg k1
   case measure => have:=HK1.out;omega
   case rel => exact ⟨(wrap64 (x5_1 + 1)),z2_,H',⟨by have:=HK1.out;omega⟩,⟨Hd.b_⟩⟩
def laws_eqFeature.f (k : Nat) (a0_0 : Int) (a0_1 : Int) (a0_2 : Int) (a0_3 : ByteArray) (l0_4 : List (S75)) (a1_0 : Int) (a1_1 : Int) (a1_2 : Int) (a1_3 : ByteArray) (l1_4 : List (S75)) : Option (Bool):=if a0_0 = a1_0 then (if a0_1 = a1_1 then (if a0_2 = a1_2 then (if a0_3.toList = a1_3.toList then ((laws_eqPointS.f k l0_4 l1_4).bind fun t516 => (if t516 = true then (some true) else (some false))) else (some false)) else (some false)) else (some false)) else (some false)
theorem laws_eqFeature.calls (k : Nat) (a0_0 : Int) (a0_1 : Int) (a0_2 : Int) (a0_3 : ByteArray) (A0_4 : Option Addr) (c0_4 : Nat) (l0_4 : List (S75)) (a1_0 : Int) (a1_1 : Int) (a1_2 : Int) (a1_3 : ByteArray) (A1_4 : Option Addr) (c1_4 : Nat) (l1_4 : List (S75)) (r : Bool) (w : World) (hr0_4 : Kd.C k75 w A0_4 l0_4.length l0_4) (hc0_4 : l0_4.length ≤ c0_4) (hr1_4 : Kd.C k75 w A1_4 l1_4.length l1_4) (hc1_4 : l1_4.length ≤ c1_4) (h : laws_eqFeature.f k a0_0 a0_1 a0_2 a0_3 l0_4 a1_0 a1_1 a1_2 a1_3 l1_4 = some r) :
  Calls Try.prog 14 #[.agg #[.int .i64 a0_0,.int .i64 a0_1,.int .i64 a0_2,.string a0_3,.slice A0_4 l0_4.length c0_4],.agg #[.int .i64 a1_0,.int .i64 a1_1,.int .i64 a1_2,.string a1_3,.slice A1_4 l1_4.length c1_4]] w fun e w' => e = .returned (.bool r) ∧ Below w.heap.size w w':=by
 have hu34:=Try.underlying34
 have HR0_4:=ak hr0_4
 have HC0_4:=ak hc0_4
 clear hr0_4 hc0_4
 have HR1_4:=ak hr1_4
 have HC1_4:=ak hc1_4
 clear hr1_4 hc1_4
 have HB:=ak (Below.refl w.heap.size w)
 have H:=h;clear h;unfold laws_eqFeature.f at H
 by_cases c3 : a0_0 = a1_0;rotate_left
 ·
  rw [if_neg c3] at H
  have c3b0:=beq_eq_false_iff_ne.mpr c3
  have c3b1:=bne_iff_ne.mpr c3
  obtain rfl:=Option.some.inj H
  go_enter Try.func14,Try.ntmps14
  go_wp2_with (first | ((with_reducible refine gate_dst (N:=2) rfl ?_);refine Hd.box_ 2 (#[.int .i64 a0_0,.int .i64 a0_1,.int .i64 a0_2,.string a0_3,.slice A0_4 l0_4.length c0_4]) 34 ?_;intro gb514 hg w36 hbox hb;have BK514:=ak (hbox);have GW514:=z38_;have GE514:=z38_;replace HB:=ak (below_step Hd.b_ hb);clear hb hbox hg) | ((with_reducible refine gate_dst (N:=3) rfl ?_);refine Hd.box_ 3 (#[.int .i64 a1_0,.int .i64 a1_1,.int .i64 a1_2,.string a1_3,.slice A1_4 l1_4.length c1_4]) 34 ?_;intro gb515 hg w37 hbox hb;have BK515:=ak (hbox);have GW515:=z39_;have GE515:=z39_;replace HB:=ak (below_step Hd.b_ hb);have NB514_515:=ak ((Hd.lt_ BK514 hg));have NB515_514:=ak ((Hd.gt_ BK514 hg));replace BK514:=ak (Hd.kb_ BK514 hb);clear hb hbox hg;have hnb38:=NB514_515.out;have hnc38:=NB515_514.out;obtain ⟨hcz39_0,hcz39_1,hcz39_2,hcz39_3,hcz39_4⟩:=Hd.c5_ BK514.out;obtain ⟨hfz39_0,hfz39_1,hfz39_2,hfz39_3,hfz39_4⟩:=Hd.f5_ BK514.out;obtain ⟨hcz40_0,hcz40_1,hcz40_2,hcz40_3,hcz40_4⟩:=Hd.c5_ BK515.out;obtain ⟨hfz40_0,hfz40_1,hfz40_2,hfz40_3,hfz40_4⟩:=Hd.f5_ BK515.out))
  go_ret
  exact ⟨Hd.e_,Hd.b_⟩
 rw [if_pos c3] at H
 have c3b0:=beq_iff_eq.mpr c3
 have c3b1:=bne_eq_false_iff_eq.mpr c3
 clear c3
 by_cases c4 : a0_1 = a1_1;rotate_left
 ·
  rw [if_neg c4] at H
  have c4b0:=beq_eq_false_iff_ne.mpr c4
  have c4b1:=bne_iff_ne.mpr c4
  obtain rfl:=Option.some.inj H
  go_enter Try.func14,Try.ntmps14
  go_wp2_with (first | ((with_reducible refine gate_dst (N:=2) rfl ?_);refine Hd.box_ 2 (#[.int .i64 a0_0,.int .i64 a0_1,.int .i64 a0_2,.string a0_3,.slice A0_4 l0_4.length c0_4]) 34 ?_;intro gb514 hg w31 hbox hb;have BK514:=ak (hbox);have GW514:=z38_;have GE514:=z38_;replace HB:=ak (below_step Hd.b_ hb);clear hb hbox hg) | ((with_reducible refine gate_dst (N:=3) rfl ?_);refine Hd.box_ 3 (#[.int .i64 a1_0,.int .i64 a1_1,.int .i64 a1_2,.string a1_3,.slice A1_4 l1_4.length c1_4]) 34 ?_;intro gb515 hg w32 hbox hb;have BK515:=ak (hbox);have GW515:=z39_;have GE515:=z39_;replace HB:=ak (below_step Hd.b_ hb);have NB514_515:=ak ((Hd.lt_ BK514 hg));have NB515_514:=ak ((Hd.gt_ BK514 hg));replace BK514:=ak (Hd.kb_ BK514 hb);clear hb hbox hg;have hnb33:=NB514_515.out;have hnc33:=NB515_514.out;obtain ⟨hcz34_0,hcz34_1,hcz34_2,hcz34_3,hcz34_4⟩:=Hd.c5_ BK514.out;obtain ⟨hfz34_0,hfz34_1,hfz34_2,hfz34_3,hfz34_4⟩:=Hd.f5_ BK514.out;obtain ⟨hcz35_0,hcz35_1,hcz35_2,hcz35_3,hcz35_4⟩:=Hd.c5_ BK515.out;obtain ⟨hfz35_0,hfz35_1,hfz35_2,hfz35_3,hfz35_4⟩:=Hd.f5_ BK515.out))
  go_ret
  exact ⟨Hd.e_,Hd.b_⟩
 rw [if_pos c4] at H
 have c4b0:=beq_iff_eq.mpr c4
 have c4b1:=bne_eq_false_iff_eq.mpr c4
 clear c4
 by_cases c5 : a0_2 = a1_2;rotate_left
 ·
  rw [if_neg c5] at H
  have c5b0:=beq_eq_false_iff_ne.mpr c5
  have c5b1:=bne_iff_ne.mpr c5
  obtain rfl:=Option.some.inj H
  go_enter Try.func14,Try.ntmps14
  go_wp2_with (first | ((with_reducible refine gate_dst (N:=2) rfl ?_);refine Hd.box_ 2 (#[.int .i64 a0_0,.int .i64 a0_1,.int .i64 a0_2,.string a0_3,.slice A0_4 l0_4.length c0_4]) 34 ?_;intro gb514 hg w26 hbox hb;have BK514:=ak (hbox);have GW514:=z38_;have GE514:=z38_;replace HB:=ak (below_step Hd.b_ hb);clear hb hbox hg) | ((with_reducible refine gate_dst (N:=3) rfl ?_);refine Hd.box_ 3 (#[.int .i64 a1_0,.int .i64 a1_1,.int .i64 a1_2,.string a1_3,.slice A1_4 l1_4.length c1_4]) 34 ?_;intro gb515 hg w27 hbox hb;have BK515:=ak (hbox);have GW515:=z39_;have GE515:=z39_;replace HB:=ak (below_step Hd.b_ hb);have NB514_515:=ak ((Hd.lt_ BK514 hg));have NB515_514:=ak ((Hd.gt_ BK514 hg));replace BK514:=ak (Hd.kb_ BK514 hb);clear hb hbox hg;have hnb28:=NB514_515.out;have hnc28:=NB515_514.out;obtain ⟨hcz29_0,hcz29_1,hcz29_2,hcz29_3,hcz29_4⟩:=Hd.c5_ BK514.out;obtain ⟨hfz29_0,hfz29_1,hfz29_2,hfz29_3,hfz29_4⟩:=Hd.f5_ BK514.out;obtain ⟨hcz30_0,hcz30_1,hcz30_2,hcz30_3,hcz30_4⟩:=Hd.c5_ BK515.out;obtain ⟨hfz30_0,hfz30_1,hfz30_2,hfz30_3,hfz30_4⟩:=Hd.f5_ BK515.out))
  go_ret
  exact ⟨Hd.e_,Hd.b_⟩
 rw [if_pos c5] at H
 have c5b0:=beq_iff_eq.mpr c5
 have c5b1:=bne_eq_false_iff_eq.mpr c5
 clear c5
 by_cases c6 : a0_3.toList = a1_3.toList;rotate_left
 ·
  rw [if_neg c6] at H
  have c6b0:=beq_eq_false_iff_ne.mpr c6
  have c6b1:=bne_iff_ne.mpr c6
  obtain rfl:=Option.some.inj H
  go_enter Try.func14,Try.ntmps14
  go_wp2_with (first | ((with_reducible refine gate_dst (N:=2) rfl ?_);refine Hd.box_ 2 (#[.int .i64 a0_0,.int .i64 a0_1,.int .i64 a0_2,.string a0_3,.slice A0_4 l0_4.length c0_4]) 34 ?_;intro gb514 hg w21 hbox hb;have BK514:=ak (hbox);have GW514:=z38_;have GE514:=z38_;replace HB:=ak (below_step Hd.b_ hb);clear hb hbox hg) | ((with_reducible refine gate_dst (N:=3) rfl ?_);refine Hd.box_ 3 (#[.int .i64 a1_0,.int .i64 a1_1,.int .i64 a1_2,.string a1_3,.slice A1_4 l1_4.length c1_4]) 34 ?_;intro gb515 hg w22 hbox hb;have BK515:=ak (hbox);have GW515:=z39_;have GE515:=z39_;replace HB:=ak (below_step Hd.b_ hb);have NB514_515:=ak ((Hd.lt_ BK514 hg));have NB515_514:=ak ((Hd.gt_ BK514 hg));replace BK514:=ak (Hd.kb_ BK514 hb);clear hb hbox hg;have hnb23:=NB514_515.out;have hnc23:=NB515_514.out;obtain ⟨hcz24_0,hcz24_1,hcz24_2,hcz24_3,hcz24_4⟩:=Hd.c5_ BK514.out;obtain ⟨hfz24_0,hfz24_1,hfz24_2,hfz24_3,hfz24_4⟩:=Hd.f5_ BK514.out;obtain ⟨hcz25_0,hcz25_1,hcz25_2,hcz25_3,hcz25_4⟩:=Hd.c5_ BK515.out;obtain ⟨hfz25_0,hfz25_1,hfz25_2,hfz25_3,hfz25_4⟩:=Hd.f5_ BK515.out))
  go_ret
  exact ⟨Hd.e_,Hd.b_⟩
 rw [if_pos c6] at H
 have c6b0:=beq_iff_eq.mpr c6
 have c6b1:=bne_eq_false_iff_eq.mpr c6
 clear c6
 replace H:=Hd.bd_ H;obtain ⟨t516,A7,H⟩:=H
 by_cases c8 : t516 = true
 ·
  subst c8
  rw [if_pos rfl] at H
  obtain rfl:=Option.some.inj H
  go_enter Try.func14,Try.ntmps14
  go_wp2_with (first | ((with_reducible refine gate_dst (N:=2) rfl ?_);refine Hd.box_ 2 (#[.int .i64 a0_0,.int .i64 a0_1,.int .i64 a0_2,.string a0_3,.slice A0_4 l0_4.length c0_4]) 34 ?_;intro gb514 hg w9 hbox hb;have BK514:=ak (hbox);have GW514:=z38_;have GE514:=z38_;replace HB:=ak (below_step Hd.b_ hb);clear hb hbox hg) | ((with_reducible refine gate_dst (N:=3) rfl ?_);refine Hd.box_ 3 (#[.int .i64 a1_0,.int .i64 a1_1,.int .i64 a1_2,.string a1_3,.slice A1_4 l1_4.length c1_4]) 34 ?_;intro gb515 hg w10 hbox hb;have BK515:=ak (hbox);have GW515:=z39_;have GE515:=z39_;replace HB:=ak (below_step Hd.b_ hb);have NB514_515:=ak ((Hd.lt_ BK514 hg));have NB515_514:=ak ((Hd.gt_ BK514 hg));replace BK514:=ak (Hd.kb_ BK514 hb);clear hb hbox hg;have hnb11:=NB514_515.out;have hnc11:=NB515_514.out;obtain ⟨hcz12_0,hcz12_1,hcz12_2,hcz12_3,hcz12_4⟩:=Hd.c5_ BK514.out;obtain ⟨hfz12_0,hfz12_1,hfz12_2,hfz12_3,hfz12_4⟩:=Hd.f5_ BK514.out;obtain ⟨hcz13_0,hcz13_1,hcz13_2,hcz13_3,hcz13_4⟩:=Hd.c5_ BK515.out;obtain ⟨hfz13_0,hfz13_1,hfz13_2,hfz13_3,hfz13_4⟩:=Hd.f5_ BK515.out) | ((with_reducible refine gate_callee (f:=41) rfl ?_);refine Hd.gl_ 29 Try.func41 #[.slice A0_4 l0_4.length c0_4,.slice A1_4 l1_4.length c1_4] ?_;(with_reducible refine (laws_eqPointS.calls k _ _ l0_4 _ _ l1_4 true _ ?side1 ?side2 ?side3 ?side4 A7.out).mono ?_);(case side1 => exact z1_ HR0_4);(case side2 => exact HC0_4.out);(case side3 => exact z1_ HR1_4);(case side4 => exact HC1_4.out);rintro e w14 ⟨rfl,hb⟩;refine ⟨_,rfl,?_⟩;replace BK514:=ak (Hd.kb_ BK514 hb);replace BK515:=ak (Hd.kb_ BK515 hb);replace HB:=ak (below_step Hd.b_ hb);clear hb))
  go_ret
  exact ⟨Hd.e_,Hd.b_⟩
 replace c8:=Bool.eq_false_iff.mpr c8
 subst c8
 rw [if_neg (show ¬ (false = true) by decide)] at H
 obtain rfl:=Option.some.inj H
 go_enter Try.func14,Try.ntmps14
 go_wp2_with (first | ((with_reducible refine gate_dst (N:=2) rfl ?_);refine Hd.box_ 2 (#[.int .i64 a0_0,.int .i64 a0_1,.int .i64 a0_2,.string a0_3,.slice A0_4 l0_4.length c0_4]) 34 ?_;intro gb514 hg w15 hbox hb;have BK514:=ak (hbox);have GW514:=z38_;have GE514:=z38_;replace HB:=ak (below_step Hd.b_ hb);clear hb hbox hg) | ((with_reducible refine gate_dst (N:=3) rfl ?_);refine Hd.box_ 3 (#[.int .i64 a1_0,.int .i64 a1_1,.int .i64 a1_2,.string a1_3,.slice A1_4 l1_4.length c1_4]) 34 ?_;intro gb515 hg w16 hbox hb;have BK515:=ak (hbox);have GW515:=z39_;have GE515:=z39_;replace HB:=ak (below_step Hd.b_ hb);have NB514_515:=ak ((Hd.lt_ BK514 hg));have NB515_514:=ak ((Hd.gt_ BK514 hg));replace BK514:=ak (Hd.kb_ BK514 hb);clear hb hbox hg;have hnb17:=NB514_515.out;have hnc17:=NB515_514.out;obtain ⟨hcz18_0,hcz18_1,hcz18_2,hcz18_3,hcz18_4⟩:=Hd.c5_ BK514.out;obtain ⟨hfz18_0,hfz18_1,hfz18_2,hfz18_3,hfz18_4⟩:=Hd.f5_ BK514.out;obtain ⟨hcz19_0,hcz19_1,hcz19_2,hcz19_3,hcz19_4⟩:=Hd.c5_ BK515.out;obtain ⟨hfz19_0,hfz19_1,hfz19_2,hfz19_3,hfz19_4⟩:=Hd.f5_ BK515.out) | ((with_reducible refine gate_callee (f:=41) rfl ?_);refine Hd.gl_ 29 Try.func41 #[.slice A0_4 l0_4.length c0_4,.slice A1_4 l1_4.length c1_4] ?_;(with_reducible refine (laws_eqPointS.calls k _ _ l0_4 _ _ l1_4 false _ ?side1 ?side2 ?side3 ?side4 A7.out).mono ?_);(case side1 => exact z1_ HR0_4);(case side2 => exact HC0_4.out);(case side3 => exact z1_ HR1_4);(case side4 => exact HC1_4.out);rintro e w20 ⟨rfl,hb⟩;refine ⟨_,rfl,?_⟩;replace BK514:=ak (Hd.kb_ BK514 hb);replace BK515:=ak (Hd.kb_ BK515 hb);replace HB:=ak (below_step Hd.b_ hb);clear hb))
 go_ret
 exact ⟨Hd.e_,Hd.b_⟩
def laws_eqFeatureS.l0 : Nat → List (S34) → List (S34) → Int → Option (Bool)
 | 0,_,_,_ => none
 | k + 1,x0,x1,x5 => if x5 < (x0.length : Int) then (if 0 ≤ x5 then (if x5 < (x1.length : Int) then ((laws_eqFeature.f k ((rd_T34 x0 x5).f0) ((rd_T34 x0 x5).f1) ((rd_T34 x0 x5).f2) ((rd_T34 x0 x5).f3) ((rd_T34 x0 x5).f4) ((rd_T34 x1 x5).f0) ((rd_T34 x1 x5).f1) ((rd_T34 x1 x5).f2) ((rd_T34 x1 x5).f3) ((rd_T34 x1 x5).f4)).bind fun t519 => (if t519 = true then (laws_eqFeatureS.l0 k x0 x1 (wrap64 (x5 + 1))) else (some false))) else (none)) else (none)) else (some true)
def laws_eqFeatureS.f (k : Nat) (l0 : List (S34)) (l1 : List (S34)) : Option (Bool):=if (l0.length : Int) = (l1.length : Int) then (laws_eqFeatureS.l0 k l0 l1 0) else (some false)
def laws_eqFeatureS.T6 : Bool × List (List Nat × List Nat):=(true,[([],[]),([],[]),([0,1],[0,1]),([2],[2]),([],[]),([],[]),([4,5],[4,5]),([6],[6]),([3,7],[3,7]),([8],[8])])
def laws_eqFeatureS.B6 : List Nat:=[0,0,3,7,0,0,48,112,255,511]
theorem laws_eqFeatureS.tab6 : rtab .any (opsOf Try.f13 6) = laws_eqFeatureS.T6:=by kernel_rfl
theorem laws_eqFeatureS.bits6 : waitsOk laws_eqFeatureS.T6.2 laws_eqFeatureS.B6 = true:=by kernel_rfl
theorem laws_eqFeatureS.calls (k : Nat) (A0 : Option Addr) (c0 : Nat) (l0 : List (S34)) (A1 : Option Addr) (c1 : Nat) (l1 : List (S34)) (r : Bool) (w : World) (hr0 : Kd.C k34 w A0 l0.length l0) (hc0 : l0.length ≤ c0) (hr1 : Kd.C k34 w A1 l1.length l1) (hc1 : l1.length ≤ c1) (h : laws_eqFeatureS.f k l0 l1 = some r) :
  Calls Try.prog 13 #[.slice A0 l0.length c0,.slice A1 l1.length c1] w fun e w' => e = .returned (.bool r) ∧ Below w.heap.size w w':=by
 have hu34:=Try.underlying34
 have HR0:=ak hr0
 have HC0:=ak hc0
 clear hr0 hc0
 have HR1:=ak hr1
 have HC1:=ak hc1
 clear hr1 hc1
 have HB:=ak (Below.refl w.heap.size w)
 have H:=h;clear h;unfold laws_eqFeatureS.f at H
 by_cases c3 : (l0.length : Int) = (l1.length : Int);rotate_left
 ·
  rw [if_neg c3] at H
  have c3b0:=beq_eq_false_iff_ne.mpr c3
  have c3b1:=bne_iff_ne.mpr c3
  have c3b2 : (l0.length == l1.length) = false:=by first | simpa using c3 | (simp at c3 ⊢;omega)
  obtain rfl:=Option.some.inj H
  go_enter Try.func13,Try.ntmps13
  go_wp2
  go_ret
  exact ⟨Hd.e_,Hd.b_⟩
 rw [if_pos c3] at H
 have c3b0:=beq_iff_eq.mpr c3
 have c3b1:=bne_eq_false_iff_eq.mpr c3
 have c3b2 : (l0.length == l1.length) = true:=by first | simpa using c3 | (simp at c3 ⊢;omega)
 clear c3
 have H':=ak H
 clear H
 go_enter Try.func13,Try.ntmps13
 go_wp2
 go_loopg [5] k (fun kq v5 w' => ∃ (x5_1 : Int),v5 = .int .i64 x5_1 ∧ Aside0 (laws_eqFeatureS.l0 kq l0 l1 x5_1 = some r) ∧ Aside0 (kq ≤ k) ∧ Aside0 (Below w.heap.size w w'))
 case atStart => exact ⟨(0),z2_,H',⟨Nat.le_refl _⟩,⟨Hd.b_⟩⟩
 case round =>
  clear H'
  try clear c1;try clear p2;try clear c3;try clear c3b0;try clear c3b1;try clear c3b2
  obtain ⟨x5_1,rfl,HA,HK1,HB⟩:=hrel
  cases gk with
  | zero => exact absurd HA.out (by simp [laws_eqFeatureS.l0])
  | succ k1 =>
   have H:=HA.out
   clear HA
   simp only [laws_eqFeatureS.l0] at H
   by_cases c4 : x5_1 < (l0.length : Int);rotate_left
   ·
    rw [if_neg c4] at H
    have c4b0:=decide_eq_false c4
    clear c4
    obtain rfl:=Option.some.inj H
    go_wp2
    go_ret
    exact ⟨Hd.e_,Hd.b_⟩
   rw [if_pos c4] at H
   have c4b0:=decide_eq_true c4
   clear c4
   by_cases c5 : 0 ≤ x5_1;rotate_left
   ·
    rw [if_neg c5] at H
    exact absurd H (by simp)
   rw [if_pos c5] at H
   have c5b0:=decide_eq_true c5
   clear c5
   by_cases c6 : x5_1 < (l1.length : Int);rotate_left
   ·
    rw [if_neg c6] at H
    exact absurd H (by simp)
   rw [if_pos c6] at H
   have c6b0:=decide_eq_true c6
   clear c6
   replace H:=Hd.bd_ H;obtain ⟨t519,A7,H⟩:=H
   by_cases c8 : t519 = true;rotate_left
   ·
    replace c8:=Bool.eq_false_iff.mpr c8
    subst c8
    rw [if_neg (show ¬ (false = true) by decide)] at H
    obtain rfl:=Option.some.inj H
    try go_wp2
    replace HB:=ak (below_drew1 HB.out)
    have p517 : 0 ≤ (x5_1 : Int):=of_decide_eq_true Hd.a_
    have q517 : x5_1 < (l0.length : Int):=of_decide_eq_true Hd.a_
    obtain ⟨ad517,A517_4,c517_4,e517,hx517_0,hx517_1,hx517_2,hx517_3,hx517_4,hl517_4,hi517_4⟩:=at_T34 HR0.out x5_1 p517 q517
    have hw517_4:=hx517_4
    have hw517_3:=hx517_3
    have hw517_2:=hx517_2
    have hw517_1:=hx517_1
    have hw517_0:=hx517_0
    cases e517
    replace hx517_0:=(HB.out.cell (World.block_lt_of_cell? w _ hx517_0)).trans hx517_0
    replace hx517_1:=(HB.out.cell (World.block_lt_of_cell? w _ hx517_1)).trans hx517_1
    replace hx517_2:=(HB.out.cell (World.block_lt_of_cell? w _ hx517_2)).trans hx517_2
    replace hx517_3:=(HB.out.cell (World.block_lt_of_cell? w _ hx517_3)).trans hx517_3
    replace hx517_4:=(HB.out.cell (World.block_lt_of_cell? w _ hx517_4)).trans hx517_4
    have HR517_4:=ak hi517_4
    have HC517_4:=ak hl517_4
    clear hi517_4 hl517_4
    replace p517:=eq_true p517
    replace q517:=eq_true q517
    have p518 : 0 ≤ (x5_1 : Int):=of_decide_eq_true Hd.a_
    have q518 : x5_1 < (l1.length : Int):=of_decide_eq_true Hd.a_
    obtain ⟨ad518,A518_4,c518_4,e518,hx518_0,hx518_1,hx518_2,hx518_3,hx518_4,hl518_4,hi518_4⟩:=at_T34 HR1.out x5_1 p518 q518
    have hw518_4:=hx518_4
    have hw518_3:=hx518_3
    have hw518_2:=hx518_2
    have hw518_1:=hx518_1
    have hw518_0:=hx518_0
    cases e518
    replace hx518_0:=(HB.out.cell (World.block_lt_of_cell? w _ hx518_0)).trans hx518_0
    replace hx518_1:=(HB.out.cell (World.block_lt_of_cell? w _ hx518_1)).trans hx518_1
    replace hx518_2:=(HB.out.cell (World.block_lt_of_cell? w _ hx518_2)).trans hx518_2
    replace hx518_3:=(HB.out.cell (World.block_lt_of_cell? w _ hx518_3)).trans hx518_3
    replace hx518_4:=(HB.out.cell (World.block_lt_of_cell? w _ hx518_4)).trans hx518_4
    have HR518_4:=ak hi518_4
    have HC518_4:=ak hl518_4
    clear hi518_4 hl518_4
    replace p518:=eq_true p518
    replace q518:=eq_true q518
    refine start_ (n:=10) (S:=fun w' => w'.cell? (ad517.add ((x5_1).toNat * 5)) = some (.int .i64 ((rd_T34 l0 x5_1).f0)) ∧ w'.cell? ⟨(ad517.add ((x5_1).toNat * 5)).block,(ad517.add ((x5_1).toNat * 5)).off + 1,none⟩ = some (.int .i64 ((rd_T34 l0 x5_1).f1)) ∧ w'.cell? ⟨(ad517.add ((x5_1).toNat * 5)).block,(ad517.add ((x5_1).toNat * 5)).off + 2,none⟩ = some (.int .i64 ((rd_T34 l0 x5_1).f2)) ∧ w'.cell? ⟨(ad517.add ((x5_1).toNat * 5)).block,(ad517.add ((x5_1).toNat * 5)).off + 3,none⟩ = some (.string ((rd_T34 l0 x5_1).f3)) ∧ w'.cell? ⟨(ad517.add ((x5_1).toNat * 5)).block,(ad517.add ((x5_1).toNat * 5)).off + 4,none⟩ = some (.slice A517_4 ((rd_T34 l0 x5_1).f4).length c517_4) ∧ w'.cell? (ad518.add ((x5_1).toNat * 5)) = some (.int .i64 ((rd_T34 l1 x5_1).f0)) ∧ w'.cell? ⟨(ad518.add ((x5_1).toNat * 5)).block,(ad518.add ((x5_1).toNat * 5)).off + 1,none⟩ = some (.int .i64 ((rd_T34 l1 x5_1).f1)) ∧ w'.cell? ⟨(ad518.add ((x5_1).toNat * 5)).block,(ad518.add ((x5_1).toNat * 5)).off + 2,none⟩ = some (.int .i64 ((rd_T34 l1 x5_1).f2)) ∧ w'.cell? ⟨(ad518.add ((x5_1).toNat * 5)).block,(ad518.add ((x5_1).toNat * 5)).off + 3,none⟩ = some (.string ((rd_T34 l1 x5_1).f3)) ∧ w'.cell? ⟨(ad518.add ((x5_1).toNat * 5)).block,(ad518.add ((x5_1).toNat * 5)).off + 4,none⟩ = some (.slice A518_4 ((rd_T34 l1 x5_1).f4).length c518_4)) (ds:=[]) #[N_,N_,N_,N_,N_,N_,N_,N_,N_,N_] (by kernel_rfl) rfl rfl ⟨((HB.out.cell (World.block_lt_of_cell? w _ hw517_0)).trans hw517_0),((HB.out.cell (World.block_lt_of_cell? w _ hw517_1)).trans hw517_1),((HB.out.cell (World.block_lt_of_cell? w _ hw517_2)).trans hw517_2),((HB.out.cell (World.block_lt_of_cell? w _ hw517_3)).trans hw517_3),((HB.out.cell (World.block_lt_of_cell? w _ hw517_4)).trans hw517_4),((HB.out.cell (World.block_lt_of_cell? w _ hw518_0)).trans hw518_0),((HB.out.cell (World.block_lt_of_cell? w _ hw518_1)).trans hw518_1),((HB.out.cell (World.block_lt_of_cell? w _ hw518_2)).trans hw518_2),((HB.out.cell (World.block_lt_of_cell? w _ hw518_3)).trans hw518_3),((HB.out.cell (World.block_lt_of_cell? w _ hw518_4)).trans hw518_4)⟩ (fun hHeld => ?_);refine with_tabW laws_eqFeatureS.tab6 laws_eqFeatureS.bits6 (fun HT_ HW_ => ?_)
    generalize wr.drew = w11 at HB HR517_4 HR518_4 hx517_0 hx517_1 hx517_2 hx517_3 hx517_4 hx518_0 hx518_1 hx518_2 hx518_3 hx518_4 hHeld ⊢
    refine Hd.p_ HT_ 0 (some 17) #[Y_,N_,N_,N_,N_,N_,N_,N_,N_,N_] ?_
    refine Hd.p_ HT_ 1 (some 18) #[Y_,Y_,N_,N_,N_,N_,N_,N_,N_,N_] ?_
    refine Hd.p_ HT_ 2 (some 19) #[Y_,Y_,Y_,N_,N_,N_,N_,N_,N_,N_] ?_
    refine Hd.p_ HT_ 4 (some 21) #[Y_,Y_,Y_,N_,Y_,N_,N_,N_,N_,N_] ?_
    refine Hd.p_ HT_ 5 (some 22) #[Y_,Y_,Y_,N_,Y_,Y_,N_,N_,N_,N_] ?_
    refine Hd.p_ HT_ 6 (some 23) #[Y_,Y_,Y_,N_,Y_,Y_,Y_,N_,N_,N_] ?_
    refine Hd.t_ HT_ HW_ hHeld 3 (some 20) #[Y_,Y_,Y_,Y_,Y_,Y_,Y_,N_,N_,N_] ?_
    refine Hd.t_ HT_ HW_ hHeld 7 (some 24) #[Y_,Y_,Y_,Y_,Y_,Y_,Y_,Y_,N_,N_] ?_
    refine Hd.o_ HT_ 8 (some 25) #[Y_,Y_,Y_,Y_,Y_,Y_,Y_,Y_,Y_,N_] (fun K hK => ?_)
    refine goes_ Try.func14 (by kernel_rfl) rfl #[.agg #[.int .i64 ((rd_T34 l0 x5_1).f0),.int .i64 ((rd_T34 l0 x5_1).f1),.int .i64 ((rd_T34 l0 x5_1).f2),.string ((rd_T34 l0 x5_1).f3),.slice A517_4 ((rd_T34 l0 x5_1).f4).length c517_4],.agg #[.int .i64 ((rd_T34 l1 x5_1).f0),.int .i64 ((rd_T34 l1 x5_1).f1),.int .i64 ((rd_T34 l1 x5_1).f2),.string ((rd_T34 l1 x5_1).f3),.slice A518_4 ((rd_T34 l1 x5_1).f4).length c518_4]] (by rfl) rfl rfl Hd.m_ ?_
    with_reducible refine (laws_eqFeature.calls k1 ((rd_T34 l0 x5_1).f0) ((rd_T34 l0 x5_1).f1) ((rd_T34 l0 x5_1).f2) ((rd_T34 l0 x5_1).f3) _ _ ((rd_T34 l0 x5_1).f4) ((rd_T34 l1 x5_1).f0) ((rd_T34 l1 x5_1).f1) ((rd_T34 l1 x5_1).f2) ((rd_T34 l1 x5_1).f3) _ _ ((rd_T34 l1 x5_1).f4) false _ ?side1 ?side2 ?side3 ?side4 A7.out).mono ?_
    (case side1 => exact z1_ HR517_4)
    (case side2 => exact HC517_4.out)
    (case side3 => exact z1_ HR518_4)
    (case side4 => exact HC518_4.out)
    rintro e w12 ⟨rfl,hb⟩
    refine ⟨_,rfl,?_⟩
    replace HB:=ak (below_step Hd.b_ hb)
    try clear hb;try clear hb2;try clear hk;try clear hi
    refine hK.out _ _ ⟨((HB.out.cell (World.block_lt_of_cell? w _ hw517_0)).trans hw517_0),((HB.out.cell (World.block_lt_of_cell? w _ hw517_1)).trans hw517_1),((HB.out.cell (World.block_lt_of_cell? w _ hw517_2)).trans hw517_2),((HB.out.cell (World.block_lt_of_cell? w _ hw517_3)).trans hw517_3),((HB.out.cell (World.block_lt_of_cell? w _ hw517_4)).trans hw517_4),((HB.out.cell (World.block_lt_of_cell? w _ hw518_0)).trans hw518_0),((HB.out.cell (World.block_lt_of_cell? w _ hw518_1)).trans hw518_1),((HB.out.cell (World.block_lt_of_cell? w _ hw518_2)).trans hw518_2),((HB.out.cell (World.block_lt_of_cell? w _ hw518_3)).trans hw518_3),((HB.out.cell (World.block_lt_of_cell? w _ hw518_4)).trans hw518_4)⟩ (fun hHeld => ?_)
    clear hK K
    refine Hd.n_ (some 25) ?_
    refine Hd.p_ HT_ 9 (some 26) #[Y_,Y_,Y_,Y_,Y_,Y_,Y_,Y_,Y_,Y_] ?_
    refine done_ (done_of HT_.out (by kernel_rfl)) ?_
    try go_wp2
    go_ret
    exact ⟨Hd.e_,Hd.b_⟩
   subst c8
   rw [if_pos rfl] at H
   have H':=ak H
   clear H
   try go_wp2
   replace HB:=ak (below_drew1 HB.out)
   have p517 : 0 ≤ (x5_1 : Int):=of_decide_eq_true Hd.a_
   have q517 : x5_1 < (l0.length : Int):=of_decide_eq_true Hd.a_
   obtain ⟨ad517,A517_4,c517_4,e517,hx517_0,hx517_1,hx517_2,hx517_3,hx517_4,hl517_4,hi517_4⟩:=at_T34 HR0.out x5_1 p517 q517
   have hw517_4:=hx517_4
   have hw517_3:=hx517_3
   have hw517_2:=hx517_2
   have hw517_1:=hx517_1
   have hw517_0:=hx517_0
   cases e517
   replace hx517_0:=(HB.out.cell (World.block_lt_of_cell? w _ hx517_0)).trans hx517_0
   replace hx517_1:=(HB.out.cell (World.block_lt_of_cell? w _ hx517_1)).trans hx517_1
   replace hx517_2:=(HB.out.cell (World.block_lt_of_cell? w _ hx517_2)).trans hx517_2
   replace hx517_3:=(HB.out.cell (World.block_lt_of_cell? w _ hx517_3)).trans hx517_3
   replace hx517_4:=(HB.out.cell (World.block_lt_of_cell? w _ hx517_4)).trans hx517_4
   have HR517_4:=ak hi517_4
   have HC517_4:=ak hl517_4
   clear hi517_4 hl517_4
   replace p517:=eq_true p517
   replace q517:=eq_true q517
   have p518 : 0 ≤ (x5_1 : Int):=of_decide_eq_true Hd.a_
   have q518 : x5_1 < (l1.length : Int):=of_decide_eq_true Hd.a_
   obtain ⟨ad518,A518_4,c518_4,e518,hx518_0,hx518_1,hx518_2,hx518_3,hx518_4,hl518_4,hi518_4⟩:=at_T34 HR1.out x5_1 p518 q518
   have hw518_4:=hx518_4
   have hw518_3:=hx518_3
   have hw518_2:=hx518_2
   have hw518_1:=hx518_1
   have hw518_0:=hx518_0
   cases e518
   replace hx518_0:=(HB.out.cell (World.block_lt_of_cell? w _ hx518_0)).trans hx518_0
   replace hx518_1:=(HB.out.cell (World.block_lt_of_cell? w _ hx518_1)).trans hx518_1
   replace hx518_2:=(HB.out.cell (World.block_lt_of_cell? w _ hx518_2)).trans hx518_2
   replace hx518_3:=(HB.out.cell (World.block_lt_of_cell? w _ hx518_3)).trans hx518_3
   replace hx518_4:=(HB.out.cell (World.block_lt_of_cell? w _ hx518_4)).trans hx518_4
   have HR518_4:=ak hi518_4
   have HC518_4:=ak hl518_4
   clear hi518_4 hl518_4
   replace p518:=eq_true p518
   replace q518:=eq_true q518
   refine start_ (n:=10) (S:=fun w' => w'.cell? (ad517.add ((x5_1).toNat * 5)) = some (.int .i64 ((rd_T34 l0 x5_1).f0)) ∧ w'.cell? ⟨(ad517.add ((x5_1).toNat * 5)).block,(ad517.add ((x5_1).toNat * 5)).off + 1,none⟩ = some (.int .i64 ((rd_T34 l0 x5_1).f1)) ∧ w'.cell? ⟨(ad517.add ((x5_1).toNat * 5)).block,(ad517.add ((x5_1).toNat * 5)).off + 2,none⟩ = some (.int .i64 ((rd_T34 l0 x5_1).f2)) ∧ w'.cell? ⟨(ad517.add ((x5_1).toNat * 5)).block,(ad517.add ((x5_1).toNat * 5)).off + 3,none⟩ = some (.string ((rd_T34 l0 x5_1).f3)) ∧ w'.cell? ⟨(ad517.add ((x5_1).toNat * 5)).block,(ad517.add ((x5_1).toNat * 5)).off + 4,none⟩ = some (.slice A517_4 ((rd_T34 l0 x5_1).f4).length c517_4) ∧ w'.cell? (ad518.add ((x5_1).toNat * 5)) = some (.int .i64 ((rd_T34 l1 x5_1).f0)) ∧ w'.cell? ⟨(ad518.add ((x5_1).toNat * 5)).block,(ad518.add ((x5_1).toNat * 5)).off + 1,none⟩ = some (.int .i64 ((rd_T34 l1 x5_1).f1)) ∧ w'.cell? ⟨(ad518.add ((x5_1).toNat * 5)).block,(ad518.add ((x5_1).toNat * 5)).off + 2,none⟩ = some (.int .i64 ((rd_T34 l1 x5_1).f2)) ∧ w'.cell? ⟨(ad518.add ((x5_1).toNat * 5)).block,(ad518.add ((x5_1).toNat * 5)).off + 3,none⟩ = some (.string ((rd_T34 l1 x5_1).f3)) ∧ w'.cell? ⟨(ad518.add ((x5_1).toNat * 5)).block,(ad518.add ((x5_1).toNat * 5)).off + 4,none⟩ = some (.slice A518_4 ((rd_T34 l1 x5_1).f4).length c518_4)) (ds:=[]) #[N_,N_,N_,N_,N_,N_,N_,N_,N_,N_] (by kernel_rfl) rfl rfl ⟨((HB.out.cell (World.block_lt_of_cell? w _ hw517_0)).trans hw517_0),((HB.out.cell (World.block_lt_of_cell? w _ hw517_1)).trans hw517_1),((HB.out.cell (World.block_lt_of_cell? w _ hw517_2)).trans hw517_2),((HB.out.cell (World.block_lt_of_cell? w _ hw517_3)).trans hw517_3),((HB.out.cell (World.block_lt_of_cell? w _ hw517_4)).trans hw517_4),((HB.out.cell (World.block_lt_of_cell? w _ hw518_0)).trans hw518_0),((HB.out.cell (World.block_lt_of_cell? w _ hw518_1)).trans hw518_1),((HB.out.cell (World.block_lt_of_cell? w _ hw518_2)).trans hw518_2),((HB.out.cell (World.block_lt_of_cell? w _ hw518_3)).trans hw518_3),((HB.out.cell (World.block_lt_of_cell? w _ hw518_4)).trans hw518_4)⟩ (fun hHeld => ?_);refine with_tabW laws_eqFeatureS.tab6 laws_eqFeatureS.bits6 (fun HT_ HW_ => ?_)
   generalize wr.drew = w9 at HB HR517_4 HR518_4 hx517_0 hx517_1 hx517_2 hx517_3 hx517_4 hx518_0 hx518_1 hx518_2 hx518_3 hx518_4 hHeld ⊢
   refine Hd.p_ HT_ 0 (some 17) #[Y_,N_,N_,N_,N_,N_,N_,N_,N_,N_] ?_
   refine Hd.p_ HT_ 1 (some 18) #[Y_,Y_,N_,N_,N_,N_,N_,N_,N_,N_] ?_
   refine Hd.p_ HT_ 2 (some 19) #[Y_,Y_,Y_,N_,N_,N_,N_,N_,N_,N_] ?_
   refine Hd.p_ HT_ 4 (some 21) #[Y_,Y_,Y_,N_,Y_,N_,N_,N_,N_,N_] ?_
   refine Hd.p_ HT_ 5 (some 22) #[Y_,Y_,Y_,N_,Y_,Y_,N_,N_,N_,N_] ?_
   refine Hd.p_ HT_ 6 (some 23) #[Y_,Y_,Y_,N_,Y_,Y_,Y_,N_,N_,N_] ?_
   refine Hd.t_ HT_ HW_ hHeld 3 (some 20) #[Y_,Y_,Y_,Y_,Y_,Y_,Y_,N_,N_,N_] ?_
   refine Hd.t_ HT_ HW_ hHeld 7 (some 24) #[Y_,Y_,Y_,Y_,Y_,Y_,Y_,Y_,N_,N_] ?_
   refine Hd.o_ HT_ 8 (some 25) #[Y_,Y_,Y_,Y_,Y_,Y_,Y_,Y_,Y_,N_] (fun K hK => ?_)
   refine goes_ Try.func14 (by kernel_rfl) rfl #[.agg #[.int .i64 ((rd_T34 l0 x5_1).f0),.int .i64 ((rd_T34 l0 x5_1).f1),.int .i64 ((rd_T34 l0 x5_1).f2),.string ((rd_T34 l0 x5_1).f3),.slice A517_4 ((rd_T34 l0 x5_1).f4).length c517_4],.agg #[.int .i64 ((rd_T34 l1 x5_1).f0),.int .i64 ((rd_T34 l1 x5_1).f1),.int .i64 ((rd_T34 l1 x5_1).f2),.string ((rd_T34 l1 x5_1).f3),.slice A518_4 ((rd_T34 l1 x5_1).f4).length c518_4]] (by rfl) rfl rfl Hd.m_ ?_
   with_reducible refine (laws_eqFeature.calls k1 ((rd_T34 l0 x5_1).f0) ((rd_T34 l0 x5_1).f1) ((rd_T34 l0 x5_1).f2) ((rd_T34 l0 x5_1).f3) _ _ ((rd_T34 l0 x5_1).f4) ((rd_T34 l1 x5_1).f0) ((rd_T34 l1 x5_1).f1) ((rd_T34 l1 x5_1).f2) ((rd_T34 l1 x5_1).f3) _ _ ((rd_T34 l1 x5_1).f4) true _ ?side1 ?side2 ?side3 ?side4 A7.out).mono ?_
   (case side1 => exact z1_ HR517_4)
   (case side2 => exact HC517_4.out)
   (case side3 => exact z1_ HR518_4)
   (case side4 => exact HC518_4.out)
   rintro e w10 ⟨rfl,hb⟩
   refine ⟨_,rfl,?_⟩
   replace HB:=ak (below_step Hd.b_ hb)
   try clear hb;try clear hb2;try clear hk;try clear hi
   refine hK.out _ _ ⟨((HB.out.cell (World.block_lt_of_cell? w _ hw517_0)).trans hw517_0),((HB.out.cell (World.block_lt_of_cell? w _ hw517_1)).trans hw517_1),((HB.out.cell (World.block_lt_of_cell? w _ hw517_2)).trans hw517_2),((HB.out.cell (World.block_lt_of_cell? w _ hw517_3)).trans hw517_3),((HB.out.cell (World.block_lt_of_cell? w _ hw517_4)).trans hw517_4),((HB.out.cell (World.block_lt_of_cell? w _ hw518_0)).trans hw518_0),((HB.out.cell (World.block_lt_of_cell? w _ hw518_1)).trans hw518_1),((HB.out.cell (World.block_lt_of_cell? w _ hw518_2)).trans hw518_2),((HB.out.cell (World.block_lt_of_cell? w _ hw518_3)).trans hw518_3),((HB.out.cell (World.block_lt_of_cell? w _ hw518_4)).trans hw518_4)⟩ (fun hHeld => ?_)
   clear hK K
   refine Hd.n_ (some 25) ?_
   refine Hd.p_ HT_ 9 (some 26) #[Y_,Y_,Y_,Y_,Y_,Y_,Y_,Y_,Y_,Y_] ?_
   refine done_ (done_of HT_.out (by kernel_rfl)) ?_
   try go_wp2
   go_roundg k1
   case measure => have:=HK1.out;omega
   case rel => exact ⟨(wrap64 (x5_1 + 1)),z2_,H',⟨by have:=HK1.out;omega⟩,⟨Hd.b_⟩⟩
def laws_markText.l0 : Nat → Int → ByteArray → Option (ByteArray)
 | 0,_,_ => none
 | k + 1,x0,x3 => if x0 > 0 then ((some (([(wrap64 (48 + (Int.tmod x0 10))) % 256] : List Int) : List Int)).bind fun y520 => (if (strOfNums y520).size + x3.size ≤ 9223372036854775807 then (laws_markText.l0 k (wrap64 (Int.tdiv x0 10)) ((strOfNums y520) ++ x3)) else (none))) else (if 1 + x3.size ≤ 9223372036854775807 then (some ((⟨#[109]⟩ : ByteArray) ++ x3)) else (none))
def laws_markText.f (k : Nat) (a0 : Int) : Option (ByteArray):=if a0 ≤ 0 then (some (⟨#[109,48]⟩ : ByteArray)) else (laws_markText.l0 k a0 (⟨#[]⟩ : ByteArray))
theorem laws_markText.calls (k : Nat) (a0 : Int) (r : ByteArray) (w : World) (h : laws_markText.f k a0 = some r) :
  Calls Try.prog 42 #[.int .i64 a0] w fun e w' => e = .returned (.string r) ∧ Below w.heap.size w w':=by
 have HB:=ak (Below.refl w.heap.size w)
 have H:=h;clear h;unfold laws_markText.f at H
 by_cases c2 : a0 ≤ 0
 ·
  rw [if_pos c2] at H
  have c2b0:=decide_eq_true c2
  clear c2
  obtain rfl:=Option.some.inj H
  go_enter Try.func42,Try.ntmps42
  go_wp2
  go_ret
  exact ⟨Hd.e_,Hd.b_⟩
 rw [if_neg c2] at H
 have c2b0:=decide_eq_false c2
 clear c2
 have H':=ak H
 clear H
 go_enter Try.func42,Try.ntmps42
 go_wp2
 go_loopg [0,3] k (fun kq v0 v3 w' => ∃ (x0_1 : Int) (x3_1 : ByteArray),v0 = .int .i64 x0_1 ∧ v3 = .string x3_1 ∧ Aside0 (laws_markText.l0 kq x0_1 x3_1 = some r) ∧ Aside0 (kq ≤ k) ∧ Aside0 (Below w.heap.size w w'))
 case atStart => exact ⟨(a0),((⟨#[]⟩ : ByteArray)),z2_,z2_,H',⟨Nat.le_refl _⟩,⟨Hd.b_⟩⟩
 case round =>
  clear H'
  try clear c2;try clear c2b0;try clear p2
  obtain ⟨x0_1,x3_1,rfl,rfl,HA,HK1,HB⟩:=hrel
  cases gk with
  | zero => exact absurd HA.out (by simp [laws_markText.l0])
  | succ k1 =>
   have H:=HA.out
   clear HA
   simp only [laws_markText.l0] at H
   by_cases c3 : x0_1 > 0;rotate_left
   ·
    rw [if_neg c3] at H
    have c3b0 : decide (0 < x0_1) = false:=decide_eq_false c3
    clear c3
    by_cases c8 : 1 + x3_1.size ≤ 9223372036854775807;rotate_left
    ·
     rw [if_neg c8] at H
     exact absurd H (by simp)
    rw [if_pos c8] at H
    have c8b0:=eq_true c8
    have c8b1:=decide_eq_true c8
    try have c8b2 : (9223372036854775807 < 1 + x3_1.size) = False:=eq_false (Nat.not_lt.2 c8)
    obtain rfl:=Option.some.inj H
    go_wp2
    go_ret
    exact ⟨Hd.e_,Hd.b_⟩
   rw [if_pos c3] at H
   have c3b0 : decide (0 < x0_1) = true:=decide_eq_true c3
   clear c3
   generalize hy520 : (([(wrap64 (48 + (Int.tmod x0_1 10))) % 256] : List Int)) = y520 at H;have Ny520:=ak hy520.symm;clear hy520;try rw [Option.bind_some] at H
   by_cases c4 : (strOfNums y520).size + x3_1.size ≤ 9223372036854775807;rotate_left
   ·
    rw [if_neg c4] at H
    exact absurd H (by simp)
   rw [if_pos c4] at H
   have c4b0:=eq_true c4
   have c4b1:=decide_eq_true c4
   try have c4b2 : (9223372036854775807 < (strOfNums y520).size + x3_1.size) = False:=eq_false (Nat.not_lt.2 c4)
   have H':=ak H
   clear H
   go_wp2_with (first | ((with_reducible refine gate_dst (N:=12) rfl ?_);refine Kd.R_lit (Kd.int .u8) _ 5 ?hg (N:=12) ?hd (xs:=([(wrap64 (48 + (Int.tmod x0_1 10))) % 256] : List Int)) (inner:=[.int .u8 ((wrap64 (48 + (Int.tmod x0_1 10))) % 256)]) (ok:=fun _ => True) (okp:=fun _ => True) ?hr ?hp (fun _ hk => hk) trivial (Below.refl _ _) (Nat.le_refl _) (by simp) ?_;(case hd => rfl);(case hg => rfl);(case hr => exact z24_);(case hp => exact (Reps.one (show Kd.M (Kd.int .u8) _ _ _ ((wrap64 (48 + (Int.tmod x0_1 10))) % 256) [.int .u8 ((wrap64 (48 + (Int.tmod x0_1 10))) % 256)] from rfl) (Reps.none _ _)));intro v521 w5 ho6 hb hg_ hnew_;clear hg_ hnew_;(first | rw [← Ny520.out] at ho6 | (simp only [Int.reduceToNat] at ho6;rw [← Ny520.out] at ho6));have HO522:=ak (Kd.R_lower ho6 (below_size Hd.b_));replace HB:=ak (below_step Hd.b_ hb);clear hb ho6;have hcv7:=own_string (P:=Try.prog) Try.underlying41 Try.underlying5 Try.underlying9 (Kd.own_of_R HO522.out)))
   go_roundg k1
   case measure => have:=HK1.out;omega
   case rel => exact ⟨(wrap64 (Int.tdiv x0_1 10)),((strOfNums y520) ++ x3_1),z2_,z2_,H',⟨by have:=HK1.out;omega⟩,⟨Hd.b_⟩⟩
def laws_markPointS.l0 : Nat → List (S75) → Int → Int → Option (Int × (List (S75)))
 | 0,_,_,_ => none
 | k + 1,x0,x1,x5 => if x5 < (x0.length : Int) then (if 0 ≤ x5 then ((some (x0.set (x5 : Int).toNat (⟨x1,(rd_T75 x0 x5).f1⟩ : S75) : List (S75))).bind fun y523 => (laws_markPointS.l0 k (y523.set (x5 : Int).toNat (⟨(rd_T75 y523 x5).f0,wrap64 (x1 + 1)⟩ : S75)) (wrap64 ((wrap64 (x1 + 1)) + 1)) (wrap64 (x5 + 1)))) else (none)) else (some (x1,x0))
def laws_markPointS.f (k : Nat) (l0 : List (S75)) (a1 : Int) : Option (Int × (List (S75))):=laws_markPointS.l0 k l0 a1 0
theorem laws_markPointS.calls (k : Nat) (P0_ : Nat → Prop) (u9000_ : Value) (l0 : List (S75)) (a1 : Int) (r1 : Int) (r2 : List (S75)) (w0 w : World) (hB : Below w0.heap.size w0 w) (ho0 : Kd.R k75 75 w w0.heap.size P0_ u9000_ l0) (h : laws_markPointS.f k l0 a1 = some (r1,r2)) :
  Calls Try.prog 43 #[u9000_,.int .i64 a1] w fun e w' => e = .returned (.int .i64 r1) ∧ Kd.R k75 75 w' w0.heap.size (fun k_ => (P0_ k_ ∨ w.heap.size ≤ k_)) u9000_ r2 ∧ Below w0.heap.size w0 w' ∧ Kept w w' (fun k_ => P0_ k_):=by
 have HO0:=ak (show Kd.R k75 75 w w0.heap.size (fun k_ => (P0_ k_ ∨ w.heap.size ≤ k_)) u9000_ l0 from Kd.R_mono ho0 (fun k_ hk => (.inl hk)))
 have HK:=ak (Kept.refl w (fun k_ => P0_ k_))
 have HW0:=ak hB.size
 have HB:=ak hB
 clear hB
 have H:=h;clear h;unfold laws_markPointS.f at H
 have H':=ak H
 clear H
 go_enter Try.func43,Try.ntmps43
 go_wp2
 go_loopg [1,5] k (fun kq v1 v5 w' => ∃ (x0_1 : List (S75)) (x1_1 : Int) (x5_1 : Int),v1 = .int .i64 x1_1 ∧ v5 = .int .i64 x5_1 ∧ Aside0 (laws_markPointS.l0 kq x0_1 x1_1 x5_1 = some (r1,r2)) ∧ Aside0 (kq ≤ k) ∧ Aside0 (Kd.R k75 75 w' w0.heap.size (fun k_ => (P0_ k_ ∨ w.heap.size ≤ k_)) u9000_ x0_1) ∧ Aside0 (Kept w w' (fun k_ => P0_ k_)) ∧ Aside0 (Below w0.heap.size w0 w'))
 case atStart => exact ⟨(l0),(a1),(0),z2_,z2_,H',⟨Nat.le_refl _⟩,⟨z4_ HO0⟩,⟨z26_⟩,⟨Hd.b_⟩⟩
 case round =>
  clear H'
  try clear p2
  obtain ⟨x0_1,x1_1,x5_1,rfl,rfl,HA,HK1,HO_0,HK,HB⟩:=hrel
  cases gk with
  | zero => exact absurd HA.out (by simp [laws_markPointS.l0])
  | succ k1 =>
   have H:=HA.out
   clear HA
   simp only [laws_markPointS.l0] at H
   by_cases c3 : x5_1 < (x0_1.length : Int);rotate_left
   ·
    rw [if_neg c3] at H
    have c3b0:=decide_eq_false c3
    clear c3
    simp only [Option.some.injEq,Prod.mk.injEq] at H
    obtain ⟨rfl,rfl⟩:=H
    obtain ⟨Ao12,co12,eo12⟩:=Kd.R_slice HO_0.out
    subst eo12
    go_wp2
    go_ret
    exact ⟨Hd.e_,z4_ HO_0,Hd.b_,z26_⟩
   rw [if_pos c3] at H
   have c3b0:=decide_eq_true c3
   clear c3
   by_cases c4 : 0 ≤ x5_1;rotate_left
   ·
    rw [if_neg c4] at H
    exact absurd H (by simp)
   rw [if_pos c4] at H
   have c4b0:=decide_eq_true c4
   clear c4
   generalize hy523 : (x0_1.set (x5_1 : Int).toNat (⟨x1_1,(rd_T75 x0_1 x5_1).f1⟩ : S75)) = y523 at H;have Ny523:=ak hy523.symm;clear hy523;try rw [Option.bind_some] at H
   generalize hy524 : (y523.set (x5_1 : Int).toNat (⟨(rd_T75 y523 x5_1).f0,wrap64 (x1_1 + 1)⟩ : S75)) = y524 at H;have Ny524:=ak hy524.symm;clear hy524;try rw [Option.bind_some] at H
   have H':=ak H
   clear H
   obtain ⟨Ao7,co7,eo7⟩:=Kd.R_slice HO_0.out
   subst eo7
   have p5 : 0 ≤ (x5_1 : Int):=of_decide_eq_true Hd.a_
   have q5 : (x5_1 : Int) < ((x0_1.length : Int) : Int):=of_decide_eq_true Hd.a_
   obtain ⟨go5,co5,eo5,gb5,gl5,cl5,HG5⟩:=Kd.R_form HO_0.out (by omega)
   (first | cases eo5 | (injection eo5 with ea_ en_ ec_;(first | subst ea_ | (injection ea_ with ea_;subst ea_));subst ec_;clear en_))
   have GB5:=ak gb5
   have GG5:=ak HG5
   clear gb5 gl5 HG5
   have HMgo5:=ak (show (P0_ go5 ∨ w.heap.size ≤ go5) from (HO_0.out.1 _ rfl))
   obtain ⟨ce5,hcl5,hM5,hcc5,hfr5⟩:=Kd.R_elem HO_0.out z75 (x5_1 : Int) p5 q5
   obtain rfl:=k75_openM hM5
   have hx5_0 : wr.cell? ⟨go5,(x5_1 : Int).toNat * 2,none⟩ = some (.int .i64 ((rd_T75 x0_1 x5_1).f0)):=hcc5 0 _ rfl
   have hx5_1 : wr.cell? ⟨go5,(x5_1 : Int).toNat * 2 + 1,none⟩ = some (.int .i64 ((rd_T75 x0_1 x5_1).f1)):=hcc5 1 _ rfl
   have hf5_0 : wr.frozen? ⟨go5,(x5_1 : Int).toNat * 2,none⟩ = false:=hfr5 0
   have hf5_1 : wr.frozen? ⟨go5,(x5_1 : Int).toNat * 2 + 1,none⟩ = false:=hfr5 1
   clear hcl5 hcc5 hfr5 hM5
   replace p5:=eq_true p5
   replace q5:=eq_true q5
   have HX8:=ak (show Kd.R k75 75 wr w0.heap.size (fun k_ => (P0_ k_ ∨ w.heap.size ≤ k_)) (.slice (some ⟨go5,0,none⟩) x0_1.length co7) x0_1 from (Hd.r_ HO_0))
   obtain ⟨ce8,hcl8,hM8,hcc8,hfr8⟩:=Kd.R_elem HX8.out z75 (x5_1 : Int) (of_decide_eq_true Hd.a_) (by have h_ : (x5_1 : Int) < ((x0_1.length : Int) : Int):=of_decide_eq_true Hd.a_;first | exact h_ | (have e_:=(Kd.R_reads' HO_0.out).1;omega) | simpa using h_)
   obtain rfl:=k75_openM hM8
   have HP8:=Kd.R_seg HX8.out (x5_1 : Int) (of_decide_eq_true Hd.a_) (by have h_ : (x5_1 : Int) < ((x0_1.length : Int) : Int):=of_decide_eq_true Hd.a_;first | exact h_ | (have e_:=(Kd.R_reads' HO_0.out).1;omega) | simpa using h_) (seg:=[.int .i64 x1_1]) (j:=0) hcl8 hcc8 (show 1 ≤ 2 from by decide) (x':=(⟨x1_1,(rd_T75 x0_1 x5_1).f1⟩ : S75)) (k75_mkM _ _ _ (⟨x1_1,(rd_T75 x0_1 x5_1).f1⟩ : S75) ) (fun _ hk => hk)
   have hx8_0:=hcc8 0 _ rfl
   (try simp only [show (k75).sz = 2 from rfl,Nat.mul_one,Nat.add_zero] at hx8_0)
   have hf8_0:=hfr8 0
   (try simp only [show (k75).sz = 2 from rfl,Nat.mul_one,Nat.add_zero] at hf8_0)
   clear hcl8 hcc8 hfr8 hM8
   go_wp2_with (first | ((with_reducible refine gate_store (t:=3) (p:=16) rfl ?_);refine store_event (t:=3) (p:=16) (v:=?vo_w9) (w1:=(wr.setCell ⟨go5,(x5_1 : Int).toNat * 2,none⟩ (.int .i64 x1_1))) ?hg ?ho ?hn ?hr ?_;(case ho => rfl);(case hg => rfl);(case hn => rfl);(case hr => exact z24_);intro w9 hw;have hg : wr.grownBy w9 (some go5):=(by rw [hw];exact HP8.2);have hp_ : Kd.R k75 75 w9 w0.heap.size (fun k_ => (P0_ k_ ∨ w.heap.size ≤ k_)) (.slice (some ⟨go5,0,none⟩) x0_1.length co7) y523:=(by rw [hw,Ny523.out];exact HP8.1);clear HP8;replace HB:=ak ((by rw [hw];exact below_set (HB.out) GB5.out : Below w0.heap.size w0 w9));replace HK:=ak (Kept.of_grown (S:=(fun k_ => P0_ k_)) hg z26_ (fun k_ e_ => (HO_0.out.1 k_ e_)));replace HO_0:=ak (hp_);clear hg hw hp_;have p6 : 0 ≤ (x5_1 : Int):=of_decide_eq_true Hd.a_;have q6 : (x5_1 : Int) < ((x0_1.length : Int) : Int):=of_decide_eq_true Hd.a_;obtain ⟨ce6,hcl6,hM6,hcc6,hfr6⟩:=Kd.R_elem HO_0.out z75 (x5_1 : Int) p6 q6;obtain rfl:=k75_openM hM6;have hx6_0 : w9.cell? ⟨go5,(x5_1 : Int).toNat * 2,none⟩ = some (.int .i64 ((rd_T75 y523 x5_1).f0)):=hcc6 0 _ rfl;have hx6_1 : w9.cell? ⟨go5,(x5_1 : Int).toNat * 2 + 1,none⟩ = some (.int .i64 ((rd_T75 y523 x5_1).f1)):=hcc6 1 _ rfl;have hf6_0 : w9.frozen? ⟨go5,(x5_1 : Int).toNat * 2,none⟩ = false:=hfr6 0;have hf6_1 : w9.frozen? ⟨go5,(x5_1 : Int).toNat * 2 + 1,none⟩ = false:=hfr6 1;clear hcl6 hcc6 hfr6 hM6;replace p6:=eq_true p6;replace q6:=eq_true q6;have HX10:=ak (show Kd.R k75 75 w9 w0.heap.size (fun k_ => (P0_ k_ ∨ w.heap.size ≤ k_)) (.slice (some ⟨go5,0,none⟩) x0_1.length co7) y523 from (Hd.r_ HO_0));obtain ⟨ce10,hcl10,hM10,hcc10,hfr10⟩:=Kd.R_elem HX10.out z75 (x5_1 : Int) (of_decide_eq_true Hd.a_) (by have h_ : (x5_1 : Int) < ((x0_1.length : Int) : Int):=of_decide_eq_true Hd.a_;first | exact h_ | (have e_:=(Kd.R_reads' HO_0.out).1;omega) | simpa using h_);obtain rfl:=k75_openM hM10;have HP10:=Kd.R_seg HX10.out (x5_1 : Int) (of_decide_eq_true Hd.a_) (by have h_ : (x5_1 : Int) < ((x0_1.length : Int) : Int):=of_decide_eq_true Hd.a_;first | exact h_ | (have e_:=(Kd.R_reads' HO_0.out).1;omega) | simpa using h_) (seg:=[.int .i64 (wrap64 (x1_1 + 1))]) (j:=1) hcl10 hcc10 (show 2 ≤ 2 from by decide) (x':=(⟨(rd_T75 y523 x5_1).f0,wrap64 (x1_1 + 1)⟩ : S75)) (k75_mkM _ _ _ (⟨(rd_T75 y523 x5_1).f0,wrap64 (x1_1 + 1)⟩ : S75) ) (fun _ hk => hk);have hx10_1:=hcc10 1 _ rfl;(try simp only [show (k75).sz = 2 from rfl,Nat.mul_one,Nat.add_zero] at hx10_1);have hf10_1:=hfr10 1;(try simp only [show (k75).sz = 2 from rfl,Nat.mul_one,Nat.add_zero] at hf10_1);clear hcl10 hcc10 hfr10 hM10) | ((with_reducible refine gate_store (t:=3) (p:=23) rfl ?_);refine store_event (t:=3) (p:=23) (v:=?vo_w11) (w1:=(w9.setCell ⟨go5,(x5_1 : Int).toNat * 2 + 1,none⟩ (.int .i64 (wrap64 (x1_1 + 1))))) ?hg ?ho ?hn ?hr ?_;(case ho => rfl);(case hg => rfl);(case hn => rfl);(case hr => exact z24_);intro w11 hw;have hg : w9.grownBy w11 (some go5):=(by rw [hw];exact HP10.2);have hp_ : Kd.R k75 75 w11 w0.heap.size (fun k_ => (P0_ k_ ∨ w.heap.size ≤ k_)) (.slice (some ⟨go5,0,none⟩) x0_1.length co7) y524:=(by rw [hw,Ny524.out];exact HP10.1);clear HP10;replace HB:=ak ((by rw [hw];exact below_set (HB.out) GB5.out : Below w0.heap.size w0 w11));replace HK:=ak (Kept.of_grown (S:=(fun k_ => P0_ k_)) hg z26_ (fun k_ e_ => (HO_0.out.1 k_ e_)));replace HO_0:=ak (hp_);clear hg hw hp_))
   go_roundg k1
   case measure => have:=HK1.out;omega
   case rel => exact ⟨(y524),(wrap64 ((wrap64 (x1_1 + 1)) + 1)),(wrap64 (x5_1 + 1)),z2_,z2_,H',⟨by have:=HK1.out;omega⟩,⟨z4_ HO_0⟩,⟨z26_⟩,⟨Hd.b_⟩⟩
theorem laws_markFeatureS.cells {α : Type} {d : Kd α} {e : Nat} {W : World} {base g n cap : Nat} {ok oki : Nat → Prop} {xs : List α} {i : Int} {c : List Value} (h : Kd.H d e W base ok (.slice (some ⟨g,0,none⟩) n cap) xs i oki c) (h0 : 0 ≤ i) (h1 : i < n) :
    (∀ j u,c[j]? = some u → W.cell? ⟨g,i.toNat * d.sz + j,none⟩ = some u) ∧ (∀ j,W.frozen? ⟨g,j,none⟩ = false):=by
  obtain ⟨rows,_,hR,_,_,hc,_⟩:=Kd.H_raw h h0 h1
  refine ⟨hc,fun j => ?_⟩
  obtain ⟨cells,hb⟩:=Kd.R_typed hR g rfl
  exact blk_frozen hb j
def laws_markFeatureS.l0 : Nat → List S34 → Int → Int → Option (Int × List S34)
  | 0,_,_,_ => none
  | k + 1,x0,x1,x5 => if x5 < (x0.length : Int) then (if 0 ≤ x5 then ((laws_markText.f k (wrap64 (wrap64 (wrap64 (x1 + 1) + 1) + 1))).bind fun tx => ((laws_markPointS.f k (x0.getD x5.toNat z34).f4 (wrap64 (wrap64 (wrap64 (wrap64 (x1 + 1) + 1) + 1) + 1))).bind fun bt => (laws_markFeatureS.l0 k (x0.set x5.toNat ⟨x1,wrap64 (x1 + 1),wrap64 (wrap64 (x1 + 1) + 1),tx,bt.2⟩) bt.1 (wrap64 (x5 + 1))))) else none) else some (x1,x0)
def laws_markFeatureS.f (k : Nat) (l0 : List S34) (a1 : Int) : Option (Int × List S34):=laws_markFeatureS.l0 k l0 a1 0
theorem laws_markFeatureS.calls (k : Nat) (P0_ : Nat → Prop) (u : Value) (l0 : List S34) (a1 r1 : Int) (r2 : List S34) (w0 w : World) (hB : Below w0.heap.size w0 w) (ho0 : Kd.S k34 34 w w0.heap.size P0_ u l0) (h : laws_markFeatureS.f k l0 a1 = some (r1,r2)) :
    Calls Try.prog 15 #[u,.int .i64 a1] w fun e w' => e = .returned (.int .i64 r1) ∧ Below w0.heap.size w0 w' ∧ Kept w w' P0_ ∧ Kd.S k34 34 w' w0.heap.size P0_ u r2:=by
  obtain ⟨A,c,rfl⟩:=Kd.S_slice ho0
  have HO:=ak ho0
  have HB:=ak hB
  have HK:=ak (Kept.refl w P0_)
  have H':=ak (show laws_markFeatureS.l0 k l0 a1 0 = some (r1,r2) from h)
  clear h ho0 hB
  go_enter Try.func15,Try.ntmps15
  go_wp2
  go_loopg [1,5] k (fun kq v1 v5 w' => ∃ (x0_1 : List S34) (x1_1 : Int) (x5_1 : Int),v1 = .int .i64 x1_1 ∧ v5 = .int .i64 x5_1 ∧ Aside0 (laws_markFeatureS.l0 kq x0_1 x1_1 x5_1 = some (r1,r2)) ∧ Aside0 (kq ≤ k) ∧ Aside0 (Kd.S k34 34 w' w0.heap.size P0_ (.slice A l0.length c) x0_1) ∧ Aside0 (Kept w w' P0_) ∧ Aside0 (Below w0.heap.size w0 w'))
  case atStart => exact ⟨l0,a1,0,rfl,rfl,H',⟨Nat.le_refl _⟩,HO,HK,HB⟩
  case round =>
    clear H' HO HK HB
    obtain ⟨x0_1,x1_1,x5_1,rfl,rfl,HA,HK1,HO,HK,HB⟩:=hrel
    cases gk with
    | zero => exact absurd HA.out (by simp [laws_markFeatureS.l0])
    | succ k1 =>
      have H:=HA.out
      clear HA
      simp only [laws_markFeatureS.l0] at H
      have hlen:=(Kd.S_reads' HO.out).1
      rw [← hlen] at H
      by_cases c3 : x5_1 < (l0.length : Int)
      · rw [if_pos c3] at H
        by_cases c4 : 0 ≤ x5_1
        · rw [if_pos c4] at H
          obtain ⟨tx,ht1,H⟩:=Option.bind_eq_some_iff.1 H
          obtain ⟨bt,hb1,H⟩:=Option.bind_eq_some_iff.1 H
          obtain ⟨g,cap,he,hge,hgl,_⟩:=Kd.S_form HO.out (by omega)
          injection he with hA1 h2_ h3_
          clear h2_ h3_
          subst hA1
          have hPg : P0_ g:=(Kd.S_R HO.out).1 g rfl
          obtain ⟨oki,cs,hcl,hM,_,hoki,hH⟩:=Kd.S_lend HO.out z34 x5_1 c4 c3
          generalize x0_1.getD x5_1.toNat z34 = xi at hb1 hM
          obtain ⟨v,rfl,hR⟩:=k34_openM hM
          obtain ⟨Ai,ci,rfl⟩:=Kd.R_slice hR
          have CF:=laws_markFeatureS.cells hH c4 c3
          have hc4:=CF.1 4 _ rfl
          have hc0:=CF.1 0 _ rfl
          have hf0:=CF.2 (x5_1.toNat * 5)
          simp only [show k34.sz = 5 from rfl,Nat.add_zero] at hc0
          have H3:=ak c3
          have H4:=ak c4
          have b3 : decide (x5_1 < (l0.length : Int)) = true:=decide_eq_true c3
          have b4 : decide (0 ≤ x5_1) = true:=decide_eq_true c4
          have b3':=eq_true c3
          have b4':=eq_true c4
          have HR:=ak hR
          have HH:=ak hH
          have HI:=ak hoki
          have HT:=ak ht1
          have H1:=ak hb1
          have H':=ak H
          have HP:=ak hPg
          have HG:=ak hge
          clear c3 c4 hR hH hoki hb1 ht1 H hlen hM CF hc4 hPg hge hgl hcl
          go_wp2_with (first | ((with_reducible refine gate_store (t:=3) (p:=16) rfl ?_);refine store_event (t:=3) (p:=16) (v:=?vo_1) (w1:=(wr.setCell ⟨g,x5_1.toNat * 5,none⟩ (.int .i64 (x1_1)))) ?hg ?ho ?hn ?hr ?_;(case ho => rfl);(case hg => rfl);(case hn => rfl);(case hr => exact z24_);intro wa hw;have X_:=(Kd.H_seg HH.out H4.out H3.out (j:=0) (seg:=[.int .i64 (x1_1)]) (show _ ≤ 5 by exact Nat.le_of_ble_eq_true rfl) (by intro q hq;rw [List.mem_singleton.1 hq];rfl)).1;replace HH:=ak (show Kd.H k34 34 wa w0.heap.size P0_ (.slice (some ⟨g,0,none⟩) l0.length c) x0_1 x5_1 oki [.int .i64 (x1_1),.int .i64 xi.f1,.int .i64 xi.f2,.string xi.f3,.slice Ai xi.f4.length ci] from by rw [hw];exact X_);replace HR:=ak (show Kd.R k75 75 wa w0.heap.size oki (.slice Ai xi.f4.length ci) xi.f4 from by rw [hw];exact Kd.R_far HR.out (fun k hk => (HI.out k hk).2) _);replace HK:=ak (show Kept w wa P0_ from by rw [hw];exact HK.out.setCell (.inl HP.out) _);replace HB:=ak (show Below w0.heap.size w0 wa from by rw [hw];exact below_set HB.out HG.out);clear hw X_ hc0 hf0;have CF:=laws_markFeatureS.cells HH.out H4.out H3.out;have hc1:=CF.1 1 _ rfl;have hf1:=CF.2 (x5_1.toNat * 5 + 1);simp only [show k34.sz = 5 from rfl,Nat.add_zero] at hc1;clear CF) | ((with_reducible refine gate_store (t:=3) (p:=23) rfl ?_);refine store_event (t:=3) (p:=23) (v:=?vo_2) (w1:=(wa.setCell ⟨g,x5_1.toNat * 5 + 1,none⟩ (.int .i64 (wrap64 (x1_1 + 1))))) ?hg ?ho ?hn ?hr ?_;(case ho => rfl);(case hg => rfl);(case hn => rfl);(case hr => exact z24_);intro wb hw;have X_:=(Kd.H_seg HH.out H4.out H3.out (j:=1) (seg:=[.int .i64 (wrap64 (x1_1 + 1))]) (show _ ≤ 5 by exact Nat.le_of_ble_eq_true rfl) (by intro q hq;rw [List.mem_singleton.1 hq];rfl)).1;replace HH:=ak (show Kd.H k34 34 wb w0.heap.size P0_ (.slice (some ⟨g,0,none⟩) l0.length c) x0_1 x5_1 oki [.int .i64 (x1_1),.int .i64 (wrap64 (x1_1 + 1)),.int .i64 xi.f2,.string xi.f3,.slice Ai xi.f4.length ci] from by rw [hw];exact X_);replace HR:=ak (show Kd.R k75 75 wb w0.heap.size oki (.slice Ai xi.f4.length ci) xi.f4 from by rw [hw];exact Kd.R_far HR.out (fun k hk => (HI.out k hk).2) _);replace HK:=ak (show Kept w wb P0_ from by rw [hw];exact HK.out.setCell (.inl HP.out) _);replace HB:=ak (show Below w0.heap.size w0 wb from by rw [hw];exact below_set HB.out HG.out);clear hw X_ hc1 hf1;have CF:=laws_markFeatureS.cells HH.out H4.out H3.out;have hc2:=CF.1 2 _ rfl;have hf2:=CF.2 (x5_1.toNat * 5 + 2);simp only [show k34.sz = 5 from rfl,Nat.add_zero] at hc2;clear CF) | ((with_reducible refine gate_store (t:=3) (p:=30) rfl ?_);refine store_event (t:=3) (p:=30) (v:=?vo_3) (w1:=(wb.setCell ⟨g,x5_1.toNat * 5 + 2,none⟩ (.int .i64 (wrap64 (wrap64 (x1_1 + 1) + 1))))) ?hg ?ho ?hn ?hr ?_;(case ho => rfl);(case hg => rfl);(case hn => rfl);(case hr => exact z24_);intro wc hw;have X_:=(Kd.H_seg HH.out H4.out H3.out (j:=2) (seg:=[.int .i64 (wrap64 (wrap64 (x1_1 + 1) + 1))]) (show _ ≤ 5 by exact Nat.le_of_ble_eq_true rfl) (by intro q hq;rw [List.mem_singleton.1 hq];rfl)).1;replace HH:=ak (show Kd.H k34 34 wc w0.heap.size P0_ (.slice (some ⟨g,0,none⟩) l0.length c) x0_1 x5_1 oki [.int .i64 (x1_1),.int .i64 (wrap64 (x1_1 + 1)),.int .i64 (wrap64 (wrap64 (x1_1 + 1) + 1)),.string xi.f3,.slice Ai xi.f4.length ci] from by rw [hw];exact X_);replace HR:=ak (show Kd.R k75 75 wc w0.heap.size oki (.slice Ai xi.f4.length ci) xi.f4 from by rw [hw];exact Kd.R_far HR.out (fun k hk => (HI.out k hk).2) _);replace HK:=ak (show Kept w wc P0_ from by rw [hw];exact HK.out.setCell (.inl HP.out) _);replace HB:=ak (show Below w0.heap.size w0 wc from by rw [hw];exact below_set HB.out HG.out);clear hw X_ hc2 hf2) | (go_at_call 42;(with_reducible refine (laws_markText.calls k1 _ tx _ HT.out).mono ?_);rintro e wT ⟨rfl,hb⟩;replace HH:=ak (Kd.H_below HH.out hb);replace HR:=ak (Kd.R_below HR.out hb);replace HK:=ak (HK.out.below hb);replace HB:=ak (below_step HB.out hb);clear hb;have CF:=laws_markFeatureS.cells HH.out H4.out H3.out;have hc3:=CF.1 3 _ rfl;have hf3:=CF.2 (x5_1.toNat * 5 + 3);simp only [show k34.sz = 5 from rfl,Nat.add_zero] at hc3;clear CF) | ((with_reducible refine gate_store (t:=9) (p:=38) rfl ?_);refine store_event (t:=9) (p:=38) (v:=?vo_4) (w1:=(wT.setCell ⟨g,x5_1.toNat * 5 + 3,none⟩ (.string tx))) ?hg ?ho ?hn ?hr ?_;(case ho => rfl);(case hg => rfl);(case hn => rfl);(case hr => exact z24_);intro wd hw;have X_:=(Kd.H_seg HH.out H4.out H3.out (j:=3) (seg:=[.string tx]) (show _ ≤ 5 by exact Nat.le_of_ble_eq_true rfl) (by intro q hq;rw [List.mem_singleton.1 hq];rfl)).1;replace HH:=ak (show Kd.H k34 34 wd w0.heap.size P0_ (.slice (some ⟨g,0,none⟩) l0.length c) x0_1 x5_1 oki [.int .i64 (x1_1),.int .i64 (wrap64 (x1_1 + 1)),.int .i64 (wrap64 (wrap64 (x1_1 + 1) + 1)),.string tx,.slice Ai xi.f4.length ci] from by rw [hw];exact X_);replace HR:=ak (show Kd.R k75 75 wd w0.heap.size oki (.slice Ai xi.f4.length ci) xi.f4 from by rw [hw];exact Kd.R_far HR.out (fun k hk => (HI.out k hk).2) _);replace HK:=ak (show Kept w wd P0_ from by rw [hw];exact HK.out.setCell (.inl HP.out) _);replace HB:=ak (show Below w0.heap.size w0 wd from by rw [hw];exact below_set HB.out HG.out);clear hw X_ hc3 hf3;have CF:=laws_markFeatureS.cells HH.out H4.out H3.out;have hc4:=CF.1 4 _ rfl;have hf4:=CF.2 (x5_1.toNat * 5 + 4);simp only [show k34.sz = 5 from rfl,Nat.add_zero] at hc4;clear CF) | (go_at_call 43;(with_reducible refine (laws_markPointS.calls k1 (fun k_ => some k_ = (.slice Ai xi.f4.length ci : Value).ownBlock) (.slice Ai xi.f4.length ci) _ _ bt.1 bt.2 w0 _ HB.out (Kd.R_tight rfl HR.out) H1.out).mono ?_);rintro e w2 ⟨rfl,hy,hb,hkp⟩))
          go_roundg k1
          case measure => have:=HK1.out;omega
          case rel =>
            have hown : ∀ k_,some k_ = (.slice Ai xi.f4.length ci : Value).ownBlock → oki k_:=fun k_ e_ => HR.out.1 k_ e_.symm
            refine ⟨x0_1.set x5_1.toNat ⟨x1_1,wrap64 (x1_1 + 1),wrap64 (wrap64 (x1_1 + 1) + 1),tx,bt.2⟩,bt.1,_,rfl,rfl,H',⟨by have:=HK1.out;omega⟩,⟨?_⟩,⟨HK.out.then_ hkp (fun k_ e_ => .inl (HI.out k_ (hown k_ e_)).1)⟩,⟨hb⟩⟩
            exact Kd.H_back (Kd.H_step HH.out (fun k_ _ hn hlt => hkp.2 k_ hlt (fun e_ => hn (hown k_ e_)))) (k34_mkM _ _ _ ⟨x1_1,wrap64 (x1_1 + 1),wrap64 (wrap64 (x1_1 + 1) + 1),tx,bt.2⟩ (Kd.R_tight rfl hy)) hown
        · rw [if_neg c4] at H;cases H
      · rw [if_neg c3] at H
        obtain ⟨rfl,rfl⟩:=Prod.mk.inj (Option.some.inj H)
        have b3 : decide (x5_1 < (l0.length : Int)) = false:=decide_eq_false c3
        go_wp2
        go_ret
        exact ⟨rfl,HB.out,HK.out,by have h_:=HO.out;first | exact h_ | (rw [(Kd.S_reads' HO.out).1] at h_;exact h_)⟩
def laws_markFeature.f (k : Nat) (a0_0 : Int) (a0_1 : Int) (a0_2 : Int) (a0_3 : ByteArray) (l0_4 : List (S75)) (a1 : Int) : Option (Int × (List (S75))):=(laws_markPointS.f k l0_4 a1).bind fun bt526 => (some (bt526.1,bt526.2))
theorem laws_markFeature.calls (k : Nat) (a0_0 : Int) (a0_1 : Int) (a0_2 : Int) (a0_3 : ByteArray) (P0_4_ : Nat → Prop) (u9000_ : Value) (l0_4 : List (S75)) (a1 : Int) (r1 : Int) (r2 : List (S75)) (w0 w : World) (hB : Below w0.heap.size w0 w) (ho0_4 : Kd.R k75 75 w w0.heap.size P0_4_ u9000_ l0_4) (h : laws_markFeature.f k a0_0 a0_1 a0_2 a0_3 l0_4 a1 = some (r1,r2)) :
  Calls Try.prog 16 #[.agg #[.int .i64 a0_0,.int .i64 a0_1,.int .i64 a0_2,.string a0_3,u9000_],.int .i64 a1] w fun e w' => e = .returned (.int .i64 r1) ∧ Kd.R k75 75 w' w0.heap.size (fun k_ => (P0_4_ k_ ∨ w.heap.size ≤ k_)) u9000_ r2 ∧ Below w0.heap.size w0 w' ∧ Kept w w' (fun k_ => P0_4_ k_):=by
 have hu34:=Try.underlying34
 have HO0_4:=ak (show Kd.R k75 75 w w0.heap.size (fun k_ => (P0_4_ k_ ∨ w.heap.size ≤ k_)) u9000_ l0_4 from Kd.R_mono ho0_4 (fun k_ hk => (.inl hk)))
 have HK:=ak (Kept.refl w (fun k_ => P0_4_ k_))
 have HW0:=ak hB.size
 have HB:=ak hB
 clear hB
 have H:=h;clear h;unfold laws_markFeature.f at H
 replace H:=Hd.bd_ H;obtain ⟨⟨t526,t527⟩,A3,H⟩:=H;dsimp only at H
 simp only [Option.some.injEq,Prod.mk.injEq] at H
 obtain ⟨rfl,rfl⟩:=H
 obtain ⟨Ao4,co4,eo4⟩:=Kd.R_slice HO0_4.out
 subst eo4
 go_enter Try.func16,Try.ntmps16
 go_wp2_with (first | ((with_reducible refine gate_dst (N:=2) rfl ?_);refine Hd.box_ 2 (#[.int .i64 a0_0,.int .i64 a0_1,.int .i64 a0_2,.string a0_3,.slice Ao4 l0_4.length co4]) 34 ?_;intro gb525 hg w5 hbox hb;replace HO0_4:=ak (Kd.R_below (Hd.r_ HO0_4) hb);have BK525:=ak (hbox);have GW525:=ak ((by rw [hg];exact (by first | exact HK.out.1 | exact (show Kept w _ (fun k_ => P0_4_ k_) from by repeat (first | (with_reducible first | exact HK.out | apply Kept.alloc | apply Kept.drewN | apply Kept.drew) | exact HK.out)).1) : w.heap.size ≤ gb525));replace HK:=ak (Kept.below (S:=(fun k_ => P0_4_ k_)) z26_ hb);have GE525:=ak ((Hd.g_ hg Hd.b_ : w0.heap.size ≤ gb525));replace HB:=ak (below_step Hd.b_ hb);clear hb hbox hg;obtain ⟨hcz6_0,hcz6_1,hcz6_2,hcz6_3,hcz6_4⟩:=Hd.c5_ BK525.out;obtain ⟨hfz6_0,hfz6_1,hfz6_2,hfz6_3,hfz6_4⟩:=Hd.f5_ BK525.out) | ((with_reducible refine gate_callee (f:=43) rfl ?_);refine Hd.gl_ 8 Try.func43 #[.slice Ao4 l0_4.length co4,.int .i64 a1] ?_;(with_reducible refine (laws_markPointS.calls k (fun k_ => some k_ = (.slice Ao4 l0_4.length co4 : Value).ownBlock) (.slice Ao4 l0_4.length co4) l0_4 a1 t526 t527 w0 _ ?side1 ?side2 A3.out).mono ?_);(case side1 => repeat (first | (with_reducible first | exact HB.out | apply below_alloc | apply pw_below_drewN | apply below_drew1 | refine below_set ?_ GE525.out) | exact HB.out));(case side2 => exact Kd.R_tight rfl HO0_4.out);rintro e w7 ⟨rfl,hy0,hb,hkp⟩;refine ⟨_,rfl,?_⟩;replace BK525:=ak (blk_kept (Hd.k_ BK525) hkp (fun hs_ => (fun e_ => (Kd.R_ne HO0_4.out BK525.out (by decide)) e_) hs_));replace HK:=ak (Kept.then_ (S:=(fun k_ => P0_4_ k_)) (by repeat (first | (with_reducible first | exact HK.out | apply Kept.alloc | apply Kept.drewN | apply Kept.drew | refine Kept.setCell ?_ (.inr GW525.out) _) | exact HK.out)) hkp (fun k_ hs_ => (fun e_ => (HO0_4.out.1 k_ e_.symm)) hs_));replace HO0_4:=ak (Kd.R_reok rfl hy0 (fun k_ e_ => HO0_4.out.1 k_ e_));replace HB:=ak (hb);(try clear hb);(try clear hkp);(try clear hy0)))
 go_ret
 exact ⟨Hd.e_,z4_ HO0_4,Hd.b_,by repeat (first | (with_reducible first | exact HK.out | apply Kept.alloc | apply Kept.drewN | apply Kept.drew | refine Kept.setCell ?_ (.inr GW525.out) _) | exact HK.out)⟩
end Go.Proofs.Ytbbdhlggnglfgaa.MFnExactPutFeature
