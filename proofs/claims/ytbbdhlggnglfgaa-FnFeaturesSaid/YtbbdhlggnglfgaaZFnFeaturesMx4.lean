-- Laid by this session's program pp.py, after the kit's print and texts of the session's own. Not trusted: Lean checks it.
import Derived.Test.YtbbdhlggnglfgaaZFnFeaturesMx0
import Derived.Test.YtbbdhlggnglfgaaZFnFeaturesMx1
import Derived.Test.YtbbdhlggnglfgaaZFnFeaturesMx2
import Derived.Test.YtbbdhlggnglfgaaZFnFeaturesMx3
namespace Go.Proofs.Ytbbdhlggnglfgaa.MFnFeatures
open Go.RowKit Go.Proofs.YtbbdhlggnglfgaaW.PrintWords Go.Proofs.YtbbdhlggnglfgaaW.PrintLast Go.Proofs.YtbbdhlggnglfgaaW.PrintMore
attribute [local go_sem] max2_int min2_int max_two min_two max_three min_three max_four min_four
set_option linter.unusedVariables false
set_option maxHeartbeats 8000000
set_option maxRecDepth 100000
set_option linter.unusedSimpArgs false
attribute [local go_sem high] eqA75
mutual
def impl_HowMeet.j0:Nat→Bool→Int→Int→Int→Int→Int→Int→Int→Int→Option (Int)
 | 0,_,_,_,_,_,_,_,_,_=>none
 | k+1,x16,x140000,x140001,x140002,x140003,x141000,x141001,x141002,x141003=>if x16=true then (some 0) else ((impl_SideOf.f k x140000 x140001 x140002 x140003 x141000 x141001).bind fun t143=>((impl_SideOf.f k x140000 x140001 x140002 x140003 x141002 x141003).bind fun t144=>(if t143=0 then (impl_HowMeet.j1 k t143 t144 (t144==0) x140000 x140001 x140002 x140003 x141000 x141001 x141002 x141003) else (impl_HowMeet.j1 k t143 t144 false x140000 x140001 x140002 x140003 x141000 x141001 x141002 x141003))))
def impl_HowMeet.j1:Nat→Int→Int→Bool→Int→Int→Int→Int→Int→Int→Int→Int→Option (Int)
 | 0,_,_,_,_,_,_,_,_,_,_,_=>none
 | k+1,x5,x6,x36,x140000,x140001,x140002,x140003,x141000,x141001,x141002,x141003=>if x36=true then ((impl_forward.f x140000 x140001 x140002 x140003).bind fun bt145=>((impl_forward.f x141000 x141001 x141002 x141003).bind fun bt149=>((impl_BeforePoint.f bt145.1 bt145.2.1 bt149.1 bt149.2.1).bind fun t155=>(if t155=true then (impl_HowMeet.j2 k bt149.1 bt149.2.1 bt149.2.2.1 bt149.2.2.2 bt149.1 bt149.2.1 bt145.2.2.1 bt145.2.2.2) else (impl_HowMeet.j2 k bt149.1 bt149.2.1 bt149.2.2.1 bt149.2.2.2 bt145.1 bt145.2.1 bt145.2.2.1 bt145.2.2.2))))) else (if (wrap64 (x5*x6))<0 then ((impl_SideOf.f k x141000 x141001 x141002 x141003 x140000 x140001).bind fun t158=>((impl_SideOf.f k x141000 x141001 x141002 x141003 x140002 x140003).bind fun t159=>(impl_HowMeet.j4 k (decide ((wrap64 (t158*t159))<0)) x140000 x140001 x140002 x140003 x141000 x141001 x141002 x141003))) else (impl_HowMeet.j4 k false x140000 x140001 x140002 x140003 x141000 x141001 x141002 x141003))
def impl_HowMeet.j2:Nat→Int→Int→Int→Int→Int→Int→Int→Int→Option (Int)
 | 0,_,_,_,_,_,_,_,_=>none
 | k+1,x141000,x141001,x141002,x141003,x154000,x154001,x155000,x155001=>(impl_BeforePoint.f x141002 x141003 x155000 x155001).bind fun t156=>(if t156=true then (impl_HowMeet.j3 k x154000 x154001 x141002 x141003) else (impl_HowMeet.j3 k x154000 x154001 x155000 x155001))
def impl_HowMeet.j3:Nat→Int→Int→Int→Int→Option (Int)
 | 0,_,_,_,_=>none
 | k+1,x154000,x154001,x155000,x155001=>(impl_BeforePoint.f x155000 x155001 x154000 x154001).bind fun t157=>(if t157=true then (some 0) else (if (x154000==x155000&&(x154001==x155001))=true then (some 1) else (some 3)))
def impl_HowMeet.j4:Nat→Bool→Int→Int→Int→Int→Int→Int→Int→Int→Option (Int)
 | 0,_,_,_,_,_,_,_,_,_=>none
 | k+1,x86,x140000,x140001,x140002,x140003,x141000,x141001,x141002,x141003=>if x86=true then (some 2) else ((impl_IsOn.f k x140000 x140001 x140002 x140003 x141000 x141001).bind fun t160=>(if t160=true then (some 1) else ((impl_IsOn.f k x140000 x140001 x140002 x140003 x141002 x141003).bind fun t161=>(if t161=true then (some 1) else ((impl_IsOn.f k x141000 x141001 x141002 x141003 x140000 x140001).bind fun t162=>(if t162=true then (some 1) else ((impl_IsOn.f k x141000 x141001 x141002 x141003 x140002 x140003).bind fun t163=>(if t163=true then (some 1) else (some 0)))))))))
end
def impl_HowMeet.f (k:Nat) (a0_0:Int) (a0_1:Int) (a0_2:Int) (a0_3:Int) (a1_0:Int) (a1_1:Int) (a1_2:Int) (a1_3:Int):Option (Int):=(impl_IsSegment.f a0_0 a0_1 a0_2 a0_3).bind fun t141=>(if t141=true then ((impl_IsSegment.f a1_0 a1_1 a1_2 a1_3).bind fun t142=>(impl_HowMeet.j0 k (!t142) a0_0 a0_1 a0_2 a0_3 a1_0 a1_1 a1_2 a1_3)) else (impl_HowMeet.j0 k true a0_0 a0_1 a0_2 a0_3 a1_0 a1_1 a1_2 a1_3))
def impl_HowMeet.T6:Bool × List (List Nat × List Nat):=(true,[([],[]),([0],[0]),([],[]),([2],[2]),([],[]),([],[]),([4,1,0,1,4,5],[1,4]),([5,3,6,0,1,2,3,4,5,6],[3,5])])
def impl_HowMeet.B6:List Nat:=[0,1,0,4,0,0,51,127]
theorem impl_HowMeet.tab6:rtab .any (opsOf Try.f76 6)=impl_HowMeet.T6:=by kernel_rfl
theorem impl_HowMeet.bits6:waitsOk impl_HowMeet.T6.2 impl_HowMeet.B6=true:=by kernel_rfl
theorem impl_HowMeet.calls (k:Nat) (a0_0:Int) (a0_1:Int) (a0_2:Int) (a0_3:Int) (a1_0:Int) (a1_1:Int) (a1_2:Int) (a1_3:Int) (r:Int) (w:World) (h:impl_HowMeet.f k a0_0 a0_1 a0_2 a0_3 a1_0 a1_1 a1_2 a1_3=some r) :
  Calls Try.prog 76 #[.agg #[.int .i64 a0_0,.int .i64 a0_1,.int .i64 a0_2,.int .i64 a0_3],.agg #[.int .i64 a1_0,.int .i64 a1_1,.int .i64 a1_2,.int .i64 a1_3]] w fun e w'=>e = .returned (.int .i64 r)∧Below w.heap.size w w':=by
 have hu101:=Try.underlying101
 have hu75:=Try.underlying75
 have HB:=z52_
 have H:=h;clear h;unfold impl_HowMeet.f at H
 have HC3:=ak H
 clear H
 go_enter Try.func76,Try.ntmps76
 go_upto_region 1 with (first|((with_reducible refine gate_dst (N:=2) rfl ?_);refine Hd.box_ 2 (#[.int .i64 a0_0,.int .i64 a0_1,.int .i64 a0_2,.int .i64 a0_3]) 101 ?_;intro gb139 hg w4 hbox hb;have BK139:=ak (hbox);have GW139:=ak ((Hd.g_ hg Hd.b_:w.heap.size≤gb139));have GE139:=ak ((Hd.g_ hg Hd.b_:w.heap.size≤gb139));replace HB:=z17_;clear hb hbox hg)|((with_reducible refine gate_dst (N:=3) rfl ?_);refine Hd.box_ 3 (#[.int .i64 a1_0,.int .i64 a1_1,.int .i64 a1_2,.int .i64 a1_3]) 101 ?_;intro gb140 hg w5 hbox hb;have BK140:=ak (hbox);have GW140:=ak ((Hd.g_ hg Hd.b_:w.heap.size≤gb140));have GE140:=ak ((Hd.g_ hg Hd.b_:w.heap.size≤gb140));replace HB:=z17_;have NB139_140:=ak ((Hd.lt_ BK139 hg));have NB140_139:=ak ((Hd.gt_ BK139 hg));replace BK139:=z99_;clear hb hbox hg))
 (try simp only[Act.put,List.setIfInBounds_toArray,List.set_cons_zero,List.set_cons_succ])
 go_cut [16] (fun v16 wc=>∃ (kq:Nat) (x16_2:Bool),v16 = .bool x16_2∧Aside0 (impl_HowMeet.j0 kq x16_2 a0_0 a0_1 a0_2 a0_3 a1_0 a1_1 a1_2 a1_3=some r)∧Aside0 (kq≤k)∧Aside0 (wc.heap[gb139]?=some (.cells #[.int .i64 a0_0,.int .i64 a0_1,.int .i64 a0_2,.int .i64 a0_3] 101 (0,0)))∧Aside0 (wc.heap[gb140]?=some (.cells #[.int .i64 a1_0,.int .i64 a1_1,.int .i64 a1_2,.int .i64 a1_3] 101 (0,0)))∧Aside0 (Below w.heap.size w wc))
 case first =>
  have H:=HC3.out
  clear HC3
  replace H:=Hd.bd_ H;obtain⟨t141,A6,H⟩:=H
  by_cases c7:t141=true
  ·
   subst c7
   rw [if_pos rfl] at H
   replace H:=Hd.bd_ H;obtain⟨t142,A8,H⟩:=H
   have H':=ak H
   clear H
   have hnb9:=NB139_140.out
   have hnc9:=NB140_139.out
   obtain⟨hcz10_0,hcz10_1,hcz10_2,hcz10_3⟩:=Hd.c4_ BK139.out
   obtain⟨hfz10_0,hfz10_1,hfz10_2,hfz10_3⟩:=Hd.f4_ BK139.out
   go_wp2_with (first|((with_reducible refine gate_callee (f:=90) rfl ?_);refine Hd.gl_ 10 Try.func90 #[.agg #[.int .i64 a0_0,.int .i64 a0_1,.int .i64 a0_2,.int .i64 a0_3]] ?_;(with_reducible refine(impl_IsSegment.calls a0_0 a0_1 a0_2 a0_3 true _ A6.out).mono ?_);rintro e w11 ⟨rfl,hb⟩;refine⟨_,rfl,?_⟩;replace BK139:=z99_;replace BK140:=z102_;replace HB:=z17_;(try clear hb);obtain⟨hcz12_0,hcz12_1,hcz12_2,hcz12_3⟩:=Hd.c4_ BK140.out;obtain⟨hfz12_0,hfz12_1,hfz12_2,hfz12_3⟩:=Hd.f4_ BK140.out)|(go_at_call 90;(with_reducible refine(impl_IsSegment.calls a1_0 a1_1 a1_2 a1_3 t142 _ A8.out).mono ?_);rintro e w13 ⟨rfl,hb⟩;replace BK139:=z99_;replace BK140:=z102_;replace HB:=z17_;(try clear hb);(try clear hk);(try clear hi)))
   go_meet
   case rel=>exact⟨_,(!t142),z14_,H',⟨z73_⟩,⟨z6_ BK139⟩,⟨z6_ BK140⟩,⟨Hd.b_⟩⟩
  replace c7:=Bool.eq_false_iff.mpr c7
  subst c7
  rw [if_neg (show ¬ (false=true) by decide)] at H
  have H':=ak H
  clear H
  have hnb14:=NB139_140.out
  have hnc14:=NB140_139.out
  obtain⟨hcz15_0,hcz15_1,hcz15_2,hcz15_3⟩:=Hd.c4_ BK139.out
  obtain⟨hfz15_0,hfz15_1,hfz15_2,hfz15_3⟩:=Hd.f4_ BK139.out
  go_wp2_with (first|((with_reducible refine gate_callee (f:=90) rfl ?_);refine Hd.gl_ 10 Try.func90 #[.agg #[.int .i64 a0_0,.int .i64 a0_1,.int .i64 a0_2,.int .i64 a0_3]] ?_;(with_reducible refine(impl_IsSegment.calls a0_0 a0_1 a0_2 a0_3 false _ A6.out).mono ?_);rintro e w16 ⟨rfl,hb⟩;refine⟨_,rfl,?_⟩;replace BK139:=z99_;replace BK140:=z102_;replace HB:=z17_;(try clear hb)))
  go_meet
  case rel=>exact⟨_,(true),z14_,H',⟨z73_⟩,⟨z6_ BK139⟩,⟨z6_ BK140⟩,⟨Hd.b_⟩⟩
 case rest =>
  clear HC3
  try clear c7;try clear hcz10_0;try clear hcz10_1;try clear hcz10_2;try clear hcz10_3;try clear hcz12_0;try clear hcz12_1;try clear hcz12_2;try clear hcz12_3;try clear hcz15_0;try clear hcz15_1;try clear hcz15_2;try clear hcz15_3;try clear hfz10_0;try clear hfz10_1;try clear hfz10_2;try clear hfz10_3;try clear hfz12_0;try clear hfz12_1;try clear hfz12_2;try clear hfz12_3;try clear hfz15_0;try clear hfz15_1;try clear hfz15_2;try clear hfz15_3
  obtain⟨kq,x16_2,rfl,HA,HJ2,BK139,BK140,HB⟩:=hcut
  cases kq with
  | zero=>exact absurd HA.out (by simp [impl_HowMeet.j0])
  | succ kj2 =>
   have H:=HA.out
   clear HA
   simp only[impl_HowMeet.j0] at H
   by_cases c17:x16_2=true
   ·
    subst c17
    rw [if_pos rfl] at H
    obtain rfl:=Option.some.inj H
    go_wp2
    go_ret
    exact⟨Hd.e_,Hd.b_⟩
   replace c17:=Bool.eq_false_iff.mpr c17
   subst c17
   rw [if_neg (show ¬ (false=true) by decide)] at H
   replace H:=Hd.bd_ H;obtain⟨t143,A18,H⟩:=H
   replace H:=Hd.bd_ H;obtain⟨t144,A19,H⟩:=H
   have HC20:=ak H
   clear H
   try go_wp2
   replace BK139:=z65_ BK139
   replace BK140:=z65_ BK140
   replace HB:=z42_
   obtain⟨s0_,s1_,s2_,s3_⟩:=Hd.HW.k4 (W0:=wc.drew) BK139
   obtain⟨s4_,s5_,s6_,s7_⟩:=Hd.HW.k4 (W0:=wc.drew) BK140
   refine Hd.HW.region (by kernel_rfl) (by kernel_rfl) ?_
   repeat (go_big_quiet_step ((first|(go_at_call 91;with_reducible exact Hd.HW.c (impl_SideOf.calls kj2 a0_0 a0_1 a0_2 a0_3 a1_0 a1_1 t143 _ A18.out))|(go_at_call 91;with_reducible exact Hd.HW.c (impl_SideOf.calls kj2 a0_0 a0_1 a0_2 a0_3 a1_2 a1_3 t144 _ A19.out)))))
   refine wpQuiet_nil ?_
   intro _ hq_
   obtain⟨q_,rfl⟩:=hq_
   clear s0_ s1_ s2_ s3_ s4_ s5_ s6_ s7_
   replace BK139:=z63_ BK139
   replace BK140:=z63_ BK140
   replace HB:=z58_
   generalize q_.W=w23 at BK139 BK140 HB ⊢
   try simp only[i64_w,i32_w]
   go_upto_region 4 with (fail)
   go_cut [36] (fun v36 wc=>∃ (kq:Nat) (x36_19:Bool),v36 = .bool x36_19∧Aside0 (impl_HowMeet.j1 kq t143 t144 x36_19 a0_0 a0_1 a0_2 a0_3 a1_0 a1_1 a1_2 a1_3=some r)∧Aside0 (kq≤kj2)∧Aside0 (wc.heap[gb139]?=some (.cells #[.int .i64 a0_0,.int .i64 a0_1,.int .i64 a0_2,.int .i64 a0_3] 101 (0,0)))∧Aside0 (wc.heap[gb140]?=some (.cells #[.int .i64 a1_0,.int .i64 a1_1,.int .i64 a1_2,.int .i64 a1_3] 101 (0,0)))∧Aside0 (Below w.heap.size w wc))
   case first =>
    have H:=HC20.out
    clear HC20
    by_cases c24:t143=0;rotate_left
    ·
     rw [if_neg c24] at H
     have c24b0:=beq_eq_false_iff_ne.mpr c24
     have c24b1:=bne_iff_ne.mpr c24
     (first|rw [c24b0]|(simp only[i64_w,i32_w];rw [c24b0])|skip)
     have H':=ak H
     clear H
     go_wp2
     go_meet
     case rel=>exact⟨_,(false),z14_,H',⟨z114_⟩,⟨z6_ BK139⟩,⟨z6_ BK140⟩,⟨Hd.b_⟩⟩
    rw [if_pos c24] at H
    have c24b0:=beq_iff_eq.mpr c24
    have c24b1:=bne_eq_false_iff_eq.mpr c24
    clear c24
    (first|rw [c24b0]|(simp only[i64_w,i32_w];rw [c24b0])|skip)
    have H':=ak H
    clear H
    go_wp2
    go_meet
    case rel=>exact⟨_,((t144==0)),z14_,H',⟨z114_⟩,⟨z6_ BK139⟩,⟨z6_ BK140⟩,⟨Hd.b_⟩⟩
   case rest =>
    clear HC20
    try clear c7;try clear c17;try clear c24;try clear c24b0;try clear c24b1;try clear hcz10_0;try clear hcz10_1;try clear hcz10_2;try clear hcz10_3;try clear hcz12_0;try clear hcz12_1;try clear hcz12_2;try clear hcz12_3;try clear hcz15_0;try clear hcz15_1;try clear hcz15_2;try clear hcz15_3;try clear hfz10_0;try clear hfz10_1;try clear hfz10_2;try clear hfz10_3;try clear hfz12_0;try clear hfz12_1;try clear hfz12_2;try clear hfz12_3;try clear hfz15_0;try clear hfz15_1;try clear hfz15_2;try clear hfz15_3
    obtain⟨kq,x36_19,rfl,HA,HJ19,BK139,BK140,HB⟩:=hcut
    cases kq with
    | zero=>exact absurd HA.out (by simp [impl_HowMeet.j1])
    | succ kj19 =>
     have H:=HA.out
     clear HA
     simp only[impl_HowMeet.j1] at H
     by_cases c25:x36_19=true;rotate_left
     ·
      replace c25:=Bool.eq_false_iff.mpr c25
      subst c25
      rw [if_neg (show ¬ (false=true) by decide)] at H
      have HC115:=ak H
      clear H
      go_upto_region 16 with (fail)
      go_cut [86] (fun v86 wc=>∃ (kq:Nat) (x86_114:Bool),v86 = .bool x86_114∧Aside0 (impl_HowMeet.j4 kq x86_114 a0_0 a0_1 a0_2 a0_3 a1_0 a1_1 a1_2 a1_3=some r)∧Aside0 (kq≤kj19)∧Aside0 (wc.heap[gb139]?=some (.cells #[.int .i64 a0_0,.int .i64 a0_1,.int .i64 a0_2,.int .i64 a0_3] 101 (0,0)))∧Aside0 (wc.heap[gb140]?=some (.cells #[.int .i64 a1_0,.int .i64 a1_1,.int .i64 a1_2,.int .i64 a1_3] 101 (0,0)))∧Aside0 (Below w.heap.size w wc))
      case first =>
       have H:=HC115.out
       clear HC115
       by_cases c116:(wrap64 (t143*t144))<0;rotate_left
       ·
        rw [if_neg c116] at H
        have c116b0:=decide_eq_false c116
        clear c116
        (first|rw [c116b0]|(simp only[i64_w,i32_w];rw [c116b0])|skip)
        have H':=ak H
        clear H
        try go_wp2
        replace BK139:=z65_ BK139
        replace BK140:=z65_ BK140
        replace HB:=z42_
        refine Hd.HW.region (by kernel_rfl) (by kernel_rfl) ?_
        repeat (go_big_quiet_step (fail))
        refine wpQuiet_nil ?_
        intro _ hq_
        obtain⟨q_,rfl⟩:=hq_
        replace BK139:=z63_ BK139
        replace BK140:=z63_ BK140
        replace HB:=z58_
        generalize q_.W=w122 at BK139 BK140 HB ⊢
        try simp only[i64_w,i32_w]
        try go_wp2
        go_meet
        case rel=>exact⟨_,(false),z14_,H',⟨z144_⟩,⟨z6_ BK139⟩,⟨z6_ BK140⟩,⟨Hd.b_⟩⟩
       rw [if_pos c116] at H
       have c116b0:=decide_eq_true c116
       clear c116
       (first|rw [c116b0]|(simp only[i64_w,i32_w];rw [c116b0])|skip)
       replace H:=Hd.bd_ H;obtain⟨t158,A117,H⟩:=H
       replace H:=Hd.bd_ H;obtain⟨t159,A118,H⟩:=H
       have H':=ak H
       clear H
       try go_wp2
       replace BK139:=z65_ BK139
       replace BK140:=z65_ BK140
       replace HB:=z42_
       obtain⟨s0_,s1_,s2_,s3_⟩:=Hd.HW.k4 (W0:=wc.drew) BK140
       obtain⟨s4_,s5_,s6_,s7_⟩:=Hd.HW.k4 (W0:=wc.drew) BK139
       refine Hd.HW.region (by kernel_rfl) (by kernel_rfl) ?_
       repeat (go_big_quiet_step ((first|(go_at_call 91;with_reducible exact Hd.HW.c (impl_SideOf.calls kj19 a1_0 a1_1 a1_2 a1_3 a0_0 a0_1 t158 _ A117.out))|(go_at_call 91;with_reducible exact Hd.HW.c (impl_SideOf.calls kj19 a1_0 a1_1 a1_2 a1_3 a0_2 a0_3 t159 _ A118.out)))))
       refine wpQuiet_nil ?_
       intro _ hq_
       obtain⟨q_,rfl⟩:=hq_
       clear s0_ s1_ s2_ s3_ s4_ s5_ s6_ s7_
       replace BK139:=z63_ BK139
       replace BK140:=z63_ BK140
       replace HB:=z58_
       generalize q_.W=w121 at BK139 BK140 HB ⊢
       try simp only[i64_w,i32_w]
       try go_wp2
       go_meet
       case rel=>exact⟨_,(decide ((wrap64 (t158*t159))<0)),z14_,H',⟨z144_⟩,⟨z6_ BK139⟩,⟨z6_ BK140⟩,⟨Hd.b_⟩⟩
      case rest =>
       clear HC115
       try clear c7;try clear c17;try clear c24;try clear c24b0;try clear c24b1;try clear c25;try clear c58;try clear c76;try clear c85;try clear c94;try clear c94b0;try clear c94b1;try clear c94b2;try clear c116;try clear c116b0;try clear hcz101_0;try clear hcz101_1;try clear hcz103_0;try clear hcz103_1;try clear hcz104_0;try clear hcz104_1;try clear hcz108_0;try clear hcz108_1;try clear hcz10_0;try clear hcz10_1;try clear hcz10_2;try clear hcz10_3;try clear hcz111_0;try clear hcz111_1;try clear hcz113_0;try clear hcz113_1;try clear hcz114_0;try clear hcz114_1;try clear hcz12_0;try clear hcz12_1;try clear hcz12_2;try clear hcz12_3;try clear hcz15_0;try clear hcz15_1;try clear hcz15_2;try clear hcz15_3;try clear hcz53_0;try clear hcz53_1;try clear hcz56_0;try clear hcz56_1;try clear hcz56_2;try clear hcz56_3;try clear hcz62_0;try clear hcz62_1;try clear hcz62_2;try clear hcz62_3;try clear hcz65_0;try clear hcz65_1;try clear hcz71_0;try clear hcz71_1;try clear hcz71_2;try clear hcz71_3;try clear hcz74_0;try clear hcz74_1;try clear hcz80_0;try clear hcz80_1;try clear hcz80_2;try clear hcz80_3;try clear hcz83_0;try clear hcz83_1;try clear hcz89_0;try clear hcz89_1;try clear hcz92_0;try clear hcz92_1;try clear hcz98_0;try clear hcz98_1;try clear hfz101_0;try clear hfz101_1;try clear hfz103_0;try clear hfz103_1;try clear hfz104_0;try clear hfz104_1;try clear hfz108_0;try clear hfz108_1;try clear hfz10_0;try clear hfz10_1;try clear hfz10_2;try clear hfz10_3;try clear hfz111_0;try clear hfz111_1;try clear hfz113_0;try clear hfz113_1;try clear hfz114_0;try clear hfz114_1;try clear hfz12_0;try clear hfz12_1;try clear hfz12_2;try clear hfz12_3;try clear hfz15_0;try clear hfz15_1;try clear hfz15_2;try clear hfz15_3;try clear hfz53_0;try clear hfz53_1;try clear hfz56_0;try clear hfz56_1;try clear hfz56_2;try clear hfz56_3;try clear hfz62_0;try clear hfz62_1;try clear hfz62_2;try clear hfz62_3;try clear hfz65_0;try clear hfz65_1;try clear hfz71_0;try clear hfz71_1;try clear hfz71_2;try clear hfz71_3;try clear hfz74_0;try clear hfz74_1;try clear hfz80_0;try clear hfz80_1;try clear hfz80_2;try clear hfz80_3;try clear hfz83_0;try clear hfz83_1;try clear hfz89_0;try clear hfz89_1;try clear hfz92_0;try clear hfz92_1;try clear hfz98_0;try clear hfz98_1
       obtain⟨kq,x86_114,rfl,HA,HJ114,BK139,BK140,HB⟩:=hcut
       cases kq with
       | zero=>exact absurd HA.out (by simp [impl_HowMeet.j4])
       | succ kj114 =>
        have H:=HA.out
        clear HA
        simp only[impl_HowMeet.j4] at H
        by_cases c123:x86_114=true
        ·
         subst c123
         rw [if_pos rfl] at H
         obtain rfl:=Option.some.inj H
         go_wp2
         go_ret
         exact⟨Hd.e_,Hd.b_⟩
        replace c123:=Bool.eq_false_iff.mpr c123
        subst c123
        rw [if_neg (show ¬ (false=true) by decide)] at H
        replace H:=Hd.bd_ H;obtain⟨t160,A124,H⟩:=H
        by_cases c125:t160=true
        ·
         subst c125
         rw [if_pos rfl] at H
         obtain rfl:=Option.some.inj H
         have hnb126:=NB139_140.out
         have hnc126:=NB140_139.out
         obtain⟨hcz127_0,hcz127_1,hcz127_2,hcz127_3⟩:=Hd.c4_ BK139.out
         obtain⟨hfz127_0,hfz127_1,hfz127_2,hfz127_3⟩:=Hd.f4_ BK139.out
         obtain⟨hcz128_0,hcz128_1,hcz128_2,hcz128_3⟩:=Hd.c4_ BK140.out
         obtain⟨hfz128_0,hfz128_1,hfz128_2,hfz128_3⟩:=Hd.f4_ BK140.out
         go_wp2_with (first|((with_reducible refine gate_callee (f:=94) rfl ?_);refine Hd.gl_ 90 Try.func94 #[.agg #[.int .i64 a0_0,.int .i64 a0_1,.int .i64 a0_2,.int .i64 a0_3],.agg #[.int .i64 a1_0,.int .i64 a1_1]] ?_;(with_reducible refine(impl_IsOn.calls kj114 a0_0 a0_1 a0_2 a0_3 a1_0 a1_1 true _ A124.out).mono ?_);rintro e w129 ⟨rfl,hb⟩;refine⟨_,rfl,?_⟩;replace BK139:=z99_;replace BK140:=z102_;replace HB:=z17_;(try clear hb)))
         go_ret
         exact⟨Hd.e_,Hd.b_⟩
        replace c125:=Bool.eq_false_iff.mpr c125
        subst c125
        rw [if_neg (show ¬ (false=true) by decide)] at H
        replace H:=Hd.bd_ H;obtain⟨t161,A130,H⟩:=H
        by_cases c131:t161=true
        ·
         subst c131
         rw [if_pos rfl] at H
         obtain rfl:=Option.some.inj H
         have hnb132:=NB139_140.out
         have hnc132:=NB140_139.out
         obtain⟨hcz133_0,hcz133_1,hcz133_2,hcz133_3⟩:=Hd.c4_ BK139.out
         obtain⟨hfz133_0,hfz133_1,hfz133_2,hfz133_3⟩:=Hd.f4_ BK139.out
         obtain⟨hcz134_0,hcz134_1,hcz134_2,hcz134_3⟩:=Hd.c4_ BK140.out
         obtain⟨hfz134_0,hfz134_1,hfz134_2,hfz134_3⟩:=Hd.f4_ BK140.out
         go_wp2_with (first|((with_reducible refine gate_callee (f:=94) rfl ?_);refine Hd.gl_ 90 Try.func94 #[.agg #[.int .i64 a0_0,.int .i64 a0_1,.int .i64 a0_2,.int .i64 a0_3],.agg #[.int .i64 a1_0,.int .i64 a1_1]] ?_;(with_reducible refine(impl_IsOn.calls kj114 a0_0 a0_1 a0_2 a0_3 a1_0 a1_1 false _ A124.out).mono ?_);rintro e w135 ⟨rfl,hb⟩;refine⟨_,rfl,?_⟩;replace BK139:=z99_;replace BK140:=z102_;replace HB:=z17_;(try clear hb);obtain⟨hcz136_0,hcz136_1,hcz136_2,hcz136_3⟩:=Hd.c4_ BK139.out;obtain⟨hfz136_0,hfz136_1,hfz136_2,hfz136_3⟩:=Hd.f4_ BK139.out;obtain⟨hcz137_0,hcz137_1,hcz137_2,hcz137_3⟩:=Hd.c4_ BK140.out;obtain⟨hfz137_0,hfz137_1,hfz137_2,hfz137_3⟩:=Hd.f4_ BK140.out)|(go_at_call 94;(with_reducible refine(impl_IsOn.calls kj114 a0_0 a0_1 a0_2 a0_3 a1_2 a1_3 true _ A130.out).mono ?_);rintro e w138 ⟨rfl,hb⟩;replace BK139:=z99_;replace BK140:=z102_;replace HB:=z17_;(try clear hb);(try clear hk);(try clear hi)))
         go_ret
         exact⟨Hd.e_,Hd.b_⟩
        replace c131:=Bool.eq_false_iff.mpr c131
        subst c131
        rw [if_neg (show ¬ (false=true) by decide)] at H
        replace H:=Hd.bd_ H;obtain⟨t162,A139,H⟩:=H
        by_cases c140:t162=true
        ·
         subst c140
         rw [if_pos rfl] at H
         obtain rfl:=Option.some.inj H
         have hnb141:=NB139_140.out
         have hnc141:=NB140_139.out
         obtain⟨hcz142_0,hcz142_1,hcz142_2,hcz142_3⟩:=Hd.c4_ BK139.out
         obtain⟨hfz142_0,hfz142_1,hfz142_2,hfz142_3⟩:=Hd.f4_ BK139.out
         obtain⟨hcz143_0,hcz143_1,hcz143_2,hcz143_3⟩:=Hd.c4_ BK140.out
         obtain⟨hfz143_0,hfz143_1,hfz143_2,hfz143_3⟩:=Hd.f4_ BK140.out
         go_wp2_with (first|((with_reducible refine gate_callee (f:=94) rfl ?_);refine Hd.gl_ 90 Try.func94 #[.agg #[.int .i64 a0_0,.int .i64 a0_1,.int .i64 a0_2,.int .i64 a0_3],.agg #[.int .i64 a1_0,.int .i64 a1_1]] ?_;(with_reducible refine(impl_IsOn.calls kj114 a0_0 a0_1 a0_2 a0_3 a1_0 a1_1 false _ A124.out).mono ?_);rintro e w144 ⟨rfl,hb⟩;refine⟨_,rfl,?_⟩;replace BK139:=z99_;replace BK140:=z102_;replace HB:=z17_;(try clear hb);obtain⟨hcz145_0,hcz145_1,hcz145_2,hcz145_3⟩:=Hd.c4_ BK139.out;obtain⟨hfz145_0,hfz145_1,hfz145_2,hfz145_3⟩:=Hd.f4_ BK139.out;obtain⟨hcz146_0,hcz146_1,hcz146_2,hcz146_3⟩:=Hd.c4_ BK140.out;obtain⟨hfz146_0,hfz146_1,hfz146_2,hfz146_3⟩:=Hd.f4_ BK140.out)|(go_at_call 94;(with_reducible refine(impl_IsOn.calls kj114 a0_0 a0_1 a0_2 a0_3 a1_2 a1_3 false _ A130.out).mono ?_);rintro e w147 ⟨rfl,hb⟩;replace BK139:=z99_;replace BK140:=z102_;replace HB:=z17_;(try clear hb);(try clear hk);(try clear hi);obtain⟨hcz148_0,hcz148_1,hcz148_2,hcz148_3⟩:=Hd.c4_ BK140.out;obtain⟨hfz148_0,hfz148_1,hfz148_2,hfz148_3⟩:=Hd.f4_ BK140.out;obtain⟨hcz149_0,hcz149_1,hcz149_2,hcz149_3⟩:=Hd.c4_ BK139.out;obtain⟨hfz149_0,hfz149_1,hfz149_2,hfz149_3⟩:=Hd.f4_ BK139.out)|(go_at_call 94;(with_reducible refine(impl_IsOn.calls kj114 a1_0 a1_1 a1_2 a1_3 a0_0 a0_1 true _ A139.out).mono ?_);rintro e w150 ⟨rfl,hb⟩;replace BK139:=z99_;replace BK140:=z102_;replace HB:=z17_;clear hb))
         go_ret
         exact⟨Hd.e_,Hd.b_⟩
        replace c140:=Bool.eq_false_iff.mpr c140
        subst c140
        rw [if_neg (show ¬ (false=true) by decide)] at H
        replace H:=Hd.bd_ H;obtain⟨t163,A151,H⟩:=H
        by_cases c152:t163=true
        ·
         subst c152
         rw [if_pos rfl] at H
         obtain rfl:=Option.some.inj H
         have hnb153:=NB139_140.out
         have hnc153:=NB140_139.out
         obtain⟨hcz154_0,hcz154_1,hcz154_2,hcz154_3⟩:=Hd.c4_ BK139.out
         obtain⟨hfz154_0,hfz154_1,hfz154_2,hfz154_3⟩:=Hd.f4_ BK139.out
         obtain⟨hcz155_0,hcz155_1,hcz155_2,hcz155_3⟩:=Hd.c4_ BK140.out
         obtain⟨hfz155_0,hfz155_1,hfz155_2,hfz155_3⟩:=Hd.f4_ BK140.out
         go_wp2_with (first|((with_reducible refine gate_callee (f:=94) rfl ?_);refine Hd.gl_ 90 Try.func94 #[.agg #[.int .i64 a0_0,.int .i64 a0_1,.int .i64 a0_2,.int .i64 a0_3],.agg #[.int .i64 a1_0,.int .i64 a1_1]] ?_;(with_reducible refine(impl_IsOn.calls kj114 a0_0 a0_1 a0_2 a0_3 a1_0 a1_1 false _ A124.out).mono ?_);rintro e w156 ⟨rfl,hb⟩;refine⟨_,rfl,?_⟩;replace BK139:=z99_;replace BK140:=z102_;replace HB:=z17_;(try clear hb);obtain⟨hcz157_0,hcz157_1,hcz157_2,hcz157_3⟩:=Hd.c4_ BK139.out;obtain⟨hfz157_0,hfz157_1,hfz157_2,hfz157_3⟩:=Hd.f4_ BK139.out;obtain⟨hcz158_0,hcz158_1,hcz158_2,hcz158_3⟩:=Hd.c4_ BK140.out;obtain⟨hfz158_0,hfz158_1,hfz158_2,hfz158_3⟩:=Hd.f4_ BK140.out)|(go_at_call 94;(with_reducible refine(impl_IsOn.calls kj114 a0_0 a0_1 a0_2 a0_3 a1_2 a1_3 false _ A130.out).mono ?_);rintro e w159 ⟨rfl,hb⟩;replace BK139:=z99_;replace BK140:=z102_;replace HB:=z17_;(try clear hb);(try clear hk);(try clear hi);obtain⟨hcz160_0,hcz160_1,hcz160_2,hcz160_3⟩:=Hd.c4_ BK140.out;obtain⟨hfz160_0,hfz160_1,hfz160_2,hfz160_3⟩:=Hd.f4_ BK140.out;obtain⟨hcz161_0,hcz161_1,hcz161_2,hcz161_3⟩:=Hd.c4_ BK139.out;obtain⟨hfz161_0,hfz161_1,hfz161_2,hfz161_3⟩:=Hd.f4_ BK139.out)|(go_at_call 94;(with_reducible refine(impl_IsOn.calls kj114 a1_0 a1_1 a1_2 a1_3 a0_0 a0_1 false _ A139.out).mono ?_);rintro e w162 ⟨rfl,hb⟩;replace BK139:=z99_;replace BK140:=z102_;replace HB:=z17_;clear hb;obtain⟨hcz163_0,hcz163_1,hcz163_2,hcz163_3⟩:=Hd.c4_ BK140.out;obtain⟨hfz163_0,hfz163_1,hfz163_2,hfz163_3⟩:=Hd.f4_ BK140.out;obtain⟨hcz164_0,hcz164_1,hcz164_2,hcz164_3⟩:=Hd.c4_ BK139.out;obtain⟨hfz164_0,hfz164_1,hfz164_2,hfz164_3⟩:=Hd.f4_ BK139.out)|(go_at_call 94;(with_reducible refine(impl_IsOn.calls kj114 a1_0 a1_1 a1_2 a1_3 a0_2 a0_3 true _ A151.out).mono ?_);rintro e w165 ⟨rfl,hb⟩;replace BK139:=z99_;replace BK140:=z102_;replace HB:=z17_;clear hb))
         go_ret
         exact⟨Hd.e_,Hd.b_⟩
        replace c152:=Bool.eq_false_iff.mpr c152
        subst c152
        rw [if_neg (show ¬ (false=true) by decide)] at H
        obtain rfl:=Option.some.inj H
        have hnb166:=NB139_140.out
        have hnc166:=NB140_139.out
        obtain⟨hcz167_0,hcz167_1,hcz167_2,hcz167_3⟩:=Hd.c4_ BK139.out
        obtain⟨hfz167_0,hfz167_1,hfz167_2,hfz167_3⟩:=Hd.f4_ BK139.out
        obtain⟨hcz168_0,hcz168_1,hcz168_2,hcz168_3⟩:=Hd.c4_ BK140.out
        obtain⟨hfz168_0,hfz168_1,hfz168_2,hfz168_3⟩:=Hd.f4_ BK140.out
        go_wp2_with (first|((with_reducible refine gate_callee (f:=94) rfl ?_);refine Hd.gl_ 90 Try.func94 #[.agg #[.int .i64 a0_0,.int .i64 a0_1,.int .i64 a0_2,.int .i64 a0_3],.agg #[.int .i64 a1_0,.int .i64 a1_1]] ?_;(with_reducible refine(impl_IsOn.calls kj114 a0_0 a0_1 a0_2 a0_3 a1_0 a1_1 false _ A124.out).mono ?_);rintro e w169 ⟨rfl,hb⟩;refine⟨_,rfl,?_⟩;replace BK139:=z99_;replace BK140:=z102_;replace HB:=z17_;(try clear hb);obtain⟨hcz170_0,hcz170_1,hcz170_2,hcz170_3⟩:=Hd.c4_ BK139.out;obtain⟨hfz170_0,hfz170_1,hfz170_2,hfz170_3⟩:=Hd.f4_ BK139.out;obtain⟨hcz171_0,hcz171_1,hcz171_2,hcz171_3⟩:=Hd.c4_ BK140.out;obtain⟨hfz171_0,hfz171_1,hfz171_2,hfz171_3⟩:=Hd.f4_ BK140.out)|(go_at_call 94;(with_reducible refine(impl_IsOn.calls kj114 a0_0 a0_1 a0_2 a0_3 a1_2 a1_3 false _ A130.out).mono ?_);rintro e w172 ⟨rfl,hb⟩;replace BK139:=z99_;replace BK140:=z102_;replace HB:=z17_;(try clear hb);(try clear hk);(try clear hi);obtain⟨hcz173_0,hcz173_1,hcz173_2,hcz173_3⟩:=Hd.c4_ BK140.out;obtain⟨hfz173_0,hfz173_1,hfz173_2,hfz173_3⟩:=Hd.f4_ BK140.out;obtain⟨hcz174_0,hcz174_1,hcz174_2,hcz174_3⟩:=Hd.c4_ BK139.out;obtain⟨hfz174_0,hfz174_1,hfz174_2,hfz174_3⟩:=Hd.f4_ BK139.out)|(go_at_call 94;(with_reducible refine(impl_IsOn.calls kj114 a1_0 a1_1 a1_2 a1_3 a0_0 a0_1 false _ A139.out).mono ?_);rintro e w175 ⟨rfl,hb⟩;replace BK139:=z99_;replace BK140:=z102_;replace HB:=z17_;clear hb;obtain⟨hcz176_0,hcz176_1,hcz176_2,hcz176_3⟩:=Hd.c4_ BK140.out;obtain⟨hfz176_0,hfz176_1,hfz176_2,hfz176_3⟩:=Hd.f4_ BK140.out;obtain⟨hcz177_0,hcz177_1,hcz177_2,hcz177_3⟩:=Hd.c4_ BK139.out;obtain⟨hfz177_0,hfz177_1,hfz177_2,hfz177_3⟩:=Hd.f4_ BK139.out)|(go_at_call 94;(with_reducible refine(impl_IsOn.calls kj114 a1_0 a1_1 a1_2 a1_3 a0_2 a0_3 false _ A151.out).mono ?_);rintro e w178 ⟨rfl,hb⟩;replace BK139:=z99_;replace BK140:=z102_;replace HB:=z17_;clear hb))
        go_ret
        exact⟨Hd.e_,Hd.b_⟩
     subst c25
     rw [if_pos rfl] at H
     replace H:=Hd.bd_ H;obtain⟨⟨t145,t146,t147,t148⟩,A26,H⟩:=H;dsimp only at H
     replace H:=Hd.bd_ H;obtain⟨⟨t149,t150,t151,t152⟩,A27,H⟩:=H;dsimp only at H
     replace H:=Hd.bd_ H;obtain⟨t155,A28,H⟩:=H
     have HC29:=ak H
     clear H
     try go_wp2
     replace BK139:=z65_ BK139
     replace BK140:=z65_ BK140
     replace HB:=z42_
     refine start_ (n:=6) (S:=fun w'=>w'.cell? ⟨gb139,0,none⟩=some (.int .i64 a0_0)∧w'.cell? ⟨gb139,1,none⟩=some (.int .i64 a0_1)∧w'.cell? ⟨gb139,2,none⟩=some (.int .i64 a0_2)∧w'.cell? ⟨gb139,3,none⟩=some (.int .i64 a0_3)∧w'.cell? ⟨gb140,0,none⟩=some (.int .i64 a1_0)∧w'.cell? ⟨gb140,1,none⟩=some (.int .i64 a1_1)∧w'.cell? ⟨gb140,2,none⟩=some (.int .i64 a1_2)∧w'.cell? ⟨gb140,3,none⟩=some (.int .i64 a1_3)) (ds:=[4,5]) #[Z,Z,Z,Z,Z,Z] (by kernel_rfl) rfl rfl ⟨(blk_cell BK139.out 0).trans rfl,(blk_cell BK139.out 1).trans rfl,(blk_cell BK139.out 2).trans rfl,(blk_cell BK139.out 3).trans rfl,(blk_cell BK140.out 0).trans rfl,(blk_cell BK140.out 1).trans rfl,(blk_cell BK140.out 2).trans rfl,(blk_cell BK140.out 3).trans rfl⟩ (fun hHeld=>?_)
     generalize wc.drew=w30 at BK139 BK140 HB hHeld ⊢
     refine take_ (i:=0) (N:=some 37) (v:=?_) (a':=?_) #[Y,Z,Z,Z,Z,Z] rfl rfl (by kernel_rfl) (fun _ _ _ h=>h) (Or.inl ⟨by rfl,?_⟩) hHeld ?_ ?_
     rotate_left
     ·
      rintro w' ⟨s0,s1,s2,s3,s4,s5,s6,s7⟩
      go_simp
      with_reducible rfl
     rotate_left
     ·
      simp only[Act.put,List.setIfInBounds_toArray,List.set_cons_zero,List.set_cons_succ,i64_w,i32_w]
      rfl
     refine take_ (i:=2) (N:=some 39) (v:=?_) (a':=?_) #[Y,Z,Y,Z,Z,Z] rfl rfl (by kernel_rfl) (fun _ _ _ h=>h) (Or.inl ⟨by rfl,?_⟩) hHeld ?_ ?_
     rotate_left
     ·
      rintro w' ⟨s0,s1,s2,s3,s4,s5,s6,s7⟩
      go_simp
      with_reducible rfl
     rotate_left
     ·
      simp only[Act.put,List.setIfInBounds_toArray,List.set_cons_zero,List.set_cons_succ,i64_w,i32_w]
      rfl
     refine one_ (i:=1) (N:=some 38) #[Y,Y,Y,Z,Z,Z] rfl rfl (by kernel_rfl) (by decide) (fun K hK=>?_)
     refine goes_ Try.func92 (by kernel_rfl) rfl #[.agg #[.int .i64 a0_0,.int .i64 a0_1,.int .i64 a0_2,.int .i64 a0_3]] (by rfl) rfl rfl Hd.m_ ?_
     with_reducible refine(impl_forward.calls a0_0 a0_1 a0_2 a0_3 t145 t146 t147 t148 _ A26.out).mono ?_
     rintro e w31 ⟨rfl,hb⟩
     refine⟨_,rfl,?_⟩
     replace BK139:=z99_
     replace BK140:=z102_
     replace HB:=z17_
     try clear hb
     refine hK.out _ _ ⟨(blk_cell BK139.out 0).trans rfl,(blk_cell BK139.out 1).trans rfl,(blk_cell BK139.out 2).trans rfl,(blk_cell BK139.out 3).trans rfl,(blk_cell BK140.out 0).trans rfl,(blk_cell BK140.out 1).trans rfl,(blk_cell BK140.out 2).trans rfl,(blk_cell BK140.out 3).trans rfl⟩ (fun hHeld=>?_)
     clear hK K
     refine Hd.n_ (some 38) ?_
     refine one_ (i:=3) (N:=some 40) #[Y,Y,Y,Y,Z,Z] rfl rfl (by kernel_rfl) (by decide) (fun K hK=>?_)
     refine goes_ Try.func92 (by kernel_rfl) rfl #[.agg #[.int .i64 a1_0,.int .i64 a1_1,.int .i64 a1_2,.int .i64 a1_3]] (by rfl) rfl rfl Hd.m_ ?_
     with_reducible refine(impl_forward.calls a1_0 a1_1 a1_2 a1_3 t149 t150 t151 t152 _ A27.out).mono ?_
     rintro e w32 ⟨rfl,hb⟩
     refine⟨_,rfl,?_⟩
     replace BK139:=z99_
     replace BK140:=z102_
     replace HB:=z17_
     try clear hb
     refine hK.out _ _ ⟨(blk_cell BK139.out 0).trans rfl,(blk_cell BK139.out 1).trans rfl,(blk_cell BK139.out 2).trans rfl,(blk_cell BK139.out 3).trans rfl,(blk_cell BK140.out 0).trans rfl,(blk_cell BK140.out 1).trans rfl,(blk_cell BK140.out 2).trans rfl,(blk_cell BK140.out 3).trans rfl⟩ (fun hHeld=>?_)
     clear hK K
     refine Hd.n_ (some 40) ?_
     refine last_ (i:=4) (N:=none) #[Y,Y,Y,Y,Y,Z] rfl rfl (by kernel_rfl) (by decide) (fun K hK=>?_)
     have hs33:w32.cell? ⟨gb139,0,none⟩=some (.int .i64 a0_0):=(blk_cell BK139.out 0).trans rfl
     have hfs33:=blk_frozen BK139.out 0
     have hns33_1:=NB140_139.out
     have hms33_1:=NB139_140.out
     have hs34:w32.cell? ⟨gb139,1,none⟩=some (.int .i64 a0_1):=(blk_cell BK139.out 1).trans rfl
     have hfs34:=blk_frozen BK139.out 1
     have hns34_1:=NB140_139.out
     have hms34_1:=NB139_140.out
     have hs35:w32.cell? ⟨gb139,2,none⟩=some (.int .i64 a0_2):=(blk_cell BK139.out 2).trans rfl
     have hfs35:=blk_frozen BK139.out 2
     have hns35_1:=NB140_139.out
     have hms35_1:=NB139_140.out
     have hs36:w32.cell? ⟨gb139,3,none⟩=some (.int .i64 a0_3):=(blk_cell BK139.out 3).trans rfl
     have hfs36:=blk_frozen BK139.out 3
     have hns36_1:=NB140_139.out
     have hms36_1:=NB139_140.out
     refine skip_ (w1:=?_) (by rfl) rfl ?_ ?_
     rotate_left
     ·
      go_simp
      rfl
     refine hK.out _ _ ?_
     clear hK K
     refine last_ (i:=5) (N:=none) #[Y,Y,Y,Y,Y,Y] rfl rfl (by kernel_rfl) (by decide) (fun K hK=>?_)
     have hs37:w32.cell? ⟨gb140,0,none⟩=some (.int .i64 a1_0):=(blk_cell BK140.out 0).trans rfl
     have hfs37:=blk_frozen BK140.out 0
     have hns37_0:=NB139_140.out
     have hms37_0:=NB140_139.out
     have hs38:w32.cell? ⟨gb140,1,none⟩=some (.int .i64 a1_1):=(blk_cell BK140.out 1).trans rfl
     have hfs38:=blk_frozen BK140.out 1
     have hns38_0:=NB139_140.out
     have hms38_0:=NB140_139.out
     have hs39:w32.cell? ⟨gb140,2,none⟩=some (.int .i64 a1_2):=(blk_cell BK140.out 2).trans rfl
     have hfs39:=blk_frozen BK140.out 2
     have hns39_0:=NB139_140.out
     have hms39_0:=NB140_139.out
     have hs40:w32.cell? ⟨gb140,3,none⟩=some (.int .i64 a1_3):=(blk_cell BK140.out 3).trans rfl
     have hfs40:=blk_frozen BK140.out 3
     have hns40_0:=NB139_140.out
     have hms40_0:=NB140_139.out
     refine skip_ (w1:=?_) (by rfl) rfl ?_ ?_
     rotate_left
     ·
      go_simp
      rfl
     refine hK.out _ _ ?_
     clear hK K
     refine done_ (by kernel_rfl) ?_
     try go_wp2
     have n0_:Aside0 (((((((((w32.setCell ⟨gb139,0,none⟩ (.int .i64 t145)).setCell ⟨gb139,1,none⟩ (.int .i64 t146)).setCell ⟨gb139,2,none⟩ (.int .i64 t147)).setCell ⟨gb139,3,none⟩ (.int .i64 t148)).setCell ⟨gb140,0,none⟩ (.int .i64 t149)).setCell ⟨gb140,1,none⟩ (.int .i64 t150)).setCell ⟨gb140,2,none⟩ (.int .i64 t151)).setCell ⟨gb140,3,none⟩ (.int .i64 t152)).heap[gb139]?=some (.cells #[.int .i64 t145,.int .i64 t146,.int .i64 t147,.int .i64 t148] 101 (0,0))):=⟨by (with_reducible repeat (first|refine blk_drewN ?_ _|refine blk_drew ?_|refine blk_alloc ?_ _));refine blk_far ?_ NB139_140.out _;(with_reducible repeat (first|refine blk_drewN ?_ _|refine blk_drew ?_|refine blk_alloc ?_ _));refine blk_far ?_ NB139_140.out _;(with_reducible repeat (first|refine blk_drewN ?_ _|refine blk_drew ?_|refine blk_alloc ?_ _));refine blk_far ?_ NB139_140.out _;(with_reducible repeat (first|refine blk_drewN ?_ _|refine blk_drew ?_|refine blk_alloc ?_ _));refine blk_far ?_ NB139_140.out _;(with_reducible repeat (first|refine blk_drewN ?_ _|refine blk_drew ?_|refine blk_alloc ?_ _));refine blk_put (cs:=#[.int .i64 t145,.int .i64 t146,.int .i64 t147,.int .i64 a0_3]) ?_ 3 _ rfl;(with_reducible repeat (first|refine blk_drewN ?_ _|refine blk_drew ?_|refine blk_alloc ?_ _));refine blk_put (cs:=#[.int .i64 t145,.int .i64 t146,.int .i64 a0_2,.int .i64 a0_3]) ?_ 2 _ rfl;(with_reducible repeat (first|refine blk_drewN ?_ _|refine blk_drew ?_|refine blk_alloc ?_ _));refine blk_put (cs:=#[.int .i64 t145,.int .i64 a0_1,.int .i64 a0_2,.int .i64 a0_3]) ?_ 1 _ rfl;(with_reducible repeat (first|refine blk_drewN ?_ _|refine blk_drew ?_|refine blk_alloc ?_ _));refine blk_put (cs:=#[.int .i64 a0_0,.int .i64 a0_1,.int .i64 a0_2,.int .i64 a0_3]) ?_ 0 _ rfl;(with_reducible repeat (first|refine blk_drewN ?_ _|refine blk_drew ?_|refine blk_alloc ?_ _));exact BK139.out⟩
     have n1_:Aside0 (((((((((w32.setCell ⟨gb139,0,none⟩ (.int .i64 t145)).setCell ⟨gb139,1,none⟩ (.int .i64 t146)).setCell ⟨gb139,2,none⟩ (.int .i64 t147)).setCell ⟨gb139,3,none⟩ (.int .i64 t148)).setCell ⟨gb140,0,none⟩ (.int .i64 t149)).setCell ⟨gb140,1,none⟩ (.int .i64 t150)).setCell ⟨gb140,2,none⟩ (.int .i64 t151)).setCell ⟨gb140,3,none⟩ (.int .i64 t152)).heap[gb140]?=some (.cells #[.int .i64 t149,.int .i64 t150,.int .i64 t151,.int .i64 t152] 101 (0,0))):=⟨by (with_reducible repeat (first|refine blk_drewN ?_ _|refine blk_drew ?_|refine blk_alloc ?_ _));refine blk_put (cs:=#[.int .i64 t149,.int .i64 t150,.int .i64 t151,.int .i64 a1_3]) ?_ 3 _ rfl;(with_reducible repeat (first|refine blk_drewN ?_ _|refine blk_drew ?_|refine blk_alloc ?_ _));refine blk_put (cs:=#[.int .i64 t149,.int .i64 t150,.int .i64 a1_2,.int .i64 a1_3]) ?_ 2 _ rfl;(with_reducible repeat (first|refine blk_drewN ?_ _|refine blk_drew ?_|refine blk_alloc ?_ _));refine blk_put (cs:=#[.int .i64 t149,.int .i64 a1_1,.int .i64 a1_2,.int .i64 a1_3]) ?_ 1 _ rfl;(with_reducible repeat (first|refine blk_drewN ?_ _|refine blk_drew ?_|refine blk_alloc ?_ _));refine blk_put (cs:=#[.int .i64 a1_0,.int .i64 a1_1,.int .i64 a1_2,.int .i64 a1_3]) ?_ 0 _ rfl;(with_reducible repeat (first|refine blk_drewN ?_ _|refine blk_drew ?_|refine blk_alloc ?_ _));refine blk_far ?_ NB140_139.out _;(with_reducible repeat (first|refine blk_drewN ?_ _|refine blk_drew ?_|refine blk_alloc ?_ _));refine blk_far ?_ NB140_139.out _;(with_reducible repeat (first|refine blk_drewN ?_ _|refine blk_drew ?_|refine blk_alloc ?_ _));refine blk_far ?_ NB140_139.out _;(with_reducible repeat (first|refine blk_drewN ?_ _|refine blk_drew ?_|refine blk_alloc ?_ _));refine blk_far ?_ NB140_139.out _;(with_reducible repeat (first|refine blk_drewN ?_ _|refine blk_drew ?_|refine blk_alloc ?_ _));exact BK140.out⟩
     have n2_:Aside0 (Below w.heap.size w ((((((((w32.setCell ⟨gb139,0,none⟩ (.int .i64 t145)).setCell ⟨gb139,1,none⟩ (.int .i64 t146)).setCell ⟨gb139,2,none⟩ (.int .i64 t147)).setCell ⟨gb139,3,none⟩ (.int .i64 t148)).setCell ⟨gb140,0,none⟩ (.int .i64 t149)).setCell ⟨gb140,1,none⟩ (.int .i64 t150)).setCell ⟨gb140,2,none⟩ (.int .i64 t151)).setCell ⟨gb140,3,none⟩ (.int .i64 t152))):=⟨Hd.b_⟩
     try clear BK139;try clear BK140;try clear HB
     generalize ((((((((w32.setCell ⟨gb139,0,none⟩ (.int .i64 t145)).setCell ⟨gb139,1,none⟩ (.int .i64 t146)).setCell ⟨gb139,2,none⟩ (.int .i64 t147)).setCell ⟨gb139,3,none⟩ (.int .i64 t148)).setCell ⟨gb140,0,none⟩ (.int .i64 t149)).setCell ⟨gb140,1,none⟩ (.int .i64 t150)).setCell ⟨gb140,2,none⟩ (.int .i64 t151)).setCell ⟨gb140,3,none⟩ (.int .i64 t152))=w41 at n0_ n1_ n2_ ⊢
     have BK139:=n0_
     have BK140:=n1_
     have HB:=n2_
     clear n0_ n1_ n2_
     replace BK139:=z65_ BK139
     replace BK140:=z65_ BK140
     replace HB:=z42_
     refine start_ (n:=8) (S:=fun w'=>w'.cell? ⟨gb139,0,none⟩=some (.int .i64 t145)∧w'.cell? ⟨gb139,1,none⟩=some (.int .i64 t146)∧w'.cell? ⟨gb139,2,none⟩=some (.int .i64 t147)∧w'.cell? ⟨gb139,3,none⟩=some (.int .i64 t148)) (ds:=[]) #[Z,Z,Z,Z,Z,Z,Z,Z] (by kernel_rfl) rfl rfl ⟨(blk_cell BK139.out 0).trans rfl,(blk_cell BK139.out 1).trans rfl,(blk_cell BK139.out 2).trans rfl,(blk_cell BK139.out 3).trans rfl⟩ (fun hHeld=>?_);refine with_tabW impl_HowMeet.tab6 impl_HowMeet.bits6 (fun HT_ HW_=>?_)
     generalize w41.drew=w42 at BK139 BK140 HB hHeld ⊢
     refine Hd.p_ HT_ 0 (some 41) #[Y,Z,Z,Z,Z,Z,Z,Z] ?_
     refine Hd.p_ HT_ 2 (some 43) #[Y,Z,Y,Z,Z,Z,Z,Z] ?_
     refine Hd.t_ HT_ HW_ hHeld 1 (some 42) #[Y,Y,Y,Z,Z,Z,Z,Z] ?_
     refine Hd.t_ HT_ HW_ hHeld 3 (some 44) #[Y,Y,Y,Y,Z,Z,Z,Z] ?_
     refine join_ (σ:=Nat × Nat) 2 #[true,true,true,true,true,true,false,false] (fun s_=>[(7,.pointer (some ⟨s_.1,0,none⟩)),(8,.pointer (some ⟨s_.2,0,none⟩))]) (fun s_ w'=>(w'.cell? ⟨gb139,0,none⟩=some (.int .i64 t145)∧w'.cell? ⟨gb139,1,none⟩=some (.int .i64 t146)∧w'.cell? ⟨gb139,2,none⟩=some (.int .i64 t147)∧w'.cell? ⟨gb139,3,none⟩=some (.int .i64 t148))∧(w'.heap[gb139]?=some (.cells #[.int .i64 t145,.int .i64 t146,.int .i64 t147,.int .i64 t148] 101 (0,0)))∧(w'.heap[gb140]?=some (.cells #[.int .i64 t149,.int .i64 t150,.int .i64 t151,.int .i64 t152] 101 (0,0)))∧(w'.heap[s_.1]?=some (.cells #[.int .i64 0,.int .i64 0] 75 (0,0)))∧(w'.heap[s_.2]?=some (.cells #[.int .i64 0,.int .i64 0] 75 (0,0)))∧(w.heap.size≤s_.1)∧(w.heap.size≤s_.1)∧(gb139≠s_.1)∧(s_.1≠gb139)∧(gb140≠s_.1)∧(s_.1≠gb140)∧(s_.2≠s_.1)∧(s_.1≠s_.2)∧(w.heap.size≤s_.2)∧(w.heap.size≤s_.2)∧(gb139≠s_.2)∧(s_.2≠gb139)∧(gb140≠s_.2)∧(s_.2≠gb140)∧(Below w.heap.size w w')) ?_ ?_
     rotate_left
     ·
      intro hCont
      refine two_ (i:=4) (j:=5) (Ni:=some 7) (Nj:=some 8) #[Y,Y,Y,Y,Y,Z,Z,Z] #[Y,Y,Y,Y,Z,Y,Z,Z] rfl rfl rfl rfl (two_of HT_.out (by kernel_rfl)) (by decide) (by decide) (fun K hK=>?_) (fun K hK=>?_)
      ·
       skip
       refine box_step ?hg (N:=7) ?hd (cs:=#[.int .i64 0,.int .i64 0]) (t:=75) ?hr ?_;(case hd=>rfl);(case hg=>rfl);(case hr=>exact z39_)
       intro gb153 hg w43 hbox hb
       have BK153:=ak (hbox)
       have GW153:=z202_
       have GE153:=z202_
       replace HB:=z17_
       have NB139_153:=ak ((Hd.lt_ BK139 hg))
       have NB153_139:=ak ((Hd.gt_ BK139 hg))
       replace BK139:=z99_
       have NB140_153:=ak ((Hd.lt_ BK140 hg))
       have NB153_140:=ak ((Hd.gt_ BK140 hg))
       replace BK140:=z102_
       clear hb hbox hg
       refine hK.out _ _ ⟨(blk_cell BK139.out 0).trans rfl,(blk_cell BK139.out 1).trans rfl,(blk_cell BK139.out 2).trans rfl,(blk_cell BK139.out 3).trans rfl⟩ (fun hHeld=>?_)
       clear hK K
       refine Hd.n_ (some 7) ?_
       refine Hd.o_ HT_ 5 (some 8) #[Y,Y,Y,Y,Y,Y,Z,Z] (fun K hK=>?_)
       refine box_step ?hg (N:=8) ?hd (cs:=#[.int .i64 0,.int .i64 0]) (t:=75) ?hr ?_;(case hd=>rfl);(case hg=>rfl);(case hr=>exact z39_)
       intro gb154 hg w44 hbox hb
       have BK154:=ak (hbox)
       have GW154:=z203_
       have GE154:=z203_
       replace HB:=z17_
       have NB139_154:=ak ((Hd.lt_ BK139 hg))
       have NB154_139:=ak ((Hd.gt_ BK139 hg))
       replace BK139:=z99_
       have NB140_154:=ak ((Hd.lt_ BK140 hg))
       have NB154_140:=ak ((Hd.gt_ BK140 hg))
       replace BK140:=z102_
       have NB153_154:=ak ((Hd.lt_ BK153 hg))
       have NB154_153:=ak ((Hd.gt_ BK153 hg))
       replace BK153:=ak (Hd.kb_ BK153 hb)
       clear hb hbox hg
       refine hK.out _ _ ⟨(blk_cell BK139.out 0).trans rfl,(blk_cell BK139.out 1).trans rfl,(blk_cell BK139.out 2).trans rfl,(blk_cell BK139.out 3).trans rfl⟩ (fun hHeld=>?_)
       clear hK K
       refine Hd.n_ (some 8) ?_
       exact norm_ z64_ (hCont (gb153,gb154) _ ⟨hHeld,(Hd.k_ BK139),(Hd.k_ BK140),(Hd.k_ BK153),(Hd.k_ BK154),GW153.out,GE153.out,NB139_153.out,NB153_139.out,NB140_153.out,NB153_140.out,NB154_153.out,NB153_154.out,GW154.out,GE154.out,NB139_154.out,NB154_139.out,NB140_154.out,NB154_140.out,Hd.b_⟩)
      ·
       skip
       refine box_step ?hg (N:=8) ?hd (cs:=#[.int .i64 0,.int .i64 0]) (t:=75) ?hr ?_;(case hd=>rfl);(case hg=>rfl);(case hr=>exact z39_)
       intro gb154 hg w43 hbox hb
       have BK154:=ak (hbox)
       have GW154:=z203_
       have GE154:=z203_
       replace HB:=z17_
       have NB139_154:=ak ((Hd.lt_ BK139 hg))
       have NB154_139:=ak ((Hd.gt_ BK139 hg))
       replace BK139:=z99_
       have NB140_154:=ak ((Hd.lt_ BK140 hg))
       have NB154_140:=ak ((Hd.gt_ BK140 hg))
       replace BK140:=z102_
       clear hb hbox hg
       refine hK.out _ _ ⟨(blk_cell BK139.out 0).trans rfl,(blk_cell BK139.out 1).trans rfl,(blk_cell BK139.out 2).trans rfl,(blk_cell BK139.out 3).trans rfl⟩ (fun hHeld=>?_)
       clear hK K
       refine Hd.n_ (some 8) ?_
       refine Hd.o_ HT_ 4 (some 7) #[Y,Y,Y,Y,Y,Y,Z,Z] (fun K hK=>?_)
       refine box_step ?hg (N:=7) ?hd (cs:=#[.int .i64 0,.int .i64 0]) (t:=75) ?hr ?_;(case hd=>rfl);(case hg=>rfl);(case hr=>exact z39_)
       intro gb153 hg w44 hbox hb
       have BK153:=ak (hbox)
       have GW153:=z202_
       have GE153:=z202_
       replace HB:=z17_
       have NB139_153:=ak ((Hd.lt_ BK139 hg))
       have NB153_139:=ak ((Hd.gt_ BK139 hg))
       replace BK139:=z99_
       have NB140_153:=ak ((Hd.lt_ BK140 hg))
       have NB153_140:=ak ((Hd.gt_ BK140 hg))
       replace BK140:=z102_
       have NB154_153:=ak ((Hd.lt_ BK154 hg))
       have NB153_154:=ak ((Hd.gt_ BK154 hg))
       replace BK154:=ak (Hd.kb_ BK154 hb)
       clear hb hbox hg
       refine hK.out _ _ ⟨(blk_cell BK139.out 0).trans rfl,(blk_cell BK139.out 1).trans rfl,(blk_cell BK139.out 2).trans rfl,(blk_cell BK139.out 3).trans rfl⟩ (fun hHeld=>?_)
       clear hK K
       refine Hd.n_ (some 7) ?_
       exact norm_ z64_ (hCont (gb153,gb154) _ ⟨hHeld,(Hd.k_ BK139),(Hd.k_ BK140),(Hd.k_ BK153),(Hd.k_ BK154),GW153.out,GE153.out,NB139_153.out,NB153_139.out,NB140_153.out,NB153_140.out,NB154_153.out,NB153_154.out,GW154.out,GE154.out,NB139_154.out,NB154_139.out,NB140_154.out,NB154_140.out,Hd.b_⟩)
     rintro ⟨gb153,gb154⟩ w45 ⟨hS_,h0_,h1_,h2_,h3_,h4_,h5_,h6_,h7_,h8_,h9_,h10_,h11_,h12_,h13_,h14_,h15_,h16_,h17_,h18_⟩
     have n0_:Aside0 (w45.heap[gb139]?=some (.cells #[.int .i64 t145,.int .i64 t146,.int .i64 t147,.int .i64 t148] 101 (0,0))):=⟨h0_⟩
     have n1_:Aside0 (w45.heap[gb140]?=some (.cells #[.int .i64 t149,.int .i64 t150,.int .i64 t151,.int .i64 t152] 101 (0,0))):=⟨h1_⟩
     have n2_:Aside0 (w45.heap[gb153]?=some (.cells #[.int .i64 0,.int .i64 0] 75 (0,0))):=⟨h2_⟩
     have n3_:Aside0 (w45.heap[gb154]?=some (.cells #[.int .i64 0,.int .i64 0] 75 (0,0))):=⟨h3_⟩
     have n4_:Aside0 (w.heap.size≤gb153):=⟨h4_⟩
     have n5_:Aside0 (w.heap.size≤gb153):=⟨h5_⟩
     have n6_:Aside0 (gb139≠gb153):=⟨h6_⟩
     have n7_:Aside0 (gb153≠gb139):=⟨h7_⟩
     have n8_:Aside0 (gb140≠gb153):=⟨h8_⟩
     have n9_:Aside0 (gb153≠gb140):=⟨h9_⟩
     have n10_:Aside0 (gb154≠gb153):=⟨h10_⟩
     have n11_:Aside0 (gb153≠gb154):=⟨h11_⟩
     have n12_:Aside0 (w.heap.size≤gb154):=⟨h12_⟩
     have n13_:Aside0 (w.heap.size≤gb154):=⟨h13_⟩
     have n14_:Aside0 (gb139≠gb154):=⟨h14_⟩
     have n15_:Aside0 (gb154≠gb139):=⟨h15_⟩
     have n16_:Aside0 (gb140≠gb154):=⟨h16_⟩
     have n17_:Aside0 (gb154≠gb140):=⟨h17_⟩
     have n18_:Aside0 (Below w.heap.size w w45):=⟨h18_⟩
     clear BK139
     clear BK140
     clear HB
     clear h0_ h1_ h2_ h3_ h4_ h5_ h6_ h7_ h8_ h9_ h10_ h11_ h12_ h13_ h14_ h15_ h16_ h17_ h18_
     have BK139:=n0_
     have BK140:=n1_
     have BK153:=n2_
     have BK154:=n3_
     have GW153:=n4_
     have GE153:=n5_
     have NB139_153:=n6_
     have NB153_139:=n7_
     have NB140_153:=n8_
     have NB153_140:=n9_
     have NB154_153:=n10_
     have NB153_154:=n11_
     have GW154:=n12_
     have GE154:=n13_
     have NB139_154:=n14_
     have NB154_139:=n15_
     have NB140_154:=n16_
     have NB154_140:=n17_
     have HB:=n18_
     clear n0_ n1_ n2_ n3_ n4_ n5_ n6_ n7_ n8_ n9_ n10_ n11_ n12_ n13_ n14_ n15_ n16_ n17_ n18_
     have hHeld:w45.cell? ⟨gb139,0,none⟩=some (.int .i64 t145)∧w45.cell? ⟨gb139,1,none⟩=some (.int .i64 t146)∧w45.cell? ⟨gb139,2,none⟩=some (.int .i64 t147)∧w45.cell? ⟨gb139,3,none⟩=some (.int .i64 t148):=hS_
     refine norm_ (a':=?_) ?_ ?_
     rotate_left
     ·
      simp only[putAll,Act.put,List.setIfInBounds_toArray,List.set_cons_zero,List.set_cons_succ]
      rfl
     refine Hd.o_ HT_ 6 (none) #[Y,Y,Y,Y,Y,Y,Y,Z] (fun K hK=>?_)
     have hs46:w45.cell? ⟨gb153,0,none⟩=some (.int .i64 0):=(blk_cell BK153.out 0).trans rfl
     have hfs46:=blk_frozen BK153.out 0
     have hns46_0:=NB139_153.out
     have hns46_1:=NB140_153.out
     have hns46_3:=NB154_153.out
     have hms46_0:=NB153_139.out
     have hms46_1:=NB153_140.out
     have hms46_3:=NB153_154.out
     have hs47:w45.cell? ⟨gb153,1,none⟩=some (.int .i64 0):=(blk_cell BK153.out 1).trans rfl
     have hfs47:=blk_frozen BK153.out 1
     have hns47_0:=NB139_153.out
     have hns47_1:=NB140_153.out
     have hns47_3:=NB154_153.out
     have hms47_0:=NB153_139.out
     have hms47_1:=NB153_140.out
     have hms47_3:=NB153_154.out
     refine skip_ (w1:=?_) (by rfl) rfl ?_ ?_
     rotate_left
     ·
      go_simp
      rfl
     refine hK.out _ _ ⟨((cell_far (p:=⟨gb153,_,none⟩) NB139_153.out _).trans (((cell_far (p:=⟨gb153,_,none⟩) NB139_153.out _).trans (hHeld.1)))),((cell_far (p:=⟨gb153,_,none⟩) NB139_153.out _).trans (((cell_far (p:=⟨gb153,_,none⟩) NB139_153.out _).trans (hHeld.2.1)))),((cell_far (p:=⟨gb153,_,none⟩) NB139_153.out _).trans (((cell_far (p:=⟨gb153,_,none⟩) NB139_153.out _).trans (hHeld.2.2.1)))),((cell_far (p:=⟨gb153,_,none⟩) NB139_153.out _).trans (((cell_far (p:=⟨gb153,_,none⟩) NB139_153.out _).trans (hHeld.2.2.2))))⟩ (fun hHeld=>?_)
     clear hK K
     refine Hd.o_ HT_ 7 (none) #[Y,Y,Y,Y,Y,Y,Y,Y] (fun K hK=>?_)
     have hs48:w45.cell? ⟨gb154,0,none⟩=some (.int .i64 0):=(blk_cell BK154.out 0).trans rfl
     have hfs48:=blk_frozen BK154.out 0
     have hns48_0:=NB139_154.out
     have hns48_1:=NB140_154.out
     have hns48_2:=NB153_154.out
     have hms48_0:=NB154_139.out
     have hms48_1:=NB154_140.out
     have hms48_2:=NB154_153.out
     have hs49:w45.cell? ⟨gb154,1,none⟩=some (.int .i64 0):=(blk_cell BK154.out 1).trans rfl
     have hfs49:=blk_frozen BK154.out 1
     have hns49_0:=NB139_154.out
     have hns49_1:=NB140_154.out
     have hns49_2:=NB153_154.out
     have hms49_0:=NB154_139.out
     have hms49_1:=NB154_140.out
     have hms49_2:=NB154_153.out
     refine skip_ (w1:=?_) (by rfl) rfl ?_ ?_
     rotate_left
     ·
      go_simp
      rfl
     refine hK.out _ _ ⟨((cell_far (p:=⟨gb154,_,none⟩) NB139_154.out _).trans (((cell_far (p:=⟨gb154,_,none⟩) NB139_154.out _).trans (hHeld.1)))),((cell_far (p:=⟨gb154,_,none⟩) NB139_154.out _).trans (((cell_far (p:=⟨gb154,_,none⟩) NB139_154.out _).trans (hHeld.2.1)))),((cell_far (p:=⟨gb154,_,none⟩) NB139_154.out _).trans (((cell_far (p:=⟨gb154,_,none⟩) NB139_154.out _).trans (hHeld.2.2.1)))),((cell_far (p:=⟨gb154,_,none⟩) NB139_154.out _).trans (((cell_far (p:=⟨gb154,_,none⟩) NB139_154.out _).trans (hHeld.2.2.2))))⟩ (fun hHeld=>?_)
     clear hK K
     refine done_ (done_of HT_.out (by kernel_rfl)) ?_
     have hnb50:=NB153_139.out
     have hnc50:=NB139_153.out
     have hnb51:=NB153_140.out
     have hnc51:=NB140_153.out
     have hnb52:=NB153_154.out
     have hnc52:=NB154_153.out
     obtain⟨hcz53_0,hcz53_1⟩:=Hd.c2_ BK153.out
     obtain⟨hfz53_0,hfz53_1⟩:=Hd.f2_ BK153.out
     have hnb54:=NB140_139.out
     have hnc54:=NB139_140.out
     have hnb55:=NB140_154.out
     have hnc55:=NB154_140.out
     obtain⟨hcz56_0,hcz56_1,hcz56_2,hcz56_3⟩:=Hd.c4_ BK140.out
     obtain⟨hfz56_0,hfz56_1,hfz56_2,hfz56_3⟩:=Hd.f4_ BK140.out
     go_upto_if 48 with (first|((with_reducible refine gate_callee (f:=93) rfl ?_);refine Hd.gl_ 48 Try.func93 #[.agg #[.int .i64 t145,.int .i64 t146],.agg #[.int .i64 t149,.int .i64 t150]] ?_;(with_reducible refine(impl_BeforePoint.calls t145 t146 t149 t150 t155 _ A28.out).mono ?_);rintro e w57 ⟨rfl,hb⟩;refine⟨_,rfl,?_⟩;replace BK139:=ak (blk_below (g:=gb139) (o:=.cells #[.int .i64 t145,.int .i64 t146,.int .i64 t147,.int .i64 t148] 101 (0,0)) (z82_ NB139_154 NB139_153 BK139) hb);replace BK140:=ak (blk_below (g:=gb140) (o:=.cells #[.int .i64 t149,.int .i64 t150,.int .i64 t151,.int .i64 t152] 101 (0,0)) (z82_ NB140_154 NB140_153 BK140) hb);replace BK153:=ak (blk_below (g:=gb153) (o:=.cells #[.int .i64 t145,.int .i64 t146] 75 (0,0)) (by (with_reducible repeat (first|refine blk_drewN ?_ _|refine blk_drew ?_|refine blk_alloc ?_ _));refine blk_far ?_ NB153_154.out _;(with_reducible repeat (first|refine blk_drewN ?_ _|refine blk_drew ?_|refine blk_alloc ?_ _));refine blk_far ?_ NB153_154.out _;(with_reducible repeat (first|refine blk_drewN ?_ _|refine blk_drew ?_|refine blk_alloc ?_ _));refine blk_put (cs:=#[.int .i64 t145,.int .i64 0]) ?_ 1 _ rfl;(with_reducible repeat (first|refine blk_drewN ?_ _|refine blk_drew ?_|refine blk_alloc ?_ _));refine blk_put (cs:=#[.int .i64 0,.int .i64 0]) ?_ 0 _ rfl;(with_reducible repeat (first|refine blk_drewN ?_ _|refine blk_drew ?_|refine blk_alloc ?_ _));exact BK153.out) hb);replace BK154:=ak (blk_below (g:=gb154) (o:=.cells #[.int .i64 t147,.int .i64 t148] 75 (0,0)) (by (with_reducible repeat (first|refine blk_drewN ?_ _|refine blk_drew ?_|refine blk_alloc ?_ _));refine blk_put (cs:=#[.int .i64 t147,.int .i64 0]) ?_ 1 _ rfl;(with_reducible repeat (first|refine blk_drewN ?_ _|refine blk_drew ?_|refine blk_alloc ?_ _));refine blk_put (cs:=#[.int .i64 0,.int .i64 0]) ?_ 0 _ rfl;(with_reducible repeat (first|refine blk_drewN ?_ _|refine blk_drew ?_|refine blk_alloc ?_ _));refine blk_far ?_ NB154_153.out _;(with_reducible repeat (first|refine blk_drewN ?_ _|refine blk_drew ?_|refine blk_alloc ?_ _));refine blk_far ?_ NB154_153.out _;(with_reducible repeat (first|refine blk_drewN ?_ _|refine blk_drew ?_|refine blk_alloc ?_ _));exact BK154.out) hb);replace HB:=z17_;(try clear hb)))
     (try simp only[Act.put,List.setIfInBounds_toArray,List.set_cons_zero,List.set_cons_succ])
     go_cut [] (fun wc=>∃ (kq:Nat) (x154000_28:Int) (x154001_28:Int),Aside0 (impl_HowMeet.j2 kq t149 t150 t151 t152 x154000_28 x154001_28 t147 t148=some r)∧Aside0 (kq≤kj19)∧Aside0 (wc.heap[gb139]?=some (.cells #[.int .i64 t145,.int .i64 t146,.int .i64 t147,.int .i64 t148] 101 (0,0)))∧Aside0 (wc.heap[gb140]?=some (.cells #[.int .i64 t149,.int .i64 t150,.int .i64 t151,.int .i64 t152] 101 (0,0)))∧Aside0 (wc.heap[gb153]?=some (.cells #[.int .i64 x154000_28,.int .i64 x154001_28] 75 (0,0)))∧Aside0 (wc.heap[gb154]?=some (.cells #[.int .i64 t147,.int .i64 t148] 75 (0,0)))∧Aside0 (Below w.heap.size w wc))
     case first =>
      have H:=HC29.out
      clear HC29
      by_cases c58:t155=true;rotate_left
      ·
       replace c58:=Bool.eq_false_iff.mpr c58
       subst c58
       rw [if_neg (show ¬ (false=true) by decide)] at H
       have H':=ak H
       clear H
       go_wp2
       go_meet
       case rel=>exact⟨_,(t145),(t146),H',⟨z144_⟩,⟨z6_ BK139⟩,⟨z6_ BK140⟩,⟨z6_ BK153⟩,⟨z6_ BK154⟩,⟨Hd.b_⟩⟩
      subst c58
      rw [if_pos rfl] at H
      have H':=ak H
      clear H
      have hnb59:=NB140_139.out
      have hnc59:=NB139_140.out
      have hnb60:=NB140_153.out
      have hnc60:=NB153_140.out
      have hnb61:=NB140_154.out
      have hnc61:=NB154_140.out
      obtain⟨hcz62_0,hcz62_1,hcz62_2,hcz62_3⟩:=Hd.c4_ BK140.out
      obtain⟨hfz62_0,hfz62_1,hfz62_2,hfz62_3⟩:=Hd.f4_ BK140.out
      have hnb63:=NB153_139.out
      have hnc63:=NB139_153.out
      have hnb64:=NB153_154.out
      have hnc64:=NB154_153.out
      obtain⟨hcz65_0,hcz65_1⟩:=Hd.c2_ BK153.out
      obtain⟨hfz65_0,hfz65_1⟩:=Hd.f2_ BK153.out
      go_wp2
      go_meet
      case rel=>exact⟨_,(t149),(t150),H',⟨z144_⟩,⟨z22_ NB139_153 BK139⟩,⟨z22_ NB140_153 BK140⟩,⟨by (with_reducible repeat (first|refine blk_drewN ?_ _|refine blk_drew ?_|refine blk_alloc ?_ _));refine blk_put (cs:=#[.int .i64 t149,.int .i64 t146]) ?_ 1 _ rfl;(with_reducible repeat (first|refine blk_drewN ?_ _|refine blk_drew ?_|refine blk_alloc ?_ _));refine blk_put (cs:=#[.int .i64 t145,.int .i64 t146]) ?_ 0 _ rfl;(with_reducible repeat (first|refine blk_drewN ?_ _|refine blk_drew ?_|refine blk_alloc ?_ _));exact BK153.out⟩,⟨z22_ NB154_153 BK154⟩,⟨Hd.b_⟩⟩
     case rest =>
      clear HC29
      try clear c7;try clear c17;try clear c24;try clear c24b0;try clear c24b1;try clear c25;try clear c58;try clear hcz10_0;try clear hcz10_1;try clear hcz10_2;try clear hcz10_3;try clear hcz12_0;try clear hcz12_1;try clear hcz12_2;try clear hcz12_3;try clear hcz15_0;try clear hcz15_1;try clear hcz15_2;try clear hcz15_3;try clear hcz53_0;try clear hcz53_1;try clear hcz56_0;try clear hcz56_1;try clear hcz56_2;try clear hcz56_3;try clear hcz62_0;try clear hcz62_1;try clear hcz62_2;try clear hcz62_3;try clear hcz65_0;try clear hcz65_1;try clear hfz10_0;try clear hfz10_1;try clear hfz10_2;try clear hfz10_3;try clear hfz12_0;try clear hfz12_1;try clear hfz12_2;try clear hfz12_3;try clear hfz15_0;try clear hfz15_1;try clear hfz15_2;try clear hfz15_3;try clear hfz53_0;try clear hfz53_1;try clear hfz56_0;try clear hfz56_1;try clear hfz56_2;try clear hfz56_3;try clear hfz62_0;try clear hfz62_1;try clear hfz62_2;try clear hfz62_3;try clear hfz65_0;try clear hfz65_1
      obtain⟨kq,x154000_28,x154001_28,HA,HJ28,BK139,BK140,BK153,BK154,HB⟩:=hcut
      cases kq with
      | zero=>exact absurd HA.out (by simp [impl_HowMeet.j2])
      | succ kj28 =>
       have H:=HA.out
       clear HA
       simp only[impl_HowMeet.j2] at H
       replace H:=Hd.bd_ H;obtain⟨t156,A66,H⟩:=H
       have HC67:=ak H
       clear H
       have hnb68:=NB140_139.out
       have hnc68:=NB139_140.out
       have hnb69:=NB140_153.out
       have hnc69:=NB153_140.out
       have hnb70:=NB140_154.out
       have hnc70:=NB154_140.out
       obtain⟨hcz71_0,hcz71_1,hcz71_2,hcz71_3⟩:=Hd.c4_ BK140.out
       obtain⟨hfz71_0,hfz71_1,hfz71_2,hfz71_3⟩:=Hd.f4_ BK140.out
       have hnb72:=NB154_139.out
       have hnc72:=NB139_154.out
       have hnb73:=NB154_153.out
       have hnc73:=NB153_154.out
       obtain⟨hcz74_0,hcz74_1⟩:=Hd.c2_ BK154.out
       obtain⟨hfz74_0,hfz74_1⟩:=Hd.f2_ BK154.out
       go_upto_if 54 with (first|((with_reducible refine gate_callee (f:=93) rfl ?_);refine Hd.gl_ 54 Try.func93 #[.agg #[.int .i64 t151,.int .i64 t152],.agg #[.int .i64 t147,.int .i64 t148]] ?_;(with_reducible refine(impl_BeforePoint.calls t151 t152 t147 t148 t156 _ A66.out).mono ?_);rintro e w75 ⟨rfl,hb⟩;refine⟨_,rfl,?_⟩;replace BK139:=z99_;replace BK140:=z102_;replace BK153:=ak (Hd.kb_ BK153 hb);replace BK154:=ak (Hd.kb_ BK154 hb);replace HB:=z17_;(try clear hb)))
       (try simp only[Act.put,List.setIfInBounds_toArray,List.set_cons_zero,List.set_cons_succ])
       go_cut [] (fun wc=>∃ (kq:Nat) (x155000_66:Int) (x155001_66:Int),Aside0 (impl_HowMeet.j3 kq x154000_28 x154001_28 x155000_66 x155001_66=some r)∧Aside0 (kq≤kj28)∧Aside0 (wc.heap[gb139]?=some (.cells #[.int .i64 t145,.int .i64 t146,.int .i64 t147,.int .i64 t148] 101 (0,0)))∧Aside0 (wc.heap[gb140]?=some (.cells #[.int .i64 t149,.int .i64 t150,.int .i64 t151,.int .i64 t152] 101 (0,0)))∧Aside0 (wc.heap[gb153]?=some (.cells #[.int .i64 x154000_28,.int .i64 x154001_28] 75 (0,0)))∧Aside0 (wc.heap[gb154]?=some (.cells #[.int .i64 x155000_66,.int .i64 x155001_66] 75 (0,0)))∧Aside0 (Below w.heap.size w wc))
       case first =>
        have H:=HC67.out
        clear HC67
        by_cases c76:t156=true;rotate_left
        ·
         replace c76:=Bool.eq_false_iff.mpr c76
         subst c76
         rw [if_neg (show ¬ (false=true) by decide)] at H
         have H':=ak H
         clear H
         go_wp2
         go_meet
         case rel=>exact⟨_,(t147),(t148),H',⟨by have:=HJ2.out;have:=HJ19.out;have:=HJ28.out;first|omega|exact Nat.le_refl _⟩,⟨z6_ BK139⟩,⟨z6_ BK140⟩,⟨z6_ BK153⟩,⟨z6_ BK154⟩,⟨Hd.b_⟩⟩
        subst c76
        rw [if_pos rfl] at H
        have H':=ak H
        clear H
        have hnb77:=NB140_139.out
        have hnc77:=NB139_140.out
        have hnb78:=NB140_153.out
        have hnc78:=NB153_140.out
        have hnb79:=NB140_154.out
        have hnc79:=NB154_140.out
        obtain⟨hcz80_0,hcz80_1,hcz80_2,hcz80_3⟩:=Hd.c4_ BK140.out
        obtain⟨hfz80_0,hfz80_1,hfz80_2,hfz80_3⟩:=Hd.f4_ BK140.out
        have hnb81:=NB154_139.out
        have hnc81:=NB139_154.out
        have hnb82:=NB154_153.out
        have hnc82:=NB153_154.out
        obtain⟨hcz83_0,hcz83_1⟩:=Hd.c2_ BK154.out
        obtain⟨hfz83_0,hfz83_1⟩:=Hd.f2_ BK154.out
        go_wp2
        go_meet
        case rel=>exact⟨_,(t151),(t152),H',⟨by have:=HJ2.out;have:=HJ19.out;have:=HJ28.out;first|omega|exact Nat.le_refl _⟩,⟨z22_ NB139_154 BK139⟩,⟨z22_ NB140_154 BK140⟩,⟨z22_ NB153_154 BK153⟩,⟨by (with_reducible repeat (first|refine blk_drewN ?_ _|refine blk_drew ?_|refine blk_alloc ?_ _));refine blk_put (cs:=#[.int .i64 t151,.int .i64 t148]) ?_ 1 _ rfl;(with_reducible repeat (first|refine blk_drewN ?_ _|refine blk_drew ?_|refine blk_alloc ?_ _));refine blk_put (cs:=#[.int .i64 t147,.int .i64 t148]) ?_ 0 _ rfl;(with_reducible repeat (first|refine blk_drewN ?_ _|refine blk_drew ?_|refine blk_alloc ?_ _));exact BK154.out⟩,⟨Hd.b_⟩⟩
       case rest =>
        clear HC67
        try clear c7;try clear c17;try clear c24;try clear c24b0;try clear c24b1;try clear c25;try clear c58;try clear c76;try clear hcz10_0;try clear hcz10_1;try clear hcz10_2;try clear hcz10_3;try clear hcz12_0;try clear hcz12_1;try clear hcz12_2;try clear hcz12_3;try clear hcz15_0;try clear hcz15_1;try clear hcz15_2;try clear hcz15_3;try clear hcz53_0;try clear hcz53_1;try clear hcz56_0;try clear hcz56_1;try clear hcz56_2;try clear hcz56_3;try clear hcz62_0;try clear hcz62_1;try clear hcz62_2;try clear hcz62_3;try clear hcz65_0;try clear hcz65_1;try clear hcz71_0;try clear hcz71_1;try clear hcz71_2;try clear hcz71_3;try clear hcz74_0;try clear hcz74_1;try clear hcz80_0;try clear hcz80_1;try clear hcz80_2;try clear hcz80_3;try clear hcz83_0;try clear hcz83_1;try clear hfz10_0;try clear hfz10_1;try clear hfz10_2;try clear hfz10_3;try clear hfz12_0;try clear hfz12_1;try clear hfz12_2;try clear hfz12_3;try clear hfz15_0;try clear hfz15_1;try clear hfz15_2;try clear hfz15_3;try clear hfz53_0;try clear hfz53_1;try clear hfz56_0;try clear hfz56_1;try clear hfz56_2;try clear hfz56_3;try clear hfz62_0;try clear hfz62_1;try clear hfz62_2;try clear hfz62_3;try clear hfz65_0;try clear hfz65_1;try clear hfz71_0;try clear hfz71_1;try clear hfz71_2;try clear hfz71_3;try clear hfz74_0;try clear hfz74_1;try clear hfz80_0;try clear hfz80_1;try clear hfz80_2;try clear hfz80_3;try clear hfz83_0;try clear hfz83_1
        obtain⟨kq,x155000_66,x155001_66,HA,HJ66,BK139,BK140,BK153,BK154,HB⟩:=hcut
        cases kq with
        | zero=>exact absurd HA.out (by simp [impl_HowMeet.j3])
        | succ kj66 =>
         have H:=HA.out
         clear HA
         simp only[impl_HowMeet.j3] at H
         replace H:=Hd.bd_ H;obtain⟨t157,A84,H⟩:=H
         by_cases c85:t157=true
         ·
          subst c85
          rw [if_pos rfl] at H
          obtain rfl:=Option.some.inj H
          have hnb86:=NB154_139.out
          have hnc86:=NB139_154.out
          have hnb87:=NB154_140.out
          have hnc87:=NB140_154.out
          have hnb88:=NB154_153.out
          have hnc88:=NB153_154.out
          obtain⟨hcz89_0,hcz89_1⟩:=Hd.c2_ BK154.out
          obtain⟨hfz89_0,hfz89_1⟩:=Hd.f2_ BK154.out
          have hnb90:=NB153_139.out
          have hnc90:=NB139_153.out
          have hnb91:=NB153_140.out
          have hnc91:=NB140_153.out
          obtain⟨hcz92_0,hcz92_1⟩:=Hd.c2_ BK153.out
          obtain⟨hfz92_0,hfz92_1⟩:=Hd.f2_ BK153.out
          go_wp2_with (first|((with_reducible refine gate_callee (f:=93) rfl ?_);refine Hd.gl_ 60 Try.func93 #[.agg #[.int .i64 x155000_66,.int .i64 x155001_66],.agg #[.int .i64 x154000_28,.int .i64 x154001_28]] ?_;(with_reducible refine(impl_BeforePoint.calls x155000_66 x155001_66 x154000_28 x154001_28 true _ A84.out).mono ?_);rintro e w93 ⟨rfl,hb⟩;refine⟨_,rfl,?_⟩;replace BK139:=z99_;replace BK140:=z102_;replace BK153:=ak (Hd.kb_ BK153 hb);replace BK154:=ak (Hd.kb_ BK154 hb);replace HB:=z17_;(try clear hb)))
          go_ret
          exact⟨Hd.e_,Hd.b_⟩
         replace c85:=Bool.eq_false_iff.mpr c85
         subst c85
         rw [if_neg (show ¬ (false=true) by decide)] at H
         by_cases c94:(x154000_28==x155000_66&&(x154001_28==x155001_66))=true
         ·
          rw [if_pos c94] at H
          have c94b0:(x154000_28==x155000_66&&(x154001_28==x155001_66))=true:=c94
          (try (have c94b1:decide (x154000_28=x155000_66&&(x154001_28==x155001_66))=true:=by simpa using c94))
          (try (have c94b2:(x154000_28==x155000_66&&(x154001_28==x155001_66))=true:=by simpa using c94))
          clear c94
          obtain rfl:=Option.some.inj H
          have hnb95:=NB154_139.out
          have hnc95:=NB139_154.out
          have hnb96:=NB154_140.out
          have hnc96:=NB140_154.out
          have hnb97:=NB154_153.out
          have hnc97:=NB153_154.out
          obtain⟨hcz98_0,hcz98_1⟩:=Hd.c2_ BK154.out
          obtain⟨hfz98_0,hfz98_1⟩:=Hd.f2_ BK154.out
          have hnb99:=NB153_139.out
          have hnc99:=NB139_153.out
          have hnb100:=NB153_140.out
          have hnc100:=NB140_153.out
          obtain⟨hcz101_0,hcz101_1⟩:=Hd.c2_ BK153.out
          obtain⟨hfz101_0,hfz101_1⟩:=Hd.f2_ BK153.out
          go_wp2_with (first|((with_reducible refine gate_callee (f:=93) rfl ?_);refine Hd.gl_ 60 Try.func93 #[.agg #[.int .i64 x155000_66,.int .i64 x155001_66],.agg #[.int .i64 x154000_28,.int .i64 x154001_28]] ?_;(with_reducible refine(impl_BeforePoint.calls x155000_66 x155001_66 x154000_28 x154001_28 false _ A84.out).mono ?_);rintro e w102 ⟨rfl,hb⟩;refine⟨_,rfl,?_⟩;replace BK139:=z99_;replace BK140:=z102_;replace BK153:=ak (Hd.kb_ BK153 hb);replace BK154:=ak (Hd.kb_ BK154 hb);replace HB:=z17_;(try clear hb);obtain⟨hcz103_0,hcz103_1⟩:=Hd.c2_ BK153.out;obtain⟨hfz103_0,hfz103_1⟩:=Hd.f2_ BK153.out;obtain⟨hcz104_0,hcz104_1⟩:=Hd.c2_ BK154.out;obtain⟨hfz104_0,hfz104_1⟩:=Hd.f2_ BK154.out))
          go_ret
          exact⟨Hd.e_,Hd.b_⟩
         rw [if_neg c94] at H
         have c94b0:(x154000_28==x155000_66&&(x154001_28==x155001_66))=false:=by simpa using c94
         (try (have c94b1:decide (x154000_28=x155000_66&&(x154001_28==x155001_66))=false:=by simpa using c94))
         (try (have c94b2:(x154000_28==x155000_66&&(x154001_28==x155001_66))=false:=by simpa using c94))
         (try (have c94b3:¬ (x154000_28=x155000_66&&(x154001_28==x155001_66)):=by simpa using c94))
         clear c94
         obtain rfl:=Option.some.inj H
         have hnb105:=NB154_139.out
         have hnc105:=NB139_154.out
         have hnb106:=NB154_140.out
         have hnc106:=NB140_154.out
         have hnb107:=NB154_153.out
         have hnc107:=NB153_154.out
         obtain⟨hcz108_0,hcz108_1⟩:=Hd.c2_ BK154.out
         obtain⟨hfz108_0,hfz108_1⟩:=Hd.f2_ BK154.out
         have hnb109:=NB153_139.out
         have hnc109:=NB139_153.out
         have hnb110:=NB153_140.out
         have hnc110:=NB140_153.out
         obtain⟨hcz111_0,hcz111_1⟩:=Hd.c2_ BK153.out
         obtain⟨hfz111_0,hfz111_1⟩:=Hd.f2_ BK153.out
         go_wp2_with (first|((with_reducible refine gate_callee (f:=93) rfl ?_);refine Hd.gl_ 60 Try.func93 #[.agg #[.int .i64 x155000_66,.int .i64 x155001_66],.agg #[.int .i64 x154000_28,.int .i64 x154001_28]] ?_;(with_reducible refine(impl_BeforePoint.calls x155000_66 x155001_66 x154000_28 x154001_28 false _ A84.out).mono ?_);rintro e w112 ⟨rfl,hb⟩;refine⟨_,rfl,?_⟩;replace BK139:=z99_;replace BK140:=z102_;replace BK153:=ak (Hd.kb_ BK153 hb);replace BK154:=ak (Hd.kb_ BK154 hb);replace HB:=z17_;(try clear hb);obtain⟨hcz113_0,hcz113_1⟩:=Hd.c2_ BK153.out;obtain⟨hfz113_0,hfz113_1⟩:=Hd.f2_ BK153.out;obtain⟨hcz114_0,hcz114_1⟩:=Hd.c2_ BK154.out;obtain⟨hfz114_0,hfz114_1⟩:=Hd.f2_ BK154.out))
         go_ret
         exact⟨Hd.e_,Hd.b_⟩
end Go.Proofs.Ytbbdhlggnglfgaa.MFnFeatures
