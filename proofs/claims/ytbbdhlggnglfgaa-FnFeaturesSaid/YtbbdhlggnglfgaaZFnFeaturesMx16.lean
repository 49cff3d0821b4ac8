-- Laid by this session's program pp.py, after the kit's print and texts of the session's own. Not trusted: Lean checks it.
import Derived.Test.YtbbdhlggnglfgaaZFnFeaturesMx0
import Derived.Test.YtbbdhlggnglfgaaZFnFeaturesMx11
import Derived.Test.YtbbdhlggnglfgaaZFnFeaturesMx14
import Derived.Test.YtbbdhlggnglfgaaZFnFeaturesMx15
namespace Go.Proofs.Ytbbdhlggnglfgaa.MFnFeatures
open Go.RowKit Go.Proofs.YtbbdhlggnglfgaaW.PrintWords Go.Proofs.YtbbdhlggnglfgaaW.PrintLast Go.Proofs.YtbbdhlggnglfgaaW.PrintMore
attribute [local go_sem] max2_int min2_int max_two min_two max_three min_three max_four min_four
set_option linter.unusedVariables false
set_option maxHeartbeats 8000000
set_option maxRecDepth 100000
set_option linter.unusedSimpArgs false
def spec_IsFeature.j0:Nat→Bool→Int→Int→Int→ByteArray→List (S75)→Option (Bool)
 | 0,_,_,_,_,_,_=>none
 | k+1,x23,x441000,x441001,x441002,x441003,x441004=>if x23=true then (some false) else (if x441001=1 then (if (x441004.length:Int)=1 then (if 0<(x441004.length:Int) then ((spec_IsPoint.f ((rd_T75 x441004 0).f0) ((rd_T75 x441004 0).f1)).bind fun t445=>(some t445)) else (none)) else (some false)) else (if x441001=2 then ((spec_IsSimple.f k x441004).bind fun t446=>(some t446)) else (if x441001=3 then ((spec_IsRing.f k x441004).bind fun t447=>(some t447)) else (some false))))
def spec_IsFeature.f (k:Nat) (a0_0:Int) (a0_1:Int) (a0_2:Int) (a0_3:ByteArray) (l0_4:List (S75)):Option (Bool):=(spec_l1In.f a0_0 1 99).bind fun t441=>(if t441=true then ((spec_l1In.f a0_2 0 9).bind fun t442=>(if t442=true then (if a0_3.toList=([]:List UInt8) then (spec_IsFeature.j0 k false a0_0 a0_1 a0_2 a0_3 l0_4) else ((spec_IsName.f k a0_3).bind fun t443=>(spec_IsFeature.j0 k (!t443) a0_0 a0_1 a0_2 a0_3 l0_4))) else (spec_IsFeature.j0 k true a0_0 a0_1 a0_2 a0_3 l0_4))) else (spec_IsFeature.j0 k true a0_0 a0_1 a0_2 a0_3 l0_4))
theorem spec_IsFeature.calls (k:Nat) (a0_0:Int) (a0_1:Int) (a0_2:Int) (a0_3:ByteArray) (A0_4:Option Addr) (c0_4:Nat) (l0_4:List (S75)) (r:Bool) (w:World) (hr0_4:Kd.C k75 w A0_4 l0_4.length l0_4) (hc0_4:l0_4.length≤c0_4) (h:spec_IsFeature.f k a0_0 a0_1 a0_2 a0_3 l0_4=some r) :
  Calls Try.prog 60 #[.agg #[.int .i64 a0_0,.int .i64 a0_1,.int .i64 a0_2,.string a0_3,.slice A0_4 l0_4.length c0_4]] w fun e w'=>e = .returned (.bool r)∧Below w.heap.size w w':=by
 have hu34:=Try.underlying34
 have hu75:=Try.underlying75
 have HR0_4:=ak hr0_4
 have HC0_4:=ak hc0_4
 clear hr0_4 hc0_4
 have HB:=z52_
 have H:=h;clear h;unfold spec_IsFeature.f at H
 have HC2:=ak H
 clear H
 go_enter Try.func60,Try.ntmps60
 go_upto_region 1 with (first|((with_reducible refine gate_dst (N:=1) rfl ?_);refine Hd.box_ 1 (#[.int .i64 a0_0,.int .i64 a0_1,.int .i64 a0_2,.string a0_3,.slice A0_4 l0_4.length c0_4]) 34 ?_;intro gb440 hg w3 hbox hb;have BK440:=ak (hbox);have GW440:=ak ((Hd.g_ hg Hd.b_:w.heap.size≤gb440));have GE440:=ak ((Hd.g_ hg Hd.b_:w.heap.size≤gb440));replace HB:=z17_;clear hb hbox hg))
 (try simp only[Act.put,List.setIfInBounds_toArray,List.set_cons_zero,List.set_cons_succ])
 go_cut [23] (fun v23 wc=>∃ (kq:Nat) (x23_1:Bool),v23 = .bool x23_1∧Aside0 (spec_IsFeature.j0 kq x23_1 a0_0 a0_1 a0_2 a0_3 l0_4=some r)∧Aside0 (kq≤k)∧Aside0 (wc.heap[gb440]?=some (.cells #[.int .i64 a0_0,.int .i64 a0_1,.int .i64 a0_2,.string a0_3,(.slice A0_4 l0_4.length c0_4)] 34 (0,0)))∧Aside0 (Below w.heap.size w wc))
 case first =>
  have H:=HC2.out
  clear HC2
  replace H:=Hd.bd_ H;obtain⟨t441,A4,H⟩:=H
  by_cases c5:t441=true;rotate_left
  ·
   replace c5:=z171_
   subst c5
   rw [if_neg (show ¬ (false=true) by decide)] at H
   have H':=ak H
   clear H
   obtain⟨hcz13_0,hcz13_1,hcz13_2,hcz13_3,hcz13_4⟩:=Hd.c5_ BK440.out
   obtain⟨hfz13_0,hfz13_1,hfz13_2,hfz13_3,hfz13_4⟩:=Hd.f5_ BK440.out
   go_wp2_with (first|((with_reducible refine gate_callee (f:=79) rfl ?_);refine Hd.gl_ 5 Try.func79 #[.int .i64 a0_0,.int .i64 1,.int .i64 99] ?_;(with_reducible refine(spec_l1In.calls a0_0 1 99 false _ A4.out).mono ?_);rintro e w' ⟨rfl,⟨nd,rfl⟩⟩;refine⟨_,rfl,?_⟩))
   go_meet
   case rel=>exact⟨_,(true),z14_,H',⟨z73_⟩,⟨z6_ BK440⟩,⟨Hd.b_⟩⟩
  subst c5
  rw [if_pos rfl] at H
  replace H:=Hd.bd_ H;obtain⟨t442,A6,H⟩:=H
  by_cases c7:t442=true;rotate_left
  ·
   replace c7:=Bool.eq_false_iff.mpr c7
   subst c7
   rw [if_neg (show ¬ (false=true) by decide)] at H
   have H':=ak H
   clear H
   obtain⟨hcz12_0,hcz12_1,hcz12_2,hcz12_3,hcz12_4⟩:=Hd.c5_ BK440.out
   obtain⟨hfz12_0,hfz12_1,hfz12_2,hfz12_3,hfz12_4⟩:=Hd.f5_ BK440.out
   go_wp2_with (first|((with_reducible refine gate_callee (f:=79) rfl ?_);refine Hd.gl_ 5 Try.func79 #[.int .i64 a0_0,.int .i64 1,.int .i64 99] ?_;(with_reducible refine(spec_l1In.calls a0_0 1 99 true _ A4.out).mono ?_);rintro e w' ⟨rfl,⟨nd,rfl⟩⟩;refine⟨_,rfl,?_⟩)|(go_at_call 79;(with_reducible refine(spec_l1In.calls a0_2 0 9 false _ A6.out).mono ?_);rintro e w' ⟨rfl,⟨nd,rfl⟩⟩))
   go_meet
   case rel=>exact⟨_,(true),z14_,H',⟨z73_⟩,⟨z6_ BK440⟩,⟨Hd.b_⟩⟩
  subst c7
  rw [if_pos rfl] at H
  by_cases c8:a0_3.toList=([]:List UInt8)
  ·
   rw [if_pos c8] at H
   have c8b0:=beq_iff_eq.mpr c8
   have c8b1:=bne_eq_false_iff_eq.mpr c8
   clear c8
   (first|rw [c8b0]|(simp only[i64_w,i32_w];rw [c8b0])|skip)
   have H':=ak H
   clear H
   obtain⟨hcz9_0,hcz9_1,hcz9_2,hcz9_3,hcz9_4⟩:=Hd.c5_ BK440.out
   obtain⟨hfz9_0,hfz9_1,hfz9_2,hfz9_3,hfz9_4⟩:=Hd.f5_ BK440.out
   go_wp2_with (first|((with_reducible refine gate_callee (f:=79) rfl ?_);refine Hd.gl_ 5 Try.func79 #[.int .i64 a0_0,.int .i64 1,.int .i64 99] ?_;(with_reducible refine(spec_l1In.calls a0_0 1 99 true _ A4.out).mono ?_);rintro e w' ⟨rfl,⟨nd,rfl⟩⟩;refine⟨_,rfl,?_⟩)|(go_at_call 79;(with_reducible refine(spec_l1In.calls a0_2 0 9 true _ A6.out).mono ?_);rintro e w' ⟨rfl,⟨nd,rfl⟩⟩))
   go_meet
   case rel=>exact⟨_,(false),z14_,H',⟨z73_⟩,⟨z6_ BK440⟩,⟨Hd.b_⟩⟩
  rw [if_neg c8] at H
  have c8b0:=beq_eq_false_iff_ne.mpr c8
  have c8b1:=bne_iff_ne.mpr c8
  (first|rw [c8b0]|(simp only[i64_w,i32_w];rw [c8b0])|skip)
  replace H:=Hd.bd_ H;obtain⟨t443,A10,H⟩:=H
  have H':=ak H
  clear H
  obtain⟨hcz11_0,hcz11_1,hcz11_2,hcz11_3,hcz11_4⟩:=Hd.c5_ BK440.out
  obtain⟨hfz11_0,hfz11_1,hfz11_2,hfz11_3,hfz11_4⟩:=Hd.f5_ BK440.out
  go_wp2_with (first|((with_reducible refine gate_callee (f:=79) rfl ?_);refine Hd.gl_ 5 Try.func79 #[.int .i64 a0_0,.int .i64 1,.int .i64 99] ?_;(with_reducible refine(spec_l1In.calls a0_0 1 99 true _ A4.out).mono ?_);rintro e w' ⟨rfl,⟨nd,rfl⟩⟩;refine⟨_,rfl,?_⟩)|(go_at_call 79;(with_reducible refine(spec_l1In.calls a0_2 0 9 true _ A6.out).mono ?_);rintro e w' ⟨rfl,⟨nd,rfl⟩⟩)|(go_at_call 80;(with_reducible refine(spec_IsName.calls k a0_3 t443 _ A10.out).mono ?_);rintro e w' ⟨rfl,⟨nd,rfl⟩⟩))
  go_meet
  case rel=>exact⟨_,(!t443),z14_,H',⟨z73_⟩,⟨z6_ BK440⟩,⟨Hd.b_⟩⟩
 case rest =>
  clear HC2
  try clear c5;try clear c7;try clear c8;try clear c8b0;try clear c8b1;try clear hcz11_0;try clear hcz11_1;try clear hcz11_2;try clear hcz11_3;try clear hcz11_4;try clear hcz12_0;try clear hcz12_1;try clear hcz12_2;try clear hcz12_3;try clear hcz12_4;try clear hcz13_0;try clear hcz13_1;try clear hcz13_2;try clear hcz13_3;try clear hcz13_4;try clear hcz9_0;try clear hcz9_1;try clear hcz9_2;try clear hcz9_3;try clear hcz9_4;try clear hfz11_0;try clear hfz11_1;try clear hfz11_2;try clear hfz11_3;try clear hfz11_4;try clear hfz12_0;try clear hfz12_1;try clear hfz12_2;try clear hfz12_3;try clear hfz12_4;try clear hfz13_0;try clear hfz13_1;try clear hfz13_2;try clear hfz13_3;try clear hfz13_4;try clear hfz9_0;try clear hfz9_1;try clear hfz9_2;try clear hfz9_3;try clear hfz9_4
  obtain⟨kq,x23_1,rfl,HA,HJ1,BK440,HB⟩:=hcut
  cases kq with
  | zero=>exact absurd HA.out (by simp [spec_IsFeature.j0])
  | succ kj1 =>
   have H:=HA.out
   clear HA
   simp only[spec_IsFeature.j0] at H
   by_cases c14:x23_1=true
   ·
    subst c14
    rw [if_pos rfl] at H
    obtain rfl:=Option.some.inj H
    go_wp2
    go_ret
    exact⟨Hd.e_,Hd.b_⟩
   replace c14:=Bool.eq_false_iff.mpr c14
   subst c14
   rw [if_neg (show ¬ (false=true) by decide)] at H
   by_cases c15:a0_1=1;rotate_left
   ·
    rw [if_neg c15] at H
    have c15b0:=beq_eq_false_iff_ne.mpr c15
    have c15b1:=bne_iff_ne.mpr c15
    by_cases c22:a0_1=2
    ·
     rw [if_pos c22] at H
     have c22b0:=beq_iff_eq.mpr c22
     have c22b1:=bne_eq_false_iff_eq.mpr c22
     clear c22
     replace H:=Hd.bd_ H;obtain⟨t446,A23,H⟩:=H
     obtain rfl:=Option.some.inj H
     obtain⟨hcz24_0,hcz24_1,hcz24_2,hcz24_3,hcz24_4⟩:=Hd.c5_ BK440.out
     obtain⟨hfz24_0,hfz24_1,hfz24_2,hfz24_3,hfz24_4⟩:=Hd.f5_ BK440.out
     go_wp2_with (first|((with_reducible refine gate_callee (f:=82) rfl ?_);refine Hd.gl_ 43 Try.func82 #[.slice A0_4 l0_4.length c0_4] ?_;(with_reducible refine(spec_IsSimple.calls kj1 _ _ l0_4 t446 _ ?side1 ?side2 A23.out).mono ?_);(case side1=>exact z15_ HR0_4);(case side2=>exact HC0_4.out);rintro e w25 ⟨rfl,hb⟩;refine⟨_,rfl,?_⟩;replace BK440:=ak (Hd.kb_ BK440 hb);replace HB:=z17_;(try clear hb)))
     go_ret
     exact⟨Hd.e_,Hd.b_⟩
    rw [if_neg c22] at H
    have c22b0:=beq_eq_false_iff_ne.mpr c22
    have c22b1:=bne_iff_ne.mpr c22
    by_cases c26:a0_1=3;rotate_left
    ·
     rw [if_neg c26] at H
     have c26b0:=beq_eq_false_iff_ne.mpr c26
     have c26b1:=bne_iff_ne.mpr c26
     obtain rfl:=Option.some.inj H
     obtain⟨hcz30_0,hcz30_1,hcz30_2,hcz30_3,hcz30_4⟩:=Hd.c5_ BK440.out
     obtain⟨hfz30_0,hfz30_1,hfz30_2,hfz30_3,hfz30_4⟩:=Hd.f5_ BK440.out
     go_wp2
     go_ret
     exact⟨Hd.e_,Hd.b_⟩
    rw [if_pos c26] at H
    have c26b0:=beq_iff_eq.mpr c26
    have c26b1:=bne_eq_false_iff_eq.mpr c26
    clear c26
    replace H:=Hd.bd_ H;obtain⟨t447,A27,H⟩:=H
    obtain rfl:=Option.some.inj H
    obtain⟨hcz28_0,hcz28_1,hcz28_2,hcz28_3,hcz28_4⟩:=Hd.c5_ BK440.out
    obtain⟨hfz28_0,hfz28_1,hfz28_2,hfz28_3,hfz28_4⟩:=Hd.f5_ BK440.out
    go_wp2_with (first|((with_reducible refine gate_callee (f:=83) rfl ?_);refine Hd.gl_ 48 Try.func83 #[.slice A0_4 l0_4.length c0_4] ?_;(with_reducible refine(spec_IsRing.calls kj1 _ _ l0_4 t447 _ ?side1 ?side2 A27.out).mono ?_);(case side1=>exact z15_ HR0_4);(case side2=>exact HC0_4.out);rintro e w29 ⟨rfl,hb⟩;refine⟨_,rfl,?_⟩;replace BK440:=ak (Hd.kb_ BK440 hb);replace HB:=z17_;(try clear hb)))
    go_ret
    exact⟨Hd.e_,Hd.b_⟩
   rw [if_pos c15] at H
   have c15b0:=beq_iff_eq.mpr c15
   have c15b1:=bne_eq_false_iff_eq.mpr c15
   clear c15
   by_cases c16:(l0_4.length:Int)=1;rotate_left
   ·
    rw [if_neg c16] at H
    have c16b0:=beq_eq_false_iff_ne.mpr c16
    have c16b1:=bne_iff_ne.mpr c16
    obtain rfl:=Option.some.inj H
    obtain⟨hcz21_0,hcz21_1,hcz21_2,hcz21_3,hcz21_4⟩:=Hd.c5_ BK440.out
    obtain⟨hfz21_0,hfz21_1,hfz21_2,hfz21_3,hfz21_4⟩:=Hd.f5_ BK440.out
    go_wp2
    go_ret
    exact⟨Hd.e_,Hd.b_⟩
   rw [if_pos c16] at H
   have c16b0:=beq_iff_eq.mpr c16
   have c16b1:=bne_eq_false_iff_eq.mpr c16
   clear c16
   by_cases c17:0<(l0_4.length:Int);rotate_left
   ·
    rw [if_neg c17] at H
    exact absurd H (by simp)
   rw [if_pos c17] at H
   have c17b0:=decide_eq_true c17
   have c17b1:decide (0<l0_4.length)=true:=decide_eq_true (by omega)
   clear c17
   replace H:=Hd.bd_ H;obtain⟨t445,A18,H⟩:=H
   obtain rfl:=Option.some.inj H
   obtain⟨hcz19_0,hcz19_1,hcz19_2,hcz19_3,hcz19_4⟩:=Hd.c5_ BK440.out
   obtain⟨hfz19_0,hfz19_1,hfz19_2,hfz19_3,hfz19_4⟩:=Hd.f5_ BK440.out
   have p444:0≤(0:Int):=(by omega)
   have q444:0<(l0_4.length:Int):=od_
   obtain⟨ad444,e444,hx444_0,hx444_1⟩:=at_T75 HR0_4.out 0 p444 q444
   cases e444
   have qi444:(0<l0_4.length)=True:=eq_true (by omega)
   (try rw [show ((0:Int)).toNat=0 from rfl] at hx444_0)
   (try rw [show 0*2=0 from rfl] at hx444_0)
   (try rw [Addr.add_zero'] at hx444_0)
   (try rw [show ((0:Int)).toNat=0 from rfl] at hx444_1)
   (try rw [show 0*2=0 from rfl] at hx444_1)
   (try rw [Addr.add_zero'] at hx444_1)
   replace hx444_0:=(HB.out.cell (bl_ w _ hx444_0)).trans hx444_0
   replace hx444_1:=(HB.out.cell (bl_ w _ hx444_1)).trans hx444_1
   replace p444:=eq_true p444
   replace q444:=eq_true q444
   go_wp2_with (first|(go_at_call 81;(with_reducible refine(spec_IsPoint.calls ((rd_T75 l0_4 0).f0) ((rd_T75 l0_4 0).f1) t445 _ A18.out).mono ?_);rintro e w20 ⟨rfl,hb⟩;replace BK440:=ak (Hd.kb_ BK440 hb);replace HB:=z17_;(try clear hb)))
   go_ret
   exact⟨Hd.e_,Hd.b_⟩
def spec_IsSource.l0:Nat→List (S34)→Int→Option (Bool)
 | 0,_,_=>none
 | k+1,x0,x3=>if x3<(x0.length:Int) then (if 0≤x3 then ((spec_IsFeature.f k ((rd_T34 x0 x3).f0) ((rd_T34 x0 x3).f1) ((rd_T34 x0 x3).f2) ((rd_T34 x0 x3).f3) ((rd_T34 x0 x3).f4)).bind fun t449=>(if t449=true then (if x3>0 then (if 0≤(wrap64 (x3-1)) then (if (wrap64 (x3-1))<(x0.length:Int) then (if ((rd_T34 x0 (wrap64 (x3-1))).f0)≥((rd_T34 x0 x3).f0) then (some false) else (spec_IsSource.l0 k x0 (wrap64 (x3+1)))) else (none)) else (none)) else (spec_IsSource.l0 k x0 (wrap64 (x3+1)))) else (some false))) else (none)) else (some (decide ((x0.length:Int)≤16)))
def spec_IsSource.f (k:Nat) (l0:List (S34)):Option (Bool):=spec_IsSource.l0 k l0 0
def spec_IsSource.T4:Bool × List (List Nat × List Nat):=(true,[([],[]),([],[]),([0,1],[0,1]),([2],[2]),([3],[3]),([4],[4]),([5,4],[5]),([6],[6]),([7,6],[6,7]),([8,6,6],[6,8]),([9],[9]),([9],[9]),([11,9],[9,11]),([10,12,9],[9,10,12]),([13,9],[9,13]),([14,9],[9,14]),([9],[9]),([9],[9]),([16,17,9],[9,16,17]),([18,9],[9,18]),([19,9],[9,19]),([15,20,9],[9,15,20]),([9,21,6],[6,9,21]),([6,22],[6,22])])
def spec_IsSource.B4:List Nat:=[0,0,3,7,15,31,63,127,255,511,1023,1023,3071,8191,16383,32767,1023,1023,197631,459775,984063,2097151,4194303,8388607]
theorem spec_IsSource.tab4:rtab .any (opsOf Try.f36 4)=spec_IsSource.T4:=by kernel_rfl
theorem spec_IsSource.bits4:waitsOk spec_IsSource.T4.2 spec_IsSource.B4=true:=by kernel_rfl
theorem spec_IsSource.calls (k:Nat) (A0:Option Addr) (c0:Nat) (l0:List (S34)) (r:Bool) (w:World) (hr0:Kd.C k34 w A0 l0.length l0) (hc0:l0.length≤c0) (h:spec_IsSource.f k l0=some r) :
  Calls Try.prog 36 #[.slice A0 l0.length c0] w fun e w'=>e = .returned (.bool r)∧Below w.heap.size w w':=by
 have hu34:=Try.underlying34
 have HR0:=ak hr0
 have HC0:=ak hc0
 clear hr0 hc0
 have HB:=z52_
 have H:=h;clear h;unfold spec_IsSource.f at H
 have H':=ak H
 clear H
 go_enter Try.func36,Try.ntmps36
 go_wp2
 go_loopg [3] k (fun kq v3 w'=>∃ (x3_1:Int),v3 = .int .i64 x3_1∧Aside0 (spec_IsSource.l0 kq l0 x3_1=some r)∧Aside0 (kq≤k)∧Aside0 (Below w.heap.size w w'))
 case atStart=>exact⟨(0),z14_,H',⟨Nat.le_refl _⟩,⟨Hd.b_⟩⟩
 case round =>
  clear H'
  obtain⟨x3_1,rfl,HA,HK1,HB⟩:=hrel
  cases gk with
  | zero=>exact absurd HA.out (by simp [spec_IsSource.l0])
  | succ k1 =>
   have H:=HA.out
   clear HA
   simp only[spec_IsSource.l0] at H
   by_cases c2:x3_1<(l0.length:Int);rotate_left
   ·
    rw [if_neg c2] at H
    have c2b0:=decide_eq_false c2
    clear c2
    obtain rfl:=Option.some.inj H
    go_wp2
    go_ret
    exact⟨Hd.e_,Hd.b_⟩
   rw [if_pos c2] at H
   have c2b0:=decide_eq_true c2
   clear c2
   by_cases c3:0≤x3_1;rotate_left
   ·
    rw [if_neg c3] at H
    exact absurd H (by simp)
   rw [if_pos c3] at H
   have c3b0:=decide_eq_true c3
   clear c3
   replace H:=Hd.bd_ H;obtain⟨t449,A4,H⟩:=H
   by_cases c5:t449=true;rotate_left
   ·
    replace c5:=z171_
    subst c5
    rw [if_neg (show ¬ (false=true) by decide)] at H
    obtain rfl:=Option.some.inj H
    try go_wp2
    replace HB:=z42_
    have p448:0≤(x3_1:Int):=od_
    have q448:x3_1<(l0.length:Int):=od_
    obtain⟨ad448,A448_4,c448_4,e448,hx448_0,hx448_1,hx448_2,hx448_3,hx448_4,hl448_4,hi448_4⟩:=at_T34 HR0.out x3_1 p448 q448
    have hw448_4:=hx448_4
    have hw448_3:=hx448_3
    have hw448_2:=hx448_2
    have hw448_1:=hx448_1
    have hw448_0:=hx448_0
    cases e448
    replace hx448_0:=z188_
    replace hx448_1:=z189_
    replace hx448_2:=z190_
    replace hx448_3:=z191_
    replace hx448_4:=z192_
    have HR448_4:=ak hi448_4
    have HC448_4:=ak hl448_4
    clear hi448_4 hl448_4
    replace p448:=eq_true p448
    replace q448:=eq_true q448
    refine start_ (n:=24) (S:=fun w'=>w'.cell? (ad448.add ((x3_1).toNat*5))=some (.int .i64 ((rd_T34 l0 x3_1).f0))∧w'.cell? ⟨(ad448.add ((x3_1).toNat*5)).block,(ad448.add ((x3_1).toNat*5)).off+1,none⟩=some (.int .i64 ((rd_T34 l0 x3_1).f1))∧w'.cell? ⟨(ad448.add ((x3_1).toNat*5)).block,(ad448.add ((x3_1).toNat*5)).off+2,none⟩=some (.int .i64 ((rd_T34 l0 x3_1).f2))∧w'.cell? ⟨(ad448.add ((x3_1).toNat*5)).block,(ad448.add ((x3_1).toNat*5)).off+3,none⟩=some (.string ((rd_T34 l0 x3_1).f3))∧w'.cell? ⟨(ad448.add ((x3_1).toNat*5)).block,(ad448.add ((x3_1).toNat*5)).off+4,none⟩=some (.slice A448_4 ((rd_T34 l0 x3_1).f4).length c448_4)) (ds:=[]) #[Z,Z,Z,Z,Z,Z,Z,Z,Z,Z,Z,Z,Z,Z,Z,Z,Z,Z,Z,Z,Z,Z,Z,Z] (by kernel_rfl) rfl rfl ⟨((HB.out.cell (bl_ w _ hw448_0)).trans hw448_0),((HB.out.cell (bl_ w _ hw448_1)).trans hw448_1),((HB.out.cell (bl_ w _ hw448_2)).trans hw448_2),((HB.out.cell (bl_ w _ hw448_3)).trans hw448_3),((HB.out.cell (bl_ w _ hw448_4)).trans hw448_4)⟩ (fun hHeld=>?_);refine with_tabW spec_IsSource.tab4 spec_IsSource.bits4 (fun HT_ HW_=>?_)
    generalize wr.drew=w17 at HB HR448_4 hx448_0 hx448_1 hx448_2 hx448_3 hx448_4 hHeld ⊢
    refine Hd.p_ HT_ 0 (some 10) #[Y,Z,Z,Z,Z,Z,Z,Z,Z,Z,Z,Z,Z,Z,Z,Z,Z,Z,Z,Z,Z,Z,Z,Z] ?_
    refine Hd.p_ HT_ 1 (some 11) #[Y,Y,Z,Z,Z,Z,Z,Z,Z,Z,Z,Z,Z,Z,Z,Z,Z,Z,Z,Z,Z,Z,Z,Z] ?_
    refine Hd.p_ HT_ 2 (some 12) #[Y,Y,Y,Z,Z,Z,Z,Z,Z,Z,Z,Z,Z,Z,Z,Z,Z,Z,Z,Z,Z,Z,Z,Z] ?_
    refine Hd.t_ HT_ HW_ hHeld 3 (some 13) #[Y,Y,Y,Y,Z,Z,Z,Z,Z,Z,Z,Z,Z,Z,Z,Z,Z,Z,Z,Z,Z,Z,Z,Z] ?_
    refine Hd.o_ HT_ 4 (some 14) #[Y,Y,Y,Y,Y,Z,Z,Z,Z,Z,Z,Z,Z,Z,Z,Z,Z,Z,Z,Z,Z,Z,Z,Z] (fun K hK=>?_)
    refine goes_ Try.func60 (by kernel_rfl) rfl #[.agg #[.int .i64 ((rd_T34 l0 x3_1).f0),.int .i64 ((rd_T34 l0 x3_1).f1),.int .i64 ((rd_T34 l0 x3_1).f2),.string ((rd_T34 l0 x3_1).f3),.slice A448_4 ((rd_T34 l0 x3_1).f4).length c448_4]] (by rfl) rfl rfl Hd.m_ ?_
    with_reducible refine(spec_IsFeature.calls k1 ((rd_T34 l0 x3_1).f0) ((rd_T34 l0 x3_1).f1) ((rd_T34 l0 x3_1).f2) ((rd_T34 l0 x3_1).f3) _ _ ((rd_T34 l0 x3_1).f4) false _ ?side1 ?side2 A4.out).mono ?_
    (case side1=>exact z15_ HR448_4)
    (case side2=>exact HC448_4.out)
    rintro e w18 ⟨rfl,hb⟩
    refine⟨_,rfl,?_⟩
    replace HB:=z17_
    try clear hb
    refine hK.out _ _ ⟨((HB.out.cell (bl_ w _ hw448_0)).trans hw448_0),((HB.out.cell (bl_ w _ hw448_1)).trans hw448_1),((HB.out.cell (bl_ w _ hw448_2)).trans hw448_2),((HB.out.cell (bl_ w _ hw448_3)).trans hw448_3),((HB.out.cell (bl_ w _ hw448_4)).trans hw448_4)⟩ (fun hHeld=>?_)
    clear hK K
    refine Hd.n_ (some 14) ?_
    refine Hd.p_ HT_ 5 (some 15) #[Y,Y,Y,Y,Y,Y,Z,Z,Z,Z,Z,Z,Z,Z,Z,Z,Z,Z,Z,Z,Z,Z,Z,Z] ?_
    refine Hd.p_ HT_ 6 (some 16) #[Y,Y,Y,Y,Y,Y,Y,Z,Z,Z,Z,Z,Z,Z,Z,Z,Z,Z,Z,Z,Z,Z,Z,Z] ?_
    refine pure_ (i:=7) (N:=some 17) (v:=undef) (a':=?_) #[Y,Y,Y,Y,Y,Y,Y,Y,Z,Z,Z,Z,Z,Z,Z,Z,Z,Z,Z,Z,Z,Z,Z,Z] rfl rfl (any_of HT_.out (by kernel_rfl)) (fun _ _ _ h=>h) (Or.inr ⟨by rfl,rfl⟩) ?_ ?_
    rotate_left
    ·
     simp only[Act.put,List.setIfInBounds_toArray,List.set_cons_zero,List.set_cons_succ,i64_w,i32_w]
     rfl
    refine pure_ (i:=8) (N:=some 18) (v:=undef) (a':=?_) #[Y,Y,Y,Y,Y,Y,Y,Y,Y,Z,Z,Z,Z,Z,Z,Z,Z,Z,Z,Z,Z,Z,Z,Z] rfl rfl (any_of HT_.out (by kernel_rfl)) (fun _ _ _ h=>h) (Or.inr ⟨by rfl,rfl⟩) ?_ ?_
    rotate_left
    ·
     simp only[Act.put,List.setIfInBounds_toArray,List.set_cons_zero,List.set_cons_succ,i64_w,i32_w]
     rfl
    refine pure_ (i:=9) (N:=some 19) (v:=undef) (a':=?_) #[Y,Y,Y,Y,Y,Y,Y,Y,Y,Y,Z,Z,Z,Z,Z,Z,Z,Z,Z,Z,Z,Z,Z,Z] rfl rfl (any_of HT_.out (by kernel_rfl)) (fun _ _ _ h=>h) (Or.inr ⟨by rfl,rfl⟩) ?_ ?_
    rotate_left
    ·
     simp only[Act.put,List.setIfInBounds_toArray,List.set_cons_zero,List.set_cons_succ,i64_w,i32_w]
     rfl
    refine pure_ (i:=10) (N:=some 20) (v:=undef) (a':=?_) #[Y,Y,Y,Y,Y,Y,Y,Y,Y,Y,Y,Z,Z,Z,Z,Z,Z,Z,Z,Z,Z,Z,Z,Z] rfl rfl (any_of HT_.out (by kernel_rfl)) (fun _ _ _ h=>h) (Or.inr ⟨by rfl,rfl⟩) ?_ ?_
    rotate_left
    ·
     simp only[Act.put,List.setIfInBounds_toArray,List.set_cons_zero,List.set_cons_succ,i64_w,i32_w]
     rfl
    refine pure_ (i:=11) (N:=some 21) (v:=undef) (a':=?_) #[Y,Y,Y,Y,Y,Y,Y,Y,Y,Y,Y,Y,Z,Z,Z,Z,Z,Z,Z,Z,Z,Z,Z,Z] rfl rfl (any_of HT_.out (by kernel_rfl)) (fun _ _ _ h=>h) (Or.inr ⟨by rfl,rfl⟩) ?_ ?_
    rotate_left
    ·
     simp only[Act.put,List.setIfInBounds_toArray,List.set_cons_zero,List.set_cons_succ,i64_w,i32_w]
     rfl
    refine pure_ (i:=12) (N:=some 22) (v:=undef) (a':=?_) #[Y,Y,Y,Y,Y,Y,Y,Y,Y,Y,Y,Y,Y,Z,Z,Z,Z,Z,Z,Z,Z,Z,Z,Z] rfl rfl (any_of HT_.out (by kernel_rfl)) (fun _ _ _ h=>h) (Or.inr ⟨by rfl,rfl⟩) ?_ ?_
    rotate_left
    ·
     simp only[Act.put,List.setIfInBounds_toArray,List.set_cons_zero,List.set_cons_succ,i64_w,i32_w]
     rfl
    refine pure_ (i:=13) (N:=some 23) (v:=undef) (a':=?_) #[Y,Y,Y,Y,Y,Y,Y,Y,Y,Y,Y,Y,Y,Y,Z,Z,Z,Z,Z,Z,Z,Z,Z,Z] rfl rfl (any_of HT_.out (by kernel_rfl)) (fun _ _ _ h=>h) (Or.inr ⟨by rfl,rfl⟩) ?_ ?_
    rotate_left
    ·
     simp only[Act.put,List.setIfInBounds_toArray,List.set_cons_zero,List.set_cons_succ,i64_w,i32_w]
     rfl
    refine pure_ (i:=14) (N:=some 24) (v:=undef) (a':=?_) #[Y,Y,Y,Y,Y,Y,Y,Y,Y,Y,Y,Y,Y,Y,Y,Z,Z,Z,Z,Z,Z,Z,Z,Z] rfl rfl (any_of HT_.out (by kernel_rfl)) (fun _ _ _ h=>h) (Or.inr ⟨by rfl,rfl⟩) ?_ ?_
    rotate_left
    ·
     simp only[Act.put,List.setIfInBounds_toArray,List.set_cons_zero,List.set_cons_succ,i64_w,i32_w]
     rfl
    refine pure_ (i:=15) (N:=some 25) (v:=undef) (a':=?_) #[Y,Y,Y,Y,Y,Y,Y,Y,Y,Y,Y,Y,Y,Y,Y,Y,Z,Z,Z,Z,Z,Z,Z,Z] rfl rfl (any_of HT_.out (by kernel_rfl)) (fun _ _ _ h=>h) (Or.inr ⟨by rfl,rfl⟩) ?_ ?_
    rotate_left
    ·
     simp only[Act.put,List.setIfInBounds_toArray,List.set_cons_zero,List.set_cons_succ,i64_w,i32_w]
     rfl
    refine pure_ (i:=16) (N:=some 26) (v:=undef) (a':=?_) #[Y,Y,Y,Y,Y,Y,Y,Y,Y,Y,Y,Y,Y,Y,Y,Y,Y,Z,Z,Z,Z,Z,Z,Z] rfl rfl (any_of HT_.out (by kernel_rfl)) (fun _ _ _ h=>h) (Or.inr ⟨by rfl,rfl⟩) ?_ ?_
    rotate_left
    ·
     simp only[Act.put,List.setIfInBounds_toArray,List.set_cons_zero,List.set_cons_succ,i64_w,i32_w]
     rfl
    refine pure_ (i:=17) (N:=some 27) (v:=undef) (a':=?_) #[Y,Y,Y,Y,Y,Y,Y,Y,Y,Y,Y,Y,Y,Y,Y,Y,Y,Y,Z,Z,Z,Z,Z,Z] rfl rfl (any_of HT_.out (by kernel_rfl)) (fun _ _ _ h=>h) (Or.inr ⟨by rfl,rfl⟩) ?_ ?_
    rotate_left
    ·
     simp only[Act.put,List.setIfInBounds_toArray,List.set_cons_zero,List.set_cons_succ,i64_w,i32_w]
     rfl
    refine pure_ (i:=18) (N:=some 28) (v:=undef) (a':=?_) #[Y,Y,Y,Y,Y,Y,Y,Y,Y,Y,Y,Y,Y,Y,Y,Y,Y,Y,Y,Z,Z,Z,Z,Z] rfl rfl (any_of HT_.out (by kernel_rfl)) (fun _ _ _ h=>h) (Or.inr ⟨by rfl,rfl⟩) ?_ ?_
    rotate_left
    ·
     simp only[Act.put,List.setIfInBounds_toArray,List.set_cons_zero,List.set_cons_succ,i64_w,i32_w]
     rfl
    refine pure_ (i:=19) (N:=some 29) (v:=undef) (a':=?_) #[Y,Y,Y,Y,Y,Y,Y,Y,Y,Y,Y,Y,Y,Y,Y,Y,Y,Y,Y,Y,Z,Z,Z,Z] rfl rfl (any_of HT_.out (by kernel_rfl)) (fun _ _ _ h=>h) (Or.inr ⟨by rfl,rfl⟩) ?_ ?_
    rotate_left
    ·
     simp only[Act.put,List.setIfInBounds_toArray,List.set_cons_zero,List.set_cons_succ,i64_w,i32_w]
     rfl
    refine pure_ (i:=20) (N:=some 30) (v:=undef) (a':=?_) #[Y,Y,Y,Y,Y,Y,Y,Y,Y,Y,Y,Y,Y,Y,Y,Y,Y,Y,Y,Y,Y,Z,Z,Z] rfl rfl (any_of HT_.out (by kernel_rfl)) (fun _ _ _ h=>h) (Or.inr ⟨by rfl,rfl⟩) ?_ ?_
    rotate_left
    ·
     simp only[Act.put,List.setIfInBounds_toArray,List.set_cons_zero,List.set_cons_succ,i64_w,i32_w]
     rfl
    refine pure_ (i:=21) (N:=some 31) (v:=undef) (a':=?_) #[Y,Y,Y,Y,Y,Y,Y,Y,Y,Y,Y,Y,Y,Y,Y,Y,Y,Y,Y,Y,Y,Y,Z,Z] rfl rfl (any_of HT_.out (by kernel_rfl)) (fun _ _ _ h=>h) (Or.inr ⟨by rfl,rfl⟩) ?_ ?_
    rotate_left
    ·
     simp only[Act.put,List.setIfInBounds_toArray,List.set_cons_zero,List.set_cons_succ,i64_w,i32_w]
     rfl
    refine pure_ (i:=22) (N:=some 32) (v:=undef) (a':=?_) #[Y,Y,Y,Y,Y,Y,Y,Y,Y,Y,Y,Y,Y,Y,Y,Y,Y,Y,Y,Y,Y,Y,Y,Z] rfl rfl (any_of HT_.out (by kernel_rfl)) (fun _ _ _ h=>h) (Or.inr ⟨by rfl,rfl⟩) ?_ ?_
    rotate_left
    ·
     simp only[Act.put,List.setIfInBounds_toArray,List.set_cons_zero,List.set_cons_succ,i64_w,i32_w]
     rfl
    refine Hd.p_ HT_ 23 (some 33) #[Y,Y,Y,Y,Y,Y,Y,Y,Y,Y,Y,Y,Y,Y,Y,Y,Y,Y,Y,Y,Y,Y,Y,Y] ?_
    refine done_ (done_of HT_.out (by kernel_rfl)) ?_
    try go_wp2
    go_ret
    exact⟨Hd.e_,Hd.b_⟩
   subst c5
   rw [if_pos rfl] at H
   by_cases c6:x3_1>0;rotate_left
   ·
    rw [if_neg c6] at H
    have c6b0:decide (0<x3_1)=false:=decide_eq_false c6
    clear c6
    have H':=ak H
    clear H
    try go_wp2
    replace HB:=z42_
    have p448:0≤(x3_1:Int):=od_
    have q448:x3_1<(l0.length:Int):=od_
    obtain⟨ad448,A448_4,c448_4,e448,hx448_0,hx448_1,hx448_2,hx448_3,hx448_4,hl448_4,hi448_4⟩:=at_T34 HR0.out x3_1 p448 q448
    have hw448_4:=hx448_4
    have hw448_3:=hx448_3
    have hw448_2:=hx448_2
    have hw448_1:=hx448_1
    have hw448_0:=hx448_0
    cases e448
    replace hx448_0:=z188_
    replace hx448_1:=z189_
    replace hx448_2:=z190_
    replace hx448_3:=z191_
    replace hx448_4:=z192_
    have HR448_4:=ak hi448_4
    have HC448_4:=ak hl448_4
    clear hi448_4 hl448_4
    replace p448:=eq_true p448
    replace q448:=eq_true q448
    refine start_ (n:=24) (S:=fun w'=>w'.cell? (ad448.add ((x3_1).toNat*5))=some (.int .i64 ((rd_T34 l0 x3_1).f0))∧w'.cell? ⟨(ad448.add ((x3_1).toNat*5)).block,(ad448.add ((x3_1).toNat*5)).off+1,none⟩=some (.int .i64 ((rd_T34 l0 x3_1).f1))∧w'.cell? ⟨(ad448.add ((x3_1).toNat*5)).block,(ad448.add ((x3_1).toNat*5)).off+2,none⟩=some (.int .i64 ((rd_T34 l0 x3_1).f2))∧w'.cell? ⟨(ad448.add ((x3_1).toNat*5)).block,(ad448.add ((x3_1).toNat*5)).off+3,none⟩=some (.string ((rd_T34 l0 x3_1).f3))∧w'.cell? ⟨(ad448.add ((x3_1).toNat*5)).block,(ad448.add ((x3_1).toNat*5)).off+4,none⟩=some (.slice A448_4 ((rd_T34 l0 x3_1).f4).length c448_4)) (ds:=[]) #[Z,Z,Z,Z,Z,Z,Z,Z,Z,Z,Z,Z,Z,Z,Z,Z,Z,Z,Z,Z,Z,Z,Z,Z] (by kernel_rfl) rfl rfl ⟨((HB.out.cell (bl_ w _ hw448_0)).trans hw448_0),((HB.out.cell (bl_ w _ hw448_1)).trans hw448_1),((HB.out.cell (bl_ w _ hw448_2)).trans hw448_2),((HB.out.cell (bl_ w _ hw448_3)).trans hw448_3),((HB.out.cell (bl_ w _ hw448_4)).trans hw448_4)⟩ (fun hHeld=>?_);refine with_tabW spec_IsSource.tab4 spec_IsSource.bits4 (fun HT_ HW_=>?_)
    generalize wr.drew=w15 at HB HR448_4 hx448_0 hx448_1 hx448_2 hx448_3 hx448_4 hHeld ⊢
    refine Hd.p_ HT_ 0 (some 10) #[Y,Z,Z,Z,Z,Z,Z,Z,Z,Z,Z,Z,Z,Z,Z,Z,Z,Z,Z,Z,Z,Z,Z,Z] ?_
    refine Hd.p_ HT_ 1 (some 11) #[Y,Y,Z,Z,Z,Z,Z,Z,Z,Z,Z,Z,Z,Z,Z,Z,Z,Z,Z,Z,Z,Z,Z,Z] ?_
    refine Hd.p_ HT_ 2 (some 12) #[Y,Y,Y,Z,Z,Z,Z,Z,Z,Z,Z,Z,Z,Z,Z,Z,Z,Z,Z,Z,Z,Z,Z,Z] ?_
    refine Hd.t_ HT_ HW_ hHeld 3 (some 13) #[Y,Y,Y,Y,Z,Z,Z,Z,Z,Z,Z,Z,Z,Z,Z,Z,Z,Z,Z,Z,Z,Z,Z,Z] ?_
    refine Hd.o_ HT_ 4 (some 14) #[Y,Y,Y,Y,Y,Z,Z,Z,Z,Z,Z,Z,Z,Z,Z,Z,Z,Z,Z,Z,Z,Z,Z,Z] (fun K hK=>?_)
    refine goes_ Try.func60 (by kernel_rfl) rfl #[.agg #[.int .i64 ((rd_T34 l0 x3_1).f0),.int .i64 ((rd_T34 l0 x3_1).f1),.int .i64 ((rd_T34 l0 x3_1).f2),.string ((rd_T34 l0 x3_1).f3),.slice A448_4 ((rd_T34 l0 x3_1).f4).length c448_4]] (by rfl) rfl rfl Hd.m_ ?_
    with_reducible refine(spec_IsFeature.calls k1 ((rd_T34 l0 x3_1).f0) ((rd_T34 l0 x3_1).f1) ((rd_T34 l0 x3_1).f2) ((rd_T34 l0 x3_1).f3) _ _ ((rd_T34 l0 x3_1).f4) true _ ?side1 ?side2 A4.out).mono ?_
    (case side1=>exact z15_ HR448_4)
    (case side2=>exact HC448_4.out)
    rintro e w16 ⟨rfl,hb⟩
    refine⟨_,rfl,?_⟩
    replace HB:=z17_
    try clear hb
    refine hK.out _ _ ⟨((HB.out.cell (bl_ w _ hw448_0)).trans hw448_0),((HB.out.cell (bl_ w _ hw448_1)).trans hw448_1),((HB.out.cell (bl_ w _ hw448_2)).trans hw448_2),((HB.out.cell (bl_ w _ hw448_3)).trans hw448_3),((HB.out.cell (bl_ w _ hw448_4)).trans hw448_4)⟩ (fun hHeld=>?_)
    clear hK K
    refine Hd.n_ (some 14) ?_
    refine Hd.p_ HT_ 5 (some 15) #[Y,Y,Y,Y,Y,Y,Z,Z,Z,Z,Z,Z,Z,Z,Z,Z,Z,Z,Z,Z,Z,Z,Z,Z] ?_
    refine Hd.p_ HT_ 6 (some 16) #[Y,Y,Y,Y,Y,Y,Y,Z,Z,Z,Z,Z,Z,Z,Z,Z,Z,Z,Z,Z,Z,Z,Z,Z] ?_
    refine Hd.p_ HT_ 7 (some 17) #[Y,Y,Y,Y,Y,Y,Y,Y,Z,Z,Z,Z,Z,Z,Z,Z,Z,Z,Z,Z,Z,Z,Z,Z] ?_
    refine Hd.p_ HT_ 8 (some 18) #[Y,Y,Y,Y,Y,Y,Y,Y,Y,Z,Z,Z,Z,Z,Z,Z,Z,Z,Z,Z,Z,Z,Z,Z] ?_
    refine Hd.p_ HT_ 9 (some 19) #[Y,Y,Y,Y,Y,Y,Y,Y,Y,Y,Z,Z,Z,Z,Z,Z,Z,Z,Z,Z,Z,Z,Z,Z] ?_
    refine pure_ (i:=10) (N:=some 20) (v:=undef) (a':=?_) #[Y,Y,Y,Y,Y,Y,Y,Y,Y,Y,Y,Z,Z,Z,Z,Z,Z,Z,Z,Z,Z,Z,Z,Z] rfl rfl (any_of HT_.out (by kernel_rfl)) (fun _ _ _ h=>h) (Or.inr ⟨by rfl,rfl⟩) ?_ ?_
    rotate_left
    ·
     simp only[Act.put,List.setIfInBounds_toArray,List.set_cons_zero,List.set_cons_succ,i64_w,i32_w]
     rfl
    refine pure_ (i:=11) (N:=some 21) (v:=undef) (a':=?_) #[Y,Y,Y,Y,Y,Y,Y,Y,Y,Y,Y,Y,Z,Z,Z,Z,Z,Z,Z,Z,Z,Z,Z,Z] rfl rfl (any_of HT_.out (by kernel_rfl)) (fun _ _ _ h=>h) (Or.inr ⟨by rfl,rfl⟩) ?_ ?_
    rotate_left
    ·
     simp only[Act.put,List.setIfInBounds_toArray,List.set_cons_zero,List.set_cons_succ,i64_w,i32_w]
     rfl
    refine pure_ (i:=12) (N:=some 22) (v:=undef) (a':=?_) #[Y,Y,Y,Y,Y,Y,Y,Y,Y,Y,Y,Y,Y,Z,Z,Z,Z,Z,Z,Z,Z,Z,Z,Z] rfl rfl (any_of HT_.out (by kernel_rfl)) (fun _ _ _ h=>h) (Or.inr ⟨by rfl,rfl⟩) ?_ ?_
    rotate_left
    ·
     simp only[Act.put,List.setIfInBounds_toArray,List.set_cons_zero,List.set_cons_succ,i64_w,i32_w]
     rfl
    refine pure_ (i:=13) (N:=some 23) (v:=undef) (a':=?_) #[Y,Y,Y,Y,Y,Y,Y,Y,Y,Y,Y,Y,Y,Y,Z,Z,Z,Z,Z,Z,Z,Z,Z,Z] rfl rfl (any_of HT_.out (by kernel_rfl)) (fun _ _ _ h=>h) (Or.inr ⟨by rfl,rfl⟩) ?_ ?_
    rotate_left
    ·
     simp only[Act.put,List.setIfInBounds_toArray,List.set_cons_zero,List.set_cons_succ,i64_w,i32_w]
     rfl
    refine pure_ (i:=14) (N:=some 24) (v:=undef) (a':=?_) #[Y,Y,Y,Y,Y,Y,Y,Y,Y,Y,Y,Y,Y,Y,Y,Z,Z,Z,Z,Z,Z,Z,Z,Z] rfl rfl (any_of HT_.out (by kernel_rfl)) (fun _ _ _ h=>h) (Or.inr ⟨by rfl,rfl⟩) ?_ ?_
    rotate_left
    ·
     simp only[Act.put,List.setIfInBounds_toArray,List.set_cons_zero,List.set_cons_succ,i64_w,i32_w]
     rfl
    refine pure_ (i:=15) (N:=some 25) (v:=undef) (a':=?_) #[Y,Y,Y,Y,Y,Y,Y,Y,Y,Y,Y,Y,Y,Y,Y,Y,Z,Z,Z,Z,Z,Z,Z,Z] rfl rfl (any_of HT_.out (by kernel_rfl)) (fun _ _ _ h=>h) (Or.inr ⟨by rfl,rfl⟩) ?_ ?_
    rotate_left
    ·
     simp only[Act.put,List.setIfInBounds_toArray,List.set_cons_zero,List.set_cons_succ,i64_w,i32_w]
     rfl
    refine pure_ (i:=16) (N:=some 26) (v:=undef) (a':=?_) #[Y,Y,Y,Y,Y,Y,Y,Y,Y,Y,Y,Y,Y,Y,Y,Y,Y,Z,Z,Z,Z,Z,Z,Z] rfl rfl (any_of HT_.out (by kernel_rfl)) (fun _ _ _ h=>h) (Or.inr ⟨by rfl,rfl⟩) ?_ ?_
    rotate_left
    ·
     simp only[Act.put,List.setIfInBounds_toArray,List.set_cons_zero,List.set_cons_succ,i64_w,i32_w]
     rfl
    refine pure_ (i:=17) (N:=some 27) (v:=undef) (a':=?_) #[Y,Y,Y,Y,Y,Y,Y,Y,Y,Y,Y,Y,Y,Y,Y,Y,Y,Y,Z,Z,Z,Z,Z,Z] rfl rfl (any_of HT_.out (by kernel_rfl)) (fun _ _ _ h=>h) (Or.inr ⟨by rfl,rfl⟩) ?_ ?_
    rotate_left
    ·
     simp only[Act.put,List.setIfInBounds_toArray,List.set_cons_zero,List.set_cons_succ,i64_w,i32_w]
     rfl
    refine pure_ (i:=18) (N:=some 28) (v:=undef) (a':=?_) #[Y,Y,Y,Y,Y,Y,Y,Y,Y,Y,Y,Y,Y,Y,Y,Y,Y,Y,Y,Z,Z,Z,Z,Z] rfl rfl (any_of HT_.out (by kernel_rfl)) (fun _ _ _ h=>h) (Or.inr ⟨by rfl,rfl⟩) ?_ ?_
    rotate_left
    ·
     simp only[Act.put,List.setIfInBounds_toArray,List.set_cons_zero,List.set_cons_succ,i64_w,i32_w]
     rfl
    refine pure_ (i:=19) (N:=some 29) (v:=undef) (a':=?_) #[Y,Y,Y,Y,Y,Y,Y,Y,Y,Y,Y,Y,Y,Y,Y,Y,Y,Y,Y,Y,Z,Z,Z,Z] rfl rfl (any_of HT_.out (by kernel_rfl)) (fun _ _ _ h=>h) (Or.inr ⟨by rfl,rfl⟩) ?_ ?_
    rotate_left
    ·
     simp only[Act.put,List.setIfInBounds_toArray,List.set_cons_zero,List.set_cons_succ,i64_w,i32_w]
     rfl
    refine pure_ (i:=20) (N:=some 30) (v:=undef) (a':=?_) #[Y,Y,Y,Y,Y,Y,Y,Y,Y,Y,Y,Y,Y,Y,Y,Y,Y,Y,Y,Y,Y,Z,Z,Z] rfl rfl (any_of HT_.out (by kernel_rfl)) (fun _ _ _ h=>h) (Or.inr ⟨by rfl,rfl⟩) ?_ ?_
    rotate_left
    ·
     simp only[Act.put,List.setIfInBounds_toArray,List.set_cons_zero,List.set_cons_succ,i64_w,i32_w]
     rfl
    refine pure_ (i:=21) (N:=some 31) (v:=undef) (a':=?_) #[Y,Y,Y,Y,Y,Y,Y,Y,Y,Y,Y,Y,Y,Y,Y,Y,Y,Y,Y,Y,Y,Y,Z,Z] rfl rfl (any_of HT_.out (by kernel_rfl)) (fun _ _ _ h=>h) (Or.inr ⟨by rfl,rfl⟩) ?_ ?_
    rotate_left
    ·
     simp only[Act.put,List.setIfInBounds_toArray,List.set_cons_zero,List.set_cons_succ,i64_w,i32_w]
     rfl
    refine Hd.p_ HT_ 22 (some 32) #[Y,Y,Y,Y,Y,Y,Y,Y,Y,Y,Y,Y,Y,Y,Y,Y,Y,Y,Y,Y,Y,Y,Y,Z] ?_
    refine Hd.p_ HT_ 23 (some 33) #[Y,Y,Y,Y,Y,Y,Y,Y,Y,Y,Y,Y,Y,Y,Y,Y,Y,Y,Y,Y,Y,Y,Y,Y] ?_
    refine done_ (done_of HT_.out (by kernel_rfl)) ?_
    try go_wp2
    go_roundg k1
    case measure=>have:=HK1.out;omega
    case rel=>exact⟨(wrap64 (x3_1+1)),z14_,H',⟨z101_⟩,⟨Hd.b_⟩⟩
   rw [if_pos c6] at H
   have c6b0:decide (0<x3_1)=true:=decide_eq_true c6
   clear c6
   obtain⟨ji7,hji7⟩:∃ j_:Int,(wrap64 (x3_1-1))=j_:=⟨_,rfl⟩
   replace H:(if 0≤(ji7) then (if (ji7)<(l0.length:Int) then (if ((rd_T34 l0 (ji7)).f0)≥((rd_T34 l0 x3_1).f0) then (some false) else (spec_IsSource.l0 k1 l0 (wrap64 (x3_1+1)))) else (none)) else (none))=some r:=by first|(rw [hji7] at H;exact H)|(simp only[hji7] at H ⊢;exact H)
   (try rw [hji7] at A4)
   have hji7w:(IntKind.i64.wrap (x3_1-1))=ji7:=(i64_w _).trans hji7
   by_cases c8:0≤(ji7);rotate_left
   ·
    rw [if_neg c8] at H
    exact absurd H (by simp)
   rw [if_pos c8] at H
   have c8b0:=decide_eq_true c8
   clear c8
   by_cases c9:(ji7)<(l0.length:Int);rotate_left
   ·
    rw [if_neg c9] at H
    exact absurd H (by simp)
   rw [if_pos c9] at H
   have c9b0:=decide_eq_true c9
   clear c9
   by_cases c10:((rd_T34 l0 (ji7)).f0)≥((rd_T34 l0 x3_1).f0)
   ·
    rw [if_pos c10] at H
    have c10b0:decide (((rd_T34 l0 x3_1).f0)≤((rd_T34 l0 (ji7)).f0))=true:=decide_eq_true c10
    clear c10
    obtain rfl:=Option.some.inj H
    try go_wp2
    replace HB:=z42_
    have p448:0≤(x3_1:Int):=od_
    have q448:x3_1<(l0.length:Int):=od_
    obtain⟨ad448,A448_4,c448_4,e448,hx448_0,hx448_1,hx448_2,hx448_3,hx448_4,hl448_4,hi448_4⟩:=at_T34 HR0.out x3_1 p448 q448
    have hw448_4:=hx448_4
    have hw448_3:=hx448_3
    have hw448_2:=hx448_2
    have hw448_1:=hx448_1
    have hw448_0:=hx448_0
    cases e448
    replace hx448_0:=z188_
    replace hx448_1:=z189_
    replace hx448_2:=z190_
    replace hx448_3:=z191_
    replace hx448_4:=z192_
    have HR448_4:=ak hi448_4
    have HC448_4:=ak hl448_4
    clear hi448_4 hl448_4
    replace p448:=eq_true p448
    replace q448:=eq_true q448
    have p450:0≤((ji7):Int):=od_
    have q450:(ji7)<(l0.length:Int):=od_
    obtain⟨ad450,A450_4,c450_4,e450,hx450_0,hx450_1,hx450_2,hx450_3,hx450_4,hl450_4,hi450_4⟩:=at_T34 HR0.out (ji7) p450 q450
    have hw450_4:=hx450_4
    have hw450_3:=hx450_3
    have hw450_2:=hx450_2
    have hw450_1:=hx450_1
    have hw450_0:=hx450_0
    obtain rfl:ad448=ad450:=(by injection e450)
    replace hx450_0:=(HB.out.cell (bl_ w _ hx450_0)).trans hx450_0
    replace hx450_1:=(HB.out.cell (bl_ w _ hx450_1)).trans hx450_1
    replace hx450_2:=(HB.out.cell (bl_ w _ hx450_2)).trans hx450_2
    replace hx450_3:=(HB.out.cell (bl_ w _ hx450_3)).trans hx450_3
    replace hx450_4:=(HB.out.cell (bl_ w _ hx450_4)).trans hx450_4
    have HR450_4:=ak hi450_4
    have HC450_4:=ak hl450_4
    clear hi450_4 hl450_4
    replace p450:=eq_true p450
    replace q450:=eq_true q450
    have p451:0≤(x3_1:Int):=od_
    have q451:x3_1<(l0.length:Int):=od_
    obtain⟨ad451,A451_4,c451_4,e451,hx451_0,hx451_1,hx451_2,hx451_3,hx451_4,hl451_4,hi451_4⟩:=at_T34 HR0.out x3_1 p451 q451
    have hw451_4:=hx451_4
    have hw451_3:=hx451_3
    have hw451_2:=hx451_2
    have hw451_1:=hx451_1
    have hw451_0:=hx451_0
    obtain rfl:ad448=ad451:=(by injection e451)
    replace hx451_0:=(HB.out.cell (bl_ w _ hx451_0)).trans hx451_0
    replace hx451_1:=(HB.out.cell (bl_ w _ hx451_1)).trans hx451_1
    replace hx451_2:=(HB.out.cell (bl_ w _ hx451_2)).trans hx451_2
    replace hx451_3:=(HB.out.cell (bl_ w _ hx451_3)).trans hx451_3
    replace hx451_4:=(HB.out.cell (bl_ w _ hx451_4)).trans hx451_4
    have HR451_4:=ak hi451_4
    have HC451_4:=ak hl451_4
    clear hi451_4 hl451_4
    replace p451:=eq_true p451
    replace q451:=eq_true q451
    refine start_ (n:=24) (S:=fun w'=>w'.cell? (ad448.add ((x3_1).toNat*5))=some (.int .i64 ((rd_T34 l0 x3_1).f0))∧w'.cell? ⟨(ad448.add ((x3_1).toNat*5)).block,(ad448.add ((x3_1).toNat*5)).off+1,none⟩=some (.int .i64 ((rd_T34 l0 x3_1).f1))∧w'.cell? ⟨(ad448.add ((x3_1).toNat*5)).block,(ad448.add ((x3_1).toNat*5)).off+2,none⟩=some (.int .i64 ((rd_T34 l0 x3_1).f2))∧w'.cell? ⟨(ad448.add ((x3_1).toNat*5)).block,(ad448.add ((x3_1).toNat*5)).off+3,none⟩=some (.string ((rd_T34 l0 x3_1).f3))∧w'.cell? ⟨(ad448.add ((x3_1).toNat*5)).block,(ad448.add ((x3_1).toNat*5)).off+4,none⟩=some (.slice A448_4 ((rd_T34 l0 x3_1).f4).length c448_4)∧w'.cell? (ad448.add (((ji7)).toNat*5))=some (.int .i64 ((rd_T34 l0 (ji7)).f0))∧w'.cell? ⟨(ad448.add (((ji7)).toNat*5)).block,(ad448.add (((ji7)).toNat*5)).off+1,none⟩=some (.int .i64 ((rd_T34 l0 (ji7)).f1))∧w'.cell? ⟨(ad448.add (((ji7)).toNat*5)).block,(ad448.add (((ji7)).toNat*5)).off+2,none⟩=some (.int .i64 ((rd_T34 l0 (ji7)).f2))∧w'.cell? ⟨(ad448.add (((ji7)).toNat*5)).block,(ad448.add (((ji7)).toNat*5)).off+3,none⟩=some (.string ((rd_T34 l0 (ji7)).f3))∧w'.cell? ⟨(ad448.add (((ji7)).toNat*5)).block,(ad448.add (((ji7)).toNat*5)).off+4,none⟩=some (.slice A450_4 ((rd_T34 l0 (ji7)).f4).length c450_4)∧w'.cell? (ad448.add ((x3_1).toNat*5))=some (.int .i64 ((rd_T34 l0 x3_1).f0))∧w'.cell? ⟨(ad448.add ((x3_1).toNat*5)).block,(ad448.add ((x3_1).toNat*5)).off+1,none⟩=some (.int .i64 ((rd_T34 l0 x3_1).f1))∧w'.cell? ⟨(ad448.add ((x3_1).toNat*5)).block,(ad448.add ((x3_1).toNat*5)).off+2,none⟩=some (.int .i64 ((rd_T34 l0 x3_1).f2))∧w'.cell? ⟨(ad448.add ((x3_1).toNat*5)).block,(ad448.add ((x3_1).toNat*5)).off+3,none⟩=some (.string ((rd_T34 l0 x3_1).f3))∧w'.cell? ⟨(ad448.add ((x3_1).toNat*5)).block,(ad448.add ((x3_1).toNat*5)).off+4,none⟩=some (.slice A451_4 ((rd_T34 l0 x3_1).f4).length c451_4)) (ds:=[]) #[Z,Z,Z,Z,Z,Z,Z,Z,Z,Z,Z,Z,Z,Z,Z,Z,Z,Z,Z,Z,Z,Z,Z,Z] (by kernel_rfl) rfl rfl ⟨((HB.out.cell (bl_ w _ hw448_0)).trans hw448_0),((HB.out.cell (bl_ w _ hw448_1)).trans hw448_1),((HB.out.cell (bl_ w _ hw448_2)).trans hw448_2),((HB.out.cell (bl_ w _ hw448_3)).trans hw448_3),((HB.out.cell (bl_ w _ hw448_4)).trans hw448_4),((HB.out.cell (bl_ w _ hw450_0)).trans hw450_0),((HB.out.cell (bl_ w _ hw450_1)).trans hw450_1),((HB.out.cell (bl_ w _ hw450_2)).trans hw450_2),((HB.out.cell (bl_ w _ hw450_3)).trans hw450_3),((HB.out.cell (bl_ w _ hw450_4)).trans hw450_4),((HB.out.cell (bl_ w _ hw451_0)).trans hw451_0),((HB.out.cell (bl_ w _ hw451_1)).trans hw451_1),((HB.out.cell (bl_ w _ hw451_2)).trans hw451_2),((HB.out.cell (bl_ w _ hw451_3)).trans hw451_3),((HB.out.cell (bl_ w _ hw451_4)).trans hw451_4)⟩ (fun hHeld=>?_);refine with_tabW spec_IsSource.tab4 spec_IsSource.bits4 (fun HT_ HW_=>?_)
    generalize wr.drew=w11 at HB HR448_4 HR450_4 HR451_4 hx448_0 hx448_1 hx448_2 hx448_3 hx448_4 hx450_0 hx450_1 hx450_2 hx450_3 hx450_4 hx451_0 hx451_1 hx451_2 hx451_3 hx451_4 hHeld ⊢
    refine Hd.p_ HT_ 0 (some 10) #[Y,Z,Z,Z,Z,Z,Z,Z,Z,Z,Z,Z,Z,Z,Z,Z,Z,Z,Z,Z,Z,Z,Z,Z] ?_
    refine Hd.p_ HT_ 1 (some 11) #[Y,Y,Z,Z,Z,Z,Z,Z,Z,Z,Z,Z,Z,Z,Z,Z,Z,Z,Z,Z,Z,Z,Z,Z] ?_
    refine Hd.p_ HT_ 2 (some 12) #[Y,Y,Y,Z,Z,Z,Z,Z,Z,Z,Z,Z,Z,Z,Z,Z,Z,Z,Z,Z,Z,Z,Z,Z] ?_
    refine Hd.t_ HT_ HW_ hHeld 3 (some 13) #[Y,Y,Y,Y,Z,Z,Z,Z,Z,Z,Z,Z,Z,Z,Z,Z,Z,Z,Z,Z,Z,Z,Z,Z] ?_
    refine Hd.o_ HT_ 4 (some 14) #[Y,Y,Y,Y,Y,Z,Z,Z,Z,Z,Z,Z,Z,Z,Z,Z,Z,Z,Z,Z,Z,Z,Z,Z] (fun K hK=>?_)
    refine goes_ Try.func60 (by kernel_rfl) rfl #[.agg #[.int .i64 ((rd_T34 l0 x3_1).f0),.int .i64 ((rd_T34 l0 x3_1).f1),.int .i64 ((rd_T34 l0 x3_1).f2),.string ((rd_T34 l0 x3_1).f3),.slice A448_4 ((rd_T34 l0 x3_1).f4).length c448_4]] (by rfl) rfl rfl Hd.m_ ?_
    with_reducible refine(spec_IsFeature.calls k1 ((rd_T34 l0 x3_1).f0) ((rd_T34 l0 x3_1).f1) ((rd_T34 l0 x3_1).f2) ((rd_T34 l0 x3_1).f3) _ _ ((rd_T34 l0 x3_1).f4) true _ ?side1 ?side2 A4.out).mono ?_
    (case side1=>exact z15_ HR448_4)
    (case side2=>exact HC448_4.out)
    rintro e w12 ⟨rfl,hb⟩
    refine⟨_,rfl,?_⟩
    replace HB:=z17_
    try clear hb
    refine hK.out _ _ ⟨((HB.out.cell (bl_ w _ hw448_0)).trans hw448_0),((HB.out.cell (bl_ w _ hw448_1)).trans hw448_1),((HB.out.cell (bl_ w _ hw448_2)).trans hw448_2),((HB.out.cell (bl_ w _ hw448_3)).trans hw448_3),((HB.out.cell (bl_ w _ hw448_4)).trans hw448_4),((HB.out.cell (bl_ w _ hw450_0)).trans hw450_0),((HB.out.cell (bl_ w _ hw450_1)).trans hw450_1),((HB.out.cell (bl_ w _ hw450_2)).trans hw450_2),((HB.out.cell (bl_ w _ hw450_3)).trans hw450_3),((HB.out.cell (bl_ w _ hw450_4)).trans hw450_4),((HB.out.cell (bl_ w _ hw451_0)).trans hw451_0),((HB.out.cell (bl_ w _ hw451_1)).trans hw451_1),((HB.out.cell (bl_ w _ hw451_2)).trans hw451_2),((HB.out.cell (bl_ w _ hw451_3)).trans hw451_3),((HB.out.cell (bl_ w _ hw451_4)).trans hw451_4)⟩ (fun hHeld=>?_)
    clear hK K
    refine Hd.n_ (some 14) ?_
    refine Hd.p_ HT_ 5 (some 15) #[Y,Y,Y,Y,Y,Y,Z,Z,Z,Z,Z,Z,Z,Z,Z,Z,Z,Z,Z,Z,Z,Z,Z,Z] ?_
    refine Hd.p_ HT_ 6 (some 16) #[Y,Y,Y,Y,Y,Y,Y,Z,Z,Z,Z,Z,Z,Z,Z,Z,Z,Z,Z,Z,Z,Z,Z,Z] ?_
    refine Hd.p_ HT_ 7 (some 17) #[Y,Y,Y,Y,Y,Y,Y,Y,Z,Z,Z,Z,Z,Z,Z,Z,Z,Z,Z,Z,Z,Z,Z,Z] ?_
    refine Hd.p_ HT_ 8 (some 18) #[Y,Y,Y,Y,Y,Y,Y,Y,Y,Z,Z,Z,Z,Z,Z,Z,Z,Z,Z,Z,Z,Z,Z,Z] ?_
    refine Hd.p_ HT_ 9 (some 19) #[Y,Y,Y,Y,Y,Y,Y,Y,Y,Y,Z,Z,Z,Z,Z,Z,Z,Z,Z,Z,Z,Z,Z,Z] ?_
    refine Hd.p_ HT_ 10 (some 20) #[Y,Y,Y,Y,Y,Y,Y,Y,Y,Y,Y,Z,Z,Z,Z,Z,Z,Z,Z,Z,Z,Z,Z,Z] ?_
    refine Hd.p_ HT_ 11 (some 21) #[Y,Y,Y,Y,Y,Y,Y,Y,Y,Y,Y,Y,Z,Z,Z,Z,Z,Z,Z,Z,Z,Z,Z,Z] ?_
    refine Hd.p_ HT_ 12 (some 22) #[Y,Y,Y,Y,Y,Y,Y,Y,Y,Y,Y,Y,Y,Z,Z,Z,Z,Z,Z,Z,Z,Z,Z,Z] ?_
    refine Hd.p_ HT_ 13 (some 23) #[Y,Y,Y,Y,Y,Y,Y,Y,Y,Y,Y,Y,Y,Y,Z,Z,Z,Z,Z,Z,Z,Z,Z,Z] ?_
    refine Hd.p_ HT_ 14 (some 24) #[Y,Y,Y,Y,Y,Y,Y,Y,Y,Y,Y,Y,Y,Y,Y,Z,Z,Z,Z,Z,Z,Z,Z,Z] ?_
    refine Hd.p_ HT_ 16 (some 26) #[Y,Y,Y,Y,Y,Y,Y,Y,Y,Y,Y,Y,Y,Y,Y,Z,Y,Z,Z,Z,Z,Z,Z,Z] ?_
    refine Hd.p_ HT_ 17 (some 27) #[Y,Y,Y,Y,Y,Y,Y,Y,Y,Y,Y,Y,Y,Y,Y,Z,Y,Y,Z,Z,Z,Z,Z,Z] ?_
    refine Hd.p_ HT_ 18 (some 28) #[Y,Y,Y,Y,Y,Y,Y,Y,Y,Y,Y,Y,Y,Y,Y,Z,Y,Y,Y,Z,Z,Z,Z,Z] ?_
    refine Hd.p_ HT_ 19 (some 29) #[Y,Y,Y,Y,Y,Y,Y,Y,Y,Y,Y,Y,Y,Y,Y,Z,Y,Y,Y,Y,Z,Z,Z,Z] ?_
    refine Hd.t_ HT_ HW_ hHeld 15 (some 25) #[Y,Y,Y,Y,Y,Y,Y,Y,Y,Y,Y,Y,Y,Y,Y,Y,Y,Y,Y,Y,Z,Z,Z,Z] ?_
    refine Hd.t_ HT_ HW_ hHeld 20 (some 30) #[Y,Y,Y,Y,Y,Y,Y,Y,Y,Y,Y,Y,Y,Y,Y,Y,Y,Y,Y,Y,Y,Z,Z,Z] ?_
    refine Hd.p_ HT_ 21 (some 31) #[Y,Y,Y,Y,Y,Y,Y,Y,Y,Y,Y,Y,Y,Y,Y,Y,Y,Y,Y,Y,Y,Y,Z,Z] ?_
    refine Hd.p_ HT_ 22 (some 32) #[Y,Y,Y,Y,Y,Y,Y,Y,Y,Y,Y,Y,Y,Y,Y,Y,Y,Y,Y,Y,Y,Y,Y,Z] ?_
    refine Hd.p_ HT_ 23 (some 33) #[Y,Y,Y,Y,Y,Y,Y,Y,Y,Y,Y,Y,Y,Y,Y,Y,Y,Y,Y,Y,Y,Y,Y,Y] ?_
    refine done_ (done_of HT_.out (by kernel_rfl)) ?_
    try go_wp2
    go_ret
    exact⟨z161_,Hd.b_⟩
   rw [if_neg c10] at H
   have c10b0:decide (((rd_T34 l0 x3_1).f0)≤((rd_T34 l0 (ji7)).f0))=false:=decide_eq_false c10
   clear c10
   have H':=ak H
   clear H
   try go_wp2
   replace HB:=z42_
   have p448:0≤(x3_1:Int):=od_
   have q448:x3_1<(l0.length:Int):=od_
   obtain⟨ad448,A448_4,c448_4,e448,hx448_0,hx448_1,hx448_2,hx448_3,hx448_4,hl448_4,hi448_4⟩:=at_T34 HR0.out x3_1 p448 q448
   have hw448_4:=hx448_4
   have hw448_3:=hx448_3
   have hw448_2:=hx448_2
   have hw448_1:=hx448_1
   have hw448_0:=hx448_0
   cases e448
   replace hx448_0:=z188_
   replace hx448_1:=z189_
   replace hx448_2:=z190_
   replace hx448_3:=z191_
   replace hx448_4:=z192_
   have HR448_4:=ak hi448_4
   have HC448_4:=ak hl448_4
   clear hi448_4 hl448_4
   replace p448:=eq_true p448
   replace q448:=eq_true q448
   have p450:0≤((ji7):Int):=od_
   have q450:(ji7)<(l0.length:Int):=od_
   obtain⟨ad450,A450_4,c450_4,e450,hx450_0,hx450_1,hx450_2,hx450_3,hx450_4,hl450_4,hi450_4⟩:=at_T34 HR0.out (ji7) p450 q450
   have hw450_4:=hx450_4
   have hw450_3:=hx450_3
   have hw450_2:=hx450_2
   have hw450_1:=hx450_1
   have hw450_0:=hx450_0
   obtain rfl:ad448=ad450:=(by injection e450)
   replace hx450_0:=(HB.out.cell (bl_ w _ hx450_0)).trans hx450_0
   replace hx450_1:=(HB.out.cell (bl_ w _ hx450_1)).trans hx450_1
   replace hx450_2:=(HB.out.cell (bl_ w _ hx450_2)).trans hx450_2
   replace hx450_3:=(HB.out.cell (bl_ w _ hx450_3)).trans hx450_3
   replace hx450_4:=(HB.out.cell (bl_ w _ hx450_4)).trans hx450_4
   have HR450_4:=ak hi450_4
   have HC450_4:=ak hl450_4
   clear hi450_4 hl450_4
   replace p450:=eq_true p450
   replace q450:=eq_true q450
   have p451:0≤(x3_1:Int):=od_
   have q451:x3_1<(l0.length:Int):=od_
   obtain⟨ad451,A451_4,c451_4,e451,hx451_0,hx451_1,hx451_2,hx451_3,hx451_4,hl451_4,hi451_4⟩:=at_T34 HR0.out x3_1 p451 q451
   have hw451_4:=hx451_4
   have hw451_3:=hx451_3
   have hw451_2:=hx451_2
   have hw451_1:=hx451_1
   have hw451_0:=hx451_0
   obtain rfl:ad448=ad451:=(by injection e451)
   replace hx451_0:=(HB.out.cell (bl_ w _ hx451_0)).trans hx451_0
   replace hx451_1:=(HB.out.cell (bl_ w _ hx451_1)).trans hx451_1
   replace hx451_2:=(HB.out.cell (bl_ w _ hx451_2)).trans hx451_2
   replace hx451_3:=(HB.out.cell (bl_ w _ hx451_3)).trans hx451_3
   replace hx451_4:=(HB.out.cell (bl_ w _ hx451_4)).trans hx451_4
   have HR451_4:=ak hi451_4
   have HC451_4:=ak hl451_4
   clear hi451_4 hl451_4
   replace p451:=eq_true p451
   replace q451:=eq_true q451
   refine start_ (n:=24) (S:=fun w'=>w'.cell? (ad448.add ((x3_1).toNat*5))=some (.int .i64 ((rd_T34 l0 x3_1).f0))∧w'.cell? ⟨(ad448.add ((x3_1).toNat*5)).block,(ad448.add ((x3_1).toNat*5)).off+1,none⟩=some (.int .i64 ((rd_T34 l0 x3_1).f1))∧w'.cell? ⟨(ad448.add ((x3_1).toNat*5)).block,(ad448.add ((x3_1).toNat*5)).off+2,none⟩=some (.int .i64 ((rd_T34 l0 x3_1).f2))∧w'.cell? ⟨(ad448.add ((x3_1).toNat*5)).block,(ad448.add ((x3_1).toNat*5)).off+3,none⟩=some (.string ((rd_T34 l0 x3_1).f3))∧w'.cell? ⟨(ad448.add ((x3_1).toNat*5)).block,(ad448.add ((x3_1).toNat*5)).off+4,none⟩=some (.slice A448_4 ((rd_T34 l0 x3_1).f4).length c448_4)∧w'.cell? (ad448.add (((ji7)).toNat*5))=some (.int .i64 ((rd_T34 l0 (ji7)).f0))∧w'.cell? ⟨(ad448.add (((ji7)).toNat*5)).block,(ad448.add (((ji7)).toNat*5)).off+1,none⟩=some (.int .i64 ((rd_T34 l0 (ji7)).f1))∧w'.cell? ⟨(ad448.add (((ji7)).toNat*5)).block,(ad448.add (((ji7)).toNat*5)).off+2,none⟩=some (.int .i64 ((rd_T34 l0 (ji7)).f2))∧w'.cell? ⟨(ad448.add (((ji7)).toNat*5)).block,(ad448.add (((ji7)).toNat*5)).off+3,none⟩=some (.string ((rd_T34 l0 (ji7)).f3))∧w'.cell? ⟨(ad448.add (((ji7)).toNat*5)).block,(ad448.add (((ji7)).toNat*5)).off+4,none⟩=some (.slice A450_4 ((rd_T34 l0 (ji7)).f4).length c450_4)∧w'.cell? (ad448.add ((x3_1).toNat*5))=some (.int .i64 ((rd_T34 l0 x3_1).f0))∧w'.cell? ⟨(ad448.add ((x3_1).toNat*5)).block,(ad448.add ((x3_1).toNat*5)).off+1,none⟩=some (.int .i64 ((rd_T34 l0 x3_1).f1))∧w'.cell? ⟨(ad448.add ((x3_1).toNat*5)).block,(ad448.add ((x3_1).toNat*5)).off+2,none⟩=some (.int .i64 ((rd_T34 l0 x3_1).f2))∧w'.cell? ⟨(ad448.add ((x3_1).toNat*5)).block,(ad448.add ((x3_1).toNat*5)).off+3,none⟩=some (.string ((rd_T34 l0 x3_1).f3))∧w'.cell? ⟨(ad448.add ((x3_1).toNat*5)).block,(ad448.add ((x3_1).toNat*5)).off+4,none⟩=some (.slice A451_4 ((rd_T34 l0 x3_1).f4).length c451_4)) (ds:=[]) #[Z,Z,Z,Z,Z,Z,Z,Z,Z,Z,Z,Z,Z,Z,Z,Z,Z,Z,Z,Z,Z,Z,Z,Z] (by kernel_rfl) rfl rfl ⟨((HB.out.cell (bl_ w _ hw448_0)).trans hw448_0),((HB.out.cell (bl_ w _ hw448_1)).trans hw448_1),((HB.out.cell (bl_ w _ hw448_2)).trans hw448_2),((HB.out.cell (bl_ w _ hw448_3)).trans hw448_3),((HB.out.cell (bl_ w _ hw448_4)).trans hw448_4),((HB.out.cell (bl_ w _ hw450_0)).trans hw450_0),((HB.out.cell (bl_ w _ hw450_1)).trans hw450_1),((HB.out.cell (bl_ w _ hw450_2)).trans hw450_2),((HB.out.cell (bl_ w _ hw450_3)).trans hw450_3),((HB.out.cell (bl_ w _ hw450_4)).trans hw450_4),((HB.out.cell (bl_ w _ hw451_0)).trans hw451_0),((HB.out.cell (bl_ w _ hw451_1)).trans hw451_1),((HB.out.cell (bl_ w _ hw451_2)).trans hw451_2),((HB.out.cell (bl_ w _ hw451_3)).trans hw451_3),((HB.out.cell (bl_ w _ hw451_4)).trans hw451_4)⟩ (fun hHeld=>?_);refine with_tabW spec_IsSource.tab4 spec_IsSource.bits4 (fun HT_ HW_=>?_)
   generalize wr.drew=w13 at HB HR448_4 HR450_4 HR451_4 hx448_0 hx448_1 hx448_2 hx448_3 hx448_4 hx450_0 hx450_1 hx450_2 hx450_3 hx450_4 hx451_0 hx451_1 hx451_2 hx451_3 hx451_4 hHeld ⊢
   refine Hd.p_ HT_ 0 (some 10) #[Y,Z,Z,Z,Z,Z,Z,Z,Z,Z,Z,Z,Z,Z,Z,Z,Z,Z,Z,Z,Z,Z,Z,Z] ?_
   refine Hd.p_ HT_ 1 (some 11) #[Y,Y,Z,Z,Z,Z,Z,Z,Z,Z,Z,Z,Z,Z,Z,Z,Z,Z,Z,Z,Z,Z,Z,Z] ?_
   refine Hd.p_ HT_ 2 (some 12) #[Y,Y,Y,Z,Z,Z,Z,Z,Z,Z,Z,Z,Z,Z,Z,Z,Z,Z,Z,Z,Z,Z,Z,Z] ?_
   refine Hd.t_ HT_ HW_ hHeld 3 (some 13) #[Y,Y,Y,Y,Z,Z,Z,Z,Z,Z,Z,Z,Z,Z,Z,Z,Z,Z,Z,Z,Z,Z,Z,Z] ?_
   refine Hd.o_ HT_ 4 (some 14) #[Y,Y,Y,Y,Y,Z,Z,Z,Z,Z,Z,Z,Z,Z,Z,Z,Z,Z,Z,Z,Z,Z,Z,Z] (fun K hK=>?_)
   refine goes_ Try.func60 (by kernel_rfl) rfl #[.agg #[.int .i64 ((rd_T34 l0 x3_1).f0),.int .i64 ((rd_T34 l0 x3_1).f1),.int .i64 ((rd_T34 l0 x3_1).f2),.string ((rd_T34 l0 x3_1).f3),.slice A448_4 ((rd_T34 l0 x3_1).f4).length c448_4]] (by rfl) rfl rfl Hd.m_ ?_
   with_reducible refine(spec_IsFeature.calls k1 ((rd_T34 l0 x3_1).f0) ((rd_T34 l0 x3_1).f1) ((rd_T34 l0 x3_1).f2) ((rd_T34 l0 x3_1).f3) _ _ ((rd_T34 l0 x3_1).f4) true _ ?side1 ?side2 A4.out).mono ?_
   (case side1=>exact z15_ HR448_4)
   (case side2=>exact HC448_4.out)
   rintro e w14 ⟨rfl,hb⟩
   refine⟨_,rfl,?_⟩
   replace HB:=z17_
   try clear hb
   refine hK.out _ _ ⟨((HB.out.cell (bl_ w _ hw448_0)).trans hw448_0),((HB.out.cell (bl_ w _ hw448_1)).trans hw448_1),((HB.out.cell (bl_ w _ hw448_2)).trans hw448_2),((HB.out.cell (bl_ w _ hw448_3)).trans hw448_3),((HB.out.cell (bl_ w _ hw448_4)).trans hw448_4),((HB.out.cell (bl_ w _ hw450_0)).trans hw450_0),((HB.out.cell (bl_ w _ hw450_1)).trans hw450_1),((HB.out.cell (bl_ w _ hw450_2)).trans hw450_2),((HB.out.cell (bl_ w _ hw450_3)).trans hw450_3),((HB.out.cell (bl_ w _ hw450_4)).trans hw450_4),((HB.out.cell (bl_ w _ hw451_0)).trans hw451_0),((HB.out.cell (bl_ w _ hw451_1)).trans hw451_1),((HB.out.cell (bl_ w _ hw451_2)).trans hw451_2),((HB.out.cell (bl_ w _ hw451_3)).trans hw451_3),((HB.out.cell (bl_ w _ hw451_4)).trans hw451_4)⟩ (fun hHeld=>?_)
   clear hK K
   refine Hd.n_ (some 14) ?_
   refine Hd.p_ HT_ 5 (some 15) #[Y,Y,Y,Y,Y,Y,Z,Z,Z,Z,Z,Z,Z,Z,Z,Z,Z,Z,Z,Z,Z,Z,Z,Z] ?_
   refine Hd.p_ HT_ 6 (some 16) #[Y,Y,Y,Y,Y,Y,Y,Z,Z,Z,Z,Z,Z,Z,Z,Z,Z,Z,Z,Z,Z,Z,Z,Z] ?_
   refine Hd.p_ HT_ 7 (some 17) #[Y,Y,Y,Y,Y,Y,Y,Y,Z,Z,Z,Z,Z,Z,Z,Z,Z,Z,Z,Z,Z,Z,Z,Z] ?_
   refine Hd.p_ HT_ 8 (some 18) #[Y,Y,Y,Y,Y,Y,Y,Y,Y,Z,Z,Z,Z,Z,Z,Z,Z,Z,Z,Z,Z,Z,Z,Z] ?_
   refine Hd.p_ HT_ 9 (some 19) #[Y,Y,Y,Y,Y,Y,Y,Y,Y,Y,Z,Z,Z,Z,Z,Z,Z,Z,Z,Z,Z,Z,Z,Z] ?_
   refine Hd.p_ HT_ 10 (some 20) #[Y,Y,Y,Y,Y,Y,Y,Y,Y,Y,Y,Z,Z,Z,Z,Z,Z,Z,Z,Z,Z,Z,Z,Z] ?_
   refine Hd.p_ HT_ 11 (some 21) #[Y,Y,Y,Y,Y,Y,Y,Y,Y,Y,Y,Y,Z,Z,Z,Z,Z,Z,Z,Z,Z,Z,Z,Z] ?_
   refine Hd.p_ HT_ 12 (some 22) #[Y,Y,Y,Y,Y,Y,Y,Y,Y,Y,Y,Y,Y,Z,Z,Z,Z,Z,Z,Z,Z,Z,Z,Z] ?_
   refine Hd.p_ HT_ 13 (some 23) #[Y,Y,Y,Y,Y,Y,Y,Y,Y,Y,Y,Y,Y,Y,Z,Z,Z,Z,Z,Z,Z,Z,Z,Z] ?_
   refine Hd.p_ HT_ 14 (some 24) #[Y,Y,Y,Y,Y,Y,Y,Y,Y,Y,Y,Y,Y,Y,Y,Z,Z,Z,Z,Z,Z,Z,Z,Z] ?_
   refine Hd.p_ HT_ 16 (some 26) #[Y,Y,Y,Y,Y,Y,Y,Y,Y,Y,Y,Y,Y,Y,Y,Z,Y,Z,Z,Z,Z,Z,Z,Z] ?_
   refine Hd.p_ HT_ 17 (some 27) #[Y,Y,Y,Y,Y,Y,Y,Y,Y,Y,Y,Y,Y,Y,Y,Z,Y,Y,Z,Z,Z,Z,Z,Z] ?_
   refine Hd.p_ HT_ 18 (some 28) #[Y,Y,Y,Y,Y,Y,Y,Y,Y,Y,Y,Y,Y,Y,Y,Z,Y,Y,Y,Z,Z,Z,Z,Z] ?_
   refine Hd.p_ HT_ 19 (some 29) #[Y,Y,Y,Y,Y,Y,Y,Y,Y,Y,Y,Y,Y,Y,Y,Z,Y,Y,Y,Y,Z,Z,Z,Z] ?_
   refine Hd.t_ HT_ HW_ hHeld 15 (some 25) #[Y,Y,Y,Y,Y,Y,Y,Y,Y,Y,Y,Y,Y,Y,Y,Y,Y,Y,Y,Y,Z,Z,Z,Z] ?_
   refine Hd.t_ HT_ HW_ hHeld 20 (some 30) #[Y,Y,Y,Y,Y,Y,Y,Y,Y,Y,Y,Y,Y,Y,Y,Y,Y,Y,Y,Y,Y,Z,Z,Z] ?_
   refine Hd.p_ HT_ 21 (some 31) #[Y,Y,Y,Y,Y,Y,Y,Y,Y,Y,Y,Y,Y,Y,Y,Y,Y,Y,Y,Y,Y,Y,Z,Z] ?_
   refine Hd.p_ HT_ 22 (some 32) #[Y,Y,Y,Y,Y,Y,Y,Y,Y,Y,Y,Y,Y,Y,Y,Y,Y,Y,Y,Y,Y,Y,Y,Z] ?_
   refine Hd.p_ HT_ 23 (some 33) #[Y,Y,Y,Y,Y,Y,Y,Y,Y,Y,Y,Y,Y,Y,Y,Y,Y,Y,Y,Y,Y,Y,Y,Y] ?_
   refine done_ (done_of HT_.out (by kernel_rfl)) ?_
   try go_wp2
   go_roundg k1
   case measure=>have:=HK1.out;omega
   case rel=>exact⟨(wrap64 (x3_1+1)),z14_,H',⟨z101_⟩,⟨Hd.b_⟩⟩
end Go.Proofs.Ytbbdhlggnglfgaa.MFnFeatures
