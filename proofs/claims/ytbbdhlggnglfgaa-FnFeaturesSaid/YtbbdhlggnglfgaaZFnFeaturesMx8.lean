-- Laid by this session's program pp.py, after the kit's print and texts of the session's own. Not trusted: Lean checks it.
import Derived.Test.YtbbdhlggnglfgaaZFnFeaturesMx0
import Derived.Test.YtbbdhlggnglfgaaZFnFeaturesMx2
import Derived.Test.YtbbdhlggnglfgaaZFnFeaturesMx6
import Derived.Test.YtbbdhlggnglfgaaZFnFeaturesMx7
namespace Go.Proofs.Ytbbdhlggnglfgaa.MFnFeatures
open Go.RowKit Go.Proofs.YtbbdhlggnglfgaaW.PrintWords Go.Proofs.YtbbdhlggnglfgaaW.PrintLast Go.Proofs.YtbbdhlggnglfgaaW.PrintMore
attribute [local go_sem] max2_int min2_int max_two min_two max_three min_three max_four min_four
set_option linter.unusedVariables false
set_option maxHeartbeats 8000000
set_option maxRecDepth 100000
set_option linter.unusedSimpArgs false
def impl_IsFeature.j0:Nat→Bool→Int→Int→Int→ByteArray→List (S75)→Option (Bool)
 | 0,_,_,_,_,_,_=>none
 | k+1,x23,x208000,x208001,x208002,x208003,x208004=>if x23=true then (some false) else (if x208001=1 then (if (x208004.length:Int)=1 then (if 0<(x208004.length:Int) then ((impl_IsPoint.f ((rd_T75 x208004 0).f0) ((rd_T75 x208004 0).f1)).bind fun t212=>(some t212)) else (none)) else (some false)) else (if x208001=2 then ((impl_IsSimple.f k x208004).bind fun t213=>(some t213)) else (if x208001=3 then ((impl_IsRing.f k x208004).bind fun t214=>(some t214)) else (some false))))
def impl_IsFeature.f (k:Nat) (a0_0:Int) (a0_1:Int) (a0_2:Int) (a0_3:ByteArray) (l0_4:List (S75)):Option (Bool):=(impl_InRange.f a0_0 1 99).bind fun t208=>(if t208=true then ((impl_InRange.f a0_2 0 9).bind fun t209=>(if t209=true then (if a0_3.toList=([]:List UInt8) then (impl_IsFeature.j0 k false a0_0 a0_1 a0_2 a0_3 l0_4) else ((impl_IsName.f k a0_3).bind fun t210=>(impl_IsFeature.j0 k (!t210) a0_0 a0_1 a0_2 a0_3 l0_4))) else (impl_IsFeature.j0 k true a0_0 a0_1 a0_2 a0_3 l0_4))) else (impl_IsFeature.j0 k true a0_0 a0_1 a0_2 a0_3 l0_4))
theorem impl_IsFeature.calls (k:Nat) (a0_0:Int) (a0_1:Int) (a0_2:Int) (a0_3:ByteArray) (A0_4:Option Addr) (c0_4:Nat) (l0_4:List (S75)) (r:Bool) (w:World) (hr0_4:Kd.C k75 w A0_4 l0_4.length l0_4) (hc0_4:l0_4.length≤c0_4) (h:impl_IsFeature.f k a0_0 a0_1 a0_2 a0_3 l0_4=some r) :
  Calls Try.prog 52 #[.agg #[.int .i64 a0_0,.int .i64 a0_1,.int .i64 a0_2,.string a0_3,.slice A0_4 l0_4.length c0_4]] w fun e w'=>e = .returned (.bool r)∧Below w.heap.size w w':=by
 have hu34:=Try.underlying34
 have hu75:=Try.underlying75
 have HR0_4:=ak hr0_4
 have HC0_4:=ak hc0_4
 clear hr0_4 hc0_4
 have HB:=z52_
 have H:=h;clear h;unfold impl_IsFeature.f at H
 have HC2:=ak H
 clear H
 go_enter Try.func52,Try.ntmps52
 go_upto_region 1 with (first|((with_reducible refine gate_dst (N:=1) rfl ?_);refine Hd.box_ 1 (#[.int .i64 a0_0,.int .i64 a0_1,.int .i64 a0_2,.string a0_3,.slice A0_4 l0_4.length c0_4]) 34 ?_;intro gb207 hg w3 hbox hb;have BK207:=ak (hbox);have GW207:=ak ((Hd.g_ hg Hd.b_:w.heap.size≤gb207));have GE207:=ak ((Hd.g_ hg Hd.b_:w.heap.size≤gb207));replace HB:=z17_;clear hb hbox hg))
 (try simp only[Act.put,List.setIfInBounds_toArray,List.set_cons_zero,List.set_cons_succ])
 go_cut [23] (fun v23 wc=>∃ (kq:Nat) (x23_1:Bool),v23 = .bool x23_1∧Aside0 (impl_IsFeature.j0 kq x23_1 a0_0 a0_1 a0_2 a0_3 l0_4=some r)∧Aside0 (kq≤k)∧Aside0 (wc.heap[gb207]?=some (.cells #[.int .i64 a0_0,.int .i64 a0_1,.int .i64 a0_2,.string a0_3,(.slice A0_4 l0_4.length c0_4)] 34 (0,0)))∧Aside0 (Below w.heap.size w wc))
 case first =>
  have H:=HC2.out
  clear HC2
  replace H:=Hd.bd_ H;obtain⟨t208,A4,H⟩:=H
  by_cases c5:t208=true;rotate_left
  ·
   replace c5:=z171_
   subst c5
   rw [if_neg (show ¬ (false=true) by decide)] at H
   have H':=ak H
   clear H
   obtain⟨hcz13_0,hcz13_1,hcz13_2,hcz13_3,hcz13_4⟩:=Hd.c5_ BK207.out
   obtain⟨hfz13_0,hfz13_1,hfz13_2,hfz13_3,hfz13_4⟩:=Hd.f5_ BK207.out
   go_wp2_with (first|((with_reducible refine gate_callee (f:=71) rfl ?_);refine Hd.gl_ 5 Try.func71 #[.int .i64 a0_0,.int .i64 1,.int .i64 99] ?_;(with_reducible refine(impl_InRange.calls a0_0 1 99 false _ A4.out).mono ?_);rintro e w' ⟨rfl,⟨nd,rfl⟩⟩;refine⟨_,rfl,?_⟩))
   go_meet
   case rel=>exact⟨_,(true),z14_,H',⟨z73_⟩,⟨z6_ BK207⟩,⟨Hd.b_⟩⟩
  subst c5
  rw [if_pos rfl] at H
  replace H:=Hd.bd_ H;obtain⟨t209,A6,H⟩:=H
  by_cases c7:t209=true;rotate_left
  ·
   replace c7:=Bool.eq_false_iff.mpr c7
   subst c7
   rw [if_neg (show ¬ (false=true) by decide)] at H
   have H':=ak H
   clear H
   obtain⟨hcz12_0,hcz12_1,hcz12_2,hcz12_3,hcz12_4⟩:=Hd.c5_ BK207.out
   obtain⟨hfz12_0,hfz12_1,hfz12_2,hfz12_3,hfz12_4⟩:=Hd.f5_ BK207.out
   go_wp2_with (first|((with_reducible refine gate_callee (f:=71) rfl ?_);refine Hd.gl_ 5 Try.func71 #[.int .i64 a0_0,.int .i64 1,.int .i64 99] ?_;(with_reducible refine(impl_InRange.calls a0_0 1 99 true _ A4.out).mono ?_);rintro e w' ⟨rfl,⟨nd,rfl⟩⟩;refine⟨_,rfl,?_⟩)|(go_at_call 71;(with_reducible refine(impl_InRange.calls a0_2 0 9 false _ A6.out).mono ?_);rintro e w' ⟨rfl,⟨nd,rfl⟩⟩))
   go_meet
   case rel=>exact⟨_,(true),z14_,H',⟨z73_⟩,⟨z6_ BK207⟩,⟨Hd.b_⟩⟩
  subst c7
  rw [if_pos rfl] at H
  by_cases c8:a0_3.toList=([]:List UInt8)
  ·
   rw [if_pos c8] at H
   have c8b0:=beq_iff_eq.mpr c8
   have c8b1:=bne_eq_false_iff_eq.mpr c8
   clear c8
   (first|rw [c8b0]|(simp only[i64_w,i32_w];rw [c8b0])|skip)
   have H':=ak H
   clear H
   obtain⟨hcz9_0,hcz9_1,hcz9_2,hcz9_3,hcz9_4⟩:=Hd.c5_ BK207.out
   obtain⟨hfz9_0,hfz9_1,hfz9_2,hfz9_3,hfz9_4⟩:=Hd.f5_ BK207.out
   go_wp2_with (first|((with_reducible refine gate_callee (f:=71) rfl ?_);refine Hd.gl_ 5 Try.func71 #[.int .i64 a0_0,.int .i64 1,.int .i64 99] ?_;(with_reducible refine(impl_InRange.calls a0_0 1 99 true _ A4.out).mono ?_);rintro e w' ⟨rfl,⟨nd,rfl⟩⟩;refine⟨_,rfl,?_⟩)|(go_at_call 71;(with_reducible refine(impl_InRange.calls a0_2 0 9 true _ A6.out).mono ?_);rintro e w' ⟨rfl,⟨nd,rfl⟩⟩))
   go_meet
   case rel=>exact⟨_,(false),z14_,H',⟨z73_⟩,⟨z6_ BK207⟩,⟨Hd.b_⟩⟩
  rw [if_neg c8] at H
  have c8b0:=beq_eq_false_iff_ne.mpr c8
  have c8b1:=bne_iff_ne.mpr c8
  (first|rw [c8b0]|(simp only[i64_w,i32_w];rw [c8b0])|skip)
  replace H:=Hd.bd_ H;obtain⟨t210,A10,H⟩:=H
  have H':=ak H
  clear H
  obtain⟨hcz11_0,hcz11_1,hcz11_2,hcz11_3,hcz11_4⟩:=Hd.c5_ BK207.out
  obtain⟨hfz11_0,hfz11_1,hfz11_2,hfz11_3,hfz11_4⟩:=Hd.f5_ BK207.out
  go_wp2_with (first|((with_reducible refine gate_callee (f:=71) rfl ?_);refine Hd.gl_ 5 Try.func71 #[.int .i64 a0_0,.int .i64 1,.int .i64 99] ?_;(with_reducible refine(impl_InRange.calls a0_0 1 99 true _ A4.out).mono ?_);rintro e w' ⟨rfl,⟨nd,rfl⟩⟩;refine⟨_,rfl,?_⟩)|(go_at_call 71;(with_reducible refine(impl_InRange.calls a0_2 0 9 true _ A6.out).mono ?_);rintro e w' ⟨rfl,⟨nd,rfl⟩⟩)|(go_at_call 72;(with_reducible refine(impl_IsName.calls k a0_3 t210 _ A10.out).mono ?_);rintro e w' ⟨rfl,⟨nd,rfl⟩⟩))
  go_meet
  case rel=>exact⟨_,(!t210),z14_,H',⟨z73_⟩,⟨z6_ BK207⟩,⟨Hd.b_⟩⟩
 case rest =>
  clear HC2
  try clear c5;try clear c7;try clear c8;try clear c8b0;try clear c8b1;try clear hcz11_0;try clear hcz11_1;try clear hcz11_2;try clear hcz11_3;try clear hcz11_4;try clear hcz12_0;try clear hcz12_1;try clear hcz12_2;try clear hcz12_3;try clear hcz12_4;try clear hcz13_0;try clear hcz13_1;try clear hcz13_2;try clear hcz13_3;try clear hcz13_4;try clear hcz9_0;try clear hcz9_1;try clear hcz9_2;try clear hcz9_3;try clear hcz9_4;try clear hfz11_0;try clear hfz11_1;try clear hfz11_2;try clear hfz11_3;try clear hfz11_4;try clear hfz12_0;try clear hfz12_1;try clear hfz12_2;try clear hfz12_3;try clear hfz12_4;try clear hfz13_0;try clear hfz13_1;try clear hfz13_2;try clear hfz13_3;try clear hfz13_4;try clear hfz9_0;try clear hfz9_1;try clear hfz9_2;try clear hfz9_3;try clear hfz9_4
  obtain⟨kq,x23_1,rfl,HA,HJ1,BK207,HB⟩:=hcut
  cases kq with
  | zero=>exact absurd HA.out (by simp [impl_IsFeature.j0])
  | succ kj1 =>
   have H:=HA.out
   clear HA
   simp only[impl_IsFeature.j0] at H
   by_cases c14:x23_1=true
   ·
    subst c14
    rw [if_pos rfl] at H
    obtain rfl:=Option.some.inj H
    go_wp2
    go_ret
    exact⟨Hd.e_,Hd.b_⟩
   replace c14:=Bool.eq_false_iff.mpr c14
   subst c14
   rw [if_neg (show ¬ (false=true) by decide)] at H
   by_cases c15:a0_1=1;rotate_left
   ·
    rw [if_neg c15] at H
    have c15b0:=beq_eq_false_iff_ne.mpr c15
    have c15b1:=bne_iff_ne.mpr c15
    by_cases c22:a0_1=2
    ·
     rw [if_pos c22] at H
     have c22b0:=beq_iff_eq.mpr c22
     have c22b1:=bne_eq_false_iff_eq.mpr c22
     clear c22
     replace H:=Hd.bd_ H;obtain⟨t213,A23,H⟩:=H
     obtain rfl:=Option.some.inj H
     obtain⟨hcz24_0,hcz24_1,hcz24_2,hcz24_3,hcz24_4⟩:=Hd.c5_ BK207.out
     obtain⟨hfz24_0,hfz24_1,hfz24_2,hfz24_3,hfz24_4⟩:=Hd.f5_ BK207.out
     go_wp2_with (first|((with_reducible refine gate_callee (f:=74) rfl ?_);refine Hd.gl_ 43 Try.func74 #[.slice A0_4 l0_4.length c0_4] ?_;(with_reducible refine(impl_IsSimple.calls kj1 _ _ l0_4 t213 _ ?side1 ?side2 A23.out).mono ?_);(case side1=>exact z15_ HR0_4);(case side2=>exact HC0_4.out);rintro e w25 ⟨rfl,hb⟩;refine⟨_,rfl,?_⟩;replace BK207:=ak (Hd.kb_ BK207 hb);replace HB:=z17_;(try clear hb)))
     go_ret
     exact⟨Hd.e_,Hd.b_⟩
    rw [if_neg c22] at H
    have c22b0:=beq_eq_false_iff_ne.mpr c22
    have c22b1:=bne_iff_ne.mpr c22
    by_cases c26:a0_1=3;rotate_left
    ·
     rw [if_neg c26] at H
     have c26b0:=beq_eq_false_iff_ne.mpr c26
     have c26b1:=bne_iff_ne.mpr c26
     obtain rfl:=Option.some.inj H
     obtain⟨hcz30_0,hcz30_1,hcz30_2,hcz30_3,hcz30_4⟩:=Hd.c5_ BK207.out
     obtain⟨hfz30_0,hfz30_1,hfz30_2,hfz30_3,hfz30_4⟩:=Hd.f5_ BK207.out
     go_wp2
     go_ret
     exact⟨Hd.e_,Hd.b_⟩
    rw [if_pos c26] at H
    have c26b0:=beq_iff_eq.mpr c26
    have c26b1:=bne_eq_false_iff_eq.mpr c26
    clear c26
    replace H:=Hd.bd_ H;obtain⟨t214,A27,H⟩:=H
    obtain rfl:=Option.some.inj H
    obtain⟨hcz28_0,hcz28_1,hcz28_2,hcz28_3,hcz28_4⟩:=Hd.c5_ BK207.out
    obtain⟨hfz28_0,hfz28_1,hfz28_2,hfz28_3,hfz28_4⟩:=Hd.f5_ BK207.out
    go_wp2_with (first|((with_reducible refine gate_callee (f:=75) rfl ?_);refine Hd.gl_ 48 Try.func75 #[.slice A0_4 l0_4.length c0_4] ?_;(with_reducible refine(impl_IsRing.calls kj1 _ _ l0_4 t214 _ ?side1 ?side2 A27.out).mono ?_);(case side1=>exact z15_ HR0_4);(case side2=>exact HC0_4.out);rintro e w29 ⟨rfl,hb⟩;refine⟨_,rfl,?_⟩;replace BK207:=ak (Hd.kb_ BK207 hb);replace HB:=z17_;(try clear hb)))
    go_ret
    exact⟨Hd.e_,Hd.b_⟩
   rw [if_pos c15] at H
   have c15b0:=beq_iff_eq.mpr c15
   have c15b1:=bne_eq_false_iff_eq.mpr c15
   clear c15
   by_cases c16:(l0_4.length:Int)=1;rotate_left
   ·
    rw [if_neg c16] at H
    have c16b0:=beq_eq_false_iff_ne.mpr c16
    have c16b1:=bne_iff_ne.mpr c16
    obtain rfl:=Option.some.inj H
    obtain⟨hcz21_0,hcz21_1,hcz21_2,hcz21_3,hcz21_4⟩:=Hd.c5_ BK207.out
    obtain⟨hfz21_0,hfz21_1,hfz21_2,hfz21_3,hfz21_4⟩:=Hd.f5_ BK207.out
    go_wp2
    go_ret
    exact⟨Hd.e_,Hd.b_⟩
   rw [if_pos c16] at H
   have c16b0:=beq_iff_eq.mpr c16
   have c16b1:=bne_eq_false_iff_eq.mpr c16
   clear c16
   by_cases c17:0<(l0_4.length:Int);rotate_left
   ·
    rw [if_neg c17] at H
    exact absurd H (by simp)
   rw [if_pos c17] at H
   have c17b0:=decide_eq_true c17
   have c17b1:decide (0<l0_4.length)=true:=decide_eq_true (by omega)
   clear c17
   replace H:=Hd.bd_ H;obtain⟨t212,A18,H⟩:=H
   obtain rfl:=Option.some.inj H
   obtain⟨hcz19_0,hcz19_1,hcz19_2,hcz19_3,hcz19_4⟩:=Hd.c5_ BK207.out
   obtain⟨hfz19_0,hfz19_1,hfz19_2,hfz19_3,hfz19_4⟩:=Hd.f5_ BK207.out
   have p211:0≤(0:Int):=(by omega)
   have q211:0<(l0_4.length:Int):=od_
   obtain⟨ad211,e211,hx211_0,hx211_1⟩:=at_T75 HR0_4.out 0 p211 q211
   cases e211
   have qi211:(0<l0_4.length)=True:=eq_true (by omega)
   (try rw [show ((0:Int)).toNat=0 from rfl] at hx211_0)
   (try rw [show 0*2=0 from rfl] at hx211_0)
   (try rw [Addr.add_zero'] at hx211_0)
   (try rw [show ((0:Int)).toNat=0 from rfl] at hx211_1)
   (try rw [show 0*2=0 from rfl] at hx211_1)
   (try rw [Addr.add_zero'] at hx211_1)
   replace hx211_0:=(HB.out.cell (bl_ w _ hx211_0)).trans hx211_0
   replace hx211_1:=(HB.out.cell (bl_ w _ hx211_1)).trans hx211_1
   replace p211:=eq_true p211
   replace q211:=eq_true q211
   go_wp2_with (first|(go_at_call 73;(with_reducible refine(impl_IsPoint.calls ((rd_T75 l0_4 0).f0) ((rd_T75 l0_4 0).f1) t212 _ A18.out).mono ?_);rintro e w20 ⟨rfl,hb⟩;replace BK207:=ak (Hd.kb_ BK207 hb);replace HB:=z17_;(try clear hb)))
   go_ret
   exact⟨Hd.e_,Hd.b_⟩
def impl_IsSource.l0:Nat→List (S34)→List (S34)→Int→Int→Option (Bool)
 | 0,_,_,_,_=>none
 | k+1,x0,x8,x9,x10=>if x10<x9 then (if 0≤x10 then (if x10<(x8.length:Int) then ((impl_IsFeature.f k ((rd_T34 x8 x10).f0) ((rd_T34 x8 x10).f1) ((rd_T34 x8 x10).f2) ((rd_T34 x8 x10).f3) ((rd_T34 x8 x10).f4)).bind fun t217=>(if t217=true then (if x10>0 then (if 0≤(wrap64 (x10-1)) then (if (wrap64 (x10-1))<(x0.length:Int) then (if ((rd_T34 x8 x10).f0)≤((rd_T34 x0 (wrap64 (x10-1))).f0) then (some false) else (impl_IsSource.l0 k x0 x8 x9 (wrap64 (x10+1)))) else (none)) else (none)) else (impl_IsSource.l0 k x0 x8 x9 (wrap64 (x10+1)))) else (some false))) else (none)) else (none)) else (some true)
def impl_IsSource.f (k:Nat) (l0:List (S34)):Option (Bool):=if (l0.length:Int)>16 then (some false) else (impl_IsSource.l0 k l0 l0 (l0.length:Int) 0)
def impl_IsSource.T6:Bool × List (List Nat × List Nat):=(true,[([],[]),([0],[0]),([1],[1]),([2,1],[2]),([3],[3]),([4,3],[3,4]),([5,3,3],[3,5]),([6],[6]),([7,6],[6,7]),([6],[6]),([6],[6]),([10,6],[6,10]),([9,11,6],[6,9,11]),([12,6],[6,12]),([13,6],[6,13]),([8,14,6],[6,8,14]),([6,15,3],[3,6,15]),([3,16],[3,16])])
def impl_IsSource.B6:List Nat:=[0,1,3,7,15,31,63,127,255,127,127,1151,3711,7807,15999,32767,65535,131071]
theorem impl_IsSource.tab6:rtab .any (opsOf Try.f21 6)=impl_IsSource.T6:=by kernel_rfl
theorem impl_IsSource.bits6:waitsOk impl_IsSource.T6.2 impl_IsSource.B6=true:=by kernel_rfl
theorem impl_IsSource.calls (k:Nat) (A0:Option Addr) (c0:Nat) (l0:List (S34)) (r:Bool) (w:World) (hr0:Kd.C k34 w A0 l0.length l0) (hc0:l0.length≤c0) (h:impl_IsSource.f k l0=some r) :
  Calls Try.prog 21 #[.slice A0 l0.length c0] w fun e w'=>e = .returned (.bool r)∧Below w.heap.size w w':=by
 have hu34:=Try.underlying34
 have HR0:=ak hr0
 have HC0:=ak hc0
 clear hr0 hc0
 have HB:=z52_
 have H:=h;clear h;unfold impl_IsSource.f at H
 by_cases c2:(l0.length:Int)>16
 ·
  rw [if_pos c2] at H
  have c2b0:decide (16<(l0.length:Int))=true:=decide_eq_true c2
  have c2b1:decide (16<l0.length)=true:=decide_eq_true (by omega)
  clear c2
  obtain rfl:=Option.some.inj H
  go_enter Try.func21,Try.ntmps21
  go_wp2
  go_ret
  exact⟨Hd.e_,Hd.b_⟩
 rw [if_neg c2] at H
 have c2b0:decide (16<(l0.length:Int))=false:=decide_eq_false c2
 have c2b1:decide (16<l0.length)=false:=decide_eq_false (by omega)
 clear c2
 have H':=ak H
 clear H
 go_enter Try.func21,Try.ntmps21
 go_wp2
 go_loopg [10] k (fun kq v10 w'=>∃ (x10_1:Int),v10 = .int .i64 x10_1∧Aside0 (impl_IsSource.l0 kq l0 l0 (l0.length:Int) x10_1=some r)∧Aside0 (kq≤k)∧Aside0 (Below w.heap.size w w'))
 case atStart=>exact⟨(0),z14_,H',⟨Nat.le_refl _⟩,⟨Hd.b_⟩⟩
 case round =>
  clear H'
  try clear c2;try clear c2b0;try clear c2b1
  obtain⟨x10_1,rfl,HA,HK1,HB⟩:=hrel
  cases gk with
  | zero=>exact absurd HA.out (by simp [impl_IsSource.l0])
  | succ k1 =>
   have H:=HA.out
   clear HA
   simp only[impl_IsSource.l0] at H
   by_cases c3:x10_1<(l0.length:Int);rotate_left
   ·
    rw [if_neg c3] at H
    have c3b0:=decide_eq_false c3
    clear c3
    obtain rfl:=Option.some.inj H
    go_wp2
    go_ret
    exact⟨Hd.e_,Hd.b_⟩
   rw [if_pos c3] at H
   have c3b0:=decide_eq_true c3
   clear c3
   by_cases c4:0≤x10_1;rotate_left
   ·
    rw [if_neg c4] at H
    exact absurd H (by simp)
   rw [if_pos c4] at H
   have c4b0:=decide_eq_true c4
   clear c4
   by_cases c5:x10_1<(l0.length:Int);rotate_left
   ·
    rw [if_neg c5] at H
    exact absurd H (by simp)
   rw [if_pos c5] at H
   have c5b0:=decide_eq_true c5
   clear c5
   replace H:=Hd.bd_ H;obtain⟨t217,A6,H⟩:=H
   by_cases c7:t217=true;rotate_left
   ·
    replace c7:=Bool.eq_false_iff.mpr c7
    subst c7
    rw [if_neg (show ¬ (false=true) by decide)] at H
    obtain rfl:=Option.some.inj H
    have p215:0≤(x10_1:Int):=od_
    have q215:x10_1<(l0.length:Int):=od_
    obtain⟨ad215,A215_4,c215_4,e215,hx215_0,hx215_1,hx215_2,hx215_3,hx215_4,hl215_4,hi215_4⟩:=at_T34 HR0.out x10_1 p215 q215
    cases e215
    replace hx215_0:=z178_
    replace hx215_1:=z179_
    replace hx215_2:=z180_
    replace hx215_3:=z181_
    replace hx215_4:=z182_
    have HR215_4:=ak hi215_4
    have HC215_4:=ak hl215_4
    clear hi215_4 hl215_4
    replace p215:=eq_true p215
    replace q215:=eq_true q215
    try go_wp2_with (first|((with_reducible refine gate_dst (N:=4) rfl ?_);refine Hd.box_ 4 (#[.int .i64 0,.int .i64 0,.int .i64 0,.string (⟨#[]⟩:ByteArray),.slice none 0 0]) 34 ?_;intro gb216 hg w28 hbox hb;have BK216:=ak (hbox);have GW216:=z122_;have GE216:=z122_;replace HB:=z17_;clear hb hbox hg;obtain⟨hcz29_0,hcz29_1,hcz29_2,hcz29_3,hcz29_4⟩:=Hd.c5_ BK216.out;obtain⟨hfz29_0,hfz29_1,hfz29_2,hfz29_3,hfz29_4⟩:=Hd.f5_ BK216.out))
    have n0_:Aside0 ((((((w28.setCell ⟨gb216,0,none⟩ (.int .i64 ((rd_T34 l0 x10_1).f0))).setCell ⟨gb216,1,none⟩ (.int .i64 ((rd_T34 l0 x10_1).f1))).setCell ⟨gb216,2,none⟩ (.int .i64 ((rd_T34 l0 x10_1).f2))).setCell ⟨gb216,3,none⟩ (.string ((rd_T34 l0 x10_1).f3))).setCell ⟨gb216,4,none⟩ (.slice A215_4 ((rd_T34 l0 x10_1).f4).length c215_4)).heap[gb216]?=some (.cells #[.int .i64 ((rd_T34 l0 x10_1).f0),.int .i64 ((rd_T34 l0 x10_1).f1),.int .i64 ((rd_T34 l0 x10_1).f2),.string ((rd_T34 l0 x10_1).f3),.slice A215_4 ((rd_T34 l0 x10_1).f4).length c215_4] 34 (0,0))):=⟨z21_ BK216⟩
    have n1_:Aside0 (Below w.heap.size w (((((w28.setCell ⟨gb216,0,none⟩ (.int .i64 ((rd_T34 l0 x10_1).f0))).setCell ⟨gb216,1,none⟩ (.int .i64 ((rd_T34 l0 x10_1).f1))).setCell ⟨gb216,2,none⟩ (.int .i64 ((rd_T34 l0 x10_1).f2))).setCell ⟨gb216,3,none⟩ (.string ((rd_T34 l0 x10_1).f3))).setCell ⟨gb216,4,none⟩ (.slice A215_4 ((rd_T34 l0 x10_1).f4).length c215_4))):=⟨Hd.b_⟩
    try clear BK216;try clear HB
    generalize (((((w28.setCell ⟨gb216,0,none⟩ (.int .i64 ((rd_T34 l0 x10_1).f0))).setCell ⟨gb216,1,none⟩ (.int .i64 ((rd_T34 l0 x10_1).f1))).setCell ⟨gb216,2,none⟩ (.int .i64 ((rd_T34 l0 x10_1).f2))).setCell ⟨gb216,3,none⟩ (.string ((rd_T34 l0 x10_1).f3))).setCell ⟨gb216,4,none⟩ (.slice A215_4 ((rd_T34 l0 x10_1).f4).length c215_4))=w30 at n0_ n1_ ⊢
    have BK216:=n0_
    have HB:=n1_
    clear n0_ n1_
    replace BK216:=z65_ BK216
    replace HB:=z42_
    refine start_ (n:=18) (S:=fun w'=>w'.cell? ⟨gb216,0,none⟩=some (.int .i64 ((rd_T34 l0 x10_1).f0))∧w'.cell? ⟨gb216,1,none⟩=some (.int .i64 ((rd_T34 l0 x10_1).f1))∧w'.cell? ⟨gb216,2,none⟩=some (.int .i64 ((rd_T34 l0 x10_1).f2))∧w'.cell? ⟨gb216,3,none⟩=some (.string ((rd_T34 l0 x10_1).f3))∧w'.cell? ⟨gb216,4,none⟩=some (.slice A215_4 ((rd_T34 l0 x10_1).f4).length c215_4)) (ds:=[]) #[Z,Z,Z,Z,Z,Z,Z,Z,Z,Z,Z,Z,Z,Z,Z,Z,Z,Z] (by kernel_rfl) rfl rfl ⟨(blk_cell BK216.out 0).trans rfl,(blk_cell BK216.out 1).trans rfl,(blk_cell BK216.out 2).trans rfl,(blk_cell BK216.out 3).trans rfl,(blk_cell BK216.out 4).trans rfl⟩ (fun hHeld=>?_);refine with_tabW impl_IsSource.tab6 impl_IsSource.bits6 (fun HT_ HW_=>?_)
    generalize w30.drew=w31 at BK216 HB hHeld ⊢
    refine Hd.t_ HT_ HW_ hHeld 0 (some 15) #[Y,Z,Z,Z,Z,Z,Z,Z,Z,Z,Z,Z,Z,Z,Z,Z,Z,Z] ?_
    refine Hd.o_ HT_ 1 (some 16) #[Y,Y,Z,Z,Z,Z,Z,Z,Z,Z,Z,Z,Z,Z,Z,Z,Z,Z] (fun K hK=>?_)
    refine goes_ Try.func52 (by kernel_rfl) rfl #[.agg #[.int .i64 ((rd_T34 l0 x10_1).f0),.int .i64 ((rd_T34 l0 x10_1).f1),.int .i64 ((rd_T34 l0 x10_1).f2),.string ((rd_T34 l0 x10_1).f3),.slice A215_4 ((rd_T34 l0 x10_1).f4).length c215_4]] (by rfl) rfl rfl Hd.m_ ?_
    with_reducible refine(impl_IsFeature.calls k1 ((rd_T34 l0 x10_1).f0) ((rd_T34 l0 x10_1).f1) ((rd_T34 l0 x10_1).f2) ((rd_T34 l0 x10_1).f3) _ _ ((rd_T34 l0 x10_1).f4) false _ ?side1 ?side2 A6.out).mono ?_
    (case side1=>exact z15_ HR215_4)
    (case side2=>exact HC215_4.out)
    rintro e w32 ⟨rfl,hb⟩
    refine⟨_,rfl,?_⟩
    replace BK216:=ak (Hd.kb_ BK216 hb)
    replace HB:=z17_
    try clear hb
    refine hK.out _ _ ⟨(blk_cell BK216.out 0).trans rfl,(blk_cell BK216.out 1).trans rfl,(blk_cell BK216.out 2).trans rfl,(blk_cell BK216.out 3).trans rfl,(blk_cell BK216.out 4).trans rfl⟩ (fun hHeld=>?_)
    clear hK K
    refine Hd.n_ (some 16) ?_
    refine Hd.p_ HT_ 2 (some 17) #[Y,Y,Y,Z,Z,Z,Z,Z,Z,Z,Z,Z,Z,Z,Z,Z,Z,Z] ?_
    refine Hd.p_ HT_ 3 (some 18) #[Y,Y,Y,Y,Z,Z,Z,Z,Z,Z,Z,Z,Z,Z,Z,Z,Z,Z] ?_
    refine pure_ (i:=4) (N:=some 19) (v:=undef) (a':=?_) #[Y,Y,Y,Y,Y,Z,Z,Z,Z,Z,Z,Z,Z,Z,Z,Z,Z,Z] rfl rfl (any_of HT_.out (by kernel_rfl)) (fun _ _ _ h=>h) (Or.inr ⟨by rfl,rfl⟩) ?_ ?_
    rotate_left
    ·
     simp only[Act.put,List.setIfInBounds_toArray,List.set_cons_zero,List.set_cons_succ,i64_w,i32_w]
     rfl
    refine pure_ (i:=5) (N:=some 20) (v:=undef) (a':=?_) #[Y,Y,Y,Y,Y,Y,Z,Z,Z,Z,Z,Z,Z,Z,Z,Z,Z,Z] rfl rfl (any_of HT_.out (by kernel_rfl)) (fun _ _ _ h=>h) (Or.inr ⟨by rfl,rfl⟩) ?_ ?_
    rotate_left
    ·
     simp only[Act.put,List.setIfInBounds_toArray,List.set_cons_zero,List.set_cons_succ,i64_w,i32_w]
     rfl
    refine pure_ (i:=6) (N:=some 21) (v:=undef) (a':=?_) #[Y,Y,Y,Y,Y,Y,Y,Z,Z,Z,Z,Z,Z,Z,Z,Z,Z,Z] rfl rfl (any_of HT_.out (by kernel_rfl)) (fun _ _ _ h=>h) (Or.inr ⟨by rfl,rfl⟩) ?_ ?_
    rotate_left
    ·
     simp only[Act.put,List.setIfInBounds_toArray,List.set_cons_zero,List.set_cons_succ,i64_w,i32_w]
     rfl
    refine pure_ (i:=7) (N:=some 22) (v:=undef) (a':=?_) #[Y,Y,Y,Y,Y,Y,Y,Y,Z,Z,Z,Z,Z,Z,Z,Z,Z,Z] rfl rfl (any_of HT_.out (by kernel_rfl)) (fun _ _ _ h=>h) (Or.inr ⟨by rfl,rfl⟩) ?_ ?_
    rotate_left
    ·
     simp only[Act.put,List.setIfInBounds_toArray,List.set_cons_zero,List.set_cons_succ,i64_w,i32_w]
     rfl
    refine pure_ (i:=8) (N:=some 23) (v:=undef) (a':=?_) #[Y,Y,Y,Y,Y,Y,Y,Y,Y,Z,Z,Z,Z,Z,Z,Z,Z,Z] rfl rfl (any_of HT_.out (by kernel_rfl)) (fun _ _ _ h=>h) (Or.inr ⟨by rfl,rfl⟩) ?_ ?_
    rotate_left
    ·
     simp only[Act.put,List.setIfInBounds_toArray,List.set_cons_zero,List.set_cons_succ,i64_w,i32_w]
     rfl
    refine pure_ (i:=9) (N:=some 24) (v:=undef) (a':=?_) #[Y,Y,Y,Y,Y,Y,Y,Y,Y,Y,Z,Z,Z,Z,Z,Z,Z,Z] rfl rfl (any_of HT_.out (by kernel_rfl)) (fun _ _ _ h=>h) (Or.inr ⟨by rfl,rfl⟩) ?_ ?_
    rotate_left
    ·
     simp only[Act.put,List.setIfInBounds_toArray,List.set_cons_zero,List.set_cons_succ,i64_w,i32_w]
     rfl
    refine pure_ (i:=10) (N:=some 25) (v:=undef) (a':=?_) #[Y,Y,Y,Y,Y,Y,Y,Y,Y,Y,Y,Z,Z,Z,Z,Z,Z,Z] rfl rfl (any_of HT_.out (by kernel_rfl)) (fun _ _ _ h=>h) (Or.inr ⟨by rfl,rfl⟩) ?_ ?_
    rotate_left
    ·
     simp only[Act.put,List.setIfInBounds_toArray,List.set_cons_zero,List.set_cons_succ,i64_w,i32_w]
     rfl
    refine pure_ (i:=11) (N:=some 26) (v:=undef) (a':=?_) #[Y,Y,Y,Y,Y,Y,Y,Y,Y,Y,Y,Y,Z,Z,Z,Z,Z,Z] rfl rfl (any_of HT_.out (by kernel_rfl)) (fun _ _ _ h=>h) (Or.inr ⟨by rfl,rfl⟩) ?_ ?_
    rotate_left
    ·
     simp only[Act.put,List.setIfInBounds_toArray,List.set_cons_zero,List.set_cons_succ,i64_w,i32_w]
     rfl
    refine pure_ (i:=12) (N:=some 27) (v:=undef) (a':=?_) #[Y,Y,Y,Y,Y,Y,Y,Y,Y,Y,Y,Y,Y,Z,Z,Z,Z,Z] rfl rfl (any_of HT_.out (by kernel_rfl)) (fun _ _ _ h=>h) (Or.inr ⟨by rfl,rfl⟩) ?_ ?_
    rotate_left
    ·
     simp only[Act.put,List.setIfInBounds_toArray,List.set_cons_zero,List.set_cons_succ,i64_w,i32_w]
     rfl
    refine pure_ (i:=13) (N:=some 28) (v:=undef) (a':=?_) #[Y,Y,Y,Y,Y,Y,Y,Y,Y,Y,Y,Y,Y,Y,Z,Z,Z,Z] rfl rfl (any_of HT_.out (by kernel_rfl)) (fun _ _ _ h=>h) (Or.inr ⟨by rfl,rfl⟩) ?_ ?_
    rotate_left
    ·
     simp only[Act.put,List.setIfInBounds_toArray,List.set_cons_zero,List.set_cons_succ,i64_w,i32_w]
     rfl
    refine pure_ (i:=14) (N:=some 29) (v:=undef) (a':=?_) #[Y,Y,Y,Y,Y,Y,Y,Y,Y,Y,Y,Y,Y,Y,Y,Z,Z,Z] rfl rfl (any_of HT_.out (by kernel_rfl)) (fun _ _ _ h=>h) (Or.inr ⟨by rfl,rfl⟩) ?_ ?_
    rotate_left
    ·
     simp only[Act.put,List.setIfInBounds_toArray,List.set_cons_zero,List.set_cons_succ,i64_w,i32_w]
     rfl
    refine pure_ (i:=15) (N:=some 30) (v:=undef) (a':=?_) #[Y,Y,Y,Y,Y,Y,Y,Y,Y,Y,Y,Y,Y,Y,Y,Y,Z,Z] rfl rfl (any_of HT_.out (by kernel_rfl)) (fun _ _ _ h=>h) (Or.inr ⟨by rfl,rfl⟩) ?_ ?_
    rotate_left
    ·
     simp only[Act.put,List.setIfInBounds_toArray,List.set_cons_zero,List.set_cons_succ,i64_w,i32_w]
     rfl
    refine pure_ (i:=16) (N:=some 31) (v:=undef) (a':=?_) #[Y,Y,Y,Y,Y,Y,Y,Y,Y,Y,Y,Y,Y,Y,Y,Y,Y,Z] rfl rfl (any_of HT_.out (by kernel_rfl)) (fun _ _ _ h=>h) (Or.inr ⟨by rfl,rfl⟩) ?_ ?_
    rotate_left
    ·
     simp only[Act.put,List.setIfInBounds_toArray,List.set_cons_zero,List.set_cons_succ,i64_w,i32_w]
     rfl
    refine Hd.p_ HT_ 17 (some 32) #[Y,Y,Y,Y,Y,Y,Y,Y,Y,Y,Y,Y,Y,Y,Y,Y,Y,Y] ?_
    refine done_ (done_of HT_.out (by kernel_rfl)) ?_
    try go_wp2
    go_ret
    exact⟨Hd.e_,Hd.b_⟩
   subst c7
   rw [if_pos rfl] at H
   by_cases c8:x10_1>0;rotate_left
   ·
    rw [if_neg c8] at H
    have c8b0:decide (0<x10_1)=false:=decide_eq_false c8
    clear c8
    have H':=ak H
    clear H
    have p215:0≤(x10_1:Int):=od_
    have q215:x10_1<(l0.length:Int):=od_
    obtain⟨ad215,A215_4,c215_4,e215,hx215_0,hx215_1,hx215_2,hx215_3,hx215_4,hl215_4,hi215_4⟩:=at_T34 HR0.out x10_1 p215 q215
    cases e215
    replace hx215_0:=z178_
    replace hx215_1:=z179_
    replace hx215_2:=z180_
    replace hx215_3:=z181_
    replace hx215_4:=z182_
    have HR215_4:=ak hi215_4
    have HC215_4:=ak hl215_4
    clear hi215_4 hl215_4
    replace p215:=eq_true p215
    replace q215:=eq_true q215
    try go_wp2_with (first|((with_reducible refine gate_dst (N:=4) rfl ?_);refine Hd.box_ 4 (#[.int .i64 0,.int .i64 0,.int .i64 0,.string (⟨#[]⟩:ByteArray),.slice none 0 0]) 34 ?_;intro gb216 hg w23 hbox hb;have BK216:=ak (hbox);have GW216:=z122_;have GE216:=z122_;replace HB:=z17_;clear hb hbox hg;obtain⟨hcz24_0,hcz24_1,hcz24_2,hcz24_3,hcz24_4⟩:=Hd.c5_ BK216.out;obtain⟨hfz24_0,hfz24_1,hfz24_2,hfz24_3,hfz24_4⟩:=Hd.f5_ BK216.out))
    have n0_:Aside0 ((((((w23.setCell ⟨gb216,0,none⟩ (.int .i64 ((rd_T34 l0 x10_1).f0))).setCell ⟨gb216,1,none⟩ (.int .i64 ((rd_T34 l0 x10_1).f1))).setCell ⟨gb216,2,none⟩ (.int .i64 ((rd_T34 l0 x10_1).f2))).setCell ⟨gb216,3,none⟩ (.string ((rd_T34 l0 x10_1).f3))).setCell ⟨gb216,4,none⟩ (.slice A215_4 ((rd_T34 l0 x10_1).f4).length c215_4)).heap[gb216]?=some (.cells #[.int .i64 ((rd_T34 l0 x10_1).f0),.int .i64 ((rd_T34 l0 x10_1).f1),.int .i64 ((rd_T34 l0 x10_1).f2),.string ((rd_T34 l0 x10_1).f3),.slice A215_4 ((rd_T34 l0 x10_1).f4).length c215_4] 34 (0,0))):=⟨z21_ BK216⟩
    have n1_:Aside0 (Below w.heap.size w (((((w23.setCell ⟨gb216,0,none⟩ (.int .i64 ((rd_T34 l0 x10_1).f0))).setCell ⟨gb216,1,none⟩ (.int .i64 ((rd_T34 l0 x10_1).f1))).setCell ⟨gb216,2,none⟩ (.int .i64 ((rd_T34 l0 x10_1).f2))).setCell ⟨gb216,3,none⟩ (.string ((rd_T34 l0 x10_1).f3))).setCell ⟨gb216,4,none⟩ (.slice A215_4 ((rd_T34 l0 x10_1).f4).length c215_4))):=⟨Hd.b_⟩
    try clear BK216;try clear HB
    generalize (((((w23.setCell ⟨gb216,0,none⟩ (.int .i64 ((rd_T34 l0 x10_1).f0))).setCell ⟨gb216,1,none⟩ (.int .i64 ((rd_T34 l0 x10_1).f1))).setCell ⟨gb216,2,none⟩ (.int .i64 ((rd_T34 l0 x10_1).f2))).setCell ⟨gb216,3,none⟩ (.string ((rd_T34 l0 x10_1).f3))).setCell ⟨gb216,4,none⟩ (.slice A215_4 ((rd_T34 l0 x10_1).f4).length c215_4))=w25 at n0_ n1_ ⊢
    have BK216:=n0_
    have HB:=n1_
    clear n0_ n1_
    replace BK216:=z65_ BK216
    replace HB:=z42_
    refine start_ (n:=18) (S:=fun w'=>w'.cell? ⟨gb216,0,none⟩=some (.int .i64 ((rd_T34 l0 x10_1).f0))∧w'.cell? ⟨gb216,1,none⟩=some (.int .i64 ((rd_T34 l0 x10_1).f1))∧w'.cell? ⟨gb216,2,none⟩=some (.int .i64 ((rd_T34 l0 x10_1).f2))∧w'.cell? ⟨gb216,3,none⟩=some (.string ((rd_T34 l0 x10_1).f3))∧w'.cell? ⟨gb216,4,none⟩=some (.slice A215_4 ((rd_T34 l0 x10_1).f4).length c215_4)) (ds:=[]) #[Z,Z,Z,Z,Z,Z,Z,Z,Z,Z,Z,Z,Z,Z,Z,Z,Z,Z] (by kernel_rfl) rfl rfl ⟨(blk_cell BK216.out 0).trans rfl,(blk_cell BK216.out 1).trans rfl,(blk_cell BK216.out 2).trans rfl,(blk_cell BK216.out 3).trans rfl,(blk_cell BK216.out 4).trans rfl⟩ (fun hHeld=>?_);refine with_tabW impl_IsSource.tab6 impl_IsSource.bits6 (fun HT_ HW_=>?_)
    generalize w25.drew=w26 at BK216 HB hHeld ⊢
    refine Hd.t_ HT_ HW_ hHeld 0 (some 15) #[Y,Z,Z,Z,Z,Z,Z,Z,Z,Z,Z,Z,Z,Z,Z,Z,Z,Z] ?_
    refine Hd.o_ HT_ 1 (some 16) #[Y,Y,Z,Z,Z,Z,Z,Z,Z,Z,Z,Z,Z,Z,Z,Z,Z,Z] (fun K hK=>?_)
    refine goes_ Try.func52 (by kernel_rfl) rfl #[.agg #[.int .i64 ((rd_T34 l0 x10_1).f0),.int .i64 ((rd_T34 l0 x10_1).f1),.int .i64 ((rd_T34 l0 x10_1).f2),.string ((rd_T34 l0 x10_1).f3),.slice A215_4 ((rd_T34 l0 x10_1).f4).length c215_4]] (by rfl) rfl rfl Hd.m_ ?_
    with_reducible refine(impl_IsFeature.calls k1 ((rd_T34 l0 x10_1).f0) ((rd_T34 l0 x10_1).f1) ((rd_T34 l0 x10_1).f2) ((rd_T34 l0 x10_1).f3) _ _ ((rd_T34 l0 x10_1).f4) true _ ?side1 ?side2 A6.out).mono ?_
    (case side1=>exact z15_ HR215_4)
    (case side2=>exact HC215_4.out)
    rintro e w27 ⟨rfl,hb⟩
    refine⟨_,rfl,?_⟩
    replace BK216:=ak (Hd.kb_ BK216 hb)
    replace HB:=z17_
    try clear hb
    refine hK.out _ _ ⟨(blk_cell BK216.out 0).trans rfl,(blk_cell BK216.out 1).trans rfl,(blk_cell BK216.out 2).trans rfl,(blk_cell BK216.out 3).trans rfl,(blk_cell BK216.out 4).trans rfl⟩ (fun hHeld=>?_)
    clear hK K
    refine Hd.n_ (some 16) ?_
    refine Hd.p_ HT_ 2 (some 17) #[Y,Y,Y,Z,Z,Z,Z,Z,Z,Z,Z,Z,Z,Z,Z,Z,Z,Z] ?_
    refine Hd.p_ HT_ 3 (some 18) #[Y,Y,Y,Y,Z,Z,Z,Z,Z,Z,Z,Z,Z,Z,Z,Z,Z,Z] ?_
    refine Hd.p_ HT_ 4 (some 19) #[Y,Y,Y,Y,Y,Z,Z,Z,Z,Z,Z,Z,Z,Z,Z,Z,Z,Z] ?_
    refine Hd.p_ HT_ 5 (some 20) #[Y,Y,Y,Y,Y,Y,Z,Z,Z,Z,Z,Z,Z,Z,Z,Z,Z,Z] ?_
    refine Hd.p_ HT_ 6 (some 21) #[Y,Y,Y,Y,Y,Y,Y,Z,Z,Z,Z,Z,Z,Z,Z,Z,Z,Z] ?_
    refine pure_ (i:=7) (N:=some 22) (v:=undef) (a':=?_) #[Y,Y,Y,Y,Y,Y,Y,Y,Z,Z,Z,Z,Z,Z,Z,Z,Z,Z] rfl rfl (any_of HT_.out (by kernel_rfl)) (fun _ _ _ h=>h) (Or.inr ⟨by rfl,rfl⟩) ?_ ?_
    rotate_left
    ·
     simp only[Act.put,List.setIfInBounds_toArray,List.set_cons_zero,List.set_cons_succ,i64_w,i32_w]
     rfl
    refine pure_ (i:=8) (N:=some 23) (v:=undef) (a':=?_) #[Y,Y,Y,Y,Y,Y,Y,Y,Y,Z,Z,Z,Z,Z,Z,Z,Z,Z] rfl rfl (any_of HT_.out (by kernel_rfl)) (fun _ _ _ h=>h) (Or.inr ⟨by rfl,rfl⟩) ?_ ?_
    rotate_left
    ·
     simp only[Act.put,List.setIfInBounds_toArray,List.set_cons_zero,List.set_cons_succ,i64_w,i32_w]
     rfl
    refine pure_ (i:=9) (N:=some 24) (v:=undef) (a':=?_) #[Y,Y,Y,Y,Y,Y,Y,Y,Y,Y,Z,Z,Z,Z,Z,Z,Z,Z] rfl rfl (any_of HT_.out (by kernel_rfl)) (fun _ _ _ h=>h) (Or.inr ⟨by rfl,rfl⟩) ?_ ?_
    rotate_left
    ·
     simp only[Act.put,List.setIfInBounds_toArray,List.set_cons_zero,List.set_cons_succ,i64_w,i32_w]
     rfl
    refine pure_ (i:=10) (N:=some 25) (v:=undef) (a':=?_) #[Y,Y,Y,Y,Y,Y,Y,Y,Y,Y,Y,Z,Z,Z,Z,Z,Z,Z] rfl rfl (any_of HT_.out (by kernel_rfl)) (fun _ _ _ h=>h) (Or.inr ⟨by rfl,rfl⟩) ?_ ?_
    rotate_left
    ·
     simp only[Act.put,List.setIfInBounds_toArray,List.set_cons_zero,List.set_cons_succ,i64_w,i32_w]
     rfl
    refine pure_ (i:=11) (N:=some 26) (v:=undef) (a':=?_) #[Y,Y,Y,Y,Y,Y,Y,Y,Y,Y,Y,Y,Z,Z,Z,Z,Z,Z] rfl rfl (any_of HT_.out (by kernel_rfl)) (fun _ _ _ h=>h) (Or.inr ⟨by rfl,rfl⟩) ?_ ?_
    rotate_left
    ·
     simp only[Act.put,List.setIfInBounds_toArray,List.set_cons_zero,List.set_cons_succ,i64_w,i32_w]
     rfl
    refine pure_ (i:=12) (N:=some 27) (v:=undef) (a':=?_) #[Y,Y,Y,Y,Y,Y,Y,Y,Y,Y,Y,Y,Y,Z,Z,Z,Z,Z] rfl rfl (any_of HT_.out (by kernel_rfl)) (fun _ _ _ h=>h) (Or.inr ⟨by rfl,rfl⟩) ?_ ?_
    rotate_left
    ·
     simp only[Act.put,List.setIfInBounds_toArray,List.set_cons_zero,List.set_cons_succ,i64_w,i32_w]
     rfl
    refine pure_ (i:=13) (N:=some 28) (v:=undef) (a':=?_) #[Y,Y,Y,Y,Y,Y,Y,Y,Y,Y,Y,Y,Y,Y,Z,Z,Z,Z] rfl rfl (any_of HT_.out (by kernel_rfl)) (fun _ _ _ h=>h) (Or.inr ⟨by rfl,rfl⟩) ?_ ?_
    rotate_left
    ·
     simp only[Act.put,List.setIfInBounds_toArray,List.set_cons_zero,List.set_cons_succ,i64_w,i32_w]
     rfl
    refine pure_ (i:=14) (N:=some 29) (v:=undef) (a':=?_) #[Y,Y,Y,Y,Y,Y,Y,Y,Y,Y,Y,Y,Y,Y,Y,Z,Z,Z] rfl rfl (any_of HT_.out (by kernel_rfl)) (fun _ _ _ h=>h) (Or.inr ⟨by rfl,rfl⟩) ?_ ?_
    rotate_left
    ·
     simp only[Act.put,List.setIfInBounds_toArray,List.set_cons_zero,List.set_cons_succ,i64_w,i32_w]
     rfl
    refine pure_ (i:=15) (N:=some 30) (v:=undef) (a':=?_) #[Y,Y,Y,Y,Y,Y,Y,Y,Y,Y,Y,Y,Y,Y,Y,Y,Z,Z] rfl rfl (any_of HT_.out (by kernel_rfl)) (fun _ _ _ h=>h) (Or.inr ⟨by rfl,rfl⟩) ?_ ?_
    rotate_left
    ·
     simp only[Act.put,List.setIfInBounds_toArray,List.set_cons_zero,List.set_cons_succ,i64_w,i32_w]
     rfl
    refine Hd.p_ HT_ 16 (some 31) #[Y,Y,Y,Y,Y,Y,Y,Y,Y,Y,Y,Y,Y,Y,Y,Y,Y,Z] ?_
    refine Hd.p_ HT_ 17 (some 32) #[Y,Y,Y,Y,Y,Y,Y,Y,Y,Y,Y,Y,Y,Y,Y,Y,Y,Y] ?_
    refine done_ (done_of HT_.out (by kernel_rfl)) ?_
    try go_wp2
    go_roundg k1
    case measure=>have:=HK1.out;omega
    case rel=>exact⟨(wrap64 (x10_1+1)),z14_,H',⟨z101_⟩,⟨Hd.b_⟩⟩
   rw [if_pos c8] at H
   have c8b0:decide (0<x10_1)=true:=decide_eq_true c8
   clear c8
   obtain⟨ji9,hji9⟩:∃ j_:Int,(wrap64 (x10_1-1))=j_:=⟨_,rfl⟩
   replace H:(if 0≤(ji9) then (if (ji9)<(l0.length:Int) then (if ((rd_T34 l0 x10_1).f0)≤((rd_T34 l0 (ji9)).f0) then (some false) else (impl_IsSource.l0 k1 l0 l0 (l0.length:Int) (wrap64 (x10_1+1)))) else (none)) else (none))=some r:=by first|(rw [hji9] at H;exact H)|(simp only[hji9] at H ⊢;exact H)
   (try rw [hji9] at A6)
   have hji9w:(IntKind.i64.wrap (x10_1-1))=ji9:=(i64_w _).trans hji9
   by_cases c10:0≤(ji9);rotate_left
   ·
    rw [if_neg c10] at H
    exact absurd H (by simp)
   rw [if_pos c10] at H
   have c10b0:=z212_
   clear c10
   by_cases c11:(ji9)<(l0.length:Int);rotate_left
   ·
    rw [if_neg c11] at H
    exact absurd H (by simp)
   rw [if_pos c11] at H
   have c11b0:=decide_eq_true c11
   clear c11
   by_cases c12:((rd_T34 l0 x10_1).f0)≤((rd_T34 l0 (ji9)).f0)
   ·
    rw [if_pos c12] at H
    have c12b0:=decide_eq_true c12
    clear c12
    obtain rfl:=Option.some.inj H
    have p215:0≤(x10_1:Int):=od_
    have q215:x10_1<(l0.length:Int):=od_
    obtain⟨ad215,A215_4,c215_4,e215,hx215_0,hx215_1,hx215_2,hx215_3,hx215_4,hl215_4,hi215_4⟩:=at_T34 HR0.out x10_1 p215 q215
    cases e215
    replace hx215_0:=z178_
    replace hx215_1:=z179_
    replace hx215_2:=z180_
    replace hx215_3:=z181_
    replace hx215_4:=z182_
    have HR215_4:=ak hi215_4
    have HC215_4:=ak hl215_4
    clear hi215_4 hl215_4
    replace p215:=eq_true p215
    replace q215:=eq_true q215
    try go_wp2_with (first|((with_reducible refine gate_dst (N:=4) rfl ?_);refine Hd.box_ 4 (#[.int .i64 0,.int .i64 0,.int .i64 0,.string (⟨#[]⟩:ByteArray),.slice none 0 0]) 34 ?_;intro gb216 hg w13 hbox hb;have BK216:=ak (hbox);have GW216:=z122_;have GE216:=z122_;replace HB:=z17_;clear hb hbox hg;obtain⟨hcz14_0,hcz14_1,hcz14_2,hcz14_3,hcz14_4⟩:=Hd.c5_ BK216.out;obtain⟨hfz14_0,hfz14_1,hfz14_2,hfz14_3,hfz14_4⟩:=Hd.f5_ BK216.out))
    have n0_:Aside0 ((((((w13.setCell ⟨gb216,0,none⟩ (.int .i64 ((rd_T34 l0 x10_1).f0))).setCell ⟨gb216,1,none⟩ (.int .i64 ((rd_T34 l0 x10_1).f1))).setCell ⟨gb216,2,none⟩ (.int .i64 ((rd_T34 l0 x10_1).f2))).setCell ⟨gb216,3,none⟩ (.string ((rd_T34 l0 x10_1).f3))).setCell ⟨gb216,4,none⟩ (.slice A215_4 ((rd_T34 l0 x10_1).f4).length c215_4)).heap[gb216]?=some (.cells #[.int .i64 ((rd_T34 l0 x10_1).f0),.int .i64 ((rd_T34 l0 x10_1).f1),.int .i64 ((rd_T34 l0 x10_1).f2),.string ((rd_T34 l0 x10_1).f3),.slice A215_4 ((rd_T34 l0 x10_1).f4).length c215_4] 34 (0,0))):=⟨z21_ BK216⟩
    have n1_:Aside0 (Below w.heap.size w (((((w13.setCell ⟨gb216,0,none⟩ (.int .i64 ((rd_T34 l0 x10_1).f0))).setCell ⟨gb216,1,none⟩ (.int .i64 ((rd_T34 l0 x10_1).f1))).setCell ⟨gb216,2,none⟩ (.int .i64 ((rd_T34 l0 x10_1).f2))).setCell ⟨gb216,3,none⟩ (.string ((rd_T34 l0 x10_1).f3))).setCell ⟨gb216,4,none⟩ (.slice A215_4 ((rd_T34 l0 x10_1).f4).length c215_4))):=⟨Hd.b_⟩
    try clear BK216;try clear HB
    generalize (((((w13.setCell ⟨gb216,0,none⟩ (.int .i64 ((rd_T34 l0 x10_1).f0))).setCell ⟨gb216,1,none⟩ (.int .i64 ((rd_T34 l0 x10_1).f1))).setCell ⟨gb216,2,none⟩ (.int .i64 ((rd_T34 l0 x10_1).f2))).setCell ⟨gb216,3,none⟩ (.string ((rd_T34 l0 x10_1).f3))).setCell ⟨gb216,4,none⟩ (.slice A215_4 ((rd_T34 l0 x10_1).f4).length c215_4))=w15 at n0_ n1_ ⊢
    have BK216:=n0_
    have HB:=n1_
    clear n0_ n1_
    replace BK216:=z65_ BK216
    replace HB:=z42_
    have p218:0≤((ji9):Int):=od_
    have q218:(ji9)<(l0.length:Int):=od_
    obtain⟨ad218,A218_4,c218_4,e218,hx218_0,hx218_1,hx218_2,hx218_3,hx218_4,hl218_4,hi218_4⟩:=at_T34 HR0.out (ji9) p218 q218
    have hw218_4:=hx218_4
    have hw218_3:=hx218_3
    have hw218_2:=hx218_2
    have hw218_1:=hx218_1
    have hw218_0:=hx218_0
    obtain rfl:ad215=ad218:=(by injection e218)
    replace hx218_0:=(HB.out.cell (bl_ w _ hx218_0)).trans hx218_0
    replace hx218_1:=(HB.out.cell (bl_ w _ hx218_1)).trans hx218_1
    replace hx218_2:=(HB.out.cell (bl_ w _ hx218_2)).trans hx218_2
    replace hx218_3:=(HB.out.cell (bl_ w _ hx218_3)).trans hx218_3
    replace hx218_4:=(HB.out.cell (bl_ w _ hx218_4)).trans hx218_4
    have HR218_4:=ak hi218_4
    have HC218_4:=ak hl218_4
    clear hi218_4 hl218_4
    replace p218:=eq_true p218
    replace q218:=eq_true q218
    refine start_ (n:=18) (S:=fun w'=>w'.cell? ⟨gb216,0,none⟩=some (.int .i64 ((rd_T34 l0 x10_1).f0))∧w'.cell? ⟨gb216,1,none⟩=some (.int .i64 ((rd_T34 l0 x10_1).f1))∧w'.cell? ⟨gb216,2,none⟩=some (.int .i64 ((rd_T34 l0 x10_1).f2))∧w'.cell? ⟨gb216,3,none⟩=some (.string ((rd_T34 l0 x10_1).f3))∧w'.cell? ⟨gb216,4,none⟩=some (.slice A215_4 ((rd_T34 l0 x10_1).f4).length c215_4)∧w'.cell? (ad215.add (((ji9)).toNat*5))=some (.int .i64 ((rd_T34 l0 (ji9)).f0))∧w'.cell? ⟨(ad215.add (((ji9)).toNat*5)).block,(ad215.add (((ji9)).toNat*5)).off+1,none⟩=some (.int .i64 ((rd_T34 l0 (ji9)).f1))∧w'.cell? ⟨(ad215.add (((ji9)).toNat*5)).block,(ad215.add (((ji9)).toNat*5)).off+2,none⟩=some (.int .i64 ((rd_T34 l0 (ji9)).f2))∧w'.cell? ⟨(ad215.add (((ji9)).toNat*5)).block,(ad215.add (((ji9)).toNat*5)).off+3,none⟩=some (.string ((rd_T34 l0 (ji9)).f3))∧w'.cell? ⟨(ad215.add (((ji9)).toNat*5)).block,(ad215.add (((ji9)).toNat*5)).off+4,none⟩=some (.slice A218_4 ((rd_T34 l0 (ji9)).f4).length c218_4)) (ds:=[]) #[Z,Z,Z,Z,Z,Z,Z,Z,Z,Z,Z,Z,Z,Z,Z,Z,Z,Z] (by kernel_rfl) rfl rfl ⟨(blk_cell BK216.out 0).trans rfl,(blk_cell BK216.out 1).trans rfl,(blk_cell BK216.out 2).trans rfl,(blk_cell BK216.out 3).trans rfl,(blk_cell BK216.out 4).trans rfl,((HB.out.cell (bl_ w _ hw218_0)).trans hw218_0),((HB.out.cell (bl_ w _ hw218_1)).trans hw218_1),((HB.out.cell (bl_ w _ hw218_2)).trans hw218_2),((HB.out.cell (bl_ w _ hw218_3)).trans hw218_3),((HB.out.cell (bl_ w _ hw218_4)).trans hw218_4)⟩ (fun hHeld=>?_);refine with_tabW impl_IsSource.tab6 impl_IsSource.bits6 (fun HT_ HW_=>?_)
    generalize w15.drew=w16 at BK216 HB HR218_4 hx218_0 hx218_1 hx218_2 hx218_3 hx218_4 hHeld ⊢
    refine Hd.t_ HT_ HW_ hHeld 0 (some 15) #[Y,Z,Z,Z,Z,Z,Z,Z,Z,Z,Z,Z,Z,Z,Z,Z,Z,Z] ?_
    refine Hd.o_ HT_ 1 (some 16) #[Y,Y,Z,Z,Z,Z,Z,Z,Z,Z,Z,Z,Z,Z,Z,Z,Z,Z] (fun K hK=>?_)
    refine goes_ Try.func52 (by kernel_rfl) rfl #[.agg #[.int .i64 ((rd_T34 l0 x10_1).f0),.int .i64 ((rd_T34 l0 x10_1).f1),.int .i64 ((rd_T34 l0 x10_1).f2),.string ((rd_T34 l0 x10_1).f3),.slice A215_4 ((rd_T34 l0 x10_1).f4).length c215_4]] (by rfl) rfl rfl Hd.m_ ?_
    with_reducible refine(impl_IsFeature.calls k1 ((rd_T34 l0 x10_1).f0) ((rd_T34 l0 x10_1).f1) ((rd_T34 l0 x10_1).f2) ((rd_T34 l0 x10_1).f3) _ _ ((rd_T34 l0 x10_1).f4) true _ ?side1 ?side2 A6.out).mono ?_
    (case side1=>exact z15_ HR215_4)
    (case side2=>exact HC215_4.out)
    rintro e w17 ⟨rfl,hb⟩
    refine⟨_,rfl,?_⟩
    replace BK216:=ak (Hd.kb_ BK216 hb)
    replace HB:=z17_
    try clear hb
    refine hK.out _ _ ⟨(blk_cell BK216.out 0).trans rfl,(blk_cell BK216.out 1).trans rfl,(blk_cell BK216.out 2).trans rfl,(blk_cell BK216.out 3).trans rfl,(blk_cell BK216.out 4).trans rfl,((HB.out.cell (bl_ w _ hw218_0)).trans hw218_0),((HB.out.cell (bl_ w _ hw218_1)).trans hw218_1),((HB.out.cell (bl_ w _ hw218_2)).trans hw218_2),((HB.out.cell (bl_ w _ hw218_3)).trans hw218_3),((HB.out.cell (bl_ w _ hw218_4)).trans hw218_4)⟩ (fun hHeld=>?_)
    clear hK K
    refine Hd.n_ (some 16) ?_
    refine Hd.p_ HT_ 2 (some 17) #[Y,Y,Y,Z,Z,Z,Z,Z,Z,Z,Z,Z,Z,Z,Z,Z,Z,Z] ?_
    refine Hd.p_ HT_ 3 (some 18) #[Y,Y,Y,Y,Z,Z,Z,Z,Z,Z,Z,Z,Z,Z,Z,Z,Z,Z] ?_
    refine Hd.p_ HT_ 4 (some 19) #[Y,Y,Y,Y,Y,Z,Z,Z,Z,Z,Z,Z,Z,Z,Z,Z,Z,Z] ?_
    refine Hd.p_ HT_ 5 (some 20) #[Y,Y,Y,Y,Y,Y,Z,Z,Z,Z,Z,Z,Z,Z,Z,Z,Z,Z] ?_
    refine Hd.p_ HT_ 6 (some 21) #[Y,Y,Y,Y,Y,Y,Y,Z,Z,Z,Z,Z,Z,Z,Z,Z,Z,Z] ?_
    refine Hd.p_ HT_ 7 (some 22) #[Y,Y,Y,Y,Y,Y,Y,Y,Z,Z,Z,Z,Z,Z,Z,Z,Z,Z] ?_
    refine Hd.p_ HT_ 9 (some 24) #[Y,Y,Y,Y,Y,Y,Y,Y,Z,Y,Z,Z,Z,Z,Z,Z,Z,Z] ?_
    refine Hd.p_ HT_ 10 (some 25) #[Y,Y,Y,Y,Y,Y,Y,Y,Z,Y,Y,Z,Z,Z,Z,Z,Z,Z] ?_
    refine Hd.p_ HT_ 11 (some 26) #[Y,Y,Y,Y,Y,Y,Y,Y,Z,Y,Y,Y,Z,Z,Z,Z,Z,Z] ?_
    refine Hd.p_ HT_ 12 (some 27) #[Y,Y,Y,Y,Y,Y,Y,Y,Z,Y,Y,Y,Y,Z,Z,Z,Z,Z] ?_
    refine Hd.p_ HT_ 13 (some 28) #[Y,Y,Y,Y,Y,Y,Y,Y,Z,Y,Y,Y,Y,Y,Z,Z,Z,Z] ?_
    refine Hd.t_ HT_ HW_ hHeld 8 (some 23) #[Y,Y,Y,Y,Y,Y,Y,Y,Y,Y,Y,Y,Y,Y,Z,Z,Z,Z] ?_
    refine Hd.t_ HT_ HW_ hHeld 14 (some 29) #[Y,Y,Y,Y,Y,Y,Y,Y,Y,Y,Y,Y,Y,Y,Y,Z,Z,Z] ?_
    refine Hd.p_ HT_ 15 (some 30) #[Y,Y,Y,Y,Y,Y,Y,Y,Y,Y,Y,Y,Y,Y,Y,Y,Z,Z] ?_
    refine Hd.p_ HT_ 16 (some 31) #[Y,Y,Y,Y,Y,Y,Y,Y,Y,Y,Y,Y,Y,Y,Y,Y,Y,Z] ?_
    refine Hd.p_ HT_ 17 (some 32) #[Y,Y,Y,Y,Y,Y,Y,Y,Y,Y,Y,Y,Y,Y,Y,Y,Y,Y] ?_
    refine done_ (done_of HT_.out (by kernel_rfl)) ?_
    try go_wp2
    go_ret
    exact⟨by first|rfl|(simp [errW_none,errW_some] <;> rfl)|(simp only[← hji9];first|rfl|(simp [errW_none,errW_some] <;> rfl))|(simp [*,errW_none,errW_some] <;> rfl),Hd.b_⟩
   rw [if_neg c12] at H
   have c12b0:=decide_eq_false c12
   clear c12
   have H':=ak H
   clear H
   have p215:0≤(x10_1:Int):=od_
   have q215:x10_1<(l0.length:Int):=od_
   obtain⟨ad215,A215_4,c215_4,e215,hx215_0,hx215_1,hx215_2,hx215_3,hx215_4,hl215_4,hi215_4⟩:=at_T34 HR0.out x10_1 p215 q215
   cases e215
   replace hx215_0:=z178_
   replace hx215_1:=z179_
   replace hx215_2:=z180_
   replace hx215_3:=z181_
   replace hx215_4:=z182_
   have HR215_4:=ak hi215_4
   have HC215_4:=ak hl215_4
   clear hi215_4 hl215_4
   replace p215:=eq_true p215
   replace q215:=eq_true q215
   try go_wp2_with (first|((with_reducible refine gate_dst (N:=4) rfl ?_);refine Hd.box_ 4 (#[.int .i64 0,.int .i64 0,.int .i64 0,.string (⟨#[]⟩:ByteArray),.slice none 0 0]) 34 ?_;intro gb216 hg w18 hbox hb;have BK216:=ak (hbox);have GW216:=z122_;have GE216:=z122_;replace HB:=z17_;clear hb hbox hg;obtain⟨hcz19_0,hcz19_1,hcz19_2,hcz19_3,hcz19_4⟩:=Hd.c5_ BK216.out;obtain⟨hfz19_0,hfz19_1,hfz19_2,hfz19_3,hfz19_4⟩:=Hd.f5_ BK216.out))
   have n0_:Aside0 ((((((w18.setCell ⟨gb216,0,none⟩ (.int .i64 ((rd_T34 l0 x10_1).f0))).setCell ⟨gb216,1,none⟩ (.int .i64 ((rd_T34 l0 x10_1).f1))).setCell ⟨gb216,2,none⟩ (.int .i64 ((rd_T34 l0 x10_1).f2))).setCell ⟨gb216,3,none⟩ (.string ((rd_T34 l0 x10_1).f3))).setCell ⟨gb216,4,none⟩ (.slice A215_4 ((rd_T34 l0 x10_1).f4).length c215_4)).heap[gb216]?=some (.cells #[.int .i64 ((rd_T34 l0 x10_1).f0),.int .i64 ((rd_T34 l0 x10_1).f1),.int .i64 ((rd_T34 l0 x10_1).f2),.string ((rd_T34 l0 x10_1).f3),.slice A215_4 ((rd_T34 l0 x10_1).f4).length c215_4] 34 (0,0))):=⟨z21_ BK216⟩
   have n1_:Aside0 (Below w.heap.size w (((((w18.setCell ⟨gb216,0,none⟩ (.int .i64 ((rd_T34 l0 x10_1).f0))).setCell ⟨gb216,1,none⟩ (.int .i64 ((rd_T34 l0 x10_1).f1))).setCell ⟨gb216,2,none⟩ (.int .i64 ((rd_T34 l0 x10_1).f2))).setCell ⟨gb216,3,none⟩ (.string ((rd_T34 l0 x10_1).f3))).setCell ⟨gb216,4,none⟩ (.slice A215_4 ((rd_T34 l0 x10_1).f4).length c215_4))):=⟨Hd.b_⟩
   try clear BK216;try clear HB
   generalize (((((w18.setCell ⟨gb216,0,none⟩ (.int .i64 ((rd_T34 l0 x10_1).f0))).setCell ⟨gb216,1,none⟩ (.int .i64 ((rd_T34 l0 x10_1).f1))).setCell ⟨gb216,2,none⟩ (.int .i64 ((rd_T34 l0 x10_1).f2))).setCell ⟨gb216,3,none⟩ (.string ((rd_T34 l0 x10_1).f3))).setCell ⟨gb216,4,none⟩ (.slice A215_4 ((rd_T34 l0 x10_1).f4).length c215_4))=w20 at n0_ n1_ ⊢
   have BK216:=n0_
   have HB:=n1_
   clear n0_ n1_
   replace BK216:=z65_ BK216
   replace HB:=z42_
   have p218:0≤((ji9):Int):=od_
   have q218:(ji9)<(l0.length:Int):=od_
   obtain⟨ad218,A218_4,c218_4,e218,hx218_0,hx218_1,hx218_2,hx218_3,hx218_4,hl218_4,hi218_4⟩:=at_T34 HR0.out (ji9) p218 q218
   have hw218_4:=hx218_4
   have hw218_3:=hx218_3
   have hw218_2:=hx218_2
   have hw218_1:=hx218_1
   have hw218_0:=hx218_0
   obtain rfl:ad215=ad218:=(by injection e218)
   replace hx218_0:=(HB.out.cell (bl_ w _ hx218_0)).trans hx218_0
   replace hx218_1:=(HB.out.cell (bl_ w _ hx218_1)).trans hx218_1
   replace hx218_2:=(HB.out.cell (bl_ w _ hx218_2)).trans hx218_2
   replace hx218_3:=(HB.out.cell (bl_ w _ hx218_3)).trans hx218_3
   replace hx218_4:=(HB.out.cell (bl_ w _ hx218_4)).trans hx218_4
   have HR218_4:=ak hi218_4
   have HC218_4:=ak hl218_4
   clear hi218_4 hl218_4
   replace p218:=eq_true p218
   replace q218:=eq_true q218
   refine start_ (n:=18) (S:=fun w'=>w'.cell? ⟨gb216,0,none⟩=some (.int .i64 ((rd_T34 l0 x10_1).f0))∧w'.cell? ⟨gb216,1,none⟩=some (.int .i64 ((rd_T34 l0 x10_1).f1))∧w'.cell? ⟨gb216,2,none⟩=some (.int .i64 ((rd_T34 l0 x10_1).f2))∧w'.cell? ⟨gb216,3,none⟩=some (.string ((rd_T34 l0 x10_1).f3))∧w'.cell? ⟨gb216,4,none⟩=some (.slice A215_4 ((rd_T34 l0 x10_1).f4).length c215_4)∧w'.cell? (ad215.add (((ji9)).toNat*5))=some (.int .i64 ((rd_T34 l0 (ji9)).f0))∧w'.cell? ⟨(ad215.add (((ji9)).toNat*5)).block,(ad215.add (((ji9)).toNat*5)).off+1,none⟩=some (.int .i64 ((rd_T34 l0 (ji9)).f1))∧w'.cell? ⟨(ad215.add (((ji9)).toNat*5)).block,(ad215.add (((ji9)).toNat*5)).off+2,none⟩=some (.int .i64 ((rd_T34 l0 (ji9)).f2))∧w'.cell? ⟨(ad215.add (((ji9)).toNat*5)).block,(ad215.add (((ji9)).toNat*5)).off+3,none⟩=some (.string ((rd_T34 l0 (ji9)).f3))∧w'.cell? ⟨(ad215.add (((ji9)).toNat*5)).block,(ad215.add (((ji9)).toNat*5)).off+4,none⟩=some (.slice A218_4 ((rd_T34 l0 (ji9)).f4).length c218_4)) (ds:=[]) #[Z,Z,Z,Z,Z,Z,Z,Z,Z,Z,Z,Z,Z,Z,Z,Z,Z,Z] (by kernel_rfl) rfl rfl ⟨(blk_cell BK216.out 0).trans rfl,(blk_cell BK216.out 1).trans rfl,(blk_cell BK216.out 2).trans rfl,(blk_cell BK216.out 3).trans rfl,(blk_cell BK216.out 4).trans rfl,((HB.out.cell (bl_ w _ hw218_0)).trans hw218_0),((HB.out.cell (bl_ w _ hw218_1)).trans hw218_1),((HB.out.cell (bl_ w _ hw218_2)).trans hw218_2),((HB.out.cell (bl_ w _ hw218_3)).trans hw218_3),((HB.out.cell (bl_ w _ hw218_4)).trans hw218_4)⟩ (fun hHeld=>?_);refine with_tabW impl_IsSource.tab6 impl_IsSource.bits6 (fun HT_ HW_=>?_)
   generalize w20.drew=w21 at BK216 HB HR218_4 hx218_0 hx218_1 hx218_2 hx218_3 hx218_4 hHeld ⊢
   refine Hd.t_ HT_ HW_ hHeld 0 (some 15) #[Y,Z,Z,Z,Z,Z,Z,Z,Z,Z,Z,Z,Z,Z,Z,Z,Z,Z] ?_
   refine Hd.o_ HT_ 1 (some 16) #[Y,Y,Z,Z,Z,Z,Z,Z,Z,Z,Z,Z,Z,Z,Z,Z,Z,Z] (fun K hK=>?_)
   refine goes_ Try.func52 (by kernel_rfl) rfl #[.agg #[.int .i64 ((rd_T34 l0 x10_1).f0),.int .i64 ((rd_T34 l0 x10_1).f1),.int .i64 ((rd_T34 l0 x10_1).f2),.string ((rd_T34 l0 x10_1).f3),.slice A215_4 ((rd_T34 l0 x10_1).f4).length c215_4]] (by rfl) rfl rfl Hd.m_ ?_
   with_reducible refine(impl_IsFeature.calls k1 ((rd_T34 l0 x10_1).f0) ((rd_T34 l0 x10_1).f1) ((rd_T34 l0 x10_1).f2) ((rd_T34 l0 x10_1).f3) _ _ ((rd_T34 l0 x10_1).f4) true _ ?side1 ?side2 A6.out).mono ?_
   (case side1=>exact z15_ HR215_4)
   (case side2=>exact HC215_4.out)
   rintro e w22 ⟨rfl,hb⟩
   refine⟨_,rfl,?_⟩
   replace BK216:=ak (Hd.kb_ BK216 hb)
   replace HB:=z17_
   try clear hb
   refine hK.out _ _ ⟨(blk_cell BK216.out 0).trans rfl,(blk_cell BK216.out 1).trans rfl,(blk_cell BK216.out 2).trans rfl,(blk_cell BK216.out 3).trans rfl,(blk_cell BK216.out 4).trans rfl,((HB.out.cell (bl_ w _ hw218_0)).trans hw218_0),((HB.out.cell (bl_ w _ hw218_1)).trans hw218_1),((HB.out.cell (bl_ w _ hw218_2)).trans hw218_2),((HB.out.cell (bl_ w _ hw218_3)).trans hw218_3),((HB.out.cell (bl_ w _ hw218_4)).trans hw218_4)⟩ (fun hHeld=>?_)
   clear hK K
   refine Hd.n_ (some 16) ?_
   refine Hd.p_ HT_ 2 (some 17) #[Y,Y,Y,Z,Z,Z,Z,Z,Z,Z,Z,Z,Z,Z,Z,Z,Z,Z] ?_
   refine Hd.p_ HT_ 3 (some 18) #[Y,Y,Y,Y,Z,Z,Z,Z,Z,Z,Z,Z,Z,Z,Z,Z,Z,Z] ?_
   refine Hd.p_ HT_ 4 (some 19) #[Y,Y,Y,Y,Y,Z,Z,Z,Z,Z,Z,Z,Z,Z,Z,Z,Z,Z] ?_
   refine Hd.p_ HT_ 5 (some 20) #[Y,Y,Y,Y,Y,Y,Z,Z,Z,Z,Z,Z,Z,Z,Z,Z,Z,Z] ?_
   refine Hd.p_ HT_ 6 (some 21) #[Y,Y,Y,Y,Y,Y,Y,Z,Z,Z,Z,Z,Z,Z,Z,Z,Z,Z] ?_
   refine Hd.p_ HT_ 7 (some 22) #[Y,Y,Y,Y,Y,Y,Y,Y,Z,Z,Z,Z,Z,Z,Z,Z,Z,Z] ?_
   refine Hd.p_ HT_ 9 (some 24) #[Y,Y,Y,Y,Y,Y,Y,Y,Z,Y,Z,Z,Z,Z,Z,Z,Z,Z] ?_
   refine Hd.p_ HT_ 10 (some 25) #[Y,Y,Y,Y,Y,Y,Y,Y,Z,Y,Y,Z,Z,Z,Z,Z,Z,Z] ?_
   refine Hd.p_ HT_ 11 (some 26) #[Y,Y,Y,Y,Y,Y,Y,Y,Z,Y,Y,Y,Z,Z,Z,Z,Z,Z] ?_
   refine Hd.p_ HT_ 12 (some 27) #[Y,Y,Y,Y,Y,Y,Y,Y,Z,Y,Y,Y,Y,Z,Z,Z,Z,Z] ?_
   refine Hd.p_ HT_ 13 (some 28) #[Y,Y,Y,Y,Y,Y,Y,Y,Z,Y,Y,Y,Y,Y,Z,Z,Z,Z] ?_
   refine Hd.t_ HT_ HW_ hHeld 8 (some 23) #[Y,Y,Y,Y,Y,Y,Y,Y,Y,Y,Y,Y,Y,Y,Z,Z,Z,Z] ?_
   refine Hd.t_ HT_ HW_ hHeld 14 (some 29) #[Y,Y,Y,Y,Y,Y,Y,Y,Y,Y,Y,Y,Y,Y,Y,Z,Z,Z] ?_
   refine Hd.p_ HT_ 15 (some 30) #[Y,Y,Y,Y,Y,Y,Y,Y,Y,Y,Y,Y,Y,Y,Y,Y,Z,Z] ?_
   refine Hd.p_ HT_ 16 (some 31) #[Y,Y,Y,Y,Y,Y,Y,Y,Y,Y,Y,Y,Y,Y,Y,Y,Y,Z] ?_
   refine Hd.p_ HT_ 17 (some 32) #[Y,Y,Y,Y,Y,Y,Y,Y,Y,Y,Y,Y,Y,Y,Y,Y,Y,Y] ?_
   refine done_ (done_of HT_.out (by kernel_rfl)) ?_
   try go_wp2
   go_roundg k1
   case measure=>have:=HK1.out;omega
   case rel=>exact⟨(wrap64 (x10_1+1)),z14_,H',⟨z101_⟩,⟨Hd.b_⟩⟩
def impl_Point_62.f (l0:List (S75)):Option ((List (S75))):=(some (([]:List (S75)):List (S75))).bind fun y219=>(if y219.length+l0.length<8796093022208 then (some (y219++l0)) else (none))
theorem impl_Point_62.eqnil (W:World) (a:Option Addr) (l c:Nat):(binOp .eql 32 (.slice a l c) (.slice none 0 0)).run Try.prog W = .ok (.bool a.isNone) W:=by
  cases a <;> kernel_rfl
attribute [local go_sem] impl_Point_62.eqnil
theorem impl_Point_62.calls (A0:Option Addr) (c0:Nat) (l0:List (S75)) (r:List (S75)) (w:World) (hr0:Kd.C k75 w A0 l0.length l0) (hc0:l0.length≤c0) (h:impl_Point_62.f l0=some r) :
    Calls Try.prog 62 #[.slice A0 l0.length c0] w fun e w'=>∃ v0_:Value,e = .returned (v0_)∧Kd.R k75 75 w' w.heap.size (fun _=>True) v0_ r∧Below w.heap.size w w':=by
  cases A0
  case none =>
    have hl:l0=[]:=by
      obtain⟨_,_,h3⟩:=hr0
      cases l0 with
      | nil=>rfl
      | cons a l=>obtain⟨ad,e,_⟩:=h3 (by simp);cases e
    subst hl
    have hr:r=[]:=by simp [impl_Point_62.f] at h;exact h
    subst hr
    go_enter Try.func62,Try.ntmps62
    go_wp2
    go_ret
    exact⟨_,rfl,Kd.R_nil _ _ _ _ _,by repeat (first|exact Below.refl _ _|apply below_alloc|apply pw_below_drewN|apply below_drew1)⟩
  have HR0:=ak hr0
  have HC0:=ak hc0
  clear hr0 hc0
  have HB:=z52_
  have H:=h;clear h;unfold impl_Point_62.f at H
  generalize hy219:(([]:List (S75)))=y219 at H;have Ny219:=ak hy219.symm;clear hy219;try rw [Option.bind_some] at H
  by_cases c2:y219.length+l0.length<8796093022208
  · rw [if_pos c2] at H
    have LMc2:=ak c2
    clear c2
    generalize hy222:(y219++l0)=y222 at H;have Ny222:=ak hy222.symm;clear hy222;try rw [Option.bind_some] at H
    obtain rfl:=Option.some.inj H
    go_enter Try.func62,Try.ntmps62
    go_wp2_with (first|((with_reducible refine gate_dst (N:=5) rfl ?_);refine Kd.R_lit k75 _ 75 ?hg (N:=5) ?hd (xs:=([]:List (S75))) (inner:=[]) (ok:=fun _=>True) (okp:=fun _=>True) ?hr ?hp (fun _ hk=>hk) trivial (Below.refl _ _) (Nat.le_refl _) (by simp) ?_;(case hd=>rfl);(case hg=>rfl);(case hr=>exact z39_);(case hp=>exact z213_);intro v220 w3 ho4 hb hg_ hnew_;clear hg_ hnew_;(first|rw [← Ny219.out] at ho4|(simp only[Int.reduceToNat] at ho4;rw [← Ny219.out] at ho4));have n0_:=ak (Kd.R_lower ho4 (below_size z68_));have n1_:=ak (below_step z68_ hb);clear HB;have HO221:=n0_;have HB:=n1_;clear n0_ n1_;clear hb ho4)|((with_reducible refine gate_builtin (b:=.append) (xs:=#[.tmp 5,.tmp 6]) rfl ?_);at_builtin;refine Kd.R_append_rows k75 (w0:=w) w.heap.size rfl (.tmp 5) (.tmp 6) 32 75 (.agg #[(.int .i64 0),(.int .i64 0)]) 16 rfl Try.underlying32 info75 rfl (by decide) (by omega) v220 y219 l0 _ _ _ (fun _=>True) (fun _=>False) rfl rfl ?aO ?aR (fun _ _ h=>h) (fun _ h=>h.elim) ?aF ?aB ?aS ?aL ?_;(case aR=>exact z15_ HR0);(case aB=>exact z68_);(case aF=>exact z177_);(case aO=>exact(z12_ HO221));(case aS=>exact(below_size z68_));(case aL=>have:=LMc2.out;omega);intro v223 w5 ho hb hg hat;rw [← Ny222.out] at ho;have n0_:=ak (hb);have n1_:=ak (ho);clear HB;clear HO221;have HB:=n0_;have HO224:=n1_;clear n0_ n1_;clear ho hb hg hat))
    go_ret
    exact⟨_,by first|rfl|(simp [errW_none,errW_some] <;> rfl)|(simp [*,errW_none,errW_some] <;> rfl),z12_ HO224,z68_⟩
  · rw [if_neg c2] at H
    exact absurd H (by simp)
def impl_cloneFeature.f (a0_0:Int) (a0_1:Int) (a0_2:Int) (a0_3:ByteArray) (l0_4:List (S75)):Option (Int × Int × Int × ByteArray × (List (S75))):=(impl_Point_62.f l0_4).bind fun t227=>(some (a0_0,a0_1,a0_2,a0_3,t227))
theorem impl_cloneFeature.calls (a0_0:Int) (a0_1:Int) (a0_2:Int) (a0_3:ByteArray) (A0_4:Option Addr) (c0_4:Nat) (l0_4:List (S75)) (r1:Int) (r2:Int) (r3:Int) (r4:ByteArray) (r5:List (S75)) (w:World) (hr0_4:Kd.C k75 w A0_4 l0_4.length l0_4) (hc0_4:l0_4.length≤c0_4) (h:impl_cloneFeature.f a0_0 a0_1 a0_2 a0_3 l0_4=some (r1,r2,r3,r4,r5)) :
  Calls Try.prog 39 #[.agg #[.int .i64 a0_0,.int .i64 a0_1,.int .i64 a0_2,.string a0_3,.slice A0_4 l0_4.length c0_4]] w fun e w'=>∃ v4_:Value,e = .returned (.agg #[.int .i64 r1,.int .i64 r2,.int .i64 r3,.string r4,v4_])∧Kd.R k75 75 w' w.heap.size (fun _=>True) v4_ r5∧Below w.heap.size w w':=by
 have hu34:=Try.underlying34
 have HR0_4:=ak hr0_4
 have HC0_4:=ak hc0_4
 clear hr0_4 hc0_4
 have HB:=z52_
 have H:=h;clear h;unfold impl_cloneFeature.f at H
 replace H:=Hd.bd_ H;obtain⟨t227,A2,H⟩:=H
 simp only[Option.some.injEq,Prod.mk.injEq] at H
 obtain⟨rfl,rfl,rfl,rfl,rfl⟩:=H
 go_enter Try.func39,Try.ntmps39
 go_wp2_with (first|((with_reducible refine gate_dst (N:=1) rfl ?_);refine Hd.box_ 1 (#[.int .i64 a0_0,.int .i64 a0_1,.int .i64 a0_2,.string a0_3,.slice A0_4 l0_4.length c0_4]) 34 ?_;intro gb225 hg w3 hbox hb;have BK225:=ak (hbox);have GW225:=ak ((Hd.g_ hg Hd.b_:w.heap.size≤gb225));have GE225:=ak ((Hd.g_ hg Hd.b_:w.heap.size≤gb225));replace HB:=z17_;clear hb hbox hg)|((with_reducible refine gate_dst (N:=2) rfl ?_);refine Hd.box_ 2 (#[.int .i64 0,.int .i64 0,.int .i64 0,.string (⟨#[]⟩:ByteArray),.slice none 0 0]) 34 ?_;intro gb226 hg w4 hbox hb;have BK226:=ak (hbox);have GW226:=ak ((Hd.g_ hg Hd.b_:w.heap.size≤gb226));have GE226:=ak ((Hd.g_ hg Hd.b_:w.heap.size≤gb226));replace HB:=z17_;have NB225_226:=ak ((Hd.lt_ BK225 hg));have NB226_225:=ak ((Hd.gt_ BK225 hg));replace BK225:=ak (Hd.kb_ BK225 hb);clear hb hbox hg;have hnb5:=NB225_226.out;have hnc5:=NB226_225.out;obtain⟨hcz6_0,hcz6_1,hcz6_2,hcz6_3,hcz6_4⟩:=Hd.c5_ BK225.out;obtain⟨hfz6_0,hfz6_1,hfz6_2,hfz6_3,hfz6_4⟩:=Hd.f5_ BK225.out)|((with_reducible refine gate_callee (f:=62) rfl ?_);refine Hd.gl_ 5 Try.func62 #[.slice A0_4 l0_4.length c0_4] ?_;(with_reducible refine(impl_Point_62.calls _ _ l0_4 t227 _ ?side1 ?side2 A2.out).mono ?_);(case side1=>exact z15_ HR0_4);(case side2=>exact HC0_4.out);rintro e w7 ⟨v228,rfl,ho0,hb⟩;refine⟨_,rfl,?_⟩;have HO229:=z140_;replace BK225:=ak (Hd.kb_ BK225 hb);replace BK226:=ak (Hd.kb_ BK226 hb);replace HB:=z17_;(try clear hb);(try clear ho0);obtain⟨Ao8,co8,eo8⟩:=Kd.R_slice HO229.out;subst eo8;obtain⟨hcz9_0,hcz9_1,hcz9_2,hcz9_3,hcz9_4⟩:=Hd.c5_ BK225.out;obtain⟨hfz9_0,hfz9_1,hfz9_2,hfz9_3,hfz9_4⟩:=Hd.f5_ BK225.out;obtain⟨hcz10_0,hcz10_1,hcz10_2,hcz10_3,hcz10_4⟩:=Hd.c5_ BK226.out;obtain⟨hfz10_0,hfz10_1,hfz10_2,hfz10_3,hfz10_4⟩:=Hd.f5_ BK226.out))
 refine bodyPost_ret (results_cell_row rfl _ _ gb226 34 #[.int .i64 a0_0,.int .i64 a0_1,.int .i64 a0_2,.string a0_3,.slice Ao8 t227.length co8] (0,0) _ rfl (z46_ NB226_225 BK226) Try.underlying34 rfl (by kernel_rfl)) rfl ?_
 exact⟨_,Hd.e_,by (with_reducible repeat (first|apply Kd.R_alloc|apply Kd.R_drewN|apply Kd.R_drew));exact Kd.R_mono (Kd.R_far (p:=⟨gb226,4,none⟩) (Kd.R_far (p:=⟨gb226,3,none⟩) (Kd.R_far (p:=⟨gb226,2,none⟩) (Kd.R_far (p:=⟨gb226,1,none⟩) (Kd.R_far (p:=⟨gb226,0,none⟩) (Kd.R_far (p:=⟨gb225,4,none⟩) (Kd.R_types (Kd.R_types HO229.out BK225.out (by decide)) BK226.out (by decide)) (fun _ hk=>hk.1.2) (.slice Ao8 t227.length co8)) (fun _ hk=>hk.2) (.int .i64 a0_0)) (fun _ hk=>hk.2) (.int .i64 a0_1)) (fun _ hk=>hk.2) (.int .i64 a0_2)) (fun _ hk=>hk.2) (.string a0_3)) (fun _ hk=>hk.2) (.slice Ao8 t227.length co8)) (fun _ hk=>trivial),Hd.b_⟩
end Go.Proofs.Ytbbdhlggnglfgaa.MFnFeatures
