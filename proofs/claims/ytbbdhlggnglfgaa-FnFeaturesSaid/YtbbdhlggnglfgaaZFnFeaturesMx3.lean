-- Laid by this session's program pp.py, after the kit's print and texts of the session's own. Not trusted: Lean checks it.
import Derived.Test.YtbbdhlggnglfgaaZFnFeaturesMx0
import Derived.Test.YtbbdhlggnglfgaaZFnFeaturesMx2
namespace Go.Proofs.Ytbbdhlggnglfgaa.MFnFeatures
open Go.RowKit Go.Proofs.YtbbdhlggnglfgaaW.PrintWords Go.Proofs.YtbbdhlggnglfgaaW.PrintLast Go.Proofs.YtbbdhlggnglfgaaW.PrintMore
attribute [local go_sem] max2_int min2_int max_two min_two max_three min_three max_four min_four
set_option linter.unusedVariables false
set_option maxHeartbeats 8000000
set_option maxRecDepth 100000
set_option linter.unusedSimpArgs false
def impl_IsOn.f (k:Nat) (a0_0:Int) (a0_1:Int) (a0_2:Int) (a0_3:Int) (a1_0:Int) (a1_1:Int):Option (Bool):=(impl_IsSegment.f a0_0 a0_1 a0_2 a0_3).bind fun t134=>(if t134=true then ((impl_IsPoint.f a1_0 a1_1).bind fun t135=>(if t135=true then ((impl_SideOf.f k a0_0 a0_1 a0_2 a0_3 a1_0 a1_1).bind fun t136=>(if t136=0 then ((impl_InRange.f a1_0 (mn a0_0 a0_2) (mx a0_0 a0_2)).bind fun t137=>(if t137=true then ((impl_InRange.f a1_1 (mn a0_1 a0_3) (mx a0_1 a0_3)).bind fun t138=>(some t138)) else (some false))) else (some false))) else (some false))) else (some false))
theorem impl_IsOn.calls (k:Nat) (a0_0:Int) (a0_1:Int) (a0_2:Int) (a0_3:Int) (a1_0:Int) (a1_1:Int) (r:Bool) (w:World) (h:impl_IsOn.f k a0_0 a0_1 a0_2 a0_3 a1_0 a1_1=some r) :
  Calls Try.prog 94 #[.agg #[.int .i64 a0_0,.int .i64 a0_1,.int .i64 a0_2,.int .i64 a0_3],.agg #[.int .i64 a1_0,.int .i64 a1_1]] w fun e w'=>e = .returned (.bool r)∧Below w.heap.size w w':=by
 have hu101:=Try.underlying101
 have hu75:=Try.underlying75
 have HB:=z52_
 have H:=h;clear h;unfold impl_IsOn.f at H
 replace H:=Hd.bd_ H;obtain⟨t134,A3,H⟩:=H
 by_cases c4:t134=true;rotate_left
 ·
  replace c4:=Bool.eq_false_iff.mpr c4
  subst c4
  rw [if_neg (show ¬ (false=true) by decide)] at H
  obtain rfl:=Option.some.inj H
  go_enter Try.func94,Try.ntmps94
  go_wp2_with (first|((with_reducible refine gate_dst (N:=2) rfl ?_);(try (refine gate_guard (by rfl) ?_;dsimp only));refine Hd.box_ 2 (#[.int .i64 a0_0,.int .i64 a0_1,.int .i64 a0_2,.int .i64 a0_3]) 101 ?_;intro gb132 hg w57 hbox hb;have BK132:=ak (hbox);have GW132:=z106_;have GE132:=z106_;replace HB:=z17_;clear hb hbox hg)|((with_reducible refine gate_dst (N:=3) rfl ?_);(try (refine gate_guard (by rfl) ?_;dsimp only));refine Hd.box_ 3 (#[.int .i64 a1_0,.int .i64 a1_1]) 75 ?_;intro gb133 hg w58 hbox hb;have BK133:=ak (hbox);have GW133:=z107_;have GE133:=z107_;replace HB:=z17_;have NB132_133:=ak ((Hd.lt_ BK132 hg));have NB133_132:=ak ((Hd.gt_ BK132 hg));replace BK132:=z130_;clear hb hbox hg;have hnb59:=NB132_133.out;have hnc59:=NB133_132.out;obtain⟨hcz60_0,hcz60_1,hcz60_2,hcz60_3⟩:=Hd.c4_ BK132.out;obtain⟨hfz60_0,hfz60_1,hfz60_2,hfz60_3⟩:=Hd.f4_ BK132.out)|((with_reducible refine gate_callee (f:=90) rfl ?_);refine Hd.gl_ 6 Try.func90 #[.agg #[.int .i64 a0_0,.int .i64 a0_1,.int .i64 a0_2,.int .i64 a0_3]] ?_;(with_reducible refine(impl_IsSegment.calls a0_0 a0_1 a0_2 a0_3 false _ A3.out).mono ?_);rintro e w61 ⟨rfl,hb⟩;refine⟨_,rfl,?_⟩;replace BK132:=z130_;replace BK133:=z160_;replace HB:=z17_;(try clear hb)))
  go_ret
  exact⟨Hd.e_,Hd.b_⟩
 subst c4
 rw [if_pos rfl] at H
 replace H:=Hd.bd_ H;obtain⟨t135,A5,H⟩:=H
 by_cases c6:t135=true;rotate_left
 ·
  replace c6:=Bool.eq_false_iff.mpr c6
  subst c6
  rw [if_neg (show ¬ (false=true) by decide)] at H
  obtain rfl:=Option.some.inj H
  go_enter Try.func94,Try.ntmps94
  go_wp2_with (first|((with_reducible refine gate_dst (N:=2) rfl ?_);(try (refine gate_guard (by rfl) ?_;dsimp only));refine Hd.box_ 2 (#[.int .i64 a0_0,.int .i64 a0_1,.int .i64 a0_2,.int .i64 a0_3]) 101 ?_;intro gb132 hg w50 hbox hb;have BK132:=ak (hbox);have GW132:=z106_;have GE132:=z106_;replace HB:=z17_;clear hb hbox hg)|((with_reducible refine gate_dst (N:=3) rfl ?_);(try (refine gate_guard (by rfl) ?_;dsimp only));refine Hd.box_ 3 (#[.int .i64 a1_0,.int .i64 a1_1]) 75 ?_;intro gb133 hg w51 hbox hb;have BK133:=ak (hbox);have GW133:=z107_;have GE133:=z107_;replace HB:=z17_;have NB132_133:=ak ((Hd.lt_ BK132 hg));have NB133_132:=ak ((Hd.gt_ BK132 hg));replace BK132:=z130_;clear hb hbox hg;have hnb52:=NB132_133.out;have hnc52:=NB133_132.out;obtain⟨hcz53_0,hcz53_1,hcz53_2,hcz53_3⟩:=Hd.c4_ BK132.out;obtain⟨hfz53_0,hfz53_1,hfz53_2,hfz53_3⟩:=Hd.f4_ BK132.out)|((with_reducible refine gate_callee (f:=90) rfl ?_);refine Hd.gl_ 6 Try.func90 #[.agg #[.int .i64 a0_0,.int .i64 a0_1,.int .i64 a0_2,.int .i64 a0_3]] ?_;(with_reducible refine(impl_IsSegment.calls a0_0 a0_1 a0_2 a0_3 true _ A3.out).mono ?_);rintro e w54 ⟨rfl,hb⟩;refine⟨_,rfl,?_⟩;replace BK132:=z130_;replace BK133:=z160_;replace HB:=z17_;(try clear hb);obtain⟨hcz55_0,hcz55_1⟩:=Hd.c2_ BK133.out;obtain⟨hfz55_0,hfz55_1⟩:=Hd.f2_ BK133.out)|(go_at_call 73;(with_reducible refine(impl_IsPoint.calls a1_0 a1_1 false _ A5.out).mono ?_);rintro e w56 ⟨rfl,hb⟩;replace BK132:=z130_;replace BK133:=z160_;replace HB:=z17_;(try clear hb);(try clear hk);(try clear hi)))
  go_ret
  exact⟨Hd.e_,Hd.b_⟩
 subst c6
 rw [if_pos rfl] at H
 replace H:=Hd.bd_ H;obtain⟨t136,A7,H⟩:=H
 by_cases c8:t136=0;rotate_left
 ·
  rw [if_neg c8] at H
  have c8b0:=beq_eq_false_iff_ne.mpr c8
  have c8b1:=bne_iff_ne.mpr c8
  obtain rfl:=Option.some.inj H
  go_enter Try.func94,Try.ntmps94
  go_wp2_with (first|((with_reducible refine gate_dst (N:=2) rfl ?_);(try (refine gate_guard (by rfl) ?_;dsimp only));refine Hd.box_ 2 (#[.int .i64 a0_0,.int .i64 a0_1,.int .i64 a0_2,.int .i64 a0_3]) 101 ?_;intro gb132 hg w40 hbox hb;have BK132:=ak (hbox);have GW132:=z106_;have GE132:=z106_;replace HB:=z17_;clear hb hbox hg)|((with_reducible refine gate_dst (N:=3) rfl ?_);(try (refine gate_guard (by rfl) ?_;dsimp only));refine Hd.box_ 3 (#[.int .i64 a1_0,.int .i64 a1_1]) 75 ?_;intro gb133 hg w41 hbox hb;have BK133:=ak (hbox);have GW133:=z107_;have GE133:=z107_;replace HB:=z17_;have NB132_133:=ak ((Hd.lt_ BK132 hg));have NB133_132:=ak ((Hd.gt_ BK132 hg));replace BK132:=z130_;clear hb hbox hg;have hnb42:=NB132_133.out;have hnc42:=NB133_132.out;obtain⟨hcz43_0,hcz43_1,hcz43_2,hcz43_3⟩:=Hd.c4_ BK132.out;obtain⟨hfz43_0,hfz43_1,hfz43_2,hfz43_3⟩:=Hd.f4_ BK132.out)|((with_reducible refine gate_callee (f:=90) rfl ?_);refine Hd.gl_ 6 Try.func90 #[.agg #[.int .i64 a0_0,.int .i64 a0_1,.int .i64 a0_2,.int .i64 a0_3]] ?_;(with_reducible refine(impl_IsSegment.calls a0_0 a0_1 a0_2 a0_3 true _ A3.out).mono ?_);rintro e w44 ⟨rfl,hb⟩;refine⟨_,rfl,?_⟩;replace BK132:=z130_;replace BK133:=z160_;replace HB:=z17_;(try clear hb);obtain⟨hcz45_0,hcz45_1⟩:=Hd.c2_ BK133.out;obtain⟨hfz45_0,hfz45_1⟩:=Hd.f2_ BK133.out)|(go_at_call 73;(with_reducible refine(impl_IsPoint.calls a1_0 a1_1 true _ A5.out).mono ?_);rintro e w46 ⟨rfl,hb⟩;replace BK132:=z130_;replace BK133:=z160_;replace HB:=z17_;(try clear hb);(try clear hk);(try clear hi);obtain⟨hcz47_0,hcz47_1,hcz47_2,hcz47_3⟩:=Hd.c4_ BK132.out;obtain⟨hfz47_0,hfz47_1,hfz47_2,hfz47_3⟩:=Hd.f4_ BK132.out;obtain⟨hcz48_0,hcz48_1⟩:=Hd.c2_ BK133.out;obtain⟨hfz48_0,hfz48_1⟩:=Hd.f2_ BK133.out)|(go_at_call 91;(with_reducible refine(impl_SideOf.calls k a0_0 a0_1 a0_2 a0_3 a1_0 a1_1 t136 _ A7.out).mono ?_);rintro e w49 ⟨rfl,hb⟩;replace BK132:=z130_;replace BK133:=z160_;replace HB:=z17_;clear hb))
  go_ret
  exact⟨Hd.e_,Hd.b_⟩
 rw [if_pos c8] at H
 have c8b0:=beq_iff_eq.mpr c8
 have c8b1:=bne_eq_false_iff_eq.mpr c8
 clear c8
 obtain⟨ji9,hji9⟩:∃ j_:Int,(mn a0_0 a0_2)=j_:=⟨_,rfl⟩
 replace H:((impl_InRange.f a1_0 (ji9) (mx a0_0 a0_2)).bind fun t137=>(if t137=true then ((impl_InRange.f a1_1 (mn a0_1 a0_3) (mx a0_1 a0_3)).bind fun t138=>(some t138)) else (some false)))=some r:=by first|(rw [hji9] at H;exact H)|(simp only[hji9] at H ⊢;exact H)
 (try rw [hji9] at A3)
 (try rw [hji9] at A5)
 (try rw [hji9] at A7)
 have hji9_:(if a0_2<a0_0 then a0_2 else a0_0)=ji9:=hji9
 obtain⟨ji10,hji10⟩:∃ j_:Int,(mx a0_0 a0_2)=j_:=⟨_,rfl⟩
 replace H:((impl_InRange.f a1_0 (ji9) (ji10)).bind fun t137=>(if t137=true then ((impl_InRange.f a1_1 (mn a0_1 a0_3) (mx a0_1 a0_3)).bind fun t138=>(some t138)) else (some false)))=some r:=by first|(rw [hji10] at H;exact H)|(simp only[hji10] at H ⊢;exact H)
 (try rw [hji10] at A3)
 (try rw [hji10] at A5)
 (try rw [hji10] at A7)
 have hji10_:(if a0_0<a0_2 then a0_2 else a0_0)=ji10:=hji10
 replace H:=Hd.bd_ H;obtain⟨t137,A11,H⟩:=H
 by_cases c12:t137=true;rotate_left
 ·
  replace c12:=Bool.eq_false_iff.mpr c12
  subst c12
  rw [if_neg (show ¬ (false=true) by decide)] at H
  obtain rfl:=Option.some.inj H
  go_enter Try.func94,Try.ntmps94
  go_wp2_with (first|((with_reducible refine gate_dst (N:=2) rfl ?_);(try (refine gate_guard (by rfl) ?_;dsimp only));refine Hd.box_ 2 (#[.int .i64 a0_0,.int .i64 a0_1,.int .i64 a0_2,.int .i64 a0_3]) 101 ?_;intro gb132 hg w28 hbox hb;have BK132:=ak (hbox);have GW132:=z106_;have GE132:=z106_;replace HB:=z17_;clear hb hbox hg)|((with_reducible refine gate_dst (N:=3) rfl ?_);(try (refine gate_guard (by rfl) ?_;dsimp only));refine Hd.box_ 3 (#[.int .i64 a1_0,.int .i64 a1_1]) 75 ?_;intro gb133 hg w29 hbox hb;have BK133:=ak (hbox);have GW133:=z107_;have GE133:=z107_;replace HB:=z17_;have NB132_133:=ak ((Hd.lt_ BK132 hg));have NB133_132:=ak ((Hd.gt_ BK132 hg));replace BK132:=z130_;clear hb hbox hg;have hnb30:=NB132_133.out;have hnc30:=NB133_132.out;obtain⟨hcz31_0,hcz31_1,hcz31_2,hcz31_3⟩:=Hd.c4_ BK132.out;obtain⟨hfz31_0,hfz31_1,hfz31_2,hfz31_3⟩:=Hd.f4_ BK132.out)|((with_reducible refine gate_callee (f:=90) rfl ?_);refine Hd.gl_ 6 Try.func90 #[.agg #[.int .i64 a0_0,.int .i64 a0_1,.int .i64 a0_2,.int .i64 a0_3]] ?_;(with_reducible refine(impl_IsSegment.calls a0_0 a0_1 a0_2 a0_3 true _ A3.out).mono ?_);rintro e w32 ⟨rfl,hb⟩;refine⟨_,rfl,?_⟩;replace BK132:=z130_;replace BK133:=z160_;replace HB:=z17_;(try clear hb);obtain⟨hcz33_0,hcz33_1⟩:=Hd.c2_ BK133.out;obtain⟨hfz33_0,hfz33_1⟩:=Hd.f2_ BK133.out)|(go_at_call 73;(with_reducible refine(impl_IsPoint.calls a1_0 a1_1 true _ A5.out).mono ?_);rintro e w34 ⟨rfl,hb⟩;replace BK132:=z130_;replace BK133:=z160_;replace HB:=z17_;(try clear hb);(try clear hk);(try clear hi);obtain⟨hcz35_0,hcz35_1,hcz35_2,hcz35_3⟩:=Hd.c4_ BK132.out;obtain⟨hfz35_0,hfz35_1,hfz35_2,hfz35_3⟩:=Hd.f4_ BK132.out;obtain⟨hcz36_0,hcz36_1⟩:=Hd.c2_ BK133.out;obtain⟨hfz36_0,hfz36_1⟩:=Hd.f2_ BK133.out)|(go_at_call 91;(with_reducible refine(impl_SideOf.calls k a0_0 a0_1 a0_2 a0_3 a1_0 a1_1 t136 _ A7.out).mono ?_);rintro e w37 ⟨rfl,hb⟩;replace BK132:=z130_;replace BK133:=z160_;replace HB:=z17_;clear hb;obtain⟨hcz38_0,hcz38_1⟩:=Hd.c2_ BK133.out;obtain⟨hfz38_0,hfz38_1⟩:=Hd.f2_ BK133.out;obtain⟨hcz39_0,hcz39_1,hcz39_2,hcz39_3⟩:=Hd.c4_ BK132.out;obtain⟨hfz39_0,hfz39_1,hfz39_2,hfz39_3⟩:=Hd.f4_ BK132.out)|(go_at_call 71;(with_reducible refine(impl_InRange.calls a1_0 ji9 ji10 false _ A11.out).mono ?_);rintro e w' ⟨rfl,⟨nd,rfl⟩⟩))
  go_ret
  exact⟨by first|rfl|(simp [errW_none,errW_some] <;> rfl)|(simp only[← hji9,← hji10];first|rfl|(simp [errW_none,errW_some] <;> rfl))|(simp [*,errW_none,errW_some] <;> rfl),Hd.b_⟩
 subst c12
 rw [if_pos rfl] at H
 obtain⟨ji13,hji13⟩:∃ j_:Int,(mn a0_1 a0_3)=j_:=⟨_,rfl⟩
 replace H:((impl_InRange.f a1_1 (ji13) (mx a0_1 a0_3)).bind fun t138=>(some t138))=some r:=by first|(rw [hji13] at H;exact H)|(simp only[hji13] at H ⊢;exact H)
 (try rw [hji13] at A3)
 (try rw [hji13] at A5)
 (try rw [hji13] at A7)
 (try rw [hji13] at A11)
 have hji13_:(if a0_3<a0_1 then a0_3 else a0_1)=ji13:=hji13
 obtain⟨ji14,hji14⟩:∃ j_:Int,(mx a0_1 a0_3)=j_:=⟨_,rfl⟩
 replace H:((impl_InRange.f a1_1 (ji13) (ji14)).bind fun t138=>(some t138))=some r:=by first|(rw [hji14] at H;exact H)|(simp only[hji14] at H ⊢;exact H)
 (try rw [hji14] at A3)
 (try rw [hji14] at A5)
 (try rw [hji14] at A7)
 (try rw [hji14] at A11)
 have hji14_:(if a0_1<a0_3 then a0_3 else a0_1)=ji14:=hji14
 replace H:=Hd.bd_ H;obtain⟨t138,A15,H⟩:=H
 obtain rfl:=Option.some.inj H
 go_enter Try.func94,Try.ntmps94
 go_wp2_with (first|((with_reducible refine gate_dst (N:=2) rfl ?_);(try (refine gate_guard (by rfl) ?_;dsimp only));refine Hd.box_ 2 (#[.int .i64 a0_0,.int .i64 a0_1,.int .i64 a0_2,.int .i64 a0_3]) 101 ?_;intro gb132 hg w16 hbox hb;have BK132:=ak (hbox);have GW132:=z106_;have GE132:=z106_;replace HB:=z17_;clear hb hbox hg)|((with_reducible refine gate_dst (N:=3) rfl ?_);(try (refine gate_guard (by rfl) ?_;dsimp only));refine Hd.box_ 3 (#[.int .i64 a1_0,.int .i64 a1_1]) 75 ?_;intro gb133 hg w17 hbox hb;have BK133:=ak (hbox);have GW133:=z107_;have GE133:=z107_;replace HB:=z17_;have NB132_133:=ak ((Hd.lt_ BK132 hg));have NB133_132:=ak ((Hd.gt_ BK132 hg));replace BK132:=z130_;clear hb hbox hg;have hnb18:=NB132_133.out;have hnc18:=NB133_132.out;obtain⟨hcz19_0,hcz19_1,hcz19_2,hcz19_3⟩:=Hd.c4_ BK132.out;obtain⟨hfz19_0,hfz19_1,hfz19_2,hfz19_3⟩:=Hd.f4_ BK132.out)|((with_reducible refine gate_callee (f:=90) rfl ?_);refine Hd.gl_ 6 Try.func90 #[.agg #[.int .i64 a0_0,.int .i64 a0_1,.int .i64 a0_2,.int .i64 a0_3]] ?_;(with_reducible refine(impl_IsSegment.calls a0_0 a0_1 a0_2 a0_3 true _ A3.out).mono ?_);rintro e w20 ⟨rfl,hb⟩;refine⟨_,rfl,?_⟩;replace BK132:=z130_;replace BK133:=z160_;replace HB:=z17_;(try clear hb);obtain⟨hcz21_0,hcz21_1⟩:=Hd.c2_ BK133.out;obtain⟨hfz21_0,hfz21_1⟩:=Hd.f2_ BK133.out)|(go_at_call 73;(with_reducible refine(impl_IsPoint.calls a1_0 a1_1 true _ A5.out).mono ?_);rintro e w22 ⟨rfl,hb⟩;replace BK132:=z130_;replace BK133:=z160_;replace HB:=z17_;(try clear hb);(try clear hk);(try clear hi);obtain⟨hcz23_0,hcz23_1,hcz23_2,hcz23_3⟩:=Hd.c4_ BK132.out;obtain⟨hfz23_0,hfz23_1,hfz23_2,hfz23_3⟩:=Hd.f4_ BK132.out;obtain⟨hcz24_0,hcz24_1⟩:=Hd.c2_ BK133.out;obtain⟨hfz24_0,hfz24_1⟩:=Hd.f2_ BK133.out)|(go_at_call 91;(with_reducible refine(impl_SideOf.calls k a0_0 a0_1 a0_2 a0_3 a1_0 a1_1 t136 _ A7.out).mono ?_);rintro e w25 ⟨rfl,hb⟩;replace BK132:=z130_;replace BK133:=z160_;replace HB:=z17_;clear hb;obtain⟨hcz26_0,hcz26_1⟩:=Hd.c2_ BK133.out;obtain⟨hfz26_0,hfz26_1⟩:=Hd.f2_ BK133.out;obtain⟨hcz27_0,hcz27_1,hcz27_2,hcz27_3⟩:=Hd.c4_ BK132.out;obtain⟨hfz27_0,hfz27_1,hfz27_2,hfz27_3⟩:=Hd.f4_ BK132.out)|(go_at_call 71;(with_reducible refine(impl_InRange.calls a1_0 ji9 ji10 true _ A11.out).mono ?_);rintro e w' ⟨rfl,⟨nd,rfl⟩⟩)|(go_at_call 71;(with_reducible refine(impl_InRange.calls a1_1 ji13 ji14 t138 _ A15.out).mono ?_);rintro e w' ⟨rfl,⟨nd,rfl⟩⟩))
 go_ret
 exact⟨by first|rfl|(simp [errW_none,errW_some] <;> rfl)|(simp only[← hji9,← hji10,← hji13,← hji14];first|rfl|(simp [errW_none,errW_some] <;> rfl))|(simp [*,errW_none,errW_some] <;> rfl),Hd.b_⟩
end Go.Proofs.Ytbbdhlggnglfgaa.MFnFeatures
