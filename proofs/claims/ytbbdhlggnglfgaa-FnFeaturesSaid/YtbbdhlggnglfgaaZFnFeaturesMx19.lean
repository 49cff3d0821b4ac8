-- Laid by this session's program pp.py, after the kit's print and texts of the session's own. Not trusted: Lean checks it.
import Derived.Test.YtbbdhlggnglfgaaZFnFeaturesMx0
import Derived.Test.YtbbdhlggnglfgaaZFnFeaturesMx11
import Derived.Test.YtbbdhlggnglfgaaZFnFeaturesMx17
import Derived.Test.YtbbdhlggnglfgaaZFnFeaturesMx18
namespace Go.Proofs.Ytbbdhlggnglfgaa.MFnFeatures
open Go.RowKit Go.Proofs.YtbbdhlggnglfgaaW.PrintWords Go.Proofs.YtbbdhlggnglfgaaW.PrintLast Go.Proofs.YtbbdhlggnglfgaaW.PrintMore
attribute [local go_sem] max2_int min2_int max_two min_two max_three min_three max_four min_four
set_option linter.unusedVariables false
set_option maxHeartbeats 8000000
set_option maxRecDepth 100000
set_option linter.unusedSimpArgs false
def spec_l1Str.f (s0_0:List Int) (s0_1:Int) (s0_2:Int) (l1:List ByteArray):Option (ByteArray × Int × Int):=(spec_l1Below.f s0_0 s0_1 s0_2 (l1.length:Int)).bind fun bt526=>(if 0≤bt526.1 then (if bt526.1<(l1.length:Int) then (some (rdOf ByteArray.empty l1 bt526.1,bt526.2.1,bt526.2.2)) else (none)) else (none))
theorem spec_l1Str.calls (g:Nat) (s0_0:List Int) (s0_1:Int) (s0_2:Int) (A1:Option Addr) (c1:Nat) (l1:List ByteArray) (r1:ByteArray) (r2:Int) (r3:Int) (w0 w:World) (hI:IsS89 w0 w g s0_0 s0_1 s0_2) (hB:Below w0.heap.size w0 w) (hr1:Kd.C Kd.string w A1 l1.length l1) (hc1:l1.length≤c1) (hf1:∀ ad,A1=some ad→0<l1.length→ad.block≠g) (h:spec_l1Str.f s0_0 s0_1 s0_2 l1=some (r1,r2,r3)) :
  Calls Try.prog 68 #[.pointer (some ⟨g,0,none⟩),.slice A1 l1.length c1] w fun e w'=>e = .returned (.string r1)∧IsS89 w0 w' g s0_0 r2 r3∧Below w0.heap.size w0 w'∧KeepBut w w' g none:=by
 have HR1:=ak hr1
 have HC1:=ak hc1
 clear hr1 hc1
 have HI0:=ak hI
 have HK:=z115_
 have HL:=ak hB.size
 clear hI
 have HW0:=ak hB.size
 have HB:=ak hB
 clear hB
 have H:=h;clear h;unfold spec_l1Str.f at H
 replace H:=Hd.bd_ H;obtain⟨⟨t526,t527,t528⟩,A3,H⟩:=H;dsimp only at H
 by_cases c4:0≤t526;rotate_left
 ·
  rw [if_neg c4] at H
  exact absurd H (by simp)
 rw [if_pos c4] at H
 have c4b0:=decide_eq_true c4
 clear c4
 by_cases c5:t526<(l1.length:Int);rotate_left
 ·
  rw [if_neg c5] at H
  exact absurd H (by simp)
 rw [if_pos c5] at H
 have c5b0:=decide_eq_true c5
 clear c5
 simp only[Option.some.injEq,Prod.mk.injEq] at H
 obtain⟨rfl,rfl,rfl⟩:=H
 go_enter Try.func68,Try.ntmps68
 go_wp2_with (first|((with_reducible refine gate_callee (f:=49) rfl ?_);refine Hd.gl_ 9 Try.func49 #[.pointer (some ⟨g,0,none⟩),.int .i64 (l1.length:Int)] ?_;(with_reducible refine(spec_l1Below.calls g s0_0 s0_1 s0_2 (l1.length:Int) t526 t527 t528 w0 _ ?side1 ?side2 A3.out).mono ?_);(case side1=>exact z1_);(case side2=>exact z2_);rintro e w6 ⟨rfl,hi,hb,hk⟩;refine⟨_,rfl,?_⟩;replace HK:=z218_;replace HB:=ak (hb);replace HI0:=ak (hi);clear hb hk hi;have p529:0≤(t526:Int):=od_;have q529:t526<(l1.length:Int):=od_;obtain⟨ad529,e529,hx529_0⟩:=Kd.at_string HR1.out t526 p529 q529;cases e529;replace hx529_0:=keep_cell HK.out hx529_0 (by first|(rw [add_block];exact hf1 _ rfl (by omega))|exact hf1 _ rfl (by omega)|exact hf1 ad529 rfl (by omega));replace p529:=eq_true p529;replace q529:=eq_true q529))
 go_ret
 exact⟨Hd.e_,z1_,z2_,z0_⟩
def spec_l9Name.f (s0_0:List Int) (s0_1:Int) (s0_2:Int):Option (ByteArray × Int × Int):=(spec_l1Str.f s0_0 s0_1 s0_2 (([(⟨#[]⟩:ByteArray),(⟨#[102,111,114,100]⟩:ByteArray),(⟨#[104,105,108,108]⟩:ByteArray),(⟨#[109,105,108,108]⟩:ByteArray),(⟨#[111,97,107]⟩:ByteArray),(⟨#[108,97,107,101]⟩:ByteArray),(⟨#[105,110,110]⟩:ByteArray)]:List ByteArray))).bind fun bt533=>(some (bt533.1,bt533.2.1,bt533.2.2))
theorem spec_l9Name.calls (g:Nat) (s0_0:List Int) (s0_1:Int) (s0_2:Int) (r1:ByteArray) (r2:Int) (r3:Int) (w0 w:World) (hI:IsS89 w0 w g s0_0 s0_1 s0_2) (hB:Below w0.heap.size w0 w) (h:spec_l9Name.f s0_0 s0_1 s0_2=some (r1,r2,r3)) :
  Calls Try.prog 101 #[.pointer (some ⟨g,0,none⟩)] w fun e w'=>e = .returned (.string r1)∧IsS89 w0 w' g s0_0 r2 r3∧Below w0.heap.size w0 w'∧KeepBut w w' g none:=by
 have HI0:=ak hI
 have HK:=z115_
 have HL:=ak hB.size
 clear hI
 have HW0:=ak hB.size
 have HB:=ak hB
 clear hB
 have H:=h;clear h;unfold spec_l9Name.f at H
 generalize hy530:(([(⟨#[]⟩:ByteArray),(⟨#[102,111,114,100]⟩:ByteArray),(⟨#[104,105,108,108]⟩:ByteArray),(⟨#[109,105,108,108]⟩:ByteArray),(⟨#[111,97,107]⟩:ByteArray),(⟨#[108,97,107,101]⟩:ByteArray),(⟨#[105,110,110]⟩:ByteArray)]:List ByteArray))=y530 at H;have Ny530:=ak hy530.symm;clear hy530;try rw [Option.bind_some] at H
 replace H:=Hd.bd_ H;obtain⟨⟨t533,t534,t535⟩,A2,H⟩:=H;dsimp only at H
 simp only[Option.some.injEq,Prod.mk.injEq] at H
 obtain⟨rfl,rfl,rfl⟩:=H
 go_enter Try.func101,Try.ntmps101
 go_wp2_with (first|((with_reducible refine gate_dst (N:=4) rfl ?_);refine Kd.R_lit Kd.string _ 9 ?hg (N:=4) ?hd (xs:=([(⟨#[]⟩:ByteArray),(⟨#[102,111,114,100]⟩:ByteArray),(⟨#[104,105,108,108]⟩:ByteArray),(⟨#[109,105,108,108]⟩:ByteArray),(⟨#[111,97,107]⟩:ByteArray),(⟨#[108,97,107,101]⟩:ByteArray),(⟨#[105,110,110]⟩:ByteArray)]:List ByteArray)) (inner:=[.string (⟨#[]⟩:ByteArray),.string (⟨#[102,111,114,100]⟩:ByteArray),.string (⟨#[104,105,108,108]⟩:ByteArray),.string (⟨#[109,105,108,108]⟩:ByteArray),.string (⟨#[111,97,107]⟩:ByteArray),.string (⟨#[108,97,107,101]⟩:ByteArray),.string (⟨#[105,110,110]⟩:ByteArray)]) (ok:=fun _=>True) (okp:=fun _=>True) ?hr ?hp (fun _ hk=>hk) trivial (Below.refl _ _) (Nat.le_refl _) (by simp) ?_;(case hd=>rfl);(case hg=>rfl);(case hr=>exact z39_);(case hp=>exact(Reps.one (show Kd.M Kd.string _ _ _ (⟨#[]⟩:ByteArray) [.string (⟨#[]⟩:ByteArray)] from rfl) (Reps.one (show Kd.M Kd.string _ _ _ (⟨#[102,111,114,100]⟩:ByteArray) [.string (⟨#[102,111,114,100]⟩:ByteArray)] from rfl) (Reps.one (show Kd.M Kd.string _ _ _ (⟨#[104,105,108,108]⟩:ByteArray) [.string (⟨#[104,105,108,108]⟩:ByteArray)] from rfl) (Reps.one (show Kd.M Kd.string _ _ _ (⟨#[109,105,108,108]⟩:ByteArray) [.string (⟨#[109,105,108,108]⟩:ByteArray)] from rfl) (Reps.one (show Kd.M Kd.string _ _ _ (⟨#[111,97,107]⟩:ByteArray) [.string (⟨#[111,97,107]⟩:ByteArray)] from rfl) (Reps.one (show Kd.M Kd.string _ _ _ (⟨#[108,97,107,101]⟩:ByteArray) [.string (⟨#[108,97,107,101]⟩:ByteArray)] from rfl) (Reps.one (show Kd.M Kd.string _ _ _ (⟨#[105,110,110]⟩:ByteArray) [.string (⟨#[105,110,110]⟩:ByteArray)] from rfl) (Reps.none _ _)))))))));intro v531 w3 ho4 hb hg_ hnew_;clear hg_ hnew_;(first|rw [← Ny530.out] at ho4|(simp only[Int.reduceToNat] at ho4;rw [← Ny530.out] at ho4));have HO532:=ak (Kd.R_lower ho4 (keep_size (w:=w) (g:=g) (row:=none) z0_));replace HK:=z217_;replace HB:=z225_;replace HI0:=z224_;clear hb ho4;obtain⟨Ao5,co5,eo5⟩:=Kd.R_slice HO532.out;subst eo5)|((with_reducible refine gate_callee (f:=68) rfl ?_);refine Hd.gl_ 5 Try.func68 #[.pointer (some ⟨g,0,none⟩),.slice Ao5 y530.length co5] ?_;(with_reducible refine(spec_l1Str.calls g s0_0 s0_1 s0_2 _ _ y530 t533 t534 t535 w0 _ ?side1 ?side2 ?side3 ?side4 ?side5 A2.out).mono ?_);(case side1=>exact z1_);(case side2=>exact z2_);(case side3=>exact z61_ HO532);(case side4=>exact(Kd.R_reads' HO532.out).2.1);(case side5=>exact z155_ HO532);rintro e w6 ⟨rfl,hi,hb,hk⟩;refine⟨_,rfl,?_⟩;replace HO532:=ak (Kd.R_mono (Kd.R_keep (IsS89.apart (show IsS89 w0 _ g s0_0 s0_1 s0_2 from by repeat (first|(with_reducible first|exact HI0.out|apply IsS89.alloc|apply IsS89.drewN|apply IsS89.drew|apply IsS89.set_1|apply IsS89.set_2)|exact HI0.out)) (Hd.r_ HO532) (by decide)) hk (fun _ h=>h.2)) (fun _ h=>h.1));replace HK:=z218_;replace HB:=ak (hb);replace HI0:=ak (hi);clear hb hk hi))
 go_ret
 exact⟨Hd.e_,z1_,z2_,z0_⟩
def spec_l7P.f (a0:Int) (a1:Int):Option (Int × Int):=some (a0,a1)
theorem spec_l7P.calls (a0:Int) (a1:Int) (r1:Int) (r2:Int) (w:World) (h:spec_l7P.f a0 a1=some (r1,r2)) :
  Calls Try.prog 112 #[.int .i64 a0,.int .i64 a1] w fun e w'=>e = .returned (.agg #[.int .i64 r1,.int .i64 r2])∧Below w.heap.size w w':=by
 have hu75:=Try.underlying75
 have HB:=z52_
 have H:(some (a0,a1))=some (r1,r2):=h
 clear h
 simp only[Option.some.injEq,Prod.mk.injEq] at H
 obtain⟨rfl,rfl⟩:=H
 go_enter Try.func112,Try.ntmps112
 go_wp2_with (first|((with_reducible refine gate_dst (N:=4) rfl ?_);refine Hd.box_ 4 (#[.int .i64 0,.int .i64 0]) 75 ?_;intro gb536 hg w3 hbox hb;have BK536:=ak (hbox);have GW536:=ak ((Hd.g_ hg Hd.b_:w.heap.size≤gb536));have GE536:=ak ((Hd.g_ hg Hd.b_:w.heap.size≤gb536));replace HB:=z17_;clear hb hbox hg;obtain⟨hcz4_0,hcz4_1⟩:=Hd.c2_ BK536.out;obtain⟨hfz4_0,hfz4_1⟩:=Hd.f2_ BK536.out))
 refine bodyPost_ret (results_cell_row rfl _ _ gb536 75 #[.int .i64 a0,.int .i64 a1] (0,0) _ rfl (by (with_reducible repeat (first|refine blk_drewN ?_ _|refine blk_drew ?_|refine blk_alloc ?_ _));refine blk_put (cs:=#[.int .i64 a0,.int .i64 0]) ?_ 1 _ rfl;(with_reducible repeat (first|refine blk_drewN ?_ _|refine blk_drew ?_|refine blk_alloc ?_ _));refine blk_put (cs:=#[.int .i64 0,.int .i64 0]) ?_ 0 _ rfl;(with_reducible repeat (first|refine blk_drewN ?_ _|refine blk_drew ?_|refine blk_alloc ?_ _));exact BK536.out) Try.underlying75 rfl (by kernel_rfl)) rfl ?_
 exact⟨Hd.e_,Hd.b_⟩
def spec_l7Draw.f (s0_0:List Int) (s0_1:Int) (s0_2:Int):Option ((List (S75)) × Int × Int):=(spec_l1Below.f s0_0 s0_1 s0_2 8).bind fun bt537=>((spec_l1Below.f s0_0 bt537.2.1 bt537.2.2 8).bind fun bt540=>((spec_l1Below.f s0_0 bt540.2.1 bt540.2.2 6).bind fun bt543=>((spec_l1Below.f s0_0 bt543.2.1 bt543.2.2 6).bind fun bt546=>((spec_l1Below.f s0_0 bt546.2.1 bt546.2.2 4).bind fun bt549=>(if bt549.1=0 then ((spec_l7P.f bt537.1 bt540.1).bind fun bt552=>((spec_l7P.f (wrap64 (bt537.1+(wrap64 (2+bt543.1)))) bt540.1).bind fun bt554=>((spec_l7P.f (wrap64 (bt537.1+(wrap64 (2+bt543.1)))) (wrap64 (bt540.1+(wrap64 (2+bt546.1))))).bind fun bt556=>((spec_l7P.f bt537.1 (wrap64 (bt540.1+(wrap64 (2+bt546.1))))).bind fun bt558=>(some ((([(⟨bt552.1,bt552.2⟩:S75),(⟨bt554.1,bt554.2⟩:S75),(⟨bt556.1,bt556.2⟩:S75),(⟨bt558.1,bt558.2⟩:S75)]:List (S75))),bt549.2.1,bt549.2.2)))))) else (if bt549.1=1 then ((spec_l7P.f bt537.1 bt540.1).bind fun bt563=>((spec_l7P.f (wrap64 (bt537.1+(wrap64 (2+bt543.1)))) bt540.1).bind fun bt565=>((spec_l7P.f bt537.1 (wrap64 (bt540.1+(wrap64 (2+bt546.1))))).bind fun bt567=>(some ((([(⟨bt563.1,bt563.2⟩:S75),(⟨bt565.1,bt565.2⟩:S75),(⟨bt567.1,bt567.2⟩:S75)]:List (S75))),bt549.2.1,bt549.2.2))))) else (if bt549.1=2 then ((spec_l7P.f bt537.1 bt540.1).bind fun bt572=>((spec_l7P.f (wrap64 (bt537.1+(wrap64 (2*(wrap64 (2+bt543.1)))))) bt540.1).bind fun bt574=>((spec_l7P.f (wrap64 (bt537.1+(wrap64 (2*(wrap64 (2+bt543.1)))))) (wrap64 (bt540.1+(wrap64 (2+bt546.1))))).bind fun bt576=>((spec_l7P.f (wrap64 (bt537.1+(wrap64 (2+bt543.1)))) (wrap64 (bt540.1+(wrap64 (2+bt546.1))))).bind fun bt578=>((spec_l7P.f (wrap64 (bt537.1+(wrap64 (2+bt543.1)))) (wrap64 (bt540.1+(wrap64 (2*(wrap64 (2+bt546.1))))))).bind fun bt580=>((spec_l7P.f bt537.1 (wrap64 (bt540.1+(wrap64 (2*(wrap64 (2+bt546.1))))))).bind fun bt582=>(some ((([(⟨bt572.1,bt572.2⟩:S75),(⟨bt574.1,bt574.2⟩:S75),(⟨bt576.1,bt576.2⟩:S75),(⟨bt578.1,bt578.2⟩:S75),(⟨bt580.1,bt580.2⟩:S75),(⟨bt582.1,bt582.2⟩:S75)]:List (S75))),bt549.2.1,bt549.2.2)))))))) else ((spec_l7P.f bt537.1 bt540.1).bind fun bt587=>((spec_l7P.f (wrap64 (bt537.1+(wrap64 (2+bt543.1)))) (wrap64 (bt540.1+1))).bind fun bt589=>((spec_l7P.f (wrap64 (bt537.1+(wrap64 (2*(wrap64 (2+bt543.1)))))) bt540.1).bind fun bt591=>((spec_l7P.f (wrap64 (bt537.1+(wrap64 (2+bt543.1)))) (wrap64 (bt540.1+(wrap64 (2+bt546.1))))).bind fun bt593=>(some ((([(⟨bt587.1,bt587.2⟩:S75),(⟨bt589.1,bt589.2⟩:S75),(⟨bt591.1,bt591.2⟩:S75),(⟨bt593.1,bt593.2⟩:S75)]:List (S75))),bt549.2.1,bt549.2.2)))))))))))))
theorem spec_l7Draw.calls (g:Nat) (s0_0:List Int) (s0_1:Int) (s0_2:Int) (r1:List (S75)) (r2:Int) (r3:Int) (w0 w:World) (hI:IsS89 w0 w g s0_0 s0_1 s0_2) (hB:Below w0.heap.size w0 w) (h:spec_l7Draw.f s0_0 s0_1 s0_2=some (r1,r2,r3)) :
  Calls Try.prog 103 #[.pointer (some ⟨g,0,none⟩)] w fun e w'=>∃ v0_:Value,e = .returned (v0_)∧Kd.R k75 75 w' w.heap.size (fun _=>True) v0_ r1∧IsS89 w0 w' g s0_0 r2 r3∧Below w0.heap.size w0 w'∧KeepBut w w' g none:=by
 have HI0:=ak hI
 have HK:=z115_
 have HL:=ak hB.size
 clear hI
 have HW0:=ak hB.size
 have HB:=ak hB
 clear hB
 have H:=h;clear h;unfold spec_l7Draw.f at H
 replace H:=Hd.bd_ H;obtain⟨⟨t537,t538,t539⟩,A2,H⟩:=H;dsimp only at H
 replace H:=Hd.bd_ H;obtain⟨⟨t540,t541,t542⟩,A3,H⟩:=H;dsimp only at H
 replace H:=Hd.bd_ H;obtain⟨⟨t543,t544,t545⟩,A4,H⟩:=H;dsimp only at H
 replace H:=Hd.bd_ H;obtain⟨⟨t546,t547,t548⟩,A5,H⟩:=H;dsimp only at H
 replace H:=Hd.bd_ H;obtain⟨⟨t549,t550,t551⟩,A6,H⟩:=H;dsimp only at H
 by_cases c7:t549=0
 ·
  rw [if_pos c7] at H
  have c7b0:=beq_iff_eq.mpr c7
  have c7b1:=bne_eq_false_iff_eq.mpr c7
  clear c7
  replace H:=Hd.bd_ H;obtain⟨⟨t552,t553⟩,A8,H⟩:=H;dsimp only at H
  replace H:=Hd.bd_ H;obtain⟨⟨t554,t555⟩,A9,H⟩:=H;dsimp only at H
  replace H:=Hd.bd_ H;obtain⟨⟨t556,t557⟩,A10,H⟩:=H;dsimp only at H
  replace H:=Hd.bd_ H;obtain⟨⟨t558,t559⟩,A11,H⟩:=H;dsimp only at H
  generalize hy560:(([(⟨t552,t553⟩:S75),(⟨t554,t555⟩:S75),(⟨t556,t557⟩:S75),(⟨t558,t559⟩:S75)]:List (S75)))=y560 at H;have Ny560:=ak hy560.symm;clear hy560;try rw [Option.bind_some] at H
  simp only[Option.some.injEq,Prod.mk.injEq] at H
  obtain⟨rfl,rfl,rfl⟩:=H
  go_enter Try.func103,Try.ntmps103
  go_wp2_with (first|((with_reducible refine gate_callee (f:=49) rfl ?_);refine Hd.gl_ 8 Try.func49 #[.pointer (some ⟨g,0,none⟩),.int .i64 8] ?_;(with_reducible refine(spec_l1Below.calls g s0_0 s0_1 s0_2 8 t537 t538 t539 w0 _ ?side1 ?side2 A2.out).mono ?_);(case side1=>exact z1_);(case side2=>exact z2_);rintro e w12 ⟨rfl,hi,hb,hk⟩;refine⟨_,rfl,?_⟩;replace HK:=z218_;replace HB:=ak (hb);replace HI0:=ak (hi);clear hb hk hi)|((with_reducible refine gate_callee (f:=49) rfl ?_);refine Hd.gl_ 10 Try.func49 #[.pointer (some ⟨g,0,none⟩),.int .i64 8] ?_;(with_reducible refine(spec_l1Below.calls g s0_0 t538 t539 8 t540 t541 t542 w0 _ ?side1 ?side2 A3.out).mono ?_);(case side1=>exact z1_);(case side2=>exact z2_);rintro e w13 ⟨rfl,hi,hb,hk⟩;refine⟨_,rfl,?_⟩;replace HK:=z218_;replace HB:=ak (hb);replace HI0:=ak (hi);clear hb hk hi)|((with_reducible refine gate_callee (f:=49) rfl ?_);refine Hd.gl_ 12 Try.func49 #[.pointer (some ⟨g,0,none⟩),.int .i64 6] ?_;(with_reducible refine(spec_l1Below.calls g s0_0 t541 t542 6 t543 t544 t545 w0 _ ?side1 ?side2 A4.out).mono ?_);(case side1=>exact z1_);(case side2=>exact z2_);rintro e w14 ⟨rfl,hi,hb,hk⟩;refine⟨_,rfl,?_⟩;replace HK:=z218_;replace HB:=ak (hb);replace HI0:=ak (hi);clear hb hk hi)|((with_reducible refine gate_callee (f:=49) rfl ?_);refine Hd.gl_ 15 Try.func49 #[.pointer (some ⟨g,0,none⟩),.int .i64 6] ?_;(with_reducible refine(spec_l1Below.calls g s0_0 t544 t545 6 t546 t547 t548 w0 _ ?side1 ?side2 A5.out).mono ?_);(case side1=>exact z1_);(case side2=>exact z2_);rintro e w15 ⟨rfl,hi,hb,hk⟩;refine⟨_,rfl,?_⟩;replace HK:=z218_;replace HB:=ak (hb);replace HI0:=ak (hi);clear hb hk hi)|((with_reducible refine gate_callee (f:=49) rfl ?_);refine Hd.gl_ 18 Try.func49 #[.pointer (some ⟨g,0,none⟩),.int .i64 4] ?_;(with_reducible refine(spec_l1Below.calls g s0_0 t547 t548 4 t549 t550 t551 w0 _ ?side1 ?side2 A6.out).mono ?_);(case side1=>exact z1_);(case side2=>exact z2_);rintro e w16 ⟨rfl,hi,hb,hk⟩;refine⟨_,rfl,?_⟩;replace HK:=z218_;replace HB:=ak (hb);replace HI0:=ak (hi);clear hb hk hi)|((with_reducible refine gate_callee (f:=112) rfl ?_);refine Hd.gl_ 23 Try.func112 #[.int .i64 t537,.int .i64 t540] ?_;(with_reducible refine(spec_l7P.calls t537 t540 t552 t553 _ A8.out).mono ?_);rintro e w17 ⟨rfl,hb⟩;refine⟨_,rfl,?_⟩;replace HK:=z217_;replace HB:=z225_;replace HI0:=z224_;clear hb)|((with_reducible refine gate_callee (f:=112) rfl ?_);refine Hd.gl_ 28 Try.func112 #[.int .i64 (wrap64 (t537+(wrap64 (2+t543)))),.int .i64 t540] ?_;(with_reducible refine(spec_l7P.calls (wrap64 (t537+(wrap64 (2+t543)))) t540 t554 t555 _ A9.out).mono ?_);rintro e w18 ⟨rfl,hb⟩;refine⟨_,rfl,?_⟩;replace HK:=z217_;replace HB:=z225_;replace HI0:=z224_;clear hb)|((with_reducible refine gate_callee (f:=112) rfl ?_);refine Hd.gl_ 35 Try.func112 #[.int .i64 (wrap64 (t537+(wrap64 (2+t543)))),.int .i64 (wrap64 (t540+(wrap64 (2+t546))))] ?_;(with_reducible refine(spec_l7P.calls (wrap64 (t537+(wrap64 (2+t543)))) (wrap64 (t540+(wrap64 (2+t546)))) t556 t557 _ A10.out).mono ?_);rintro e w19 ⟨rfl,hb⟩;refine⟨_,rfl,?_⟩;replace HK:=z217_;replace HB:=z225_;replace HI0:=z224_;clear hb)|((with_reducible refine gate_callee (f:=112) rfl ?_);refine Hd.gl_ 40 Try.func112 #[.int .i64 t537,.int .i64 (wrap64 (t540+(wrap64 (2+t546))))] ?_;(with_reducible refine(spec_l7P.calls t537 (wrap64 (t540+(wrap64 (2+t546)))) t558 t559 _ A11.out).mono ?_);rintro e w20 ⟨rfl,hb⟩;refine⟨_,rfl,?_⟩;replace HK:=z217_;replace HB:=z225_;replace HI0:=z224_;clear hb)|((with_reducible refine gate_dst (N:=41) rfl ?_);refine Kd.R_lit k75 _ 75 ?hg (N:=41) ?hd (xs:=([(⟨t552,t553⟩:S75),(⟨t554,t555⟩:S75),(⟨t556,t557⟩:S75),(⟨t558,t559⟩:S75)]:List (S75))) (inner:=[.int .i64 t552,.int .i64 t553,.int .i64 t554,.int .i64 t555,.int .i64 t556,.int .i64 t557,.int .i64 t558,.int .i64 t559]) (ok:=fun _=>True) (okp:=fun _=>True) ?hr ?hp (fun _ hk=>hk) trivial (Below.refl _ _) (Nat.le_refl _) (by simp) ?_;(case hd=>rfl);(case hg=>rfl);(case hr=>exact z39_);(case hp=>exact(Reps.c2 (show Kd.M k75 _ _ _ (⟨t552,t553⟩:S75) [.int .i64 t552,.int .i64 t553] from (k75_mkM _ _ _ (⟨t552,t553⟩:S75) )) (Reps.c2 (show Kd.M k75 _ _ _ (⟨t554,t555⟩:S75) [.int .i64 t554,.int .i64 t555] from (k75_mkM _ _ _ (⟨t554,t555⟩:S75) )) (Reps.c2 (show Kd.M k75 _ _ _ (⟨t556,t557⟩:S75) [.int .i64 t556,.int .i64 t557] from (k75_mkM _ _ _ (⟨t556,t557⟩:S75) )) (Reps.c2 (show Kd.M k75 _ _ _ (⟨t558,t559⟩:S75) [.int .i64 t558,.int .i64 t559] from (k75_mkM _ _ _ (⟨t558,t559⟩:S75) )) (Reps.none _ _))))));intro v561 w21 ho22 hb hg_ hnew_;clear hg_ hnew_;(first|rw [← Ny560.out] at ho22|(simp only[Int.reduceToNat] at ho22;rw [← Ny560.out] at ho22));have HO562:=ak (Kd.R_lower ho22 (keep_size (w:=w) (g:=g) (row:=none) z0_));replace HK:=z217_;replace HB:=z225_;replace HI0:=z224_;clear hb ho22))
  go_ret
  exact⟨_,Hd.e_,z12_ HO562,z1_,z2_,z0_⟩
 rw [if_neg c7] at H
 have c7b0:=beq_eq_false_iff_ne.mpr c7
 have c7b1:=bne_iff_ne.mpr c7
 by_cases c23:t549=1
 ·
  rw [if_pos c23] at H
  have c23b0:=beq_iff_eq.mpr c23
  have c23b1:=bne_eq_false_iff_eq.mpr c23
  clear c23
  replace H:=Hd.bd_ H;obtain⟨⟨t563,t564⟩,A24,H⟩:=H;dsimp only at H
  replace H:=Hd.bd_ H;obtain⟨⟨t565,t566⟩,A25,H⟩:=H;dsimp only at H
  replace H:=Hd.bd_ H;obtain⟨⟨t567,t568⟩,A26,H⟩:=H;dsimp only at H
  generalize hy569:(([(⟨t563,t564⟩:S75),(⟨t565,t566⟩:S75),(⟨t567,t568⟩:S75)]:List (S75)))=y569 at H;have Ny569:=ak hy569.symm;clear hy569;try rw [Option.bind_some] at H
  simp only[Option.some.injEq,Prod.mk.injEq] at H
  obtain⟨rfl,rfl,rfl⟩:=H
  go_enter Try.func103,Try.ntmps103
  go_wp2_with (first|((with_reducible refine gate_callee (f:=49) rfl ?_);refine Hd.gl_ 8 Try.func49 #[.pointer (some ⟨g,0,none⟩),.int .i64 8] ?_;(with_reducible refine(spec_l1Below.calls g s0_0 s0_1 s0_2 8 t537 t538 t539 w0 _ ?side1 ?side2 A2.out).mono ?_);(case side1=>exact z1_);(case side2=>exact z2_);rintro e w27 ⟨rfl,hi,hb,hk⟩;refine⟨_,rfl,?_⟩;replace HK:=z218_;replace HB:=ak (hb);replace HI0:=ak (hi);clear hb hk hi)|((with_reducible refine gate_callee (f:=49) rfl ?_);refine Hd.gl_ 10 Try.func49 #[.pointer (some ⟨g,0,none⟩),.int .i64 8] ?_;(with_reducible refine(spec_l1Below.calls g s0_0 t538 t539 8 t540 t541 t542 w0 _ ?side1 ?side2 A3.out).mono ?_);(case side1=>exact z1_);(case side2=>exact z2_);rintro e w28 ⟨rfl,hi,hb,hk⟩;refine⟨_,rfl,?_⟩;replace HK:=z218_;replace HB:=ak (hb);replace HI0:=ak (hi);clear hb hk hi)|((with_reducible refine gate_callee (f:=49) rfl ?_);refine Hd.gl_ 12 Try.func49 #[.pointer (some ⟨g,0,none⟩),.int .i64 6] ?_;(with_reducible refine(spec_l1Below.calls g s0_0 t541 t542 6 t543 t544 t545 w0 _ ?side1 ?side2 A4.out).mono ?_);(case side1=>exact z1_);(case side2=>exact z2_);rintro e w29 ⟨rfl,hi,hb,hk⟩;refine⟨_,rfl,?_⟩;replace HK:=z218_;replace HB:=ak (hb);replace HI0:=ak (hi);clear hb hk hi)|((with_reducible refine gate_callee (f:=49) rfl ?_);refine Hd.gl_ 15 Try.func49 #[.pointer (some ⟨g,0,none⟩),.int .i64 6] ?_;(with_reducible refine(spec_l1Below.calls g s0_0 t544 t545 6 t546 t547 t548 w0 _ ?side1 ?side2 A5.out).mono ?_);(case side1=>exact z1_);(case side2=>exact z2_);rintro e w30 ⟨rfl,hi,hb,hk⟩;refine⟨_,rfl,?_⟩;replace HK:=z218_;replace HB:=ak (hb);replace HI0:=ak (hi);clear hb hk hi)|((with_reducible refine gate_callee (f:=49) rfl ?_);refine Hd.gl_ 18 Try.func49 #[.pointer (some ⟨g,0,none⟩),.int .i64 4] ?_;(with_reducible refine(spec_l1Below.calls g s0_0 t547 t548 4 t549 t550 t551 w0 _ ?side1 ?side2 A6.out).mono ?_);(case side1=>exact z1_);(case side2=>exact z2_);rintro e w31 ⟨rfl,hi,hb,hk⟩;refine⟨_,rfl,?_⟩;replace HK:=z218_;replace HB:=ak (hb);replace HI0:=ak (hi);clear hb hk hi)|((with_reducible refine gate_callee (f:=112) rfl ?_);refine Hd.gl_ 46 Try.func112 #[.int .i64 t537,.int .i64 t540] ?_;(with_reducible refine(spec_l7P.calls t537 t540 t563 t564 _ A24.out).mono ?_);rintro e w32 ⟨rfl,hb⟩;refine⟨_,rfl,?_⟩;replace HK:=z217_;replace HB:=z225_;replace HI0:=z224_;clear hb)|((with_reducible refine gate_callee (f:=112) rfl ?_);refine Hd.gl_ 51 Try.func112 #[.int .i64 (wrap64 (t537+(wrap64 (2+t543)))),.int .i64 t540] ?_;(with_reducible refine(spec_l7P.calls (wrap64 (t537+(wrap64 (2+t543)))) t540 t565 t566 _ A25.out).mono ?_);rintro e w33 ⟨rfl,hb⟩;refine⟨_,rfl,?_⟩;replace HK:=z217_;replace HB:=z225_;replace HI0:=z224_;clear hb)|((with_reducible refine gate_callee (f:=112) rfl ?_);refine Hd.gl_ 56 Try.func112 #[.int .i64 t537,.int .i64 (wrap64 (t540+(wrap64 (2+t546))))] ?_;(with_reducible refine(spec_l7P.calls t537 (wrap64 (t540+(wrap64 (2+t546)))) t567 t568 _ A26.out).mono ?_);rintro e w34 ⟨rfl,hb⟩;refine⟨_,rfl,?_⟩;replace HK:=z217_;replace HB:=z225_;replace HI0:=z224_;clear hb)|((with_reducible refine gate_dst (N:=57) rfl ?_);refine Kd.R_lit k75 _ 75 ?hg (N:=57) ?hd (xs:=([(⟨t563,t564⟩:S75),(⟨t565,t566⟩:S75),(⟨t567,t568⟩:S75)]:List (S75))) (inner:=[.int .i64 t563,.int .i64 t564,.int .i64 t565,.int .i64 t566,.int .i64 t567,.int .i64 t568]) (ok:=fun _=>True) (okp:=fun _=>True) ?hr ?hp (fun _ hk=>hk) trivial (Below.refl _ _) (Nat.le_refl _) (by simp) ?_;(case hd=>rfl);(case hg=>rfl);(case hr=>exact z39_);(case hp=>exact(Reps.c2 (show Kd.M k75 _ _ _ (⟨t563,t564⟩:S75) [.int .i64 t563,.int .i64 t564] from (k75_mkM _ _ _ (⟨t563,t564⟩:S75) )) (Reps.c2 (show Kd.M k75 _ _ _ (⟨t565,t566⟩:S75) [.int .i64 t565,.int .i64 t566] from (k75_mkM _ _ _ (⟨t565,t566⟩:S75) )) (Reps.c2 (show Kd.M k75 _ _ _ (⟨t567,t568⟩:S75) [.int .i64 t567,.int .i64 t568] from (k75_mkM _ _ _ (⟨t567,t568⟩:S75) )) (Reps.none _ _)))));intro v570 w35 ho36 hb hg_ hnew_;clear hg_ hnew_;(first|rw [← Ny569.out] at ho36|(simp only[Int.reduceToNat] at ho36;rw [← Ny569.out] at ho36));have HO571:=ak (Kd.R_lower ho36 (keep_size (w:=w) (g:=g) (row:=none) z0_));replace HK:=z217_;replace HB:=z225_;replace HI0:=z224_;clear hb ho36))
  go_ret
  exact⟨_,Hd.e_,z12_ HO571,z1_,z2_,z0_⟩
 rw [if_neg c23] at H
 have c23b0:=beq_eq_false_iff_ne.mpr c23
 have c23b1:=bne_iff_ne.mpr c23
 by_cases c37:t549=2;rotate_left
 ·
  rw [if_neg c37] at H
  have c37b0:=beq_eq_false_iff_ne.mpr c37
  have c37b1:=bne_iff_ne.mpr c37
  replace H:=Hd.bd_ H;obtain⟨⟨t587,t588⟩,A57,H⟩:=H;dsimp only at H
  replace H:=Hd.bd_ H;obtain⟨⟨t589,t590⟩,A58,H⟩:=H;dsimp only at H
  replace H:=Hd.bd_ H;obtain⟨⟨t591,t592⟩,A59,H⟩:=H;dsimp only at H
  replace H:=Hd.bd_ H;obtain⟨⟨t593,t594⟩,A60,H⟩:=H;dsimp only at H
  generalize hy595:(([(⟨t587,t588⟩:S75),(⟨t589,t590⟩:S75),(⟨t591,t592⟩:S75),(⟨t593,t594⟩:S75)]:List (S75)))=y595 at H;have Ny595:=ak hy595.symm;clear hy595;try rw [Option.bind_some] at H
  simp only[Option.some.injEq,Prod.mk.injEq] at H
  obtain⟨rfl,rfl,rfl⟩:=H
  go_enter Try.func103,Try.ntmps103
  go_wp2_with (first|((with_reducible refine gate_callee (f:=49) rfl ?_);refine Hd.gl_ 8 Try.func49 #[.pointer (some ⟨g,0,none⟩),.int .i64 8] ?_;(with_reducible refine(spec_l1Below.calls g s0_0 s0_1 s0_2 8 t537 t538 t539 w0 _ ?side1 ?side2 A2.out).mono ?_);(case side1=>exact z1_);(case side2=>exact z2_);rintro e w61 ⟨rfl,hi,hb,hk⟩;refine⟨_,rfl,?_⟩;replace HK:=z218_;replace HB:=ak (hb);replace HI0:=ak (hi);clear hb hk hi)|((with_reducible refine gate_callee (f:=49) rfl ?_);refine Hd.gl_ 10 Try.func49 #[.pointer (some ⟨g,0,none⟩),.int .i64 8] ?_;(with_reducible refine(spec_l1Below.calls g s0_0 t538 t539 8 t540 t541 t542 w0 _ ?side1 ?side2 A3.out).mono ?_);(case side1=>exact z1_);(case side2=>exact z2_);rintro e w62 ⟨rfl,hi,hb,hk⟩;refine⟨_,rfl,?_⟩;replace HK:=z218_;replace HB:=ak (hb);replace HI0:=ak (hi);clear hb hk hi)|((with_reducible refine gate_callee (f:=49) rfl ?_);refine Hd.gl_ 12 Try.func49 #[.pointer (some ⟨g,0,none⟩),.int .i64 6] ?_;(with_reducible refine(spec_l1Below.calls g s0_0 t541 t542 6 t543 t544 t545 w0 _ ?side1 ?side2 A4.out).mono ?_);(case side1=>exact z1_);(case side2=>exact z2_);rintro e w63 ⟨rfl,hi,hb,hk⟩;refine⟨_,rfl,?_⟩;replace HK:=z218_;replace HB:=ak (hb);replace HI0:=ak (hi);clear hb hk hi)|((with_reducible refine gate_callee (f:=49) rfl ?_);refine Hd.gl_ 15 Try.func49 #[.pointer (some ⟨g,0,none⟩),.int .i64 6] ?_;(with_reducible refine(spec_l1Below.calls g s0_0 t544 t545 6 t546 t547 t548 w0 _ ?side1 ?side2 A5.out).mono ?_);(case side1=>exact z1_);(case side2=>exact z2_);rintro e w64 ⟨rfl,hi,hb,hk⟩;refine⟨_,rfl,?_⟩;replace HK:=z218_;replace HB:=ak (hb);replace HI0:=ak (hi);clear hb hk hi)|((with_reducible refine gate_callee (f:=49) rfl ?_);refine Hd.gl_ 18 Try.func49 #[.pointer (some ⟨g,0,none⟩),.int .i64 4] ?_;(with_reducible refine(spec_l1Below.calls g s0_0 t547 t548 4 t549 t550 t551 w0 _ ?side1 ?side2 A6.out).mono ?_);(case side1=>exact z1_);(case side2=>exact z2_);rintro e w65 ⟨rfl,hi,hb,hk⟩;refine⟨_,rfl,?_⟩;replace HK:=z218_;replace HB:=ak (hb);replace HI0:=ak (hi);clear hb hk hi)|((with_reducible refine gate_callee (f:=112) rfl ?_);refine Hd.gl_ 101 Try.func112 #[.int .i64 t537,.int .i64 t540] ?_;(with_reducible refine(spec_l7P.calls t537 t540 t587 t588 _ A57.out).mono ?_);rintro e w66 ⟨rfl,hb⟩;refine⟨_,rfl,?_⟩;replace HK:=z217_;replace HB:=z225_;replace HI0:=z224_;clear hb)|((with_reducible refine gate_callee (f:=112) rfl ?_);refine Hd.gl_ 107 Try.func112 #[.int .i64 (wrap64 (t537+(wrap64 (2+t543)))),.int .i64 (wrap64 (t540+1))] ?_;(with_reducible refine(spec_l7P.calls (wrap64 (t537+(wrap64 (2+t543)))) (wrap64 (t540+1)) t589 t590 _ A58.out).mono ?_);rintro e w67 ⟨rfl,hb⟩;refine⟨_,rfl,?_⟩;replace HK:=z217_;replace HB:=z225_;replace HI0:=z224_;clear hb)|((with_reducible refine gate_callee (f:=112) rfl ?_);refine Hd.gl_ 113 Try.func112 #[.int .i64 (wrap64 (t537+(wrap64 (2*(wrap64 (2+t543)))))),.int .i64 t540] ?_;(with_reducible refine(spec_l7P.calls (wrap64 (t537+(wrap64 (2*(wrap64 (2+t543)))))) t540 t591 t592 _ A59.out).mono ?_);rintro e w68 ⟨rfl,hb⟩;refine⟨_,rfl,?_⟩;replace HK:=z217_;replace HB:=z225_;replace HI0:=z224_;clear hb)|((with_reducible refine gate_callee (f:=112) rfl ?_);refine Hd.gl_ 120 Try.func112 #[.int .i64 (wrap64 (t537+(wrap64 (2+t543)))),.int .i64 (wrap64 (t540+(wrap64 (2+t546))))] ?_;(with_reducible refine(spec_l7P.calls (wrap64 (t537+(wrap64 (2+t543)))) (wrap64 (t540+(wrap64 (2+t546)))) t593 t594 _ A60.out).mono ?_);rintro e w69 ⟨rfl,hb⟩;refine⟨_,rfl,?_⟩;replace HK:=z217_;replace HB:=z225_;replace HI0:=z224_;clear hb)|((with_reducible refine gate_dst (N:=121) rfl ?_);refine Kd.R_lit k75 _ 75 ?hg (N:=121) ?hd (xs:=([(⟨t587,t588⟩:S75),(⟨t589,t590⟩:S75),(⟨t591,t592⟩:S75),(⟨t593,t594⟩:S75)]:List (S75))) (inner:=[.int .i64 t587,.int .i64 t588,.int .i64 t589,.int .i64 t590,.int .i64 t591,.int .i64 t592,.int .i64 t593,.int .i64 t594]) (ok:=fun _=>True) (okp:=fun _=>True) ?hr ?hp (fun _ hk=>hk) trivial (Below.refl _ _) (Nat.le_refl _) (by simp) ?_;(case hd=>rfl);(case hg=>rfl);(case hr=>exact z39_);(case hp=>exact(Reps.c2 (show Kd.M k75 _ _ _ (⟨t587,t588⟩:S75) [.int .i64 t587,.int .i64 t588] from (k75_mkM _ _ _ (⟨t587,t588⟩:S75) )) (Reps.c2 (show Kd.M k75 _ _ _ (⟨t589,t590⟩:S75) [.int .i64 t589,.int .i64 t590] from (k75_mkM _ _ _ (⟨t589,t590⟩:S75) )) (Reps.c2 (show Kd.M k75 _ _ _ (⟨t591,t592⟩:S75) [.int .i64 t591,.int .i64 t592] from (k75_mkM _ _ _ (⟨t591,t592⟩:S75) )) (Reps.c2 (show Kd.M k75 _ _ _ (⟨t593,t594⟩:S75) [.int .i64 t593,.int .i64 t594] from (k75_mkM _ _ _ (⟨t593,t594⟩:S75) )) (Reps.none _ _))))));intro v596 w70 ho71 hb hg_ hnew_;clear hg_ hnew_;(first|rw [← Ny595.out] at ho71|(simp only[Int.reduceToNat] at ho71;rw [← Ny595.out] at ho71));have HO597:=ak (Kd.R_lower ho71 (keep_size (w:=w) (g:=g) (row:=none) z0_));replace HK:=z217_;replace HB:=z225_;replace HI0:=z224_;clear hb ho71))
  go_ret
  exact⟨_,Hd.e_,z12_ HO597,z1_,z2_,z0_⟩
 rw [if_pos c37] at H
 have c37b0:=beq_iff_eq.mpr c37
 have c37b1:=bne_eq_false_iff_eq.mpr c37
 clear c37
 replace H:=Hd.bd_ H;obtain⟨⟨t572,t573⟩,A38,H⟩:=H;dsimp only at H
 replace H:=Hd.bd_ H;obtain⟨⟨t574,t575⟩,A39,H⟩:=H;dsimp only at H
 replace H:=Hd.bd_ H;obtain⟨⟨t576,t577⟩,A40,H⟩:=H;dsimp only at H
 replace H:=Hd.bd_ H;obtain⟨⟨t578,t579⟩,A41,H⟩:=H;dsimp only at H
 replace H:=Hd.bd_ H;obtain⟨⟨t580,t581⟩,A42,H⟩:=H;dsimp only at H
 replace H:=Hd.bd_ H;obtain⟨⟨t582,t583⟩,A43,H⟩:=H;dsimp only at H
 generalize hy584:(([(⟨t572,t573⟩:S75),(⟨t574,t575⟩:S75),(⟨t576,t577⟩:S75),(⟨t578,t579⟩:S75),(⟨t580,t581⟩:S75),(⟨t582,t583⟩:S75)]:List (S75)))=y584 at H;have Ny584:=ak hy584.symm;clear hy584;try rw [Option.bind_some] at H
 simp only[Option.some.injEq,Prod.mk.injEq] at H
 obtain⟨rfl,rfl,rfl⟩:=H
 go_enter Try.func103,Try.ntmps103
 go_wp2_with (first|((with_reducible refine gate_callee (f:=49) rfl ?_);refine Hd.gl_ 8 Try.func49 #[.pointer (some ⟨g,0,none⟩),.int .i64 8] ?_;(with_reducible refine(spec_l1Below.calls g s0_0 s0_1 s0_2 8 t537 t538 t539 w0 _ ?side1 ?side2 A2.out).mono ?_);(case side1=>exact z1_);(case side2=>exact z2_);rintro e w44 ⟨rfl,hi,hb,hk⟩;refine⟨_,rfl,?_⟩;replace HK:=z218_;replace HB:=ak (hb);replace HI0:=ak (hi);clear hb hk hi)|((with_reducible refine gate_callee (f:=49) rfl ?_);refine Hd.gl_ 10 Try.func49 #[.pointer (some ⟨g,0,none⟩),.int .i64 8] ?_;(with_reducible refine(spec_l1Below.calls g s0_0 t538 t539 8 t540 t541 t542 w0 _ ?side1 ?side2 A3.out).mono ?_);(case side1=>exact z1_);(case side2=>exact z2_);rintro e w45 ⟨rfl,hi,hb,hk⟩;refine⟨_,rfl,?_⟩;replace HK:=z218_;replace HB:=ak (hb);replace HI0:=ak (hi);clear hb hk hi)|((with_reducible refine gate_callee (f:=49) rfl ?_);refine Hd.gl_ 12 Try.func49 #[.pointer (some ⟨g,0,none⟩),.int .i64 6] ?_;(with_reducible refine(spec_l1Below.calls g s0_0 t541 t542 6 t543 t544 t545 w0 _ ?side1 ?side2 A4.out).mono ?_);(case side1=>exact z1_);(case side2=>exact z2_);rintro e w46 ⟨rfl,hi,hb,hk⟩;refine⟨_,rfl,?_⟩;replace HK:=z218_;replace HB:=ak (hb);replace HI0:=ak (hi);clear hb hk hi)|((with_reducible refine gate_callee (f:=49) rfl ?_);refine Hd.gl_ 15 Try.func49 #[.pointer (some ⟨g,0,none⟩),.int .i64 6] ?_;(with_reducible refine(spec_l1Below.calls g s0_0 t544 t545 6 t546 t547 t548 w0 _ ?side1 ?side2 A5.out).mono ?_);(case side1=>exact z1_);(case side2=>exact z2_);rintro e w47 ⟨rfl,hi,hb,hk⟩;refine⟨_,rfl,?_⟩;replace HK:=z218_;replace HB:=ak (hb);replace HI0:=ak (hi);clear hb hk hi)|((with_reducible refine gate_callee (f:=49) rfl ?_);refine Hd.gl_ 18 Try.func49 #[.pointer (some ⟨g,0,none⟩),.int .i64 4] ?_;(with_reducible refine(spec_l1Below.calls g s0_0 t547 t548 4 t549 t550 t551 w0 _ ?side1 ?side2 A6.out).mono ?_);(case side1=>exact z1_);(case side2=>exact z2_);rintro e w48 ⟨rfl,hi,hb,hk⟩;refine⟨_,rfl,?_⟩;replace HK:=z218_;replace HB:=ak (hb);replace HI0:=ak (hi);clear hb hk hi)|((with_reducible refine gate_callee (f:=112) rfl ?_);refine Hd.gl_ 62 Try.func112 #[.int .i64 t537,.int .i64 t540] ?_;(with_reducible refine(spec_l7P.calls t537 t540 t572 t573 _ A38.out).mono ?_);rintro e w49 ⟨rfl,hb⟩;refine⟨_,rfl,?_⟩;replace HK:=z217_;replace HB:=z225_;replace HI0:=z224_;clear hb)|((with_reducible refine gate_callee (f:=112) rfl ?_);refine Hd.gl_ 68 Try.func112 #[.int .i64 (wrap64 (t537+(wrap64 (2*(wrap64 (2+t543)))))),.int .i64 t540] ?_;(with_reducible refine(spec_l7P.calls (wrap64 (t537+(wrap64 (2*(wrap64 (2+t543)))))) t540 t574 t575 _ A39.out).mono ?_);rintro e w50 ⟨rfl,hb⟩;refine⟨_,rfl,?_⟩;replace HK:=z217_;replace HB:=z225_;replace HI0:=z224_;clear hb)|((with_reducible refine gate_callee (f:=112) rfl ?_);refine Hd.gl_ 76 Try.func112 #[.int .i64 (wrap64 (t537+(wrap64 (2*(wrap64 (2+t543)))))),.int .i64 (wrap64 (t540+(wrap64 (2+t546))))] ?_;(with_reducible refine(spec_l7P.calls (wrap64 (t537+(wrap64 (2*(wrap64 (2+t543)))))) (wrap64 (t540+(wrap64 (2+t546)))) t576 t577 _ A40.out).mono ?_);rintro e w51 ⟨rfl,hb⟩;refine⟨_,rfl,?_⟩;replace HK:=z217_;replace HB:=z225_;replace HI0:=z224_;clear hb)|((with_reducible refine gate_callee (f:=112) rfl ?_);refine Hd.gl_ 83 Try.func112 #[.int .i64 (wrap64 (t537+(wrap64 (2+t543)))),.int .i64 (wrap64 (t540+(wrap64 (2+t546))))] ?_;(with_reducible refine(spec_l7P.calls (wrap64 (t537+(wrap64 (2+t543)))) (wrap64 (t540+(wrap64 (2+t546)))) t578 t579 _ A41.out).mono ?_);rintro e w52 ⟨rfl,hb⟩;refine⟨_,rfl,?_⟩;replace HK:=z217_;replace HB:=z225_;replace HI0:=z224_;clear hb)|((with_reducible refine gate_callee (f:=112) rfl ?_);refine Hd.gl_ 91 Try.func112 #[.int .i64 (wrap64 (t537+(wrap64 (2+t543)))),.int .i64 (wrap64 (t540+(wrap64 (2*(wrap64 (2+t546))))))] ?_;(with_reducible refine(spec_l7P.calls (wrap64 (t537+(wrap64 (2+t543)))) (wrap64 (t540+(wrap64 (2*(wrap64 (2+t546)))))) t580 t581 _ A42.out).mono ?_);rintro e w53 ⟨rfl,hb⟩;refine⟨_,rfl,?_⟩;replace HK:=z217_;replace HB:=z225_;replace HI0:=z224_;clear hb)|((with_reducible refine gate_callee (f:=112) rfl ?_);refine Hd.gl_ 97 Try.func112 #[.int .i64 t537,.int .i64 (wrap64 (t540+(wrap64 (2*(wrap64 (2+t546))))))] ?_;(with_reducible refine(spec_l7P.calls t537 (wrap64 (t540+(wrap64 (2*(wrap64 (2+t546)))))) t582 t583 _ A43.out).mono ?_);rintro e w54 ⟨rfl,hb⟩;refine⟨_,rfl,?_⟩;replace HK:=z217_;replace HB:=z225_;replace HI0:=z224_;clear hb)|((with_reducible refine gate_dst (N:=98) rfl ?_);refine Kd.R_lit k75 _ 75 ?hg (N:=98) ?hd (xs:=([(⟨t572,t573⟩:S75),(⟨t574,t575⟩:S75),(⟨t576,t577⟩:S75),(⟨t578,t579⟩:S75),(⟨t580,t581⟩:S75),(⟨t582,t583⟩:S75)]:List (S75))) (inner:=[.int .i64 t572,.int .i64 t573,.int .i64 t574,.int .i64 t575,.int .i64 t576,.int .i64 t577,.int .i64 t578,.int .i64 t579,.int .i64 t580,.int .i64 t581,.int .i64 t582,.int .i64 t583]) (ok:=fun _=>True) (okp:=fun _=>True) ?hr ?hp (fun _ hk=>hk) trivial (Below.refl _ _) (Nat.le_refl _) (by simp) ?_;(case hd=>rfl);(case hg=>rfl);(case hr=>exact z39_);(case hp=>exact(Reps.c2 (show Kd.M k75 _ _ _ (⟨t572,t573⟩:S75) [.int .i64 t572,.int .i64 t573] from (k75_mkM _ _ _ (⟨t572,t573⟩:S75) )) (Reps.c2 (show Kd.M k75 _ _ _ (⟨t574,t575⟩:S75) [.int .i64 t574,.int .i64 t575] from (k75_mkM _ _ _ (⟨t574,t575⟩:S75) )) (Reps.c2 (show Kd.M k75 _ _ _ (⟨t576,t577⟩:S75) [.int .i64 t576,.int .i64 t577] from (k75_mkM _ _ _ (⟨t576,t577⟩:S75) )) (Reps.c2 (show Kd.M k75 _ _ _ (⟨t578,t579⟩:S75) [.int .i64 t578,.int .i64 t579] from (k75_mkM _ _ _ (⟨t578,t579⟩:S75) )) (Reps.c2 (show Kd.M k75 _ _ _ (⟨t580,t581⟩:S75) [.int .i64 t580,.int .i64 t581] from (k75_mkM _ _ _ (⟨t580,t581⟩:S75) )) (Reps.c2 (show Kd.M k75 _ _ _ (⟨t582,t583⟩:S75) [.int .i64 t582,.int .i64 t583] from (k75_mkM _ _ _ (⟨t582,t583⟩:S75) )) (Reps.none _ _))))))));intro v585 w55 ho56 hb hg_ hnew_;clear hg_ hnew_;(first|rw [← Ny584.out] at ho56|(simp only[Int.reduceToNat] at ho56;rw [← Ny584.out] at ho56));have HO586:=ak (Kd.R_lower ho56 (keep_size (w:=w) (g:=g) (row:=none) z0_));replace HK:=z217_;replace HB:=z225_;replace HI0:=z224_;clear hb ho56))
 go_ret
 exact⟨_,Hd.e_,z12_ HO586,z1_,z2_,z0_⟩
def spec_l9Draw.f (k:Nat) (s0_0:List Int) (s0_1:Int) (s0_2:Int) (a1:Int):Option (Int × Int × Int × ByteArray × (List (S75)) × Int × Int):=(spec_l1Below.f s0_0 s0_1 s0_2 3).bind fun bt599=>((spec_l1Below.f s0_0 bt599.2.1 bt599.2.2 6).bind fun bt602=>((spec_l9Name.f s0_0 bt602.2.1 bt602.2.2).bind fun bt605=>(if (wrap64 (1+bt599.1))=1 then ((spec_l4Draw.f s0_0 bt605.2.1 bt605.2.2).bind fun bt609=>(some (a1,wrap64 (1+bt599.1),bt602.1,bt605.1,(([(⟨bt609.1,bt609.2.1⟩:S75)]:List (S75))),bt609.2.2.1,bt609.2.2.2))) else (if (wrap64 (1+bt599.1))=2 then ((spec_l6Draw.f k s0_0 bt605.2.1 bt605.2.2).bind fun bt616=>(some (a1,wrap64 (1+bt599.1),bt602.1,bt605.1,bt616.1,bt616.2.1,bt616.2.2))) else ((spec_l7Draw.f s0_0 bt605.2.1 bt605.2.2).bind fun bt621=>(some (a1,wrap64 (1+bt599.1),bt602.1,bt605.1,bt621.1,bt621.2.1,bt621.2.2)))))))
theorem spec_l9Draw.calls (k:Nat) (g:Nat) (s0_0:List Int) (s0_1:Int) (s0_2:Int) (a1:Int) (r1:Int) (r2:Int) (r3:Int) (r4:ByteArray) (r5:List (S75)) (r6:Int) (r7:Int) (w0 w:World) (hI:IsS89 w0 w g s0_0 s0_1 s0_2) (hB:Below w0.heap.size w0 w) (h:spec_l9Draw.f k s0_0 s0_1 s0_2 a1=some (r1,r2,r3,r4,r5,r6,r7)) :
  Calls Try.prog 85 #[.pointer (some ⟨g,0,none⟩),.int .i64 a1] w fun e w'=>∃ v4_:Value,e = .returned (.agg #[.int .i64 r1,.int .i64 r2,.int .i64 r3,.string r4,v4_])∧Kd.R k75 75 w' w.heap.size (fun _=>True) v4_ r5∧IsS89 w0 w' g s0_0 r6 r7∧Below w0.heap.size w0 w'∧KeepBut w w' g none:=by
 have hu34:=Try.underlying34
 have HI0:=ak hI
 have HK:=z115_
 have HL:=ak hB.size
 clear hI
 have HW0:=ak hB.size
 have HB:=ak hB
 clear hB
 have H:=h;clear h;unfold spec_l9Draw.f at H
 replace H:=Hd.bd_ H;obtain⟨⟨t599,t600,t601⟩,A3,H⟩:=H;dsimp only at H
 replace H:=Hd.bd_ H;obtain⟨⟨t602,t603,t604⟩,A4,H⟩:=H;dsimp only at H
 replace H:=Hd.bd_ H;obtain⟨⟨t605,t606,t607⟩,A5,H⟩:=H;dsimp only at H
 by_cases c6:(wrap64 (1+t599))=1
 ·
  rw [if_pos c6] at H
  have c6b0:=beq_iff_eq.mpr c6
  have c6b1:=bne_eq_false_iff_eq.mpr c6
  clear c6
  replace H:=Hd.bd_ H;obtain⟨⟨t609,t610,t611,t612⟩,A7,H⟩:=H;dsimp only at H
  generalize hy613:(([(⟨t609,t610⟩:S75)]:List (S75)))=y613 at H;have Ny613:=ak hy613.symm;clear hy613;try rw [Option.bind_some] at H
  simp only[Option.some.injEq,Prod.mk.injEq] at H
  obtain⟨rfl,rfl,rfl,rfl,rfl,rfl,rfl⟩:=H
  go_enter Try.func85,Try.ntmps85
  go_wp2_with (first|((with_reducible refine gate_dst (N:=4) rfl ?_);refine Hd.box_ 4 (#[.int .i64 0,.int .i64 0,.int .i64 0,.string (⟨#[]⟩:ByteArray),.slice none 0 0]) 34 ?_;intro gb598 hg w8 hbox hb;replace HB:=z225_;have BK598:=ak (hbox);have GW598:=ak ((z221_:w.heap.size≤gb598));have GE598:=z288_;replace HK:=z217_;have NB0_598:=ak ((z32_:g≠gb598));have NB598_0:=ak ((z33_:gb598≠g));replace HI0:=z224_;clear hb hbox hg)|((with_reducible refine gate_callee (f:=49) rfl ?_);refine Hd.gl_ 8 Try.func49 #[.pointer (some ⟨g,0,none⟩),.int .i64 3] ?_;(with_reducible refine(spec_l1Below.calls g s0_0 s0_1 s0_2 3 t599 t600 t601 w0 _ ?side1 ?side2 A3.out).mono ?_);(case side1=>exact z7_ NB0_598);(case side2=>exact z9_ GE598);rintro e w9 ⟨rfl,hi,hb,hk⟩;refine⟨_,rfl,?_⟩;replace BK598:=z47_ NB598_0;replace HK:=z237_;replace HB:=ak (hb);replace HI0:=ak (hi);clear hb hk hi)|((with_reducible refine gate_callee (f:=49) rfl ?_);refine Hd.gl_ 11 Try.func49 #[.pointer (some ⟨g,0,none⟩),.int .i64 6] ?_;(with_reducible refine(spec_l1Below.calls g s0_0 t600 t601 6 t602 t603 t604 w0 _ ?side1 ?side2 A4.out).mono ?_);(case side1=>exact z7_ NB0_598);(case side2=>exact z9_ GE598);rintro e w10 ⟨rfl,hi,hb,hk⟩;refine⟨_,rfl,?_⟩;replace BK598:=z47_ NB598_0;replace HK:=z237_;replace HB:=ak (hb);replace HI0:=ak (hi);clear hb hk hi)|((with_reducible refine gate_callee (f:=101) rfl ?_);refine Hd.gl_ 13 Try.func101 #[.pointer (some ⟨g,0,none⟩)] ?_;(with_reducible refine(spec_l9Name.calls g s0_0 t603 t604 t605 t606 t607 w0 _ ?side1 ?side2 A5.out).mono ?_);(case side1=>exact z7_ NB0_598);(case side2=>exact z9_ GE598);rintro e w11 ⟨rfl,hi,hb,hk⟩;refine⟨_,rfl,?_⟩;replace BK598:=z47_ NB598_0;replace HK:=z237_;replace HB:=ak (hb);replace HI0:=ak (hi);clear hb hk hi)|((with_reducible refine gate_dst (N:=5) rfl ?_);refine Hd.box_ 5 (#[.int .i64 0,.int .i64 0,.int .i64 0,.string (⟨#[]⟩:ByteArray),.slice none 0 0]) 34 ?_;intro gb608 hg w12 hbox hb;replace HB:=ak (below_step (z9_ GE598) hb);have BK608:=ak (hbox);have GW608:=ak ((z238_:w.heap.size≤gb608));have GE608:=z289_;replace HK:=z280_;have NB598_608:=ak ((Hd.lt_ BK598 hg));have NB608_598:=ak ((Hd.gt_ BK598 hg));replace BK598:=ak (Hd.kb_ BK598 hb);have NB0_608:=ak ((z84_ NB0_598:g≠gb608));have NB608_0:=ak ((z85_ NB0_598:gb608≠g));replace HI0:=ak (IsS89.below (z7_ NB0_598) hb);clear hb hbox hg;have hnb13:=NB608_598.out;have hnc13:=NB598_608.out;have hnb14:=NB608_0.out;have hnc14:=NB0_608.out;obtain⟨hcz15_0,hcz15_1,hcz15_2,hcz15_3,hcz15_4⟩:=Hd.c5_ BK608.out;obtain⟨hfz15_0,hfz15_1,hfz15_2,hfz15_3,hfz15_4⟩:=Hd.f5_ BK608.out)|((with_reducible refine gate_callee (f:=102) rfl ?_);refine Hd.gl_ 23 Try.func102 #[.pointer (some ⟨g,0,none⟩)] ?_;(with_reducible refine(spec_l4Draw.calls g s0_0 t606 t607 t609 t610 t611 t612 w0 _ ?side1 ?side2 A7.out).mono ?_);(case side1=>exact z10_ NB0_598 NB0_608);(case side2=>exact z11_ GE598 GE608);rintro e w16 ⟨rfl,hi,hb,hk⟩;refine⟨_,rfl,?_⟩;replace BK598:=z242_ NB598_0;replace BK608:=z243_ NB608_0;replace HK:=ak (KeepBut.trans (z8_ GW598 GW608) hk (.inl rfl));replace HB:=ak (hb);replace HI0:=ak (hi);clear hb hk hi)|((with_reducible refine gate_dst (N:=24) rfl ?_);refine Kd.R_lit k75 _ 75 ?hg (N:=24) ?hd (xs:=([(⟨t609,t610⟩:S75)]:List (S75))) (inner:=[.int .i64 t609,.int .i64 t610]) (ok:=fun _=>True) (okp:=fun _=>True) ?hr ?hp (fun _ hk=>hk) trivial (Below.refl _ _) (Nat.le_refl _) (by simp) ?_;(case hd=>rfl);(case hg=>rfl);(case hr=>exact z39_);(case hp=>exact(Reps.c2 (show Kd.M k75 _ _ _ (⟨t609,t610⟩:S75) [.int .i64 t609,.int .i64 t610] from (k75_mkM _ _ _ (⟨t609,t610⟩:S75) )) (Reps.none _ _)));intro v614 w17 ho18 hb hg_ hnew_;clear hg_ hnew_;(first|rw [← Ny613.out] at ho18|(simp only[Int.reduceToNat] at ho18;rw [← Ny613.out] at ho18));have HO615:=ak (Kd.R_lower ho18 (keep_size (w:=w) (g:=g) (row:=none) (z8_ GW598 GW608)));replace BK598:=ak (Hd.kb_ BK598 hb);replace BK608:=ak (Hd.kb_ BK608 hb);replace HK:=ak (KeepBut.trans (z8_ GW598 GW608) (KeepBut.of_below hb g none) (.inl rfl));replace HB:=ak (below_step (z11_ GE598 GE608) hb);replace HI0:=ak (IsS89.below (z10_ NB0_598 NB0_608) hb);clear hb ho18;obtain⟨Ao19,co19,eo19⟩:=Kd.R_slice HO615.out;subst eo19;obtain⟨hcz20_0,hcz20_1,hcz20_2,hcz20_3,hcz20_4⟩:=Hd.c5_ BK608.out;obtain⟨hfz20_0,hfz20_1,hfz20_2,hfz20_3,hfz20_4⟩:=Hd.f5_ BK608.out;have hnb21:=NB598_0.out;have hnc21:=NB0_598.out;obtain⟨hcz22_0,hcz22_1,hcz22_2,hcz22_3,hcz22_4⟩:=Hd.c5_ BK598.out;obtain⟨hfz22_0,hfz22_1,hfz22_2,hfz22_3,hfz22_4⟩:=Hd.f5_ BK598.out))
  refine bodyPost_ret (results_cell_row rfl _ _ gb598 34 #[.int .i64 a1,.int .i64 (wrap64 (1+t599)),.int .i64 t602,.string t605,.slice Ao19 y613.length co19] (0,0) _ rfl (z26_ NB598_608 BK598) Try.underlying34 rfl (by kernel_rfl)) rfl ?_
  exact⟨_,Hd.e_,by (with_reducible repeat (first|apply Kd.R_alloc|apply Kd.R_drewN|apply Kd.R_drew));exact Kd.R_mono (Kd.R_far (p:=⟨gb598,4,none⟩) (Kd.R_far (p:=⟨gb598,3,none⟩) (Kd.R_far (p:=⟨gb598,2,none⟩) (Kd.R_far (p:=⟨gb598,1,none⟩) (Kd.R_far (p:=⟨gb598,0,none⟩) (Kd.R_far (p:=⟨gb608,4,none⟩) (Kd.R_types (Kd.R_types HO615.out BK608.out (by decide)) BK598.out (by decide)) (fun _ hk=>hk.1.2) (.slice Ao19 y613.length co19)) (fun _ hk=>hk.2) (.int .i64 a1)) (fun _ hk=>hk.2) (.int .i64 (wrap64 (1+t599)))) (fun _ hk=>hk.2) (.int .i64 t602)) (fun _ hk=>hk.2) (.string t605)) (fun _ hk=>hk.2) (.slice Ao19 y613.length co19)) (fun _ hk=>trivial),z10_ NB0_598 NB0_608,z11_ GE598 GE608,z8_ GW598 GW608⟩
 rw [if_neg c6] at H
 have c6b0:=beq_eq_false_iff_ne.mpr c6
 have c6b1:=bne_iff_ne.mpr c6
 by_cases c23:(wrap64 (1+t599))=2;rotate_left
 ·
  rw [if_neg c23] at H
  have c23b0:=beq_eq_false_iff_ne.mpr c23
  have c23b1:=bne_iff_ne.mpr c23
  replace H:=Hd.bd_ H;obtain⟨⟨t621,t624,t625⟩,A38,H⟩:=H;dsimp only at H
  simp only[Option.some.injEq,Prod.mk.injEq] at H
  obtain⟨rfl,rfl,rfl,rfl,rfl,rfl,rfl⟩:=H
  go_enter Try.func85,Try.ntmps85
  go_wp2_with (first|((with_reducible refine gate_dst (N:=4) rfl ?_);refine Hd.box_ 4 (#[.int .i64 0,.int .i64 0,.int .i64 0,.string (⟨#[]⟩:ByteArray),.slice none 0 0]) 34 ?_;intro gb598 hg w39 hbox hb;replace HB:=z225_;have BK598:=ak (hbox);have GW598:=ak ((z221_:w.heap.size≤gb598));have GE598:=z288_;replace HK:=z217_;have NB0_598:=ak ((z32_:g≠gb598));have NB598_0:=ak ((z33_:gb598≠g));replace HI0:=z224_;clear hb hbox hg)|((with_reducible refine gate_callee (f:=49) rfl ?_);refine Hd.gl_ 8 Try.func49 #[.pointer (some ⟨g,0,none⟩),.int .i64 3] ?_;(with_reducible refine(spec_l1Below.calls g s0_0 s0_1 s0_2 3 t599 t600 t601 w0 _ ?side1 ?side2 A3.out).mono ?_);(case side1=>exact z7_ NB0_598);(case side2=>exact z9_ GE598);rintro e w40 ⟨rfl,hi,hb,hk⟩;refine⟨_,rfl,?_⟩;replace BK598:=z47_ NB598_0;replace HK:=z237_;replace HB:=ak (hb);replace HI0:=ak (hi);clear hb hk hi)|((with_reducible refine gate_callee (f:=49) rfl ?_);refine Hd.gl_ 11 Try.func49 #[.pointer (some ⟨g,0,none⟩),.int .i64 6] ?_;(with_reducible refine(spec_l1Below.calls g s0_0 t600 t601 6 t602 t603 t604 w0 _ ?side1 ?side2 A4.out).mono ?_);(case side1=>exact z7_ NB0_598);(case side2=>exact z9_ GE598);rintro e w41 ⟨rfl,hi,hb,hk⟩;refine⟨_,rfl,?_⟩;replace BK598:=z47_ NB598_0;replace HK:=z237_;replace HB:=ak (hb);replace HI0:=ak (hi);clear hb hk hi)|((with_reducible refine gate_callee (f:=101) rfl ?_);refine Hd.gl_ 13 Try.func101 #[.pointer (some ⟨g,0,none⟩)] ?_;(with_reducible refine(spec_l9Name.calls g s0_0 t603 t604 t605 t606 t607 w0 _ ?side1 ?side2 A5.out).mono ?_);(case side1=>exact z7_ NB0_598);(case side2=>exact z9_ GE598);rintro e w42 ⟨rfl,hi,hb,hk⟩;refine⟨_,rfl,?_⟩;replace BK598:=z47_ NB598_0;replace HK:=z237_;replace HB:=ak (hb);replace HI0:=ak (hi);clear hb hk hi)|((with_reducible refine gate_dst (N:=5) rfl ?_);refine Hd.box_ 5 (#[.int .i64 0,.int .i64 0,.int .i64 0,.string (⟨#[]⟩:ByteArray),.slice none 0 0]) 34 ?_;intro gb608 hg w43 hbox hb;replace HB:=ak (below_step (z9_ GE598) hb);have BK608:=ak (hbox);have GW608:=ak ((z238_:w.heap.size≤gb608));have GE608:=z289_;replace HK:=z280_;have NB598_608:=ak ((Hd.lt_ BK598 hg));have NB608_598:=ak ((Hd.gt_ BK598 hg));replace BK598:=ak (Hd.kb_ BK598 hb);have NB0_608:=ak ((z84_ NB0_598:g≠gb608));have NB608_0:=ak ((z85_ NB0_598:gb608≠g));replace HI0:=ak (IsS89.below (z7_ NB0_598) hb);clear hb hbox hg;have hnb44:=NB608_598.out;have hnc44:=NB598_608.out;have hnb45:=NB608_0.out;have hnc45:=NB0_608.out;obtain⟨hcz46_0,hcz46_1,hcz46_2,hcz46_3,hcz46_4⟩:=Hd.c5_ BK608.out;obtain⟨hfz46_0,hfz46_1,hfz46_2,hfz46_3,hfz46_4⟩:=Hd.f5_ BK608.out)|((with_reducible refine gate_callee (f:=103) rfl ?_);refine Hd.gl_ 18 Try.func103 #[.pointer (some ⟨g,0,none⟩)] ?_;(with_reducible refine(spec_l7Draw.calls g s0_0 t606 t607 t621 t624 t625 w0 _ ?side1 ?side2 A38.out).mono ?_);(case side1=>exact z10_ NB0_598 NB0_608);(case side2=>exact z11_ GE598 GE608);rintro e w47 ⟨v622,rfl,ho0,hi,hb,hk⟩;refine⟨_,rfl,?_⟩;replace BK598:=z242_ NB598_0;replace BK608:=z243_ NB608_0;have HO623:=ak (Kd.R_lower ho0 (keep_size (w:=w) (g:=g) (row:=none) (z8_ GW598 GW608)));replace HK:=ak (KeepBut.trans (z8_ GW598 GW608) hk (.inl rfl));replace HB:=ak (hb);replace HI0:=ak (hi);clear hb hk hi ho0;obtain⟨Ao48,co48,eo48⟩:=Kd.R_slice HO623.out;subst eo48;obtain⟨hcz49_0,hcz49_1,hcz49_2,hcz49_3,hcz49_4⟩:=Hd.c5_ BK608.out;obtain⟨hfz49_0,hfz49_1,hfz49_2,hfz49_3,hfz49_4⟩:=Hd.f5_ BK608.out;have hnb50:=NB598_0.out;have hnc50:=NB0_598.out;obtain⟨hcz51_0,hcz51_1,hcz51_2,hcz51_3,hcz51_4⟩:=Hd.c5_ BK598.out;obtain⟨hfz51_0,hfz51_1,hfz51_2,hfz51_3,hfz51_4⟩:=Hd.f5_ BK598.out))
  refine bodyPost_ret (results_cell_row rfl _ _ gb598 34 #[.int .i64 a1,.int .i64 (wrap64 (1+t599)),.int .i64 t602,.string t605,.slice Ao48 t621.length co48] (0,0) _ rfl (z26_ NB598_608 BK598) Try.underlying34 rfl (by kernel_rfl)) rfl ?_
  exact⟨_,Hd.e_,by (with_reducible repeat (first|apply Kd.R_alloc|apply Kd.R_drewN|apply Kd.R_drew));exact Kd.R_mono (Kd.R_far (p:=⟨gb598,4,none⟩) (Kd.R_far (p:=⟨gb598,3,none⟩) (Kd.R_far (p:=⟨gb598,2,none⟩) (Kd.R_far (p:=⟨gb598,1,none⟩) (Kd.R_far (p:=⟨gb598,0,none⟩) (Kd.R_far (p:=⟨gb608,4,none⟩) (Kd.R_types (Kd.R_types HO623.out BK608.out (by decide)) BK598.out (by decide)) (fun _ hk=>hk.1.2) (.slice Ao48 t621.length co48)) (fun _ hk=>hk.2) (.int .i64 a1)) (fun _ hk=>hk.2) (.int .i64 (wrap64 (1+t599)))) (fun _ hk=>hk.2) (.int .i64 t602)) (fun _ hk=>hk.2) (.string t605)) (fun _ hk=>hk.2) (.slice Ao48 t621.length co48)) (fun _ hk=>trivial),z10_ NB0_598 NB0_608,z11_ GE598 GE608,z8_ GW598 GW608⟩
 rw [if_pos c23] at H
 have c23b0:=beq_iff_eq.mpr c23
 have c23b1:=bne_eq_false_iff_eq.mpr c23
 clear c23
 replace H:=Hd.bd_ H;obtain⟨⟨t616,t619,t620⟩,A24,H⟩:=H;dsimp only at H
 simp only[Option.some.injEq,Prod.mk.injEq] at H
 obtain⟨rfl,rfl,rfl,rfl,rfl,rfl,rfl⟩:=H
 go_enter Try.func85,Try.ntmps85
 go_wp2_with (first|((with_reducible refine gate_dst (N:=4) rfl ?_);refine Hd.box_ 4 (#[.int .i64 0,.int .i64 0,.int .i64 0,.string (⟨#[]⟩:ByteArray),.slice none 0 0]) 34 ?_;intro gb598 hg w25 hbox hb;replace HB:=z225_;have BK598:=ak (hbox);have GW598:=ak ((z221_:w.heap.size≤gb598));have GE598:=z288_;replace HK:=z217_;have NB0_598:=ak ((z32_:g≠gb598));have NB598_0:=ak ((z33_:gb598≠g));replace HI0:=z224_;clear hb hbox hg)|((with_reducible refine gate_callee (f:=49) rfl ?_);refine Hd.gl_ 8 Try.func49 #[.pointer (some ⟨g,0,none⟩),.int .i64 3] ?_;(with_reducible refine(spec_l1Below.calls g s0_0 s0_1 s0_2 3 t599 t600 t601 w0 _ ?side1 ?side2 A3.out).mono ?_);(case side1=>exact z7_ NB0_598);(case side2=>exact z9_ GE598);rintro e w26 ⟨rfl,hi,hb,hk⟩;refine⟨_,rfl,?_⟩;replace BK598:=z47_ NB598_0;replace HK:=z237_;replace HB:=ak (hb);replace HI0:=ak (hi);clear hb hk hi)|((with_reducible refine gate_callee (f:=49) rfl ?_);refine Hd.gl_ 11 Try.func49 #[.pointer (some ⟨g,0,none⟩),.int .i64 6] ?_;(with_reducible refine(spec_l1Below.calls g s0_0 t600 t601 6 t602 t603 t604 w0 _ ?side1 ?side2 A4.out).mono ?_);(case side1=>exact z7_ NB0_598);(case side2=>exact z9_ GE598);rintro e w27 ⟨rfl,hi,hb,hk⟩;refine⟨_,rfl,?_⟩;replace BK598:=z47_ NB598_0;replace HK:=z237_;replace HB:=ak (hb);replace HI0:=ak (hi);clear hb hk hi)|((with_reducible refine gate_callee (f:=101) rfl ?_);refine Hd.gl_ 13 Try.func101 #[.pointer (some ⟨g,0,none⟩)] ?_;(with_reducible refine(spec_l9Name.calls g s0_0 t603 t604 t605 t606 t607 w0 _ ?side1 ?side2 A5.out).mono ?_);(case side1=>exact z7_ NB0_598);(case side2=>exact z9_ GE598);rintro e w28 ⟨rfl,hi,hb,hk⟩;refine⟨_,rfl,?_⟩;replace BK598:=z47_ NB598_0;replace HK:=z237_;replace HB:=ak (hb);replace HI0:=ak (hi);clear hb hk hi)|((with_reducible refine gate_dst (N:=5) rfl ?_);refine Hd.box_ 5 (#[.int .i64 0,.int .i64 0,.int .i64 0,.string (⟨#[]⟩:ByteArray),.slice none 0 0]) 34 ?_;intro gb608 hg w29 hbox hb;replace HB:=ak (below_step (z9_ GE598) hb);have BK608:=ak (hbox);have GW608:=ak ((z238_:w.heap.size≤gb608));have GE608:=z289_;replace HK:=z280_;have NB598_608:=ak ((Hd.lt_ BK598 hg));have NB608_598:=ak ((Hd.gt_ BK598 hg));replace BK598:=ak (Hd.kb_ BK598 hb);have NB0_608:=ak ((z84_ NB0_598:g≠gb608));have NB608_0:=ak ((z85_ NB0_598:gb608≠g));replace HI0:=ak (IsS89.below (z7_ NB0_598) hb);clear hb hbox hg;have hnb30:=NB608_598.out;have hnc30:=NB598_608.out;have hnb31:=NB608_0.out;have hnc31:=NB0_608.out;obtain⟨hcz32_0,hcz32_1,hcz32_2,hcz32_3,hcz32_4⟩:=Hd.c5_ BK608.out;obtain⟨hfz32_0,hfz32_1,hfz32_2,hfz32_3,hfz32_4⟩:=Hd.f5_ BK608.out)|((with_reducible refine gate_callee (f:=86) rfl ?_);refine Hd.gl_ 29 Try.func86 #[.pointer (some ⟨g,0,none⟩)] ?_;(with_reducible refine(spec_l6Draw.calls k g s0_0 t606 t607 t616 t619 t620 w0 _ ?side1 ?side2 A24.out).mono ?_);(case side1=>exact z10_ NB0_598 NB0_608);(case side2=>exact z11_ GE598 GE608);rintro e w33 ⟨v617,rfl,ho0,hi,hb,hk⟩;refine⟨_,rfl,?_⟩;replace BK598:=z242_ NB598_0;replace BK608:=z243_ NB608_0;have HO618:=ak (Kd.R_lower ho0 (keep_size (w:=w) (g:=g) (row:=none) (z8_ GW598 GW608)));replace HK:=ak (KeepBut.trans (z8_ GW598 GW608) hk (.inl rfl));replace HB:=ak (hb);replace HI0:=ak (hi);clear hb hk hi ho0;obtain⟨Ao34,co34,eo34⟩:=Kd.R_slice HO618.out;subst eo34;obtain⟨hcz35_0,hcz35_1,hcz35_2,hcz35_3,hcz35_4⟩:=Hd.c5_ BK608.out;obtain⟨hfz35_0,hfz35_1,hfz35_2,hfz35_3,hfz35_4⟩:=Hd.f5_ BK608.out;have hnb36:=NB598_0.out;have hnc36:=NB0_598.out;obtain⟨hcz37_0,hcz37_1,hcz37_2,hcz37_3,hcz37_4⟩:=Hd.c5_ BK598.out;obtain⟨hfz37_0,hfz37_1,hfz37_2,hfz37_3,hfz37_4⟩:=Hd.f5_ BK598.out))
 refine bodyPost_ret (results_cell_row rfl _ _ gb598 34 #[.int .i64 a1,.int .i64 (wrap64 (1+t599)),.int .i64 t602,.string t605,.slice Ao34 t616.length co34] (0,0) _ rfl (z26_ NB598_608 BK598) Try.underlying34 rfl (by kernel_rfl)) rfl ?_
 exact⟨_,Hd.e_,by (with_reducible repeat (first|apply Kd.R_alloc|apply Kd.R_drewN|apply Kd.R_drew));exact Kd.R_mono (Kd.R_far (p:=⟨gb598,4,none⟩) (Kd.R_far (p:=⟨gb598,3,none⟩) (Kd.R_far (p:=⟨gb598,2,none⟩) (Kd.R_far (p:=⟨gb598,1,none⟩) (Kd.R_far (p:=⟨gb598,0,none⟩) (Kd.R_far (p:=⟨gb608,4,none⟩) (Kd.R_types (Kd.R_types HO618.out BK608.out (by decide)) BK598.out (by decide)) (fun _ hk=>hk.1.2) (.slice Ao34 t616.length co34)) (fun _ hk=>hk.2) (.int .i64 a1)) (fun _ hk=>hk.2) (.int .i64 (wrap64 (1+t599)))) (fun _ hk=>hk.2) (.int .i64 t602)) (fun _ hk=>hk.2) (.string t605)) (fun _ hk=>hk.2) (.slice Ao34 t616.length co34)) (fun _ hk=>trivial),z10_ NB0_598 NB0_608,z11_ GE598 GE608,z8_ GW598 GW608⟩
def spec_l9Source.l0:Nat→List (S34)→Int→List Int→Int→Int→Option ((List (S34)) × Int × Int)
 | 0,_,_,_,_,_=>none
 | k+1,x3,x4,x1000,x1001,x1002=>(spec_l1Below.f x1000 x1001 x1002 6).bind fun bt629=>(if x4≤(wrap64 (1+bt629.1)) then ((spec_l9Draw.f k x1000 bt629.2.1 bt629.2.2 x4).bind fun bt632=>((spec_PutFeature.f k x3 bt632.1 bt632.2.1 bt632.2.2.1 bt632.2.2.2.1 bt632.2.2.2.2.1).bind fun bt641=>(spec_l9Source.l0 k bt641.1 (wrap64 (x4+1)) x1000 bt632.2.2.2.2.2.1 bt632.2.2.2.2.2.2))) else (some (x3,bt629.2.1,bt629.2.2)))
def spec_l9Source.f (k:Nat) (s0_0:List Int) (s0_1:Int) (s0_2:Int):Option ((List (S34)) × Int × Int):=spec_l9Source.l0 k (([]:List (S34))) 1 s0_0 s0_1 s0_2
theorem spec_l9Source.calls (k:Nat) (g:Nat) (s0_0:List Int) (s0_1:Int) (s0_2:Int) (r1:List (S34)) (r2:Int) (r3:Int) (w0 w:World) (hI:IsS89 w0 w g s0_0 s0_1 s0_2) (hB:Below w0.heap.size w0 w) (h:spec_l9Source.f k s0_0 s0_1 s0_2=some (r1,r2,r3)) :
  Calls Try.prog 66 #[.pointer (some ⟨g,0,none⟩)] w fun e w'=>∃ v0_:Value,e = .returned (v0_)∧Kd.N k34 34 w' w.heap.size (fun k_=>(w.heap.size≤k_)) v0_ r1∧IsS89 w0 w' g s0_0 r2 r3∧Below w0.heap.size w0 w'∧KeepBut w w' g none:=by
 have HI0:=ak hI
 have HK:=z115_
 have HL:=ak hB.size
 clear hI
 have HW0:=ak hB.size
 have HB:=ak hB
 clear hB
 have H:=h;clear h;unfold spec_l9Source.f at H
 generalize hy626:(([]:List (S34)))=y626 at H;have Ny626:=ak hy626.symm;clear hy626;try rw [Option.bind_some] at H
 have H':=ak H
 clear H
 go_enter Try.func66,Try.ntmps66
 go_wp2_with (first|((with_reducible refine gate_dst (N:=5) rfl ?_);refine Kd.N_lit k34 _ 34 ?hg (N':=5) ?hd (xs:=([]:List (S34))) (inner:=[]) (ok:=(fun k_=>(w.heap.size≤k_)∧k_≠g)) (okp:=(fun k_=>(w.heap.size≤k_)∧k_≠g)) ?hr ?hp (fun _ hk=>hk) ((show ∀ k_,w.heap.size≤k_→(fun k_=>(w.heap.size≤k_)∧k_≠g) k_ from fun k_ hk=>⟨(Nat.le_trans (keep_size (w:=w) (g:=g) (row:=none) z0_) hk),IsS89.fresh z1_ k_ hk⟩) _ (Nat.le_refl _)) (Below.refl _ _) (Nat.le_refl _) (by simp) ?_;(case hd=>rfl);(case hg=>rfl);(case hr=>exact z39_);(case hp=>exact z213_);intro v627 w2 ho3 hb hg_ hnew_;clear hg_ hnew_;(first|rw [← Ny626.out] at ho3|(simp only[Int.reduceToNat] at ho3;rw [← Ny626.out] at ho3));have HO628:=ak (Kd.N_lower ho3 (keep_size (w:=w) (g:=g) (row:=none) z0_));replace HK:=z217_;replace HB:=z225_;replace HI0:=z224_;clear hb ho3))
 go_loopg [3,4] k (fun kq v3 v4 w'=>∃ (x3_1:List (S34)) (x4_1:Int) (x1001_1:Int) (x1002_1:Int),v4 = .int .i64 x4_1∧Aside0 (spec_l9Source.l0 kq x3_1 x4_1 s0_0 x1001_1 x1002_1=some (r1,r2,r3))∧Aside0 (kq≤k)∧Aside0 (Kd.N k34 34 w' w.heap.size (fun k_=>(w.heap.size≤k_)∧k_≠g) v3 x3_1)∧Aside0 (IsS89 w0 w' g s0_0 x1001_1 x1002_1)∧Aside0 (KeepBut w w' g none)∧Aside0 (Below w0.heap.size w0 w'))
 case atStart=>exact⟨(y626),(1),(s0_1),(s0_2),z14_,H',⟨Nat.le_refl _⟩,⟨z3_ HO628⟩,⟨z1_⟩,⟨z0_⟩,⟨z2_⟩⟩
 case round =>
  clear H'
  obtain⟨x3_1,x4_1,x1001_1,x1002_1,rfl,HA,HK1,HO_3,HI0,HK,HB⟩:=hrel
  cases gk with
  | zero=>exact absurd HA.out (by simp [spec_l9Source.l0])
  | succ k1 =>
   have H:=HA.out
   clear HA
   simp only[spec_l9Source.l0] at H
   replace H:=Hd.bd_ H;obtain⟨⟨t629,t630,t631⟩,A4,H⟩:=H;dsimp only at H
   by_cases c5:x4_1≤(wrap64 (1+t629));rotate_left
   ·
    rw [if_neg c5] at H
    have c5b0:=decide_eq_false c5
    clear c5
    simp only[Option.some.injEq,Prod.mk.injEq] at H
    obtain⟨rfl,rfl,rfl⟩:=H
    go_wp2_with (first|((with_reducible refine gate_callee (f:=49) rfl ?_);refine Hd.gl_ 8 Try.func49 #[.pointer (some ⟨g,0,none⟩),.int .i64 6] ?_;(with_reducible refine(spec_l1Below.calls g s0_0 x1001_1 x1002_1 6 t629 t630 t631 w0 _ ?side1 ?side2 A4.out).mono ?_);(case side1=>exact z1_);(case side2=>exact z2_);rintro e w13 ⟨rfl,hi,hb,hk⟩;refine⟨_,rfl,?_⟩;replace HO_3:=z275_;replace HK:=z218_;replace HB:=ak (hb);replace HI0:=ak (hi);clear hb hk hi))
    go_ret
    exact⟨_,Hd.e_,z51_ HO_3,z1_,z2_,z0_⟩
   rw [if_pos c5] at H
   have c5b0:=decide_eq_true c5
   clear c5
   replace H:=Hd.bd_ H;obtain⟨⟨t632,t633,t634,t635,t636,t639,t640⟩,A6,H⟩:=H;dsimp only at H
   replace H:=Hd.bd_ H;obtain⟨⟨t641,t644⟩,A7,H⟩:=H;dsimp only at H
   have H':=ak H
   clear H
   go_wp2_with (first|((with_reducible refine gate_callee (f:=49) rfl ?_);refine Hd.gl_ 8 Try.func49 #[.pointer (some ⟨g,0,none⟩),.int .i64 6] ?_;(with_reducible refine(spec_l1Below.calls g s0_0 x1001_1 x1002_1 6 t629 t630 t631 w0 _ ?side1 ?side2 A4.out).mono ?_);(case side1=>exact z1_);(case side2=>exact z2_);rintro e w8 ⟨rfl,hi,hb,hk⟩;refine⟨_,rfl,?_⟩;replace HO_3:=z275_;replace HK:=z218_;replace HB:=ak (hb);replace HI0:=ak (hi);clear hb hk hi)|((with_reducible refine gate_callee (f:=85) rfl ?_);refine Hd.gl_ 17 Try.func85 #[.pointer (some ⟨g,0,none⟩),.int .i64 x4_1] ?_;(with_reducible refine(spec_l9Draw.calls k1 g s0_0 t630 t631 x4_1 t632 t633 t634 t635 t636 t639 t640 w0 _ ?side1 ?side2 A6.out).mono ?_);(case side1=>exact z1_);(case side2=>exact z2_);rintro e w9 ⟨v637,rfl,ho0,hi,hb,hk⟩;refine⟨_,rfl,?_⟩;replace HO_3:=ak (Kd.N_mono (Kd.N_told (Kd.N_oldK (Kd.N_mono (ok:=fun k_=>(((w.heap.size≤k_))∧k_≠g)) (z3_ HO_3) (fun k_ hk_=>(⟨hk_,hk_.2⟩:_∧k_≠g))) hk) (Kd.R_base ho0)) (fun _ h_=>h_.1));have HO638:=z274_;replace HK:=z218_;replace HB:=ak (hb);replace HI0:=ak (hi);clear hb hk hi ho0;obtain⟨Ao10,co10,eo10⟩:=Kd.N_slice HO_3.out;subst eo10;obtain⟨Ao11,co11,eo11⟩:=Kd.R_slice HO638.out;subst eo11)|((with_reducible refine gate_callee (f:=9) rfl ?_);refine Hd.gl_ 18 Try.func9 #[.slice Ao10 x3_1.length co10,.agg #[.int .i64 t632,.int .i64 t633,.int .i64 t634,.string t635,.slice Ao11 t636.length co11]] ?_;(with_reducible refine(spec_PutFeature.calls k1 (fun k_=>(((w.heap.size≤k_)∧k_≠g)∧some k_≠(.slice Ao11 t636.length co11:Value).ownBlock)) _ _ x3_1 t632 t633 t634 t635 _ _ t636 t641 t644 _ ?side1 ?side2 ?side3 A7.out).mono ?_);(case side1=>exact Kd.N_V (HO_3.out));(case side2=>exact z61_ HO638);(case side3=>exact(Kd.R_reads' HO638.out).2.1);rintro e w12 ⟨v642,rfl,ho0,hb⟩;refine⟨_,rfl,?_⟩;replace HO_3:=ak (Kd.N_elder' (z3_ HO_3) (Kd.N_base ho0) hb);have HO643:=ak (Kd.N_lower (Kd.N_mono (ok':=fun k_=>(w.heap.size≤k_)∧some k_≠(.slice Ao11 t636.length co11:Value).ownBlock∧k_≠g) ho0 (fun k_ hk_=>⟨Or.elim hk_ (fun hs_=>hs_.1.1) (fun hn_=>(Nat.le_trans (keep_size (w:=w) (g:=g) (row:=none) z0_) hn_)),Or.elim hk_ (fun hs_=>hs_.2) (fun hn_=>(Kd.fresh' (Kd.R_lt (Hd.r_ HO638)) k_ hn_)),Or.elim hk_ (fun hs_=>hs_.1.2) (fun hn_=>(IsS89.fresh z1_ k_ hn_))⟩)) (keep_size (w:=w) (g:=g) (row:=none) z0_));replace HO638:=ak (Kd.R_below (Hd.r_ HO638) hb);replace HK:=z217_;replace HB:=z225_;replace HI0:=z224_;clear hb ho0))
   go_roundg k1
   case measure=>have:=HK1.out;omega
   case rel=>exact⟨(t641),(wrap64 (x4_1+1)),(t639),(t640),z14_,H',⟨z101_⟩,⟨by (with_reducible repeat (first|apply Kd.N_alloc|apply Kd.N_drewN|apply Kd.N_drew));exact Kd.N_mono HO643.out (fun _ hk=>⟨hk.1,hk.2.2⟩)⟩,⟨z1_⟩,⟨z0_⟩,⟨z2_⟩⟩
def spec_l1Int.f (s0_0:List Int) (s0_1:Int) (s0_2:Int) (l1:List Int):Option (Int × Int × Int):=(spec_l1Below.f s0_0 s0_1 s0_2 (l1.length:Int)).bind fun bt645=>(if 0≤bt645.1 then (if bt645.1<(l1.length:Int) then (some (rd l1 bt645.1,bt645.2.1,bt645.2.2)) else (none)) else (none))
theorem spec_l1Int.calls (g:Nat) (s0_0:List Int) (s0_1:Int) (s0_2:Int) (A1:Option Addr) (c1:Nat) (l1:List Int) (r1:Int) (r2:Int) (r3:Int) (w0 w:World) (hI:IsS89 w0 w g s0_0 s0_1 s0_2) (hB:Below w0.heap.size w0 w) (hr1:Kd.C (Kd.int .i64) w A1 l1.length l1) (hc1:l1.length≤c1) (hf1:∀ ad,A1=some ad→0<l1.length→ad.block≠g) (h:spec_l1Int.f s0_0 s0_1 s0_2 l1=some (r1,r2,r3)) :
  Calls Try.prog 67 #[.pointer (some ⟨g,0,none⟩),.slice A1 l1.length c1] w fun e w'=>e = .returned (.int .i64 r1)∧IsS89 w0 w' g s0_0 r2 r3∧Below w0.heap.size w0 w'∧KeepBut w w' g none:=by
 have HR1:=ak hr1
 have HC1:=ak hc1
 clear hr1 hc1
 have HI0:=ak hI
 have HK:=z115_
 have HL:=ak hB.size
 clear hI
 have HW0:=ak hB.size
 have HB:=ak hB
 clear hB
 have H:=h;clear h;unfold spec_l1Int.f at H
 replace H:=Hd.bd_ H;obtain⟨⟨t645,t646,t647⟩,A3,H⟩:=H;dsimp only at H
 by_cases c4:0≤t645;rotate_left
 ·
  rw [if_neg c4] at H
  exact absurd H (by simp)
 rw [if_pos c4] at H
 have c4b0:=decide_eq_true c4
 clear c4
 by_cases c5:t645<(l1.length:Int);rotate_left
 ·
  rw [if_neg c5] at H
  exact absurd H (by simp)
 rw [if_pos c5] at H
 have c5b0:=decide_eq_true c5
 clear c5
 simp only[Option.some.injEq,Prod.mk.injEq] at H
 obtain⟨rfl,rfl,rfl⟩:=H
 go_enter Try.func67,Try.ntmps67
 go_wp2_with (first|((with_reducible refine gate_callee (f:=49) rfl ?_);refine Hd.gl_ 9 Try.func49 #[.pointer (some ⟨g,0,none⟩),.int .i64 (l1.length:Int)] ?_;(with_reducible refine(spec_l1Below.calls g s0_0 s0_1 s0_2 (l1.length:Int) t645 t646 t647 w0 _ ?side1 ?side2 A3.out).mono ?_);(case side1=>exact z1_);(case side2=>exact z2_);rintro e w6 ⟨rfl,hi,hb,hk⟩;refine⟨_,rfl,?_⟩;replace HK:=z218_;replace HB:=ak (hb);replace HI0:=ak (hi);clear hb hk hi;have p648:0≤(t645:Int):=od_;have q648:t645<(l1.length:Int):=od_;obtain⟨ad648,e648,hx648_0⟩:=Kd.at_int HR1.out t645 p648 q648;cases e648;replace hx648_0:=keep_cell HK.out hx648_0 (by first|(rw [add_block];exact hf1 _ rfl (by omega))|exact hf1 _ rfl (by omega)|exact hf1 ad648 rfl (by omega));replace p648:=eq_true p648;replace q648:=eq_true q648))
 go_ret
 exact⟨Hd.e_,z1_,z2_,z0_⟩
def spec_l4Raw.f (s0_0:List Int) (s0_1:Int) (s0_2:Int):Option (Int × Int × Int):=(spec_l1Int.f s0_0 s0_1 s0_2 (([(-1),0,200,201,1000,1001,9223372036854775807,(-9223372036854775808)]:List Int))).bind fun bt652=>(some (bt652.1,bt652.2.1,bt652.2.2))
theorem spec_l4Raw.calls (g:Nat) (s0_0:List Int) (s0_1:Int) (s0_2:Int) (r1:Int) (r2:Int) (r3:Int) (w0 w:World) (hI:IsS89 w0 w g s0_0 s0_1 s0_2) (hB:Below w0.heap.size w0 w) (h:spec_l4Raw.f s0_0 s0_1 s0_2=some (r1,r2,r3)) :
  Calls Try.prog 105 #[.pointer (some ⟨g,0,none⟩)] w fun e w'=>e = .returned (.int .i64 r1)∧IsS89 w0 w' g s0_0 r2 r3∧Below w0.heap.size w0 w'∧KeepBut w w' g none:=by
 have HI0:=ak hI
 have HK:=z115_
 have HL:=ak hB.size
 clear hI
 have HW0:=ak hB.size
 have HB:=ak hB
 clear hB
 have H:=h;clear h;unfold spec_l4Raw.f at H
 generalize hy649:(([(-1),0,200,201,1000,1001,9223372036854775807,(-9223372036854775808)]:List Int))=y649 at H;have Ny649:=ak hy649.symm;clear hy649;try rw [Option.bind_some] at H
 replace H:=Hd.bd_ H;obtain⟨⟨t652,t653,t654⟩,A2,H⟩:=H;dsimp only at H
 simp only[Option.some.injEq,Prod.mk.injEq] at H
 obtain⟨rfl,rfl,rfl⟩:=H
 go_enter Try.func105,Try.ntmps105
 go_wp2_with (first|((with_reducible refine gate_dst (N:=4) rfl ?_);refine Kd.R_lit (Kd.int .i64) _ 3 ?hg (N:=4) ?hd (xs:=([(-1),0,200,201,1000,1001,9223372036854775807,(-9223372036854775808)]:List Int)) (inner:=[.int .i64 (-1),.int .i64 0,.int .i64 200,.int .i64 201,.int .i64 1000,.int .i64 1001,.int .i64 9223372036854775807,.int .i64 (-9223372036854775808)]) (ok:=fun _=>True) (okp:=fun _=>True) ?hr ?hp (fun _ hk=>hk) trivial (Below.refl _ _) (Nat.le_refl _) (by simp) ?_;(case hd=>rfl);(case hg=>rfl);(case hr=>exact z39_);(case hp=>exact(Reps.one (show Kd.M (Kd.int .i64) _ _ _ (-1) [.int .i64 (-1)] from rfl) (Reps.one (show Kd.M (Kd.int .i64) _ _ _ 0 [.int .i64 0] from rfl) (Reps.one (show Kd.M (Kd.int .i64) _ _ _ 200 [.int .i64 200] from rfl) (Reps.one (show Kd.M (Kd.int .i64) _ _ _ 201 [.int .i64 201] from rfl) (Reps.one (show Kd.M (Kd.int .i64) _ _ _ 1000 [.int .i64 1000] from rfl) (Reps.one (show Kd.M (Kd.int .i64) _ _ _ 1001 [.int .i64 1001] from rfl) (Reps.one (show Kd.M (Kd.int .i64) _ _ _ 9223372036854775807 [.int .i64 9223372036854775807] from rfl) (Reps.one (show Kd.M (Kd.int .i64) _ _ _ (-9223372036854775808) [.int .i64 (-9223372036854775808)] from rfl) (Reps.none _ _))))))))));intro v650 w3 ho4 hb hg_ hnew_;clear hg_ hnew_;(first|rw [← Ny649.out] at ho4|(simp only[Int.reduceToNat] at ho4;rw [← Ny649.out] at ho4));have HO651:=ak (Kd.R_lower ho4 (keep_size (w:=w) (g:=g) (row:=none) z0_));replace HK:=z217_;replace HB:=z225_;replace HI0:=z224_;clear hb ho4;obtain⟨Ao5,co5,eo5⟩:=Kd.R_slice HO651.out;subst eo5)|((with_reducible refine gate_callee (f:=67) rfl ?_);refine Hd.gl_ 5 Try.func67 #[.pointer (some ⟨g,0,none⟩),.slice Ao5 y649.length co5] ?_;(with_reducible refine(spec_l1Int.calls g s0_0 s0_1 s0_2 _ _ y649 t652 t653 t654 w0 _ ?side1 ?side2 ?side3 ?side4 ?side5 A2.out).mono ?_);(case side1=>exact z1_);(case side2=>exact z2_);(case side3=>exact z61_ HO651);(case side4=>exact(Kd.R_reads' HO651.out).2.1);(case side5=>exact z155_ HO651);rintro e w6 ⟨rfl,hi,hb,hk⟩;refine⟨_,rfl,?_⟩;replace HO651:=ak (Kd.R_mono (Kd.R_keep (IsS89.apart (show IsS89 w0 _ g s0_0 s0_1 s0_2 from by repeat (first|(with_reducible first|exact HI0.out|apply IsS89.alloc|apply IsS89.drewN|apply IsS89.drew|apply IsS89.set_1|apply IsS89.set_2)|exact HI0.out)) (Hd.r_ HO651) (by decide)) hk (fun _ h=>h.2)) (fun _ h=>h.1));replace HK:=z218_;replace HB:=ak (hb);replace HI0:=ak (hi);clear hb hk hi))
 go_ret
 exact⟨Hd.e_,z1_,z2_,z0_⟩
def spec_l4Any.f (s0_0:List Int) (s0_1:Int) (s0_2:Int):Option (Int × Int × Int × Int):=(spec_l4Draw.f s0_0 s0_1 s0_2).bind fun bt656=>((spec_l1Below.f s0_0 bt656.2.2.1 bt656.2.2.2 12).bind fun bt661=>(if bt661.1=0 then ((spec_l4Raw.f s0_0 bt661.2.1 bt661.2.2).bind fun bt664=>(some (bt664.1,bt656.2.1,bt664.2.1,bt664.2.2))) else (if bt661.1=1 then ((spec_l4Raw.f s0_0 bt661.2.1 bt661.2.2).bind fun bt667=>(some (bt656.1,bt667.1,bt667.2.1,bt667.2.2))) else (some (bt656.1,bt656.2.1,bt661.2.1,bt661.2.2)))))
theorem spec_l4Any.calls (g:Nat) (s0_0:List Int) (s0_1:Int) (s0_2:Int) (r1:Int) (r2:Int) (r3:Int) (r4:Int) (w0 w:World) (hI:IsS89 w0 w g s0_0 s0_1 s0_2) (hB:Below w0.heap.size w0 w) (h:spec_l4Any.f s0_0 s0_1 s0_2=some (r1,r2,r3,r4)) :
  Calls Try.prog 87 #[.pointer (some ⟨g,0,none⟩)] w fun e w'=>e = .returned (.agg #[.int .i64 r1,.int .i64 r2])∧IsS89 w0 w' g s0_0 r3 r4∧Below w0.heap.size w0 w'∧KeepBut w w' g none:=by
 have hu75:=Try.underlying75
 have HI0:=ak hI
 have HK:=z115_
 have HL:=ak hB.size
 clear hI
 have HW0:=ak hB.size
 have HB:=ak hB
 clear hB
 have H:=h;clear h;unfold spec_l4Any.f at H
 replace H:=Hd.bd_ H;obtain⟨⟨t656,t657,t658,t659⟩,A2,H⟩:=H;dsimp only at H
 replace H:=Hd.bd_ H;obtain⟨⟨t661,t662,t663⟩,A3,H⟩:=H;dsimp only at H
 by_cases c4:t661=0
 ·
  rw [if_pos c4] at H
  have c4b0:=beq_iff_eq.mpr c4
  have c4b1:=bne_eq_false_iff_eq.mpr c4
  clear c4
  replace H:=Hd.bd_ H;obtain⟨⟨t664,t665,t666⟩,A5,H⟩:=H;dsimp only at H
  simp only[Option.some.injEq,Prod.mk.injEq] at H
  obtain⟨rfl,rfl,rfl,rfl⟩:=H
  go_enter Try.func87,Try.ntmps87
  go_wp2_with (first|((with_reducible refine gate_dst (N:=2) rfl ?_);refine Hd.box_ 2 (#[.int .i64 0,.int .i64 0]) 75 ?_;intro gb655 hg w6 hbox hb;replace HB:=z225_;have BK655:=ak (hbox);have GW655:=ak ((z221_:w.heap.size≤gb655));have GE655:=z290_;replace HK:=z217_;have NB0_655:=ak ((z32_:g≠gb655));have NB655_0:=ak ((z33_:gb655≠g));replace HI0:=z224_;clear hb hbox hg)|((with_reducible refine gate_callee (f:=102) rfl ?_);refine Hd.gl_ 5 Try.func102 #[.pointer (some ⟨g,0,none⟩)] ?_;(with_reducible refine(spec_l4Draw.calls g s0_0 s0_1 s0_2 t656 t657 t658 t659 w0 _ ?side1 ?side2 A2.out).mono ?_);(case side1=>exact z7_ NB0_655);(case side2=>exact z9_ GE655);rintro e w7 ⟨rfl,hi,hb,hk⟩;refine⟨_,rfl,?_⟩;replace BK655:=z105_ NB655_0;replace HK:=ak (KeepBut.trans (z4_ GW655) hk (.inl rfl));replace HB:=ak (hb);replace HI0:=ak (hi);clear hb hk hi)|((with_reducible refine gate_dst (N:=3) rfl ?_);refine Hd.box_ 3 (#[.int .i64 0,.int .i64 0]) 75 ?_;intro gb660 hg w8 hbox hb;replace HB:=ak (below_step (z9_ GE655) hb);have BK660:=ak (hbox);have GW660:=ak ((z239_:w.heap.size≤gb660));have GE660:=z291_;replace HK:=z281_;have NB655_660:=ak ((Hd.lt_ BK655 hg));have NB660_655:=ak ((Hd.gt_ BK655 hg));replace BK655:=ak (Hd.kb_ BK655 hb);have NB0_660:=ak ((z86_ NB0_655:g≠gb660));have NB660_0:=ak ((z87_ NB0_655:gb660≠g));replace HI0:=ak (IsS89.below (z7_ NB0_655) hb);clear hb hbox hg;have hnb9:=NB660_655.out;have hnc9:=NB655_660.out;have hnb10:=NB660_0.out;have hnc10:=NB0_660.out;obtain⟨hcz11_0,hcz11_1⟩:=Hd.c2_ BK660.out;obtain⟨hfz11_0,hfz11_1⟩:=Hd.f2_ BK660.out)|((with_reducible refine gate_callee (f:=49) rfl ?_);refine Hd.gl_ 7 Try.func49 #[.pointer (some ⟨g,0,none⟩),.int .i64 12] ?_;(with_reducible refine(spec_l1Below.calls g s0_0 t658 t659 12 t661 t662 t663 w0 _ ?side1 ?side2 A3.out).mono ?_);(case side1=>exact z10_ NB0_655 NB0_660);(case side2=>exact z11_ GE655 GE660);rintro e w12 ⟨rfl,hi,hb,hk⟩;refine⟨_,rfl,?_⟩;replace BK655:=z263_ NB655_0;replace BK660:=z265_ NB660_0;replace HK:=z264_;replace HB:=ak (hb);replace HI0:=ak (hi);clear hb hk hi)|((with_reducible refine gate_callee (f:=105) rfl ?_);refine Hd.gl_ 11 Try.func105 #[.pointer (some ⟨g,0,none⟩)] ?_;(with_reducible refine(spec_l4Raw.calls g s0_0 t662 t663 t664 t665 t666 w0 _ ?side1 ?side2 A5.out).mono ?_);(case side1=>exact z10_ NB0_655 NB0_660);(case side2=>exact z11_ GE655 GE660);rintro e w13 ⟨rfl,hi,hb,hk⟩;refine⟨_,rfl,?_⟩;replace BK655:=z105_ NB655_0;replace BK660:=ak (KeepBut.blk hk (g':=gb660) (o:=.cells #[.int .i64 t656,.int .i64 t657] 75 (0,0)) (Hd.k_ BK660) NB660_0.out (by simp));replace HK:=z264_;replace HB:=ak (hb);replace HI0:=ak (hi);clear hb hk hi;obtain⟨hcz14_0,hcz14_1⟩:=Hd.c2_ BK660.out;obtain⟨hfz14_0,hfz14_1⟩:=Hd.f2_ BK660.out;have hnb15:=NB655_0.out;have hnc15:=NB0_655.out;obtain⟨hcz16_0,hcz16_1⟩:=Hd.c2_ BK655.out;obtain⟨hfz16_0,hfz16_1⟩:=Hd.f2_ BK655.out))
  refine bodyPost_ret (results_cell_row rfl _ _ gb655 75 #[.int .i64 t664,.int .i64 t657] (0,0) _ rfl (by (with_reducible repeat (first|refine blk_drewN ?_ _|refine blk_drew ?_|refine blk_alloc ?_ _));refine blk_put (cs:=#[.int .i64 t664,.int .i64 0]) ?_ 1 _ rfl;(with_reducible repeat (first|refine blk_drewN ?_ _|refine blk_drew ?_|refine blk_alloc ?_ _));refine blk_put (cs:=#[.int .i64 0,.int .i64 0]) ?_ 0 _ rfl;(with_reducible repeat (first|refine blk_drewN ?_ _|refine blk_drew ?_|refine blk_alloc ?_ _));refine blk_far ?_ NB655_660.out _;(with_reducible repeat (first|refine blk_drewN ?_ _|refine blk_drew ?_|refine blk_alloc ?_ _));exact BK655.out) Try.underlying75 rfl (by kernel_rfl)) rfl ?_
  exact⟨Hd.e_,z10_ NB0_655 NB0_660,z11_ GE655 GE660,z8_ GW655 GW660⟩
 rw [if_neg c4] at H
 have c4b0:=beq_eq_false_iff_ne.mpr c4
 have c4b1:=bne_iff_ne.mpr c4
 by_cases c17:t661=1;rotate_left
 ·
  rw [if_neg c17] at H
  have c17b0:=beq_eq_false_iff_ne.mpr c17
  have c17b1:=bne_iff_ne.mpr c17
  simp only[Option.some.injEq,Prod.mk.injEq] at H
  obtain⟨rfl,rfl,rfl,rfl⟩:=H
  go_enter Try.func87,Try.ntmps87
  go_wp2_with (first|((with_reducible refine gate_dst (N:=2) rfl ?_);refine Hd.box_ 2 (#[.int .i64 0,.int .i64 0]) 75 ?_;intro gb655 hg w30 hbox hb;replace HB:=z225_;have BK655:=ak (hbox);have GW655:=ak ((z221_:w.heap.size≤gb655));have GE655:=z290_;replace HK:=z217_;have NB0_655:=ak ((z32_:g≠gb655));have NB655_0:=ak ((z33_:gb655≠g));replace HI0:=z224_;clear hb hbox hg)|((with_reducible refine gate_callee (f:=102) rfl ?_);refine Hd.gl_ 5 Try.func102 #[.pointer (some ⟨g,0,none⟩)] ?_;(with_reducible refine(spec_l4Draw.calls g s0_0 s0_1 s0_2 t656 t657 t658 t659 w0 _ ?side1 ?side2 A2.out).mono ?_);(case side1=>exact z7_ NB0_655);(case side2=>exact z9_ GE655);rintro e w31 ⟨rfl,hi,hb,hk⟩;refine⟨_,rfl,?_⟩;replace BK655:=z105_ NB655_0;replace HK:=ak (KeepBut.trans (z4_ GW655) hk (.inl rfl));replace HB:=ak (hb);replace HI0:=ak (hi);clear hb hk hi)|((with_reducible refine gate_dst (N:=3) rfl ?_);refine Hd.box_ 3 (#[.int .i64 0,.int .i64 0]) 75 ?_;intro gb660 hg w32 hbox hb;replace HB:=ak (below_step (z9_ GE655) hb);have BK660:=ak (hbox);have GW660:=ak ((z239_:w.heap.size≤gb660));have GE660:=z291_;replace HK:=z281_;have NB655_660:=ak ((Hd.lt_ BK655 hg));have NB660_655:=ak ((Hd.gt_ BK655 hg));replace BK655:=ak (Hd.kb_ BK655 hb);have NB0_660:=ak ((z86_ NB0_655:g≠gb660));have NB660_0:=ak ((z87_ NB0_655:gb660≠g));replace HI0:=ak (IsS89.below (z7_ NB0_655) hb);clear hb hbox hg;have hnb33:=NB660_655.out;have hnc33:=NB655_660.out;have hnb34:=NB660_0.out;have hnc34:=NB0_660.out;obtain⟨hcz35_0,hcz35_1⟩:=Hd.c2_ BK660.out;obtain⟨hfz35_0,hfz35_1⟩:=Hd.f2_ BK660.out)|((with_reducible refine gate_callee (f:=49) rfl ?_);refine Hd.gl_ 7 Try.func49 #[.pointer (some ⟨g,0,none⟩),.int .i64 12] ?_;(with_reducible refine(spec_l1Below.calls g s0_0 t658 t659 12 t661 t662 t663 w0 _ ?side1 ?side2 A3.out).mono ?_);(case side1=>exact z10_ NB0_655 NB0_660);(case side2=>exact z11_ GE655 GE660);rintro e w36 ⟨rfl,hi,hb,hk⟩;refine⟨_,rfl,?_⟩;replace BK655:=z263_ NB655_0;replace BK660:=z265_ NB660_0;replace HK:=z264_;replace HB:=ak (hb);replace HI0:=ak (hi);clear hb hk hi;obtain⟨hcz37_0,hcz37_1⟩:=Hd.c2_ BK660.out;obtain⟨hfz37_0,hfz37_1⟩:=Hd.f2_ BK660.out;have hnb38:=NB655_0.out;have hnc38:=NB0_655.out;obtain⟨hcz39_0,hcz39_1⟩:=Hd.c2_ BK655.out;obtain⟨hfz39_0,hfz39_1⟩:=Hd.f2_ BK655.out))
  refine bodyPost_ret (results_cell_row rfl _ _ gb655 75 #[.int .i64 t656,.int .i64 t657] (0,0) _ rfl (z44_ BK655) Try.underlying75 rfl (by kernel_rfl)) rfl ?_
  exact⟨Hd.e_,z10_ NB0_655 NB0_660,z11_ GE655 GE660,z8_ GW655 GW660⟩
 rw [if_pos c17] at H
 have c17b0:=beq_iff_eq.mpr c17
 have c17b1:=bne_eq_false_iff_eq.mpr c17
 clear c17
 replace H:=Hd.bd_ H;obtain⟨⟨t667,t668,t669⟩,A18,H⟩:=H;dsimp only at H
 simp only[Option.some.injEq,Prod.mk.injEq] at H
 obtain⟨rfl,rfl,rfl,rfl⟩:=H
 go_enter Try.func87,Try.ntmps87
 go_wp2_with (first|((with_reducible refine gate_dst (N:=2) rfl ?_);refine Hd.box_ 2 (#[.int .i64 0,.int .i64 0]) 75 ?_;intro gb655 hg w19 hbox hb;replace HB:=z225_;have BK655:=ak (hbox);have GW655:=ak ((z221_:w.heap.size≤gb655));have GE655:=z290_;replace HK:=z217_;have NB0_655:=ak ((z32_:g≠gb655));have NB655_0:=ak ((z33_:gb655≠g));replace HI0:=z224_;clear hb hbox hg)|((with_reducible refine gate_callee (f:=102) rfl ?_);refine Hd.gl_ 5 Try.func102 #[.pointer (some ⟨g,0,none⟩)] ?_;(with_reducible refine(spec_l4Draw.calls g s0_0 s0_1 s0_2 t656 t657 t658 t659 w0 _ ?side1 ?side2 A2.out).mono ?_);(case side1=>exact z7_ NB0_655);(case side2=>exact z9_ GE655);rintro e w20 ⟨rfl,hi,hb,hk⟩;refine⟨_,rfl,?_⟩;replace BK655:=z105_ NB655_0;replace HK:=ak (KeepBut.trans (z4_ GW655) hk (.inl rfl));replace HB:=ak (hb);replace HI0:=ak (hi);clear hb hk hi)|((with_reducible refine gate_dst (N:=3) rfl ?_);refine Hd.box_ 3 (#[.int .i64 0,.int .i64 0]) 75 ?_;intro gb660 hg w21 hbox hb;replace HB:=ak (below_step (z9_ GE655) hb);have BK660:=ak (hbox);have GW660:=ak ((z239_:w.heap.size≤gb660));have GE660:=z291_;replace HK:=z281_;have NB655_660:=ak ((Hd.lt_ BK655 hg));have NB660_655:=ak ((Hd.gt_ BK655 hg));replace BK655:=ak (Hd.kb_ BK655 hb);have NB0_660:=ak ((z86_ NB0_655:g≠gb660));have NB660_0:=ak ((z87_ NB0_655:gb660≠g));replace HI0:=ak (IsS89.below (z7_ NB0_655) hb);clear hb hbox hg;have hnb22:=NB660_655.out;have hnc22:=NB655_660.out;have hnb23:=NB660_0.out;have hnc23:=NB0_660.out;obtain⟨hcz24_0,hcz24_1⟩:=Hd.c2_ BK660.out;obtain⟨hfz24_0,hfz24_1⟩:=Hd.f2_ BK660.out)|((with_reducible refine gate_callee (f:=49) rfl ?_);refine Hd.gl_ 7 Try.func49 #[.pointer (some ⟨g,0,none⟩),.int .i64 12] ?_;(with_reducible refine(spec_l1Below.calls g s0_0 t658 t659 12 t661 t662 t663 w0 _ ?side1 ?side2 A3.out).mono ?_);(case side1=>exact z10_ NB0_655 NB0_660);(case side2=>exact z11_ GE655 GE660);rintro e w25 ⟨rfl,hi,hb,hk⟩;refine⟨_,rfl,?_⟩;replace BK655:=z263_ NB655_0;replace BK660:=z265_ NB660_0;replace HK:=z264_;replace HB:=ak (hb);replace HI0:=ak (hi);clear hb hk hi)|((with_reducible refine gate_callee (f:=105) rfl ?_);refine Hd.gl_ 16 Try.func105 #[.pointer (some ⟨g,0,none⟩)] ?_;(with_reducible refine(spec_l4Raw.calls g s0_0 t662 t663 t667 t668 t669 w0 _ ?side1 ?side2 A18.out).mono ?_);(case side1=>exact z10_ NB0_655 NB0_660);(case side2=>exact z11_ GE655 GE660);rintro e w26 ⟨rfl,hi,hb,hk⟩;refine⟨_,rfl,?_⟩;replace BK655:=z105_ NB655_0;replace BK660:=ak (KeepBut.blk hk (g':=gb660) (o:=.cells #[.int .i64 t656,.int .i64 t657] 75 (0,0)) (Hd.k_ BK660) NB660_0.out (by simp));replace HK:=z264_;replace HB:=ak (hb);replace HI0:=ak (hi);clear hb hk hi;obtain⟨hcz27_0,hcz27_1⟩:=Hd.c2_ BK660.out;obtain⟨hfz27_0,hfz27_1⟩:=Hd.f2_ BK660.out;have hnb28:=NB655_0.out;have hnc28:=NB0_655.out;obtain⟨hcz29_0,hcz29_1⟩:=Hd.c2_ BK655.out;obtain⟨hfz29_0,hfz29_1⟩:=Hd.f2_ BK655.out))
 refine bodyPost_ret (results_cell_row rfl _ _ gb655 75 #[.int .i64 t656,.int .i64 t667] (0,0) _ rfl (by (with_reducible repeat (first|refine blk_drewN ?_ _|refine blk_drew ?_|refine blk_alloc ?_ _));refine blk_put (cs:=#[.int .i64 t656,.int .i64 0]) ?_ 1 _ rfl;(with_reducible repeat (first|refine blk_drewN ?_ _|refine blk_drew ?_|refine blk_alloc ?_ _));refine blk_put (cs:=#[.int .i64 0,.int .i64 0]) ?_ 0 _ rfl;(with_reducible repeat (first|refine blk_drewN ?_ _|refine blk_drew ?_|refine blk_alloc ?_ _));refine blk_far ?_ NB655_660.out _;(with_reducible repeat (first|refine blk_drewN ?_ _|refine blk_drew ?_|refine blk_alloc ?_ _));exact BK655.out) Try.underlying75 rfl (by kernel_rfl)) rfl ?_
 exact⟨Hd.e_,z10_ NB0_655 NB0_660,z11_ GE655 GE660,z8_ GW655 GW660⟩
def spec_l6Any.l0:Nat→List (S75)→List Int→Int→Int→Option ((List (S75)) × Int × Int)
 | 0,_,_,_,_=>none
 | k+1,x3,x1000,x1001,x1002=>if (x3.length:Int)<11 then (if x3.length<8796093022208 then (spec_l6Any.l0 k (x3++[(⟨(x3.length:Int),wrap64 (50+(x3.length:Int))⟩:S75)]) x1000 x1001 x1002) else (none)) else (some (x3,x1001,x1002))
def spec_l6Any.f (k:Nat) (s0_0:List Int) (s0_1:Int) (s0_2:Int):Option ((List (S75)) × Int × Int):=(spec_l6Draw.f k s0_0 s0_1 s0_2).bind fun bt670=>((spec_l1Below.f s0_0 bt670.2.1 bt670.2.2 12).bind fun bt675=>(if bt675.1=0 then ((spec_l4Any.f s0_0 bt675.2.1 bt675.2.2).bind fun bt678=>(if 0<(bt670.1.length:Int) then (some ((bt670.1.set (0:Int).toNat (⟨bt678.1,bt678.2.1⟩:S75)),bt678.2.2.1,bt678.2.2.2)) else (none))) else (if bt675.1=1 then (if 0≤(wrap64 ((bt670.1.length:Int)-1)) then (if (wrap64 ((bt670.1.length:Int)-1))<(bt670.1.length:Int) then (if bt670.1.length<8796093022208 then (some ((bt670.1++[(⟨(rd_T75 bt670.1 (wrap64 ((bt670.1.length:Int)-1))).f0,(rd_T75 bt670.1 (wrap64 ((bt670.1.length:Int)-1))).f1⟩:S75)]),bt675.2.1,bt675.2.2)) else (none)) else (none)) else (none)) else (if bt675.1=2 then (if 1≤(bt670.1.length:Int) then (some ((bt670.1.take (1:Int).toNat),bt675.2.1,bt675.2.2)) else (none)) else (if bt675.1=3 then (spec_l6Any.l0 k bt670.1 s0_0 bt675.2.1 bt675.2.2) else (some (bt670.1,bt675.2.1,bt675.2.2)))))))
theorem spec_l6Any.calls (k:Nat) (g:Nat) (s0_0:List Int) (s0_1:Int) (s0_2:Int) (r1:List (S75)) (r2:Int) (r3:Int) (w0 w:World) (hI:IsS89 w0 w g s0_0 s0_1 s0_2) (hB:Below w0.heap.size w0 w) (h:spec_l6Any.f k s0_0 s0_1 s0_2=some (r1,r2,r3)) :
  Calls Try.prog 69 #[.pointer (some ⟨g,0,none⟩)] w fun e w'=>∃ v0_:Value,e = .returned (v0_)∧Kd.R k75 75 w' w.heap.size (fun _=>True) v0_ r1∧IsS89 w0 w' g s0_0 r2 r3∧Below w0.heap.size w0 w'∧KeepBut w w' g none:=by
 have hu75:=Try.underlying75
 have HI0:=ak hI
 have HK:=z115_
 have HL:=ak hB.size
 clear hI
 have HW0:=ak hB.size
 have HB:=ak hB
 clear hB
 have H:=h;clear h;unfold spec_l6Any.f at H
 replace H:=Hd.bd_ H;obtain⟨⟨t670,t673,t674⟩,A2,H⟩:=H;dsimp only at H
 replace H:=Hd.bd_ H;obtain⟨⟨t675,t676,t677⟩,A3,H⟩:=H;dsimp only at H
 by_cases c4:t675=0
 ·
  rw [if_pos c4] at H
  have c4b0:=beq_iff_eq.mpr c4
  have c4b1:=bne_eq_false_iff_eq.mpr c4
  clear c4
  replace H:=Hd.bd_ H;obtain⟨⟨t678,t679,t680,t681⟩,A5,H⟩:=H;dsimp only at H
  by_cases c6:0<(t670.length:Int);rotate_left
  ·
   rw [if_neg c6] at H
   exact absurd H (by simp)
  rw [if_pos c6] at H
  have c6b0:=decide_eq_true c6
  have c6b1:decide (0<t670.length)=true:=decide_eq_true (by omega)
  clear c6
  generalize hy682:(t670.set (0:Int).toNat (⟨t678,t679⟩:S75))=y682 at H;have Ny682:=ak hy682.symm;clear hy682;try rw [Option.bind_some] at H
  simp only[Option.some.injEq,Prod.mk.injEq] at H
  obtain⟨rfl,rfl,rfl⟩:=H
  go_enter Try.func69,Try.ntmps69
  go_wp2_with (first|((with_reducible refine gate_callee (f:=86) rfl ?_);refine Hd.gl_ 5 Try.func86 #[.pointer (some ⟨g,0,none⟩)] ?_;(with_reducible refine(spec_l6Draw.calls k g s0_0 s0_1 s0_2 t670 t673 t674 w0 _ ?side1 ?side2 A2.out).mono ?_);(case side1=>exact z1_);(case side2=>exact z2_);rintro e w8 ⟨v671,rfl,ho0,hi,hb,hk⟩;refine⟨_,rfl,?_⟩;have HO672:=z255_;replace HK:=z218_;replace HB:=ak (hb);replace HI0:=ak (hi);clear hb hk hi ho0)|((with_reducible refine gate_callee (f:=49) rfl ?_);refine Hd.gl_ 7 Try.func49 #[.pointer (some ⟨g,0,none⟩),.int .i64 12] ?_;(with_reducible refine(spec_l1Below.calls g s0_0 t673 t674 12 t675 t676 t677 w0 _ ?side1 ?side2 A3.out).mono ?_);(case side1=>exact z1_);(case side2=>exact z2_);rintro e w9 ⟨rfl,hi,hb,hk⟩;refine⟨_,rfl,?_⟩;replace HO672:=z45_;replace HK:=z218_;replace HB:=ak (hb);replace HI0:=ak (hi);clear hb hk hi)|((with_reducible refine gate_callee (f:=87) rfl ?_);refine Hd.gl_ 12 Try.func87 #[.pointer (some ⟨g,0,none⟩)] ?_;(with_reducible refine(spec_l4Any.calls g s0_0 t676 t677 t678 t679 t680 t681 w0 _ ?side1 ?side2 A5.out).mono ?_);(case side1=>exact z1_);(case side2=>exact z2_);rintro e w10 ⟨rfl,hi,hb,hk⟩;refine⟨_,rfl,?_⟩;replace HO672:=ak (Kd.R_mono (Kd.R_keep (IsS89.apart (show IsS89 w0 _ g s0_0 t676 t677 from by repeat (first|(with_reducible first|exact HI0.out|apply IsS89.alloc|apply IsS89.drewN|apply IsS89.drew|apply IsS89.set_1|apply IsS89.set_2)|exact HI0.out)) (Hd.r_ HO672) (by decide)) hk (fun _ h=>h.2)) (fun _ h=>h.1));replace HK:=z218_;replace HB:=ak (hb);replace HI0:=ak (hi);clear hb hk hi;have p7:0≤(0:Int):=(by omega);have q7:(0:Int)<((t670.length:Int):Int):=od_;have qi7:(0<t670.length)=True:=eq_true (by omega);obtain⟨go7,co7,eo7,gb7,gl7,cl7,HG7⟩:=Kd.R_form HO672.out (by omega);(first|cases eo7|(injection eo7 with ea_ en_ ec_;(first|subst ea_|(injection ea_ with ea_;subst ea_));subst ec_;clear en_));have GB7:=ak gb7;have GG7:=ak HG7;clear gb7 gl7 HG7;obtain⟨ce7,hcl7,hM7,hcc7,hfr7⟩:=Kd.R_elem HO672.out z75 (0:Int) p7 q7;obtain rfl:=k75_openM hM7;have hx7_0:w10.cell? ⟨go7,(0:Int).toNat*2,none⟩=some (.int .i64 ((rd_T75 t670 0).f0)):=hcc7 0 _ rfl;have hx7_1:w10.cell? ⟨go7,(0:Int).toNat*2+1,none⟩=some (.int .i64 ((rd_T75 t670 0).f1)):=hcc7 1 _ rfl;have hf7_0:w10.frozen? ⟨go7,(0:Int).toNat*2,none⟩=false:=hfr7 0;have hf7_1:w10.frozen? ⟨go7,(0:Int).toNat*2+1,none⟩=false:=hfr7 1;clear hcl7 hcc7 hfr7 hM7;(try rw [show ((0:Int)).toNat=0 from rfl] at hx7_0);(try simp only[Nat.reduceMul,Nat.zero_mul,Nat.zero_add,Nat.reduceAdd] at hx7_0);(try rw [show ((0:Int)).toNat=0 from rfl] at hf7_0);(try simp only[Nat.reduceMul,Nat.zero_mul,Nat.zero_add,Nat.reduceAdd] at hf7_0);(try rw [show ((0:Int)).toNat=0 from rfl] at hx7_1);(try simp only[Nat.reduceMul,Nat.zero_mul,Nat.zero_add,Nat.reduceAdd] at hx7_1);(try rw [show ((0:Int)).toNat=0 from rfl] at hf7_1);(try simp only[Nat.reduceMul,Nat.zero_mul,Nat.zero_add,Nat.reduceAdd] at hf7_1);replace p7:=eq_true p7;replace q7:=eq_true q7;have HX11:=ak (show Kd.R k75 75 w10 w.heap.size (fun _=>True) (.slice (some ⟨go7,0,none⟩) t670.length co7) t670 from (Hd.r_ HO672));obtain⟨ce11,hcl11,hM11,hcc11,hfr11⟩:=Kd.R_elem HX11.out z75 (0:Int) (by omega) (by have h_:(0:Int)<((t670.length:Int):Int):=od_;first|exact h_|(have e_:=(Kd.R_reads' HO672.out).1;omega)|simpa using h_);obtain rfl:=k75_openM hM11;have HP11:=Kd.R_seg HX11.out (0:Int) (by omega) (by have h_:(0:Int)<((t670.length:Int):Int):=od_;first|exact h_|(have e_:=(Kd.R_reads' HO672.out).1;omega)|simpa using h_) (seg:=[.int .i64 t678,.int .i64 t679]) (j:=0) hcl11 hcc11 (show 2≤2 from by decide) (x':=(⟨t678,t679⟩:S75)) (k75_mkM _ _ _ (⟨t678,t679⟩:S75) ) (fun _ hk=>hk);have hx11_0:=hcc11 0 _ rfl;(try simp only[show (k75).sz=2 from rfl,Nat.mul_one,Nat.add_zero] at hx11_0);(try rw [show ((0:Int)).toNat=0 from rfl] at hx11_0);(try simp only[Nat.reduceMul,Nat.zero_mul,Nat.zero_add,Nat.reduceAdd] at hx11_0);have hf11_0:=hfr11 0;(try simp only[show (k75).sz=2 from rfl,Nat.mul_one,Nat.add_zero] at hf11_0);(try rw [show ((0:Int)).toNat=0 from rfl] at hf11_0);(try simp only[Nat.reduceMul,Nat.zero_mul,Nat.zero_add,Nat.reduceAdd] at hf11_0);have hx11_1:=hcc11 1 _ rfl;(try simp only[show (k75).sz=2 from rfl,Nat.mul_one,Nat.add_zero] at hx11_1);(try rw [show ((0:Int)).toNat=0 from rfl] at hx11_1);(try simp only[Nat.reduceMul,Nat.zero_mul,Nat.zero_add,Nat.reduceAdd] at hx11_1);have hf11_1:=hfr11 1;(try simp only[show (k75).sz=2 from rfl,Nat.mul_one,Nat.add_zero] at hf11_1);(try rw [show ((0:Int)).toNat=0 from rfl] at hf11_1);(try simp only[Nat.reduceMul,Nat.zero_mul,Nat.zero_add,Nat.reduceAdd] at hf11_1);clear hcl11 hcc11 hfr11 hM11)|((with_reducible refine gate_store (t:=75) (p:=13) rfl ?_);refine store_event (t:=75) (p:=13) (v:=?vo_w12) (w1:=((w10.setCell ⟨go7,0,none⟩ (.int .i64 t678)).setCell ⟨go7,1,none⟩ (.int .i64 t679))) ?hg ?ho ?hn ?hr ?_;(case ho=>rfl);(case hg=>rfl);(case hn=>rfl);(case hr=>exact z39_);intro w12 hw;have hg:w10.grownBy w12 (some go7):=(by rw [hw];exact HP11.2);have hp_:Kd.R k75 75 w12 w.heap.size (fun _=>True) (.slice (some ⟨go7,0,none⟩) t670.length co7) y682:=(by rw [hw,Ny682.out];exact HP11.1);clear HP11;replace HI0:=z268_ HO672;replace HB:=ak ((by rw [hw];exact below_set (below_set (HB.out) (Nat.le_trans HL.out GB7.out)) (Nat.le_trans HL.out GB7.out):Below w0.heap.size w0 w12));replace HK:=ak (KeepBut.trans z0_ (KeepBut.of_grown hg g) (Kd.R_base2 HO672.out));replace HO672:=ak (hp_);clear hg hw hp_))
  go_ret
  exact⟨_,Hd.e_,z12_ HO672,z1_,z2_,z0_⟩
 rw [if_neg c4] at H
 have c4b0:=beq_eq_false_iff_ne.mpr c4
 have c4b1:=bne_iff_ne.mpr c4
 by_cases c13:t675=1
 ·
  rw [if_pos c13] at H
  have c13b0:=beq_iff_eq.mpr c13
  have c13b1:=bne_eq_false_iff_eq.mpr c13
  clear c13
  obtain⟨ji14,hji14⟩:∃ j_:Int,(wrap64 ((t670.length:Int)-1))=j_:=⟨_,rfl⟩
  replace H:(if 0≤(ji14) then (if (ji14)<(t670.length:Int) then (if t670.length<8796093022208 then (some ((t670++[(⟨(rd_T75 t670 (ji14)).f0,(rd_T75 t670 (ji14)).f1⟩:S75)]),t676,t677)) else (none)) else (none)) else (none))=some (r1,r2,r3):=by first|(rw [hji14] at H;exact H)|(simp only[hji14] at H ⊢;exact H)
  (try rw [hji14] at A2)
  (try rw [hji14] at A3)
  have hji14w:(IntKind.i64.wrap ((t670.length:Int)-1))=ji14:=(i64_w _).trans hji14
  by_cases c15:0≤(ji14);rotate_left
  ·
   rw [if_neg c15] at H
   exact absurd H (by simp)
  rw [if_pos c15] at H
  have c15b0:=decide_eq_true c15
  clear c15
  by_cases c16:(ji14)<(t670.length:Int);rotate_left
  ·
   rw [if_neg c16] at H
   exact absurd H (by simp)
  rw [if_pos c16] at H
  have c16b0:=decide_eq_true c16
  clear c16
  by_cases c17:t670.length<8796093022208;rotate_left
  ·
   rw [if_neg c17] at H
   exact absurd H (by simp)
  rw [if_pos c17] at H
  have LMc17:=ak c17
  clear c17
  generalize hy684:(t670++[(⟨(rd_T75 t670 (ji14)).f0,(rd_T75 t670 (ji14)).f1⟩:S75)])=y684 at H;have Ny684:=ak hy684.symm;clear hy684;try rw [Option.bind_some] at H
  simp only[Option.some.injEq,Prod.mk.injEq] at H
  obtain⟨rfl,rfl,rfl⟩:=H
  go_enter Try.func69,Try.ntmps69
  go_wp2_with (first|((with_reducible refine gate_callee (f:=86) rfl ?_);refine Hd.gl_ 5 Try.func86 #[.pointer (some ⟨g,0,none⟩)] ?_;(with_reducible refine(spec_l6Draw.calls k g s0_0 s0_1 s0_2 t670 t673 t674 w0 _ ?side1 ?side2 A2.out).mono ?_);(case side1=>exact z1_);(case side2=>exact z2_);rintro e w18 ⟨v671,rfl,ho0,hi,hb,hk⟩;refine⟨_,rfl,?_⟩;have HO672:=z255_;replace HK:=z218_;replace HB:=ak (hb);replace HI0:=ak (hi);clear hb hk hi ho0)|((with_reducible refine gate_callee (f:=49) rfl ?_);refine Hd.gl_ 7 Try.func49 #[.pointer (some ⟨g,0,none⟩),.int .i64 12] ?_;(with_reducible refine(spec_l1Below.calls g s0_0 t673 t674 12 t675 t676 t677 w0 _ ?side1 ?side2 A3.out).mono ?_);(case side1=>exact z1_);(case side2=>exact z2_);rintro e w19 ⟨rfl,hi,hb,hk⟩;refine⟨_,rfl,?_⟩;replace HO672:=z45_;replace HK:=z218_;replace HB:=ak (hb);replace HI0:=ak (hi);clear hb hk hi;obtain⟨Ao20,co20,eo20⟩:=Kd.R_slice HO672.out;subst eo20;have p683:0≤((ji14):Int):=od_;have q683:(ji14)<(t670.length:Int):=od_;obtain⟨ad683,e683,hx683_0,hx683_1⟩:=at_T75 (Kd.R_reads' HO672.out).2.2 (ji14) p683 q683;cases e683;replace p683:=eq_true p683;replace q683:=eq_true q683)|((with_reducible refine gate_builtin (b:=.append) (xs:=#[.tmp 16,.tmp 23]) rfl ?_);at_builtin;refine Kd.R_append k75 w.heap.size rfl (.tmp 16) (.tmp 23) 32 75 (.agg #[(.int .i64 0),(.int .i64 0)]) 16 rfl Try.underlying32 info75 rfl (by decide) (by omega) (.slice (some ad683) t670.length co20) t670 (⟨(rd_T75 t670 (ji14)).f0,(rd_T75 t670 (ji14)).f1⟩:S75) [.int .i64 ((rd_T75 t670 (ji14)).f0),.int .i64 ((rd_T75 t670 (ji14)).f1)] (fun _=>True) (fun _=>False) rfl rfl ?aP (fun _ hk=>hk.elim) ?aF ?aO (Below.refl _ _) ?aS ?aL ?_;(case aP=>exact k75_mkM _ _ _ (⟨(rd_T75 t670 (ji14)).f0,(rd_T75 t670 (ji14)).f1⟩:S75));(case aF=>exact z177_);(case aO=>exact(Hd.r_ HO672));(case aS=>exact(keep_size (w:=w) (g:=g) (row:=none) z0_));(case aL=>have:=LMc17.out;omega);intro v685 w21 ho hb hg hat;rw [← Ny684.out] at ho;have n0_:=z268_ HO672;have n1_:=ak (below_weaken z2_ HL.out hb);have n2_:=ak (KeepBut.trans z0_ (KeepBut.of_grown hg g) (Kd.R_base2 HO672.out));have n3_:=ak (ho);clear HI0;clear HB;clear HK;clear HO672;have HI0:=n0_;have HB:=n1_;have HK:=n2_;have HO686:=n3_;clear n0_ n1_ n2_ n3_;clear ho hb hg hat))
  go_ret
  exact⟨_,by first|rfl|(simp [errW_none,errW_some] <;> rfl)|(simp only[← hji14];first|rfl|(simp [errW_none,errW_some] <;> rfl))|(simp [*,errW_none,errW_some] <;> rfl),z12_ HO686,z1_,z2_,z0_⟩
 rw [if_neg c13] at H
 have c13b0:=beq_eq_false_iff_ne.mpr c13
 have c13b1:=bne_iff_ne.mpr c13
 by_cases c22:t675=2
 ·
  rw [if_pos c22] at H
  have c22b0:=beq_iff_eq.mpr c22
  have c22b1:=bne_eq_false_iff_eq.mpr c22
  clear c22
  by_cases c23:1≤(t670.length:Int);rotate_left
  ·
   rw [if_neg c23] at H
   exact absurd H (by simp)
  rw [if_pos c23] at H
  have c23b0:=eq_true c23
  have c23b1:=decide_eq_true c23
  clear c23
  generalize hy687:(t670.take (1:Int).toNat)=y687 at H;have Ny687:=ak hy687.symm;clear hy687;try rw [Option.bind_some] at H
  simp only[Option.some.injEq,Prod.mk.injEq] at H
  obtain⟨rfl,rfl,rfl⟩:=H
  go_enter Try.func69,Try.ntmps69
  go_wp2_with (first|((with_reducible refine gate_callee (f:=86) rfl ?_);refine Hd.gl_ 5 Try.func86 #[.pointer (some ⟨g,0,none⟩)] ?_;(with_reducible refine(spec_l6Draw.calls k g s0_0 s0_1 s0_2 t670 t673 t674 w0 _ ?side1 ?side2 A2.out).mono ?_);(case side1=>exact z1_);(case side2=>exact z2_);rintro e w24 ⟨v671,rfl,ho0,hi,hb,hk⟩;refine⟨_,rfl,?_⟩;have HO672:=z255_;replace HK:=z218_;replace HB:=ak (hb);replace HI0:=ak (hi);clear hb hk hi ho0)|((with_reducible refine gate_callee (f:=49) rfl ?_);refine Hd.gl_ 7 Try.func49 #[.pointer (some ⟨g,0,none⟩),.int .i64 12] ?_;(with_reducible refine(spec_l1Below.calls g s0_0 t673 t674 12 t675 t676 t677 w0 _ ?side1 ?side2 A3.out).mono ?_);(case side1=>exact z1_);(case side2=>exact z2_);rintro e w25 ⟨rfl,hi,hb,hk⟩;refine⟨_,rfl,?_⟩;replace HO672:=z45_;replace HK:=z218_;replace HB:=ak (hb);replace HI0:=ak (hi);clear hb hk hi;obtain⟨Ao26,co26,eo26⟩:=Kd.R_slice HO672.out;subst eo26;have q27:(1:Int)≤((t670.length:Int):Int):=od_;obtain⟨i027,hi027,_,hsz27,_⟩:=info_parts info75;have hcut27:=cut_to (P:=Try.prog) 32 75 .i64 Try.underlying32 hi027 Ao26 t670.length co26 1 (by omega) q27 (Kd.R_reads' HO672.out).2.1;have hr27:=Kd.R_take (m:=(1:Int).toNat) HO672.out (by omega);have hy27:y687.length=(1:Int).toNat:=(by rw [Ny687.out,List.length_take];omega);rw [← Ny687.out] at hr27;rw [← hy27] at hr27 hcut27;clear hy27 hi027 hsz27 HO672;have HO689:=ak hr27;clear hr27;replace q27:=eq_true q27))
  go_ret
  exact⟨_,Hd.e_,z12_ HO689,z1_,z2_,z0_⟩
 rw [if_neg c22] at H
 have c22b0:=beq_eq_false_iff_ne.mpr c22
 have c22b1:=bne_iff_ne.mpr c22
 by_cases c28:t675=3;rotate_left
 ·
  rw [if_neg c28] at H
  have c28b0:=beq_eq_false_iff_ne.mpr c28
  have c28b1:=bne_iff_ne.mpr c28
  simp only[Option.some.injEq,Prod.mk.injEq] at H
  obtain⟨rfl,rfl,rfl⟩:=H
  go_enter Try.func69,Try.ntmps69
  go_wp2_with (first|((with_reducible refine gate_callee (f:=86) rfl ?_);refine Hd.gl_ 5 Try.func86 #[.pointer (some ⟨g,0,none⟩)] ?_;(with_reducible refine(spec_l6Draw.calls k g s0_0 s0_1 s0_2 t670 t673 t674 w0 _ ?side1 ?side2 A2.out).mono ?_);(case side1=>exact z1_);(case side2=>exact z2_);rintro e w36 ⟨v671,rfl,ho0,hi,hb,hk⟩;refine⟨_,rfl,?_⟩;have HO672:=z255_;replace HK:=z218_;replace HB:=ak (hb);replace HI0:=ak (hi);clear hb hk hi ho0)|((with_reducible refine gate_callee (f:=49) rfl ?_);refine Hd.gl_ 7 Try.func49 #[.pointer (some ⟨g,0,none⟩),.int .i64 12] ?_;(with_reducible refine(spec_l1Below.calls g s0_0 t673 t674 12 t675 t676 t677 w0 _ ?side1 ?side2 A3.out).mono ?_);(case side1=>exact z1_);(case side2=>exact z2_);rintro e w37 ⟨rfl,hi,hb,hk⟩;refine⟨_,rfl,?_⟩;replace HO672:=z45_;replace HK:=z218_;replace HB:=ak (hb);replace HI0:=ak (hi);clear hb hk hi))
  go_ret
  exact⟨_,Hd.e_,z12_ HO672,z1_,z2_,z0_⟩
 rw [if_pos c28] at H
 have c28b0:=beq_iff_eq.mpr c28
 have c28b1:=bne_eq_false_iff_eq.mpr c28
 clear c28
 have H':=ak H
 clear H
 go_enter Try.func69,Try.ntmps69
 go_wp2_with (first|((with_reducible refine gate_callee (f:=86) rfl ?_);refine Hd.gl_ 5 Try.func86 #[.pointer (some ⟨g,0,none⟩)] ?_;(with_reducible refine(spec_l6Draw.calls k g s0_0 s0_1 s0_2 t670 t673 t674 w0 _ ?side1 ?side2 A2.out).mono ?_);(case side1=>exact z1_);(case side2=>exact z2_);rintro e w29 ⟨v671,rfl,ho0,hi,hb,hk⟩;refine⟨_,rfl,?_⟩;have HO672:=z255_;replace HK:=z218_;replace HB:=ak (hb);replace HI0:=ak (hi);clear hb hk hi ho0)|((with_reducible refine gate_callee (f:=49) rfl ?_);refine Hd.gl_ 7 Try.func49 #[.pointer (some ⟨g,0,none⟩),.int .i64 12] ?_;(with_reducible refine(spec_l1Below.calls g s0_0 t673 t674 12 t675 t676 t677 w0 _ ?side1 ?side2 A3.out).mono ?_);(case side1=>exact z1_);(case side2=>exact z2_);rintro e w30 ⟨rfl,hi,hb,hk⟩;refine⟨_,rfl,?_⟩;replace HO672:=z45_;replace HK:=z218_;replace HB:=ak (hb);replace HI0:=ak (hi);clear hb hk hi))
 go_loopg [3] k (fun kq v3 w'=>∃ (x3_1:List (S75)),Aside0 (spec_l6Any.l0 kq x3_1 s0_0 t676 t677=some (r1,r2,r3))∧Aside0 (kq≤k)∧Aside0 (Kd.R k75 75 w' w.heap.size (fun _=>True) v3 x3_1)∧Aside0 (IsS89 w0 w' g s0_0 t676 t677)∧Aside0 (KeepBut w w' g none)∧Aside0 (Below w0.heap.size w0 w'))
 case atStart=>exact⟨(t670),H',⟨Nat.le_refl _⟩,⟨z12_ HO672⟩,⟨z1_⟩,⟨z0_⟩,⟨z2_⟩⟩
 case round =>
  clear H'
  try clear c4;try clear c4b0;try clear c4b1;try clear c6;try clear c6b0;try clear c6b1;try clear p7;try clear q7;try clear qi7;try clear c13;try clear c13b0;try clear c13b1;try clear c15;try clear c15b0;try clear c16;try clear c16b0;try clear c17;try clear c22;try clear c22b0;try clear c22b1;try clear c23;try clear c23b0;try clear c23b1;try clear q27;try clear c28;try clear c28b0;try clear c28b1;try clear hx11_0;try clear hx11_1;try clear hx683_0;try clear hx683_1;try clear hx7_0;try clear hx7_1;try clear p683;try clear p7;try clear q27;try clear q683;try clear q7
  obtain⟨x3_1,HA,HK1,HO_3,HI0,HK,HB⟩:=hrel
  cases gk with
  | zero=>exact absurd HA.out (by simp [spec_l6Any.l0])
  | succ k1 =>
   have H:=HA.out
   clear HA
   simp only[spec_l6Any.l0] at H
   by_cases c31:(x3_1.length:Int)<11;rotate_left
   ·
    rw [if_neg c31] at H
    have c31b0:=decide_eq_false c31
    have c31b1:decide (x3_1.length<11)=false:=decide_eq_false (by omega)
    clear c31
    simp only[Option.some.injEq,Prod.mk.injEq] at H
    obtain⟨rfl,rfl,rfl⟩:=H
    obtain⟨Ao35,co35,eo35⟩:=Kd.R_slice HO_3.out
    subst eo35
    go_wp2
    go_ret
    exact⟨_,Hd.e_,z12_ HO_3,z1_,z2_,z0_⟩
   rw [if_pos c31] at H
   have c31b0:=decide_eq_true c31
   have c31b1:decide (x3_1.length<11)=true:=decide_eq_true (by omega)
   clear c31
   by_cases c32:x3_1.length<8796093022208;rotate_left
   ·
    rw [if_neg c32] at H
    exact absurd H (by simp)
   rw [if_pos c32] at H
   have LMc32:=ak c32
   clear c32
   generalize hy690:(x3_1++[(⟨(x3_1.length:Int),wrap64 (50+(x3_1.length:Int))⟩:S75)])=y690 at H;have Ny690:=ak hy690.symm;clear hy690;try rw [Option.bind_some] at H
   have H':=ak H
   clear H
   obtain⟨Ao33,co33,eo33⟩:=Kd.R_slice HO_3.out
   subst eo33
   go_wp2_with (first|((with_reducible refine gate_builtin (b:=.append) (xs:=#[.tmp 34,.tmp 41]) rfl ?_);at_builtin;refine Kd.R_append k75 w.heap.size rfl (.tmp 34) (.tmp 41) 32 75 (.agg #[(.int .i64 0),(.int .i64 0)]) 16 rfl Try.underlying32 info75 rfl (by decide) (by omega) (.slice Ao33 x3_1.length co33) x3_1 (⟨(x3_1.length:Int),wrap64 (50+(x3_1.length:Int))⟩:S75) [.int .i64 (x3_1.length:Int),.int .i64 (wrap64 (50+(x3_1.length:Int)))] (fun _=>True) (fun _=>False) rfl rfl ?aP (fun _ hk=>hk.elim) ?aF ?aO (Below.refl _ _) ?aS ?aL ?_;(case aP=>exact k75_mkM _ _ _ (⟨(x3_1.length:Int),wrap64 (50+(x3_1.length:Int))⟩:S75));(case aF=>exact z177_);(case aO=>exact(Hd.r_ HO_3));(case aS=>exact(keep_size (w:=w) (g:=g) (row:=none) z0_));(case aL=>have:=LMc32.out;omega);intro v691 w34 ho hb hg hat;rw [← Ny690.out] at ho;have n0_:=z268_ HO_3;have n1_:=ak (below_weaken z2_ HL.out hb);have n2_:=ak (KeepBut.trans z0_ (KeepBut.of_grown hg g) (Kd.R_base2 HO_3.out));have n3_:=ak (ho);clear HI0;clear HB;clear HK;clear HO_3;have HI0:=n0_;have HB:=n1_;have HK:=n2_;have HO692:=n3_;clear n0_ n1_ n2_ n3_;clear ho hb hg hat))
   go_roundg k1
   case measure=>have:=HK1.out;omega
   case rel=>exact⟨(y690),H',⟨z101_⟩,⟨z12_ HO692⟩,⟨z1_⟩,⟨z0_⟩,⟨z2_⟩⟩
end Go.Proofs.Ytbbdhlggnglfgaa.MFnFeatures
