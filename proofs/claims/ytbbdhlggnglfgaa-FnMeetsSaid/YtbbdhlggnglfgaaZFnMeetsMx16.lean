-- Laid by this session's program pp.py, after the kit's print and texts of the session's own. Not trusted: Lean checks it.
import Derived.Test.YtbbdhlggnglfgaaZFnMeetsMx0
import Derived.Test.YtbbdhlggnglfgaaZFnMeetsMx8
import Derived.Test.YtbbdhlggnglfgaaZFnMeetsMx14
import Derived.Test.YtbbdhlggnglfgaaZFnMeetsMx15
namespace Go.Proofs.Ytbbdhlggnglfgaa.MFnMeets
open Go.RowKit Go.Proofs.YtbbdhlggnglfgaaW.PrintWords Go.Proofs.YtbbdhlggnglfgaaW.PrintLast Go.Proofs.YtbbdhlggnglfgaaW.PrintMore
attribute [local go_sem] max2_int min2_int max_two min_two max_three min_three max_four min_four   -- for this text's walks alone
set_option linter.unusedVariables false
set_option maxHeartbeats 8000000
set_option maxRecDepth 100000
set_option linter.unusedSimpArgs false
def spec_l1Str.f (s0_0 : List Int) (s0_1 : Int) (s0_2 : Int) (l1 : List ByteArray) : Option (ByteArray × Int × Int):=(spec_l1Below.f s0_0 s0_1 s0_2 (l1.length : Int)).bind fun bt452 => (if 0 ≤ bt452.1 then (if bt452.1 < (l1.length : Int) then (some (rdOf ByteArray.empty l1 bt452.1,bt452.2.1,bt452.2.2)) else (none)) else (none))
theorem spec_l1Str.calls (g : Nat) (s0_0 : List Int) (s0_1 : Int) (s0_2 : Int) (A1 : Option Addr) (c1 : Nat) (l1 : List ByteArray) (r1 : ByteArray) (r2 : Int) (r3 : Int) (w0 w : World) (hI : IsS89 w0 w g s0_0 s0_1 s0_2) (hB : Below w0.heap.size w0 w) (hr1 : Kd.C Kd.string w A1 l1.length l1) (hc1 : l1.length ≤ c1) (hf1 : ∀ ad,A1 = some ad → 0 < l1.length → ad.block ≠ g) (h : spec_l1Str.f s0_0 s0_1 s0_2 l1 = some (r1,r2,r3)) :
  Calls Try.prog 68 #[.pointer (some ⟨g,0,none⟩),.slice A1 l1.length c1] w fun e w' => e = .returned (.string r1) ∧ IsS89 w0 w' g s0_0 r2 r3 ∧ Below w0.heap.size w0 w' ∧ KeepBut w w' g none:=by
 have HR1:=ak hr1
 have HC1:=ak hc1
 clear hr1 hc1
 have HI0:=ak hI
 have HK:=ak (KeepBut.refl w g none)
 have HL:=ak hB.size
 clear hI
 have HW0:=ak hB.size
 have HB:=ak hB
 clear hB
 have H:=h;clear h;unfold spec_l1Str.f at H
 replace H:=Hd.bd_ H;obtain ⟨⟨t452,t453,t454⟩,A3,H⟩:=H;dsimp only at H
 by_cases c4 : 0 ≤ t452;rotate_left
 ·
  rw [if_neg c4] at H
  exact absurd H (by simp)
 rw [if_pos c4] at H
 have c4b0:=decide_eq_true c4
 clear c4
 by_cases c5 : t452 < (l1.length : Int);rotate_left
 ·
  rw [if_neg c5] at H
  exact absurd H (by simp)
 rw [if_pos c5] at H
 have c5b0:=decide_eq_true c5
 clear c5
 simp only [Option.some.injEq,Prod.mk.injEq] at H
 obtain ⟨rfl,rfl,rfl⟩:=H
 go_enter Try.func68,Try.ntmps68
 go_wp2_with (first | ((with_reducible refine gate_callee (f:=49) rfl ?_);refine Hd.gl_ 9 Try.func49 #[.pointer (some ⟨g,0,none⟩),.int .i64 (l1.length : Int)] ?_;(with_reducible refine (spec_l1Below.calls g s0_0 s0_1 s0_2 (l1.length : Int) t452 t453 t454 w0 _ ?side1 ?side2 A3.out).mono ?_);(case side1 => exact z1_);(case side2 => exact z2_);rintro e w6 ⟨rfl,hi,hb,hk⟩;refine ⟨_,rfl,?_⟩;replace HK:=z99_;replace HB:=ak (hb);replace HI0:=ak (hi);clear hb hk hi;have p455 : 0 ≤ (t452 : Int):=of_decide_eq_true Hd.a_;have q455 : t452 < (l1.length : Int):=of_decide_eq_true Hd.a_;obtain ⟨ad455,e455,hx455_0⟩:=Kd.at_string HR1.out t452 p455 q455;cases e455;replace hx455_0:=keep_cell HK.out hx455_0 (by first | (rw [add_block];exact hf1 _ rfl (by omega)) | exact hf1 _ rfl (by omega) | exact hf1 ad455 rfl (by omega));replace p455:=eq_true p455;replace q455:=eq_true q455))
 go_ret
 exact ⟨Hd.e_,z1_,z2_,z0_⟩
def spec_l9Name.f (s0_0 : List Int) (s0_1 : Int) (s0_2 : Int) : Option (ByteArray × Int × Int):=(spec_l1Str.f s0_0 s0_1 s0_2 (([(⟨#[]⟩ : ByteArray),(⟨#[102,111,114,100]⟩ : ByteArray),(⟨#[104,105,108,108]⟩ : ByteArray),(⟨#[109,105,108,108]⟩ : ByteArray),(⟨#[111,97,107]⟩ : ByteArray),(⟨#[108,97,107,101]⟩ : ByteArray),(⟨#[105,110,110]⟩ : ByteArray)] : List ByteArray))).bind fun bt459 => (some (bt459.1,bt459.2.1,bt459.2.2))
theorem spec_l9Name.calls (g : Nat) (s0_0 : List Int) (s0_1 : Int) (s0_2 : Int) (r1 : ByteArray) (r2 : Int) (r3 : Int) (w0 w : World) (hI : IsS89 w0 w g s0_0 s0_1 s0_2) (hB : Below w0.heap.size w0 w) (h : spec_l9Name.f s0_0 s0_1 s0_2 = some (r1,r2,r3)) :
  Calls Try.prog 101 #[.pointer (some ⟨g,0,none⟩)] w fun e w' => e = .returned (.string r1) ∧ IsS89 w0 w' g s0_0 r2 r3 ∧ Below w0.heap.size w0 w' ∧ KeepBut w w' g none:=by
 have HI0:=ak hI
 have HK:=ak (KeepBut.refl w g none)
 have HL:=ak hB.size
 clear hI
 have HW0:=ak hB.size
 have HB:=ak hB
 clear hB
 have H:=h;clear h;unfold spec_l9Name.f at H
 generalize hy456 : (([(⟨#[]⟩ : ByteArray),(⟨#[102,111,114,100]⟩ : ByteArray),(⟨#[104,105,108,108]⟩ : ByteArray),(⟨#[109,105,108,108]⟩ : ByteArray),(⟨#[111,97,107]⟩ : ByteArray),(⟨#[108,97,107,101]⟩ : ByteArray),(⟨#[105,110,110]⟩ : ByteArray)] : List ByteArray)) = y456 at H;have Ny456:=ak hy456.symm;clear hy456;try rw [Option.bind_some] at H
 replace H:=Hd.bd_ H;obtain ⟨⟨t459,t460,t461⟩,A2,H⟩:=H;dsimp only at H
 simp only [Option.some.injEq,Prod.mk.injEq] at H
 obtain ⟨rfl,rfl,rfl⟩:=H
 go_enter Try.func101,Try.ntmps101
 go_wp2_with (first | ((with_reducible refine gate_dst (N:=4) rfl ?_);refine Kd.R_lit Kd.string _ 9 ?hg (N:=4) ?hd (xs:=([(⟨#[]⟩ : ByteArray),(⟨#[102,111,114,100]⟩ : ByteArray),(⟨#[104,105,108,108]⟩ : ByteArray),(⟨#[109,105,108,108]⟩ : ByteArray),(⟨#[111,97,107]⟩ : ByteArray),(⟨#[108,97,107,101]⟩ : ByteArray),(⟨#[105,110,110]⟩ : ByteArray)] : List ByteArray)) (inner:=[.string (⟨#[]⟩ : ByteArray),.string (⟨#[102,111,114,100]⟩ : ByteArray),.string (⟨#[104,105,108,108]⟩ : ByteArray),.string (⟨#[109,105,108,108]⟩ : ByteArray),.string (⟨#[111,97,107]⟩ : ByteArray),.string (⟨#[108,97,107,101]⟩ : ByteArray),.string (⟨#[105,110,110]⟩ : ByteArray)]) (ok:=fun _ => True) (okp:=fun _ => True) ?hr ?hp (fun _ hk => hk) trivial (Below.refl _ _) (Nat.le_refl _) (by simp) ?_;(case hd => rfl);(case hg => rfl);(case hr => exact z31_);(case hp => exact (Reps.one (show Kd.M Kd.string _ _ _ (⟨#[]⟩ : ByteArray) [.string (⟨#[]⟩ : ByteArray)] from rfl) (Reps.one (show Kd.M Kd.string _ _ _ (⟨#[102,111,114,100]⟩ : ByteArray) [.string (⟨#[102,111,114,100]⟩ : ByteArray)] from rfl) (Reps.one (show Kd.M Kd.string _ _ _ (⟨#[104,105,108,108]⟩ : ByteArray) [.string (⟨#[104,105,108,108]⟩ : ByteArray)] from rfl) (Reps.one (show Kd.M Kd.string _ _ _ (⟨#[109,105,108,108]⟩ : ByteArray) [.string (⟨#[109,105,108,108]⟩ : ByteArray)] from rfl) (Reps.one (show Kd.M Kd.string _ _ _ (⟨#[111,97,107]⟩ : ByteArray) [.string (⟨#[111,97,107]⟩ : ByteArray)] from rfl) (Reps.one (show Kd.M Kd.string _ _ _ (⟨#[108,97,107,101]⟩ : ByteArray) [.string (⟨#[108,97,107,101]⟩ : ByteArray)] from rfl) (Reps.one (show Kd.M Kd.string _ _ _ (⟨#[105,110,110]⟩ : ByteArray) [.string (⟨#[105,110,110]⟩ : ByteArray)] from rfl) (Reps.none _ _)))))))));intro v457 w3 ho4 hb hg_ hnew_;clear hg_ hnew_;(first | rw [← Ny456.out] at ho4 | (simp only [Int.reduceToNat] at ho4;rw [← Ny456.out] at ho4));have HO458:=ak (Kd.R_lower ho4 (keep_size (w:=w) (g:=g) (row:=none) z0_));replace HK:=z98_;replace HB:=ak (below_step z2_ hb);replace HI0:=ak (IsS89.below z1_ hb);clear hb ho4;obtain ⟨Ao5,co5,eo5⟩:=Kd.R_slice HO458.out;subst eo5) | ((with_reducible refine gate_callee (f:=68) rfl ?_);refine Hd.gl_ 5 Try.func68 #[.pointer (some ⟨g,0,none⟩),.slice Ao5 y456.length co5] ?_;(with_reducible refine (spec_l1Str.calls g s0_0 s0_1 s0_2 _ _ y456 t459 t460 t461 w0 _ ?side1 ?side2 ?side3 ?side4 ?side5 A2.out).mono ?_);(case side1 => exact z1_);(case side2 => exact z2_);(case side3 => exact z26_ HO458);(case side4 => exact (Kd.R_reads' HO458.out).2.1);(case side5 => exact far_slice (IsS89.own_ne HI0.out HO458.out (by decide)));rintro e w6 ⟨rfl,hi,hb,hk⟩;refine ⟨_,rfl,?_⟩;replace HO458:=ak (Kd.R_mono (Kd.R_keep (IsS89.apart (show IsS89 w0 _ g s0_0 s0_1 s0_2 from by repeat (first | (with_reducible first | exact HI0.out | apply IsS89.alloc | apply IsS89.drewN | apply IsS89.drew | apply IsS89.set_1 | apply IsS89.set_2) | exact HI0.out)) (Hd.r_ HO458) (by decide)) hk (fun _ h => h.2)) (fun _ h => h.1));replace HK:=z99_;replace HB:=ak (hb);replace HI0:=ak (hi);clear hb hk hi))
 go_ret
 exact ⟨Hd.e_,z1_,z2_,z0_⟩
def spec_l7P.f (a0 : Int) (a1 : Int) : Option (Int × Int):=some (a0,a1)
theorem spec_l7P.calls (a0 : Int) (a1 : Int) (r1 : Int) (r2 : Int) (w : World) (h : spec_l7P.f a0 a1 = some (r1,r2)) :
  Calls Try.prog 112 #[.int .i64 a0,.int .i64 a1] w fun e w' => e = .returned (.agg #[.int .i64 r1,.int .i64 r2]) ∧ Below w.heap.size w w':=by
 have hu75:=Try.underlying75
 have HB:=ak (Below.refl w.heap.size w)
 have H : (some (a0,a1)) = some (r1,r2):=h
 clear h
 simp only [Option.some.injEq,Prod.mk.injEq] at H
 obtain ⟨rfl,rfl⟩:=H
 go_enter Try.func112,Try.ntmps112
 go_wp2_with (first | ((with_reducible refine gate_dst (N:=4) rfl ?_);refine Hd.box_ 4 (#[.int .i64 0,.int .i64 0]) 75 ?_;intro gb462 hg w3 hbox hb;have BK462:=ak (hbox);have GW462:=ak ((Hd.g_ hg Hd.b_ : w.heap.size ≤ gb462));have GE462:=ak ((Hd.g_ hg Hd.b_ : w.heap.size ≤ gb462));replace HB:=ak (below_step Hd.b_ hb);clear hb hbox hg;obtain ⟨hcz4_0,hcz4_1⟩:=Hd.c2_ BK462.out;obtain ⟨hfz4_0,hfz4_1⟩:=Hd.f2_ BK462.out))
 refine bodyPost_ret (results_cell_row rfl _ _ gb462 75 #[.int .i64 a0,.int .i64 a1] (0,0) _ rfl (by (with_reducible repeat (first | refine blk_drewN ?_ _ | refine blk_drew ?_ | refine blk_alloc ?_ _));refine blk_put (cs:=#[.int .i64 a0,.int .i64 0]) ?_ 1 _ rfl;(with_reducible repeat (first | refine blk_drewN ?_ _ | refine blk_drew ?_ | refine blk_alloc ?_ _));refine blk_put (cs:=#[.int .i64 0,.int .i64 0]) ?_ 0 _ rfl;(with_reducible repeat (first | refine blk_drewN ?_ _ | refine blk_drew ?_ | refine blk_alloc ?_ _));exact BK462.out) Try.underlying75 rfl (by kernel_rfl)) rfl ?_
 exact ⟨Hd.e_,Hd.b_⟩
def spec_l7Draw.f (s0_0 : List Int) (s0_1 : Int) (s0_2 : Int) : Option ((List (S75)) × Int × Int):=(spec_l1Below.f s0_0 s0_1 s0_2 8).bind fun bt463 => ((spec_l1Below.f s0_0 bt463.2.1 bt463.2.2 8).bind fun bt466 => ((spec_l1Below.f s0_0 bt466.2.1 bt466.2.2 6).bind fun bt469 => ((spec_l1Below.f s0_0 bt469.2.1 bt469.2.2 6).bind fun bt472 => ((spec_l1Below.f s0_0 bt472.2.1 bt472.2.2 4).bind fun bt475 => (if bt475.1 = 0 then ((spec_l7P.f bt463.1 bt466.1).bind fun bt478 => ((spec_l7P.f (wrap64 (bt463.1 + (wrap64 (2 + bt469.1)))) bt466.1).bind fun bt480 => ((spec_l7P.f (wrap64 (bt463.1 + (wrap64 (2 + bt469.1)))) (wrap64 (bt466.1 + (wrap64 (2 + bt472.1))))).bind fun bt482 => ((spec_l7P.f bt463.1 (wrap64 (bt466.1 + (wrap64 (2 + bt472.1))))).bind fun bt484 => (some ((([(⟨bt478.1,bt478.2⟩ : S75),(⟨bt480.1,bt480.2⟩ : S75),(⟨bt482.1,bt482.2⟩ : S75),(⟨bt484.1,bt484.2⟩ : S75)] : List (S75))),bt475.2.1,bt475.2.2)))))) else (if bt475.1 = 1 then ((spec_l7P.f bt463.1 bt466.1).bind fun bt489 => ((spec_l7P.f (wrap64 (bt463.1 + (wrap64 (2 + bt469.1)))) bt466.1).bind fun bt491 => ((spec_l7P.f bt463.1 (wrap64 (bt466.1 + (wrap64 (2 + bt472.1))))).bind fun bt493 => (some ((([(⟨bt489.1,bt489.2⟩ : S75),(⟨bt491.1,bt491.2⟩ : S75),(⟨bt493.1,bt493.2⟩ : S75)] : List (S75))),bt475.2.1,bt475.2.2))))) else (if bt475.1 = 2 then ((spec_l7P.f bt463.1 bt466.1).bind fun bt498 => ((spec_l7P.f (wrap64 (bt463.1 + (wrap64 (2 * (wrap64 (2 + bt469.1)))))) bt466.1).bind fun bt500 => ((spec_l7P.f (wrap64 (bt463.1 + (wrap64 (2 * (wrap64 (2 + bt469.1)))))) (wrap64 (bt466.1 + (wrap64 (2 + bt472.1))))).bind fun bt502 => ((spec_l7P.f (wrap64 (bt463.1 + (wrap64 (2 + bt469.1)))) (wrap64 (bt466.1 + (wrap64 (2 + bt472.1))))).bind fun bt504 => ((spec_l7P.f (wrap64 (bt463.1 + (wrap64 (2 + bt469.1)))) (wrap64 (bt466.1 + (wrap64 (2 * (wrap64 (2 + bt472.1))))))).bind fun bt506 => ((spec_l7P.f bt463.1 (wrap64 (bt466.1 + (wrap64 (2 * (wrap64 (2 + bt472.1))))))).bind fun bt508 => (some ((([(⟨bt498.1,bt498.2⟩ : S75),(⟨bt500.1,bt500.2⟩ : S75),(⟨bt502.1,bt502.2⟩ : S75),(⟨bt504.1,bt504.2⟩ : S75),(⟨bt506.1,bt506.2⟩ : S75),(⟨bt508.1,bt508.2⟩ : S75)] : List (S75))),bt475.2.1,bt475.2.2)))))))) else ((spec_l7P.f bt463.1 bt466.1).bind fun bt513 => ((spec_l7P.f (wrap64 (bt463.1 + (wrap64 (2 + bt469.1)))) (wrap64 (bt466.1 + 1))).bind fun bt515 => ((spec_l7P.f (wrap64 (bt463.1 + (wrap64 (2 * (wrap64 (2 + bt469.1)))))) bt466.1).bind fun bt517 => ((spec_l7P.f (wrap64 (bt463.1 + (wrap64 (2 + bt469.1)))) (wrap64 (bt466.1 + (wrap64 (2 + bt472.1))))).bind fun bt519 => (some ((([(⟨bt513.1,bt513.2⟩ : S75),(⟨bt515.1,bt515.2⟩ : S75),(⟨bt517.1,bt517.2⟩ : S75),(⟨bt519.1,bt519.2⟩ : S75)] : List (S75))),bt475.2.1,bt475.2.2)))))))))))))
theorem spec_l7Draw.calls (g : Nat) (s0_0 : List Int) (s0_1 : Int) (s0_2 : Int) (r1 : List (S75)) (r2 : Int) (r3 : Int) (w0 w : World) (hI : IsS89 w0 w g s0_0 s0_1 s0_2) (hB : Below w0.heap.size w0 w) (h : spec_l7Draw.f s0_0 s0_1 s0_2 = some (r1,r2,r3)) :
  Calls Try.prog 103 #[.pointer (some ⟨g,0,none⟩)] w fun e w' => ∃ v0_ : Value,e = .returned (v0_) ∧ Kd.R k75 75 w' w.heap.size (fun _ => True) v0_ r1 ∧ IsS89 w0 w' g s0_0 r2 r3 ∧ Below w0.heap.size w0 w' ∧ KeepBut w w' g none:=by
 have HI0:=ak hI
 have HK:=ak (KeepBut.refl w g none)
 have HL:=ak hB.size
 clear hI
 have HW0:=ak hB.size
 have HB:=ak hB
 clear hB
 have H:=h;clear h;unfold spec_l7Draw.f at H
 replace H:=Hd.bd_ H;obtain ⟨⟨t463,t464,t465⟩,A2,H⟩:=H;dsimp only at H
 replace H:=Hd.bd_ H;obtain ⟨⟨t466,t467,t468⟩,A3,H⟩:=H;dsimp only at H
 replace H:=Hd.bd_ H;obtain ⟨⟨t469,t470,t471⟩,A4,H⟩:=H;dsimp only at H
 replace H:=Hd.bd_ H;obtain ⟨⟨t472,t473,t474⟩,A5,H⟩:=H;dsimp only at H
 replace H:=Hd.bd_ H;obtain ⟨⟨t475,t476,t477⟩,A6,H⟩:=H;dsimp only at H
 by_cases c7 : t475 = 0
 ·
  rw [if_pos c7] at H
  have c7b0:=beq_iff_eq.mpr c7
  have c7b1:=bne_eq_false_iff_eq.mpr c7
  clear c7
  replace H:=Hd.bd_ H;obtain ⟨⟨t478,t479⟩,A8,H⟩:=H;dsimp only at H
  replace H:=Hd.bd_ H;obtain ⟨⟨t480,t481⟩,A9,H⟩:=H;dsimp only at H
  replace H:=Hd.bd_ H;obtain ⟨⟨t482,t483⟩,A10,H⟩:=H;dsimp only at H
  replace H:=Hd.bd_ H;obtain ⟨⟨t484,t485⟩,A11,H⟩:=H;dsimp only at H
  generalize hy486 : (([(⟨t478,t479⟩ : S75),(⟨t480,t481⟩ : S75),(⟨t482,t483⟩ : S75),(⟨t484,t485⟩ : S75)] : List (S75))) = y486 at H;have Ny486:=ak hy486.symm;clear hy486;try rw [Option.bind_some] at H
  simp only [Option.some.injEq,Prod.mk.injEq] at H
  obtain ⟨rfl,rfl,rfl⟩:=H
  go_enter Try.func103,Try.ntmps103
  go_wp2_with (first | ((with_reducible refine gate_callee (f:=49) rfl ?_);refine Hd.gl_ 8 Try.func49 #[.pointer (some ⟨g,0,none⟩),.int .i64 8] ?_;(with_reducible refine (spec_l1Below.calls g s0_0 s0_1 s0_2 8 t463 t464 t465 w0 _ ?side1 ?side2 A2.out).mono ?_);(case side1 => exact z1_);(case side2 => exact z2_);rintro e w12 ⟨rfl,hi,hb,hk⟩;refine ⟨_,rfl,?_⟩;replace HK:=z99_;replace HB:=ak (hb);replace HI0:=ak (hi);clear hb hk hi) | ((with_reducible refine gate_callee (f:=49) rfl ?_);refine Hd.gl_ 10 Try.func49 #[.pointer (some ⟨g,0,none⟩),.int .i64 8] ?_;(with_reducible refine (spec_l1Below.calls g s0_0 t464 t465 8 t466 t467 t468 w0 _ ?side1 ?side2 A3.out).mono ?_);(case side1 => exact z1_);(case side2 => exact z2_);rintro e w13 ⟨rfl,hi,hb,hk⟩;refine ⟨_,rfl,?_⟩;replace HK:=z99_;replace HB:=ak (hb);replace HI0:=ak (hi);clear hb hk hi) | ((with_reducible refine gate_callee (f:=49) rfl ?_);refine Hd.gl_ 12 Try.func49 #[.pointer (some ⟨g,0,none⟩),.int .i64 6] ?_;(with_reducible refine (spec_l1Below.calls g s0_0 t467 t468 6 t469 t470 t471 w0 _ ?side1 ?side2 A4.out).mono ?_);(case side1 => exact z1_);(case side2 => exact z2_);rintro e w14 ⟨rfl,hi,hb,hk⟩;refine ⟨_,rfl,?_⟩;replace HK:=z99_;replace HB:=ak (hb);replace HI0:=ak (hi);clear hb hk hi) | ((with_reducible refine gate_callee (f:=49) rfl ?_);refine Hd.gl_ 15 Try.func49 #[.pointer (some ⟨g,0,none⟩),.int .i64 6] ?_;(with_reducible refine (spec_l1Below.calls g s0_0 t470 t471 6 t472 t473 t474 w0 _ ?side1 ?side2 A5.out).mono ?_);(case side1 => exact z1_);(case side2 => exact z2_);rintro e w15 ⟨rfl,hi,hb,hk⟩;refine ⟨_,rfl,?_⟩;replace HK:=z99_;replace HB:=ak (hb);replace HI0:=ak (hi);clear hb hk hi) | ((with_reducible refine gate_callee (f:=49) rfl ?_);refine Hd.gl_ 18 Try.func49 #[.pointer (some ⟨g,0,none⟩),.int .i64 4] ?_;(with_reducible refine (spec_l1Below.calls g s0_0 t473 t474 4 t475 t476 t477 w0 _ ?side1 ?side2 A6.out).mono ?_);(case side1 => exact z1_);(case side2 => exact z2_);rintro e w16 ⟨rfl,hi,hb,hk⟩;refine ⟨_,rfl,?_⟩;replace HK:=z99_;replace HB:=ak (hb);replace HI0:=ak (hi);clear hb hk hi) | ((with_reducible refine gate_callee (f:=112) rfl ?_);refine Hd.gl_ 23 Try.func112 #[.int .i64 t463,.int .i64 t466] ?_;(with_reducible refine (spec_l7P.calls t463 t466 t478 t479 _ A8.out).mono ?_);rintro e w17 ⟨rfl,hb⟩;refine ⟨_,rfl,?_⟩;replace HK:=z98_;replace HB:=ak (below_step z2_ hb);replace HI0:=ak (IsS89.below z1_ hb);clear hb) | ((with_reducible refine gate_callee (f:=112) rfl ?_);refine Hd.gl_ 28 Try.func112 #[.int .i64 (wrap64 (t463 + (wrap64 (2 + t469)))),.int .i64 t466] ?_;(with_reducible refine (spec_l7P.calls (wrap64 (t463 + (wrap64 (2 + t469)))) t466 t480 t481 _ A9.out).mono ?_);rintro e w18 ⟨rfl,hb⟩;refine ⟨_,rfl,?_⟩;replace HK:=z98_;replace HB:=ak (below_step z2_ hb);replace HI0:=ak (IsS89.below z1_ hb);clear hb) | ((with_reducible refine gate_callee (f:=112) rfl ?_);refine Hd.gl_ 35 Try.func112 #[.int .i64 (wrap64 (t463 + (wrap64 (2 + t469)))),.int .i64 (wrap64 (t466 + (wrap64 (2 + t472))))] ?_;(with_reducible refine (spec_l7P.calls (wrap64 (t463 + (wrap64 (2 + t469)))) (wrap64 (t466 + (wrap64 (2 + t472)))) t482 t483 _ A10.out).mono ?_);rintro e w19 ⟨rfl,hb⟩;refine ⟨_,rfl,?_⟩;replace HK:=z98_;replace HB:=ak (below_step z2_ hb);replace HI0:=ak (IsS89.below z1_ hb);clear hb) | ((with_reducible refine gate_callee (f:=112) rfl ?_);refine Hd.gl_ 40 Try.func112 #[.int .i64 t463,.int .i64 (wrap64 (t466 + (wrap64 (2 + t472))))] ?_;(with_reducible refine (spec_l7P.calls t463 (wrap64 (t466 + (wrap64 (2 + t472)))) t484 t485 _ A11.out).mono ?_);rintro e w20 ⟨rfl,hb⟩;refine ⟨_,rfl,?_⟩;replace HK:=z98_;replace HB:=ak (below_step z2_ hb);replace HI0:=ak (IsS89.below z1_ hb);clear hb) | ((with_reducible refine gate_dst (N:=41) rfl ?_);refine Kd.R_lit k75 _ 75 ?hg (N:=41) ?hd (xs:=([(⟨t478,t479⟩ : S75),(⟨t480,t481⟩ : S75),(⟨t482,t483⟩ : S75),(⟨t484,t485⟩ : S75)] : List (S75))) (inner:=[.int .i64 t478,.int .i64 t479,.int .i64 t480,.int .i64 t481,.int .i64 t482,.int .i64 t483,.int .i64 t484,.int .i64 t485]) (ok:=fun _ => True) (okp:=fun _ => True) ?hr ?hp (fun _ hk => hk) trivial (Below.refl _ _) (Nat.le_refl _) (by simp) ?_;(case hd => rfl);(case hg => rfl);(case hr => exact z31_);(case hp => exact (Reps.c2 (show Kd.M k75 _ _ _ (⟨t478,t479⟩ : S75) [.int .i64 t478,.int .i64 t479] from (k75_mkM _ _ _ (⟨t478,t479⟩ : S75) )) (Reps.c2 (show Kd.M k75 _ _ _ (⟨t480,t481⟩ : S75) [.int .i64 t480,.int .i64 t481] from (k75_mkM _ _ _ (⟨t480,t481⟩ : S75) )) (Reps.c2 (show Kd.M k75 _ _ _ (⟨t482,t483⟩ : S75) [.int .i64 t482,.int .i64 t483] from (k75_mkM _ _ _ (⟨t482,t483⟩ : S75) )) (Reps.c2 (show Kd.M k75 _ _ _ (⟨t484,t485⟩ : S75) [.int .i64 t484,.int .i64 t485] from (k75_mkM _ _ _ (⟨t484,t485⟩ : S75) )) (Reps.none _ _))))));intro v487 w21 ho22 hb hg_ hnew_;clear hg_ hnew_;(first | rw [← Ny486.out] at ho22 | (simp only [Int.reduceToNat] at ho22;rw [← Ny486.out] at ho22));have HO488:=ak (Kd.R_lower ho22 (keep_size (w:=w) (g:=g) (row:=none) z0_));replace HK:=z98_;replace HB:=ak (below_step z2_ hb);replace HI0:=ak (IsS89.below z1_ hb);clear hb ho22))
  go_ret
  exact ⟨_,Hd.e_,z6_ HO488,z1_,z2_,z0_⟩
 rw [if_neg c7] at H
 have c7b0:=beq_eq_false_iff_ne.mpr c7
 have c7b1:=bne_iff_ne.mpr c7
 by_cases c23 : t475 = 1
 ·
  rw [if_pos c23] at H
  have c23b0:=beq_iff_eq.mpr c23
  have c23b1:=bne_eq_false_iff_eq.mpr c23
  clear c23
  replace H:=Hd.bd_ H;obtain ⟨⟨t489,t490⟩,A24,H⟩:=H;dsimp only at H
  replace H:=Hd.bd_ H;obtain ⟨⟨t491,t492⟩,A25,H⟩:=H;dsimp only at H
  replace H:=Hd.bd_ H;obtain ⟨⟨t493,t494⟩,A26,H⟩:=H;dsimp only at H
  generalize hy495 : (([(⟨t489,t490⟩ : S75),(⟨t491,t492⟩ : S75),(⟨t493,t494⟩ : S75)] : List (S75))) = y495 at H;have Ny495:=ak hy495.symm;clear hy495;try rw [Option.bind_some] at H
  simp only [Option.some.injEq,Prod.mk.injEq] at H
  obtain ⟨rfl,rfl,rfl⟩:=H
  go_enter Try.func103,Try.ntmps103
  go_wp2_with (first | ((with_reducible refine gate_callee (f:=49) rfl ?_);refine Hd.gl_ 8 Try.func49 #[.pointer (some ⟨g,0,none⟩),.int .i64 8] ?_;(with_reducible refine (spec_l1Below.calls g s0_0 s0_1 s0_2 8 t463 t464 t465 w0 _ ?side1 ?side2 A2.out).mono ?_);(case side1 => exact z1_);(case side2 => exact z2_);rintro e w27 ⟨rfl,hi,hb,hk⟩;refine ⟨_,rfl,?_⟩;replace HK:=z99_;replace HB:=ak (hb);replace HI0:=ak (hi);clear hb hk hi) | ((with_reducible refine gate_callee (f:=49) rfl ?_);refine Hd.gl_ 10 Try.func49 #[.pointer (some ⟨g,0,none⟩),.int .i64 8] ?_;(with_reducible refine (spec_l1Below.calls g s0_0 t464 t465 8 t466 t467 t468 w0 _ ?side1 ?side2 A3.out).mono ?_);(case side1 => exact z1_);(case side2 => exact z2_);rintro e w28 ⟨rfl,hi,hb,hk⟩;refine ⟨_,rfl,?_⟩;replace HK:=z99_;replace HB:=ak (hb);replace HI0:=ak (hi);clear hb hk hi) | ((with_reducible refine gate_callee (f:=49) rfl ?_);refine Hd.gl_ 12 Try.func49 #[.pointer (some ⟨g,0,none⟩),.int .i64 6] ?_;(with_reducible refine (spec_l1Below.calls g s0_0 t467 t468 6 t469 t470 t471 w0 _ ?side1 ?side2 A4.out).mono ?_);(case side1 => exact z1_);(case side2 => exact z2_);rintro e w29 ⟨rfl,hi,hb,hk⟩;refine ⟨_,rfl,?_⟩;replace HK:=z99_;replace HB:=ak (hb);replace HI0:=ak (hi);clear hb hk hi) | ((with_reducible refine gate_callee (f:=49) rfl ?_);refine Hd.gl_ 15 Try.func49 #[.pointer (some ⟨g,0,none⟩),.int .i64 6] ?_;(with_reducible refine (spec_l1Below.calls g s0_0 t470 t471 6 t472 t473 t474 w0 _ ?side1 ?side2 A5.out).mono ?_);(case side1 => exact z1_);(case side2 => exact z2_);rintro e w30 ⟨rfl,hi,hb,hk⟩;refine ⟨_,rfl,?_⟩;replace HK:=z99_;replace HB:=ak (hb);replace HI0:=ak (hi);clear hb hk hi) | ((with_reducible refine gate_callee (f:=49) rfl ?_);refine Hd.gl_ 18 Try.func49 #[.pointer (some ⟨g,0,none⟩),.int .i64 4] ?_;(with_reducible refine (spec_l1Below.calls g s0_0 t473 t474 4 t475 t476 t477 w0 _ ?side1 ?side2 A6.out).mono ?_);(case side1 => exact z1_);(case side2 => exact z2_);rintro e w31 ⟨rfl,hi,hb,hk⟩;refine ⟨_,rfl,?_⟩;replace HK:=z99_;replace HB:=ak (hb);replace HI0:=ak (hi);clear hb hk hi) | ((with_reducible refine gate_callee (f:=112) rfl ?_);refine Hd.gl_ 46 Try.func112 #[.int .i64 t463,.int .i64 t466] ?_;(with_reducible refine (spec_l7P.calls t463 t466 t489 t490 _ A24.out).mono ?_);rintro e w32 ⟨rfl,hb⟩;refine ⟨_,rfl,?_⟩;replace HK:=z98_;replace HB:=ak (below_step z2_ hb);replace HI0:=ak (IsS89.below z1_ hb);clear hb) | ((with_reducible refine gate_callee (f:=112) rfl ?_);refine Hd.gl_ 51 Try.func112 #[.int .i64 (wrap64 (t463 + (wrap64 (2 + t469)))),.int .i64 t466] ?_;(with_reducible refine (spec_l7P.calls (wrap64 (t463 + (wrap64 (2 + t469)))) t466 t491 t492 _ A25.out).mono ?_);rintro e w33 ⟨rfl,hb⟩;refine ⟨_,rfl,?_⟩;replace HK:=z98_;replace HB:=ak (below_step z2_ hb);replace HI0:=ak (IsS89.below z1_ hb);clear hb) | ((with_reducible refine gate_callee (f:=112) rfl ?_);refine Hd.gl_ 56 Try.func112 #[.int .i64 t463,.int .i64 (wrap64 (t466 + (wrap64 (2 + t472))))] ?_;(with_reducible refine (spec_l7P.calls t463 (wrap64 (t466 + (wrap64 (2 + t472)))) t493 t494 _ A26.out).mono ?_);rintro e w34 ⟨rfl,hb⟩;refine ⟨_,rfl,?_⟩;replace HK:=z98_;replace HB:=ak (below_step z2_ hb);replace HI0:=ak (IsS89.below z1_ hb);clear hb) | ((with_reducible refine gate_dst (N:=57) rfl ?_);refine Kd.R_lit k75 _ 75 ?hg (N:=57) ?hd (xs:=([(⟨t489,t490⟩ : S75),(⟨t491,t492⟩ : S75),(⟨t493,t494⟩ : S75)] : List (S75))) (inner:=[.int .i64 t489,.int .i64 t490,.int .i64 t491,.int .i64 t492,.int .i64 t493,.int .i64 t494]) (ok:=fun _ => True) (okp:=fun _ => True) ?hr ?hp (fun _ hk => hk) trivial (Below.refl _ _) (Nat.le_refl _) (by simp) ?_;(case hd => rfl);(case hg => rfl);(case hr => exact z31_);(case hp => exact (Reps.c2 (show Kd.M k75 _ _ _ (⟨t489,t490⟩ : S75) [.int .i64 t489,.int .i64 t490] from (k75_mkM _ _ _ (⟨t489,t490⟩ : S75) )) (Reps.c2 (show Kd.M k75 _ _ _ (⟨t491,t492⟩ : S75) [.int .i64 t491,.int .i64 t492] from (k75_mkM _ _ _ (⟨t491,t492⟩ : S75) )) (Reps.c2 (show Kd.M k75 _ _ _ (⟨t493,t494⟩ : S75) [.int .i64 t493,.int .i64 t494] from (k75_mkM _ _ _ (⟨t493,t494⟩ : S75) )) (Reps.none _ _)))));intro v496 w35 ho36 hb hg_ hnew_;clear hg_ hnew_;(first | rw [← Ny495.out] at ho36 | (simp only [Int.reduceToNat] at ho36;rw [← Ny495.out] at ho36));have HO497:=ak (Kd.R_lower ho36 (keep_size (w:=w) (g:=g) (row:=none) z0_));replace HK:=z98_;replace HB:=ak (below_step z2_ hb);replace HI0:=ak (IsS89.below z1_ hb);clear hb ho36))
  go_ret
  exact ⟨_,Hd.e_,z6_ HO497,z1_,z2_,z0_⟩
 rw [if_neg c23] at H
 have c23b0:=beq_eq_false_iff_ne.mpr c23
 have c23b1:=bne_iff_ne.mpr c23
 by_cases c37 : t475 = 2;rotate_left
 ·
  rw [if_neg c37] at H
  have c37b0:=beq_eq_false_iff_ne.mpr c37
  have c37b1:=bne_iff_ne.mpr c37
  replace H:=Hd.bd_ H;obtain ⟨⟨t513,t514⟩,A57,H⟩:=H;dsimp only at H
  replace H:=Hd.bd_ H;obtain ⟨⟨t515,t516⟩,A58,H⟩:=H;dsimp only at H
  replace H:=Hd.bd_ H;obtain ⟨⟨t517,t518⟩,A59,H⟩:=H;dsimp only at H
  replace H:=Hd.bd_ H;obtain ⟨⟨t519,t520⟩,A60,H⟩:=H;dsimp only at H
  generalize hy521 : (([(⟨t513,t514⟩ : S75),(⟨t515,t516⟩ : S75),(⟨t517,t518⟩ : S75),(⟨t519,t520⟩ : S75)] : List (S75))) = y521 at H;have Ny521:=ak hy521.symm;clear hy521;try rw [Option.bind_some] at H
  simp only [Option.some.injEq,Prod.mk.injEq] at H
  obtain ⟨rfl,rfl,rfl⟩:=H
  go_enter Try.func103,Try.ntmps103
  go_wp2_with (first | ((with_reducible refine gate_callee (f:=49) rfl ?_);refine Hd.gl_ 8 Try.func49 #[.pointer (some ⟨g,0,none⟩),.int .i64 8] ?_;(with_reducible refine (spec_l1Below.calls g s0_0 s0_1 s0_2 8 t463 t464 t465 w0 _ ?side1 ?side2 A2.out).mono ?_);(case side1 => exact z1_);(case side2 => exact z2_);rintro e w61 ⟨rfl,hi,hb,hk⟩;refine ⟨_,rfl,?_⟩;replace HK:=z99_;replace HB:=ak (hb);replace HI0:=ak (hi);clear hb hk hi) | ((with_reducible refine gate_callee (f:=49) rfl ?_);refine Hd.gl_ 10 Try.func49 #[.pointer (some ⟨g,0,none⟩),.int .i64 8] ?_;(with_reducible refine (spec_l1Below.calls g s0_0 t464 t465 8 t466 t467 t468 w0 _ ?side1 ?side2 A3.out).mono ?_);(case side1 => exact z1_);(case side2 => exact z2_);rintro e w62 ⟨rfl,hi,hb,hk⟩;refine ⟨_,rfl,?_⟩;replace HK:=z99_;replace HB:=ak (hb);replace HI0:=ak (hi);clear hb hk hi) | ((with_reducible refine gate_callee (f:=49) rfl ?_);refine Hd.gl_ 12 Try.func49 #[.pointer (some ⟨g,0,none⟩),.int .i64 6] ?_;(with_reducible refine (spec_l1Below.calls g s0_0 t467 t468 6 t469 t470 t471 w0 _ ?side1 ?side2 A4.out).mono ?_);(case side1 => exact z1_);(case side2 => exact z2_);rintro e w63 ⟨rfl,hi,hb,hk⟩;refine ⟨_,rfl,?_⟩;replace HK:=z99_;replace HB:=ak (hb);replace HI0:=ak (hi);clear hb hk hi) | ((with_reducible refine gate_callee (f:=49) rfl ?_);refine Hd.gl_ 15 Try.func49 #[.pointer (some ⟨g,0,none⟩),.int .i64 6] ?_;(with_reducible refine (spec_l1Below.calls g s0_0 t470 t471 6 t472 t473 t474 w0 _ ?side1 ?side2 A5.out).mono ?_);(case side1 => exact z1_);(case side2 => exact z2_);rintro e w64 ⟨rfl,hi,hb,hk⟩;refine ⟨_,rfl,?_⟩;replace HK:=z99_;replace HB:=ak (hb);replace HI0:=ak (hi);clear hb hk hi) | ((with_reducible refine gate_callee (f:=49) rfl ?_);refine Hd.gl_ 18 Try.func49 #[.pointer (some ⟨g,0,none⟩),.int .i64 4] ?_;(with_reducible refine (spec_l1Below.calls g s0_0 t473 t474 4 t475 t476 t477 w0 _ ?side1 ?side2 A6.out).mono ?_);(case side1 => exact z1_);(case side2 => exact z2_);rintro e w65 ⟨rfl,hi,hb,hk⟩;refine ⟨_,rfl,?_⟩;replace HK:=z99_;replace HB:=ak (hb);replace HI0:=ak (hi);clear hb hk hi) | ((with_reducible refine gate_callee (f:=112) rfl ?_);refine Hd.gl_ 101 Try.func112 #[.int .i64 t463,.int .i64 t466] ?_;(with_reducible refine (spec_l7P.calls t463 t466 t513 t514 _ A57.out).mono ?_);rintro e w66 ⟨rfl,hb⟩;refine ⟨_,rfl,?_⟩;replace HK:=z98_;replace HB:=ak (below_step z2_ hb);replace HI0:=ak (IsS89.below z1_ hb);clear hb) | ((with_reducible refine gate_callee (f:=112) rfl ?_);refine Hd.gl_ 107 Try.func112 #[.int .i64 (wrap64 (t463 + (wrap64 (2 + t469)))),.int .i64 (wrap64 (t466 + 1))] ?_;(with_reducible refine (spec_l7P.calls (wrap64 (t463 + (wrap64 (2 + t469)))) (wrap64 (t466 + 1)) t515 t516 _ A58.out).mono ?_);rintro e w67 ⟨rfl,hb⟩;refine ⟨_,rfl,?_⟩;replace HK:=z98_;replace HB:=ak (below_step z2_ hb);replace HI0:=ak (IsS89.below z1_ hb);clear hb) | ((with_reducible refine gate_callee (f:=112) rfl ?_);refine Hd.gl_ 113 Try.func112 #[.int .i64 (wrap64 (t463 + (wrap64 (2 * (wrap64 (2 + t469)))))),.int .i64 t466] ?_;(with_reducible refine (spec_l7P.calls (wrap64 (t463 + (wrap64 (2 * (wrap64 (2 + t469)))))) t466 t517 t518 _ A59.out).mono ?_);rintro e w68 ⟨rfl,hb⟩;refine ⟨_,rfl,?_⟩;replace HK:=z98_;replace HB:=ak (below_step z2_ hb);replace HI0:=ak (IsS89.below z1_ hb);clear hb) | ((with_reducible refine gate_callee (f:=112) rfl ?_);refine Hd.gl_ 120 Try.func112 #[.int .i64 (wrap64 (t463 + (wrap64 (2 + t469)))),.int .i64 (wrap64 (t466 + (wrap64 (2 + t472))))] ?_;(with_reducible refine (spec_l7P.calls (wrap64 (t463 + (wrap64 (2 + t469)))) (wrap64 (t466 + (wrap64 (2 + t472)))) t519 t520 _ A60.out).mono ?_);rintro e w69 ⟨rfl,hb⟩;refine ⟨_,rfl,?_⟩;replace HK:=z98_;replace HB:=ak (below_step z2_ hb);replace HI0:=ak (IsS89.below z1_ hb);clear hb) | ((with_reducible refine gate_dst (N:=121) rfl ?_);refine Kd.R_lit k75 _ 75 ?hg (N:=121) ?hd (xs:=([(⟨t513,t514⟩ : S75),(⟨t515,t516⟩ : S75),(⟨t517,t518⟩ : S75),(⟨t519,t520⟩ : S75)] : List (S75))) (inner:=[.int .i64 t513,.int .i64 t514,.int .i64 t515,.int .i64 t516,.int .i64 t517,.int .i64 t518,.int .i64 t519,.int .i64 t520]) (ok:=fun _ => True) (okp:=fun _ => True) ?hr ?hp (fun _ hk => hk) trivial (Below.refl _ _) (Nat.le_refl _) (by simp) ?_;(case hd => rfl);(case hg => rfl);(case hr => exact z31_);(case hp => exact (Reps.c2 (show Kd.M k75 _ _ _ (⟨t513,t514⟩ : S75) [.int .i64 t513,.int .i64 t514] from (k75_mkM _ _ _ (⟨t513,t514⟩ : S75) )) (Reps.c2 (show Kd.M k75 _ _ _ (⟨t515,t516⟩ : S75) [.int .i64 t515,.int .i64 t516] from (k75_mkM _ _ _ (⟨t515,t516⟩ : S75) )) (Reps.c2 (show Kd.M k75 _ _ _ (⟨t517,t518⟩ : S75) [.int .i64 t517,.int .i64 t518] from (k75_mkM _ _ _ (⟨t517,t518⟩ : S75) )) (Reps.c2 (show Kd.M k75 _ _ _ (⟨t519,t520⟩ : S75) [.int .i64 t519,.int .i64 t520] from (k75_mkM _ _ _ (⟨t519,t520⟩ : S75) )) (Reps.none _ _))))));intro v522 w70 ho71 hb hg_ hnew_;clear hg_ hnew_;(first | rw [← Ny521.out] at ho71 | (simp only [Int.reduceToNat] at ho71;rw [← Ny521.out] at ho71));have HO523:=ak (Kd.R_lower ho71 (keep_size (w:=w) (g:=g) (row:=none) z0_));replace HK:=z98_;replace HB:=ak (below_step z2_ hb);replace HI0:=ak (IsS89.below z1_ hb);clear hb ho71))
  go_ret
  exact ⟨_,Hd.e_,z6_ HO523,z1_,z2_,z0_⟩
 rw [if_pos c37] at H
 have c37b0:=beq_iff_eq.mpr c37
 have c37b1:=bne_eq_false_iff_eq.mpr c37
 clear c37
 replace H:=Hd.bd_ H;obtain ⟨⟨t498,t499⟩,A38,H⟩:=H;dsimp only at H
 replace H:=Hd.bd_ H;obtain ⟨⟨t500,t501⟩,A39,H⟩:=H;dsimp only at H
 replace H:=Hd.bd_ H;obtain ⟨⟨t502,t503⟩,A40,H⟩:=H;dsimp only at H
 replace H:=Hd.bd_ H;obtain ⟨⟨t504,t505⟩,A41,H⟩:=H;dsimp only at H
 replace H:=Hd.bd_ H;obtain ⟨⟨t506,t507⟩,A42,H⟩:=H;dsimp only at H
 replace H:=Hd.bd_ H;obtain ⟨⟨t508,t509⟩,A43,H⟩:=H;dsimp only at H
 generalize hy510 : (([(⟨t498,t499⟩ : S75),(⟨t500,t501⟩ : S75),(⟨t502,t503⟩ : S75),(⟨t504,t505⟩ : S75),(⟨t506,t507⟩ : S75),(⟨t508,t509⟩ : S75)] : List (S75))) = y510 at H;have Ny510:=ak hy510.symm;clear hy510;try rw [Option.bind_some] at H
 simp only [Option.some.injEq,Prod.mk.injEq] at H
 obtain ⟨rfl,rfl,rfl⟩:=H
 go_enter Try.func103,Try.ntmps103
 go_wp2_with (first | ((with_reducible refine gate_callee (f:=49) rfl ?_);refine Hd.gl_ 8 Try.func49 #[.pointer (some ⟨g,0,none⟩),.int .i64 8] ?_;(with_reducible refine (spec_l1Below.calls g s0_0 s0_1 s0_2 8 t463 t464 t465 w0 _ ?side1 ?side2 A2.out).mono ?_);(case side1 => exact z1_);(case side2 => exact z2_);rintro e w44 ⟨rfl,hi,hb,hk⟩;refine ⟨_,rfl,?_⟩;replace HK:=z99_;replace HB:=ak (hb);replace HI0:=ak (hi);clear hb hk hi) | ((with_reducible refine gate_callee (f:=49) rfl ?_);refine Hd.gl_ 10 Try.func49 #[.pointer (some ⟨g,0,none⟩),.int .i64 8] ?_;(with_reducible refine (spec_l1Below.calls g s0_0 t464 t465 8 t466 t467 t468 w0 _ ?side1 ?side2 A3.out).mono ?_);(case side1 => exact z1_);(case side2 => exact z2_);rintro e w45 ⟨rfl,hi,hb,hk⟩;refine ⟨_,rfl,?_⟩;replace HK:=z99_;replace HB:=ak (hb);replace HI0:=ak (hi);clear hb hk hi) | ((with_reducible refine gate_callee (f:=49) rfl ?_);refine Hd.gl_ 12 Try.func49 #[.pointer (some ⟨g,0,none⟩),.int .i64 6] ?_;(with_reducible refine (spec_l1Below.calls g s0_0 t467 t468 6 t469 t470 t471 w0 _ ?side1 ?side2 A4.out).mono ?_);(case side1 => exact z1_);(case side2 => exact z2_);rintro e w46 ⟨rfl,hi,hb,hk⟩;refine ⟨_,rfl,?_⟩;replace HK:=z99_;replace HB:=ak (hb);replace HI0:=ak (hi);clear hb hk hi) | ((with_reducible refine gate_callee (f:=49) rfl ?_);refine Hd.gl_ 15 Try.func49 #[.pointer (some ⟨g,0,none⟩),.int .i64 6] ?_;(with_reducible refine (spec_l1Below.calls g s0_0 t470 t471 6 t472 t473 t474 w0 _ ?side1 ?side2 A5.out).mono ?_);(case side1 => exact z1_);(case side2 => exact z2_);rintro e w47 ⟨rfl,hi,hb,hk⟩;refine ⟨_,rfl,?_⟩;replace HK:=z99_;replace HB:=ak (hb);replace HI0:=ak (hi);clear hb hk hi) | ((with_reducible refine gate_callee (f:=49) rfl ?_);refine Hd.gl_ 18 Try.func49 #[.pointer (some ⟨g,0,none⟩),.int .i64 4] ?_;(with_reducible refine (spec_l1Below.calls g s0_0 t473 t474 4 t475 t476 t477 w0 _ ?side1 ?side2 A6.out).mono ?_);(case side1 => exact z1_);(case side2 => exact z2_);rintro e w48 ⟨rfl,hi,hb,hk⟩;refine ⟨_,rfl,?_⟩;replace HK:=z99_;replace HB:=ak (hb);replace HI0:=ak (hi);clear hb hk hi) | ((with_reducible refine gate_callee (f:=112) rfl ?_);refine Hd.gl_ 62 Try.func112 #[.int .i64 t463,.int .i64 t466] ?_;(with_reducible refine (spec_l7P.calls t463 t466 t498 t499 _ A38.out).mono ?_);rintro e w49 ⟨rfl,hb⟩;refine ⟨_,rfl,?_⟩;replace HK:=z98_;replace HB:=ak (below_step z2_ hb);replace HI0:=ak (IsS89.below z1_ hb);clear hb) | ((with_reducible refine gate_callee (f:=112) rfl ?_);refine Hd.gl_ 68 Try.func112 #[.int .i64 (wrap64 (t463 + (wrap64 (2 * (wrap64 (2 + t469)))))),.int .i64 t466] ?_;(with_reducible refine (spec_l7P.calls (wrap64 (t463 + (wrap64 (2 * (wrap64 (2 + t469)))))) t466 t500 t501 _ A39.out).mono ?_);rintro e w50 ⟨rfl,hb⟩;refine ⟨_,rfl,?_⟩;replace HK:=z98_;replace HB:=ak (below_step z2_ hb);replace HI0:=ak (IsS89.below z1_ hb);clear hb) | ((with_reducible refine gate_callee (f:=112) rfl ?_);refine Hd.gl_ 76 Try.func112 #[.int .i64 (wrap64 (t463 + (wrap64 (2 * (wrap64 (2 + t469)))))),.int .i64 (wrap64 (t466 + (wrap64 (2 + t472))))] ?_;(with_reducible refine (spec_l7P.calls (wrap64 (t463 + (wrap64 (2 * (wrap64 (2 + t469)))))) (wrap64 (t466 + (wrap64 (2 + t472)))) t502 t503 _ A40.out).mono ?_);rintro e w51 ⟨rfl,hb⟩;refine ⟨_,rfl,?_⟩;replace HK:=z98_;replace HB:=ak (below_step z2_ hb);replace HI0:=ak (IsS89.below z1_ hb);clear hb) | ((with_reducible refine gate_callee (f:=112) rfl ?_);refine Hd.gl_ 83 Try.func112 #[.int .i64 (wrap64 (t463 + (wrap64 (2 + t469)))),.int .i64 (wrap64 (t466 + (wrap64 (2 + t472))))] ?_;(with_reducible refine (spec_l7P.calls (wrap64 (t463 + (wrap64 (2 + t469)))) (wrap64 (t466 + (wrap64 (2 + t472)))) t504 t505 _ A41.out).mono ?_);rintro e w52 ⟨rfl,hb⟩;refine ⟨_,rfl,?_⟩;replace HK:=z98_;replace HB:=ak (below_step z2_ hb);replace HI0:=ak (IsS89.below z1_ hb);clear hb) | ((with_reducible refine gate_callee (f:=112) rfl ?_);refine Hd.gl_ 91 Try.func112 #[.int .i64 (wrap64 (t463 + (wrap64 (2 + t469)))),.int .i64 (wrap64 (t466 + (wrap64 (2 * (wrap64 (2 + t472))))))] ?_;(with_reducible refine (spec_l7P.calls (wrap64 (t463 + (wrap64 (2 + t469)))) (wrap64 (t466 + (wrap64 (2 * (wrap64 (2 + t472)))))) t506 t507 _ A42.out).mono ?_);rintro e w53 ⟨rfl,hb⟩;refine ⟨_,rfl,?_⟩;replace HK:=z98_;replace HB:=ak (below_step z2_ hb);replace HI0:=ak (IsS89.below z1_ hb);clear hb) | ((with_reducible refine gate_callee (f:=112) rfl ?_);refine Hd.gl_ 97 Try.func112 #[.int .i64 t463,.int .i64 (wrap64 (t466 + (wrap64 (2 * (wrap64 (2 + t472))))))] ?_;(with_reducible refine (spec_l7P.calls t463 (wrap64 (t466 + (wrap64 (2 * (wrap64 (2 + t472)))))) t508 t509 _ A43.out).mono ?_);rintro e w54 ⟨rfl,hb⟩;refine ⟨_,rfl,?_⟩;replace HK:=z98_;replace HB:=ak (below_step z2_ hb);replace HI0:=ak (IsS89.below z1_ hb);clear hb) | ((with_reducible refine gate_dst (N:=98) rfl ?_);refine Kd.R_lit k75 _ 75 ?hg (N:=98) ?hd (xs:=([(⟨t498,t499⟩ : S75),(⟨t500,t501⟩ : S75),(⟨t502,t503⟩ : S75),(⟨t504,t505⟩ : S75),(⟨t506,t507⟩ : S75),(⟨t508,t509⟩ : S75)] : List (S75))) (inner:=[.int .i64 t498,.int .i64 t499,.int .i64 t500,.int .i64 t501,.int .i64 t502,.int .i64 t503,.int .i64 t504,.int .i64 t505,.int .i64 t506,.int .i64 t507,.int .i64 t508,.int .i64 t509]) (ok:=fun _ => True) (okp:=fun _ => True) ?hr ?hp (fun _ hk => hk) trivial (Below.refl _ _) (Nat.le_refl _) (by simp) ?_;(case hd => rfl);(case hg => rfl);(case hr => exact z31_);(case hp => exact (Reps.c2 (show Kd.M k75 _ _ _ (⟨t498,t499⟩ : S75) [.int .i64 t498,.int .i64 t499] from (k75_mkM _ _ _ (⟨t498,t499⟩ : S75) )) (Reps.c2 (show Kd.M k75 _ _ _ (⟨t500,t501⟩ : S75) [.int .i64 t500,.int .i64 t501] from (k75_mkM _ _ _ (⟨t500,t501⟩ : S75) )) (Reps.c2 (show Kd.M k75 _ _ _ (⟨t502,t503⟩ : S75) [.int .i64 t502,.int .i64 t503] from (k75_mkM _ _ _ (⟨t502,t503⟩ : S75) )) (Reps.c2 (show Kd.M k75 _ _ _ (⟨t504,t505⟩ : S75) [.int .i64 t504,.int .i64 t505] from (k75_mkM _ _ _ (⟨t504,t505⟩ : S75) )) (Reps.c2 (show Kd.M k75 _ _ _ (⟨t506,t507⟩ : S75) [.int .i64 t506,.int .i64 t507] from (k75_mkM _ _ _ (⟨t506,t507⟩ : S75) )) (Reps.c2 (show Kd.M k75 _ _ _ (⟨t508,t509⟩ : S75) [.int .i64 t508,.int .i64 t509] from (k75_mkM _ _ _ (⟨t508,t509⟩ : S75) )) (Reps.none _ _))))))));intro v511 w55 ho56 hb hg_ hnew_;clear hg_ hnew_;(first | rw [← Ny510.out] at ho56 | (simp only [Int.reduceToNat] at ho56;rw [← Ny510.out] at ho56));have HO512:=ak (Kd.R_lower ho56 (keep_size (w:=w) (g:=g) (row:=none) z0_));replace HK:=z98_;replace HB:=ak (below_step z2_ hb);replace HI0:=ak (IsS89.below z1_ hb);clear hb ho56))
 go_ret
 exact ⟨_,Hd.e_,z6_ HO512,z1_,z2_,z0_⟩
def spec_l9Draw.f (k : Nat) (s0_0 : List Int) (s0_1 : Int) (s0_2 : Int) (a1 : Int) : Option (Int × Int × Int × ByteArray × (List (S75)) × Int × Int):=(spec_l1Below.f s0_0 s0_1 s0_2 3).bind fun bt525 => ((spec_l1Below.f s0_0 bt525.2.1 bt525.2.2 6).bind fun bt528 => ((spec_l9Name.f s0_0 bt528.2.1 bt528.2.2).bind fun bt531 => (if (wrap64 (1 + bt525.1)) = 1 then ((spec_l4Draw.f s0_0 bt531.2.1 bt531.2.2).bind fun bt535 => (some (a1,wrap64 (1 + bt525.1),bt528.1,bt531.1,(([(⟨bt535.1,bt535.2.1⟩ : S75)] : List (S75))),bt535.2.2.1,bt535.2.2.2))) else (if (wrap64 (1 + bt525.1)) = 2 then ((spec_l6Draw.f k s0_0 bt531.2.1 bt531.2.2).bind fun bt542 => (some (a1,wrap64 (1 + bt525.1),bt528.1,bt531.1,bt542.1,bt542.2.1,bt542.2.2))) else ((spec_l7Draw.f s0_0 bt531.2.1 bt531.2.2).bind fun bt547 => (some (a1,wrap64 (1 + bt525.1),bt528.1,bt531.1,bt547.1,bt547.2.1,bt547.2.2)))))))
theorem spec_l9Draw.calls (k : Nat) (g : Nat) (s0_0 : List Int) (s0_1 : Int) (s0_2 : Int) (a1 : Int) (r1 : Int) (r2 : Int) (r3 : Int) (r4 : ByteArray) (r5 : List (S75)) (r6 : Int) (r7 : Int) (w0 w : World) (hI : IsS89 w0 w g s0_0 s0_1 s0_2) (hB : Below w0.heap.size w0 w) (h : spec_l9Draw.f k s0_0 s0_1 s0_2 a1 = some (r1,r2,r3,r4,r5,r6,r7)) :
  Calls Try.prog 85 #[.pointer (some ⟨g,0,none⟩),.int .i64 a1] w fun e w' => ∃ v4_ : Value,e = .returned (.agg #[.int .i64 r1,.int .i64 r2,.int .i64 r3,.string r4,v4_]) ∧ Kd.R k75 75 w' w.heap.size (fun _ => True) v4_ r5 ∧ IsS89 w0 w' g s0_0 r6 r7 ∧ Below w0.heap.size w0 w' ∧ KeepBut w w' g none:=by
 have hu34:=Try.underlying34
 have HI0:=ak hI
 have HK:=ak (KeepBut.refl w g none)
 have HL:=ak hB.size
 clear hI
 have HW0:=ak hB.size
 have HB:=ak hB
 clear hB
 have H:=h;clear h;unfold spec_l9Draw.f at H
 replace H:=Hd.bd_ H;obtain ⟨⟨t525,t526,t527⟩,A3,H⟩:=H;dsimp only at H
 replace H:=Hd.bd_ H;obtain ⟨⟨t528,t529,t530⟩,A4,H⟩:=H;dsimp only at H
 replace H:=Hd.bd_ H;obtain ⟨⟨t531,t532,t533⟩,A5,H⟩:=H;dsimp only at H
 by_cases c6 : (wrap64 (1 + t525)) = 1
 ·
  rw [if_pos c6] at H
  have c6b0:=beq_iff_eq.mpr c6
  have c6b1:=bne_eq_false_iff_eq.mpr c6
  clear c6
  replace H:=Hd.bd_ H;obtain ⟨⟨t535,t536,t537,t538⟩,A7,H⟩:=H;dsimp only at H
  generalize hy539 : (([(⟨t535,t536⟩ : S75)] : List (S75))) = y539 at H;have Ny539:=ak hy539.symm;clear hy539;try rw [Option.bind_some] at H
  simp only [Option.some.injEq,Prod.mk.injEq] at H
  obtain ⟨rfl,rfl,rfl,rfl,rfl,rfl,rfl⟩:=H
  go_enter Try.func85,Try.ntmps85
  go_wp2_with (first | ((with_reducible refine gate_dst (N:=4) rfl ?_);refine Hd.box_ 4 (#[.int .i64 0,.int .i64 0,.int .i64 0,.string (⟨#[]⟩ : ByteArray),.slice none 0 0]) 34 ?_;intro gb524 hg w8 hbox hb;replace HB:=ak (below_step z2_ hb);have BK524:=ak (hbox);have GW524:=ak ((z102_ : w.heap.size ≤ gb524));have GE524:=ak ((Nat.le_trans HW0.out (z102_ : w.heap.size ≤ gb524) : w0.heap.size ≤ gb524));replace HK:=z98_;have NB0_524:=ak ((z24_ : g ≠ gb524));have NB524_0:=ak ((z25_ : gb524 ≠ g));replace HI0:=ak (IsS89.below z1_ hb);clear hb hbox hg) | ((with_reducible refine gate_callee (f:=49) rfl ?_);refine Hd.gl_ 8 Try.func49 #[.pointer (some ⟨g,0,none⟩),.int .i64 3] ?_;(with_reducible refine (spec_l1Below.calls g s0_0 s0_1 s0_2 3 t525 t526 t527 w0 _ ?side1 ?side2 A3.out).mono ?_);(case side1 => exact z7_ NB0_524);(case side2 => exact z10_ GE524);rintro e w9 ⟨rfl,hi,hb,hk⟩;refine ⟨_,rfl,?_⟩;replace BK524:=z36_ NB524_0;replace HK:=z109_;replace HB:=ak (hb);replace HI0:=ak (hi);clear hb hk hi) | ((with_reducible refine gate_callee (f:=49) rfl ?_);refine Hd.gl_ 11 Try.func49 #[.pointer (some ⟨g,0,none⟩),.int .i64 6] ?_;(with_reducible refine (spec_l1Below.calls g s0_0 t526 t527 6 t528 t529 t530 w0 _ ?side1 ?side2 A4.out).mono ?_);(case side1 => exact z7_ NB0_524);(case side2 => exact z10_ GE524);rintro e w10 ⟨rfl,hi,hb,hk⟩;refine ⟨_,rfl,?_⟩;replace BK524:=z36_ NB524_0;replace HK:=z109_;replace HB:=ak (hb);replace HI0:=ak (hi);clear hb hk hi) | ((with_reducible refine gate_callee (f:=101) rfl ?_);refine Hd.gl_ 13 Try.func101 #[.pointer (some ⟨g,0,none⟩)] ?_;(with_reducible refine (spec_l9Name.calls g s0_0 t529 t530 t531 t532 t533 w0 _ ?side1 ?side2 A5.out).mono ?_);(case side1 => exact z7_ NB0_524);(case side2 => exact z10_ GE524);rintro e w11 ⟨rfl,hi,hb,hk⟩;refine ⟨_,rfl,?_⟩;replace BK524:=z36_ NB524_0;replace HK:=z109_;replace HB:=ak (hb);replace HI0:=ak (hi);clear hb hk hi) | ((with_reducible refine gate_dst (N:=5) rfl ?_);refine Hd.box_ 5 (#[.int .i64 0,.int .i64 0,.int .i64 0,.string (⟨#[]⟩ : ByteArray),.slice none 0 0]) 34 ?_;intro gb534 hg w12 hbox hb;replace HB:=ak (below_step (z10_ GE524) hb);have BK534:=ak (hbox);have GW534:=ak ((z110_ : w.heap.size ≤ gb534));have GE534:=ak ((Nat.le_trans HW0.out (z110_ : w.heap.size ≤ gb534) : w0.heap.size ≤ gb534));replace HK:=ak (KeepBut.trans (z3_ GW524) (KeepBut.of_below hb g none) (.inl rfl));have NB524_534:=ak ((Hd.lt_ BK524 hg));have NB534_524:=ak ((Hd.gt_ BK524 hg));replace BK524:=ak (Hd.kb_ BK524 hb);have NB0_534:=ak ((z56_ NB0_524 : g ≠ gb534));have NB534_0:=ak ((z57_ NB0_524 : gb534 ≠ g));replace HI0:=ak (IsS89.below (z7_ NB0_524) hb);clear hb hbox hg;have hnb13:=NB534_524.out;have hnc13:=NB524_534.out;have hnb14:=NB534_0.out;have hnc14:=NB0_534.out;obtain ⟨hcz15_0,hcz15_1,hcz15_2,hcz15_3,hcz15_4⟩:=Hd.c5_ BK534.out;obtain ⟨hfz15_0,hfz15_1,hfz15_2,hfz15_3,hfz15_4⟩:=Hd.f5_ BK534.out) | ((with_reducible refine gate_callee (f:=102) rfl ?_);refine Hd.gl_ 23 Try.func102 #[.pointer (some ⟨g,0,none⟩)] ?_;(with_reducible refine (spec_l4Draw.calls g s0_0 t532 t533 t535 t536 t537 t538 w0 _ ?side1 ?side2 A7.out).mono ?_);(case side1 => exact z11_ NB0_524 NB0_534);(case side2 => exact z12_ GE524 GE534);rintro e w16 ⟨rfl,hi,hb,hk⟩;refine ⟨_,rfl,?_⟩;replace BK524:=z112_ NB524_0;replace BK534:=z113_ NB534_0;replace HK:=ak (KeepBut.trans (z9_ GW524 GW534) hk (.inl rfl));replace HB:=ak (hb);replace HI0:=ak (hi);clear hb hk hi) | ((with_reducible refine gate_dst (N:=24) rfl ?_);refine Kd.R_lit k75 _ 75 ?hg (N:=24) ?hd (xs:=([(⟨t535,t536⟩ : S75)] : List (S75))) (inner:=[.int .i64 t535,.int .i64 t536]) (ok:=fun _ => True) (okp:=fun _ => True) ?hr ?hp (fun _ hk => hk) trivial (Below.refl _ _) (Nat.le_refl _) (by simp) ?_;(case hd => rfl);(case hg => rfl);(case hr => exact z31_);(case hp => exact (Reps.c2 (show Kd.M k75 _ _ _ (⟨t535,t536⟩ : S75) [.int .i64 t535,.int .i64 t536] from (k75_mkM _ _ _ (⟨t535,t536⟩ : S75) )) (Reps.none _ _)));intro v540 w17 ho18 hb hg_ hnew_;clear hg_ hnew_;(first | rw [← Ny539.out] at ho18 | (simp only [Int.reduceToNat] at ho18;rw [← Ny539.out] at ho18));have HO541:=ak (Kd.R_lower ho18 (keep_size (w:=w) (g:=g) (row:=none) (z9_ GW524 GW534)));replace BK524:=ak (Hd.kb_ BK524 hb);replace BK534:=ak (Hd.kb_ BK534 hb);replace HK:=ak (KeepBut.trans (z9_ GW524 GW534) (KeepBut.of_below hb g none) (.inl rfl));replace HB:=ak (below_step (z12_ GE524 GE534) hb);replace HI0:=ak (IsS89.below (z11_ NB0_524 NB0_534) hb);clear hb ho18;obtain ⟨Ao19,co19,eo19⟩:=Kd.R_slice HO541.out;subst eo19;obtain ⟨hcz20_0,hcz20_1,hcz20_2,hcz20_3,hcz20_4⟩:=Hd.c5_ BK534.out;obtain ⟨hfz20_0,hfz20_1,hfz20_2,hfz20_3,hfz20_4⟩:=Hd.f5_ BK534.out;have hnb21:=NB524_0.out;have hnc21:=NB0_524.out;obtain ⟨hcz22_0,hcz22_1,hcz22_2,hcz22_3,hcz22_4⟩:=Hd.c5_ BK524.out;obtain ⟨hfz22_0,hfz22_1,hfz22_2,hfz22_3,hfz22_4⟩:=Hd.f5_ BK524.out))
  refine bodyPost_ret (results_cell_row rfl _ _ gb524 34 #[.int .i64 a1,.int .i64 (wrap64 (1 + t525)),.int .i64 t528,.string t531,.slice Ao19 y539.length co19] (0,0) _ rfl (z20_ NB524_534 BK524) Try.underlying34 rfl (by kernel_rfl)) rfl ?_
  exact ⟨_,Hd.e_,by (with_reducible repeat (first | apply Kd.R_alloc | apply Kd.R_drewN | apply Kd.R_drew));exact Kd.R_mono (Kd.R_far (p:=⟨gb524,4,none⟩) (Kd.R_far (p:=⟨gb524,3,none⟩) (Kd.R_far (p:=⟨gb524,2,none⟩) (Kd.R_far (p:=⟨gb524,1,none⟩) (Kd.R_far (p:=⟨gb524,0,none⟩) (Kd.R_far (p:=⟨gb534,4,none⟩) (Kd.R_types (Kd.R_types HO541.out BK534.out (by decide)) BK524.out (by decide)) (fun _ hk => hk.1.2) (.slice Ao19 y539.length co19)) (fun _ hk => hk.2) (.int .i64 a1)) (fun _ hk => hk.2) (.int .i64 (wrap64 (1 + t525)))) (fun _ hk => hk.2) (.int .i64 t528)) (fun _ hk => hk.2) (.string t531)) (fun _ hk => hk.2) (.slice Ao19 y539.length co19)) (fun _ hk => trivial),z11_ NB0_524 NB0_534,z12_ GE524 GE534,z9_ GW524 GW534⟩
 rw [if_neg c6] at H
 have c6b0:=beq_eq_false_iff_ne.mpr c6
 have c6b1:=bne_iff_ne.mpr c6
 by_cases c23 : (wrap64 (1 + t525)) = 2;rotate_left
 ·
  rw [if_neg c23] at H
  have c23b0:=beq_eq_false_iff_ne.mpr c23
  have c23b1:=bne_iff_ne.mpr c23
  replace H:=Hd.bd_ H;obtain ⟨⟨t547,t550,t551⟩,A38,H⟩:=H;dsimp only at H
  simp only [Option.some.injEq,Prod.mk.injEq] at H
  obtain ⟨rfl,rfl,rfl,rfl,rfl,rfl,rfl⟩:=H
  go_enter Try.func85,Try.ntmps85
  go_wp2_with (first | ((with_reducible refine gate_dst (N:=4) rfl ?_);refine Hd.box_ 4 (#[.int .i64 0,.int .i64 0,.int .i64 0,.string (⟨#[]⟩ : ByteArray),.slice none 0 0]) 34 ?_;intro gb524 hg w39 hbox hb;replace HB:=ak (below_step z2_ hb);have BK524:=ak (hbox);have GW524:=ak ((z102_ : w.heap.size ≤ gb524));have GE524:=ak ((Nat.le_trans HW0.out (z102_ : w.heap.size ≤ gb524) : w0.heap.size ≤ gb524));replace HK:=z98_;have NB0_524:=ak ((z24_ : g ≠ gb524));have NB524_0:=ak ((z25_ : gb524 ≠ g));replace HI0:=ak (IsS89.below z1_ hb);clear hb hbox hg) | ((with_reducible refine gate_callee (f:=49) rfl ?_);refine Hd.gl_ 8 Try.func49 #[.pointer (some ⟨g,0,none⟩),.int .i64 3] ?_;(with_reducible refine (spec_l1Below.calls g s0_0 s0_1 s0_2 3 t525 t526 t527 w0 _ ?side1 ?side2 A3.out).mono ?_);(case side1 => exact z7_ NB0_524);(case side2 => exact z10_ GE524);rintro e w40 ⟨rfl,hi,hb,hk⟩;refine ⟨_,rfl,?_⟩;replace BK524:=z36_ NB524_0;replace HK:=z109_;replace HB:=ak (hb);replace HI0:=ak (hi);clear hb hk hi) | ((with_reducible refine gate_callee (f:=49) rfl ?_);refine Hd.gl_ 11 Try.func49 #[.pointer (some ⟨g,0,none⟩),.int .i64 6] ?_;(with_reducible refine (spec_l1Below.calls g s0_0 t526 t527 6 t528 t529 t530 w0 _ ?side1 ?side2 A4.out).mono ?_);(case side1 => exact z7_ NB0_524);(case side2 => exact z10_ GE524);rintro e w41 ⟨rfl,hi,hb,hk⟩;refine ⟨_,rfl,?_⟩;replace BK524:=z36_ NB524_0;replace HK:=z109_;replace HB:=ak (hb);replace HI0:=ak (hi);clear hb hk hi) | ((with_reducible refine gate_callee (f:=101) rfl ?_);refine Hd.gl_ 13 Try.func101 #[.pointer (some ⟨g,0,none⟩)] ?_;(with_reducible refine (spec_l9Name.calls g s0_0 t529 t530 t531 t532 t533 w0 _ ?side1 ?side2 A5.out).mono ?_);(case side1 => exact z7_ NB0_524);(case side2 => exact z10_ GE524);rintro e w42 ⟨rfl,hi,hb,hk⟩;refine ⟨_,rfl,?_⟩;replace BK524:=z36_ NB524_0;replace HK:=z109_;replace HB:=ak (hb);replace HI0:=ak (hi);clear hb hk hi) | ((with_reducible refine gate_dst (N:=5) rfl ?_);refine Hd.box_ 5 (#[.int .i64 0,.int .i64 0,.int .i64 0,.string (⟨#[]⟩ : ByteArray),.slice none 0 0]) 34 ?_;intro gb534 hg w43 hbox hb;replace HB:=ak (below_step (z10_ GE524) hb);have BK534:=ak (hbox);have GW534:=ak ((z110_ : w.heap.size ≤ gb534));have GE534:=ak ((Nat.le_trans HW0.out (z110_ : w.heap.size ≤ gb534) : w0.heap.size ≤ gb534));replace HK:=ak (KeepBut.trans (z3_ GW524) (KeepBut.of_below hb g none) (.inl rfl));have NB524_534:=ak ((Hd.lt_ BK524 hg));have NB534_524:=ak ((Hd.gt_ BK524 hg));replace BK524:=ak (Hd.kb_ BK524 hb);have NB0_534:=ak ((z56_ NB0_524 : g ≠ gb534));have NB534_0:=ak ((z57_ NB0_524 : gb534 ≠ g));replace HI0:=ak (IsS89.below (z7_ NB0_524) hb);clear hb hbox hg;have hnb44:=NB534_524.out;have hnc44:=NB524_534.out;have hnb45:=NB534_0.out;have hnc45:=NB0_534.out;obtain ⟨hcz46_0,hcz46_1,hcz46_2,hcz46_3,hcz46_4⟩:=Hd.c5_ BK534.out;obtain ⟨hfz46_0,hfz46_1,hfz46_2,hfz46_3,hfz46_4⟩:=Hd.f5_ BK534.out) | ((with_reducible refine gate_callee (f:=103) rfl ?_);refine Hd.gl_ 18 Try.func103 #[.pointer (some ⟨g,0,none⟩)] ?_;(with_reducible refine (spec_l7Draw.calls g s0_0 t532 t533 t547 t550 t551 w0 _ ?side1 ?side2 A38.out).mono ?_);(case side1 => exact z11_ NB0_524 NB0_534);(case side2 => exact z12_ GE524 GE534);rintro e w47 ⟨v548,rfl,ho0,hi,hb,hk⟩;refine ⟨_,rfl,?_⟩;replace BK524:=z112_ NB524_0;replace BK534:=z113_ NB534_0;have HO549:=ak (Kd.R_lower ho0 (keep_size (w:=w) (g:=g) (row:=none) (z9_ GW524 GW534)));replace HK:=ak (KeepBut.trans (z9_ GW524 GW534) hk (.inl rfl));replace HB:=ak (hb);replace HI0:=ak (hi);clear hb hk hi ho0;obtain ⟨Ao48,co48,eo48⟩:=Kd.R_slice HO549.out;subst eo48;obtain ⟨hcz49_0,hcz49_1,hcz49_2,hcz49_3,hcz49_4⟩:=Hd.c5_ BK534.out;obtain ⟨hfz49_0,hfz49_1,hfz49_2,hfz49_3,hfz49_4⟩:=Hd.f5_ BK534.out;have hnb50:=NB524_0.out;have hnc50:=NB0_524.out;obtain ⟨hcz51_0,hcz51_1,hcz51_2,hcz51_3,hcz51_4⟩:=Hd.c5_ BK524.out;obtain ⟨hfz51_0,hfz51_1,hfz51_2,hfz51_3,hfz51_4⟩:=Hd.f5_ BK524.out))
  refine bodyPost_ret (results_cell_row rfl _ _ gb524 34 #[.int .i64 a1,.int .i64 (wrap64 (1 + t525)),.int .i64 t528,.string t531,.slice Ao48 t547.length co48] (0,0) _ rfl (z20_ NB524_534 BK524) Try.underlying34 rfl (by kernel_rfl)) rfl ?_
  exact ⟨_,Hd.e_,by (with_reducible repeat (first | apply Kd.R_alloc | apply Kd.R_drewN | apply Kd.R_drew));exact Kd.R_mono (Kd.R_far (p:=⟨gb524,4,none⟩) (Kd.R_far (p:=⟨gb524,3,none⟩) (Kd.R_far (p:=⟨gb524,2,none⟩) (Kd.R_far (p:=⟨gb524,1,none⟩) (Kd.R_far (p:=⟨gb524,0,none⟩) (Kd.R_far (p:=⟨gb534,4,none⟩) (Kd.R_types (Kd.R_types HO549.out BK534.out (by decide)) BK524.out (by decide)) (fun _ hk => hk.1.2) (.slice Ao48 t547.length co48)) (fun _ hk => hk.2) (.int .i64 a1)) (fun _ hk => hk.2) (.int .i64 (wrap64 (1 + t525)))) (fun _ hk => hk.2) (.int .i64 t528)) (fun _ hk => hk.2) (.string t531)) (fun _ hk => hk.2) (.slice Ao48 t547.length co48)) (fun _ hk => trivial),z11_ NB0_524 NB0_534,z12_ GE524 GE534,z9_ GW524 GW534⟩
 rw [if_pos c23] at H
 have c23b0:=beq_iff_eq.mpr c23
 have c23b1:=bne_eq_false_iff_eq.mpr c23
 clear c23
 replace H:=Hd.bd_ H;obtain ⟨⟨t542,t545,t546⟩,A24,H⟩:=H;dsimp only at H
 simp only [Option.some.injEq,Prod.mk.injEq] at H
 obtain ⟨rfl,rfl,rfl,rfl,rfl,rfl,rfl⟩:=H
 go_enter Try.func85,Try.ntmps85
 go_wp2_with (first | ((with_reducible refine gate_dst (N:=4) rfl ?_);refine Hd.box_ 4 (#[.int .i64 0,.int .i64 0,.int .i64 0,.string (⟨#[]⟩ : ByteArray),.slice none 0 0]) 34 ?_;intro gb524 hg w25 hbox hb;replace HB:=ak (below_step z2_ hb);have BK524:=ak (hbox);have GW524:=ak ((z102_ : w.heap.size ≤ gb524));have GE524:=ak ((Nat.le_trans HW0.out (z102_ : w.heap.size ≤ gb524) : w0.heap.size ≤ gb524));replace HK:=z98_;have NB0_524:=ak ((z24_ : g ≠ gb524));have NB524_0:=ak ((z25_ : gb524 ≠ g));replace HI0:=ak (IsS89.below z1_ hb);clear hb hbox hg) | ((with_reducible refine gate_callee (f:=49) rfl ?_);refine Hd.gl_ 8 Try.func49 #[.pointer (some ⟨g,0,none⟩),.int .i64 3] ?_;(with_reducible refine (spec_l1Below.calls g s0_0 s0_1 s0_2 3 t525 t526 t527 w0 _ ?side1 ?side2 A3.out).mono ?_);(case side1 => exact z7_ NB0_524);(case side2 => exact z10_ GE524);rintro e w26 ⟨rfl,hi,hb,hk⟩;refine ⟨_,rfl,?_⟩;replace BK524:=z36_ NB524_0;replace HK:=z109_;replace HB:=ak (hb);replace HI0:=ak (hi);clear hb hk hi) | ((with_reducible refine gate_callee (f:=49) rfl ?_);refine Hd.gl_ 11 Try.func49 #[.pointer (some ⟨g,0,none⟩),.int .i64 6] ?_;(with_reducible refine (spec_l1Below.calls g s0_0 t526 t527 6 t528 t529 t530 w0 _ ?side1 ?side2 A4.out).mono ?_);(case side1 => exact z7_ NB0_524);(case side2 => exact z10_ GE524);rintro e w27 ⟨rfl,hi,hb,hk⟩;refine ⟨_,rfl,?_⟩;replace BK524:=z36_ NB524_0;replace HK:=z109_;replace HB:=ak (hb);replace HI0:=ak (hi);clear hb hk hi) | ((with_reducible refine gate_callee (f:=101) rfl ?_);refine Hd.gl_ 13 Try.func101 #[.pointer (some ⟨g,0,none⟩)] ?_;(with_reducible refine (spec_l9Name.calls g s0_0 t529 t530 t531 t532 t533 w0 _ ?side1 ?side2 A5.out).mono ?_);(case side1 => exact z7_ NB0_524);(case side2 => exact z10_ GE524);rintro e w28 ⟨rfl,hi,hb,hk⟩;refine ⟨_,rfl,?_⟩;replace BK524:=z36_ NB524_0;replace HK:=z109_;replace HB:=ak (hb);replace HI0:=ak (hi);clear hb hk hi) | ((with_reducible refine gate_dst (N:=5) rfl ?_);refine Hd.box_ 5 (#[.int .i64 0,.int .i64 0,.int .i64 0,.string (⟨#[]⟩ : ByteArray),.slice none 0 0]) 34 ?_;intro gb534 hg w29 hbox hb;replace HB:=ak (below_step (z10_ GE524) hb);have BK534:=ak (hbox);have GW534:=ak ((z110_ : w.heap.size ≤ gb534));have GE534:=ak ((Nat.le_trans HW0.out (z110_ : w.heap.size ≤ gb534) : w0.heap.size ≤ gb534));replace HK:=ak (KeepBut.trans (z3_ GW524) (KeepBut.of_below hb g none) (.inl rfl));have NB524_534:=ak ((Hd.lt_ BK524 hg));have NB534_524:=ak ((Hd.gt_ BK524 hg));replace BK524:=ak (Hd.kb_ BK524 hb);have NB0_534:=ak ((z56_ NB0_524 : g ≠ gb534));have NB534_0:=ak ((z57_ NB0_524 : gb534 ≠ g));replace HI0:=ak (IsS89.below (z7_ NB0_524) hb);clear hb hbox hg;have hnb30:=NB534_524.out;have hnc30:=NB524_534.out;have hnb31:=NB534_0.out;have hnc31:=NB0_534.out;obtain ⟨hcz32_0,hcz32_1,hcz32_2,hcz32_3,hcz32_4⟩:=Hd.c5_ BK534.out;obtain ⟨hfz32_0,hfz32_1,hfz32_2,hfz32_3,hfz32_4⟩:=Hd.f5_ BK534.out) | ((with_reducible refine gate_callee (f:=86) rfl ?_);refine Hd.gl_ 29 Try.func86 #[.pointer (some ⟨g,0,none⟩)] ?_;(with_reducible refine (spec_l6Draw.calls k g s0_0 t532 t533 t542 t545 t546 w0 _ ?side1 ?side2 A24.out).mono ?_);(case side1 => exact z11_ NB0_524 NB0_534);(case side2 => exact z12_ GE524 GE534);rintro e w33 ⟨v543,rfl,ho0,hi,hb,hk⟩;refine ⟨_,rfl,?_⟩;replace BK524:=z112_ NB524_0;replace BK534:=z113_ NB534_0;have HO544:=ak (Kd.R_lower ho0 (keep_size (w:=w) (g:=g) (row:=none) (z9_ GW524 GW534)));replace HK:=ak (KeepBut.trans (z9_ GW524 GW534) hk (.inl rfl));replace HB:=ak (hb);replace HI0:=ak (hi);clear hb hk hi ho0;obtain ⟨Ao34,co34,eo34⟩:=Kd.R_slice HO544.out;subst eo34;obtain ⟨hcz35_0,hcz35_1,hcz35_2,hcz35_3,hcz35_4⟩:=Hd.c5_ BK534.out;obtain ⟨hfz35_0,hfz35_1,hfz35_2,hfz35_3,hfz35_4⟩:=Hd.f5_ BK534.out;have hnb36:=NB524_0.out;have hnc36:=NB0_524.out;obtain ⟨hcz37_0,hcz37_1,hcz37_2,hcz37_3,hcz37_4⟩:=Hd.c5_ BK524.out;obtain ⟨hfz37_0,hfz37_1,hfz37_2,hfz37_3,hfz37_4⟩:=Hd.f5_ BK524.out))
 refine bodyPost_ret (results_cell_row rfl _ _ gb524 34 #[.int .i64 a1,.int .i64 (wrap64 (1 + t525)),.int .i64 t528,.string t531,.slice Ao34 t542.length co34] (0,0) _ rfl (z20_ NB524_534 BK524) Try.underlying34 rfl (by kernel_rfl)) rfl ?_
 exact ⟨_,Hd.e_,by (with_reducible repeat (first | apply Kd.R_alloc | apply Kd.R_drewN | apply Kd.R_drew));exact Kd.R_mono (Kd.R_far (p:=⟨gb524,4,none⟩) (Kd.R_far (p:=⟨gb524,3,none⟩) (Kd.R_far (p:=⟨gb524,2,none⟩) (Kd.R_far (p:=⟨gb524,1,none⟩) (Kd.R_far (p:=⟨gb524,0,none⟩) (Kd.R_far (p:=⟨gb534,4,none⟩) (Kd.R_types (Kd.R_types HO544.out BK534.out (by decide)) BK524.out (by decide)) (fun _ hk => hk.1.2) (.slice Ao34 t542.length co34)) (fun _ hk => hk.2) (.int .i64 a1)) (fun _ hk => hk.2) (.int .i64 (wrap64 (1 + t525)))) (fun _ hk => hk.2) (.int .i64 t528)) (fun _ hk => hk.2) (.string t531)) (fun _ hk => hk.2) (.slice Ao34 t542.length co34)) (fun _ hk => trivial),z11_ NB0_524 NB0_534,z12_ GE524 GE534,z9_ GW524 GW534⟩
def spec_l9Source.l0 : Nat → List (S34) → Int → List Int → Int → Int → Option ((List (S34)) × Int × Int)
 | 0,_,_,_,_,_ => none
 | k + 1,x3,x4,x1000,x1001,x1002 => (spec_l1Below.f x1000 x1001 x1002 6).bind fun bt555 => (if x4 ≤ (wrap64 (1 + bt555.1)) then ((spec_l9Draw.f k x1000 bt555.2.1 bt555.2.2 x4).bind fun bt558 => ((spec_PutFeature.f k x3 bt558.1 bt558.2.1 bt558.2.2.1 bt558.2.2.2.1 bt558.2.2.2.2.1).bind fun bt567 => (spec_l9Source.l0 k bt567.1 (wrap64 (x4 + 1)) x1000 bt558.2.2.2.2.2.1 bt558.2.2.2.2.2.2))) else (some (x3,bt555.2.1,bt555.2.2)))
def spec_l9Source.f (k : Nat) (s0_0 : List Int) (s0_1 : Int) (s0_2 : Int) : Option ((List (S34)) × Int × Int):=spec_l9Source.l0 k (([] : List (S34))) 1 s0_0 s0_1 s0_2
theorem spec_l9Source.calls (k : Nat) (g : Nat) (s0_0 : List Int) (s0_1 : Int) (s0_2 : Int) (r1 : List (S34)) (r2 : Int) (r3 : Int) (w0 w : World) (hI : IsS89 w0 w g s0_0 s0_1 s0_2) (hB : Below w0.heap.size w0 w) (h : spec_l9Source.f k s0_0 s0_1 s0_2 = some (r1,r2,r3)) :
  Calls Try.prog 66 #[.pointer (some ⟨g,0,none⟩)] w fun e w' => ∃ v0_ : Value,e = .returned (v0_) ∧ Kd.N k34 34 w' w.heap.size (fun k_ => (w.heap.size ≤ k_)) v0_ r1 ∧ IsS89 w0 w' g s0_0 r2 r3 ∧ Below w0.heap.size w0 w' ∧ KeepBut w w' g none:=by
 have HI0:=ak hI
 have HK:=ak (KeepBut.refl w g none)
 have HL:=ak hB.size
 clear hI
 have HW0:=ak hB.size
 have HB:=ak hB
 clear hB
 have H:=h;clear h;unfold spec_l9Source.f at H
 generalize hy552 : (([] : List (S34))) = y552 at H;have Ny552:=ak hy552.symm;clear hy552;try rw [Option.bind_some] at H
 have H':=ak H
 clear H
 go_enter Try.func66,Try.ntmps66
 go_wp2_with (first | ((with_reducible refine gate_dst (N:=5) rfl ?_);refine Kd.N_lit k34 _ 34 ?hg (N':=5) ?hd (xs:=([] : List (S34))) (inner:=[]) (ok:=(fun k_ => (w.heap.size ≤ k_) ∧ k_ ≠ g)) (okp:=(fun k_ => (w.heap.size ≤ k_) ∧ k_ ≠ g)) ?hr ?hp (fun _ hk => hk) ((show ∀ k_,w.heap.size ≤ k_ → (fun k_ => (w.heap.size ≤ k_) ∧ k_ ≠ g) k_ from fun k_ hk => ⟨(Nat.le_trans (keep_size (w:=w) (g:=g) (row:=none) z0_) hk),IsS89.fresh z1_ k_ hk⟩) _ (Nat.le_refl _)) (Below.refl _ _) (Nat.le_refl _) (by simp) ?_;(case hd => rfl);(case hg => rfl);(case hr => exact z31_);(case hp => exact (Reps.none _ _));intro v553 w2 ho3 hb hg_ hnew_;clear hg_ hnew_;(first | rw [← Ny552.out] at ho3 | (simp only [Int.reduceToNat] at ho3;rw [← Ny552.out] at ho3));have HO554:=ak (Kd.N_lower ho3 (keep_size (w:=w) (g:=g) (row:=none) z0_));replace HK:=z98_;replace HB:=ak (below_step z2_ hb);replace HI0:=ak (IsS89.below z1_ hb);clear hb ho3))
 go_loopg [3,4] k (fun kq v3 v4 w' => ∃ (x3_1 : List (S34)) (x4_1 : Int) (x1001_1 : Int) (x1002_1 : Int),v4 = .int .i64 x4_1 ∧ Aside0 (spec_l9Source.l0 kq x3_1 x4_1 s0_0 x1001_1 x1002_1 = some (r1,r2,r3)) ∧ Aside0 (kq ≤ k) ∧ Aside0 (Kd.N k34 34 w' w.heap.size (fun k_ => (w.heap.size ≤ k_) ∧ k_ ≠ g) v3 x3_1) ∧ Aside0 (IsS89 w0 w' g s0_0 x1001_1 x1002_1) ∧ Aside0 (KeepBut w w' g none) ∧ Aside0 (Below w0.heap.size w0 w'))
 case atStart => exact ⟨(y552),(1),(s0_1),(s0_2),z8_,H',⟨Nat.le_refl _⟩,⟨z13_ HO554⟩,⟨z1_⟩,⟨z0_⟩,⟨z2_⟩⟩
 case round =>
  clear H'
  try clear p2
  obtain ⟨x3_1,x4_1,x1001_1,x1002_1,rfl,HA,HK1,HO_3,HI0,HK,HB⟩:=hrel
  cases gk with
  | zero => exact absurd HA.out (by simp [spec_l9Source.l0])
  | succ k1 =>
   have H:=HA.out
   clear HA
   simp only [spec_l9Source.l0] at H
   replace H:=Hd.bd_ H;obtain ⟨⟨t555,t556,t557⟩,A4,H⟩:=H;dsimp only at H
   by_cases c5 : x4_1 ≤ (wrap64 (1 + t555));rotate_left
   ·
    rw [if_neg c5] at H
    have c5b0:=decide_eq_false c5
    clear c5
    simp only [Option.some.injEq,Prod.mk.injEq] at H
    obtain ⟨rfl,rfl,rfl⟩:=H
    go_wp2_with (first | ((with_reducible refine gate_callee (f:=49) rfl ?_);refine Hd.gl_ 8 Try.func49 #[.pointer (some ⟨g,0,none⟩),.int .i64 6] ?_;(with_reducible refine (spec_l1Below.calls g s0_0 x1001_1 x1002_1 6 t555 t556 t557 w0 _ ?side1 ?side2 A4.out).mono ?_);(case side1 => exact z1_);(case side2 => exact z2_);rintro e w13 ⟨rfl,hi,hb,hk⟩;refine ⟨_,rfl,?_⟩;replace HO_3:=ak (Kd.N_mono (Kd.N_keep (Kd.N_mono (ok:=fun k_ => (((w.heap.size ≤ k_)) ∧ k_ ≠ g)) (z13_ HO_3) (fun k_ hk_ => (⟨hk_,hk_.2⟩ : _ ∧ k_ ≠ g))) hk (fun _ h => h.2)) (fun _ h => h.1));replace HK:=z99_;replace HB:=ak (hb);replace HI0:=ak (hi);clear hb hk hi))
    go_ret
    exact ⟨_,Hd.e_,z37_ HO_3,z1_,z2_,z0_⟩
   rw [if_pos c5] at H
   have c5b0:=decide_eq_true c5
   clear c5
   replace H:=Hd.bd_ H;obtain ⟨⟨t558,t559,t560,t561,t562,t565,t566⟩,A6,H⟩:=H;dsimp only at H
   replace H:=Hd.bd_ H;obtain ⟨⟨t567,t570⟩,A7,H⟩:=H;dsimp only at H
   have H':=ak H
   clear H
   go_wp2_with (first | ((with_reducible refine gate_callee (f:=49) rfl ?_);refine Hd.gl_ 8 Try.func49 #[.pointer (some ⟨g,0,none⟩),.int .i64 6] ?_;(with_reducible refine (spec_l1Below.calls g s0_0 x1001_1 x1002_1 6 t555 t556 t557 w0 _ ?side1 ?side2 A4.out).mono ?_);(case side1 => exact z1_);(case side2 => exact z2_);rintro e w8 ⟨rfl,hi,hb,hk⟩;refine ⟨_,rfl,?_⟩;replace HO_3:=ak (Kd.N_mono (Kd.N_keep (Kd.N_mono (ok:=fun k_ => (((w.heap.size ≤ k_)) ∧ k_ ≠ g)) (z13_ HO_3) (fun k_ hk_ => (⟨hk_,hk_.2⟩ : _ ∧ k_ ≠ g))) hk (fun _ h => h.2)) (fun _ h => h.1));replace HK:=z99_;replace HB:=ak (hb);replace HI0:=ak (hi);clear hb hk hi) | ((with_reducible refine gate_callee (f:=85) rfl ?_);refine Hd.gl_ 17 Try.func85 #[.pointer (some ⟨g,0,none⟩),.int .i64 x4_1] ?_;(with_reducible refine (spec_l9Draw.calls k1 g s0_0 t556 t557 x4_1 t558 t559 t560 t561 t562 t565 t566 w0 _ ?side1 ?side2 A6.out).mono ?_);(case side1 => exact z1_);(case side2 => exact z2_);rintro e w9 ⟨v563,rfl,ho0,hi,hb,hk⟩;refine ⟨_,rfl,?_⟩;replace HO_3:=ak (Kd.N_mono (Kd.N_told (Kd.N_oldK (Kd.N_mono (ok:=fun k_ => (((w.heap.size ≤ k_)) ∧ k_ ≠ g)) (z13_ HO_3) (fun k_ hk_ => (⟨hk_,hk_.2⟩ : _ ∧ k_ ≠ g))) hk) (Kd.R_base ho0)) (fun _ h_ => h_.1));have HO564:=ak (Kd.R_lower (Kd.R_newM (M:=fun k_ => (w.heap.size ≤ k_)) ho0 (keep_size (w:=w) (g:=g) (row:=none) z0_) (fun k_ h_ => h_)) (keep_size (w:=w) (g:=g) (row:=none) z0_));replace HK:=z99_;replace HB:=ak (hb);replace HI0:=ak (hi);clear hb hk hi ho0;obtain ⟨Ao10,co10,eo10⟩:=Kd.N_slice HO_3.out;subst eo10;obtain ⟨Ao11,co11,eo11⟩:=Kd.R_slice HO564.out;subst eo11) | ((with_reducible refine gate_callee (f:=9) rfl ?_);refine Hd.gl_ 18 Try.func9 #[.slice Ao10 x3_1.length co10,.agg #[.int .i64 t558,.int .i64 t559,.int .i64 t560,.string t561,.slice Ao11 t562.length co11]] ?_;(with_reducible refine (spec_PutFeature.calls k1 (fun k_ => (((w.heap.size ≤ k_) ∧ k_ ≠ g) ∧ some k_ ≠ (.slice Ao11 t562.length co11 : Value).ownBlock)) _ _ x3_1 t558 t559 t560 t561 _ _ t562 t567 t570 _ ?side1 ?side2 ?side3 A7.out).mono ?_);(case side1 => exact Kd.N_V (HO_3.out));(case side2 => exact z26_ HO564);(case side3 => exact (Kd.R_reads' HO564.out).2.1);rintro e w12 ⟨v568,rfl,ho0,hb⟩;refine ⟨_,rfl,?_⟩;replace HO_3:=ak (Kd.N_elder' (z13_ HO_3) (Kd.N_base ho0) hb);have HO569:=ak (Kd.N_lower (Kd.N_mono (ok':=fun k_ => (w.heap.size ≤ k_) ∧ some k_ ≠ (.slice Ao11 t562.length co11 : Value).ownBlock ∧ k_ ≠ g) ho0 (fun k_ hk_ => ⟨Or.elim hk_ (fun hs_ => hs_.1.1) (fun hn_ => (Nat.le_trans (keep_size (w:=w) (g:=g) (row:=none) z0_) hn_)),Or.elim hk_ (fun hs_ => hs_.2) (fun hn_ => (Kd.fresh' (Kd.R_lt (Hd.r_ HO564)) k_ hn_)),Or.elim hk_ (fun hs_ => hs_.1.2) (fun hn_ => (IsS89.fresh z1_ k_ hn_))⟩)) (keep_size (w:=w) (g:=g) (row:=none) z0_));replace HO564:=ak (Kd.R_below (Hd.r_ HO564) hb);replace HK:=z98_;replace HB:=ak (below_step z2_ hb);replace HI0:=ak (IsS89.below z1_ hb);clear hb ho0))
   go_roundg k1
   case measure => have:=HK1.out;omega
   case rel => exact ⟨(t567),(wrap64 (x4_1 + 1)),(t565),(t566),z8_,H',⟨by have:=HK1.out;omega⟩,⟨by (with_reducible repeat (first | apply Kd.N_alloc | apply Kd.N_drewN | apply Kd.N_drew));exact Kd.N_mono HO569.out (fun _ hk => ⟨hk.1,hk.2.2⟩)⟩,⟨z1_⟩,⟨z0_⟩,⟨z2_⟩⟩
def spec_l1Int.f (s0_0 : List Int) (s0_1 : Int) (s0_2 : Int) (l1 : List Int) : Option (Int × Int × Int):=(spec_l1Below.f s0_0 s0_1 s0_2 (l1.length : Int)).bind fun bt571 => (if 0 ≤ bt571.1 then (if bt571.1 < (l1.length : Int) then (some (rd l1 bt571.1,bt571.2.1,bt571.2.2)) else (none)) else (none))
theorem spec_l1Int.calls (g : Nat) (s0_0 : List Int) (s0_1 : Int) (s0_2 : Int) (A1 : Option Addr) (c1 : Nat) (l1 : List Int) (r1 : Int) (r2 : Int) (r3 : Int) (w0 w : World) (hI : IsS89 w0 w g s0_0 s0_1 s0_2) (hB : Below w0.heap.size w0 w) (hr1 : Kd.C (Kd.int .i64) w A1 l1.length l1) (hc1 : l1.length ≤ c1) (hf1 : ∀ ad,A1 = some ad → 0 < l1.length → ad.block ≠ g) (h : spec_l1Int.f s0_0 s0_1 s0_2 l1 = some (r1,r2,r3)) :
  Calls Try.prog 67 #[.pointer (some ⟨g,0,none⟩),.slice A1 l1.length c1] w fun e w' => e = .returned (.int .i64 r1) ∧ IsS89 w0 w' g s0_0 r2 r3 ∧ Below w0.heap.size w0 w' ∧ KeepBut w w' g none:=by
 have HR1:=ak hr1
 have HC1:=ak hc1
 clear hr1 hc1
 have HI0:=ak hI
 have HK:=ak (KeepBut.refl w g none)
 have HL:=ak hB.size
 clear hI
 have HW0:=ak hB.size
 have HB:=ak hB
 clear hB
 have H:=h;clear h;unfold spec_l1Int.f at H
 replace H:=Hd.bd_ H;obtain ⟨⟨t571,t572,t573⟩,A3,H⟩:=H;dsimp only at H
 by_cases c4 : 0 ≤ t571;rotate_left
 ·
  rw [if_neg c4] at H
  exact absurd H (by simp)
 rw [if_pos c4] at H
 have c4b0:=decide_eq_true c4
 clear c4
 by_cases c5 : t571 < (l1.length : Int);rotate_left
 ·
  rw [if_neg c5] at H
  exact absurd H (by simp)
 rw [if_pos c5] at H
 have c5b0:=decide_eq_true c5
 clear c5
 simp only [Option.some.injEq,Prod.mk.injEq] at H
 obtain ⟨rfl,rfl,rfl⟩:=H
 go_enter Try.func67,Try.ntmps67
 go_wp2_with (first | ((with_reducible refine gate_callee (f:=49) rfl ?_);refine Hd.gl_ 9 Try.func49 #[.pointer (some ⟨g,0,none⟩),.int .i64 (l1.length : Int)] ?_;(with_reducible refine (spec_l1Below.calls g s0_0 s0_1 s0_2 (l1.length : Int) t571 t572 t573 w0 _ ?side1 ?side2 A3.out).mono ?_);(case side1 => exact z1_);(case side2 => exact z2_);rintro e w6 ⟨rfl,hi,hb,hk⟩;refine ⟨_,rfl,?_⟩;replace HK:=z99_;replace HB:=ak (hb);replace HI0:=ak (hi);clear hb hk hi;have p574 : 0 ≤ (t571 : Int):=of_decide_eq_true Hd.a_;have q574 : t571 < (l1.length : Int):=of_decide_eq_true Hd.a_;obtain ⟨ad574,e574,hx574_0⟩:=Kd.at_int HR1.out t571 p574 q574;cases e574;replace hx574_0:=keep_cell HK.out hx574_0 (by first | (rw [add_block];exact hf1 _ rfl (by omega)) | exact hf1 _ rfl (by omega) | exact hf1 ad574 rfl (by omega));replace p574:=eq_true p574;replace q574:=eq_true q574))
 go_ret
 exact ⟨Hd.e_,z1_,z2_,z0_⟩
def spec_l4Raw.f (s0_0 : List Int) (s0_1 : Int) (s0_2 : Int) : Option (Int × Int × Int):=(spec_l1Int.f s0_0 s0_1 s0_2 (([(-1),0,200,201,1000,1001,9223372036854775807,(-9223372036854775808)] : List Int))).bind fun bt578 => (some (bt578.1,bt578.2.1,bt578.2.2))
theorem spec_l4Raw.calls (g : Nat) (s0_0 : List Int) (s0_1 : Int) (s0_2 : Int) (r1 : Int) (r2 : Int) (r3 : Int) (w0 w : World) (hI : IsS89 w0 w g s0_0 s0_1 s0_2) (hB : Below w0.heap.size w0 w) (h : spec_l4Raw.f s0_0 s0_1 s0_2 = some (r1,r2,r3)) :
  Calls Try.prog 105 #[.pointer (some ⟨g,0,none⟩)] w fun e w' => e = .returned (.int .i64 r1) ∧ IsS89 w0 w' g s0_0 r2 r3 ∧ Below w0.heap.size w0 w' ∧ KeepBut w w' g none:=by
 have HI0:=ak hI
 have HK:=ak (KeepBut.refl w g none)
 have HL:=ak hB.size
 clear hI
 have HW0:=ak hB.size
 have HB:=ak hB
 clear hB
 have H:=h;clear h;unfold spec_l4Raw.f at H
 generalize hy575 : (([(-1),0,200,201,1000,1001,9223372036854775807,(-9223372036854775808)] : List Int)) = y575 at H;have Ny575:=ak hy575.symm;clear hy575;try rw [Option.bind_some] at H
 replace H:=Hd.bd_ H;obtain ⟨⟨t578,t579,t580⟩,A2,H⟩:=H;dsimp only at H
 simp only [Option.some.injEq,Prod.mk.injEq] at H
 obtain ⟨rfl,rfl,rfl⟩:=H
 go_enter Try.func105,Try.ntmps105
 go_wp2_with (first | ((with_reducible refine gate_dst (N:=4) rfl ?_);refine Kd.R_lit (Kd.int .i64) _ 3 ?hg (N:=4) ?hd (xs:=([(-1),0,200,201,1000,1001,9223372036854775807,(-9223372036854775808)] : List Int)) (inner:=[.int .i64 (-1),.int .i64 0,.int .i64 200,.int .i64 201,.int .i64 1000,.int .i64 1001,.int .i64 9223372036854775807,.int .i64 (-9223372036854775808)]) (ok:=fun _ => True) (okp:=fun _ => True) ?hr ?hp (fun _ hk => hk) trivial (Below.refl _ _) (Nat.le_refl _) (by simp) ?_;(case hd => rfl);(case hg => rfl);(case hr => exact z31_);(case hp => exact (Reps.one (show Kd.M (Kd.int .i64) _ _ _ (-1) [.int .i64 (-1)] from rfl) (Reps.one (show Kd.M (Kd.int .i64) _ _ _ 0 [.int .i64 0] from rfl) (Reps.one (show Kd.M (Kd.int .i64) _ _ _ 200 [.int .i64 200] from rfl) (Reps.one (show Kd.M (Kd.int .i64) _ _ _ 201 [.int .i64 201] from rfl) (Reps.one (show Kd.M (Kd.int .i64) _ _ _ 1000 [.int .i64 1000] from rfl) (Reps.one (show Kd.M (Kd.int .i64) _ _ _ 1001 [.int .i64 1001] from rfl) (Reps.one (show Kd.M (Kd.int .i64) _ _ _ 9223372036854775807 [.int .i64 9223372036854775807] from rfl) (Reps.one (show Kd.M (Kd.int .i64) _ _ _ (-9223372036854775808) [.int .i64 (-9223372036854775808)] from rfl) (Reps.none _ _))))))))));intro v576 w3 ho4 hb hg_ hnew_;clear hg_ hnew_;(first | rw [← Ny575.out] at ho4 | (simp only [Int.reduceToNat] at ho4;rw [← Ny575.out] at ho4));have HO577:=ak (Kd.R_lower ho4 (keep_size (w:=w) (g:=g) (row:=none) z0_));replace HK:=z98_;replace HB:=ak (below_step z2_ hb);replace HI0:=ak (IsS89.below z1_ hb);clear hb ho4;obtain ⟨Ao5,co5,eo5⟩:=Kd.R_slice HO577.out;subst eo5) | ((with_reducible refine gate_callee (f:=67) rfl ?_);refine Hd.gl_ 5 Try.func67 #[.pointer (some ⟨g,0,none⟩),.slice Ao5 y575.length co5] ?_;(with_reducible refine (spec_l1Int.calls g s0_0 s0_1 s0_2 _ _ y575 t578 t579 t580 w0 _ ?side1 ?side2 ?side3 ?side4 ?side5 A2.out).mono ?_);(case side1 => exact z1_);(case side2 => exact z2_);(case side3 => exact z26_ HO577);(case side4 => exact (Kd.R_reads' HO577.out).2.1);(case side5 => exact far_slice (IsS89.own_ne HI0.out HO577.out (by decide)));rintro e w6 ⟨rfl,hi,hb,hk⟩;refine ⟨_,rfl,?_⟩;replace HO577:=ak (Kd.R_mono (Kd.R_keep (IsS89.apart (show IsS89 w0 _ g s0_0 s0_1 s0_2 from by repeat (first | (with_reducible first | exact HI0.out | apply IsS89.alloc | apply IsS89.drewN | apply IsS89.drew | apply IsS89.set_1 | apply IsS89.set_2) | exact HI0.out)) (Hd.r_ HO577) (by decide)) hk (fun _ h => h.2)) (fun _ h => h.1));replace HK:=z99_;replace HB:=ak (hb);replace HI0:=ak (hi);clear hb hk hi))
 go_ret
 exact ⟨Hd.e_,z1_,z2_,z0_⟩
def spec_l4Any.f (s0_0 : List Int) (s0_1 : Int) (s0_2 : Int) : Option (Int × Int × Int × Int):=(spec_l4Draw.f s0_0 s0_1 s0_2).bind fun bt582 => ((spec_l1Below.f s0_0 bt582.2.2.1 bt582.2.2.2 12).bind fun bt587 => (if bt587.1 = 0 then ((spec_l4Raw.f s0_0 bt587.2.1 bt587.2.2).bind fun bt590 => (some (bt590.1,bt582.2.1,bt590.2.1,bt590.2.2))) else (if bt587.1 = 1 then ((spec_l4Raw.f s0_0 bt587.2.1 bt587.2.2).bind fun bt593 => (some (bt582.1,bt593.1,bt593.2.1,bt593.2.2))) else (some (bt582.1,bt582.2.1,bt587.2.1,bt587.2.2)))))
theorem spec_l4Any.calls (g : Nat) (s0_0 : List Int) (s0_1 : Int) (s0_2 : Int) (r1 : Int) (r2 : Int) (r3 : Int) (r4 : Int) (w0 w : World) (hI : IsS89 w0 w g s0_0 s0_1 s0_2) (hB : Below w0.heap.size w0 w) (h : spec_l4Any.f s0_0 s0_1 s0_2 = some (r1,r2,r3,r4)) :
  Calls Try.prog 87 #[.pointer (some ⟨g,0,none⟩)] w fun e w' => e = .returned (.agg #[.int .i64 r1,.int .i64 r2]) ∧ IsS89 w0 w' g s0_0 r3 r4 ∧ Below w0.heap.size w0 w' ∧ KeepBut w w' g none:=by
 have hu75:=Try.underlying75
 have HI0:=ak hI
 have HK:=ak (KeepBut.refl w g none)
 have HL:=ak hB.size
 clear hI
 have HW0:=ak hB.size
 have HB:=ak hB
 clear hB
 have H:=h;clear h;unfold spec_l4Any.f at H
 replace H:=Hd.bd_ H;obtain ⟨⟨t582,t583,t584,t585⟩,A2,H⟩:=H;dsimp only at H
 replace H:=Hd.bd_ H;obtain ⟨⟨t587,t588,t589⟩,A3,H⟩:=H;dsimp only at H
 by_cases c4 : t587 = 0
 ·
  rw [if_pos c4] at H
  have c4b0:=beq_iff_eq.mpr c4
  have c4b1:=bne_eq_false_iff_eq.mpr c4
  clear c4
  replace H:=Hd.bd_ H;obtain ⟨⟨t590,t591,t592⟩,A5,H⟩:=H;dsimp only at H
  simp only [Option.some.injEq,Prod.mk.injEq] at H
  obtain ⟨rfl,rfl,rfl,rfl⟩:=H
  go_enter Try.func87,Try.ntmps87
  go_wp2_with (first | ((with_reducible refine gate_dst (N:=2) rfl ?_);refine Hd.box_ 2 (#[.int .i64 0,.int .i64 0]) 75 ?_;intro gb581 hg w6 hbox hb;replace HB:=ak (below_step z2_ hb);have BK581:=ak (hbox);have GW581:=ak ((z102_ : w.heap.size ≤ gb581));have GE581:=ak ((Nat.le_trans HW0.out (z102_ : w.heap.size ≤ gb581) : w0.heap.size ≤ gb581));replace HK:=z98_;have NB0_581:=ak ((z24_ : g ≠ gb581));have NB581_0:=ak ((z25_ : gb581 ≠ g));replace HI0:=ak (IsS89.below z1_ hb);clear hb hbox hg) | ((with_reducible refine gate_callee (f:=102) rfl ?_);refine Hd.gl_ 5 Try.func102 #[.pointer (some ⟨g,0,none⟩)] ?_;(with_reducible refine (spec_l4Draw.calls g s0_0 s0_1 s0_2 t582 t583 t584 t585 w0 _ ?side1 ?side2 A2.out).mono ?_);(case side1 => exact z7_ NB0_581);(case side2 => exact z10_ GE581);rintro e w7 ⟨rfl,hi,hb,hk⟩;refine ⟨_,rfl,?_⟩;replace BK581:=z70_ NB581_0;replace HK:=ak (KeepBut.trans (z3_ GW581) hk (.inl rfl));replace HB:=ak (hb);replace HI0:=ak (hi);clear hb hk hi) | ((with_reducible refine gate_dst (N:=3) rfl ?_);refine Hd.box_ 3 (#[.int .i64 0,.int .i64 0]) 75 ?_;intro gb586 hg w8 hbox hb;replace HB:=ak (below_step (z10_ GE581) hb);have BK586:=ak (hbox);have GW586:=ak ((z111_ : w.heap.size ≤ gb586));have GE586:=ak ((Nat.le_trans HW0.out (z111_ : w.heap.size ≤ gb586) : w0.heap.size ≤ gb586));replace HK:=ak (KeepBut.trans (z3_ GW581) (KeepBut.of_below hb g none) (.inl rfl));have NB581_586:=ak ((Hd.lt_ BK581 hg));have NB586_581:=ak ((Hd.gt_ BK581 hg));replace BK581:=ak (Hd.kb_ BK581 hb);have NB0_586:=ak ((z58_ NB0_581 : g ≠ gb586));have NB586_0:=ak ((z59_ NB0_581 : gb586 ≠ g));replace HI0:=ak (IsS89.below (z7_ NB0_581) hb);clear hb hbox hg;have hnb9:=NB586_581.out;have hnc9:=NB581_586.out;have hnb10:=NB586_0.out;have hnc10:=NB0_586.out;obtain ⟨hcz11_0,hcz11_1⟩:=Hd.c2_ BK586.out;obtain ⟨hfz11_0,hfz11_1⟩:=Hd.f2_ BK586.out) | ((with_reducible refine gate_callee (f:=49) rfl ?_);refine Hd.gl_ 7 Try.func49 #[.pointer (some ⟨g,0,none⟩),.int .i64 12] ?_;(with_reducible refine (spec_l1Below.calls g s0_0 t584 t585 12 t587 t588 t589 w0 _ ?side1 ?side2 A3.out).mono ?_);(case side1 => exact z11_ NB0_581 NB0_586);(case side2 => exact z12_ GE581 GE586);rintro e w12 ⟨rfl,hi,hb,hk⟩;refine ⟨_,rfl,?_⟩;replace BK581:=ak (KeepBut.blk hk (g':=gb581) (o:=.cells #[.int .i64 0,.int .i64 0] 75 (0,0)) (z19_ NB581_586 BK581) NB581_0.out (by simp));replace BK586:=ak (KeepBut.blk hk (g':=gb586) (o:=.cells #[.int .i64 t582,.int .i64 t583] 75 (0,0)) (z34_ BK586) NB586_0.out (by simp));replace HK:=ak (KeepBut.trans (z9_ GW581 GW586) hk (.inl rfl));replace HB:=ak (hb);replace HI0:=ak (hi);clear hb hk hi) | ((with_reducible refine gate_callee (f:=105) rfl ?_);refine Hd.gl_ 11 Try.func105 #[.pointer (some ⟨g,0,none⟩)] ?_;(with_reducible refine (spec_l4Raw.calls g s0_0 t588 t589 t590 t591 t592 w0 _ ?side1 ?side2 A5.out).mono ?_);(case side1 => exact z11_ NB0_581 NB0_586);(case side2 => exact z12_ GE581 GE586);rintro e w13 ⟨rfl,hi,hb,hk⟩;refine ⟨_,rfl,?_⟩;replace BK581:=z70_ NB581_0;replace BK586:=ak (KeepBut.blk hk (g':=gb586) (o:=.cells #[.int .i64 t582,.int .i64 t583] 75 (0,0)) (Hd.k_ BK586) NB586_0.out (by simp));replace HK:=ak (KeepBut.trans (z9_ GW581 GW586) hk (.inl rfl));replace HB:=ak (hb);replace HI0:=ak (hi);clear hb hk hi;obtain ⟨hcz14_0,hcz14_1⟩:=Hd.c2_ BK586.out;obtain ⟨hfz14_0,hfz14_1⟩:=Hd.f2_ BK586.out;have hnb15:=NB581_0.out;have hnc15:=NB0_581.out;obtain ⟨hcz16_0,hcz16_1⟩:=Hd.c2_ BK581.out;obtain ⟨hfz16_0,hfz16_1⟩:=Hd.f2_ BK581.out))
  refine bodyPost_ret (results_cell_row rfl _ _ gb581 75 #[.int .i64 t590,.int .i64 t583] (0,0) _ rfl (by (with_reducible repeat (first | refine blk_drewN ?_ _ | refine blk_drew ?_ | refine blk_alloc ?_ _));refine blk_put (cs:=#[.int .i64 t590,.int .i64 0]) ?_ 1 _ rfl;(with_reducible repeat (first | refine blk_drewN ?_ _ | refine blk_drew ?_ | refine blk_alloc ?_ _));refine blk_put (cs:=#[.int .i64 0,.int .i64 0]) ?_ 0 _ rfl;(with_reducible repeat (first | refine blk_drewN ?_ _ | refine blk_drew ?_ | refine blk_alloc ?_ _));refine blk_far ?_ NB581_586.out _;(with_reducible repeat (first | refine blk_drewN ?_ _ | refine blk_drew ?_ | refine blk_alloc ?_ _));exact BK581.out) Try.underlying75 rfl (by kernel_rfl)) rfl ?_
  exact ⟨Hd.e_,z11_ NB0_581 NB0_586,z12_ GE581 GE586,z9_ GW581 GW586⟩
 rw [if_neg c4] at H
 have c4b0:=beq_eq_false_iff_ne.mpr c4
 have c4b1:=bne_iff_ne.mpr c4
 by_cases c17 : t587 = 1;rotate_left
 ·
  rw [if_neg c17] at H
  have c17b0:=beq_eq_false_iff_ne.mpr c17
  have c17b1:=bne_iff_ne.mpr c17
  simp only [Option.some.injEq,Prod.mk.injEq] at H
  obtain ⟨rfl,rfl,rfl,rfl⟩:=H
  go_enter Try.func87,Try.ntmps87
  go_wp2_with (first | ((with_reducible refine gate_dst (N:=2) rfl ?_);refine Hd.box_ 2 (#[.int .i64 0,.int .i64 0]) 75 ?_;intro gb581 hg w30 hbox hb;replace HB:=ak (below_step z2_ hb);have BK581:=ak (hbox);have GW581:=ak ((z102_ : w.heap.size ≤ gb581));have GE581:=ak ((Nat.le_trans HW0.out (z102_ : w.heap.size ≤ gb581) : w0.heap.size ≤ gb581));replace HK:=z98_;have NB0_581:=ak ((z24_ : g ≠ gb581));have NB581_0:=ak ((z25_ : gb581 ≠ g));replace HI0:=ak (IsS89.below z1_ hb);clear hb hbox hg) | ((with_reducible refine gate_callee (f:=102) rfl ?_);refine Hd.gl_ 5 Try.func102 #[.pointer (some ⟨g,0,none⟩)] ?_;(with_reducible refine (spec_l4Draw.calls g s0_0 s0_1 s0_2 t582 t583 t584 t585 w0 _ ?side1 ?side2 A2.out).mono ?_);(case side1 => exact z7_ NB0_581);(case side2 => exact z10_ GE581);rintro e w31 ⟨rfl,hi,hb,hk⟩;refine ⟨_,rfl,?_⟩;replace BK581:=z70_ NB581_0;replace HK:=ak (KeepBut.trans (z3_ GW581) hk (.inl rfl));replace HB:=ak (hb);replace HI0:=ak (hi);clear hb hk hi) | ((with_reducible refine gate_dst (N:=3) rfl ?_);refine Hd.box_ 3 (#[.int .i64 0,.int .i64 0]) 75 ?_;intro gb586 hg w32 hbox hb;replace HB:=ak (below_step (z10_ GE581) hb);have BK586:=ak (hbox);have GW586:=ak ((z111_ : w.heap.size ≤ gb586));have GE586:=ak ((Nat.le_trans HW0.out (z111_ : w.heap.size ≤ gb586) : w0.heap.size ≤ gb586));replace HK:=ak (KeepBut.trans (z3_ GW581) (KeepBut.of_below hb g none) (.inl rfl));have NB581_586:=ak ((Hd.lt_ BK581 hg));have NB586_581:=ak ((Hd.gt_ BK581 hg));replace BK581:=ak (Hd.kb_ BK581 hb);have NB0_586:=ak ((z58_ NB0_581 : g ≠ gb586));have NB586_0:=ak ((z59_ NB0_581 : gb586 ≠ g));replace HI0:=ak (IsS89.below (z7_ NB0_581) hb);clear hb hbox hg;have hnb33:=NB586_581.out;have hnc33:=NB581_586.out;have hnb34:=NB586_0.out;have hnc34:=NB0_586.out;obtain ⟨hcz35_0,hcz35_1⟩:=Hd.c2_ BK586.out;obtain ⟨hfz35_0,hfz35_1⟩:=Hd.f2_ BK586.out) | ((with_reducible refine gate_callee (f:=49) rfl ?_);refine Hd.gl_ 7 Try.func49 #[.pointer (some ⟨g,0,none⟩),.int .i64 12] ?_;(with_reducible refine (spec_l1Below.calls g s0_0 t584 t585 12 t587 t588 t589 w0 _ ?side1 ?side2 A3.out).mono ?_);(case side1 => exact z11_ NB0_581 NB0_586);(case side2 => exact z12_ GE581 GE586);rintro e w36 ⟨rfl,hi,hb,hk⟩;refine ⟨_,rfl,?_⟩;replace BK581:=ak (KeepBut.blk hk (g':=gb581) (o:=.cells #[.int .i64 0,.int .i64 0] 75 (0,0)) (z19_ NB581_586 BK581) NB581_0.out (by simp));replace BK586:=ak (KeepBut.blk hk (g':=gb586) (o:=.cells #[.int .i64 t582,.int .i64 t583] 75 (0,0)) (z34_ BK586) NB586_0.out (by simp));replace HK:=ak (KeepBut.trans (z9_ GW581 GW586) hk (.inl rfl));replace HB:=ak (hb);replace HI0:=ak (hi);clear hb hk hi;obtain ⟨hcz37_0,hcz37_1⟩:=Hd.c2_ BK586.out;obtain ⟨hfz37_0,hfz37_1⟩:=Hd.f2_ BK586.out;have hnb38:=NB581_0.out;have hnc38:=NB0_581.out;obtain ⟨hcz39_0,hcz39_1⟩:=Hd.c2_ BK581.out;obtain ⟨hfz39_0,hfz39_1⟩:=Hd.f2_ BK581.out))
  refine bodyPost_ret (results_cell_row rfl _ _ gb581 75 #[.int .i64 t582,.int .i64 t583] (0,0) _ rfl (z34_ BK581) Try.underlying75 rfl (by kernel_rfl)) rfl ?_
  exact ⟨Hd.e_,z11_ NB0_581 NB0_586,z12_ GE581 GE586,z9_ GW581 GW586⟩
 rw [if_pos c17] at H
 have c17b0:=beq_iff_eq.mpr c17
 have c17b1:=bne_eq_false_iff_eq.mpr c17
 clear c17
 replace H:=Hd.bd_ H;obtain ⟨⟨t593,t594,t595⟩,A18,H⟩:=H;dsimp only at H
 simp only [Option.some.injEq,Prod.mk.injEq] at H
 obtain ⟨rfl,rfl,rfl,rfl⟩:=H
 go_enter Try.func87,Try.ntmps87
 go_wp2_with (first | ((with_reducible refine gate_dst (N:=2) rfl ?_);refine Hd.box_ 2 (#[.int .i64 0,.int .i64 0]) 75 ?_;intro gb581 hg w19 hbox hb;replace HB:=ak (below_step z2_ hb);have BK581:=ak (hbox);have GW581:=ak ((z102_ : w.heap.size ≤ gb581));have GE581:=ak ((Nat.le_trans HW0.out (z102_ : w.heap.size ≤ gb581) : w0.heap.size ≤ gb581));replace HK:=z98_;have NB0_581:=ak ((z24_ : g ≠ gb581));have NB581_0:=ak ((z25_ : gb581 ≠ g));replace HI0:=ak (IsS89.below z1_ hb);clear hb hbox hg) | ((with_reducible refine gate_callee (f:=102) rfl ?_);refine Hd.gl_ 5 Try.func102 #[.pointer (some ⟨g,0,none⟩)] ?_;(with_reducible refine (spec_l4Draw.calls g s0_0 s0_1 s0_2 t582 t583 t584 t585 w0 _ ?side1 ?side2 A2.out).mono ?_);(case side1 => exact z7_ NB0_581);(case side2 => exact z10_ GE581);rintro e w20 ⟨rfl,hi,hb,hk⟩;refine ⟨_,rfl,?_⟩;replace BK581:=z70_ NB581_0;replace HK:=ak (KeepBut.trans (z3_ GW581) hk (.inl rfl));replace HB:=ak (hb);replace HI0:=ak (hi);clear hb hk hi) | ((with_reducible refine gate_dst (N:=3) rfl ?_);refine Hd.box_ 3 (#[.int .i64 0,.int .i64 0]) 75 ?_;intro gb586 hg w21 hbox hb;replace HB:=ak (below_step (z10_ GE581) hb);have BK586:=ak (hbox);have GW586:=ak ((z111_ : w.heap.size ≤ gb586));have GE586:=ak ((Nat.le_trans HW0.out (z111_ : w.heap.size ≤ gb586) : w0.heap.size ≤ gb586));replace HK:=ak (KeepBut.trans (z3_ GW581) (KeepBut.of_below hb g none) (.inl rfl));have NB581_586:=ak ((Hd.lt_ BK581 hg));have NB586_581:=ak ((Hd.gt_ BK581 hg));replace BK581:=ak (Hd.kb_ BK581 hb);have NB0_586:=ak ((z58_ NB0_581 : g ≠ gb586));have NB586_0:=ak ((z59_ NB0_581 : gb586 ≠ g));replace HI0:=ak (IsS89.below (z7_ NB0_581) hb);clear hb hbox hg;have hnb22:=NB586_581.out;have hnc22:=NB581_586.out;have hnb23:=NB586_0.out;have hnc23:=NB0_586.out;obtain ⟨hcz24_0,hcz24_1⟩:=Hd.c2_ BK586.out;obtain ⟨hfz24_0,hfz24_1⟩:=Hd.f2_ BK586.out) | ((with_reducible refine gate_callee (f:=49) rfl ?_);refine Hd.gl_ 7 Try.func49 #[.pointer (some ⟨g,0,none⟩),.int .i64 12] ?_;(with_reducible refine (spec_l1Below.calls g s0_0 t584 t585 12 t587 t588 t589 w0 _ ?side1 ?side2 A3.out).mono ?_);(case side1 => exact z11_ NB0_581 NB0_586);(case side2 => exact z12_ GE581 GE586);rintro e w25 ⟨rfl,hi,hb,hk⟩;refine ⟨_,rfl,?_⟩;replace BK581:=ak (KeepBut.blk hk (g':=gb581) (o:=.cells #[.int .i64 0,.int .i64 0] 75 (0,0)) (z19_ NB581_586 BK581) NB581_0.out (by simp));replace BK586:=ak (KeepBut.blk hk (g':=gb586) (o:=.cells #[.int .i64 t582,.int .i64 t583] 75 (0,0)) (z34_ BK586) NB586_0.out (by simp));replace HK:=ak (KeepBut.trans (z9_ GW581 GW586) hk (.inl rfl));replace HB:=ak (hb);replace HI0:=ak (hi);clear hb hk hi) | ((with_reducible refine gate_callee (f:=105) rfl ?_);refine Hd.gl_ 16 Try.func105 #[.pointer (some ⟨g,0,none⟩)] ?_;(with_reducible refine (spec_l4Raw.calls g s0_0 t588 t589 t593 t594 t595 w0 _ ?side1 ?side2 A18.out).mono ?_);(case side1 => exact z11_ NB0_581 NB0_586);(case side2 => exact z12_ GE581 GE586);rintro e w26 ⟨rfl,hi,hb,hk⟩;refine ⟨_,rfl,?_⟩;replace BK581:=z70_ NB581_0;replace BK586:=ak (KeepBut.blk hk (g':=gb586) (o:=.cells #[.int .i64 t582,.int .i64 t583] 75 (0,0)) (Hd.k_ BK586) NB586_0.out (by simp));replace HK:=ak (KeepBut.trans (z9_ GW581 GW586) hk (.inl rfl));replace HB:=ak (hb);replace HI0:=ak (hi);clear hb hk hi;obtain ⟨hcz27_0,hcz27_1⟩:=Hd.c2_ BK586.out;obtain ⟨hfz27_0,hfz27_1⟩:=Hd.f2_ BK586.out;have hnb28:=NB581_0.out;have hnc28:=NB0_581.out;obtain ⟨hcz29_0,hcz29_1⟩:=Hd.c2_ BK581.out;obtain ⟨hfz29_0,hfz29_1⟩:=Hd.f2_ BK581.out))
 refine bodyPost_ret (results_cell_row rfl _ _ gb581 75 #[.int .i64 t582,.int .i64 t593] (0,0) _ rfl (by (with_reducible repeat (first | refine blk_drewN ?_ _ | refine blk_drew ?_ | refine blk_alloc ?_ _));refine blk_put (cs:=#[.int .i64 t582,.int .i64 0]) ?_ 1 _ rfl;(with_reducible repeat (first | refine blk_drewN ?_ _ | refine blk_drew ?_ | refine blk_alloc ?_ _));refine blk_put (cs:=#[.int .i64 0,.int .i64 0]) ?_ 0 _ rfl;(with_reducible repeat (first | refine blk_drewN ?_ _ | refine blk_drew ?_ | refine blk_alloc ?_ _));refine blk_far ?_ NB581_586.out _;(with_reducible repeat (first | refine blk_drewN ?_ _ | refine blk_drew ?_ | refine blk_alloc ?_ _));exact BK581.out) Try.underlying75 rfl (by kernel_rfl)) rfl ?_
 exact ⟨Hd.e_,z11_ NB0_581 NB0_586,z12_ GE581 GE586,z9_ GW581 GW586⟩
def spec_l6Any.l0 : Nat → List (S75) → List Int → Int → Int → Option ((List (S75)) × Int × Int)
 | 0,_,_,_,_ => none
 | k + 1,x3,x1000,x1001,x1002 => if (x3.length : Int) < 11 then (if x3.length < 8796093022208 then (spec_l6Any.l0 k (x3 ++ [(⟨(x3.length : Int),wrap64 (50 + (x3.length : Int))⟩ : S75)]) x1000 x1001 x1002) else (none)) else (some (x3,x1001,x1002))
def spec_l6Any.f (k : Nat) (s0_0 : List Int) (s0_1 : Int) (s0_2 : Int) : Option ((List (S75)) × Int × Int):=(spec_l6Draw.f k s0_0 s0_1 s0_2).bind fun bt596 => ((spec_l1Below.f s0_0 bt596.2.1 bt596.2.2 12).bind fun bt601 => (if bt601.1 = 0 then ((spec_l4Any.f s0_0 bt601.2.1 bt601.2.2).bind fun bt604 => (if 0 < (bt596.1.length : Int) then (some ((bt596.1.set (0 : Int).toNat (⟨bt604.1,bt604.2.1⟩ : S75)),bt604.2.2.1,bt604.2.2.2)) else (none))) else (if bt601.1 = 1 then (if 0 ≤ (wrap64 ((bt596.1.length : Int) - 1)) then (if (wrap64 ((bt596.1.length : Int) - 1)) < (bt596.1.length : Int) then (if bt596.1.length < 8796093022208 then (some ((bt596.1 ++ [(⟨(rd_T75 bt596.1 (wrap64 ((bt596.1.length : Int) - 1))).f0,(rd_T75 bt596.1 (wrap64 ((bt596.1.length : Int) - 1))).f1⟩ : S75)]),bt601.2.1,bt601.2.2)) else (none)) else (none)) else (none)) else (if bt601.1 = 2 then (if 1 ≤ (bt596.1.length : Int) then (some ((bt596.1.take (1 : Int).toNat),bt601.2.1,bt601.2.2)) else (none)) else (if bt601.1 = 3 then (spec_l6Any.l0 k bt596.1 s0_0 bt601.2.1 bt601.2.2) else (some (bt596.1,bt601.2.1,bt601.2.2)))))))
theorem spec_l6Any.calls (k : Nat) (g : Nat) (s0_0 : List Int) (s0_1 : Int) (s0_2 : Int) (r1 : List (S75)) (r2 : Int) (r3 : Int) (w0 w : World) (hI : IsS89 w0 w g s0_0 s0_1 s0_2) (hB : Below w0.heap.size w0 w) (h : spec_l6Any.f k s0_0 s0_1 s0_2 = some (r1,r2,r3)) :
  Calls Try.prog 69 #[.pointer (some ⟨g,0,none⟩)] w fun e w' => ∃ v0_ : Value,e = .returned (v0_) ∧ Kd.R k75 75 w' w.heap.size (fun _ => True) v0_ r1 ∧ IsS89 w0 w' g s0_0 r2 r3 ∧ Below w0.heap.size w0 w' ∧ KeepBut w w' g none:=by
 have hu75:=Try.underlying75
 have HI0:=ak hI
 have HK:=ak (KeepBut.refl w g none)
 have HL:=ak hB.size
 clear hI
 have HW0:=ak hB.size
 have HB:=ak hB
 clear hB
 have H:=h;clear h;unfold spec_l6Any.f at H
 replace H:=Hd.bd_ H;obtain ⟨⟨t596,t599,t600⟩,A2,H⟩:=H;dsimp only at H
 replace H:=Hd.bd_ H;obtain ⟨⟨t601,t602,t603⟩,A3,H⟩:=H;dsimp only at H
 by_cases c4 : t601 = 0
 ·
  rw [if_pos c4] at H
  have c4b0:=beq_iff_eq.mpr c4
  have c4b1:=bne_eq_false_iff_eq.mpr c4
  clear c4
  replace H:=Hd.bd_ H;obtain ⟨⟨t604,t605,t606,t607⟩,A5,H⟩:=H;dsimp only at H
  by_cases c6 : 0 < (t596.length : Int);rotate_left
  ·
   rw [if_neg c6] at H
   exact absurd H (by simp)
  rw [if_pos c6] at H
  have c6b0:=decide_eq_true c6
  have c6b1 : decide (0 < t596.length) = true:=decide_eq_true (by omega)
  clear c6
  generalize hy608 : (t596.set (0 : Int).toNat (⟨t604,t605⟩ : S75)) = y608 at H;have Ny608:=ak hy608.symm;clear hy608;try rw [Option.bind_some] at H
  simp only [Option.some.injEq,Prod.mk.injEq] at H
  obtain ⟨rfl,rfl,rfl⟩:=H
  go_enter Try.func69,Try.ntmps69
  go_wp2_with (first | ((with_reducible refine gate_callee (f:=86) rfl ?_);refine Hd.gl_ 5 Try.func86 #[.pointer (some ⟨g,0,none⟩)] ?_;(with_reducible refine (spec_l6Draw.calls k g s0_0 s0_1 s0_2 t596 t599 t600 w0 _ ?side1 ?side2 A2.out).mono ?_);(case side1 => exact z1_);(case side2 => exact z2_);rintro e w8 ⟨v597,rfl,ho0,hi,hb,hk⟩;refine ⟨_,rfl,?_⟩;have HO598:=z117_;replace HK:=z99_;replace HB:=ak (hb);replace HI0:=ak (hi);clear hb hk hi ho0) | ((with_reducible refine gate_callee (f:=49) rfl ?_);refine Hd.gl_ 7 Try.func49 #[.pointer (some ⟨g,0,none⟩),.int .i64 12] ?_;(with_reducible refine (spec_l1Below.calls g s0_0 t599 t600 12 t601 t602 t603 w0 _ ?side1 ?side2 A3.out).mono ?_);(case side1 => exact z1_);(case side2 => exact z2_);rintro e w9 ⟨rfl,hi,hb,hk⟩;refine ⟨_,rfl,?_⟩;replace HO598:=z35_;replace HK:=z99_;replace HB:=ak (hb);replace HI0:=ak (hi);clear hb hk hi) | ((with_reducible refine gate_callee (f:=87) rfl ?_);refine Hd.gl_ 12 Try.func87 #[.pointer (some ⟨g,0,none⟩)] ?_;(with_reducible refine (spec_l4Any.calls g s0_0 t602 t603 t604 t605 t606 t607 w0 _ ?side1 ?side2 A5.out).mono ?_);(case side1 => exact z1_);(case side2 => exact z2_);rintro e w10 ⟨rfl,hi,hb,hk⟩;refine ⟨_,rfl,?_⟩;replace HO598:=ak (Kd.R_mono (Kd.R_keep (IsS89.apart (show IsS89 w0 _ g s0_0 t602 t603 from by repeat (first | (with_reducible first | exact HI0.out | apply IsS89.alloc | apply IsS89.drewN | apply IsS89.drew | apply IsS89.set_1 | apply IsS89.set_2) | exact HI0.out)) (Hd.r_ HO598) (by decide)) hk (fun _ h => h.2)) (fun _ h => h.1));replace HK:=z99_;replace HB:=ak (hb);replace HI0:=ak (hi);clear hb hk hi;have p7 : 0 ≤ (0 : Int):=(by omega);have q7 : (0 : Int) < ((t596.length : Int) : Int):=of_decide_eq_true Hd.a_;have qi7 : (0 < t596.length) = True:=eq_true (by omega);obtain ⟨go7,co7,eo7,gb7,gl7,cl7,HG7⟩:=Kd.R_form HO598.out (by omega);(first | cases eo7 | (injection eo7 with ea_ en_ ec_;(first | subst ea_ | (injection ea_ with ea_;subst ea_));subst ec_;clear en_));have GB7:=ak gb7;have GG7:=ak HG7;clear gb7 gl7 HG7;obtain ⟨ce7,hcl7,hM7,hcc7,hfr7⟩:=Kd.R_elem HO598.out z75 (0 : Int) p7 q7;obtain rfl:=k75_openM hM7;have hx7_0 : w10.cell? ⟨go7,(0 : Int).toNat * 2,none⟩ = some (.int .i64 ((rd_T75 t596 0).f0)):=hcc7 0 _ rfl;have hx7_1 : w10.cell? ⟨go7,(0 : Int).toNat * 2 + 1,none⟩ = some (.int .i64 ((rd_T75 t596 0).f1)):=hcc7 1 _ rfl;have hf7_0 : w10.frozen? ⟨go7,(0 : Int).toNat * 2,none⟩ = false:=hfr7 0;have hf7_1 : w10.frozen? ⟨go7,(0 : Int).toNat * 2 + 1,none⟩ = false:=hfr7 1;clear hcl7 hcc7 hfr7 hM7;(try rw [show ((0 : Int)).toNat = 0 from rfl] at hx7_0);(try simp only [Nat.reduceMul,Nat.zero_mul,Nat.zero_add,Nat.reduceAdd] at hx7_0);(try rw [show ((0 : Int)).toNat = 0 from rfl] at hf7_0);(try simp only [Nat.reduceMul,Nat.zero_mul,Nat.zero_add,Nat.reduceAdd] at hf7_0);(try rw [show ((0 : Int)).toNat = 0 from rfl] at hx7_1);(try simp only [Nat.reduceMul,Nat.zero_mul,Nat.zero_add,Nat.reduceAdd] at hx7_1);(try rw [show ((0 : Int)).toNat = 0 from rfl] at hf7_1);(try simp only [Nat.reduceMul,Nat.zero_mul,Nat.zero_add,Nat.reduceAdd] at hf7_1);replace p7:=eq_true p7;replace q7:=eq_true q7;have HX11:=ak (show Kd.R k75 75 w10 w.heap.size (fun _ => True) (.slice (some ⟨go7,0,none⟩) t596.length co7) t596 from (Hd.r_ HO598));obtain ⟨ce11,hcl11,hM11,hcc11,hfr11⟩:=Kd.R_elem HX11.out z75 (0 : Int) (by omega) (by have h_ : (0 : Int) < ((t596.length : Int) : Int):=of_decide_eq_true Hd.a_;first | exact h_ | (have e_:=(Kd.R_reads' HO598.out).1;omega) | simpa using h_);obtain rfl:=k75_openM hM11;have HP11:=Kd.R_seg HX11.out (0 : Int) (by omega) (by have h_ : (0 : Int) < ((t596.length : Int) : Int):=of_decide_eq_true Hd.a_;first | exact h_ | (have e_:=(Kd.R_reads' HO598.out).1;omega) | simpa using h_) (seg:=[.int .i64 t604,.int .i64 t605]) (j:=0) hcl11 hcc11 (show 2 ≤ 2 from by decide) (x':=(⟨t604,t605⟩ : S75)) (k75_mkM _ _ _ (⟨t604,t605⟩ : S75) ) (fun _ hk => hk);have hx11_0:=hcc11 0 _ rfl;(try simp only [show (k75).sz = 2 from rfl,Nat.mul_one,Nat.add_zero] at hx11_0);(try rw [show ((0 : Int)).toNat = 0 from rfl] at hx11_0);(try simp only [Nat.reduceMul,Nat.zero_mul,Nat.zero_add,Nat.reduceAdd] at hx11_0);have hf11_0:=hfr11 0;(try simp only [show (k75).sz = 2 from rfl,Nat.mul_one,Nat.add_zero] at hf11_0);(try rw [show ((0 : Int)).toNat = 0 from rfl] at hf11_0);(try simp only [Nat.reduceMul,Nat.zero_mul,Nat.zero_add,Nat.reduceAdd] at hf11_0);have hx11_1:=hcc11 1 _ rfl;(try simp only [show (k75).sz = 2 from rfl,Nat.mul_one,Nat.add_zero] at hx11_1);(try rw [show ((0 : Int)).toNat = 0 from rfl] at hx11_1);(try simp only [Nat.reduceMul,Nat.zero_mul,Nat.zero_add,Nat.reduceAdd] at hx11_1);have hf11_1:=hfr11 1;(try simp only [show (k75).sz = 2 from rfl,Nat.mul_one,Nat.add_zero] at hf11_1);(try rw [show ((0 : Int)).toNat = 0 from rfl] at hf11_1);(try simp only [Nat.reduceMul,Nat.zero_mul,Nat.zero_add,Nat.reduceAdd] at hf11_1);clear hcl11 hcc11 hfr11 hM11) | ((with_reducible refine gate_store (t:=75) (p:=13) rfl ?_);refine store_event (t:=75) (p:=13) (v:=?vo_w12) (w1:=((w10.setCell ⟨go7,0,none⟩ (.int .i64 t604)).setCell ⟨go7,1,none⟩ (.int .i64 t605))) ?hg ?ho ?hn ?hr ?_;(case ho => rfl);(case hg => rfl);(case hn => rfl);(case hr => exact z31_);intro w12 hw;have hg : w10.grownBy w12 (some go7):=(by rw [hw];exact HP11.2);have hp_ : Kd.R k75 75 w12 w.heap.size (fun _ => True) (.slice (some ⟨go7,0,none⟩) t596.length co7) y608:=(by rw [hw,Ny608.out];exact HP11.1);clear HP11;replace HI0:=ak (IsS89.grown (Hd.as_ (fun W_ => IsS89 _ W_ _ _ _ _) HI0.out z1_) hg (IsS89.own_ne HI0.out HO598.out (by decide)));replace HB:=ak ((by rw [hw];exact below_set (below_set (HB.out) (Nat.le_trans HL.out GB7.out)) (Nat.le_trans HL.out GB7.out) : Below w0.heap.size w0 w12));replace HK:=ak (KeepBut.trans z0_ (KeepBut.of_grown hg g) (Kd.R_base2 HO598.out));replace HO598:=ak (hp_);clear hg hw hp_))
  go_ret
  exact ⟨_,Hd.e_,z6_ HO598,z1_,z2_,z0_⟩
 rw [if_neg c4] at H
 have c4b0:=beq_eq_false_iff_ne.mpr c4
 have c4b1:=bne_iff_ne.mpr c4
 by_cases c13 : t601 = 1
 ·
  rw [if_pos c13] at H
  have c13b0:=beq_iff_eq.mpr c13
  have c13b1:=bne_eq_false_iff_eq.mpr c13
  clear c13
  obtain ⟨ji14,hji14⟩ : ∃ j_ : Int,(wrap64 ((t596.length : Int) - 1)) = j_:=⟨_,rfl⟩
  replace H : (if 0 ≤ (ji14) then (if (ji14) < (t596.length : Int) then (if t596.length < 8796093022208 then (some ((t596 ++ [(⟨(rd_T75 t596 (ji14)).f0,(rd_T75 t596 (ji14)).f1⟩ : S75)]),t602,t603)) else (none)) else (none)) else (none)) = some (r1,r2,r3):=by first | (rw [hji14] at H;exact H) | (simp only [hji14] at H ⊢;exact H)
  (try rw [hji14] at A2)
  (try rw [hji14] at A3)
  have hji14w : (IntKind.i64.wrap ((t596.length : Int) - 1)) = ji14:=(i64_w _).trans hji14
  by_cases c15 : 0 ≤ (ji14);rotate_left
  ·
   rw [if_neg c15] at H
   exact absurd H (by simp)
  rw [if_pos c15] at H
  have c15b0:=decide_eq_true c15
  clear c15
  by_cases c16 : (ji14) < (t596.length : Int);rotate_left
  ·
   rw [if_neg c16] at H
   exact absurd H (by simp)
  rw [if_pos c16] at H
  have c16b0:=decide_eq_true c16
  clear c16
  by_cases c17 : t596.length < 8796093022208;rotate_left
  ·
   rw [if_neg c17] at H
   exact absurd H (by simp)
  rw [if_pos c17] at H
  have LMc17:=ak c17
  clear c17
  generalize hy610 : (t596 ++ [(⟨(rd_T75 t596 (ji14)).f0,(rd_T75 t596 (ji14)).f1⟩ : S75)]) = y610 at H;have Ny610:=ak hy610.symm;clear hy610;try rw [Option.bind_some] at H
  simp only [Option.some.injEq,Prod.mk.injEq] at H
  obtain ⟨rfl,rfl,rfl⟩:=H
  go_enter Try.func69,Try.ntmps69
  go_wp2_with (first | ((with_reducible refine gate_callee (f:=86) rfl ?_);refine Hd.gl_ 5 Try.func86 #[.pointer (some ⟨g,0,none⟩)] ?_;(with_reducible refine (spec_l6Draw.calls k g s0_0 s0_1 s0_2 t596 t599 t600 w0 _ ?side1 ?side2 A2.out).mono ?_);(case side1 => exact z1_);(case side2 => exact z2_);rintro e w18 ⟨v597,rfl,ho0,hi,hb,hk⟩;refine ⟨_,rfl,?_⟩;have HO598:=z117_;replace HK:=z99_;replace HB:=ak (hb);replace HI0:=ak (hi);clear hb hk hi ho0) | ((with_reducible refine gate_callee (f:=49) rfl ?_);refine Hd.gl_ 7 Try.func49 #[.pointer (some ⟨g,0,none⟩),.int .i64 12] ?_;(with_reducible refine (spec_l1Below.calls g s0_0 t599 t600 12 t601 t602 t603 w0 _ ?side1 ?side2 A3.out).mono ?_);(case side1 => exact z1_);(case side2 => exact z2_);rintro e w19 ⟨rfl,hi,hb,hk⟩;refine ⟨_,rfl,?_⟩;replace HO598:=z35_;replace HK:=z99_;replace HB:=ak (hb);replace HI0:=ak (hi);clear hb hk hi;obtain ⟨Ao20,co20,eo20⟩:=Kd.R_slice HO598.out;subst eo20;have p609 : 0 ≤ ((ji14) : Int):=of_decide_eq_true Hd.a_;have q609 : (ji14) < (t596.length : Int):=of_decide_eq_true Hd.a_;obtain ⟨ad609,e609,hx609_0,hx609_1⟩:=at_T75 (Kd.R_reads' HO598.out).2.2 (ji14) p609 q609;cases e609;replace p609:=eq_true p609;replace q609:=eq_true q609) | ((with_reducible refine gate_builtin (b:=.append) (xs:=#[.tmp 16,.tmp 23]) rfl ?_);at_builtin;refine Kd.R_append k75 w.heap.size rfl (.tmp 16) (.tmp 23) 32 75 (.agg #[(.int .i64 0),(.int .i64 0)]) 16 rfl Try.underlying32 info75 rfl (by decide) (by omega) (.slice (some ad609) t596.length co20) t596 (⟨(rd_T75 t596 (ji14)).f0,(rd_T75 t596 (ji14)).f1⟩ : S75) [.int .i64 ((rd_T75 t596 (ji14)).f0),.int .i64 ((rd_T75 t596 (ji14)).f1)] (fun _ => True) (fun _ => False) rfl rfl ?aP (fun _ hk => hk.elim) ?aF ?aO (Below.refl _ _) ?aS ?aL ?_;(case aP => exact k75_mkM _ _ _ (⟨(rd_T75 t596 (ji14)).f0,(rd_T75 t596 (ji14)).f1⟩ : S75));(case aF => exact (fun _ _ => trivial));(case aO => exact (Hd.r_ HO598));(case aS => exact (keep_size (w:=w) (g:=g) (row:=none) z0_));(case aL => have:=LMc17.out;omega);intro v611 w21 ho hb hg hat;rw [← Ny610.out] at ho;have n0_:=ak (IsS89.grown (Hd.as_ (fun W_ => IsS89 _ W_ _ _ _ _) HI0.out z1_) hg (IsS89.own_ne HI0.out HO598.out (by decide)));have n1_:=ak (below_weaken z2_ HL.out hb);have n2_:=ak (KeepBut.trans z0_ (KeepBut.of_grown hg g) (Kd.R_base2 HO598.out));have n3_:=ak (ho);clear HI0;clear HB;clear HK;clear HO598;have HI0:=n0_;have HB:=n1_;have HK:=n2_;have HO612:=n3_;clear n0_ n1_ n2_ n3_;clear ho hb hg hat))
  go_ret
  exact ⟨_,by first | rfl | (simp [errW_none,errW_some] <;> rfl) | (simp only [← hji14];first | rfl | (simp [errW_none,errW_some] <;> rfl)) | (simp [*,errW_none,errW_some] <;> rfl),z6_ HO612,z1_,z2_,z0_⟩
 rw [if_neg c13] at H
 have c13b0:=beq_eq_false_iff_ne.mpr c13
 have c13b1:=bne_iff_ne.mpr c13
 by_cases c22 : t601 = 2
 ·
  rw [if_pos c22] at H
  have c22b0:=beq_iff_eq.mpr c22
  have c22b1:=bne_eq_false_iff_eq.mpr c22
  clear c22
  by_cases c23 : 1 ≤ (t596.length : Int);rotate_left
  ·
   rw [if_neg c23] at H
   exact absurd H (by simp)
  rw [if_pos c23] at H
  have c23b0:=eq_true c23
  have c23b1:=decide_eq_true c23
  clear c23
  generalize hy613 : (t596.take (1 : Int).toNat) = y613 at H;have Ny613:=ak hy613.symm;clear hy613;try rw [Option.bind_some] at H
  simp only [Option.some.injEq,Prod.mk.injEq] at H
  obtain ⟨rfl,rfl,rfl⟩:=H
  go_enter Try.func69,Try.ntmps69
  go_wp2_with (first | ((with_reducible refine gate_callee (f:=86) rfl ?_);refine Hd.gl_ 5 Try.func86 #[.pointer (some ⟨g,0,none⟩)] ?_;(with_reducible refine (spec_l6Draw.calls k g s0_0 s0_1 s0_2 t596 t599 t600 w0 _ ?side1 ?side2 A2.out).mono ?_);(case side1 => exact z1_);(case side2 => exact z2_);rintro e w24 ⟨v597,rfl,ho0,hi,hb,hk⟩;refine ⟨_,rfl,?_⟩;have HO598:=z117_;replace HK:=z99_;replace HB:=ak (hb);replace HI0:=ak (hi);clear hb hk hi ho0) | ((with_reducible refine gate_callee (f:=49) rfl ?_);refine Hd.gl_ 7 Try.func49 #[.pointer (some ⟨g,0,none⟩),.int .i64 12] ?_;(with_reducible refine (spec_l1Below.calls g s0_0 t599 t600 12 t601 t602 t603 w0 _ ?side1 ?side2 A3.out).mono ?_);(case side1 => exact z1_);(case side2 => exact z2_);rintro e w25 ⟨rfl,hi,hb,hk⟩;refine ⟨_,rfl,?_⟩;replace HO598:=z35_;replace HK:=z99_;replace HB:=ak (hb);replace HI0:=ak (hi);clear hb hk hi;obtain ⟨Ao26,co26,eo26⟩:=Kd.R_slice HO598.out;subst eo26;have q27 : (1 : Int) ≤ ((t596.length : Int) : Int):=of_decide_eq_true Hd.a_;obtain ⟨i027,hi027,_,hsz27,_⟩:=info_parts info75;have hcut27:=cut_to (P:=Try.prog) 32 75 .i64 Try.underlying32 hi027 Ao26 t596.length co26 1 (by omega) q27 (Kd.R_reads' HO598.out).2.1;have hr27:=Kd.R_take (m:=(1 : Int).toNat) HO598.out (by omega);have hy27 : y613.length = (1 : Int).toNat:=(by rw [Ny613.out,List.length_take];omega);rw [← Ny613.out] at hr27;rw [← hy27] at hr27 hcut27;clear hy27 hi027 hsz27 HO598;have HO615:=ak hr27;clear hr27;replace q27:=eq_true q27))
  go_ret
  exact ⟨_,Hd.e_,z6_ HO615,z1_,z2_,z0_⟩
 rw [if_neg c22] at H
 have c22b0:=beq_eq_false_iff_ne.mpr c22
 have c22b1:=bne_iff_ne.mpr c22
 by_cases c28 : t601 = 3;rotate_left
 ·
  rw [if_neg c28] at H
  have c28b0:=beq_eq_false_iff_ne.mpr c28
  have c28b1:=bne_iff_ne.mpr c28
  simp only [Option.some.injEq,Prod.mk.injEq] at H
  obtain ⟨rfl,rfl,rfl⟩:=H
  go_enter Try.func69,Try.ntmps69
  go_wp2_with (first | ((with_reducible refine gate_callee (f:=86) rfl ?_);refine Hd.gl_ 5 Try.func86 #[.pointer (some ⟨g,0,none⟩)] ?_;(with_reducible refine (spec_l6Draw.calls k g s0_0 s0_1 s0_2 t596 t599 t600 w0 _ ?side1 ?side2 A2.out).mono ?_);(case side1 => exact z1_);(case side2 => exact z2_);rintro e w36 ⟨v597,rfl,ho0,hi,hb,hk⟩;refine ⟨_,rfl,?_⟩;have HO598:=z117_;replace HK:=z99_;replace HB:=ak (hb);replace HI0:=ak (hi);clear hb hk hi ho0) | ((with_reducible refine gate_callee (f:=49) rfl ?_);refine Hd.gl_ 7 Try.func49 #[.pointer (some ⟨g,0,none⟩),.int .i64 12] ?_;(with_reducible refine (spec_l1Below.calls g s0_0 t599 t600 12 t601 t602 t603 w0 _ ?side1 ?side2 A3.out).mono ?_);(case side1 => exact z1_);(case side2 => exact z2_);rintro e w37 ⟨rfl,hi,hb,hk⟩;refine ⟨_,rfl,?_⟩;replace HO598:=z35_;replace HK:=z99_;replace HB:=ak (hb);replace HI0:=ak (hi);clear hb hk hi))
  go_ret
  exact ⟨_,Hd.e_,z6_ HO598,z1_,z2_,z0_⟩
 rw [if_pos c28] at H
 have c28b0:=beq_iff_eq.mpr c28
 have c28b1:=bne_eq_false_iff_eq.mpr c28
 clear c28
 have H':=ak H
 clear H
 go_enter Try.func69,Try.ntmps69
 go_wp2_with (first | ((with_reducible refine gate_callee (f:=86) rfl ?_);refine Hd.gl_ 5 Try.func86 #[.pointer (some ⟨g,0,none⟩)] ?_;(with_reducible refine (spec_l6Draw.calls k g s0_0 s0_1 s0_2 t596 t599 t600 w0 _ ?side1 ?side2 A2.out).mono ?_);(case side1 => exact z1_);(case side2 => exact z2_);rintro e w29 ⟨v597,rfl,ho0,hi,hb,hk⟩;refine ⟨_,rfl,?_⟩;have HO598:=z117_;replace HK:=z99_;replace HB:=ak (hb);replace HI0:=ak (hi);clear hb hk hi ho0) | ((with_reducible refine gate_callee (f:=49) rfl ?_);refine Hd.gl_ 7 Try.func49 #[.pointer (some ⟨g,0,none⟩),.int .i64 12] ?_;(with_reducible refine (spec_l1Below.calls g s0_0 t599 t600 12 t601 t602 t603 w0 _ ?side1 ?side2 A3.out).mono ?_);(case side1 => exact z1_);(case side2 => exact z2_);rintro e w30 ⟨rfl,hi,hb,hk⟩;refine ⟨_,rfl,?_⟩;replace HO598:=z35_;replace HK:=z99_;replace HB:=ak (hb);replace HI0:=ak (hi);clear hb hk hi))
 go_loopg [3] k (fun kq v3 w' => ∃ (x3_1 : List (S75)),Aside0 (spec_l6Any.l0 kq x3_1 s0_0 t602 t603 = some (r1,r2,r3)) ∧ Aside0 (kq ≤ k) ∧ Aside0 (Kd.R k75 75 w' w.heap.size (fun _ => True) v3 x3_1) ∧ Aside0 (IsS89 w0 w' g s0_0 t602 t603) ∧ Aside0 (KeepBut w w' g none) ∧ Aside0 (Below w0.heap.size w0 w'))
 case atStart => exact ⟨(t596),H',⟨Nat.le_refl _⟩,⟨z6_ HO598⟩,⟨z1_⟩,⟨z0_⟩,⟨z2_⟩⟩
 case round =>
  clear H'
  try clear c1;try clear hx1;try clear hf1;try clear c2;try clear p2;try clear q2;try clear c4;try clear c4b0;try clear c4b1;try clear c6;try clear c6b0;try clear c6b1;try clear p6;try clear q6;try clear hx6;try clear c7;try clear p7;try clear q7;try clear hx7;try clear qi7;try clear hf7;try clear c8;try clear c11;try clear hx11;try clear hf11;try clear c13;try clear c13b0;try clear c13b1;try clear c15;try clear c15b0;try clear c16;try clear c16b0;try clear c17;try clear c22;try clear c22b0;try clear c22b1;try clear c23;try clear c23b0;try clear c23b1;try clear q27;try clear c28;try clear c28b0;try clear c28b1;try clear hx11_0;try clear hx11_1;try clear hx609_0;try clear hx609_1;try clear hx7_0;try clear hx7_1;try clear p609;try clear p7;try clear q27;try clear q609;try clear q7
  obtain ⟨x3_1,HA,HK1,HO_3,HI0,HK,HB⟩:=hrel
  cases gk with
  | zero => exact absurd HA.out (by simp [spec_l6Any.l0])
  | succ k1 =>
   have H:=HA.out
   clear HA
   simp only [spec_l6Any.l0] at H
   by_cases c31 : (x3_1.length : Int) < 11;rotate_left
   ·
    rw [if_neg c31] at H
    have c31b0:=decide_eq_false c31
    have c31b1 : decide (x3_1.length < 11) = false:=decide_eq_false (by omega)
    clear c31
    simp only [Option.some.injEq,Prod.mk.injEq] at H
    obtain ⟨rfl,rfl,rfl⟩:=H
    obtain ⟨Ao35,co35,eo35⟩:=Kd.R_slice HO_3.out
    subst eo35
    go_wp2
    go_ret
    exact ⟨_,Hd.e_,z6_ HO_3,z1_,z2_,z0_⟩
   rw [if_pos c31] at H
   have c31b0:=decide_eq_true c31
   have c31b1 : decide (x3_1.length < 11) = true:=decide_eq_true (by omega)
   clear c31
   by_cases c32 : x3_1.length < 8796093022208;rotate_left
   ·
    rw [if_neg c32] at H
    exact absurd H (by simp)
   rw [if_pos c32] at H
   have LMc32:=ak c32
   clear c32
   generalize hy616 : (x3_1 ++ [(⟨(x3_1.length : Int),wrap64 (50 + (x3_1.length : Int))⟩ : S75)]) = y616 at H;have Ny616:=ak hy616.symm;clear hy616;try rw [Option.bind_some] at H
   have H':=ak H
   clear H
   obtain ⟨Ao33,co33,eo33⟩:=Kd.R_slice HO_3.out
   subst eo33
   go_wp2_with (first | ((with_reducible refine gate_builtin (b:=.append) (xs:=#[.tmp 34,.tmp 41]) rfl ?_);at_builtin;refine Kd.R_append k75 w.heap.size rfl (.tmp 34) (.tmp 41) 32 75 (.agg #[(.int .i64 0),(.int .i64 0)]) 16 rfl Try.underlying32 info75 rfl (by decide) (by omega) (.slice Ao33 x3_1.length co33) x3_1 (⟨(x3_1.length : Int),wrap64 (50 + (x3_1.length : Int))⟩ : S75) [.int .i64 (x3_1.length : Int),.int .i64 (wrap64 (50 + (x3_1.length : Int)))] (fun _ => True) (fun _ => False) rfl rfl ?aP (fun _ hk => hk.elim) ?aF ?aO (Below.refl _ _) ?aS ?aL ?_;(case aP => exact k75_mkM _ _ _ (⟨(x3_1.length : Int),wrap64 (50 + (x3_1.length : Int))⟩ : S75));(case aF => exact (fun _ _ => trivial));(case aO => exact (Hd.r_ HO_3));(case aS => exact (keep_size (w:=w) (g:=g) (row:=none) z0_));(case aL => have:=LMc32.out;omega);intro v617 w34 ho hb hg hat;rw [← Ny616.out] at ho;have n0_:=ak (IsS89.grown (Hd.as_ (fun W_ => IsS89 _ W_ _ _ _ _) HI0.out z1_) hg (IsS89.own_ne HI0.out HO_3.out (by decide)));have n1_:=ak (below_weaken z2_ HL.out hb);have n2_:=ak (KeepBut.trans z0_ (KeepBut.of_grown hg g) (Kd.R_base2 HO_3.out));have n3_:=ak (ho);clear HI0;clear HB;clear HK;clear HO_3;have HI0:=n0_;have HB:=n1_;have HK:=n2_;have HO618:=n3_;clear n0_ n1_ n2_ n3_;clear ho hb hg hat))
   go_roundg k1
   case measure => have:=HK1.out;omega
   case rel => exact ⟨(y616),H',⟨by have:=HK1.out;omega⟩,⟨z6_ HO618⟩,⟨z1_⟩,⟨z0_⟩,⟨z2_⟩⟩
end Go.Proofs.Ytbbdhlggnglfgaa.MFnMeets
