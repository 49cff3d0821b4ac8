-- Laid by this session's program pp.py, after the kit's print and texts of the session's own. Not trusted: Lean checks it.
import Derived.Test.YtchmbcembbbpladZMeetsOfMx0
import Derived.Test.YtchmbcembbbpladZMeetsOfMx1
import Derived.Test.YtchmbcembbbpladZMeetsOfMx10
import Derived.Test.YtchmbcembbbpladZMeetsOfMx11
namespace Go.Proofs.Ytchmbcembbbplad.MFnExactMeetsOf
open Go.RowKit Go.Proofs.YtchmbcembbbpladW.PrintWords Go.Proofs.YtchmbcembbbpladW.PrintLast Go.Proofs.YtchmbcembbbpladW.PrintMore
attribute [local go_sem] max2_int min2_int max_two min_two max_three min_three max_four min_four   -- for this text's walks alone
set_option linter.unusedVariables false
set_option linter.unusedSimpArgs false
attribute [local go_sem high] eqA63
mutual
def spec_l5Shared.l0 : Nat → List (S63) → List (S63) → Int → Int → Int → Int → Int → Int → Int → Int → Int → Option (Int)
 | 0,_,_,_,_,_,_,_,_,_,_,_ => none
 | k + 1,x5,x6,x7,x340000,x340001,x340002,x340003,x341000,x341001,x341002,x341003 => if x7 < 4 then (if x7 < 2 then (if 0 ≤ x7 then (if x7 < (x6.length : Int) then ((spec_IsOn.f x341000 x341001 x341002 x341003 ((rd_T63 x6 x7).f0) ((rd_T63 x6 x7).f1)).bind fun t348 => (if t348 = true then (spec_l5Shared.j1 k x5 x6 x7 true x340000 x340001 x340002 x340003 x341000 x341001 x341002 x341003) else (if x7 ≥ 2 then ((spec_IsOn.f x340000 x340001 x340002 x340003 ((rd_T63 x6 x7).f0) ((rd_T63 x6 x7).f1)).bind fun t350 => (spec_l5Shared.j1 k x5 x6 x7 t350 x340000 x340001 x340002 x340003 x341000 x341001 x341002 x341003)) else (spec_l5Shared.j1 k x5 x6 x7 false x340000 x340001 x340002 x340003 x341000 x341001 x341002 x341003)))) else (none)) else (none)) else (if x7 ≥ 2 then (if 0 ≤ x7 then (if x7 < (x6.length : Int) then ((spec_IsOn.f x340000 x340001 x340002 x340003 ((rd_T63 x6 x7).f0) ((rd_T63 x6 x7).f1)).bind fun t352 => (spec_l5Shared.j1 k x5 x6 x7 t352 x340000 x340001 x340002 x340003 x341000 x341001 x341002 x341003)) else (none)) else (none)) else (spec_l5Shared.j1 k x5 x6 x7 false x340000 x340001 x340002 x340003 x341000 x341001 x341002 x341003))) else (some (x5.length : Int))
def spec_l5Shared.j1 : Nat → List (S63) → List (S63) → Int → Bool → Int → Int → Int → Int → Int → Int → Int → Int → Option (Int)
 | 0,_,_,_,_,_,_,_,_,_,_,_,_ => none
 | k + 1,x5,x6,x7,x8,x340000,x340001,x340002,x340003,x341000,x341001,x341002,x341003 => spec_l5Shared.l1 k x5 x6 x7 x8 0 x340000 x340001 x340002 x340003 x341000 x341001 x341002 x341003
def spec_l5Shared.l1 : Nat → List (S63) → List (S63) → Int → Bool → Int → Int → Int → Int → Int → Int → Int → Int → Int → Option (Int)
 | 0,_,_,_,_,_,_,_,_,_,_,_,_,_ => none
 | k + 1,x5,x6,x7,x8,x9,x340000,x340001,x340002,x340003,x341000,x341001,x341002,x341003 => if x9 < (x5.length : Int) then (if x8 = true then (if 0 ≤ x9 then (if 0 ≤ x7 then (if x7 < (x6.length : Int) then (spec_l5Shared.l1 k x5 x6 x7 (!(((rd_T63 x5 x9).f0) == ((rd_T63 x6 x7).f0)) || (!(((rd_T63 x5 x9).f1) == ((rd_T63 x6 x7).f1)))) (wrap64 (x9 + 1)) x340000 x340001 x340002 x340003 x341000 x341001 x341002 x341003) else (none)) else (none)) else (none)) else (spec_l5Shared.l1 k x5 x6 x7 false (wrap64 (x9 + 1)) x340000 x340001 x340002 x340003 x341000 x341001 x341002 x341003)) else (if x8 = true then (if 0 ≤ x7 then (if x7 < (x6.length : Int) then (if x5.length < 8796093022208 then (spec_l5Shared.l0 k (x5 ++ [(⟨(rd_T63 x6 x7).f0,(rd_T63 x6 x7).f1⟩ : S63)]) x6 (wrap64 (x7 + 1)) x340000 x340001 x340002 x340003 x341000 x341001 x341002 x341003) else (none)) else (none)) else (none)) else (spec_l5Shared.l0 k x5 x6 (wrap64 (x7 + 1)) x340000 x340001 x340002 x340003 x341000 x341001 x341002 x341003))
end
def spec_l5Shared.f (k : Nat) (a0_0 : Int) (a0_1 : Int) (a0_2 : Int) (a0_3 : Int) (a1_0 : Int) (a1_1 : Int) (a1_2 : Int) (a1_3 : Int) : Option (Int):=spec_l5Shared.l0 k (([] : List (S63))) (([(⟨a0_0,a0_1⟩ : S63),(⟨a0_2,a0_3⟩ : S63),(⟨a1_0,a1_1⟩ : S63),(⟨a1_2,a1_3⟩ : S63)] : List (S63))) 0 a0_0 a0_1 a0_2 a0_3 a1_0 a1_1 a1_2 a1_3
set_option maxHeartbeats 8000000 in
set_option maxRecDepth 100000 in
theorem spec_l5Shared.calls (k : Nat) (a0_0 : Int) (a0_1 : Int) (a0_2 : Int) (a0_3 : Int) (a1_0 : Int) (a1_1 : Int) (a1_2 : Int) (a1_3 : Int) (r : Int) (w : World) (h : spec_l5Shared.f k a0_0 a0_1 a0_2 a0_3 a1_0 a1_1 a1_2 a1_3 = some r) :
  Calls Try.prog 117 #[.agg #[.int .i64 a0_0,.int .i64 a0_1,.int .i64 a0_2,.int .i64 a0_3],.agg #[.int .i64 a1_0,.int .i64 a1_1,.int .i64 a1_2,.int .i64 a1_3]] w fun e w' => e = .returned (.int .i64 r) ∧ Below w.heap.size w w':=by
 have hu100:=Try.underlying100
 have hu63:=Try.underlying63
 have HB:=Aside0.mk (Below.refl w.heap.size w)
 have H : (spec_l5Shared.l0 k (([] : List (S63))) (([(⟨a0_0,a0_1⟩ : S63),(⟨a0_2,a0_3⟩ : S63),(⟨a1_0,a1_1⟩ : S63),(⟨a1_2,a1_3⟩ : S63)] : List (S63))) 0 a0_0 a0_1 a0_2 a0_3 a1_0 a1_1 a1_2 a1_3) = some r:=h
 clear h
 obtain ⟨y341,hy341⟩ : ∃ y_ : List (S63),y_ = (([] : List (S63))):=⟨_,rfl⟩
 replace H : (spec_l5Shared.l0 k y341 (([(⟨a0_0,a0_1⟩ : S63),(⟨a0_2,a0_3⟩ : S63),(⟨a1_0,a1_1⟩ : S63),(⟨a1_2,a1_3⟩ : S63)] : List (S63))) 0 a0_0 a0_1 a0_2 a0_3 a1_0 a1_1 a1_2 a1_3) = some r:=by first | (rw [hy341];with_reducible exact H) | (have H2_:=(Option.bind_some _ _).symm.trans H;rw [hy341];with_reducible exact H2_) | (have H2_:=(Option.bind_some _ _).symm.trans H;with_reducible exact H2_) | with_reducible exact H | (rw [hy341];exact H) | exact H
 have Ny341:=Aside0.mk hy341
 clear hy341
 obtain ⟨y344,hy344⟩ : ∃ y_ : List (S63),y_ = (([(⟨a0_0,a0_1⟩ : S63),(⟨a0_2,a0_3⟩ : S63),(⟨a1_0,a1_1⟩ : S63),(⟨a1_2,a1_3⟩ : S63)] : List (S63))):=⟨_,rfl⟩
 replace H : (spec_l5Shared.l0 k y341 y344 0 a0_0 a0_1 a0_2 a0_3 a1_0 a1_1 a1_2 a1_3) = some r:=by first | (rw [hy344];with_reducible exact H) | (have H2_:=(Option.bind_some _ _).symm.trans H;rw [hy344];with_reducible exact H2_) | (have H2_:=(Option.bind_some _ _).symm.trans H;with_reducible exact H2_) | with_reducible exact H | (rw [hy344];exact H) | exact H
 have Ny344:=Aside0.mk hy344
 clear hy344
 have H':=Aside0.mk H
 clear H
 go_enter Try.func117,Try.ntmps117
 go_wp2_with (first | ((with_reducible refine gate_dst (N:=2) rfl ?_);refine Hd.box_ 2 (#[.int .i64 a0_0,.int .i64 a0_1,.int .i64 a0_2,.int .i64 a0_3]) 100 ?_;intro gb339 hg w3 hbox hb;have BK339:=Aside0.mk (hbox);have GW339:=Aside0.mk ((Hd.g_ hg Hd.b_ : w.heap.size ≤ gb339));have GE339:=Aside0.mk ((Hd.g_ hg Hd.b_ : w.heap.size ≤ gb339));replace HB:=Aside0.mk (below_step Hd.b_ hb);clear hb hbox hg) | ((with_reducible refine gate_dst (N:=3) rfl ?_);refine Hd.box_ 3 (#[.int .i64 a1_0,.int .i64 a1_1,.int .i64 a1_2,.int .i64 a1_3]) 100 ?_;intro gb340 hg w4 hbox hb;have BK340:=Aside0.mk (hbox);have GW340:=Aside0.mk ((Hd.g_ hg Hd.b_ : w.heap.size ≤ gb340));have GE340:=Aside0.mk ((Hd.g_ hg Hd.b_ : w.heap.size ≤ gb340));replace HB:=Aside0.mk (below_step Hd.b_ hb);have NB339_340:=Aside0.mk ((Hd.lt_ BK339 hg));have NB340_339:=Aside0.mk ((Hd.gt_ BK339 hg));replace BK339:=Aside0.mk (Hd.kb_ BK339 hb);clear hb hbox hg) | ((with_reducible refine gate_dst (N:=10) rfl ?_);refine Kd.R_lit k63 _ 63 ?hg (N:=10) ?hd (xs:=([] : List (S63))) (inner:=[]) (ok:=fun _ => True) (okp:=fun _ => True) ?hr ?hp (fun _ hk => hk) trivial (Below.refl _ _) (Nat.le_refl _) (by simp) ?_;(case hd => rfl);(case hg => rfl);(case hr => first | (go_simp;done) | (go_simp;rfl));(case hp => exact (Reps.none _ _));intro v342 w5 ho6 hb hg_ hnew_;clear hg_ hnew_;(first | rw [← Ny341.out] at ho6 | (simp only [Int.reduceToNat] at ho6;rw [← Ny341.out] at ho6));have HO343:=Aside0.mk (Kd.R_lower ho6 (below_size Hd.b_));replace BK339:=Aside0.mk (Hd.kb_ BK339 hb);replace BK340:=Aside0.mk (Hd.kb_ BK340 hb);replace HB:=Aside0.mk (below_step Hd.b_ hb);clear hb ho6;have hnb7:=NB339_340.out;have hnc7:=NB340_339.out;obtain ⟨hcz8_0,hcz8_1,hcz8_2,hcz8_3⟩:=Hd.c4_ BK339.out;obtain ⟨hfz8_0,hfz8_1,hfz8_2,hfz8_3⟩:=Hd.f4_ BK339.out;obtain ⟨hcz9_0,hcz9_1,hcz9_2,hcz9_3⟩:=Hd.c4_ BK340.out;obtain ⟨hfz9_0,hfz9_1,hfz9_2,hfz9_3⟩:=Hd.f4_ BK340.out) | ((with_reducible refine gate_dst (N:=19) rfl ?_);refine Kd.R_lit k63 _ 63 ?hg (N:=19) ?hd (xs:=([(⟨a0_0,a0_1⟩ : S63),(⟨a0_2,a0_3⟩ : S63),(⟨a1_0,a1_1⟩ : S63),(⟨a1_2,a1_3⟩ : S63)] : List (S63))) (inner:=[.int .i64 a0_0,.int .i64 a0_1,.int .i64 a0_2,.int .i64 a0_3,.int .i64 a1_0,.int .i64 a1_1,.int .i64 a1_2,.int .i64 a1_3]) (ok:=fun _ => True) (okp:=fun _ => True) ?hr ?hp (fun _ hk => hk) trivial (Below.refl _ _) (Nat.le_refl _) (by simp) ?_;(case hd => rfl);(case hg => rfl);(case hr => first | (go_simp;done) | (go_simp;rfl));(case hp => exact (Reps.c2 (show Kd.M k63 _ _ _ (⟨a0_0,a0_1⟩ : S63) [.int .i64 a0_0,.int .i64 a0_1] from (k63_mkM _ _ _ (⟨a0_0,a0_1⟩ : S63) )) (Reps.c2 (show Kd.M k63 _ _ _ (⟨a0_2,a0_3⟩ : S63) [.int .i64 a0_2,.int .i64 a0_3] from (k63_mkM _ _ _ (⟨a0_2,a0_3⟩ : S63) )) (Reps.c2 (show Kd.M k63 _ _ _ (⟨a1_0,a1_1⟩ : S63) [.int .i64 a1_0,.int .i64 a1_1] from (k63_mkM _ _ _ (⟨a1_0,a1_1⟩ : S63) )) (Reps.c2 (show Kd.M k63 _ _ _ (⟨a1_2,a1_3⟩ : S63) [.int .i64 a1_2,.int .i64 a1_3] from (k63_mkM _ _ _ (⟨a1_2,a1_3⟩ : S63) )) (Reps.none _ _))))));intro v345 w10 ho11 hb hg_ hnew_;clear hg_ hnew_;(first | rw [← Ny344.out] at ho11 | (simp only [Int.reduceToNat] at ho11;rw [← Ny344.out] at ho11));have HO346:=Aside0.mk (Kd.R_lower (Kd.R_new' ho11 (Kd.R_lt (Hd.r_ HO343))) (below_size Hd.b_));replace HO343:=Aside0.mk (Kd.R_elder' (Hd.r_ HO343) (Kd.R_base ho11) hb);replace BK339:=Aside0.mk (Hd.kb_ BK339 hb);replace BK340:=Aside0.mk (Hd.kb_ BK340 hb);replace HB:=Aside0.mk (below_step Hd.b_ hb);clear hb ho11))
 go_loopg [5,7] k (fun kq v5 v7 w' => ∃ (x5_1 : List (S63)) (x7_1 : Int),v7 = .int .i64 x7_1 ∧ Aside0 (spec_l5Shared.l0 kq x5_1 y344 x7_1 a0_0 a0_1 a0_2 a0_3 a1_0 a1_1 a1_2 a1_3 = some r) ∧ Aside0 (kq ≤ k) ∧ Aside0 (Kd.R k63 63 w' w.heap.size (fun k_ => some k_ ≠ (v345 : Value).ownBlock) v5 x5_1) ∧ Aside0 (Kd.R k63 63 w' w.heap.size (fun k_ => some k_ ≠ (v5 : Value).ownBlock) v345 y344) ∧ Aside0 (w'.heap[gb339]? = some (.cells #[.int .i64 a0_0,.int .i64 a0_1,.int .i64 a0_2,.int .i64 a0_3] 100 (0,0))) ∧ Aside0 (w'.heap[gb340]? = some (.cells #[.int .i64 a1_0,.int .i64 a1_1,.int .i64 a1_2,.int .i64 a1_3] 100 (0,0))) ∧ Aside0 (Below w.heap.size w w'))
 case atStart => exact ⟨(y341),(0),(by first | rfl | (simp;done) | (simp [*];done)),H',⟨Nat.le_refl _⟩,⟨by (with_reducible repeat (first | apply Kd.R_alloc | apply Kd.R_drewN | apply Kd.R_drew));exact Kd.R_mono HO343.out (fun _ hk => hk.2)⟩,⟨by (with_reducible repeat (first | apply Kd.R_alloc | apply Kd.R_drewN | apply Kd.R_drew));exact Kd.R_mono HO346.out (fun _ hk => hk.2)⟩,⟨by (with_reducible repeat (first | refine blk_drewN ?_ _ | refine blk_drew ?_ | refine blk_alloc ?_ _));exact BK339.out⟩,⟨by (with_reducible repeat (first | refine blk_drewN ?_ _ | refine blk_drew ?_ | refine blk_alloc ?_ _));exact BK340.out⟩,⟨Hd.b_⟩⟩
 case round =>
  clear H'
  try clear c1
  try clear c2
  try clear p2
  try clear c7
  try clear c11
  try clear hcz8_0
  try clear hcz8_1
  try clear hcz8_2
  try clear hcz8_3
  try clear hcz9_0
  try clear hcz9_1
  try clear hcz9_2
  try clear hcz9_3
  try clear hfz8_0
  try clear hfz8_1
  try clear hfz8_2
  try clear hfz8_3
  try clear hfz9_0
  try clear hfz9_1
  try clear hfz9_2
  try clear hfz9_3
  obtain ⟨x5_1,x7_1,rfl,HA,HK1,HO_5,HO_6,BK339,BK340,HB⟩:=hrel
  cases gk with
  | zero => exact absurd HA.out (by simp [spec_l5Shared.l0])
  | succ k1 =>
   have H:=HA.out
   clear HA
   simp only [spec_l5Shared.l0] at H
   by_cases c12 : x7_1 < 4
   ·
    rw [if_pos c12] at H
    have c12b0 : decide (x7_1 < 4) = true:=decide_eq_true c12
    clear c12
    have HC13:=Aside0.mk H
    clear H
    go_upto_region 6 with (fail)
    go_cut [8] (fun v8 wc => ∃ (kq : Nat) (x8_12 : Bool),v8 = .bool x8_12 ∧ Aside0 (spec_l5Shared.j1 kq x5_1 y344 x7_1 x8_12 a0_0 a0_1 a0_2 a0_3 a1_0 a1_1 a1_2 a1_3 = some r) ∧ Aside0 (kq ≤ k1) ∧ Aside0 (Kd.R k63 63 wc w.heap.size (fun k_ => some k_ ≠ (v345 : Value).ownBlock) u5 x5_1) ∧ Aside0 (Kd.R k63 63 wc w.heap.size (fun k_ => some k_ ≠ (u5 : Value).ownBlock) v345 y344) ∧ Aside0 (wc.heap[gb339]? = some (.cells #[.int .i64 a0_0,.int .i64 a0_1,.int .i64 a0_2,.int .i64 a0_3] 100 (0,0))) ∧ Aside0 (wc.heap[gb340]? = some (.cells #[.int .i64 a1_0,.int .i64 a1_1,.int .i64 a1_2,.int .i64 a1_3] 100 (0,0))) ∧ Aside0 (Below w.heap.size w wc))
    case first =>
     have H:=HC13.out
     clear HC13
     by_cases c14 : x7_1 < 2
     ·
      rw [if_pos c14] at H
      have c14b0 : decide (x7_1 < 2) = true:=decide_eq_true c14
      clear c14
      (first | rw [c14b0] | (simp only [i64_w,i32_w];rw [c14b0]) | skip)
      by_cases c15 : 0 ≤ x7_1
      ·
       rw [if_pos c15] at H
       have c15b0 : decide (0 ≤ x7_1) = true:=decide_eq_true c15
       clear c15
       by_cases c16 : x7_1 < (y344.length : Int)
       ·
        rw [if_pos c16] at H
        have c16b0 : decide (x7_1 < (y344.length : Int)) = true:=decide_eq_true c16
        clear c16
        replace H:=Option.bind_eq_some_iff.mp H
        obtain ⟨t348,A170,H⟩:=H
        replace H : (if t348 = true then (spec_l5Shared.j1 k1 x5_1 y344 x7_1 true a0_0 a0_1 a0_2 a0_3 a1_0 a1_1 a1_2 a1_3) else (if x7_1 ≥ 2 then ((spec_IsOn.f a0_0 a0_1 a0_2 a0_3 ((rd_T63 y344 x7_1).f0) ((rd_T63 y344 x7_1).f1)).bind fun t350 => (spec_l5Shared.j1 k1 x5_1 y344 x7_1 t350 a0_0 a0_1 a0_2 a0_3 a1_0 a1_1 a1_2 a1_3)) else (spec_l5Shared.j1 k1 x5_1 y344 x7_1 false a0_0 a0_1 a0_2 a0_3 a1_0 a1_1 a1_2 a1_3))) = some r:=H
        have A17:=Aside0.mk A170
        clear A170
        by_cases c18 : t348 = true
        ·
         subst c18
         have H1 : (spec_l5Shared.j1 k1 x5_1 y344 x7_1 true a0_0 a0_1 a0_2 a0_3 a1_0 a1_1 a1_2 a1_3) = some r:=by rw [if_pos rfl] at H;exact H
         clear H
         have H:=H1
         clear H1
         have H':=Aside0.mk H
         clear H
         try go_wp2
         replace HO_5:=Aside0.mk (Kd.R_drew HO_5.out)
         replace HO_6:=Aside0.mk (Kd.R_drew HO_6.out)
         replace BK339:=Aside0.mk (blk_drew BK339.out)
         replace BK340:=Aside0.mk (blk_drew BK340.out)
         replace HB:=Aside0.mk (below_drew1 HB.out)
         obtain ⟨Ao20,co20,eo20⟩:=Kd.R_slice HO_6.out
         (first | subst eo20 | (injection eo20 with f1_ f2_ f3_;have f4_:=f1_.symm;have f5_:=f3_.symm;clear f1_ f2_ f3_;subst f4_;subst f5_))
         have p347 : 0 ≤ (x7_1 : Int):=of_decide_eq_true Hd.a_
         have q347 : x7_1 < (y344.length : Int):=of_decide_eq_true Hd.a_
         obtain ⟨ad347,e347,hx347_0,hx347_1⟩:=at_T63 (Kd.R_reads' HO_6.out).2.2 x7_1 p347 q347
         cases e347
         replace p347:=eq_true p347
         replace q347:=eq_true q347
         obtain ⟨s0_,s1_,s2_,s3_⟩:=Hd.HW.k4 (W0:=wr.drew) BK340
         have s4_:=Hd.HW.x (W0:=wr.drew) hx347_0
         have s5_:=Hd.HW.x (W0:=wr.drew) hx347_1
         refine Hd.HW.region (by kernel_rfl) (by kernel_rfl) ?_
         repeat (go_big_quiet_step ((first | (go_at_call 144;with_reducible exact Hd.HW.c (spec_IsOn.calls a1_0 a1_1 a1_2 a1_3 ((rd_T63 y344 x7_1).f0) ((rd_T63 y344 x7_1).f1) true _ A17.out)))))
         refine wpQuiet_nil ?_
         intro _ hq_
         obtain ⟨q_,rfl⟩:=hq_
         clear s0_ s1_ s2_ s3_ s4_ s5_
         replace HO_5:=Aside0.mk (Kd.R_below HO_5.out q_.b)
         replace HO_6:=Aside0.mk (Kd.R_below HO_6.out q_.b)
         replace BK339:=Aside0.mk (blk_below BK339.out q_.b)
         replace BK340:=Aside0.mk (blk_below BK340.out q_.b)
         replace HB:=Aside0.mk (below_step HB.out q_.b)
         replace hx347_0:=q_.cell hx347_0
         replace hx347_1:=q_.cell hx347_1
         generalize q_.W = w21 at HO_5 HO_6 BK339 BK340 HB hx347_0 hx347_1 ⊢
         try simp only [i64_w,i32_w]
         try go_wp2
         go_meet
         case rel => exact ⟨_,(true),(by first | rfl | (simp;done) | (simp [*];done)),H',⟨by have:=HK1.out;first | omega | exact Nat.le_refl _⟩,⟨by (with_reducible repeat (first | apply Kd.R_alloc | apply Kd.R_drewN | apply Kd.R_drew));exact HO_5.out⟩,⟨by (with_reducible repeat (first | apply Kd.R_alloc | apply Kd.R_drewN | apply Kd.R_drew));exact HO_6.out⟩,⟨by (with_reducible repeat (first | refine blk_drewN ?_ _ | refine blk_drew ?_ | refine blk_alloc ?_ _));exact BK339.out⟩,⟨by (with_reducible repeat (first | refine blk_drewN ?_ _ | refine blk_drew ?_ | refine blk_alloc ?_ _));exact BK340.out⟩,⟨Hd.b_⟩⟩
        ·
         replace c18:=Bool.eq_false_iff.mpr c18
         subst c18
         have H1 : (if x7_1 ≥ 2 then ((spec_IsOn.f a0_0 a0_1 a0_2 a0_3 ((rd_T63 y344 x7_1).f0) ((rd_T63 y344 x7_1).f1)).bind fun t350 => (spec_l5Shared.j1 k1 x5_1 y344 x7_1 t350 a0_0 a0_1 a0_2 a0_3 a1_0 a1_1 a1_2 a1_3)) else (spec_l5Shared.j1 k1 x5_1 y344 x7_1 false a0_0 a0_1 a0_2 a0_3 a1_0 a1_1 a1_2 a1_3)) = some r:=by rw [if_neg (show ¬ (false = true) by decide)] at H;exact H
         clear H
         have H:=H1
         clear H1
         by_cases c22 : x7_1 ≥ 2
         ·
          rw [if_pos c22] at H
          have c22b0 : decide (2 ≤ x7_1) = true:=decide_eq_true c22
          clear c22
          replace H:=Option.bind_eq_some_iff.mp H
          obtain ⟨t350,A230,H⟩:=H
          replace H : (spec_l5Shared.j1 k1 x5_1 y344 x7_1 t350 a0_0 a0_1 a0_2 a0_3 a1_0 a1_1 a1_2 a1_3) = some r:=H
          have A23:=Aside0.mk A230
          clear A230
          have H':=Aside0.mk H
          clear H
          try go_wp2
          replace HO_5:=Aside0.mk (Kd.R_drew HO_5.out)
          replace HO_6:=Aside0.mk (Kd.R_drew HO_6.out)
          replace BK339:=Aside0.mk (blk_drew BK339.out)
          replace BK340:=Aside0.mk (blk_drew BK340.out)
          replace HB:=Aside0.mk (below_drew1 HB.out)
          obtain ⟨Ao25,co25,eo25⟩:=Kd.R_slice HO_6.out
          (first | subst eo25 | (injection eo25 with f1_ f2_ f3_;have f4_:=f1_.symm;have f5_:=f3_.symm;clear f1_ f2_ f3_;subst f4_;subst f5_))
          have p347 : 0 ≤ (x7_1 : Int):=of_decide_eq_true Hd.a_
          have q347 : x7_1 < (y344.length : Int):=of_decide_eq_true Hd.a_
          obtain ⟨ad347,e347,hx347_0,hx347_1⟩:=at_T63 (Kd.R_reads' HO_6.out).2.2 x7_1 p347 q347
          cases e347
          replace p347:=eq_true p347
          replace q347:=eq_true q347
          have p349 : 0 ≤ (x7_1 : Int):=of_decide_eq_true Hd.a_
          have q349 : x7_1 < (y344.length : Int):=of_decide_eq_true Hd.a_
          obtain ⟨ad349,e349,hx349_0,hx349_1⟩:=at_T63 (Kd.R_reads' HO_6.out).2.2 x7_1 p349 q349
          obtain rfl : ad347 = ad349:=(by injection e349)
          replace p349:=eq_true p349
          replace q349:=eq_true q349
          obtain ⟨s0_,s1_,s2_,s3_⟩:=Hd.HW.k4 (W0:=wr.drew) BK340
          obtain ⟨s4_,s5_,s6_,s7_⟩:=Hd.HW.k4 (W0:=wr.drew) BK339
          have s8_:=Hd.HW.x (W0:=wr.drew) hx347_0
          have s9_:=Hd.HW.x (W0:=wr.drew) hx347_1
          have s10_:=Hd.HW.x (W0:=wr.drew) hx349_0
          have s11_:=Hd.HW.x (W0:=wr.drew) hx349_1
          refine Hd.HW.region (by kernel_rfl) (by kernel_rfl) ?_
          repeat (go_big_quiet_step ((first | (go_at_call 144;with_reducible exact Hd.HW.c (spec_IsOn.calls a1_0 a1_1 a1_2 a1_3 ((rd_T63 y344 x7_1).f0) ((rd_T63 y344 x7_1).f1) false _ A17.out)) | (go_at_call 144;with_reducible exact Hd.HW.c (spec_IsOn.calls a0_0 a0_1 a0_2 a0_3 ((rd_T63 y344 x7_1).f0) ((rd_T63 y344 x7_1).f1) t350 _ A23.out)))))
          refine wpQuiet_nil ?_
          intro _ hq_
          obtain ⟨q_,rfl⟩:=hq_
          clear s0_ s1_ s2_ s3_ s4_ s5_ s6_ s7_ s8_ s9_ s10_ s11_
          replace HO_5:=Aside0.mk (Kd.R_below HO_5.out q_.b)
          replace HO_6:=Aside0.mk (Kd.R_below HO_6.out q_.b)
          replace BK339:=Aside0.mk (blk_below BK339.out q_.b)
          replace BK340:=Aside0.mk (blk_below BK340.out q_.b)
          replace HB:=Aside0.mk (below_step HB.out q_.b)
          replace hx347_0:=q_.cell hx347_0
          replace hx347_1:=q_.cell hx347_1
          replace hx349_0:=q_.cell hx349_0
          replace hx349_1:=q_.cell hx349_1
          generalize q_.W = w27 at HO_5 HO_6 BK339 BK340 HB hx347_0 hx347_1 hx349_0 hx349_1 ⊢
          try simp only [i64_w,i32_w]
          try go_wp2
          go_meet
          case rel => exact ⟨_,(t350),(by first | rfl | (simp;done) | (simp [*];done)),H',⟨by have:=HK1.out;first | omega | exact Nat.le_refl _⟩,⟨by (with_reducible repeat (first | apply Kd.R_alloc | apply Kd.R_drewN | apply Kd.R_drew));exact HO_5.out⟩,⟨by (with_reducible repeat (first | apply Kd.R_alloc | apply Kd.R_drewN | apply Kd.R_drew));exact HO_6.out⟩,⟨by (with_reducible repeat (first | refine blk_drewN ?_ _ | refine blk_drew ?_ | refine blk_alloc ?_ _));exact BK339.out⟩,⟨by (with_reducible repeat (first | refine blk_drewN ?_ _ | refine blk_drew ?_ | refine blk_alloc ?_ _));exact BK340.out⟩,⟨Hd.b_⟩⟩
         ·
          rw [if_neg c22] at H
          have c22b0 : decide (2 ≤ x7_1) = false:=decide_eq_false c22
          clear c22
          have H':=Aside0.mk H
          clear H
          try go_wp2
          replace HO_5:=Aside0.mk (Kd.R_drew HO_5.out)
          replace HO_6:=Aside0.mk (Kd.R_drew HO_6.out)
          replace BK339:=Aside0.mk (blk_drew BK339.out)
          replace BK340:=Aside0.mk (blk_drew BK340.out)
          replace HB:=Aside0.mk (below_drew1 HB.out)
          obtain ⟨Ao29,co29,eo29⟩:=Kd.R_slice HO_6.out
          (first | subst eo29 | (injection eo29 with f1_ f2_ f3_;have f4_:=f1_.symm;have f5_:=f3_.symm;clear f1_ f2_ f3_;subst f4_;subst f5_))
          have p347 : 0 ≤ (x7_1 : Int):=of_decide_eq_true Hd.a_
          have q347 : x7_1 < (y344.length : Int):=of_decide_eq_true Hd.a_
          obtain ⟨ad347,e347,hx347_0,hx347_1⟩:=at_T63 (Kd.R_reads' HO_6.out).2.2 x7_1 p347 q347
          cases e347
          replace p347:=eq_true p347
          replace q347:=eq_true q347
          obtain ⟨s0_,s1_,s2_,s3_⟩:=Hd.HW.k4 (W0:=wr.drew) BK340
          have s4_:=Hd.HW.x (W0:=wr.drew) hx347_0
          have s5_:=Hd.HW.x (W0:=wr.drew) hx347_1
          refine Hd.HW.region (by kernel_rfl) (by kernel_rfl) ?_
          repeat (go_big_quiet_step ((first | (go_at_call 144;with_reducible exact Hd.HW.c (spec_IsOn.calls a1_0 a1_1 a1_2 a1_3 ((rd_T63 y344 x7_1).f0) ((rd_T63 y344 x7_1).f1) false _ A17.out)))))
          refine wpQuiet_nil ?_
          intro _ hq_
          obtain ⟨q_,rfl⟩:=hq_
          clear s0_ s1_ s2_ s3_ s4_ s5_
          replace HO_5:=Aside0.mk (Kd.R_below HO_5.out q_.b)
          replace HO_6:=Aside0.mk (Kd.R_below HO_6.out q_.b)
          replace BK339:=Aside0.mk (blk_below BK339.out q_.b)
          replace BK340:=Aside0.mk (blk_below BK340.out q_.b)
          replace HB:=Aside0.mk (below_step HB.out q_.b)
          replace hx347_0:=q_.cell hx347_0
          replace hx347_1:=q_.cell hx347_1
          generalize q_.W = w30 at HO_5 HO_6 BK339 BK340 HB hx347_0 hx347_1 ⊢
          try simp only [i64_w,i32_w]
          try go_wp2
          go_meet
          case rel => exact ⟨_,(false),(by first | rfl | (simp;done) | (simp [*];done)),H',⟨by have:=HK1.out;first | omega | exact Nat.le_refl _⟩,⟨by (with_reducible repeat (first | apply Kd.R_alloc | apply Kd.R_drewN | apply Kd.R_drew));exact HO_5.out⟩,⟨by (with_reducible repeat (first | apply Kd.R_alloc | apply Kd.R_drewN | apply Kd.R_drew));exact HO_6.out⟩,⟨by (with_reducible repeat (first | refine blk_drewN ?_ _ | refine blk_drew ?_ | refine blk_alloc ?_ _));exact BK339.out⟩,⟨by (with_reducible repeat (first | refine blk_drewN ?_ _ | refine blk_drew ?_ | refine blk_alloc ?_ _));exact BK340.out⟩,⟨Hd.b_⟩⟩
       ·
        rw [if_neg c16] at H
        exact absurd H (by simp)
      ·
       rw [if_neg c15] at H
       exact absurd H (by simp)
     ·
      rw [if_neg c14] at H
      have c14b0 : decide (x7_1 < 2) = false:=decide_eq_false c14
      clear c14
      (first | rw [c14b0] | (simp only [i64_w,i32_w];rw [c14b0]) | skip)
      by_cases c31 : x7_1 ≥ 2
      ·
       rw [if_pos c31] at H
       have c31b0 : decide (2 ≤ x7_1) = true:=decide_eq_true c31
       clear c31
       by_cases c32 : 0 ≤ x7_1
       ·
        rw [if_pos c32] at H
        have c32b0 : decide (0 ≤ x7_1) = true:=decide_eq_true c32
        clear c32
        by_cases c33 : x7_1 < (y344.length : Int)
        ·
         rw [if_pos c33] at H
         have c33b0 : decide (x7_1 < (y344.length : Int)) = true:=decide_eq_true c33
         clear c33
         replace H:=Option.bind_eq_some_iff.mp H
         obtain ⟨t352,A340,H⟩:=H
         replace H : (spec_l5Shared.j1 k1 x5_1 y344 x7_1 t352 a0_0 a0_1 a0_2 a0_3 a1_0 a1_1 a1_2 a1_3) = some r:=H
         have A34:=Aside0.mk A340
         clear A340
         have H':=Aside0.mk H
         clear H
         try go_wp2
         replace HO_5:=Aside0.mk (Kd.R_drew HO_5.out)
         replace HO_6:=Aside0.mk (Kd.R_drew HO_6.out)
         replace BK339:=Aside0.mk (blk_drew BK339.out)
         replace BK340:=Aside0.mk (blk_drew BK340.out)
         replace HB:=Aside0.mk (below_drew1 HB.out)
         obtain ⟨Ao36,co36,eo36⟩:=Kd.R_slice HO_6.out
         (first | subst eo36 | (injection eo36 with f1_ f2_ f3_;have f4_:=f1_.symm;have f5_:=f3_.symm;clear f1_ f2_ f3_;subst f4_;subst f5_))
         have p351 : 0 ≤ (x7_1 : Int):=of_decide_eq_true Hd.a_
         have q351 : x7_1 < (y344.length : Int):=of_decide_eq_true Hd.a_
         obtain ⟨ad351,e351,hx351_0,hx351_1⟩:=at_T63 (Kd.R_reads' HO_6.out).2.2 x7_1 p351 q351
         cases e351
         replace p351:=eq_true p351
         replace q351:=eq_true q351
         obtain ⟨s0_,s1_,s2_,s3_⟩:=Hd.HW.k4 (W0:=wr.drew) BK339
         have s4_:=Hd.HW.x (W0:=wr.drew) hx351_0
         have s5_:=Hd.HW.x (W0:=wr.drew) hx351_1
         refine Hd.HW.region (by kernel_rfl) (by kernel_rfl) ?_
         repeat (go_big_quiet_step ((first | (go_at_call 144;with_reducible exact Hd.HW.c (spec_IsOn.calls a0_0 a0_1 a0_2 a0_3 ((rd_T63 y344 x7_1).f0) ((rd_T63 y344 x7_1).f1) t352 _ A34.out)))))
         refine wpQuiet_nil ?_
         intro _ hq_
         obtain ⟨q_,rfl⟩:=hq_
         clear s0_ s1_ s2_ s3_ s4_ s5_
         replace HO_5:=Aside0.mk (Kd.R_below HO_5.out q_.b)
         replace HO_6:=Aside0.mk (Kd.R_below HO_6.out q_.b)
         replace BK339:=Aside0.mk (blk_below BK339.out q_.b)
         replace BK340:=Aside0.mk (blk_below BK340.out q_.b)
         replace HB:=Aside0.mk (below_step HB.out q_.b)
         replace hx351_0:=q_.cell hx351_0
         replace hx351_1:=q_.cell hx351_1
         generalize q_.W = w37 at HO_5 HO_6 BK339 BK340 HB hx351_0 hx351_1 ⊢
         try simp only [i64_w,i32_w]
         try go_wp2
         go_meet
         case rel => exact ⟨_,(t352),(by first | rfl | (simp;done) | (simp [*];done)),H',⟨by have:=HK1.out;first | omega | exact Nat.le_refl _⟩,⟨by (with_reducible repeat (first | apply Kd.R_alloc | apply Kd.R_drewN | apply Kd.R_drew));exact HO_5.out⟩,⟨by (with_reducible repeat (first | apply Kd.R_alloc | apply Kd.R_drewN | apply Kd.R_drew));exact HO_6.out⟩,⟨by (with_reducible repeat (first | refine blk_drewN ?_ _ | refine blk_drew ?_ | refine blk_alloc ?_ _));exact BK339.out⟩,⟨by (with_reducible repeat (first | refine blk_drewN ?_ _ | refine blk_drew ?_ | refine blk_alloc ?_ _));exact BK340.out⟩,⟨Hd.b_⟩⟩
        ·
         rw [if_neg c33] at H
         exact absurd H (by simp)
       ·
        rw [if_neg c32] at H
        exact absurd H (by simp)
      ·
       rw [if_neg c31] at H
       have c31b0 : decide (2 ≤ x7_1) = false:=decide_eq_false c31
       clear c31
       have H':=Aside0.mk H
       clear H
       try go_wp2
       replace HO_5:=Aside0.mk (Kd.R_drew HO_5.out)
       replace HO_6:=Aside0.mk (Kd.R_drew HO_6.out)
       replace BK339:=Aside0.mk (blk_drew BK339.out)
       replace BK340:=Aside0.mk (blk_drew BK340.out)
       replace HB:=Aside0.mk (below_drew1 HB.out)
       refine Hd.HW.region (by kernel_rfl) (by kernel_rfl) ?_
       repeat (go_big_quiet_step (fail))
       refine wpQuiet_nil ?_
       intro _ hq_
       obtain ⟨q_,rfl⟩:=hq_
       replace HO_5:=Aside0.mk (Kd.R_below HO_5.out q_.b)
       replace HO_6:=Aside0.mk (Kd.R_below HO_6.out q_.b)
       replace BK339:=Aside0.mk (blk_below BK339.out q_.b)
       replace BK340:=Aside0.mk (blk_below BK340.out q_.b)
       replace HB:=Aside0.mk (below_step HB.out q_.b)
       generalize q_.W = w38 at HO_5 HO_6 BK339 BK340 HB ⊢
       try simp only [i64_w,i32_w]
       try go_wp2
       go_meet
       case rel => exact ⟨_,(false),(by first | rfl | (simp;done) | (simp [*];done)),H',⟨by have:=HK1.out;first | omega | exact Nat.le_refl _⟩,⟨by (with_reducible repeat (first | apply Kd.R_alloc | apply Kd.R_drewN | apply Kd.R_drew));exact HO_5.out⟩,⟨by (with_reducible repeat (first | apply Kd.R_alloc | apply Kd.R_drewN | apply Kd.R_drew));exact HO_6.out⟩,⟨by (with_reducible repeat (first | refine blk_drewN ?_ _ | refine blk_drew ?_ | refine blk_alloc ?_ _));exact BK339.out⟩,⟨by (with_reducible repeat (first | refine blk_drewN ?_ _ | refine blk_drew ?_ | refine blk_alloc ?_ _));exact BK340.out⟩,⟨Hd.b_⟩⟩
    case rest =>
     clear HC13
     try clear c1
     try clear p2
     try clear c3
     try clear p3
     try clear q3
     try clear hx3
     try clear c14
     try clear c14b0
     try clear c15
     try clear c16
     try clear c31
     try clear c31b0
     try clear c32
     try clear c32b0
     try clear c33
     try clear c33b0
     try clear p35
     try clear q35
     try clear hx35
     try clear hx351_0
     try clear hx351_1
     try clear p351
     try clear q351
     obtain ⟨kq,x8_12,rfl,HA,HJ12,HO_5,HO_6,BK339,BK340,HB⟩:=hcut
     cases kq with
     | zero => exact absurd HA.out (by simp [spec_l5Shared.j1])
     | succ kj12 =>
      have H:=HA.out
      clear HA
      simp only [spec_l5Shared.j1] at H
      have H':=Aside0.mk H
      clear H
      go_wp2
      go_loopg [8,9] kj12 (fun kq v8 v9 w' => ∃ (x8_3 : Bool) (x9_3 : Int),v8 = .bool x8_3 ∧ v9 = .int .i64 x9_3 ∧ Aside0 (spec_l5Shared.l1 kq x5_1 y344 x7_1 x8_3 x9_3 a0_0 a0_1 a0_2 a0_3 a1_0 a1_1 a1_2 a1_3 = some r) ∧ Aside0 (kq ≤ kj12) ∧ Aside0 (Kd.R k63 63 w' w.heap.size (fun k_ => some k_ ≠ (v345 : Value).ownBlock) u5 x5_1) ∧ Aside0 (Kd.R k63 63 w' w.heap.size (fun k_ => some k_ ≠ (u5 : Value).ownBlock) v345 y344) ∧ Aside0 (w'.heap[gb339]? = some (.cells #[.int .i64 a0_0,.int .i64 a0_1,.int .i64 a0_2,.int .i64 a0_3] 100 (0,0))) ∧ Aside0 (w'.heap[gb340]? = some (.cells #[.int .i64 a1_0,.int .i64 a1_1,.int .i64 a1_2,.int .i64 a1_3] 100 (0,0))) ∧ Aside0 (Below w.heap.size w w'))
      case atStart => exact ⟨(x8_12),(0),(by first | rfl | (simp;done) | (simp [*];done)),(by first | rfl | (simp;done) | (simp [*];done)),H',⟨Nat.le_refl _⟩,⟨by (with_reducible repeat (first | apply Kd.R_alloc | apply Kd.R_drewN | apply Kd.R_drew));exact HO_5.out⟩,⟨by (with_reducible repeat (first | apply Kd.R_alloc | apply Kd.R_drewN | apply Kd.R_drew));exact HO_6.out⟩,⟨by (with_reducible repeat (first | refine blk_drewN ?_ _ | refine blk_drew ?_ | refine blk_alloc ?_ _));exact BK339.out⟩,⟨by (with_reducible repeat (first | refine blk_drewN ?_ _ | refine blk_drew ?_ | refine blk_alloc ?_ _));exact BK340.out⟩,⟨Hd.b_⟩⟩
      case round =>
       clear H'
       try clear c1
       try clear p2
       try clear c3
       try clear p3
       try clear q3
       try clear hx3
       try clear c14
       try clear c14b0
       try clear c15
       try clear c16
       try clear c31
       try clear c31b0
       try clear c32
       try clear c32b0
       try clear c33
       try clear c33b0
       try clear p35
       try clear q35
       try clear hx35
       try clear hx351_0
       try clear hx351_1
       try clear p2
       try clear p3
       try clear p35
       try clear p351
       try clear q3
       try clear q35
       try clear q351
       obtain ⟨x8_3,x9_3,rfl,rfl,HA,HK3,HO_5,HO_6,BK339,BK340,HB⟩:=hrel
       cases gk with
       | zero => exact absurd HA.out (by simp [spec_l5Shared.l1])
       | succ k3 =>
        have H:=HA.out
        clear HA
        simp only [spec_l5Shared.l1] at H
        by_cases c39 : x9_3 < (x5_1.length : Int)
        ·
         rw [if_pos c39] at H
         have c39b0 : decide (x9_3 < (x5_1.length : Int)) = true:=decide_eq_true c39
         clear c39
         by_cases c40 : x8_3 = true
         ·
          subst c40
          have H1 : (if 0 ≤ x9_3 then (if 0 ≤ x7_1 then (if x7_1 < (y344.length : Int) then (spec_l5Shared.l1 k3 x5_1 y344 x7_1 (!(((rd_T63 x5_1 x9_3).f0) == ((rd_T63 y344 x7_1).f0)) || (!(((rd_T63 x5_1 x9_3).f1) == ((rd_T63 y344 x7_1).f1)))) (wrap64 (x9_3 + 1)) a0_0 a0_1 a0_2 a0_3 a1_0 a1_1 a1_2 a1_3) else (none)) else (none)) else (none)) = some r:=by rw [if_pos rfl] at H;exact H
          clear H
          have H:=H1
          clear H1
          by_cases c41 : 0 ≤ x9_3
          ·
           rw [if_pos c41] at H
           have c41b0 : decide (0 ≤ x9_3) = true:=decide_eq_true c41
           clear c41
           by_cases c42 : 0 ≤ x7_1
           ·
            rw [if_pos c42] at H
            have c42b0 : decide (0 ≤ x7_1) = true:=decide_eq_true c42
            clear c42
            by_cases c43 : x7_1 < (y344.length : Int)
            ·
             rw [if_pos c43] at H
             have c43b0 : decide (x7_1 < (y344.length : Int)) = true:=decide_eq_true c43
             clear c43
             have H':=Aside0.mk H
             clear H
             obtain ⟨Ao44,co44,eo44⟩:=Kd.R_slice HO_5.out
             subst eo44
             try go_wp2
             replace HO_5:=Aside0.mk (Kd.R_drew HO_5.out)
             replace HO_6:=Aside0.mk (Kd.R_drew HO_6.out)
             replace BK339:=Aside0.mk (blk_drew BK339.out)
             replace BK340:=Aside0.mk (blk_drew BK340.out)
             replace HB:=Aside0.mk (below_drew1 HB.out)
             have p353 : 0 ≤ (x9_3 : Int):=of_decide_eq_true Hd.a_
             have q353 : x9_3 < (x5_1.length : Int):=of_decide_eq_true Hd.a_
             obtain ⟨ad353,e353,hx353_0,hx353_1⟩:=at_T63 (Kd.R_reads' HO_5.out).2.2 x9_3 p353 q353
             cases e353
             replace p353:=eq_true p353
             replace q353:=eq_true q353
             obtain ⟨Ao46,co46,eo46⟩:=Kd.R_slice HO_6.out
             (first | subst eo46 | (injection eo46 with f1_ f2_ f3_;have f4_:=f1_.symm;have f5_:=f3_.symm;clear f1_ f2_ f3_;subst f4_;subst f5_))
             have p354 : 0 ≤ (x7_1 : Int):=of_decide_eq_true Hd.a_
             have q354 : x7_1 < (y344.length : Int):=of_decide_eq_true Hd.a_
             obtain ⟨ad354,e354,hx354_0,hx354_1⟩:=at_T63 (Kd.R_reads' HO_6.out).2.2 x7_1 p354 q354
             cases e354
             replace p354:=eq_true p354
             replace q354:=eq_true q354
             have s0_:=Hd.HW.x (W0:=wr.drew) hx353_0
             have s1_:=Hd.HW.x (W0:=wr.drew) hx353_1
             have s2_:=Hd.HW.x (W0:=wr.drew) hx354_0
             have s3_:=Hd.HW.x (W0:=wr.drew) hx354_1
             refine Hd.HW.region (by kernel_rfl) (by kernel_rfl) ?_
             repeat (go_big_quiet_step (fail))
             refine wpQuiet_nil ?_
             intro _ hq_
             obtain ⟨q_,rfl⟩:=hq_
             clear s0_ s1_ s2_ s3_
             replace HO_5:=Aside0.mk (Kd.R_below HO_5.out q_.b)
             replace HO_6:=Aside0.mk (Kd.R_below HO_6.out q_.b)
             replace BK339:=Aside0.mk (blk_below BK339.out q_.b)
             replace BK340:=Aside0.mk (blk_below BK340.out q_.b)
             replace HB:=Aside0.mk (below_step HB.out q_.b)
             replace hx353_0:=q_.cell hx353_0
             replace hx353_1:=q_.cell hx353_1
             replace hx354_0:=q_.cell hx354_0
             replace hx354_1:=q_.cell hx354_1
             generalize q_.W = w45 at HO_5 HO_6 BK339 BK340 HB hx353_0 hx353_1 hx354_0 hx354_1 ⊢
             try simp only [i64_w,i32_w]
             try go_wp2
             go_roundg k3
             case measure => have:=HK1.out;have:=HJ12.out;have:=HK3.out;omega
             case rel => exact ⟨((!(((rd_T63 x5_1 x9_3).f0) == ((rd_T63 y344 x7_1).f0)) || (!(((rd_T63 x5_1 x9_3).f1) == ((rd_T63 y344 x7_1).f1))))),(wrap64 (x9_3 + 1)),(by first | rfl | (simp;done) | (simp [*];done)),(by first | rfl | (simp;done) | (simp [*];done)),H',⟨by have:=HK1.out;have:=HJ12.out;have:=HK3.out;omega⟩,⟨by (with_reducible repeat (first | apply Kd.R_alloc | apply Kd.R_drewN | apply Kd.R_drew));exact HO_5.out⟩,⟨by (with_reducible repeat (first | apply Kd.R_alloc | apply Kd.R_drewN | apply Kd.R_drew));exact HO_6.out⟩,⟨by (with_reducible repeat (first | refine blk_drewN ?_ _ | refine blk_drew ?_ | refine blk_alloc ?_ _));exact BK339.out⟩,⟨by (with_reducible repeat (first | refine blk_drewN ?_ _ | refine blk_drew ?_ | refine blk_alloc ?_ _));exact BK340.out⟩,⟨Hd.b_⟩⟩
            ·
             rw [if_neg c43] at H
             exact absurd H (by simp)
           ·
            rw [if_neg c42] at H
            exact absurd H (by simp)
          ·
           rw [if_neg c41] at H
           exact absurd H (by simp)
         ·
          replace c40:=Bool.eq_false_iff.mpr c40
          subst c40
          have H1 : (spec_l5Shared.l1 k3 x5_1 y344 x7_1 false (wrap64 (x9_3 + 1)) a0_0 a0_1 a0_2 a0_3 a1_0 a1_1 a1_2 a1_3) = some r:=by rw [if_neg (show ¬ (false = true) by decide)] at H;exact H
          clear H
          have H:=H1
          clear H1
          have H':=Aside0.mk H
          clear H
          obtain ⟨Ao47,co47,eo47⟩:=Kd.R_slice HO_5.out
          subst eo47
          try go_wp2
          replace HO_5:=Aside0.mk (Kd.R_drew HO_5.out)
          replace HO_6:=Aside0.mk (Kd.R_drew HO_6.out)
          replace BK339:=Aside0.mk (blk_drew BK339.out)
          replace BK340:=Aside0.mk (blk_drew BK340.out)
          replace HB:=Aside0.mk (below_drew1 HB.out)
          refine Hd.HW.region (by kernel_rfl) (by kernel_rfl) ?_
          repeat (go_big_quiet_step (fail))
          refine wpQuiet_nil ?_
          intro _ hq_
          obtain ⟨q_,rfl⟩:=hq_
          replace HO_5:=Aside0.mk (Kd.R_below HO_5.out q_.b)
          replace HO_6:=Aside0.mk (Kd.R_below HO_6.out q_.b)
          replace BK339:=Aside0.mk (blk_below BK339.out q_.b)
          replace BK340:=Aside0.mk (blk_below BK340.out q_.b)
          replace HB:=Aside0.mk (below_step HB.out q_.b)
          generalize q_.W = w48 at HO_5 HO_6 BK339 BK340 HB ⊢
          try simp only [i64_w,i32_w]
          try go_wp2
          go_roundg k3
          case measure => have:=HK1.out;have:=HJ12.out;have:=HK3.out;omega
          case rel => exact ⟨(false),(wrap64 (x9_3 + 1)),(by first | rfl | (simp;done) | (simp [*];done)),(by first | rfl | (simp;done) | (simp [*];done)),H',⟨by have:=HK1.out;have:=HJ12.out;have:=HK3.out;omega⟩,⟨by (with_reducible repeat (first | apply Kd.R_alloc | apply Kd.R_drewN | apply Kd.R_drew));exact HO_5.out⟩,⟨by (with_reducible repeat (first | apply Kd.R_alloc | apply Kd.R_drewN | apply Kd.R_drew));exact HO_6.out⟩,⟨by (with_reducible repeat (first | refine blk_drewN ?_ _ | refine blk_drew ?_ | refine blk_alloc ?_ _));exact BK339.out⟩,⟨by (with_reducible repeat (first | refine blk_drewN ?_ _ | refine blk_drew ?_ | refine blk_alloc ?_ _));exact BK340.out⟩,⟨Hd.b_⟩⟩
        ·
         rw [if_neg c39] at H
         have c39b0 : decide (x9_3 < (x5_1.length : Int)) = false:=decide_eq_false c39
         clear c39
         by_cases c49 : x8_3 = true
         ·
          subst c49
          have H1 : (if 0 ≤ x7_1 then (if x7_1 < (y344.length : Int) then (if x5_1.length < 8796093022208 then (spec_l5Shared.l0 k3 (x5_1 ++ [(⟨(rd_T63 y344 x7_1).f0,(rd_T63 y344 x7_1).f1⟩ : S63)]) y344 (wrap64 (x7_1 + 1)) a0_0 a0_1 a0_2 a0_3 a1_0 a1_1 a1_2 a1_3) else (none)) else (none)) else (none)) = some r:=by rw [if_pos rfl] at H;exact H
          clear H
          have H:=H1
          clear H1
          by_cases c50 : 0 ≤ x7_1
          ·
           rw [if_pos c50] at H
           have c50b0 : decide (0 ≤ x7_1) = true:=decide_eq_true c50
           clear c50
           by_cases c51 : x7_1 < (y344.length : Int)
           ·
            rw [if_pos c51] at H
            have c51b0 : decide (x7_1 < (y344.length : Int)) = true:=decide_eq_true c51
            clear c51
            by_cases c52 : x5_1.length < 8796093022208
            ·
             rw [if_pos c52] at H
             have LMc52:=Aside0.mk c52
             clear c52
             obtain ⟨y356,hy356⟩ : ∃ y_ : List (S63),y_ = (x5_1 ++ [(⟨(rd_T63 y344 x7_1).f0,(rd_T63 y344 x7_1).f1⟩ : S63)]):=⟨_,rfl⟩
             replace H : (spec_l5Shared.l0 k3 y356 y344 (wrap64 (x7_1 + 1)) a0_0 a0_1 a0_2 a0_3 a1_0 a1_1 a1_2 a1_3) = some r:=by first | (rw [hy356];with_reducible exact H) | (have H2_:=(Option.bind_some _ _).symm.trans H;rw [hy356];with_reducible exact H2_) | (have H2_:=(Option.bind_some _ _).symm.trans H;with_reducible exact H2_) | with_reducible exact H | (rw [hy356];exact H) | exact H
             have Ny356:=Aside0.mk hy356
             clear hy356
             have H':=Aside0.mk H
             clear H
             obtain ⟨Ao53,co53,eo53⟩:=Kd.R_slice HO_5.out
             subst eo53
             obtain ⟨Ao54,co54,eo54⟩:=Kd.R_slice HO_6.out
             subst eo54
             have p355 : 0 ≤ (x7_1 : Int):=of_decide_eq_true Hd.a_
             have q355 : x7_1 < (y344.length : Int):=of_decide_eq_true Hd.a_
             obtain ⟨ad355,e355,hx355_0,hx355_1⟩:=at_T63 (Kd.R_reads' HO_6.out).2.2 x7_1 p355 q355
             cases e355
             replace p355:=eq_true p355
             replace q355:=eq_true q355
             go_wp2_with (first | ((with_reducible refine gate_builtin (b:=.append) (xs:=#[.tmp 65,.tmp 70]) rfl ?_);at_builtin;refine Kd.R_append k63 (w0:=w) w.heap.size rfl (.tmp 65) (.tmp 70) 35 63 (.agg #[(.int .i64 0),(.int .i64 0)]) 16 rfl Try.underlying35 info63 rfl (by decide) (by omega) (.slice Ao53 x5_1.length co53) x5_1 (⟨(rd_T63 y344 x7_1).f0,(rd_T63 y344 x7_1).f1⟩ : S63) [.int .i64 ((rd_T63 y344 x7_1).f0),.int .i64 ((rd_T63 y344 x7_1).f1)] (fun k_ => some k_ ≠ (.slice (some ad355) y344.length co54 : Value).ownBlock) (fun _ => False) rfl rfl ?aP (fun _ hk => hk.elim) ?aF ?aO ?aB ?aS ?aL ?_;(case aP => exact k63_mkM _ _ _ (⟨(rd_T63 y344 x7_1).f0,(rd_T63 y344 x7_1).f1⟩ : S63));(case aB => exact Hd.b_);(case aF => exact (fun k_ hk => Kd.fresh' (Kd.R_lt (Hd.r_ HO_6)) k_ hk));(case aO => exact (Hd.r_ HO_5));(case aS => exact (below_size Hd.b_));(case aL => have:=LMc52.out;omega);intro v357 w55 ho hb hg hat;rw [← Ny356.out] at ho;have n0_:=Aside0.mk (Kd.R_after (ok:=(fun _ => True)) (by (with_reducible repeat (first | apply Kd.R_alloc | apply Kd.R_drewN | apply Kd.R_drew));exact Kd.R_mono HO_6.out (fun _ hk => ⟨trivial,hk⟩)) hg hat);have n1_:=Aside0.mk (blk_grown (g:=gb339) (o:=.cells #[.int .i64 a0_0,.int .i64 a0_1,.int .i64 a0_2,.int .i64 a0_3] 100 (0,0)) (Hd.k_ BK339) hg (Kd.R_ne HO_5.out BK339.out (by decide)));have n2_:=Aside0.mk (blk_grown (g:=gb340) (o:=.cells #[.int .i64 a1_0,.int .i64 a1_1,.int .i64 a1_2,.int .i64 a1_3] 100 (0,0)) (Hd.k_ BK340) hg (Kd.R_ne HO_5.out BK340.out (by decide)));have n3_:=Aside0.mk (hb);have n4_:=Aside0.mk (ho);clear HO_6;clear BK339;clear BK340;clear HB;clear HO_5;have HO_6:=n0_;have BK339:=n1_;have BK340:=n2_;have HB:=n3_;have HO358:=n4_;clear n0_ n1_ n2_ n3_ n4_;clear ho hb hg hat))
             go_roundg k3
             case measure => have:=HK1.out;have:=HJ12.out;have:=HK3.out;omega
             case rel => exact ⟨(y356),(wrap64 (x7_1 + 1)),(by first | rfl | (simp;done) | (simp [*];done)),H',⟨by have:=HK1.out;have:=HJ12.out;have:=HK3.out;omega⟩,⟨by (with_reducible repeat (first | apply Kd.R_alloc | apply Kd.R_drewN | apply Kd.R_drew));exact HO358.out⟩,⟨by (with_reducible repeat (first | apply Kd.R_alloc | apply Kd.R_drewN | apply Kd.R_drew));exact Kd.R_mono HO_6.out (fun _ hk => hk.2)⟩,⟨by (with_reducible repeat (first | refine blk_drewN ?_ _ | refine blk_drew ?_ | refine blk_alloc ?_ _));exact BK339.out⟩,⟨by (with_reducible repeat (first | refine blk_drewN ?_ _ | refine blk_drew ?_ | refine blk_alloc ?_ _));exact BK340.out⟩,⟨Hd.b_⟩⟩
            ·
             rw [if_neg c52] at H
             exact absurd H (by simp)
           ·
            rw [if_neg c51] at H
            exact absurd H (by simp)
          ·
           rw [if_neg c50] at H
           exact absurd H (by simp)
         ·
          replace c49:=Bool.eq_false_iff.mpr c49
          subst c49
          have H1 : (spec_l5Shared.l0 k3 x5_1 y344 (wrap64 (x7_1 + 1)) a0_0 a0_1 a0_2 a0_3 a1_0 a1_1 a1_2 a1_3) = some r:=by rw [if_neg (show ¬ (false = true) by decide)] at H;exact H
          clear H
          have H:=H1
          clear H1
          have H':=Aside0.mk H
          clear H
          obtain ⟨Ao56,co56,eo56⟩:=Kd.R_slice HO_5.out
          subst eo56
          go_wp2
          go_roundg k3
          case measure => have:=HK1.out;have:=HJ12.out;have:=HK3.out;omega
          case rel => exact ⟨(x5_1),(wrap64 (x7_1 + 1)),(by first | rfl | (simp;done) | (simp [*];done)),H',⟨by have:=HK1.out;have:=HJ12.out;have:=HK3.out;omega⟩,⟨by (with_reducible repeat (first | apply Kd.R_alloc | apply Kd.R_drewN | apply Kd.R_drew));exact HO_5.out⟩,⟨by (with_reducible repeat (first | apply Kd.R_alloc | apply Kd.R_drewN | apply Kd.R_drew));exact HO_6.out⟩,⟨by (with_reducible repeat (first | refine blk_drewN ?_ _ | refine blk_drew ?_ | refine blk_alloc ?_ _));exact BK339.out⟩,⟨by (with_reducible repeat (first | refine blk_drewN ?_ _ | refine blk_drew ?_ | refine blk_alloc ?_ _));exact BK340.out⟩,⟨Hd.b_⟩⟩
   ·
    rw [if_neg c12] at H
    have c12b0 : decide (x7_1 < 4) = false:=decide_eq_false c12
    clear c12
    obtain rfl:=Option.some.inj H
    obtain ⟨Ao57,co57,eo57⟩:=Kd.R_slice HO_5.out
    subst eo57
    go_wp2
    go_ret
    exact ⟨Hd.e_,Hd.b_⟩
def spec_SideOf.j0 : Nat → Bool → Int → Int → Int → Int → Int → Int → Option (Int)
 | 0,_,_,_,_,_,_,_ => none
 | k + 1,x20,x360000,x360001,x361000,x361001,x362000,x362001 => if x20 = true then (some 0) else ((spec_l4Cross.f x360000 x360001 x361000 x361001 x362000 x362001).bind fun t365 => (if t365 > 0 then (some 1) else (if t365 < 0 then (some (-1)) else (some 0))))
def spec_SideOf.f (k : Nat) (a0_0 : Int) (a0_1 : Int) (a1_0 : Int) (a1_1 : Int) (a2_0 : Int) (a2_1 : Int) : Option (Int):=(spec_IsPoint.f a0_0 a0_1).bind fun t362 => (if t362 = true then ((spec_IsPoint.f a1_0 a1_1).bind fun t363 => (if t363 = true then ((spec_IsPoint.f a2_0 a2_1).bind fun t364 => (spec_SideOf.j0 k (!t364) a0_0 a0_1 a1_0 a1_1 a2_0 a2_1)) else (spec_SideOf.j0 k true a0_0 a0_1 a1_0 a1_1 a2_0 a2_1))) else (spec_SideOf.j0 k true a0_0 a0_1 a1_0 a1_1 a2_0 a2_1))
set_option maxHeartbeats 8000000 in
set_option maxRecDepth 100000 in
theorem spec_SideOf.calls (k : Nat) (a0_0 : Int) (a0_1 : Int) (a1_0 : Int) (a1_1 : Int) (a2_0 : Int) (a2_1 : Int) (r : Int) (w : World) (h : spec_SideOf.f k a0_0 a0_1 a1_0 a1_1 a2_0 a2_1 = some r) :
  Calls Try.prog 118 #[.agg #[.int .i64 a0_0,.int .i64 a0_1],.agg #[.int .i64 a1_0,.int .i64 a1_1],.agg #[.int .i64 a2_0,.int .i64 a2_1]] w fun e w' => e = .returned (.int .i64 r) ∧ Below w.heap.size w w':=by
 have hu63:=Try.underlying63
 have HB:=Aside0.mk (Below.refl w.heap.size w)
 have H : ((spec_IsPoint.f a0_0 a0_1).bind fun t362 => (if t362 = true then ((spec_IsPoint.f a1_0 a1_1).bind fun t363 => (if t363 = true then ((spec_IsPoint.f a2_0 a2_1).bind fun t364 => (spec_SideOf.j0 k (!t364) a0_0 a0_1 a1_0 a1_1 a2_0 a2_1)) else (spec_SideOf.j0 k true a0_0 a0_1 a1_0 a1_1 a2_0 a2_1))) else (spec_SideOf.j0 k true a0_0 a0_1 a1_0 a1_1 a2_0 a2_1))) = some r:=h
 clear h
 have HC4:=Aside0.mk H
 clear H
 go_enter Try.func118,Try.ntmps118
 go_upto_region 1 with (first | ((with_reducible refine gate_dst (N:=3) rfl ?_);refine Hd.box_ 3 (#[.int .i64 a0_0,.int .i64 a0_1]) 63 ?_;intro gb359 hg w5 hbox hb;have BK359:=Aside0.mk (hbox);have GW359:=Aside0.mk ((Hd.g_ hg Hd.b_ : w.heap.size ≤ gb359));have GE359:=Aside0.mk ((Hd.g_ hg Hd.b_ : w.heap.size ≤ gb359));replace HB:=Aside0.mk (below_step Hd.b_ hb);clear hb hbox hg) | ((with_reducible refine gate_dst (N:=4) rfl ?_);refine Hd.box_ 4 (#[.int .i64 a1_0,.int .i64 a1_1]) 63 ?_;intro gb360 hg w6 hbox hb;have BK360:=Aside0.mk (hbox);have GW360:=Aside0.mk ((Hd.g_ hg Hd.b_ : w.heap.size ≤ gb360));have GE360:=Aside0.mk ((Hd.g_ hg Hd.b_ : w.heap.size ≤ gb360));replace HB:=Aside0.mk (below_step Hd.b_ hb);have NB359_360:=Aside0.mk ((Hd.lt_ BK359 hg));have NB360_359:=Aside0.mk ((Hd.gt_ BK359 hg));replace BK359:=Aside0.mk (Hd.kb_ BK359 hb);clear hb hbox hg) | ((with_reducible refine gate_dst (N:=5) rfl ?_);refine Hd.box_ 5 (#[.int .i64 a2_0,.int .i64 a2_1]) 63 ?_;intro gb361 hg w7 hbox hb;have BK361:=Aside0.mk (hbox);have GW361:=Aside0.mk ((Hd.g_ hg Hd.b_ : w.heap.size ≤ gb361));have GE361:=Aside0.mk ((Hd.g_ hg Hd.b_ : w.heap.size ≤ gb361));replace HB:=Aside0.mk (below_step Hd.b_ hb);have NB359_361:=Aside0.mk ((Hd.lt_ BK359 hg));have NB361_359:=Aside0.mk ((Hd.gt_ BK359 hg));replace BK359:=Aside0.mk (Hd.kb_ BK359 hb);have NB360_361:=Aside0.mk ((Hd.lt_ BK360 hg));have NB361_360:=Aside0.mk ((Hd.gt_ BK360 hg));replace BK360:=Aside0.mk (Hd.kb_ BK360 hb);clear hb hbox hg))
 (try simp only [Act.put,List.setIfInBounds_toArray,List.set_cons_zero,List.set_cons_succ])
 go_cut [20] (fun v20 wc => ∃ (kq : Nat) (x20_3 : Bool),v20 = .bool x20_3 ∧ Aside0 (spec_SideOf.j0 kq x20_3 a0_0 a0_1 a1_0 a1_1 a2_0 a2_1 = some r) ∧ Aside0 (kq ≤ k) ∧ Aside0 (wc.heap[gb359]? = some (.cells #[.int .i64 a0_0,.int .i64 a0_1] 63 (0,0))) ∧ Aside0 (wc.heap[gb360]? = some (.cells #[.int .i64 a1_0,.int .i64 a1_1] 63 (0,0))) ∧ Aside0 (wc.heap[gb361]? = some (.cells #[.int .i64 a2_0,.int .i64 a2_1] 63 (0,0))) ∧ Aside0 (Below w.heap.size w wc))
 case first =>
  have H:=HC4.out
  clear HC4
  replace H:=Option.bind_eq_some_iff.mp H
  obtain ⟨t362,A80,H⟩:=H
  replace H : (if t362 = true then ((spec_IsPoint.f a1_0 a1_1).bind fun t363 => (if t363 = true then ((spec_IsPoint.f a2_0 a2_1).bind fun t364 => (spec_SideOf.j0 k (!t364) a0_0 a0_1 a1_0 a1_1 a2_0 a2_1)) else (spec_SideOf.j0 k true a0_0 a0_1 a1_0 a1_1 a2_0 a2_1))) else (spec_SideOf.j0 k true a0_0 a0_1 a1_0 a1_1 a2_0 a2_1)) = some r:=H
  have A8:=Aside0.mk A80
  clear A80
  by_cases c9 : t362 = true
  ·
   subst c9
   have H1 : ((spec_IsPoint.f a1_0 a1_1).bind fun t363 => (if t363 = true then ((spec_IsPoint.f a2_0 a2_1).bind fun t364 => (spec_SideOf.j0 k (!t364) a0_0 a0_1 a1_0 a1_1 a2_0 a2_1)) else (spec_SideOf.j0 k true a0_0 a0_1 a1_0 a1_1 a2_0 a2_1))) = some r:=by rw [if_pos rfl] at H;exact H
   clear H
   have H:=H1
   clear H1
   replace H:=Option.bind_eq_some_iff.mp H
   obtain ⟨t363,A100,H⟩:=H
   replace H : (if t363 = true then ((spec_IsPoint.f a2_0 a2_1).bind fun t364 => (spec_SideOf.j0 k (!t364) a0_0 a0_1 a1_0 a1_1 a2_0 a2_1)) else (spec_SideOf.j0 k true a0_0 a0_1 a1_0 a1_1 a2_0 a2_1)) = some r:=H
   have A10:=Aside0.mk A100
   clear A100
   by_cases c11 : t363 = true
   ·
    subst c11
    have H1 : ((spec_IsPoint.f a2_0 a2_1).bind fun t364 => (spec_SideOf.j0 k (!t364) a0_0 a0_1 a1_0 a1_1 a2_0 a2_1)) = some r:=by rw [if_pos rfl] at H;exact H
    clear H
    have H:=H1
    clear H1
    replace H:=Option.bind_eq_some_iff.mp H
    obtain ⟨t364,A120,H⟩:=H
    replace H : (spec_SideOf.j0 k (!t364) a0_0 a0_1 a1_0 a1_1 a2_0 a2_1) = some r:=H
    have A12:=Aside0.mk A120
    clear A120
    have H':=Aside0.mk H
    clear H
    have hnb13:=NB359_360.out
    have hnc13:=NB360_359.out
    have hnb14:=NB359_361.out
    have hnc14:=NB361_359.out
    obtain ⟨hcz15_0,hcz15_1⟩:=Hd.c2_ BK359.out
    obtain ⟨hfz15_0,hfz15_1⟩:=Hd.f2_ BK359.out
    go_wp2_with (first | ((with_reducible refine gate_callee (f:=88) rfl ?_);refine goesL_ (some 9) rfl rfl Try.func88 (by kernel_rfl) rfl #[.agg #[.int .i64 a0_0,.int .i64 a0_1]] rfl Hd.m_ ?_;(with_reducible refine (spec_IsPoint.calls a0_0 a0_1 true _ A8.out).mono ?_);rintro e w16 ⟨rfl,hb⟩;refine ⟨_,rfl,?_⟩;replace BK359:=Aside0.mk (Hd.kb_ BK359 hb);replace BK360:=Aside0.mk (Hd.kb_ BK360 hb);replace BK361:=Aside0.mk (Hd.kb_ BK361 hb);replace HB:=Aside0.mk (below_step Hd.b_ hb);(try clear hb);(try clear hb2);(try clear hk);(try clear hi);have hnb17:=NB360_361.out;have hnc17:=NB361_360.out;obtain ⟨hcz18_0,hcz18_1⟩:=Hd.c2_ BK360.out;obtain ⟨hfz18_0,hfz18_1⟩:=Hd.f2_ BK360.out) | (go_at_call 88;(with_reducible refine (spec_IsPoint.calls a1_0 a1_1 true _ A10.out).mono ?_);rintro e w19 ⟨rfl,hb⟩;replace BK359:=Aside0.mk (Hd.kb_ BK359 hb);replace BK360:=Aside0.mk (Hd.kb_ BK360 hb);replace BK361:=Aside0.mk (Hd.kb_ BK361 hb);replace HB:=Aside0.mk (below_step Hd.b_ hb);(try clear hb);(try clear hb2);(try clear hk);(try clear hi);obtain ⟨hcz20_0,hcz20_1⟩:=Hd.c2_ BK361.out;obtain ⟨hfz20_0,hfz20_1⟩:=Hd.f2_ BK361.out) | (go_at_call 88;(with_reducible refine (spec_IsPoint.calls a2_0 a2_1 t364 _ A12.out).mono ?_);rintro e w21 ⟨rfl,hb⟩;replace BK359:=Aside0.mk (Hd.kb_ BK359 hb);replace BK360:=Aside0.mk (Hd.kb_ BK360 hb);replace BK361:=Aside0.mk (Hd.kb_ BK361 hb);replace HB:=Aside0.mk (below_step Hd.b_ hb);(try clear hb);(try clear hb2);(try clear hk);(try clear hi)))
    go_meet
    case rel => exact ⟨_,(!t364),(by first | rfl | (simp;done) | (simp [*];done)),H',⟨by first | omega | exact Nat.le_refl _⟩,⟨by (with_reducible repeat (first | refine blk_drewN ?_ _ | refine blk_drew ?_ | refine blk_alloc ?_ _));exact BK359.out⟩,⟨by (with_reducible repeat (first | refine blk_drewN ?_ _ | refine blk_drew ?_ | refine blk_alloc ?_ _));exact BK360.out⟩,⟨by (with_reducible repeat (first | refine blk_drewN ?_ _ | refine blk_drew ?_ | refine blk_alloc ?_ _));exact BK361.out⟩,⟨Hd.b_⟩⟩
   ·
    replace c11:=Bool.eq_false_iff.mpr c11
    subst c11
    have H1 : (spec_SideOf.j0 k true a0_0 a0_1 a1_0 a1_1 a2_0 a2_1) = some r:=by rw [if_neg (show ¬ (false = true) by decide)] at H;exact H
    clear H
    have H:=H1
    clear H1
    have H':=Aside0.mk H
    clear H
    have hnb22:=NB359_360.out
    have hnc22:=NB360_359.out
    have hnb23:=NB359_361.out
    have hnc23:=NB361_359.out
    obtain ⟨hcz24_0,hcz24_1⟩:=Hd.c2_ BK359.out
    obtain ⟨hfz24_0,hfz24_1⟩:=Hd.f2_ BK359.out
    go_wp2_with (first | ((with_reducible refine gate_callee (f:=88) rfl ?_);refine goesL_ (some 9) rfl rfl Try.func88 (by kernel_rfl) rfl #[.agg #[.int .i64 a0_0,.int .i64 a0_1]] rfl Hd.m_ ?_;(with_reducible refine (spec_IsPoint.calls a0_0 a0_1 true _ A8.out).mono ?_);rintro e w25 ⟨rfl,hb⟩;refine ⟨_,rfl,?_⟩;replace BK359:=Aside0.mk (Hd.kb_ BK359 hb);replace BK360:=Aside0.mk (Hd.kb_ BK360 hb);replace BK361:=Aside0.mk (Hd.kb_ BK361 hb);replace HB:=Aside0.mk (below_step Hd.b_ hb);(try clear hb);(try clear hb2);(try clear hk);(try clear hi);have hnb26:=NB360_361.out;have hnc26:=NB361_360.out;obtain ⟨hcz27_0,hcz27_1⟩:=Hd.c2_ BK360.out;obtain ⟨hfz27_0,hfz27_1⟩:=Hd.f2_ BK360.out) | (go_at_call 88;(with_reducible refine (spec_IsPoint.calls a1_0 a1_1 false _ A10.out).mono ?_);rintro e w28 ⟨rfl,hb⟩;replace BK359:=Aside0.mk (Hd.kb_ BK359 hb);replace BK360:=Aside0.mk (Hd.kb_ BK360 hb);replace BK361:=Aside0.mk (Hd.kb_ BK361 hb);replace HB:=Aside0.mk (below_step Hd.b_ hb);(try clear hb);(try clear hb2);(try clear hk);(try clear hi)))
    go_meet
    case rel => exact ⟨_,(true),(by first | rfl | (simp;done) | (simp [*];done)),H',⟨by first | omega | exact Nat.le_refl _⟩,⟨by (with_reducible repeat (first | refine blk_drewN ?_ _ | refine blk_drew ?_ | refine blk_alloc ?_ _));exact BK359.out⟩,⟨by (with_reducible repeat (first | refine blk_drewN ?_ _ | refine blk_drew ?_ | refine blk_alloc ?_ _));exact BK360.out⟩,⟨by (with_reducible repeat (first | refine blk_drewN ?_ _ | refine blk_drew ?_ | refine blk_alloc ?_ _));exact BK361.out⟩,⟨Hd.b_⟩⟩
  ·
   replace c9:=Bool.eq_false_iff.mpr c9
   subst c9
   have H1 : (spec_SideOf.j0 k true a0_0 a0_1 a1_0 a1_1 a2_0 a2_1) = some r:=by rw [if_neg (show ¬ (false = true) by decide)] at H;exact H
   clear H
   have H:=H1
   clear H1
   have H':=Aside0.mk H
   clear H
   have hnb29:=NB359_360.out
   have hnc29:=NB360_359.out
   have hnb30:=NB359_361.out
   have hnc30:=NB361_359.out
   obtain ⟨hcz31_0,hcz31_1⟩:=Hd.c2_ BK359.out
   obtain ⟨hfz31_0,hfz31_1⟩:=Hd.f2_ BK359.out
   go_wp2_with (first | ((with_reducible refine gate_callee (f:=88) rfl ?_);refine goesL_ (some 9) rfl rfl Try.func88 (by kernel_rfl) rfl #[.agg #[.int .i64 a0_0,.int .i64 a0_1]] rfl Hd.m_ ?_;(with_reducible refine (spec_IsPoint.calls a0_0 a0_1 false _ A8.out).mono ?_);rintro e w32 ⟨rfl,hb⟩;refine ⟨_,rfl,?_⟩;replace BK359:=Aside0.mk (Hd.kb_ BK359 hb);replace BK360:=Aside0.mk (Hd.kb_ BK360 hb);replace BK361:=Aside0.mk (Hd.kb_ BK361 hb);replace HB:=Aside0.mk (below_step Hd.b_ hb);(try clear hb);(try clear hb2);(try clear hk);(try clear hi)))
   go_meet
   case rel => exact ⟨_,(true),(by first | rfl | (simp;done) | (simp [*];done)),H',⟨by first | omega | exact Nat.le_refl _⟩,⟨by (with_reducible repeat (first | refine blk_drewN ?_ _ | refine blk_drew ?_ | refine blk_alloc ?_ _));exact BK359.out⟩,⟨by (with_reducible repeat (first | refine blk_drewN ?_ _ | refine blk_drew ?_ | refine blk_alloc ?_ _));exact BK360.out⟩,⟨by (with_reducible repeat (first | refine blk_drewN ?_ _ | refine blk_drew ?_ | refine blk_alloc ?_ _));exact BK361.out⟩,⟨Hd.b_⟩⟩
 case rest =>
  clear HC4
  try clear c1
  try clear c2
  try clear p2
  try clear c3
  try clear c8
  try clear c9
  try clear c11
  try clear c13
  try clear c14
  try clear c17
  try clear c22
  try clear c23
  try clear c26
  try clear c29
  try clear c30
  try clear hcz15_0
  try clear hcz15_1
  try clear hcz18_0
  try clear hcz18_1
  try clear hcz20_0
  try clear hcz20_1
  try clear hcz24_0
  try clear hcz24_1
  try clear hcz27_0
  try clear hcz27_1
  try clear hcz31_0
  try clear hcz31_1
  try clear hfz15_0
  try clear hfz15_1
  try clear hfz18_0
  try clear hfz18_1
  try clear hfz20_0
  try clear hfz20_1
  try clear hfz24_0
  try clear hfz24_1
  try clear hfz27_0
  try clear hfz27_1
  try clear hfz31_0
  try clear hfz31_1
  obtain ⟨kq,x20_3,rfl,HA,HJ3,BK359,BK360,BK361,HB⟩:=hcut
  cases kq with
  | zero => exact absurd HA.out (by simp [spec_SideOf.j0])
  | succ kj3 =>
   have H:=HA.out
   clear HA
   simp only [spec_SideOf.j0] at H
   by_cases c33 : x20_3 = true
   ·
    subst c33
    have H1 : (some 0) = some r:=by rw [if_pos rfl] at H;exact H
    clear H
    have H:=H1
    clear H1
    obtain rfl:=Option.some.inj H
    go_wp2
    go_ret
    exact ⟨Hd.e_,Hd.b_⟩
   ·
    replace c33:=Bool.eq_false_iff.mpr c33
    subst c33
    have H1 : ((spec_l4Cross.f a0_0 a0_1 a1_0 a1_1 a2_0 a2_1).bind fun t365 => (if t365 > 0 then (some 1) else (if t365 < 0 then (some (-1)) else (some 0)))) = some r:=by rw [if_neg (show ¬ (false = true) by decide)] at H;exact H
    clear H
    have H:=H1
    clear H1
    replace H:=Option.bind_eq_some_iff.mp H
    obtain ⟨t365,A340,H⟩:=H
    replace H : (if t365 > 0 then (some 1) else (if t365 < 0 then (some (-1)) else (some 0))) = some r:=H
    have A34:=Aside0.mk A340
    clear A340
    by_cases c35 : t365 > 0
    ·
     rw [if_pos c35] at H
     have c35b0 : decide (0 < t365) = true:=decide_eq_true c35
     clear c35
     obtain rfl:=Option.some.inj H
     have hnb36:=NB359_360.out
     have hnc36:=NB360_359.out
     have hnb37:=NB359_361.out
     have hnc37:=NB361_359.out
     obtain ⟨hcz38_0,hcz38_1⟩:=Hd.c2_ BK359.out
     obtain ⟨hfz38_0,hfz38_1⟩:=Hd.f2_ BK359.out
     have hnb39:=NB360_361.out
     have hnc39:=NB361_360.out
     obtain ⟨hcz40_0,hcz40_1⟩:=Hd.c2_ BK360.out
     obtain ⟨hfz40_0,hfz40_1⟩:=Hd.f2_ BK360.out
     obtain ⟨hcz41_0,hcz41_1⟩:=Hd.c2_ BK361.out
     obtain ⟨hfz41_0,hfz41_1⟩:=Hd.f2_ BK361.out
     go_wp2_with (first | ((with_reducible refine gate_callee (f:=145) rfl ?_);refine goesL_ (some 24) rfl rfl Try.func145 (by kernel_rfl) rfl #[.agg #[.int .i64 a0_0,.int .i64 a0_1],.agg #[.int .i64 a1_0,.int .i64 a1_1],.agg #[.int .i64 a2_0,.int .i64 a2_1]] rfl Hd.m_ ?_;(with_reducible refine (spec_l4Cross.calls a0_0 a0_1 a1_0 a1_1 a2_0 a2_1 t365 _ A34.out).mono ?_);rintro e w42 ⟨rfl,hb⟩;refine ⟨_,rfl,?_⟩;replace BK359:=Aside0.mk (Hd.kb_ BK359 hb);replace BK360:=Aside0.mk (Hd.kb_ BK360 hb);replace BK361:=Aside0.mk (Hd.kb_ BK361 hb);replace HB:=Aside0.mk (below_step Hd.b_ hb);(try clear hb);(try clear hb2);(try clear hk);(try clear hi)))
     go_ret
     exact ⟨Hd.e_,Hd.b_⟩
    ·
     rw [if_neg c35] at H
     have c35b0 : decide (0 < t365) = false:=decide_eq_false c35
     clear c35
     by_cases c43 : t365 < 0
     ·
      rw [if_pos c43] at H
      have c43b0 : decide (t365 < 0) = true:=decide_eq_true c43
      clear c43
      obtain rfl:=Option.some.inj H
      have hnb44:=NB359_360.out
      have hnc44:=NB360_359.out
      have hnb45:=NB359_361.out
      have hnc45:=NB361_359.out
      obtain ⟨hcz46_0,hcz46_1⟩:=Hd.c2_ BK359.out
      obtain ⟨hfz46_0,hfz46_1⟩:=Hd.f2_ BK359.out
      have hnb47:=NB360_361.out
      have hnc47:=NB361_360.out
      obtain ⟨hcz48_0,hcz48_1⟩:=Hd.c2_ BK360.out
      obtain ⟨hfz48_0,hfz48_1⟩:=Hd.f2_ BK360.out
      obtain ⟨hcz49_0,hcz49_1⟩:=Hd.c2_ BK361.out
      obtain ⟨hfz49_0,hfz49_1⟩:=Hd.f2_ BK361.out
      go_wp2_with (first | ((with_reducible refine gate_callee (f:=145) rfl ?_);refine goesL_ (some 24) rfl rfl Try.func145 (by kernel_rfl) rfl #[.agg #[.int .i64 a0_0,.int .i64 a0_1],.agg #[.int .i64 a1_0,.int .i64 a1_1],.agg #[.int .i64 a2_0,.int .i64 a2_1]] rfl Hd.m_ ?_;(with_reducible refine (spec_l4Cross.calls a0_0 a0_1 a1_0 a1_1 a2_0 a2_1 t365 _ A34.out).mono ?_);rintro e w50 ⟨rfl,hb⟩;refine ⟨_,rfl,?_⟩;replace BK359:=Aside0.mk (Hd.kb_ BK359 hb);replace BK360:=Aside0.mk (Hd.kb_ BK360 hb);replace BK361:=Aside0.mk (Hd.kb_ BK361 hb);replace HB:=Aside0.mk (below_step Hd.b_ hb);(try clear hb);(try clear hb2);(try clear hk);(try clear hi)))
      go_ret
      exact ⟨Hd.e_,Hd.b_⟩
     ·
      rw [if_neg c43] at H
      have c43b0 : decide (t365 < 0) = false:=decide_eq_false c43
      clear c43
      obtain rfl:=Option.some.inj H
      have hnb51:=NB359_360.out
      have hnc51:=NB360_359.out
      have hnb52:=NB359_361.out
      have hnc52:=NB361_359.out
      obtain ⟨hcz53_0,hcz53_1⟩:=Hd.c2_ BK359.out
      obtain ⟨hfz53_0,hfz53_1⟩:=Hd.f2_ BK359.out
      have hnb54:=NB360_361.out
      have hnc54:=NB361_360.out
      obtain ⟨hcz55_0,hcz55_1⟩:=Hd.c2_ BK360.out
      obtain ⟨hfz55_0,hfz55_1⟩:=Hd.f2_ BK360.out
      obtain ⟨hcz56_0,hcz56_1⟩:=Hd.c2_ BK361.out
      obtain ⟨hfz56_0,hfz56_1⟩:=Hd.f2_ BK361.out
      go_wp2_with (first | ((with_reducible refine gate_callee (f:=145) rfl ?_);refine goesL_ (some 24) rfl rfl Try.func145 (by kernel_rfl) rfl #[.agg #[.int .i64 a0_0,.int .i64 a0_1],.agg #[.int .i64 a1_0,.int .i64 a1_1],.agg #[.int .i64 a2_0,.int .i64 a2_1]] rfl Hd.m_ ?_;(with_reducible refine (spec_l4Cross.calls a0_0 a0_1 a1_0 a1_1 a2_0 a2_1 t365 _ A34.out).mono ?_);rintro e w57 ⟨rfl,hb⟩;refine ⟨_,rfl,?_⟩;replace BK359:=Aside0.mk (Hd.kb_ BK359 hb);replace BK360:=Aside0.mk (Hd.kb_ BK360 hb);replace BK361:=Aside0.mk (Hd.kb_ BK361 hb);replace HB:=Aside0.mk (below_step Hd.b_ hb);(try clear hb);(try clear hb2);(try clear hk);(try clear hi)))
      go_ret
      exact ⟨Hd.e_,Hd.b_⟩
end Go.Proofs.Ytchmbcembbbplad.MFnExactMeetsOf
