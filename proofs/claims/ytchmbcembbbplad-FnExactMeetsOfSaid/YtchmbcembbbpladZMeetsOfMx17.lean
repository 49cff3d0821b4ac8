-- Laid by this session's program pp.py, after the kit's print and texts of the session's own. Not trusted: Lean checks it.
import Derived.Test.YtchmbcembbbpladZMeetsOfMx0
import Derived.Test.YtchmbcembbbpladZMeetsOfMx11
import Derived.Test.YtchmbcembbbpladZMeetsOfMx13
import Derived.Test.YtchmbcembbbpladZMeetsOfMx16
namespace Go.Proofs.Ytchmbcembbbplad.MFnExactMeetsOf
open Go.RowKit Go.Proofs.YtchmbcembbbpladW.PrintWords Go.Proofs.YtchmbcembbbpladW.PrintLast Go.Proofs.YtchmbcembbbpladW.PrintMore
attribute [local go_sem] max2_int min2_int max_two min_two max_three min_three max_four min_four   -- for this text's walks alone
set_option linter.unusedVariables false
set_option linter.unusedSimpArgs false
mutual
def spec_FeaturesMeet.l0 : Nat → Int → List (S100) → List (S100) → Int → Option (Int)
 | 0,_,_,_,_ => none
 | k + 1,x5,x6,x7,x8 => if x8 < (x6.length : Int) then (spec_FeaturesMeet.l1 k x5 x6 x7 x8 0) else (some x5)
def spec_FeaturesMeet.l1 : Nat → Int → List (S100) → List (S100) → Int → Int → Option (Int)
 | 0,_,_,_,_,_ => none
 | k + 1,x5,x6,x7,x8,x9 => if x9 < (x7.length : Int) then (if 0 ≤ x8 then (if x8 < (x6.length : Int) then (if 0 ≤ x9 then ((spec_HowMeet.f k ((rd_T100 x6 x8).f0.f0) ((rd_T100 x6 x8).f0.f1) ((rd_T100 x6 x8).f1.f0) ((rd_T100 x6 x8).f1.f1) ((rd_T100 x7 x9).f0.f0) ((rd_T100 x7 x9).f0.f1) ((rd_T100 x7 x9).f1.f0) ((rd_T100 x7 x9).f1.f1)).bind fun t470 => ((spec_Max.f x5 t470).bind fun t471 => (spec_FeaturesMeet.l1 k t471 x6 x7 x8 (wrap64 (x9 + 1))))) else (none)) else (none)) else (none)) else (spec_FeaturesMeet.l0 k x5 x6 x7 (wrap64 (x8 + 1)))
end
def spec_FeaturesMeet.f (k : Nat) (a0_0 : Int) (a0_1 : Int) (a0_2 : Int) (a0_3 : ByteArray) (l0_4 : List (S63)) (a1_0 : Int) (a1_1 : Int) (a1_2 : Int) (a1_3 : ByteArray) (l1_4 : List (S63)) : Option (Int):=(spec_PartsOf.f k a0_0 a0_1 a0_2 a0_3 l0_4).bind fun t462 => ((spec_PartsOf.f k a1_0 a1_1 a1_2 a1_3 l1_4).bind fun t465 => (spec_FeaturesMeet.l0 k 0 t462 t465 0))
set_option maxHeartbeats 8000000 in
set_option maxRecDepth 100000 in
theorem spec_FeaturesMeet.calls (k : Nat) (a0_0 : Int) (a0_1 : Int) (a0_2 : Int) (a0_3 : ByteArray) (A0_4 : Option Addr) (c0_4 : Nat) (l0_4 : List (S63)) (a1_0 : Int) (a1_1 : Int) (a1_2 : Int) (a1_3 : ByteArray) (A1_4 : Option Addr) (c1_4 : Nat) (l1_4 : List (S63)) (r : Int) (w : World) (hr0_4 : Kd.C k63 w A0_4 l0_4.length l0_4) (hc0_4 : l0_4.length ≤ c0_4) (hr1_4 : Kd.C k63 w A1_4 l1_4.length l1_4) (hc1_4 : l1_4.length ≤ c1_4) (h : spec_FeaturesMeet.f k a0_0 a0_1 a0_2 a0_3 l0_4 a1_0 a1_1 a1_2 a1_3 l1_4 = some r) :
  Calls Try.prog 58 #[.agg #[.int .i64 a0_0,.int .i64 a0_1,.int .i64 a0_2,.string a0_3,.slice A0_4 l0_4.length c0_4],.agg #[.int .i64 a1_0,.int .i64 a1_1,.int .i64 a1_2,.string a1_3,.slice A1_4 l1_4.length c1_4]] w fun e w' => e = .returned (.int .i64 r) ∧ Below w.heap.size w w':=by
 have hu37:=Try.underlying37
 have hu100:=Try.underlying100
 have HR0_4:=Aside0.mk hr0_4
 have HC0_4:=Aside0.mk hc0_4
 clear hr0_4 hc0_4
 have HR1_4:=Aside0.mk hr1_4
 have HC1_4:=Aside0.mk hc1_4
 clear hr1_4 hc1_4
 have HB:=Aside0.mk (Below.refl w.heap.size w)
 have H : ((spec_PartsOf.f k a0_0 a0_1 a0_2 a0_3 l0_4).bind fun t462 => ((spec_PartsOf.f k a1_0 a1_1 a1_2 a1_3 l1_4).bind fun t465 => (spec_FeaturesMeet.l0 k 0 t462 t465 0))) = some r:=h
 clear h
 replace H:=Option.bind_eq_some_iff.mp H
 obtain ⟨t462,A30,H⟩:=H
 replace H : ((spec_PartsOf.f k a1_0 a1_1 a1_2 a1_3 l1_4).bind fun t465 => (spec_FeaturesMeet.l0 k 0 t462 t465 0)) = some r:=H
 have A3:=Aside0.mk A30
 clear A30
 replace H:=Option.bind_eq_some_iff.mp H
 obtain ⟨t465,A40,H⟩:=H
 replace H : (spec_FeaturesMeet.l0 k 0 t462 t465 0) = some r:=H
 have A4:=Aside0.mk A40
 clear A40
 have H':=Aside0.mk H
 clear H
 go_enter Try.func58,Try.ntmps58
 go_wp2_with (first | ((with_reducible refine gate_dst (N:=2) rfl ?_);refine Hd.box_ 2 (#[.int .i64 a0_0,.int .i64 a0_1,.int .i64 a0_2,.string a0_3,.slice A0_4 l0_4.length c0_4]) 37 ?_;intro gb460 hg w5 hbox hb;have BK460:=Aside0.mk (hbox);have GW460:=Aside0.mk ((Hd.g_ hg Hd.b_ : w.heap.size ≤ gb460));have GE460:=Aside0.mk ((Hd.g_ hg Hd.b_ : w.heap.size ≤ gb460));replace HB:=Aside0.mk (below_step Hd.b_ hb);clear hb hbox hg) | ((with_reducible refine gate_dst (N:=3) rfl ?_);refine Hd.box_ 3 (#[.int .i64 a1_0,.int .i64 a1_1,.int .i64 a1_2,.string a1_3,.slice A1_4 l1_4.length c1_4]) 37 ?_;intro gb461 hg w6 hbox hb;have BK461:=Aside0.mk (hbox);have GW461:=Aside0.mk ((Hd.g_ hg Hd.b_ : w.heap.size ≤ gb461));have GE461:=Aside0.mk ((Hd.g_ hg Hd.b_ : w.heap.size ≤ gb461));replace HB:=Aside0.mk (below_step Hd.b_ hb);have NB460_461:=Aside0.mk ((Hd.lt_ BK460 hg));have NB461_460:=Aside0.mk ((Hd.gt_ BK460 hg));replace BK460:=Aside0.mk (Hd.kb_ BK460 hb);clear hb hbox hg;have hnb7:=NB460_461.out;have hnc7:=NB461_460.out;obtain ⟨hcz8_0,hcz8_1,hcz8_2,hcz8_3,hcz8_4⟩:=Hd.c5_ BK460.out;obtain ⟨hfz8_0,hfz8_1,hfz8_2,hfz8_3,hfz8_4⟩:=Hd.f5_ BK460.out) | ((with_reducible refine gate_callee (f:=85) rfl ?_);refine goesL_ (some 11) rfl rfl Try.func85 (by kernel_rfl) rfl #[.agg #[.int .i64 a0_0,.int .i64 a0_1,.int .i64 a0_2,.string a0_3,.slice A0_4 l0_4.length c0_4]] rfl Hd.m_ ?_;(with_reducible refine (spec_PartsOf.calls k a0_0 a0_1 a0_2 a0_3 _ _ l0_4 t462 _ ?side1 ?side2 A3.out).mono ?_);(case side1 => repeat (first | exact (Kd.C_below HR0_4.out HB.out) | (with_reducible refine Kd.C_alloc ?_ _) | (with_reducible refine Kd.C_drewN ?_ _) | (with_reducible refine Kd.C_drew ?_)));(case side2 => exact HC0_4.out);rintro e w9 ⟨v463,rfl,ho0,hb⟩;refine ⟨_,rfl,?_⟩;have HO464:=Aside0.mk (Kd.R_lower ho0 (below_size Hd.b_));replace BK460:=Aside0.mk (Hd.kb_ BK460 hb);replace BK461:=Aside0.mk (Hd.kb_ BK461 hb);replace HB:=Aside0.mk (below_step Hd.b_ hb);(try clear hb);(try clear hb2);(try clear hk);(try clear hi);(try clear ho0);obtain ⟨hcz10_0,hcz10_1,hcz10_2,hcz10_3,hcz10_4⟩:=Hd.c5_ BK461.out;obtain ⟨hfz10_0,hfz10_1,hfz10_2,hfz10_3,hfz10_4⟩:=Hd.f5_ BK461.out) | ((with_reducible refine gate_callee (f:=85) rfl ?_);refine goesL_ (some 13) rfl rfl Try.func85 (by kernel_rfl) rfl #[.agg #[.int .i64 a1_0,.int .i64 a1_1,.int .i64 a1_2,.string a1_3,.slice A1_4 l1_4.length c1_4]] rfl Hd.m_ ?_;(with_reducible refine (spec_PartsOf.calls k a1_0 a1_1 a1_2 a1_3 _ _ l1_4 t465 _ ?side1 ?side2 A4.out).mono ?_);(case side1 => repeat (first | exact (Kd.C_below HR1_4.out HB.out) | (with_reducible refine Kd.C_alloc ?_ _) | (with_reducible refine Kd.C_drewN ?_ _) | (with_reducible refine Kd.C_drew ?_)));(case side2 => exact HC1_4.out);rintro e w11 ⟨v466,rfl,ho0,hb⟩;refine ⟨_,rfl,?_⟩;have HO467:=Aside0.mk (Kd.R_lower (Kd.R_new' ho0 (Kd.R_lt (Hd.r_ HO464))) (below_size Hd.b_));replace HO464:=Aside0.mk (Kd.R_elder' (Hd.r_ HO464) (Kd.R_base ho0) hb);replace BK460:=Aside0.mk (Hd.kb_ BK460 hb);replace BK461:=Aside0.mk (Hd.kb_ BK461 hb);replace HB:=Aside0.mk (below_step Hd.b_ hb);(try clear hb);(try clear hb2);(try clear hk);(try clear hi);(try clear ho0)))
 go_loopg [5,8] k (fun kq v5 v8 w' => ∃ (x5_1 : Int) (x8_1 : Int),v5 = .int .i64 x5_1 ∧ v8 = .int .i64 x8_1 ∧ Aside0 (spec_FeaturesMeet.l0 kq x5_1 t462 t465 x8_1 = some r) ∧ Aside0 (kq ≤ k) ∧ Aside0 (Kd.R k100 100 w' w.heap.size (fun k_ => some k_ ≠ (v466 : Value).ownBlock) v463 t462) ∧ Aside0 (Kd.R k100 100 w' w.heap.size (fun k_ => some k_ ≠ (v463 : Value).ownBlock) v466 t465) ∧ Aside0 (w'.heap[gb460]? = some (.cells #[.int .i64 a0_0,.int .i64 a0_1,.int .i64 a0_2,.string a0_3,(.slice A0_4 l0_4.length c0_4)] 37 (0,0))) ∧ Aside0 (w'.heap[gb461]? = some (.cells #[.int .i64 a1_0,.int .i64 a1_1,.int .i64 a1_2,.string a1_3,(.slice A1_4 l1_4.length c1_4)] 37 (0,0))) ∧ Aside0 (Below w.heap.size w w'))
 case atStart => exact ⟨(0),(0),(by first | rfl | (simp;done) | (simp [*];done)),(by first | rfl | (simp;done) | (simp [*];done)),H',⟨Nat.le_refl _⟩,⟨by (with_reducible repeat (first | apply Kd.R_alloc | apply Kd.R_drewN | apply Kd.R_drew));exact Kd.R_mono HO464.out (fun _ hk => hk.2)⟩,⟨by (with_reducible repeat (first | apply Kd.R_alloc | apply Kd.R_drewN | apply Kd.R_drew));exact Kd.R_mono HO467.out (fun _ hk => hk.2)⟩,⟨by (with_reducible repeat (first | refine blk_drewN ?_ _ | refine blk_drew ?_ | refine blk_alloc ?_ _));exact BK460.out⟩,⟨by (with_reducible repeat (first | refine blk_drewN ?_ _ | refine blk_drew ?_ | refine blk_alloc ?_ _));exact BK461.out⟩,⟨Hd.b_⟩⟩
 case round =>
  clear H'
  try clear c1
  try clear p2
  try clear c5
  try clear c7
  try clear c8
  try clear hcz10_0
  try clear hcz10_1
  try clear hcz10_2
  try clear hcz10_3
  try clear hcz10_4
  try clear hcz8_0
  try clear hcz8_1
  try clear hcz8_2
  try clear hcz8_3
  try clear hcz8_4
  try clear hfz10_0
  try clear hfz10_1
  try clear hfz10_2
  try clear hfz10_3
  try clear hfz10_4
  try clear hfz8_0
  try clear hfz8_1
  try clear hfz8_2
  try clear hfz8_3
  try clear hfz8_4
  obtain ⟨x5_1,x8_1,rfl,rfl,HA,HK1,HO_6,HO_7,BK460,BK461,HB⟩:=hrel
  cases gk with
  | zero => exact absurd HA.out (by simp [spec_FeaturesMeet.l0])
  | succ k1 =>
   have H:=HA.out
   clear HA
   simp only [spec_FeaturesMeet.l0] at H
   by_cases c12 : x8_1 < (t462.length : Int)
   ·
    rw [if_pos c12] at H
    have c12b0 : decide (x8_1 < (t462.length : Int)) = true:=decide_eq_true c12
    clear c12
    have H':=Aside0.mk H
    clear H
    obtain ⟨Ao13,co13,eo13⟩:=Kd.R_slice HO_6.out
    subst eo13
    go_wp2
    go_loopg [5,9] k1 (fun kq v5 v9 w' => ∃ (x5_2 : Int) (x9_2 : Int),v5 = .int .i64 x5_2 ∧ v9 = .int .i64 x9_2 ∧ Aside0 (spec_FeaturesMeet.l1 kq x5_2 t462 t465 x8_1 x9_2 = some r) ∧ Aside0 (kq ≤ k1) ∧ Aside0 (Kd.R k100 100 w' w.heap.size (fun k_ => some k_ ≠ (v466 : Value).ownBlock) (.slice Ao13 t462.length co13) t462) ∧ Aside0 (Kd.R k100 100 w' w.heap.size (fun k_ => some k_ ≠ ((.slice Ao13 t462.length co13) : Value).ownBlock) v466 t465) ∧ Aside0 (w'.heap[gb460]? = some (.cells #[.int .i64 a0_0,.int .i64 a0_1,.int .i64 a0_2,.string a0_3,(.slice A0_4 l0_4.length c0_4)] 37 (0,0))) ∧ Aside0 (w'.heap[gb461]? = some (.cells #[.int .i64 a1_0,.int .i64 a1_1,.int .i64 a1_2,.string a1_3,(.slice A1_4 l1_4.length c1_4)] 37 (0,0))) ∧ Aside0 (Below w.heap.size w w'))
    case atStart => exact ⟨(x5_1),(0),(by first | rfl | (simp;done) | (simp [*];done)),(by first | rfl | (simp;done) | (simp [*];done)),H',⟨Nat.le_refl _⟩,⟨by (with_reducible repeat (first | apply Kd.R_alloc | apply Kd.R_drewN | apply Kd.R_drew));exact HO_6.out⟩,⟨by (with_reducible repeat (first | apply Kd.R_alloc | apply Kd.R_drewN | apply Kd.R_drew));exact HO_7.out⟩,⟨by (with_reducible repeat (first | refine blk_drewN ?_ _ | refine blk_drew ?_ | refine blk_alloc ?_ _));exact BK460.out⟩,⟨by (with_reducible repeat (first | refine blk_drewN ?_ _ | refine blk_drew ?_ | refine blk_alloc ?_ _));exact BK461.out⟩,⟨Hd.b_⟩⟩
    case round =>
     clear H'
     try clear c1
     try clear p2
     try clear c5
     try clear c7
     try clear c8
     try clear c12
     try clear c12b0
     try clear hcz10_0
     try clear hcz10_1
     try clear hcz10_2
     try clear hcz10_3
     try clear hcz10_4
     try clear hcz8_0
     try clear hcz8_1
     try clear hcz8_2
     try clear hcz8_3
     try clear hcz8_4
     try clear hfz10_0
     try clear hfz10_1
     try clear hfz10_2
     try clear hfz10_3
     try clear hfz10_4
     try clear hfz8_0
     try clear hfz8_1
     try clear hfz8_2
     try clear hfz8_3
     try clear hfz8_4
     try clear p2
     obtain ⟨x5_2,x9_2,rfl,rfl,HA,HK2,HO_6,HO_7,BK460,BK461,HB⟩:=hrel
     cases gk with
     | zero => exact absurd HA.out (by simp [spec_FeaturesMeet.l1])
     | succ k2 =>
      have H:=HA.out
      clear HA
      simp only [spec_FeaturesMeet.l1] at H
      by_cases c14 : x9_2 < (t465.length : Int)
      ·
       rw [if_pos c14] at H
       have c14b0 : decide (x9_2 < (t465.length : Int)) = true:=decide_eq_true c14
       clear c14
       by_cases c15 : 0 ≤ x8_1
       ·
        rw [if_pos c15] at H
        have c15b0 : decide (0 ≤ x8_1) = true:=decide_eq_true c15
        clear c15
        by_cases c16 : x8_1 < (t462.length : Int)
        ·
         rw [if_pos c16] at H
         have c16b0 : decide (x8_1 < (t462.length : Int)) = true:=decide_eq_true c16
         clear c16
         by_cases c17 : 0 ≤ x9_2
         ·
          rw [if_pos c17] at H
          have c17b0 : decide (0 ≤ x9_2) = true:=decide_eq_true c17
          clear c17
          replace H:=Option.bind_eq_some_iff.mp H
          obtain ⟨t470,A180,H⟩:=H
          replace H : ((spec_Max.f x5_2 t470).bind fun t471 => (spec_FeaturesMeet.l1 k2 t471 t462 t465 x8_1 (wrap64 (x9_2 + 1)))) = some r:=H
          have A18:=Aside0.mk A180
          clear A180
          replace H:=Option.bind_eq_some_iff.mp H
          obtain ⟨t471,A190,H⟩:=H
          replace H : (spec_FeaturesMeet.l1 k2 t471 t462 t465 x8_1 (wrap64 (x9_2 + 1))) = some r:=H
          have A19:=Aside0.mk A190
          clear A190
          have H':=Aside0.mk H
          clear H
          obtain ⟨Ao20,co20,eo20⟩:=Kd.R_slice HO_7.out
          subst eo20
          try go_wp2
          replace HO_6:=Aside0.mk (Kd.R_drew HO_6.out)
          replace HO_7:=Aside0.mk (Kd.R_drew HO_7.out)
          replace BK460:=Aside0.mk (blk_drew BK460.out)
          replace BK461:=Aside0.mk (blk_drew BK461.out)
          replace HB:=Aside0.mk (below_drew1 HB.out)
          have p468 : 0 ≤ (x8_1 : Int):=of_decide_eq_true Hd.a_
          have q468 : x8_1 < (t462.length : Int):=of_decide_eq_true Hd.a_
          obtain ⟨ad468,e468,hx468_0,hx468_1,hx468_2,hx468_3⟩:=at_T100 (Kd.R_reads' HO_6.out).2.2 x8_1 p468 q468
          cases e468
          replace p468:=eq_true p468
          replace q468:=eq_true q468
          have p469 : 0 ≤ (x9_2 : Int):=of_decide_eq_true Hd.a_
          have q469 : x9_2 < (t465.length : Int):=of_decide_eq_true Hd.a_
          obtain ⟨ad469,e469,hx469_0,hx469_1,hx469_2,hx469_3⟩:=at_T100 (Kd.R_reads' HO_7.out).2.2 x9_2 p469 q469
          cases e469
          replace p469:=eq_true p469
          replace q469:=eq_true q469
          have s0_:=Hd.HW.x (W0:=wr.drew) hx468_0
          have s1_:=Hd.HW.x (W0:=wr.drew) hx468_1
          have s2_:=Hd.HW.x (W0:=wr.drew) hx468_2
          have s3_:=Hd.HW.x (W0:=wr.drew) hx468_3
          have s4_:=Hd.HW.x (W0:=wr.drew) hx469_0
          have s5_:=Hd.HW.x (W0:=wr.drew) hx469_1
          have s6_:=Hd.HW.x (W0:=wr.drew) hx469_2
          have s7_:=Hd.HW.x (W0:=wr.drew) hx469_3
          refine Hd.HW.region (by kernel_rfl) (by kernel_rfl) ?_
          repeat (go_big_quiet_step ((first | (go_at_call 87;with_reducible exact Hd.HW.c (spec_HowMeet.calls k2 ((rd_T100 t462 x8_1).f0.f0) ((rd_T100 t462 x8_1).f0.f1) ((rd_T100 t462 x8_1).f1.f0) ((rd_T100 t462 x8_1).f1.f1) ((rd_T100 t465 x9_2).f0.f0) ((rd_T100 t465 x9_2).f0.f1) ((rd_T100 t465 x9_2).f1.f0) ((rd_T100 t465 x9_2).f1.f1) t470 _ A18.out)) | (go_at_call 86;with_reducible exact Hd.HW.d (spec_Max.calls x5_2 t470 t471 _ A19.out)))))
          refine wpQuiet_nil ?_
          intro _ hq_
          obtain ⟨q_,rfl⟩:=hq_
          clear s0_ s1_ s2_ s3_ s4_ s5_ s6_ s7_
          replace HO_6:=Aside0.mk (Kd.R_below HO_6.out q_.b)
          replace HO_7:=Aside0.mk (Kd.R_below HO_7.out q_.b)
          replace BK460:=Aside0.mk (blk_below BK460.out q_.b)
          replace BK461:=Aside0.mk (blk_below BK461.out q_.b)
          replace HB:=Aside0.mk (below_step HB.out q_.b)
          replace hx468_0:=q_.cell hx468_0
          replace hx468_1:=q_.cell hx468_1
          replace hx468_2:=q_.cell hx468_2
          replace hx468_3:=q_.cell hx468_3
          replace hx469_0:=q_.cell hx469_0
          replace hx469_1:=q_.cell hx469_1
          replace hx469_2:=q_.cell hx469_2
          replace hx469_3:=q_.cell hx469_3
          generalize q_.W = w22 at HO_6 HO_7 BK460 BK461 HB hx468_0 hx468_1 hx468_2 hx468_3 hx469_0 hx469_1 hx469_2 hx469_3 ⊢
          try simp only [i64_w,i32_w]
          try go_wp2
          go_roundg k2
          case measure => have:=HK1.out;have:=HK2.out;omega
          case rel => exact ⟨(t471),(wrap64 (x9_2 + 1)),(by first | rfl | (simp;done) | (simp [*];done)),(by first | rfl | (simp;done) | (simp [*];done)),H',⟨by have:=HK1.out;have:=HK2.out;omega⟩,⟨by (with_reducible repeat (first | apply Kd.R_alloc | apply Kd.R_drewN | apply Kd.R_drew));exact HO_6.out⟩,⟨by (with_reducible repeat (first | apply Kd.R_alloc | apply Kd.R_drewN | apply Kd.R_drew));exact HO_7.out⟩,⟨by (with_reducible repeat (first | refine blk_drewN ?_ _ | refine blk_drew ?_ | refine blk_alloc ?_ _));exact BK460.out⟩,⟨by (with_reducible repeat (first | refine blk_drewN ?_ _ | refine blk_drew ?_ | refine blk_alloc ?_ _));exact BK461.out⟩,⟨Hd.b_⟩⟩
         ·
          rw [if_neg c17] at H
          exact absurd H (by simp)
        ·
         rw [if_neg c16] at H
         exact absurd H (by simp)
       ·
        rw [if_neg c15] at H
        exact absurd H (by simp)
      ·
       rw [if_neg c14] at H
       have c14b0 : decide (x9_2 < (t465.length : Int)) = false:=decide_eq_false c14
       clear c14
       have H':=Aside0.mk H
       clear H
       obtain ⟨Ao23,co23,eo23⟩:=Kd.R_slice HO_7.out
       subst eo23
       go_wp2
       go_roundg k2
       case measure => have:=HK1.out;have:=HK2.out;omega
       case rel => exact ⟨(x5_2),(wrap64 (x8_1 + 1)),(by first | rfl | (simp;done) | (simp [*];done)),(by first | rfl | (simp;done) | (simp [*];done)),H',⟨by have:=HK1.out;have:=HK2.out;omega⟩,⟨by (with_reducible repeat (first | apply Kd.R_alloc | apply Kd.R_drewN | apply Kd.R_drew));exact HO_6.out⟩,⟨by (with_reducible repeat (first | apply Kd.R_alloc | apply Kd.R_drewN | apply Kd.R_drew));exact HO_7.out⟩,⟨by (with_reducible repeat (first | refine blk_drewN ?_ _ | refine blk_drew ?_ | refine blk_alloc ?_ _));exact BK460.out⟩,⟨by (with_reducible repeat (first | refine blk_drewN ?_ _ | refine blk_drew ?_ | refine blk_alloc ?_ _));exact BK461.out⟩,⟨Hd.b_⟩⟩
   ·
    rw [if_neg c12] at H
    have c12b0 : decide (x8_1 < (t462.length : Int)) = false:=decide_eq_false c12
    clear c12
    obtain rfl:=Option.some.inj H
    obtain ⟨Ao24,co24,eo24⟩:=Kd.R_slice HO_6.out
    subst eo24
    go_wp2
    go_ret
    exact ⟨Hd.e_,Hd.b_⟩
mutual
def spec_MeetsOf.l0 : Nat → List (S37) → List (S78) → Int → Option ((List (S78)))
 | 0,_,_,_ => none
 | k + 1,x0,x3,x4 => if x4 < (x0.length : Int) then ((spec_IsSource.f k x0).bind fun t475 => (spec_MeetsOf.j1 k x0 x3 x4 t475)) else (spec_MeetsOf.j1 k x0 x3 x4 false)
def spec_MeetsOf.j1 : Nat → List (S37) → List (S78) → Int → Bool → Option ((List (S78)))
 | 0,_,_,_,_ => none
 | k + 1,x0,x3,x4,x15 => if x15 = true then (spec_MeetsOf.l1 k x0 x3 x4 (wrap64 (x4 + 1))) else (some x3)
def spec_MeetsOf.l1 : Nat → List (S37) → List (S78) → Int → Int → Option ((List (S78)))
 | 0,_,_,_,_ => none
 | k + 1,x0,x3,x4,x5 => if x5 < (x0.length : Int) then (if 0 ≤ x4 then (if x4 < (x0.length : Int) then (if 0 ≤ x5 then ((spec_FeaturesMeet.f k ((rd_T37 x0 x4).f0) ((rd_T37 x0 x4).f1) ((rd_T37 x0 x4).f2) ((rd_T37 x0 x4).f3) ((rd_T37 x0 x4).f4) ((rd_T37 x0 x5).f0) ((rd_T37 x0 x5).f1) ((rd_T37 x0 x5).f2) ((rd_T37 x0 x5).f3) ((rd_T37 x0 x5).f4)).bind fun t478 => (if t478 = 0 then (spec_MeetsOf.l1 k x0 x3 x4 (wrap64 (x5 + 1))) else (if x3.length < 5864062014805 then (spec_MeetsOf.l1 k x0 (x3 ++ [(⟨(rd_T37 x0 x4).f0,(rd_T37 x0 x5).f0,t478⟩ : S78)]) x4 (wrap64 (x5 + 1))) else (none)))) else (none)) else (none)) else (none)) else (spec_MeetsOf.l0 k x0 x3 (wrap64 (x4 + 1)))
end
def spec_MeetsOf.f (k : Nat) (l0 : List (S37)) : Option ((List (S78))):=spec_MeetsOf.l0 k l0 (([] : List (S78))) 0
def spec_MeetsOf.T8 : Bool × List (List Nat × List Nat):=(true,[([],[]),([],[]),([0,1],[0,1]),([2],[2]),([],[]),([],[]),([4,5],[4,5]),([6],[6]),([3,7],[3,7]),([8,8,0,1,2,3,4,5,6,7,8],[8])])
def spec_MeetsOf.B8 : List Nat:=[0,0,3,7,0,0,48,112,255,511]
theorem spec_MeetsOf.tab8 : rtab .any (opsOf Try.f28 8) = spec_MeetsOf.T8:=by kernel_rfl
theorem spec_MeetsOf.bits8 : waitsOk spec_MeetsOf.T8.2 spec_MeetsOf.B8 = true:=by kernel_rfl
def spec_MeetsOf.T10 : Bool × List (List Nat × List Nat):=(true,[([],[]),([],[]),([],[]),([1,2],[1,2]),([3],[3]),([4],[4]),([],[]),([],[]),([6,7],[6,7]),([8],[8]),([9],[9]),([],[]),([5,10,11],[5,10,11]),([12],[12]),([0,13],[0,13]),([14,14,0,1,2,3,4,5,6,7,8,9,10,11,12,13,14],[0,14])])
def spec_MeetsOf.B10 : List Nat:=[0,0,0,6,14,30,0,0,192,448,960,0,4094,8190,16383,32767]
theorem spec_MeetsOf.tab10 : rtab .any (opsOf Try.f28 10) = spec_MeetsOf.T10:=by kernel_rfl
theorem spec_MeetsOf.bits10 : waitsOk spec_MeetsOf.T10.2 spec_MeetsOf.B10 = true:=by kernel_rfl
set_option maxHeartbeats 8000000 in
set_option maxRecDepth 100000 in
theorem spec_MeetsOf.calls (k : Nat) (A0 : Option Addr) (c0 : Nat) (l0 : List (S37)) (r : List (S78)) (w : World) (hr0 : Kd.C k37 w A0 l0.length l0) (hc0 : l0.length ≤ c0) (h : spec_MeetsOf.f k l0 = some r) :
  Calls Try.prog 28 #[.slice A0 l0.length c0] w fun e w' => ∃ v0_ : Value,e = .returned (v0_) ∧ Kd.R k78 78 w' w.heap.size (fun _ => True) v0_ r ∧ Below w.heap.size w w':=by
 have hu37:=Try.underlying37
 have hu78:=Try.underlying78
 have HR0:=Aside0.mk hr0
 have HC0:=Aside0.mk hc0
 clear hr0 hc0
 have HB:=Aside0.mk (Below.refl w.heap.size w)
 have H : (spec_MeetsOf.l0 k l0 (([] : List (S78))) 0) = some r:=h
 clear h
 obtain ⟨y472,hy472⟩ : ∃ y_ : List (S78),y_ = (([] : List (S78))):=⟨_,rfl⟩
 replace H : (spec_MeetsOf.l0 k l0 y472 0) = some r:=by first | (rw [hy472];with_reducible exact H) | (have H2_:=(Option.bind_some _ _).symm.trans H;rw [hy472];with_reducible exact H2_) | (have H2_:=(Option.bind_some _ _).symm.trans H;with_reducible exact H2_) | with_reducible exact H | (rw [hy472];exact H) | exact H
 have Ny472:=Aside0.mk hy472
 clear hy472
 have H':=Aside0.mk H
 clear H
 go_enter Try.func28,Try.ntmps28
 go_wp2_with (first | ((with_reducible refine gate_dst (N:=7) rfl ?_);refine Kd.R_lit k78 _ 78 ?hg (N:=7) ?hd (xs:=([] : List (S78))) (inner:=[]) (ok:=fun _ => True) (okp:=fun _ => True) ?hr ?hp (fun _ hk => hk) trivial (Below.refl _ _) (Nat.le_refl _) (by simp) ?_;(case hd => rfl);(case hg => rfl);(case hr => first | (go_simp;done) | (go_simp;rfl));(case hp => exact (Reps.none _ _));intro v473 w2 ho3 hb hg_ hnew_;clear hg_ hnew_;(first | rw [← Ny472.out] at ho3 | (simp only [Int.reduceToNat] at ho3;rw [← Ny472.out] at ho3));have HO474:=Aside0.mk (Kd.R_lower ho3 (below_size Hd.b_));replace HB:=Aside0.mk (below_step Hd.b_ hb);clear hb ho3))
 go_loopg [3,4] k (fun kq v3 v4 w' => ∃ (x3_1 : List (S78)) (x4_1 : Int),v4 = .int .i64 x4_1 ∧ Aside0 (spec_MeetsOf.l0 kq l0 x3_1 x4_1 = some r) ∧ Aside0 (kq ≤ k) ∧ Aside0 (Kd.R k78 78 w' w.heap.size (fun _ => True) v3 x3_1) ∧ Aside0 (Below w.heap.size w w'))
 case atStart => exact ⟨(y472),(0),(by first | rfl | (simp;done) | (simp [*];done)),H',⟨Nat.le_refl _⟩,⟨by (with_reducible repeat (first | apply Kd.R_alloc | apply Kd.R_drewN | apply Kd.R_drew));exact HO474.out⟩,⟨Hd.b_⟩⟩
 case round =>
  clear H'
  try clear c2
  try clear p2
  obtain ⟨x3_1,x4_1,rfl,HA,HK1,HO_3,HB⟩:=hrel
  cases gk with
  | zero => exact absurd HA.out (by simp [spec_MeetsOf.l0])
  | succ k1 =>
   have H:=HA.out
   clear HA
   simp only [spec_MeetsOf.l0] at H
   have HC4:=Aside0.mk H
   clear H
   go_upto_region 3 with (fail)
   go_cut [15] (fun v15 wc => ∃ (kq : Nat) (x15_3 : Bool),v15 = .bool x15_3 ∧ Aside0 (spec_MeetsOf.j1 kq l0 x3_1 x4_1 x15_3 = some r) ∧ Aside0 (kq ≤ k1) ∧ Aside0 (Kd.R k78 78 wc w.heap.size (fun _ => True) u3 x3_1) ∧ Aside0 (Below w.heap.size w wc))
   case first =>
    have H:=HC4.out
    clear HC4
    by_cases c5 : x4_1 < (l0.length : Int)
    ·
     rw [if_pos c5] at H
     have c5b0 : decide (x4_1 < (l0.length : Int)) = true:=decide_eq_true c5
     clear c5
     (first | rw [c5b0] | (simp only [i64_w,i32_w];rw [c5b0]) | skip)
     replace H:=Option.bind_eq_some_iff.mp H
     obtain ⟨t475,A60,H⟩:=H
     replace H : (spec_MeetsOf.j1 k1 l0 x3_1 x4_1 t475) = some r:=H
     have A6:=Aside0.mk A60
     clear A60
     have H':=Aside0.mk H
     clear H
     go_wp2_with (first | (go_at_call 40;(with_reducible refine (spec_IsSource.calls k1 _ _ l0 t475 _ ?side1 ?side2 A6.out).mono ?_);(case side1 => repeat (first | exact (Kd.C_below HR0.out HB.out) | (with_reducible refine Kd.C_alloc ?_ _) | (with_reducible refine Kd.C_drewN ?_ _) | (with_reducible refine Kd.C_drew ?_)));(case side2 => exact HC0.out);rintro e w7 ⟨rfl,hb⟩;replace HO_3:=Aside0.mk (Kd.R_below (Hd.r_ HO_3) hb);replace HB:=Aside0.mk (below_step Hd.b_ hb);(try clear hb);(try clear hb2);(try clear hk);(try clear hi)))
     go_meet
     case rel => exact ⟨_,(t475),(by first | rfl | (simp;done) | (simp [*];done)),H',⟨by have:=HK1.out;first | omega | exact Nat.le_refl _⟩,⟨by (with_reducible repeat (first | apply Kd.R_alloc | apply Kd.R_drewN | apply Kd.R_drew));exact HO_3.out⟩,⟨Hd.b_⟩⟩
    ·
     rw [if_neg c5] at H
     have c5b0 : decide (x4_1 < (l0.length : Int)) = false:=decide_eq_false c5
     clear c5
     (first | rw [c5b0] | (simp only [i64_w,i32_w];rw [c5b0]) | skip)
     have H':=Aside0.mk H
     clear H
     go_wp2
     go_meet
     case rel => exact ⟨_,(false),(by first | rfl | (simp;done) | (simp [*];done)),H',⟨by have:=HK1.out;first | omega | exact Nat.le_refl _⟩,⟨by (with_reducible repeat (first | apply Kd.R_alloc | apply Kd.R_drewN | apply Kd.R_drew));exact HO_3.out⟩,⟨Hd.b_⟩⟩
   case rest =>
    clear HC4
    try clear c2
    try clear p2
    try clear c5
    try clear c5b0
    try clear p2
    obtain ⟨kq,x15_3,rfl,HA,HJ3,HO_3,HB⟩:=hcut
    cases kq with
    | zero => exact absurd HA.out (by simp [spec_MeetsOf.j1])
    | succ kj3 =>
     have H:=HA.out
     clear HA
     simp only [spec_MeetsOf.j1] at H
     by_cases c8 : x15_3 = true
     ·
      subst c8
      have H1 : (spec_MeetsOf.l1 kj3 l0 x3_1 x4_1 (wrap64 (x4_1 + 1))) = some r:=by rw [if_pos rfl] at H;exact H
      clear H
      have H:=H1
      clear H1
      have H':=Aside0.mk H
      clear H
      go_wp2
      go_loopg [3,5] kj3 (fun kq v3 v5 w' => ∃ (x3_3 : List (S78)) (x5_3 : Int),v5 = .int .i64 x5_3 ∧ Aside0 (spec_MeetsOf.l1 kq l0 x3_3 x4_1 x5_3 = some r) ∧ Aside0 (kq ≤ kj3) ∧ Aside0 (Kd.R k78 78 w' w.heap.size (fun _ => True) v3 x3_3) ∧ Aside0 (Below w.heap.size w w'))
      case atStart => exact ⟨(x3_1),(wrap64 (x4_1 + 1)),(by first | rfl | (simp;done) | (simp [*];done)),H',⟨Nat.le_refl _⟩,⟨by (with_reducible repeat (first | apply Kd.R_alloc | apply Kd.R_drewN | apply Kd.R_drew));exact HO_3.out⟩,⟨Hd.b_⟩⟩
      case round =>
       clear H'
       try clear c2
       try clear p2
       try clear c5
       try clear c5b0
       try clear p6
       try clear c8
       try clear p2
       obtain ⟨x3_3,x5_3,rfl,HA,HK3,HO_3,HB⟩:=hrel
       cases gk with
       | zero => exact absurd HA.out (by simp [spec_MeetsOf.l1])
       | succ k3 =>
        have H:=HA.out
        clear HA
        simp only [spec_MeetsOf.l1] at H
        by_cases c9 : x5_3 < (l0.length : Int)
        ·
         rw [if_pos c9] at H
         have c9b0 : decide (x5_3 < (l0.length : Int)) = true:=decide_eq_true c9
         clear c9
         by_cases c10 : 0 ≤ x4_1
         ·
          rw [if_pos c10] at H
          have c10b0 : decide (0 ≤ x4_1) = true:=decide_eq_true c10
          clear c10
          by_cases c11 : x4_1 < (l0.length : Int)
          ·
           rw [if_pos c11] at H
           have c11b0 : decide (x4_1 < (l0.length : Int)) = true:=decide_eq_true c11
           clear c11
           by_cases c12 : 0 ≤ x5_3
           ·
            rw [if_pos c12] at H
            have c12b0 : decide (0 ≤ x5_3) = true:=decide_eq_true c12
            clear c12
            replace H:=Option.bind_eq_some_iff.mp H
            obtain ⟨t478,A130,H⟩:=H
            replace H : (if t478 = 0 then (spec_MeetsOf.l1 k3 l0 x3_3 x4_1 (wrap64 (x5_3 + 1))) else (if x3_3.length < 5864062014805 then (spec_MeetsOf.l1 k3 l0 (x3_3 ++ [(⟨(rd_T37 l0 x4_1).f0,(rd_T37 l0 x5_3).f0,t478⟩ : S78)]) x4_1 (wrap64 (x5_3 + 1))) else (none))) = some r:=H
            have A13:=Aside0.mk A130
            clear A130
            by_cases c14 : t478 = 0
            ·
             rw [if_pos c14] at H
             have c14b0 : (t478 == 0) = true:=beq_iff_eq.mpr c14
             have c14b1 : (t478 != 0) = false:=bne_eq_false_iff_eq.mpr c14
             clear c14
             have H':=Aside0.mk H
             clear H
             try go_wp2
             replace HO_3:=Aside0.mk (Kd.R_drew HO_3.out)
             replace HB:=Aside0.mk (below_drew1 HB.out)
             have p476 : 0 ≤ (x4_1 : Int):=of_decide_eq_true Hd.a_
             have q476 : x4_1 < (l0.length : Int):=of_decide_eq_true Hd.a_
             obtain ⟨ad476,A476_4,c476_4,e476,hx476_0,hx476_1,hx476_2,hx476_3,hx476_4,hl476_4,hi476_4⟩:=at_T37 HR0.out x4_1 p476 q476
             have hw476_4:=hx476_4
             have hw476_3:=hx476_3
             have hw476_2:=hx476_2
             have hw476_1:=hx476_1
             have hw476_0:=hx476_0
             cases e476
             replace hx476_0:=(HB.out.cell (World.block_lt_of_cell? w _ hx476_0)).trans hx476_0
             replace hx476_1:=(HB.out.cell (World.block_lt_of_cell? w _ hx476_1)).trans hx476_1
             replace hx476_2:=(HB.out.cell (World.block_lt_of_cell? w _ hx476_2)).trans hx476_2
             replace hx476_3:=(HB.out.cell (World.block_lt_of_cell? w _ hx476_3)).trans hx476_3
             replace hx476_4:=(HB.out.cell (World.block_lt_of_cell? w _ hx476_4)).trans hx476_4
             have HR476_4:=Aside0.mk hi476_4
             have HC476_4:=Aside0.mk hl476_4
             clear hi476_4 hl476_4
             replace p476:=eq_true p476
             replace q476:=eq_true q476
             have p477 : 0 ≤ (x5_3 : Int):=of_decide_eq_true Hd.a_
             have q477 : x5_3 < (l0.length : Int):=of_decide_eq_true Hd.a_
             obtain ⟨ad477,A477_4,c477_4,e477,hx477_0,hx477_1,hx477_2,hx477_3,hx477_4,hl477_4,hi477_4⟩:=at_T37 HR0.out x5_3 p477 q477
             have hw477_4:=hx477_4
             have hw477_3:=hx477_3
             have hw477_2:=hx477_2
             have hw477_1:=hx477_1
             have hw477_0:=hx477_0
             obtain rfl : ad476 = ad477:=(by injection e477)
             replace hx477_0:=(HB.out.cell (World.block_lt_of_cell? w _ hx477_0)).trans hx477_0
             replace hx477_1:=(HB.out.cell (World.block_lt_of_cell? w _ hx477_1)).trans hx477_1
             replace hx477_2:=(HB.out.cell (World.block_lt_of_cell? w _ hx477_2)).trans hx477_2
             replace hx477_3:=(HB.out.cell (World.block_lt_of_cell? w _ hx477_3)).trans hx477_3
             replace hx477_4:=(HB.out.cell (World.block_lt_of_cell? w _ hx477_4)).trans hx477_4
             have HR477_4:=Aside0.mk hi477_4
             have HC477_4:=Aside0.mk hl477_4
             clear hi477_4 hl477_4
             replace p477:=eq_true p477
             replace q477:=eq_true q477
             refine start_ (n:=10) (S:=fun w' => w'.cell? (ad476.add ((x4_1).toNat * 5)) = some (.int .i64 ((rd_T37 l0 x4_1).f0)) ∧ w'.cell? ⟨(ad476.add ((x4_1).toNat * 5)).block,(ad476.add ((x4_1).toNat * 5)).off + 1,none⟩ = some (.int .i64 ((rd_T37 l0 x4_1).f1)) ∧ w'.cell? ⟨(ad476.add ((x4_1).toNat * 5)).block,(ad476.add ((x4_1).toNat * 5)).off + 2,none⟩ = some (.int .i64 ((rd_T37 l0 x4_1).f2)) ∧ w'.cell? ⟨(ad476.add ((x4_1).toNat * 5)).block,(ad476.add ((x4_1).toNat * 5)).off + 3,none⟩ = some (.string ((rd_T37 l0 x4_1).f3)) ∧ w'.cell? ⟨(ad476.add ((x4_1).toNat * 5)).block,(ad476.add ((x4_1).toNat * 5)).off + 4,none⟩ = some (.slice A476_4 ((rd_T37 l0 x4_1).f4).length c476_4) ∧ w'.cell? (ad476.add ((x5_3).toNat * 5)) = some (.int .i64 ((rd_T37 l0 x5_3).f0)) ∧ w'.cell? ⟨(ad476.add ((x5_3).toNat * 5)).block,(ad476.add ((x5_3).toNat * 5)).off + 1,none⟩ = some (.int .i64 ((rd_T37 l0 x5_3).f1)) ∧ w'.cell? ⟨(ad476.add ((x5_3).toNat * 5)).block,(ad476.add ((x5_3).toNat * 5)).off + 2,none⟩ = some (.int .i64 ((rd_T37 l0 x5_3).f2)) ∧ w'.cell? ⟨(ad476.add ((x5_3).toNat * 5)).block,(ad476.add ((x5_3).toNat * 5)).off + 3,none⟩ = some (.string ((rd_T37 l0 x5_3).f3)) ∧ w'.cell? ⟨(ad476.add ((x5_3).toNat * 5)).block,(ad476.add ((x5_3).toNat * 5)).off + 4,none⟩ = some (.slice A477_4 ((rd_T37 l0 x5_3).f4).length c477_4)) (ds:=[]) #[false,false,false,false,false,false,false,false,false,false] (by kernel_rfl) rfl rfl ⟨((HB.out.cell (World.block_lt_of_cell? w _ hw476_0)).trans hw476_0),((HB.out.cell (World.block_lt_of_cell? w _ hw476_1)).trans hw476_1),((HB.out.cell (World.block_lt_of_cell? w _ hw476_2)).trans hw476_2),((HB.out.cell (World.block_lt_of_cell? w _ hw476_3)).trans hw476_3),((HB.out.cell (World.block_lt_of_cell? w _ hw476_4)).trans hw476_4),((HB.out.cell (World.block_lt_of_cell? w _ hw477_0)).trans hw477_0),((HB.out.cell (World.block_lt_of_cell? w _ hw477_1)).trans hw477_1),((HB.out.cell (World.block_lt_of_cell? w _ hw477_2)).trans hw477_2),((HB.out.cell (World.block_lt_of_cell? w _ hw477_3)).trans hw477_3),((HB.out.cell (World.block_lt_of_cell? w _ hw477_4)).trans hw477_4)⟩ (fun hHeld => ?_);refine with_tabW spec_MeetsOf.tab8 spec_MeetsOf.bits8 (fun HT_ HW_ => ?_)
             generalize wr.drew = w15 at HO_3 HB HR476_4 HR477_4 hx476_0 hx476_1 hx476_2 hx476_3 hx476_4 hx477_0 hx477_1 hx477_2 hx477_3 hx477_4 hHeld ⊢
             refine Hd.p_ HT_ 0 (some 26) #[true,false,false,false,false,false,false,false,false,false] ?_
             refine Hd.p_ HT_ 1 (some 27) #[true,true,false,false,false,false,false,false,false,false] ?_
             refine Hd.p_ HT_ 2 (some 28) #[true,true,true,false,false,false,false,false,false,false] ?_
             refine Hd.p_ HT_ 4 (some 30) #[true,true,true,false,true,false,false,false,false,false] ?_
             refine Hd.p_ HT_ 5 (some 31) #[true,true,true,false,true,true,false,false,false,false] ?_
             refine Hd.p_ HT_ 6 (some 32) #[true,true,true,false,true,true,true,false,false,false] ?_
             refine Hd.t_ HT_ HW_ hHeld 3 (some 29) #[true,true,true,true,true,true,true,false,false,false] ?_
             refine Hd.t_ HT_ HW_ hHeld 7 (some 33) #[true,true,true,true,true,true,true,true,false,false] ?_
             refine Hd.o_ HT_ 8 (some 34) #[true,true,true,true,true,true,true,true,true,false] (fun K hK => ?_)
             refine goes_ Try.func58 (by kernel_rfl) rfl #[.agg #[.int .i64 ((rd_T37 l0 x4_1).f0),.int .i64 ((rd_T37 l0 x4_1).f1),.int .i64 ((rd_T37 l0 x4_1).f2),.string ((rd_T37 l0 x4_1).f3),.slice A476_4 ((rd_T37 l0 x4_1).f4).length c476_4],.agg #[.int .i64 ((rd_T37 l0 x5_3).f0),.int .i64 ((rd_T37 l0 x5_3).f1),.int .i64 ((rd_T37 l0 x5_3).f2),.string ((rd_T37 l0 x5_3).f3),.slice A477_4 ((rd_T37 l0 x5_3).f4).length c477_4]] (by rfl) rfl rfl Hd.m_ ?_
             with_reducible refine (spec_FeaturesMeet.calls k3 ((rd_T37 l0 x4_1).f0) ((rd_T37 l0 x4_1).f1) ((rd_T37 l0 x4_1).f2) ((rd_T37 l0 x4_1).f3) _ _ ((rd_T37 l0 x4_1).f4) ((rd_T37 l0 x5_3).f0) ((rd_T37 l0 x5_3).f1) ((rd_T37 l0 x5_3).f2) ((rd_T37 l0 x5_3).f3) _ _ ((rd_T37 l0 x5_3).f4) t478 _ ?side1 ?side2 ?side3 ?side4 A13.out).mono ?_
             (case side1 => repeat (first | exact (Kd.C_below HR476_4.out HB.out) | (with_reducible refine Kd.C_alloc ?_ _) | (with_reducible refine Kd.C_drewN ?_ _) | (with_reducible refine Kd.C_drew ?_)))
             (case side2 => exact HC476_4.out)
             (case side3 => repeat (first | exact (Kd.C_below HR477_4.out HB.out) | (with_reducible refine Kd.C_alloc ?_ _) | (with_reducible refine Kd.C_drewN ?_ _) | (with_reducible refine Kd.C_drew ?_)))
             (case side4 => exact HC477_4.out)
             rintro e w16 ⟨rfl,hb⟩
             refine ⟨_,rfl,?_⟩
             replace HO_3:=Aside0.mk (Kd.R_below (Hd.r_ HO_3) hb)
             replace HB:=Aside0.mk (below_step Hd.b_ hb)
             (try clear hb)
             (try clear hb2)
             (try clear hk)
             (try clear hi)
             refine hK.out _ _ ⟨((HB.out.cell (World.block_lt_of_cell? w _ hw476_0)).trans hw476_0),((HB.out.cell (World.block_lt_of_cell? w _ hw476_1)).trans hw476_1),((HB.out.cell (World.block_lt_of_cell? w _ hw476_2)).trans hw476_2),((HB.out.cell (World.block_lt_of_cell? w _ hw476_3)).trans hw476_3),((HB.out.cell (World.block_lt_of_cell? w _ hw476_4)).trans hw476_4),((HB.out.cell (World.block_lt_of_cell? w _ hw477_0)).trans hw477_0),((HB.out.cell (World.block_lt_of_cell? w _ hw477_1)).trans hw477_1),((HB.out.cell (World.block_lt_of_cell? w _ hw477_2)).trans hw477_2),((HB.out.cell (World.block_lt_of_cell? w _ hw477_3)).trans hw477_3),((HB.out.cell (World.block_lt_of_cell? w _ hw477_4)).trans hw477_4)⟩ (fun hHeld => ?_)
             clear hK K
             refine Hd.n_ (some 34) ?_
             refine Hd.p_ HT_ 9 (some 6) #[true,true,true,true,true,true,true,true,true,true] ?_
             refine done_ (done_of HT_.out (by kernel_rfl)) ?_
             try go_wp2
             go_roundg k3
             case measure => have:=HK1.out;have:=HJ3.out;have:=HK3.out;omega
             case rel => exact ⟨(x3_3),(wrap64 (x5_3 + 1)),(by first | rfl | (simp;done) | (simp [*];done)),H',⟨by have:=HK1.out;have:=HJ3.out;have:=HK3.out;omega⟩,⟨by (with_reducible repeat (first | apply Kd.R_alloc | apply Kd.R_drewN | apply Kd.R_drew));exact HO_3.out⟩,⟨Hd.b_⟩⟩
            ·
             rw [if_neg c14] at H
             have c14b0 : (t478 == 0) = false:=beq_eq_false_iff_ne.mpr c14
             have c14b1 : (t478 != 0) = true:=bne_iff_ne.mpr c14
             by_cases c17 : x3_3.length < 5864062014805
             ·
              rw [if_pos c17] at H
              have LMc17:=Aside0.mk c17
              clear c17
              obtain ⟨y481,hy481⟩ : ∃ y_ : List (S78),y_ = (x3_3 ++ [(⟨(rd_T37 l0 x4_1).f0,(rd_T37 l0 x5_3).f0,t478⟩ : S78)]):=⟨_,rfl⟩
              replace H : (spec_MeetsOf.l1 k3 l0 y481 x4_1 (wrap64 (x5_3 + 1))) = some r:=by first | (rw [hy481];with_reducible exact H) | (have H2_:=(Option.bind_some _ _).symm.trans H;rw [hy481];with_reducible exact H2_) | (have H2_:=(Option.bind_some _ _).symm.trans H;with_reducible exact H2_) | with_reducible exact H | (rw [hy481];exact H) | exact H
              have Ny481:=Aside0.mk hy481
              clear hy481
              have H':=Aside0.mk H
              clear H
              try go_wp2
              replace HO_3:=Aside0.mk (Kd.R_drew HO_3.out)
              replace HB:=Aside0.mk (below_drew1 HB.out)
              have p476 : 0 ≤ (x4_1 : Int):=of_decide_eq_true Hd.a_
              have q476 : x4_1 < (l0.length : Int):=of_decide_eq_true Hd.a_
              obtain ⟨ad476,A476_4,c476_4,e476,hx476_0,hx476_1,hx476_2,hx476_3,hx476_4,hl476_4,hi476_4⟩:=at_T37 HR0.out x4_1 p476 q476
              have hw476_4:=hx476_4
              have hw476_3:=hx476_3
              have hw476_2:=hx476_2
              have hw476_1:=hx476_1
              have hw476_0:=hx476_0
              cases e476
              replace hx476_0:=(HB.out.cell (World.block_lt_of_cell? w _ hx476_0)).trans hx476_0
              replace hx476_1:=(HB.out.cell (World.block_lt_of_cell? w _ hx476_1)).trans hx476_1
              replace hx476_2:=(HB.out.cell (World.block_lt_of_cell? w _ hx476_2)).trans hx476_2
              replace hx476_3:=(HB.out.cell (World.block_lt_of_cell? w _ hx476_3)).trans hx476_3
              replace hx476_4:=(HB.out.cell (World.block_lt_of_cell? w _ hx476_4)).trans hx476_4
              have HR476_4:=Aside0.mk hi476_4
              have HC476_4:=Aside0.mk hl476_4
              clear hi476_4 hl476_4
              replace p476:=eq_true p476
              replace q476:=eq_true q476
              have p477 : 0 ≤ (x5_3 : Int):=of_decide_eq_true Hd.a_
              have q477 : x5_3 < (l0.length : Int):=of_decide_eq_true Hd.a_
              obtain ⟨ad477,A477_4,c477_4,e477,hx477_0,hx477_1,hx477_2,hx477_3,hx477_4,hl477_4,hi477_4⟩:=at_T37 HR0.out x5_3 p477 q477
              have hw477_4:=hx477_4
              have hw477_3:=hx477_3
              have hw477_2:=hx477_2
              have hw477_1:=hx477_1
              have hw477_0:=hx477_0
              obtain rfl : ad476 = ad477:=(by injection e477)
              replace hx477_0:=(HB.out.cell (World.block_lt_of_cell? w _ hx477_0)).trans hx477_0
              replace hx477_1:=(HB.out.cell (World.block_lt_of_cell? w _ hx477_1)).trans hx477_1
              replace hx477_2:=(HB.out.cell (World.block_lt_of_cell? w _ hx477_2)).trans hx477_2
              replace hx477_3:=(HB.out.cell (World.block_lt_of_cell? w _ hx477_3)).trans hx477_3
              replace hx477_4:=(HB.out.cell (World.block_lt_of_cell? w _ hx477_4)).trans hx477_4
              have HR477_4:=Aside0.mk hi477_4
              have HC477_4:=Aside0.mk hl477_4
              clear hi477_4 hl477_4
              replace p477:=eq_true p477
              replace q477:=eq_true q477
              refine start_ (n:=10) (S:=fun w' => w'.cell? (ad476.add ((x4_1).toNat * 5)) = some (.int .i64 ((rd_T37 l0 x4_1).f0)) ∧ w'.cell? ⟨(ad476.add ((x4_1).toNat * 5)).block,(ad476.add ((x4_1).toNat * 5)).off + 1,none⟩ = some (.int .i64 ((rd_T37 l0 x4_1).f1)) ∧ w'.cell? ⟨(ad476.add ((x4_1).toNat * 5)).block,(ad476.add ((x4_1).toNat * 5)).off + 2,none⟩ = some (.int .i64 ((rd_T37 l0 x4_1).f2)) ∧ w'.cell? ⟨(ad476.add ((x4_1).toNat * 5)).block,(ad476.add ((x4_1).toNat * 5)).off + 3,none⟩ = some (.string ((rd_T37 l0 x4_1).f3)) ∧ w'.cell? ⟨(ad476.add ((x4_1).toNat * 5)).block,(ad476.add ((x4_1).toNat * 5)).off + 4,none⟩ = some (.slice A476_4 ((rd_T37 l0 x4_1).f4).length c476_4) ∧ w'.cell? (ad476.add ((x5_3).toNat * 5)) = some (.int .i64 ((rd_T37 l0 x5_3).f0)) ∧ w'.cell? ⟨(ad476.add ((x5_3).toNat * 5)).block,(ad476.add ((x5_3).toNat * 5)).off + 1,none⟩ = some (.int .i64 ((rd_T37 l0 x5_3).f1)) ∧ w'.cell? ⟨(ad476.add ((x5_3).toNat * 5)).block,(ad476.add ((x5_3).toNat * 5)).off + 2,none⟩ = some (.int .i64 ((rd_T37 l0 x5_3).f2)) ∧ w'.cell? ⟨(ad476.add ((x5_3).toNat * 5)).block,(ad476.add ((x5_3).toNat * 5)).off + 3,none⟩ = some (.string ((rd_T37 l0 x5_3).f3)) ∧ w'.cell? ⟨(ad476.add ((x5_3).toNat * 5)).block,(ad476.add ((x5_3).toNat * 5)).off + 4,none⟩ = some (.slice A477_4 ((rd_T37 l0 x5_3).f4).length c477_4)) (ds:=[]) #[false,false,false,false,false,false,false,false,false,false] (by kernel_rfl) rfl rfl ⟨((HB.out.cell (World.block_lt_of_cell? w _ hw476_0)).trans hw476_0),((HB.out.cell (World.block_lt_of_cell? w _ hw476_1)).trans hw476_1),((HB.out.cell (World.block_lt_of_cell? w _ hw476_2)).trans hw476_2),((HB.out.cell (World.block_lt_of_cell? w _ hw476_3)).trans hw476_3),((HB.out.cell (World.block_lt_of_cell? w _ hw476_4)).trans hw476_4),((HB.out.cell (World.block_lt_of_cell? w _ hw477_0)).trans hw477_0),((HB.out.cell (World.block_lt_of_cell? w _ hw477_1)).trans hw477_1),((HB.out.cell (World.block_lt_of_cell? w _ hw477_2)).trans hw477_2),((HB.out.cell (World.block_lt_of_cell? w _ hw477_3)).trans hw477_3),((HB.out.cell (World.block_lt_of_cell? w _ hw477_4)).trans hw477_4)⟩ (fun hHeld => ?_);refine with_tabW spec_MeetsOf.tab8 spec_MeetsOf.bits8 (fun HT_ HW_ => ?_)
              generalize wr.drew = w18 at HO_3 HB HR476_4 HR477_4 hx476_0 hx476_1 hx476_2 hx476_3 hx476_4 hx477_0 hx477_1 hx477_2 hx477_3 hx477_4 hHeld ⊢
              refine Hd.p_ HT_ 0 (some 26) #[true,false,false,false,false,false,false,false,false,false] ?_
              refine Hd.p_ HT_ 1 (some 27) #[true,true,false,false,false,false,false,false,false,false] ?_
              refine Hd.p_ HT_ 2 (some 28) #[true,true,true,false,false,false,false,false,false,false] ?_
              refine Hd.p_ HT_ 4 (some 30) #[true,true,true,false,true,false,false,false,false,false] ?_
              refine Hd.p_ HT_ 5 (some 31) #[true,true,true,false,true,true,false,false,false,false] ?_
              refine Hd.p_ HT_ 6 (some 32) #[true,true,true,false,true,true,true,false,false,false] ?_
              refine Hd.t_ HT_ HW_ hHeld 3 (some 29) #[true,true,true,true,true,true,true,false,false,false] ?_
              refine Hd.t_ HT_ HW_ hHeld 7 (some 33) #[true,true,true,true,true,true,true,true,false,false] ?_
              refine Hd.o_ HT_ 8 (some 34) #[true,true,true,true,true,true,true,true,true,false] (fun K hK => ?_)
              refine goes_ Try.func58 (by kernel_rfl) rfl #[.agg #[.int .i64 ((rd_T37 l0 x4_1).f0),.int .i64 ((rd_T37 l0 x4_1).f1),.int .i64 ((rd_T37 l0 x4_1).f2),.string ((rd_T37 l0 x4_1).f3),.slice A476_4 ((rd_T37 l0 x4_1).f4).length c476_4],.agg #[.int .i64 ((rd_T37 l0 x5_3).f0),.int .i64 ((rd_T37 l0 x5_3).f1),.int .i64 ((rd_T37 l0 x5_3).f2),.string ((rd_T37 l0 x5_3).f3),.slice A477_4 ((rd_T37 l0 x5_3).f4).length c477_4]] (by rfl) rfl rfl Hd.m_ ?_
              with_reducible refine (spec_FeaturesMeet.calls k3 ((rd_T37 l0 x4_1).f0) ((rd_T37 l0 x4_1).f1) ((rd_T37 l0 x4_1).f2) ((rd_T37 l0 x4_1).f3) _ _ ((rd_T37 l0 x4_1).f4) ((rd_T37 l0 x5_3).f0) ((rd_T37 l0 x5_3).f1) ((rd_T37 l0 x5_3).f2) ((rd_T37 l0 x5_3).f3) _ _ ((rd_T37 l0 x5_3).f4) t478 _ ?side1 ?side2 ?side3 ?side4 A13.out).mono ?_
              (case side1 => repeat (first | exact (Kd.C_below HR476_4.out HB.out) | (with_reducible refine Kd.C_alloc ?_ _) | (with_reducible refine Kd.C_drewN ?_ _) | (with_reducible refine Kd.C_drew ?_)))
              (case side2 => exact HC476_4.out)
              (case side3 => repeat (first | exact (Kd.C_below HR477_4.out HB.out) | (with_reducible refine Kd.C_alloc ?_ _) | (with_reducible refine Kd.C_drewN ?_ _) | (with_reducible refine Kd.C_drew ?_)))
              (case side4 => exact HC477_4.out)
              rintro e w19 ⟨rfl,hb⟩
              refine ⟨_,rfl,?_⟩
              replace HO_3:=Aside0.mk (Kd.R_below (Hd.r_ HO_3) hb)
              replace HB:=Aside0.mk (below_step Hd.b_ hb)
              (try clear hb)
              (try clear hb2)
              (try clear hk)
              (try clear hi)
              refine hK.out _ _ ⟨((HB.out.cell (World.block_lt_of_cell? w _ hw476_0)).trans hw476_0),((HB.out.cell (World.block_lt_of_cell? w _ hw476_1)).trans hw476_1),((HB.out.cell (World.block_lt_of_cell? w _ hw476_2)).trans hw476_2),((HB.out.cell (World.block_lt_of_cell? w _ hw476_3)).trans hw476_3),((HB.out.cell (World.block_lt_of_cell? w _ hw476_4)).trans hw476_4),((HB.out.cell (World.block_lt_of_cell? w _ hw477_0)).trans hw477_0),((HB.out.cell (World.block_lt_of_cell? w _ hw477_1)).trans hw477_1),((HB.out.cell (World.block_lt_of_cell? w _ hw477_2)).trans hw477_2),((HB.out.cell (World.block_lt_of_cell? w _ hw477_3)).trans hw477_3),((HB.out.cell (World.block_lt_of_cell? w _ hw477_4)).trans hw477_4)⟩ (fun hHeld => ?_)
              clear hK K
              refine Hd.n_ (some 34) ?_
              refine Hd.p_ HT_ 9 (some 6) #[true,true,true,true,true,true,true,true,true,true] ?_
              refine done_ (done_of HT_.out (by kernel_rfl)) ?_
              try go_wp2
              replace HO_3:=Aside0.mk (Kd.R_drew HO_3.out)
              replace HB:=Aside0.mk (below_drew1 HB.out)
              have p479 : 0 ≤ (x4_1 : Int):=of_decide_eq_true Hd.a_
              have q479 : x4_1 < (l0.length : Int):=of_decide_eq_true Hd.a_
              obtain ⟨ad479,A479_4,c479_4,e479,hx479_0,hx479_1,hx479_2,hx479_3,hx479_4,hl479_4,hi479_4⟩:=at_T37 HR0.out x4_1 p479 q479
              have hw479_4:=hx479_4
              have hw479_3:=hx479_3
              have hw479_2:=hx479_2
              have hw479_1:=hx479_1
              have hw479_0:=hx479_0
              obtain rfl : ad476 = ad479:=(by injection e479)
              replace hx479_0:=(HB.out.cell (World.block_lt_of_cell? w _ hx479_0)).trans hx479_0
              replace hx479_1:=(HB.out.cell (World.block_lt_of_cell? w _ hx479_1)).trans hx479_1
              replace hx479_2:=(HB.out.cell (World.block_lt_of_cell? w _ hx479_2)).trans hx479_2
              replace hx479_3:=(HB.out.cell (World.block_lt_of_cell? w _ hx479_3)).trans hx479_3
              replace hx479_4:=(HB.out.cell (World.block_lt_of_cell? w _ hx479_4)).trans hx479_4
              have HR479_4:=Aside0.mk hi479_4
              have HC479_4:=Aside0.mk hl479_4
              clear hi479_4 hl479_4
              replace p479:=eq_true p479
              replace q479:=eq_true q479
              have p480 : 0 ≤ (x5_3 : Int):=of_decide_eq_true Hd.a_
              have q480 : x5_3 < (l0.length : Int):=of_decide_eq_true Hd.a_
              obtain ⟨ad480,A480_4,c480_4,e480,hx480_0,hx480_1,hx480_2,hx480_3,hx480_4,hl480_4,hi480_4⟩:=at_T37 HR0.out x5_3 p480 q480
              have hw480_4:=hx480_4
              have hw480_3:=hx480_3
              have hw480_2:=hx480_2
              have hw480_1:=hx480_1
              have hw480_0:=hx480_0
              obtain rfl : ad476 = ad480:=(by injection e480)
              replace hx480_0:=(HB.out.cell (World.block_lt_of_cell? w _ hx480_0)).trans hx480_0
              replace hx480_1:=(HB.out.cell (World.block_lt_of_cell? w _ hx480_1)).trans hx480_1
              replace hx480_2:=(HB.out.cell (World.block_lt_of_cell? w _ hx480_2)).trans hx480_2
              replace hx480_3:=(HB.out.cell (World.block_lt_of_cell? w _ hx480_3)).trans hx480_3
              replace hx480_4:=(HB.out.cell (World.block_lt_of_cell? w _ hx480_4)).trans hx480_4
              have HR480_4:=Aside0.mk hi480_4
              have HC480_4:=Aside0.mk hl480_4
              clear hi480_4 hl480_4
              replace p480:=eq_true p480
              replace q480:=eq_true q480
              refine start_ (n:=16) (S:=fun w' => w'.cell? (ad476.add ((x4_1).toNat * 5)) = some (.int .i64 ((rd_T37 l0 x4_1).f0)) ∧ w'.cell? ⟨(ad476.add ((x4_1).toNat * 5)).block,(ad476.add ((x4_1).toNat * 5)).off + 1,none⟩ = some (.int .i64 ((rd_T37 l0 x4_1).f1)) ∧ w'.cell? ⟨(ad476.add ((x4_1).toNat * 5)).block,(ad476.add ((x4_1).toNat * 5)).off + 2,none⟩ = some (.int .i64 ((rd_T37 l0 x4_1).f2)) ∧ w'.cell? ⟨(ad476.add ((x4_1).toNat * 5)).block,(ad476.add ((x4_1).toNat * 5)).off + 3,none⟩ = some (.string ((rd_T37 l0 x4_1).f3)) ∧ w'.cell? ⟨(ad476.add ((x4_1).toNat * 5)).block,(ad476.add ((x4_1).toNat * 5)).off + 4,none⟩ = some (.slice A479_4 ((rd_T37 l0 x4_1).f4).length c479_4) ∧ w'.cell? (ad476.add ((x5_3).toNat * 5)) = some (.int .i64 ((rd_T37 l0 x5_3).f0)) ∧ w'.cell? ⟨(ad476.add ((x5_3).toNat * 5)).block,(ad476.add ((x5_3).toNat * 5)).off + 1,none⟩ = some (.int .i64 ((rd_T37 l0 x5_3).f1)) ∧ w'.cell? ⟨(ad476.add ((x5_3).toNat * 5)).block,(ad476.add ((x5_3).toNat * 5)).off + 2,none⟩ = some (.int .i64 ((rd_T37 l0 x5_3).f2)) ∧ w'.cell? ⟨(ad476.add ((x5_3).toNat * 5)).block,(ad476.add ((x5_3).toNat * 5)).off + 3,none⟩ = some (.string ((rd_T37 l0 x5_3).f3)) ∧ w'.cell? ⟨(ad476.add ((x5_3).toNat * 5)).block,(ad476.add ((x5_3).toNat * 5)).off + 4,none⟩ = some (.slice A480_4 ((rd_T37 l0 x5_3).f4).length c480_4)) (ds:=[]) #[false,false,false,false,false,false,false,false,false,false,false,false,false,false,false,false] (by kernel_rfl) rfl rfl ⟨((HB.out.cell (World.block_lt_of_cell? w _ hw479_0)).trans hw479_0),((HB.out.cell (World.block_lt_of_cell? w _ hw479_1)).trans hw479_1),((HB.out.cell (World.block_lt_of_cell? w _ hw479_2)).trans hw479_2),((HB.out.cell (World.block_lt_of_cell? w _ hw479_3)).trans hw479_3),((HB.out.cell (World.block_lt_of_cell? w _ hw479_4)).trans hw479_4),((HB.out.cell (World.block_lt_of_cell? w _ hw480_0)).trans hw480_0),((HB.out.cell (World.block_lt_of_cell? w _ hw480_1)).trans hw480_1),((HB.out.cell (World.block_lt_of_cell? w _ hw480_2)).trans hw480_2),((HB.out.cell (World.block_lt_of_cell? w _ hw480_3)).trans hw480_3),((HB.out.cell (World.block_lt_of_cell? w _ hw480_4)).trans hw480_4)⟩ (fun hHeld => ?_);refine with_tabW spec_MeetsOf.tab10 spec_MeetsOf.bits10 (fun HT_ HW_ => ?_)
              generalize w19.drew = w20 at HO_3 HB HR479_4 HR480_4 hx479_0 hx479_1 hx479_2 hx479_3 hx479_4 hx480_0 hx480_1 hx480_2 hx480_3 hx480_4 hHeld ⊢
              refine Hd.p_ HT_ 0 (some 37) #[true,false,false,false,false,false,false,false,false,false,false,false,false,false,false,false] ?_
              refine Hd.p_ HT_ 1 (some 38) #[true,true,false,false,false,false,false,false,false,false,false,false,false,false,false,false] ?_
              refine Hd.p_ HT_ 2 (some 39) #[true,true,true,false,false,false,false,false,false,false,false,false,false,false,false,false] ?_
              refine Hd.p_ HT_ 3 (some 40) #[true,true,true,true,false,false,false,false,false,false,false,false,false,false,false,false] ?_
              refine Hd.p_ HT_ 4 (some 41) #[true,true,true,true,true,false,false,false,false,false,false,false,false,false,false,false] ?_
              refine Hd.p_ HT_ 6 (some 43) #[true,true,true,true,true,false,true,false,false,false,false,false,false,false,false,false] ?_
              refine Hd.p_ HT_ 7 (some 44) #[true,true,true,true,true,false,true,true,false,false,false,false,false,false,false,false] ?_
              refine Hd.p_ HT_ 8 (some 45) #[true,true,true,true,true,false,true,true,true,false,false,false,false,false,false,false] ?_
              refine Hd.p_ HT_ 9 (some 46) #[true,true,true,true,true,false,true,true,true,true,false,false,false,false,false,false] ?_
              refine Hd.p_ HT_ 11 (some 48) #[true,true,true,true,true,false,true,true,true,true,false,true,false,false,false,false] ?_
              refine Hd.t_ HT_ HW_ hHeld 5 (some 42) #[true,true,true,true,true,true,true,true,true,true,false,true,false,false,false,false] ?_
              refine Hd.t_ HT_ HW_ hHeld 10 (some 47) #[true,true,true,true,true,true,true,true,true,true,true,true,false,false,false,false] ?_
              refine Hd.p_ HT_ 12 (some 49) #[true,true,true,true,true,true,true,true,true,true,true,true,true,false,false,false] ?_
              refine Hd.o_ HT_ 13 (some 50) #[true,true,true,true,true,true,true,true,true,true,true,true,true,true,false,false] (fun K hK => ?_)
              refine value_ (w1:=?_) (v:=?_) (by rfl) rfl ?_ ?_
              rotate_left 2
              ·
               go_simp
               constructor
               ·
                rfl
               ·
                rfl
              refine hK.out _ _ ⟨(World.cell?_alloc_lt _ _ _ (World.block_lt_of_cell? _ _ (((HB.out.cell (World.block_lt_of_cell? w _ hw479_0)).trans hw479_0)))).trans (((HB.out.cell (World.block_lt_of_cell? w _ hw479_0)).trans hw479_0)),(World.cell?_alloc_lt _ _ _ (World.block_lt_of_cell? _ _ (((HB.out.cell (World.block_lt_of_cell? w _ hw479_1)).trans hw479_1)))).trans (((HB.out.cell (World.block_lt_of_cell? w _ hw479_1)).trans hw479_1)),(World.cell?_alloc_lt _ _ _ (World.block_lt_of_cell? _ _ (((HB.out.cell (World.block_lt_of_cell? w _ hw479_2)).trans hw479_2)))).trans (((HB.out.cell (World.block_lt_of_cell? w _ hw479_2)).trans hw479_2)),(World.cell?_alloc_lt _ _ _ (World.block_lt_of_cell? _ _ (((HB.out.cell (World.block_lt_of_cell? w _ hw479_3)).trans hw479_3)))).trans (((HB.out.cell (World.block_lt_of_cell? w _ hw479_3)).trans hw479_3)),(World.cell?_alloc_lt _ _ _ (World.block_lt_of_cell? _ _ (((HB.out.cell (World.block_lt_of_cell? w _ hw479_4)).trans hw479_4)))).trans (((HB.out.cell (World.block_lt_of_cell? w _ hw479_4)).trans hw479_4)),(World.cell?_alloc_lt _ _ _ (World.block_lt_of_cell? _ _ (((HB.out.cell (World.block_lt_of_cell? w _ hw480_0)).trans hw480_0)))).trans (((HB.out.cell (World.block_lt_of_cell? w _ hw480_0)).trans hw480_0)),(World.cell?_alloc_lt _ _ _ (World.block_lt_of_cell? _ _ (((HB.out.cell (World.block_lt_of_cell? w _ hw480_1)).trans hw480_1)))).trans (((HB.out.cell (World.block_lt_of_cell? w _ hw480_1)).trans hw480_1)),(World.cell?_alloc_lt _ _ _ (World.block_lt_of_cell? _ _ (((HB.out.cell (World.block_lt_of_cell? w _ hw480_2)).trans hw480_2)))).trans (((HB.out.cell (World.block_lt_of_cell? w _ hw480_2)).trans hw480_2)),(World.cell?_alloc_lt _ _ _ (World.block_lt_of_cell? _ _ (((HB.out.cell (World.block_lt_of_cell? w _ hw480_3)).trans hw480_3)))).trans (((HB.out.cell (World.block_lt_of_cell? w _ hw480_3)).trans hw480_3)),(World.cell?_alloc_lt _ _ _ (World.block_lt_of_cell? _ _ (((HB.out.cell (World.block_lt_of_cell? w _ hw480_4)).trans hw480_4)))).trans (((HB.out.cell (World.block_lt_of_cell? w _ hw480_4)).trans hw480_4))⟩ (fun hHeld => ?_)
              clear hK K
              refine Hd.n_ (some 50) ?_
              refine Hd.o_ HT_ 14 (some 51) #[true,true,true,true,true,true,true,true,true,true,true,true,true,true,true,false] (fun K hK => ?_)
              refine Kd.R_append_step k78 (w0:=w) w.heap.size (by rfl) (.tmp 37) (.tmp 50) 42 78 (.agg #[(.int .i64 0),(.int .i64 0),(.int .i64 0)]) 24 rfl Try.underlying42 info78 rfl (by decide) (by omega) u3 x3_3 (⟨(rd_T37 l0 x4_1).f0,(rd_T37 l0 x5_3).f0,t478⟩ : S78) [.int .i64 ((rd_T37 l0 x4_1).f0),.int .i64 ((rd_T37 l0 x5_3).f0),.int .i64 t478] (fun _ => True) (fun _ => False) rfl rfl ?aP (fun _ hk => hk.elim) ?aF ?aO ?aB ?aS ?aL ?_
              (case aP => exact k78_mkM _ _ _ (⟨(rd_T37 l0 x4_1).f0,(rd_T37 l0 x5_3).f0,t478⟩ : S78))
              (case aB => exact Hd.b_)
              (case aF => exact (fun _ _ => trivial))
              (case aO => exact (Hd.r_ HO_3))
              (case aS => exact (below_size Hd.b_))
              (case aL => have:=LMc17.out;omega)
              intro v482 w21 ho hb hg hat
              rw [← Ny481.out] at ho
              have n0_:=Aside0.mk (hb)
              have n1_:=Aside0.mk (ho)
              clear HB
              clear HO_3
              have HB:=n0_
              have HO483:=n1_
              clear n0_ n1_
              clear ho hb hg hat
              refine hK.out _ _ ⟨((HB.out.cell (World.block_lt_of_cell? w _ hw479_0)).trans hw479_0),((HB.out.cell (World.block_lt_of_cell? w _ hw479_1)).trans hw479_1),((HB.out.cell (World.block_lt_of_cell? w _ hw479_2)).trans hw479_2),((HB.out.cell (World.block_lt_of_cell? w _ hw479_3)).trans hw479_3),((HB.out.cell (World.block_lt_of_cell? w _ hw479_4)).trans hw479_4),((HB.out.cell (World.block_lt_of_cell? w _ hw480_0)).trans hw480_0),((HB.out.cell (World.block_lt_of_cell? w _ hw480_1)).trans hw480_1),((HB.out.cell (World.block_lt_of_cell? w _ hw480_2)).trans hw480_2),((HB.out.cell (World.block_lt_of_cell? w _ hw480_3)).trans hw480_3),((HB.out.cell (World.block_lt_of_cell? w _ hw480_4)).trans hw480_4)⟩ (fun hHeld => ?_)
              clear hK K
              refine Hd.n_ (some 51) ?_
              refine Hd.p_ HT_ 15 (some 3) #[true,true,true,true,true,true,true,true,true,true,true,true,true,true,true,true] ?_
              refine done_ (done_of HT_.out (by kernel_rfl)) ?_
              try go_wp2
              go_roundg k3
              case measure => have:=HK1.out;have:=HJ3.out;have:=HK3.out;omega
              case rel => exact ⟨(y481),(wrap64 (x5_3 + 1)),(by first | rfl | (simp;done) | (simp [*];done)),H',⟨by have:=HK1.out;have:=HJ3.out;have:=HK3.out;omega⟩,⟨by (with_reducible repeat (first | apply Kd.R_alloc | apply Kd.R_drewN | apply Kd.R_drew));exact HO483.out⟩,⟨Hd.b_⟩⟩
             ·
              rw [if_neg c17] at H
              exact absurd H (by simp)
           ·
            rw [if_neg c12] at H
            exact absurd H (by simp)
          ·
           rw [if_neg c11] at H
           exact absurd H (by simp)
         ·
          rw [if_neg c10] at H
          exact absurd H (by simp)
        ·
         rw [if_neg c9] at H
         have c9b0 : decide (x5_3 < (l0.length : Int)) = false:=decide_eq_false c9
         clear c9
         have H':=Aside0.mk H
         clear H
         go_wp2
         go_roundg k3
         case measure => have:=HK1.out;have:=HJ3.out;have:=HK3.out;omega
         case rel => exact ⟨(x3_3),(wrap64 (x4_1 + 1)),(by first | rfl | (simp;done) | (simp [*];done)),H',⟨by have:=HK1.out;have:=HJ3.out;have:=HK3.out;omega⟩,⟨by (with_reducible repeat (first | apply Kd.R_alloc | apply Kd.R_drewN | apply Kd.R_drew));exact HO_3.out⟩,⟨Hd.b_⟩⟩
     ·
      replace c8:=Bool.eq_false_iff.mpr c8
      subst c8
      have H1 : (some x3_1) = some r:=by rw [if_neg (show ¬ (false = true) by decide)] at H;exact H
      clear H
      have H:=H1
      clear H1
      obtain rfl:=Option.some.inj H
      go_wp2
      go_ret
      exact ⟨_,Hd.e_,by (with_reducible repeat (first | apply Kd.R_alloc | apply Kd.R_drewN | apply Kd.R_drew));exact HO_3.out,Hd.b_⟩
def laws_eqMeet.f (a0_0 : Int) (a0_1 : Int) (a0_2 : Int) (a1_0 : Int) (a1_1 : Int) (a1_2 : Int) : Option (Bool):=if a0_0 = a1_0 then (if a0_1 = a1_1 then (if a0_2 = a1_2 then (some true) else (some false)) else (some false)) else (some false)
set_option maxHeartbeats 8000000 in
set_option maxRecDepth 100000 in
theorem laws_eqMeet.calls (a0_0 : Int) (a0_1 : Int) (a0_2 : Int) (a1_0 : Int) (a1_1 : Int) (a1_2 : Int) (r : Bool) (w : World) (h : laws_eqMeet.f a0_0 a0_1 a0_2 a1_0 a1_1 a1_2 = some r) :
  Calls Try.prog 59 #[.agg #[.int .i64 a0_0,.int .i64 a0_1,.int .i64 a0_2],.agg #[.int .i64 a1_0,.int .i64 a1_1,.int .i64 a1_2]] w fun e w' => e = .returned (.bool r) ∧ Below w.heap.size w w':=by
 have hu78:=Try.underlying78
 have HB:=Aside0.mk (Below.refl w.heap.size w)
 have H : (if a0_0 = a1_0 then (if a0_1 = a1_1 then (if a0_2 = a1_2 then (some true) else (some false)) else (some false)) else (some false)) = some r:=h
 clear h
 by_cases c3 : a0_0 = a1_0
 ·
  rw [if_pos c3] at H
  have c3b0 : (a0_0 == a1_0) = true:=beq_iff_eq.mpr c3
  have c3b1 : (a0_0 != a1_0) = false:=bne_eq_false_iff_eq.mpr c3
  clear c3
  by_cases c4 : a0_1 = a1_1
  ·
   rw [if_pos c4] at H
   have c4b0 : (a0_1 == a1_1) = true:=beq_iff_eq.mpr c4
   have c4b1 : (a0_1 != a1_1) = false:=bne_eq_false_iff_eq.mpr c4
   clear c4
   by_cases c5 : a0_2 = a1_2
   ·
    rw [if_pos c5] at H
    have c5b0 : (a0_2 == a1_2) = true:=beq_iff_eq.mpr c5
    have c5b1 : (a0_2 != a1_2) = false:=bne_eq_false_iff_eq.mpr c5
    clear c5
    obtain rfl:=Option.some.inj H
    go_enter Try.func59,Try.ntmps59
    go_wp2_with (first | ((with_reducible refine gate_dst (N:=2) rfl ?_);refine Hd.box_ 2 (#[.int .i64 a0_0,.int .i64 a0_1,.int .i64 a0_2]) 78 ?_;intro gb484 hg w6 hbox hb;have BK484:=Aside0.mk (hbox);have GW484:=Aside0.mk ((Hd.g_ hg Hd.b_ : w.heap.size ≤ gb484));have GE484:=Aside0.mk ((Hd.g_ hg Hd.b_ : w.heap.size ≤ gb484));replace HB:=Aside0.mk (below_step Hd.b_ hb);clear hb hbox hg) | ((with_reducible refine gate_dst (N:=3) rfl ?_);refine Hd.box_ 3 (#[.int .i64 a1_0,.int .i64 a1_1,.int .i64 a1_2]) 78 ?_;intro gb485 hg w7 hbox hb;have BK485:=Aside0.mk (hbox);have GW485:=Aside0.mk ((Hd.g_ hg Hd.b_ : w.heap.size ≤ gb485));have GE485:=Aside0.mk ((Hd.g_ hg Hd.b_ : w.heap.size ≤ gb485));replace HB:=Aside0.mk (below_step Hd.b_ hb);have NB484_485:=Aside0.mk ((Hd.lt_ BK484 hg));have NB485_484:=Aside0.mk ((Hd.gt_ BK484 hg));replace BK484:=Aside0.mk (Hd.kb_ BK484 hb);clear hb hbox hg;have hnb8:=NB484_485.out;have hnc8:=NB485_484.out;obtain ⟨hcz9_0,hcz9_1,hcz9_2⟩:=Hd.c3_ BK484.out;obtain ⟨hfz9_0,hfz9_1,hfz9_2⟩:=Hd.f3_ BK484.out;obtain ⟨hcz10_0,hcz10_1,hcz10_2⟩:=Hd.c3_ BK485.out;obtain ⟨hfz10_0,hfz10_1,hfz10_2⟩:=Hd.f3_ BK485.out))
    go_ret
    exact ⟨Hd.e_,Hd.b_⟩
   ·
    rw [if_neg c5] at H
    have c5b0 : (a0_2 == a1_2) = false:=beq_eq_false_iff_ne.mpr c5
    have c5b1 : (a0_2 != a1_2) = true:=bne_iff_ne.mpr c5
    obtain rfl:=Option.some.inj H
    go_enter Try.func59,Try.ntmps59
    go_wp2_with (first | ((with_reducible refine gate_dst (N:=2) rfl ?_);refine Hd.box_ 2 (#[.int .i64 a0_0,.int .i64 a0_1,.int .i64 a0_2]) 78 ?_;intro gb484 hg w11 hbox hb;have BK484:=Aside0.mk (hbox);have GW484:=Aside0.mk ((Hd.g_ hg Hd.b_ : w.heap.size ≤ gb484));have GE484:=Aside0.mk ((Hd.g_ hg Hd.b_ : w.heap.size ≤ gb484));replace HB:=Aside0.mk (below_step Hd.b_ hb);clear hb hbox hg) | ((with_reducible refine gate_dst (N:=3) rfl ?_);refine Hd.box_ 3 (#[.int .i64 a1_0,.int .i64 a1_1,.int .i64 a1_2]) 78 ?_;intro gb485 hg w12 hbox hb;have BK485:=Aside0.mk (hbox);have GW485:=Aside0.mk ((Hd.g_ hg Hd.b_ : w.heap.size ≤ gb485));have GE485:=Aside0.mk ((Hd.g_ hg Hd.b_ : w.heap.size ≤ gb485));replace HB:=Aside0.mk (below_step Hd.b_ hb);have NB484_485:=Aside0.mk ((Hd.lt_ BK484 hg));have NB485_484:=Aside0.mk ((Hd.gt_ BK484 hg));replace BK484:=Aside0.mk (Hd.kb_ BK484 hb);clear hb hbox hg;have hnb13:=NB484_485.out;have hnc13:=NB485_484.out;obtain ⟨hcz14_0,hcz14_1,hcz14_2⟩:=Hd.c3_ BK484.out;obtain ⟨hfz14_0,hfz14_1,hfz14_2⟩:=Hd.f3_ BK484.out;obtain ⟨hcz15_0,hcz15_1,hcz15_2⟩:=Hd.c3_ BK485.out;obtain ⟨hfz15_0,hfz15_1,hfz15_2⟩:=Hd.f3_ BK485.out))
    go_ret
    exact ⟨Hd.e_,Hd.b_⟩
  ·
   rw [if_neg c4] at H
   have c4b0 : (a0_1 == a1_1) = false:=beq_eq_false_iff_ne.mpr c4
   have c4b1 : (a0_1 != a1_1) = true:=bne_iff_ne.mpr c4
   obtain rfl:=Option.some.inj H
   go_enter Try.func59,Try.ntmps59
   go_wp2_with (first | ((with_reducible refine gate_dst (N:=2) rfl ?_);refine Hd.box_ 2 (#[.int .i64 a0_0,.int .i64 a0_1,.int .i64 a0_2]) 78 ?_;intro gb484 hg w16 hbox hb;have BK484:=Aside0.mk (hbox);have GW484:=Aside0.mk ((Hd.g_ hg Hd.b_ : w.heap.size ≤ gb484));have GE484:=Aside0.mk ((Hd.g_ hg Hd.b_ : w.heap.size ≤ gb484));replace HB:=Aside0.mk (below_step Hd.b_ hb);clear hb hbox hg) | ((with_reducible refine gate_dst (N:=3) rfl ?_);refine Hd.box_ 3 (#[.int .i64 a1_0,.int .i64 a1_1,.int .i64 a1_2]) 78 ?_;intro gb485 hg w17 hbox hb;have BK485:=Aside0.mk (hbox);have GW485:=Aside0.mk ((Hd.g_ hg Hd.b_ : w.heap.size ≤ gb485));have GE485:=Aside0.mk ((Hd.g_ hg Hd.b_ : w.heap.size ≤ gb485));replace HB:=Aside0.mk (below_step Hd.b_ hb);have NB484_485:=Aside0.mk ((Hd.lt_ BK484 hg));have NB485_484:=Aside0.mk ((Hd.gt_ BK484 hg));replace BK484:=Aside0.mk (Hd.kb_ BK484 hb);clear hb hbox hg;have hnb18:=NB484_485.out;have hnc18:=NB485_484.out;obtain ⟨hcz19_0,hcz19_1,hcz19_2⟩:=Hd.c3_ BK484.out;obtain ⟨hfz19_0,hfz19_1,hfz19_2⟩:=Hd.f3_ BK484.out;obtain ⟨hcz20_0,hcz20_1,hcz20_2⟩:=Hd.c3_ BK485.out;obtain ⟨hfz20_0,hfz20_1,hfz20_2⟩:=Hd.f3_ BK485.out))
   go_ret
   exact ⟨Hd.e_,Hd.b_⟩
 ·
  rw [if_neg c3] at H
  have c3b0 : (a0_0 == a1_0) = false:=beq_eq_false_iff_ne.mpr c3
  have c3b1 : (a0_0 != a1_0) = true:=bne_iff_ne.mpr c3
  obtain rfl:=Option.some.inj H
  go_enter Try.func59,Try.ntmps59
  go_wp2_with (first | ((with_reducible refine gate_dst (N:=2) rfl ?_);refine Hd.box_ 2 (#[.int .i64 a0_0,.int .i64 a0_1,.int .i64 a0_2]) 78 ?_;intro gb484 hg w21 hbox hb;have BK484:=Aside0.mk (hbox);have GW484:=Aside0.mk ((Hd.g_ hg Hd.b_ : w.heap.size ≤ gb484));have GE484:=Aside0.mk ((Hd.g_ hg Hd.b_ : w.heap.size ≤ gb484));replace HB:=Aside0.mk (below_step Hd.b_ hb);clear hb hbox hg) | ((with_reducible refine gate_dst (N:=3) rfl ?_);refine Hd.box_ 3 (#[.int .i64 a1_0,.int .i64 a1_1,.int .i64 a1_2]) 78 ?_;intro gb485 hg w22 hbox hb;have BK485:=Aside0.mk (hbox);have GW485:=Aside0.mk ((Hd.g_ hg Hd.b_ : w.heap.size ≤ gb485));have GE485:=Aside0.mk ((Hd.g_ hg Hd.b_ : w.heap.size ≤ gb485));replace HB:=Aside0.mk (below_step Hd.b_ hb);have NB484_485:=Aside0.mk ((Hd.lt_ BK484 hg));have NB485_484:=Aside0.mk ((Hd.gt_ BK484 hg));replace BK484:=Aside0.mk (Hd.kb_ BK484 hb);clear hb hbox hg;have hnb23:=NB484_485.out;have hnc23:=NB485_484.out;obtain ⟨hcz24_0,hcz24_1,hcz24_2⟩:=Hd.c3_ BK484.out;obtain ⟨hfz24_0,hfz24_1,hfz24_2⟩:=Hd.f3_ BK484.out;obtain ⟨hcz25_0,hcz25_1,hcz25_2⟩:=Hd.c3_ BK485.out;obtain ⟨hfz25_0,hfz25_1,hfz25_2⟩:=Hd.f3_ BK485.out))
  go_ret
  exact ⟨Hd.e_,Hd.b_⟩
end Go.Proofs.Ytchmbcembbbplad.MFnExactMeetsOf
