-- Laid by this session's program pp.py, after the kit's print and texts of the session's own. Not trusted: Lean checks it.
import Derived.Test.YtchmbcembbbplacZDropCornerMx0
import Derived.Test.YtchmbcembbbplacZDropCornerMx1
import Derived.Test.YtchmbcembbbplacZDropCornerMx2
namespace Go.Proofs.Ytchmbcembbbplac.MFnExactDropCorner
open Go.RowKit Go.Proofs.YtchmbcembbbplacW.PrintWords Go.Proofs.YtchmbcembbbplacW.PrintLast Go.Proofs.YtchmbcembbbplacW.PrintMore
attribute [local go_sem] max2_int min2_int max_two min_two max_three min_three max_four min_four   -- for this text's walks alone
set_option linter.unusedVariables false
set_option linter.unusedSimpArgs false
attribute [local go_sem high] eqA49
def spec_IsOn.f (a0_0 : Int) (a0_1 : Int) (a0_2 : Int) (a0_3 : Int) (a1_0 : Int) (a1_1 : Int) : Option (Bool) := (spec_IsSegment.f a0_0 a0_1 a0_2 a0_3).bind fun t129 => (if t129 = true then ((spec_IsPoint.f a1_0 a1_1).bind fun t130 => (if t130 = true then ((spec_l4Cross.f a0_0 a0_1 a0_2 a0_3 a1_0 a1_1).bind fun t131 => (if t131 = 0 then ((spec_Min.f a0_0 a0_2).bind fun t132 => ((spec_Max.f a0_0 a0_2).bind fun t133 => ((spec_l1In.f a1_0 t132 t133).bind fun t134 => (if t134 = true then ((spec_Min.f a0_1 a0_3).bind fun t135 => ((spec_Max.f a0_1 a0_3).bind fun t136 => ((spec_l1In.f a1_1 t135 t136).bind fun t137 => (some t137)))) else (some false))))) else (some false))) else (some false))) else (some false))
set_option maxHeartbeats 8000000 in
set_option maxRecDepth 100000 in
theorem spec_IsOn.calls (a0_0 : Int) (a0_1 : Int) (a0_2 : Int) (a0_3 : Int) (a1_0 : Int) (a1_1 : Int) (r : Bool) (w : World) (h : spec_IsOn.f a0_0 a0_1 a0_2 a0_3 a1_0 a1_1 = some r) :
  Calls Try.prog 167 #[.agg #[.int .i64 a0_0, .int .i64 a0_1, .int .i64 a0_2, .int .i64 a0_3], .agg #[.int .i64 a1_0, .int .i64 a1_1]] w fun e w' => e = .returned (.bool r) ∧ Below w.heap.size w w' := by
 have hu111 := Try.underlying111
 have hu49 := Try.underlying49
 have HB := Aside0.mk (Below.refl w.heap.size w)
 have H : ((spec_IsSegment.f a0_0 a0_1 a0_2 a0_3).bind fun t129 => (if t129 = true then ((spec_IsPoint.f a1_0 a1_1).bind fun t130 => (if t130 = true then ((spec_l4Cross.f a0_0 a0_1 a0_2 a0_3 a1_0 a1_1).bind fun t131 => (if t131 = 0 then ((spec_Min.f a0_0 a0_2).bind fun t132 => ((spec_Max.f a0_0 a0_2).bind fun t133 => ((spec_l1In.f a1_0 t132 t133).bind fun t134 => (if t134 = true then ((spec_Min.f a0_1 a0_3).bind fun t135 => ((spec_Max.f a0_1 a0_3).bind fun t136 => ((spec_l1In.f a1_1 t135 t136).bind fun t137 => (some t137)))) else (some false))))) else (some false))) else (some false))) else (some false))) = some r := h
 clear h
 replace H := Option.bind_eq_some_iff.mp H
 obtain ⟨t129, A30, H⟩ := H
 replace H : (if t129 = true then ((spec_IsPoint.f a1_0 a1_1).bind fun t130 => (if t130 = true then ((spec_l4Cross.f a0_0 a0_1 a0_2 a0_3 a1_0 a1_1).bind fun t131 => (if t131 = 0 then ((spec_Min.f a0_0 a0_2).bind fun t132 => ((spec_Max.f a0_0 a0_2).bind fun t133 => ((spec_l1In.f a1_0 t132 t133).bind fun t134 => (if t134 = true then ((spec_Min.f a0_1 a0_3).bind fun t135 => ((spec_Max.f a0_1 a0_3).bind fun t136 => ((spec_l1In.f a1_1 t135 t136).bind fun t137 => (some t137)))) else (some false))))) else (some false))) else (some false))) else (some false)) = some r := H
 have A3 := Aside0.mk A30
 clear A30
 by_cases c4 : t129 = true
 ·
  subst c4
  have H1 : ((spec_IsPoint.f a1_0 a1_1).bind fun t130 => (if t130 = true then ((spec_l4Cross.f a0_0 a0_1 a0_2 a0_3 a1_0 a1_1).bind fun t131 => (if t131 = 0 then ((spec_Min.f a0_0 a0_2).bind fun t132 => ((spec_Max.f a0_0 a0_2).bind fun t133 => ((spec_l1In.f a1_0 t132 t133).bind fun t134 => (if t134 = true then ((spec_Min.f a0_1 a0_3).bind fun t135 => ((spec_Max.f a0_1 a0_3).bind fun t136 => ((spec_l1In.f a1_1 t135 t136).bind fun t137 => (some t137)))) else (some false))))) else (some false))) else (some false))) = some r := by rw [if_pos rfl] at H; exact H
  clear H
  have H := H1
  clear H1
  replace H := Option.bind_eq_some_iff.mp H
  obtain ⟨t130, A50, H⟩ := H
  replace H : (if t130 = true then ((spec_l4Cross.f a0_0 a0_1 a0_2 a0_3 a1_0 a1_1).bind fun t131 => (if t131 = 0 then ((spec_Min.f a0_0 a0_2).bind fun t132 => ((spec_Max.f a0_0 a0_2).bind fun t133 => ((spec_l1In.f a1_0 t132 t133).bind fun t134 => (if t134 = true then ((spec_Min.f a0_1 a0_3).bind fun t135 => ((spec_Max.f a0_1 a0_3).bind fun t136 => ((spec_l1In.f a1_1 t135 t136).bind fun t137 => (some t137)))) else (some false))))) else (some false))) else (some false)) = some r := H
  have A5 := Aside0.mk A50
  clear A50
  by_cases c6 : t130 = true
  ·
   subst c6
   have H1 : ((spec_l4Cross.f a0_0 a0_1 a0_2 a0_3 a1_0 a1_1).bind fun t131 => (if t131 = 0 then ((spec_Min.f a0_0 a0_2).bind fun t132 => ((spec_Max.f a0_0 a0_2).bind fun t133 => ((spec_l1In.f a1_0 t132 t133).bind fun t134 => (if t134 = true then ((spec_Min.f a0_1 a0_3).bind fun t135 => ((spec_Max.f a0_1 a0_3).bind fun t136 => ((spec_l1In.f a1_1 t135 t136).bind fun t137 => (some t137)))) else (some false))))) else (some false))) = some r := by rw [if_pos rfl] at H; exact H
   clear H
   have H := H1
   clear H1
   replace H := Option.bind_eq_some_iff.mp H
   obtain ⟨t131, A70, H⟩ := H
   replace H : (if t131 = 0 then ((spec_Min.f a0_0 a0_2).bind fun t132 => ((spec_Max.f a0_0 a0_2).bind fun t133 => ((spec_l1In.f a1_0 t132 t133).bind fun t134 => (if t134 = true then ((spec_Min.f a0_1 a0_3).bind fun t135 => ((spec_Max.f a0_1 a0_3).bind fun t136 => ((spec_l1In.f a1_1 t135 t136).bind fun t137 => (some t137)))) else (some false))))) else (some false)) = some r := H
   have A7 := Aside0.mk A70
   clear A70
   by_cases c8 : t131 = 0
   ·
    rw [if_pos c8] at H
    have c8b0 : (t131 == 0) = true := beq_iff_eq.mpr c8
    have c8b1 : (t131 != 0) = false := bne_eq_false_iff_eq.mpr c8
    clear c8
    replace H := Option.bind_eq_some_iff.mp H
    obtain ⟨t132, A90, H⟩ := H
    replace H : ((spec_Max.f a0_0 a0_2).bind fun t133 => ((spec_l1In.f a1_0 t132 t133).bind fun t134 => (if t134 = true then ((spec_Min.f a0_1 a0_3).bind fun t135 => ((spec_Max.f a0_1 a0_3).bind fun t136 => ((spec_l1In.f a1_1 t135 t136).bind fun t137 => (some t137)))) else (some false)))) = some r := H
    have A9 := Aside0.mk A90
    clear A90
    replace H := Option.bind_eq_some_iff.mp H
    obtain ⟨t133, A100, H⟩ := H
    replace H : ((spec_l1In.f a1_0 t132 t133).bind fun t134 => (if t134 = true then ((spec_Min.f a0_1 a0_3).bind fun t135 => ((spec_Max.f a0_1 a0_3).bind fun t136 => ((spec_l1In.f a1_1 t135 t136).bind fun t137 => (some t137)))) else (some false))) = some r := H
    have A10 := Aside0.mk A100
    clear A100
    replace H := Option.bind_eq_some_iff.mp H
    obtain ⟨t134, A110, H⟩ := H
    replace H : (if t134 = true then ((spec_Min.f a0_1 a0_3).bind fun t135 => ((spec_Max.f a0_1 a0_3).bind fun t136 => ((spec_l1In.f a1_1 t135 t136).bind fun t137 => (some t137)))) else (some false)) = some r := H
    have A11 := Aside0.mk A110
    clear A110
    by_cases c12 : t134 = true
    ·
     subst c12
     have H1 : ((spec_Min.f a0_1 a0_3).bind fun t135 => ((spec_Max.f a0_1 a0_3).bind fun t136 => ((spec_l1In.f a1_1 t135 t136).bind fun t137 => (some t137)))) = some r := by rw [if_pos rfl] at H; exact H
     clear H
     have H := H1
     clear H1
     replace H := Option.bind_eq_some_iff.mp H
     obtain ⟨t135, A130, H⟩ := H
     replace H : ((spec_Max.f a0_1 a0_3).bind fun t136 => ((spec_l1In.f a1_1 t135 t136).bind fun t137 => (some t137))) = some r := H
     have A13 := Aside0.mk A130
     clear A130
     replace H := Option.bind_eq_some_iff.mp H
     obtain ⟨t136, A140, H⟩ := H
     replace H : ((spec_l1In.f a1_1 t135 t136).bind fun t137 => (some t137)) = some r := H
     have A14 := Aside0.mk A140
     clear A140
     replace H := Option.bind_eq_some_iff.mp H
     obtain ⟨t137, A150, H⟩ := H
     replace H : (some t137) = some r := H
     have A15 := Aside0.mk A150
     clear A150
     obtain rfl := Option.some.inj H
     go_enter Try.func167, Try.ntmps167
     try go_wp2_with (first | ((with_reducible refine gate_dst (N := 2) rfl ?_); refine Hd.box_ 2 (#[.int .i64 a0_0, .int .i64 a0_1, .int .i64 a0_2, .int .i64 a0_3]) 111 ?_; intro gb127 hg w16 hbox hb; have BK127 := Aside0.mk (hbox); have GW127 := Aside0.mk ((Hd.g_ hg Hd.b_ : w.heap.size ≤ gb127)); have GE127 := Aside0.mk ((Hd.g_ hg Hd.b_ : w.heap.size ≤ gb127)); replace HB := Aside0.mk (below_step Hd.b_ hb); clear hb hbox hg) | ((with_reducible refine gate_dst (N := 3) rfl ?_); refine Hd.box_ 3 (#[.int .i64 a1_0, .int .i64 a1_1]) 49 ?_; intro gb128 hg w17 hbox hb; have BK128 := Aside0.mk (hbox); have GW128 := Aside0.mk ((Hd.g_ hg Hd.b_ : w.heap.size ≤ gb128)); have GE128 := Aside0.mk ((Hd.g_ hg Hd.b_ : w.heap.size ≤ gb128)); replace HB := Aside0.mk (below_step Hd.b_ hb); have NB127_128 := Aside0.mk ((Hd.lt_ BK127 hg)); have NB128_127 := Aside0.mk ((Hd.gt_ BK127 hg)); replace BK127 := Aside0.mk (Hd.kb_ BK127 hb); clear hb hbox hg))
     replace BK127 := Aside0.mk (blk_drew BK127.out)
     replace BK128 := Aside0.mk (blk_drew BK128.out)
     replace HB := Aside0.mk (below_drew1 HB.out)
     obtain ⟨s0_, s1_, s2_, s3_⟩ := Hd.HW.k4 (W0 := w17.drew) BK127
     obtain ⟨s4_, s5_⟩ := Hd.HW.k2 (W0 := w17.drew) BK128
     refine Hd.HW.region (by kernel_rfl) (by kernel_rfl) ?_
     try dsimp only [List.append]
     repeat (go_big_quiet_step ((first | (go_at_call 137; with_reducible exact Hd.HW.c (spec_IsSegment.calls a0_0 a0_1 a0_2 a0_3 true _ A3.out)) | (go_at_call 125; with_reducible exact Hd.HW.c (spec_IsPoint.calls a1_0 a1_1 true _ A5.out)) | (go_at_call 155; with_reducible exact Hd.HW.c (spec_l4Cross.calls a0_0 a0_1 a0_2 a0_3 a1_0 a1_1 t131 _ A7.out)) | (go_at_call 156; with_reducible exact Hd.HW.d (spec_Min.calls a0_0 a0_2 t132 _ A9.out)) | (go_at_call 128; with_reducible exact Hd.HW.d (spec_Max.calls a0_0 a0_2 t133 _ A10.out)) | (go_at_call 83; with_reducible exact Hd.HW.d (spec_l1In.calls a1_0 t132 t133 true _ A11.out)) | (go_at_call 156; with_reducible exact Hd.HW.d (spec_Min.calls a0_1 a0_3 t135 _ A13.out)) | (go_at_call 128; with_reducible exact Hd.HW.d (spec_Max.calls a0_1 a0_3 t136 _ A14.out)) | (go_at_call 83; with_reducible exact Hd.HW.d (spec_l1In.calls a1_1 t135 t136 t137 _ A15.out)))))
     refine wpQuiet_nil ?_
     intro _ hq_
     obtain ⟨q_, rfl⟩ := hq_
     clear s0_ s1_ s2_ s3_ s4_ s5_
     replace BK127 := Aside0.mk (blk_below BK127.out q_.b)
     replace BK128 := Aside0.mk (blk_below BK128.out q_.b)
     replace HB := Aside0.mk (below_step HB.out q_.b)
     generalize q_.W = w21 at BK127 BK128 HB ⊢
     try simp only [i64_w, i32_w]
     try go_wp2
     go_ret
     exact ⟨Hd.e_, Hd.b_⟩
    ·
     replace c12 := Bool.eq_false_iff.mpr c12
     subst c12
     have H1 : (some false) = some r := by rw [if_neg (show ¬ (false = true) by decide)] at H; exact H
     clear H
     have H := H1
     clear H1
     obtain rfl := Option.some.inj H
     go_enter Try.func167, Try.ntmps167
     try go_wp2_with (first | ((with_reducible refine gate_dst (N := 2) rfl ?_); refine Hd.box_ 2 (#[.int .i64 a0_0, .int .i64 a0_1, .int .i64 a0_2, .int .i64 a0_3]) 111 ?_; intro gb127 hg w22 hbox hb; have BK127 := Aside0.mk (hbox); have GW127 := Aside0.mk ((Hd.g_ hg Hd.b_ : w.heap.size ≤ gb127)); have GE127 := Aside0.mk ((Hd.g_ hg Hd.b_ : w.heap.size ≤ gb127)); replace HB := Aside0.mk (below_step Hd.b_ hb); clear hb hbox hg) | ((with_reducible refine gate_dst (N := 3) rfl ?_); refine Hd.box_ 3 (#[.int .i64 a1_0, .int .i64 a1_1]) 49 ?_; intro gb128 hg w23 hbox hb; have BK128 := Aside0.mk (hbox); have GW128 := Aside0.mk ((Hd.g_ hg Hd.b_ : w.heap.size ≤ gb128)); have GE128 := Aside0.mk ((Hd.g_ hg Hd.b_ : w.heap.size ≤ gb128)); replace HB := Aside0.mk (below_step Hd.b_ hb); have NB127_128 := Aside0.mk ((Hd.lt_ BK127 hg)); have NB128_127 := Aside0.mk ((Hd.gt_ BK127 hg)); replace BK127 := Aside0.mk (Hd.kb_ BK127 hb); clear hb hbox hg))
     replace BK127 := Aside0.mk (blk_drew BK127.out)
     replace BK128 := Aside0.mk (blk_drew BK128.out)
     replace HB := Aside0.mk (below_drew1 HB.out)
     obtain ⟨s0_, s1_, s2_, s3_⟩ := Hd.HW.k4 (W0 := w23.drew) BK127
     obtain ⟨s4_, s5_⟩ := Hd.HW.k2 (W0 := w23.drew) BK128
     refine Hd.HW.region (by kernel_rfl) (by kernel_rfl) ?_
     try dsimp only [List.append]
     repeat (go_big_quiet_step ((first | (go_at_call 137; with_reducible exact Hd.HW.c (spec_IsSegment.calls a0_0 a0_1 a0_2 a0_3 true _ A3.out)) | (go_at_call 125; with_reducible exact Hd.HW.c (spec_IsPoint.calls a1_0 a1_1 true _ A5.out)) | (go_at_call 155; with_reducible exact Hd.HW.c (spec_l4Cross.calls a0_0 a0_1 a0_2 a0_3 a1_0 a1_1 t131 _ A7.out)) | (go_at_call 156; with_reducible exact Hd.HW.d (spec_Min.calls a0_0 a0_2 t132 _ A9.out)) | (go_at_call 128; with_reducible exact Hd.HW.d (spec_Max.calls a0_0 a0_2 t133 _ A10.out)) | (go_at_call 83; with_reducible exact Hd.HW.d (spec_l1In.calls a1_0 t132 t133 false _ A11.out)))))
     refine wpQuiet_nil ?_
     intro _ hq_
     obtain ⟨q_, rfl⟩ := hq_
     clear s0_ s1_ s2_ s3_ s4_ s5_
     replace BK127 := Aside0.mk (blk_below BK127.out q_.b)
     replace BK128 := Aside0.mk (blk_below BK128.out q_.b)
     replace HB := Aside0.mk (below_step HB.out q_.b)
     generalize q_.W = w27 at BK127 BK128 HB ⊢
     try simp only [i64_w, i32_w]
     try go_wp2
     go_ret
     exact ⟨Hd.e_, Hd.b_⟩
   ·
    rw [if_neg c8] at H
    have c8b0 : (t131 == 0) = false := beq_eq_false_iff_ne.mpr c8
    have c8b1 : (t131 != 0) = true := bne_iff_ne.mpr c8
    obtain rfl := Option.some.inj H
    go_enter Try.func167, Try.ntmps167
    try go_wp2_with (first | ((with_reducible refine gate_dst (N := 2) rfl ?_); refine Hd.box_ 2 (#[.int .i64 a0_0, .int .i64 a0_1, .int .i64 a0_2, .int .i64 a0_3]) 111 ?_; intro gb127 hg w28 hbox hb; have BK127 := Aside0.mk (hbox); have GW127 := Aside0.mk ((Hd.g_ hg Hd.b_ : w.heap.size ≤ gb127)); have GE127 := Aside0.mk ((Hd.g_ hg Hd.b_ : w.heap.size ≤ gb127)); replace HB := Aside0.mk (below_step Hd.b_ hb); clear hb hbox hg) | ((with_reducible refine gate_dst (N := 3) rfl ?_); refine Hd.box_ 3 (#[.int .i64 a1_0, .int .i64 a1_1]) 49 ?_; intro gb128 hg w29 hbox hb; have BK128 := Aside0.mk (hbox); have GW128 := Aside0.mk ((Hd.g_ hg Hd.b_ : w.heap.size ≤ gb128)); have GE128 := Aside0.mk ((Hd.g_ hg Hd.b_ : w.heap.size ≤ gb128)); replace HB := Aside0.mk (below_step Hd.b_ hb); have NB127_128 := Aside0.mk ((Hd.lt_ BK127 hg)); have NB128_127 := Aside0.mk ((Hd.gt_ BK127 hg)); replace BK127 := Aside0.mk (Hd.kb_ BK127 hb); clear hb hbox hg))
    replace BK127 := Aside0.mk (blk_drew BK127.out)
    replace BK128 := Aside0.mk (blk_drew BK128.out)
    replace HB := Aside0.mk (below_drew1 HB.out)
    obtain ⟨s0_, s1_, s2_, s3_⟩ := Hd.HW.k4 (W0 := w29.drew) BK127
    obtain ⟨s4_, s5_⟩ := Hd.HW.k2 (W0 := w29.drew) BK128
    refine Hd.HW.region (by kernel_rfl) (by kernel_rfl) ?_
    try dsimp only [List.append]
    repeat (go_big_quiet_step ((first | (go_at_call 137; with_reducible exact Hd.HW.c (spec_IsSegment.calls a0_0 a0_1 a0_2 a0_3 true _ A3.out)) | (go_at_call 125; with_reducible exact Hd.HW.c (spec_IsPoint.calls a1_0 a1_1 true _ A5.out)) | (go_at_call 155; with_reducible exact Hd.HW.c (spec_l4Cross.calls a0_0 a0_1 a0_2 a0_3 a1_0 a1_1 t131 _ A7.out)))))
    refine wpQuiet_nil ?_
    intro _ hq_
    obtain ⟨q_, rfl⟩ := hq_
    clear s0_ s1_ s2_ s3_ s4_ s5_
    replace BK127 := Aside0.mk (blk_below BK127.out q_.b)
    replace BK128 := Aside0.mk (blk_below BK128.out q_.b)
    replace HB := Aside0.mk (below_step HB.out q_.b)
    generalize q_.W = w33 at BK127 BK128 HB ⊢
    try simp only [i64_w, i32_w]
    try go_wp2
    go_ret
    exact ⟨Hd.e_, Hd.b_⟩
  ·
   replace c6 := Bool.eq_false_iff.mpr c6
   subst c6
   have H1 : (some false) = some r := by rw [if_neg (show ¬ (false = true) by decide)] at H; exact H
   clear H
   have H := H1
   clear H1
   obtain rfl := Option.some.inj H
   go_enter Try.func167, Try.ntmps167
   try go_wp2_with (first | ((with_reducible refine gate_dst (N := 2) rfl ?_); refine Hd.box_ 2 (#[.int .i64 a0_0, .int .i64 a0_1, .int .i64 a0_2, .int .i64 a0_3]) 111 ?_; intro gb127 hg w34 hbox hb; have BK127 := Aside0.mk (hbox); have GW127 := Aside0.mk ((Hd.g_ hg Hd.b_ : w.heap.size ≤ gb127)); have GE127 := Aside0.mk ((Hd.g_ hg Hd.b_ : w.heap.size ≤ gb127)); replace HB := Aside0.mk (below_step Hd.b_ hb); clear hb hbox hg) | ((with_reducible refine gate_dst (N := 3) rfl ?_); refine Hd.box_ 3 (#[.int .i64 a1_0, .int .i64 a1_1]) 49 ?_; intro gb128 hg w35 hbox hb; have BK128 := Aside0.mk (hbox); have GW128 := Aside0.mk ((Hd.g_ hg Hd.b_ : w.heap.size ≤ gb128)); have GE128 := Aside0.mk ((Hd.g_ hg Hd.b_ : w.heap.size ≤ gb128)); replace HB := Aside0.mk (below_step Hd.b_ hb); have NB127_128 := Aside0.mk ((Hd.lt_ BK127 hg)); have NB128_127 := Aside0.mk ((Hd.gt_ BK127 hg)); replace BK127 := Aside0.mk (Hd.kb_ BK127 hb); clear hb hbox hg))
   replace BK127 := Aside0.mk (blk_drew BK127.out)
   replace BK128 := Aside0.mk (blk_drew BK128.out)
   replace HB := Aside0.mk (below_drew1 HB.out)
   obtain ⟨s0_, s1_, s2_, s3_⟩ := Hd.HW.k4 (W0 := w35.drew) BK127
   obtain ⟨s4_, s5_⟩ := Hd.HW.k2 (W0 := w35.drew) BK128
   refine Hd.HW.region (by kernel_rfl) (by kernel_rfl) ?_
   try dsimp only [List.append]
   repeat (go_big_quiet_step ((first | (go_at_call 137; with_reducible exact Hd.HW.c (spec_IsSegment.calls a0_0 a0_1 a0_2 a0_3 true _ A3.out)) | (go_at_call 125; with_reducible exact Hd.HW.c (spec_IsPoint.calls a1_0 a1_1 false _ A5.out)))))
   refine wpQuiet_nil ?_
   intro _ hq_
   obtain ⟨q_, rfl⟩ := hq_
   clear s0_ s1_ s2_ s3_ s4_ s5_
   replace BK127 := Aside0.mk (blk_below BK127.out q_.b)
   replace BK128 := Aside0.mk (blk_below BK128.out q_.b)
   replace HB := Aside0.mk (below_step HB.out q_.b)
   generalize q_.W = w38 at BK127 BK128 HB ⊢
   try simp only [i64_w, i32_w]
   try go_wp2
   go_ret
   exact ⟨Hd.e_, Hd.b_⟩
 ·
  replace c4 := Bool.eq_false_iff.mpr c4
  subst c4
  have H1 : (some false) = some r := by rw [if_neg (show ¬ (false = true) by decide)] at H; exact H
  clear H
  have H := H1
  clear H1
  obtain rfl := Option.some.inj H
  go_enter Try.func167, Try.ntmps167
  try go_wp2_with (first | ((with_reducible refine gate_dst (N := 2) rfl ?_); refine Hd.box_ 2 (#[.int .i64 a0_0, .int .i64 a0_1, .int .i64 a0_2, .int .i64 a0_3]) 111 ?_; intro gb127 hg w39 hbox hb; have BK127 := Aside0.mk (hbox); have GW127 := Aside0.mk ((Hd.g_ hg Hd.b_ : w.heap.size ≤ gb127)); have GE127 := Aside0.mk ((Hd.g_ hg Hd.b_ : w.heap.size ≤ gb127)); replace HB := Aside0.mk (below_step Hd.b_ hb); clear hb hbox hg) | ((with_reducible refine gate_dst (N := 3) rfl ?_); refine Hd.box_ 3 (#[.int .i64 a1_0, .int .i64 a1_1]) 49 ?_; intro gb128 hg w40 hbox hb; have BK128 := Aside0.mk (hbox); have GW128 := Aside0.mk ((Hd.g_ hg Hd.b_ : w.heap.size ≤ gb128)); have GE128 := Aside0.mk ((Hd.g_ hg Hd.b_ : w.heap.size ≤ gb128)); replace HB := Aside0.mk (below_step Hd.b_ hb); have NB127_128 := Aside0.mk ((Hd.lt_ BK127 hg)); have NB128_127 := Aside0.mk ((Hd.gt_ BK127 hg)); replace BK127 := Aside0.mk (Hd.kb_ BK127 hb); clear hb hbox hg))
  replace BK127 := Aside0.mk (blk_drew BK127.out)
  replace BK128 := Aside0.mk (blk_drew BK128.out)
  replace HB := Aside0.mk (below_drew1 HB.out)
  obtain ⟨s0_, s1_, s2_, s3_⟩ := Hd.HW.k4 (W0 := w40.drew) BK127
  refine Hd.HW.region (by kernel_rfl) (by kernel_rfl) ?_
  try dsimp only [List.append]
  repeat (go_big_quiet_step ((first | (go_at_call 137; with_reducible exact Hd.HW.c (spec_IsSegment.calls a0_0 a0_1 a0_2 a0_3 false _ A3.out)))))
  refine wpQuiet_nil ?_
  intro _ hq_
  obtain ⟨q_, rfl⟩ := hq_
  clear s0_ s1_ s2_ s3_
  replace BK127 := Aside0.mk (blk_below BK127.out q_.b)
  replace BK128 := Aside0.mk (blk_below BK128.out q_.b)
  replace HB := Aside0.mk (below_step HB.out q_.b)
  generalize q_.W = w42 at BK127 BK128 HB ⊢
  try simp only [i64_w, i32_w]
  try go_wp2
  go_ret
  exact ⟨Hd.e_, Hd.b_⟩
mutual
def spec_l5Shared.l0 : Nat → List (S49) → List (S49) → Int → Int → Int → Int → Int → Int → Int → Int → Int → Option (Int)
 | 0, _, _, _, _, _, _, _, _, _, _, _ => none
 | k + 1, x5, x6, x7, x139000, x139001, x139002, x139003, x140000, x140001, x140002, x140003 => if x7 < 4 then (if x7 < 2 then (if 0 ≤ x7 then (if x7 < (x6.length : Int) then ((spec_IsOn.f x140000 x140001 x140002 x140003 ((rd_T49 x6 x7).f0) ((rd_T49 x6 x7).f1)).bind fun t147 => (if t147 = true then (spec_l5Shared.j1 k x5 x6 x7 true x139000 x139001 x139002 x139003 x140000 x140001 x140002 x140003) else (if x7 ≥ 2 then ((spec_IsOn.f x139000 x139001 x139002 x139003 ((rd_T49 x6 x7).f0) ((rd_T49 x6 x7).f1)).bind fun t149 => (spec_l5Shared.j1 k x5 x6 x7 t149 x139000 x139001 x139002 x139003 x140000 x140001 x140002 x140003)) else (spec_l5Shared.j1 k x5 x6 x7 false x139000 x139001 x139002 x139003 x140000 x140001 x140002 x140003)))) else (none)) else (none)) else (if x7 ≥ 2 then (if 0 ≤ x7 then (if x7 < (x6.length : Int) then ((spec_IsOn.f x139000 x139001 x139002 x139003 ((rd_T49 x6 x7).f0) ((rd_T49 x6 x7).f1)).bind fun t151 => (spec_l5Shared.j1 k x5 x6 x7 t151 x139000 x139001 x139002 x139003 x140000 x140001 x140002 x140003)) else (none)) else (none)) else (spec_l5Shared.j1 k x5 x6 x7 false x139000 x139001 x139002 x139003 x140000 x140001 x140002 x140003))) else (some (x5.length : Int))
def spec_l5Shared.j1 : Nat → List (S49) → List (S49) → Int → Bool → Int → Int → Int → Int → Int → Int → Int → Int → Option (Int)
 | 0, _, _, _, _, _, _, _, _, _, _, _, _ => none
 | k + 1, x5, x6, x7, x8, x139000, x139001, x139002, x139003, x140000, x140001, x140002, x140003 => spec_l5Shared.l1 k x5 x6 x7 x8 0 x139000 x139001 x139002 x139003 x140000 x140001 x140002 x140003
def spec_l5Shared.l1 : Nat → List (S49) → List (S49) → Int → Bool → Int → Int → Int → Int → Int → Int → Int → Int → Int → Option (Int)
 | 0, _, _, _, _, _, _, _, _, _, _, _, _, _ => none
 | k + 1, x5, x6, x7, x8, x9, x139000, x139001, x139002, x139003, x140000, x140001, x140002, x140003 => if x9 < (x5.length : Int) then (if x8 = true then (if 0 ≤ x9 then (if 0 ≤ x7 then (if x7 < (x6.length : Int) then (spec_l5Shared.l1 k x5 x6 x7 (!(((rd_T49 x5 x9).f0) == ((rd_T49 x6 x7).f0)) || (!(((rd_T49 x5 x9).f1) == ((rd_T49 x6 x7).f1)))) (wrap64 (x9 + 1)) x139000 x139001 x139002 x139003 x140000 x140001 x140002 x140003) else (none)) else (none)) else (none)) else (spec_l5Shared.l1 k x5 x6 x7 false (wrap64 (x9 + 1)) x139000 x139001 x139002 x139003 x140000 x140001 x140002 x140003)) else (if x8 = true then (if 0 ≤ x7 then (if x7 < (x6.length : Int) then (if x5.length < 8796093022208 then (spec_l5Shared.l0 k (x5 ++ [(⟨(rd_T49 x6 x7).f0, (rd_T49 x6 x7).f1⟩ : S49)]) x6 (wrap64 (x7 + 1)) x139000 x139001 x139002 x139003 x140000 x140001 x140002 x140003) else (none)) else (none)) else (none)) else (spec_l5Shared.l0 k x5 x6 (wrap64 (x7 + 1)) x139000 x139001 x139002 x139003 x140000 x140001 x140002 x140003))
end
def spec_l5Shared.f (k : Nat) (a0_0 : Int) (a0_1 : Int) (a0_2 : Int) (a0_3 : Int) (a1_0 : Int) (a1_1 : Int) (a1_2 : Int) (a1_3 : Int) : Option (Int) := spec_l5Shared.l0 k (([] : List (S49))) (([(⟨a0_0, a0_1⟩ : S49), (⟨a0_2, a0_3⟩ : S49), (⟨a1_0, a1_1⟩ : S49), (⟨a1_2, a1_3⟩ : S49)] : List (S49))) 0 a0_0 a0_1 a0_2 a0_3 a1_0 a1_1 a1_2 a1_3
set_option maxHeartbeats 8000000 in
set_option maxRecDepth 100000 in
theorem spec_l5Shared.calls (k : Nat) (a0_0 : Int) (a0_1 : Int) (a0_2 : Int) (a0_3 : Int) (a1_0 : Int) (a1_1 : Int) (a1_2 : Int) (a1_3 : Int) (r : Int) (w : World) (h : spec_l5Shared.f k a0_0 a0_1 a0_2 a0_3 a1_0 a1_1 a1_2 a1_3 = some r) :
  Calls Try.prog 157 #[.agg #[.int .i64 a0_0, .int .i64 a0_1, .int .i64 a0_2, .int .i64 a0_3], .agg #[.int .i64 a1_0, .int .i64 a1_1, .int .i64 a1_2, .int .i64 a1_3]] w fun e w' => e = .returned (.int .i64 r) ∧ Below w.heap.size w w' := by
 have hu111 := Try.underlying111
 have hu49 := Try.underlying49
 have HB := Aside0.mk (Below.refl w.heap.size w)
 have H : (spec_l5Shared.l0 k (([] : List (S49))) (([(⟨a0_0, a0_1⟩ : S49), (⟨a0_2, a0_3⟩ : S49), (⟨a1_0, a1_1⟩ : S49), (⟨a1_2, a1_3⟩ : S49)] : List (S49))) 0 a0_0 a0_1 a0_2 a0_3 a1_0 a1_1 a1_2 a1_3) = some r := h
 clear h
 obtain ⟨y140, hy140⟩ : ∃ y_ : List (S49), y_ = (([] : List (S49))) := ⟨_, rfl⟩
 replace H : (spec_l5Shared.l0 k y140 (([(⟨a0_0, a0_1⟩ : S49), (⟨a0_2, a0_3⟩ : S49), (⟨a1_0, a1_1⟩ : S49), (⟨a1_2, a1_3⟩ : S49)] : List (S49))) 0 a0_0 a0_1 a0_2 a0_3 a1_0 a1_1 a1_2 a1_3) = some r := by first | (rw [hy140]; with_reducible exact H) | (have H2_ := (Option.bind_some _ _).symm.trans H; rw [hy140]; with_reducible exact H2_) | (have H2_ := (Option.bind_some _ _).symm.trans H; with_reducible exact H2_) | with_reducible exact H | (rw [hy140]; exact H) | exact H
 have Ny140 := Aside0.mk hy140
 clear hy140
 obtain ⟨y143, hy143⟩ : ∃ y_ : List (S49), y_ = (([(⟨a0_0, a0_1⟩ : S49), (⟨a0_2, a0_3⟩ : S49), (⟨a1_0, a1_1⟩ : S49), (⟨a1_2, a1_3⟩ : S49)] : List (S49))) := ⟨_, rfl⟩
 replace H : (spec_l5Shared.l0 k y140 y143 0 a0_0 a0_1 a0_2 a0_3 a1_0 a1_1 a1_2 a1_3) = some r := by first | (rw [hy143]; with_reducible exact H) | (have H2_ := (Option.bind_some _ _).symm.trans H; rw [hy143]; with_reducible exact H2_) | (have H2_ := (Option.bind_some _ _).symm.trans H; with_reducible exact H2_) | with_reducible exact H | (rw [hy143]; exact H) | exact H
 have Ny143 := Aside0.mk hy143
 clear hy143
 have H' := Aside0.mk H
 clear H
 go_enter Try.func157, Try.ntmps157
 go_wp2_with (first | ((with_reducible refine gate_dst (N := 2) rfl ?_); refine Hd.box_ 2 (#[.int .i64 a0_0, .int .i64 a0_1, .int .i64 a0_2, .int .i64 a0_3]) 111 ?_; intro gb138 hg w3 hbox hb; have BK138 := Aside0.mk (hbox); have GW138 := Aside0.mk ((Hd.g_ hg Hd.b_ : w.heap.size ≤ gb138)); have GE138 := Aside0.mk ((Hd.g_ hg Hd.b_ : w.heap.size ≤ gb138)); replace HB := Aside0.mk (below_step Hd.b_ hb); clear hb hbox hg) | ((with_reducible refine gate_dst (N := 3) rfl ?_); refine Hd.box_ 3 (#[.int .i64 a1_0, .int .i64 a1_1, .int .i64 a1_2, .int .i64 a1_3]) 111 ?_; intro gb139 hg w4 hbox hb; have BK139 := Aside0.mk (hbox); have GW139 := Aside0.mk ((Hd.g_ hg Hd.b_ : w.heap.size ≤ gb139)); have GE139 := Aside0.mk ((Hd.g_ hg Hd.b_ : w.heap.size ≤ gb139)); replace HB := Aside0.mk (below_step Hd.b_ hb); have NB138_139 := Aside0.mk ((Hd.lt_ BK138 hg)); have NB139_138 := Aside0.mk ((Hd.gt_ BK138 hg)); replace BK138 := Aside0.mk (Hd.kb_ BK138 hb); clear hb hbox hg) | ((with_reducible refine gate_dst (N := 10) rfl ?_); refine Kd.R_lit k49 _ 49 ?hg (N := 10) ?hd (xs := ([] : List (S49))) (inner := []) (ok := fun _ => True) (okp := fun _ => True) ?hr ?hp (fun _ hk => hk) trivial (Below.refl _ _) (Nat.le_refl _) (by simp) ?_; (case hd => rfl); (case hg => rfl); (case hr => first | (go_simp; done) | (go_simp; rfl)); (case hp => exact (Reps.none _ _)); intro v141 w5 ho6 hb hg_ hnew_; clear hg_ hnew_; (first | rw [← Ny140.out] at ho6 | (simp only [Int.reduceToNat] at ho6; rw [← Ny140.out] at ho6)); have HO142 := Aside0.mk (Kd.R_lower ho6 (below_size Hd.b_)); replace BK138 := Aside0.mk (Hd.kb_ BK138 hb); replace BK139 := Aside0.mk (Hd.kb_ BK139 hb); replace HB := Aside0.mk (below_step Hd.b_ hb); clear hb ho6; have hnb7 := NB138_139.out; have hnc7 := NB139_138.out; obtain ⟨hcz8_0, hcz8_1, hcz8_2, hcz8_3⟩ := Hd.c4_ BK138.out; obtain ⟨hfz8_0, hfz8_1, hfz8_2, hfz8_3⟩ := Hd.f4_ BK138.out; obtain ⟨hcz9_0, hcz9_1, hcz9_2, hcz9_3⟩ := Hd.c4_ BK139.out; obtain ⟨hfz9_0, hfz9_1, hfz9_2, hfz9_3⟩ := Hd.f4_ BK139.out) | ((with_reducible refine gate_dst (N := 19) rfl ?_); refine Kd.R_lit k49 _ 49 ?hg (N := 19) ?hd (xs := ([(⟨a0_0, a0_1⟩ : S49), (⟨a0_2, a0_3⟩ : S49), (⟨a1_0, a1_1⟩ : S49), (⟨a1_2, a1_3⟩ : S49)] : List (S49))) (inner := [.int .i64 a0_0, .int .i64 a0_1, .int .i64 a0_2, .int .i64 a0_3, .int .i64 a1_0, .int .i64 a1_1, .int .i64 a1_2, .int .i64 a1_3]) (ok := fun _ => True) (okp := fun _ => True) ?hr ?hp (fun _ hk => hk) trivial (Below.refl _ _) (Nat.le_refl _) (by simp) ?_; (case hd => rfl); (case hg => rfl); (case hr => first | (go_simp; done) | (go_simp; rfl)); (case hp => exact (Reps.c2 (show Kd.M k49 _ _ _ (⟨a0_0, a0_1⟩ : S49) [.int .i64 a0_0, .int .i64 a0_1] from (k49_mkM _ _ _ (⟨a0_0, a0_1⟩ : S49) )) (Reps.c2 (show Kd.M k49 _ _ _ (⟨a0_2, a0_3⟩ : S49) [.int .i64 a0_2, .int .i64 a0_3] from (k49_mkM _ _ _ (⟨a0_2, a0_3⟩ : S49) )) (Reps.c2 (show Kd.M k49 _ _ _ (⟨a1_0, a1_1⟩ : S49) [.int .i64 a1_0, .int .i64 a1_1] from (k49_mkM _ _ _ (⟨a1_0, a1_1⟩ : S49) )) (Reps.c2 (show Kd.M k49 _ _ _ (⟨a1_2, a1_3⟩ : S49) [.int .i64 a1_2, .int .i64 a1_3] from (k49_mkM _ _ _ (⟨a1_2, a1_3⟩ : S49) )) (Reps.none _ _)))))); intro v144 w10 ho11 hb hg_ hnew_; clear hg_ hnew_; (first | rw [← Ny143.out] at ho11 | (simp only [Int.reduceToNat] at ho11; rw [← Ny143.out] at ho11)); have HO145 := Aside0.mk (Kd.R_lower (Kd.R_new' ho11 (Kd.R_lt (Hd.r_ HO142))) (below_size Hd.b_)); replace HO142 := Aside0.mk (Kd.R_elder' (Hd.r_ HO142) (Kd.R_base ho11) hb); replace BK138 := Aside0.mk (Hd.kb_ BK138 hb); replace BK139 := Aside0.mk (Hd.kb_ BK139 hb); replace HB := Aside0.mk (below_step Hd.b_ hb); clear hb ho11))
 go_loopg [5, 7] k (fun kq v5 v7 w' => ∃ (x5_1 : List (S49)) (x7_1 : Int), v7 = .int .i64 x7_1 ∧ Aside0 (spec_l5Shared.l0 kq x5_1 y143 x7_1 a0_0 a0_1 a0_2 a0_3 a1_0 a1_1 a1_2 a1_3 = some r) ∧ Aside0 (kq ≤ k) ∧ Aside0 (Kd.R k49 49 w' w.heap.size (fun k_ => some k_ ≠ (v144 : Value).ownBlock) v5 x5_1) ∧ Aside0 (Kd.R k49 49 w' w.heap.size (fun k_ => some k_ ≠ (v5 : Value).ownBlock) v144 y143) ∧ Aside0 (w'.heap[gb138]? = some (.cells #[.int .i64 a0_0, .int .i64 a0_1, .int .i64 a0_2, .int .i64 a0_3] 111 (0, 0))) ∧ Aside0 (w'.heap[gb139]? = some (.cells #[.int .i64 a1_0, .int .i64 a1_1, .int .i64 a1_2, .int .i64 a1_3] 111 (0, 0))) ∧ Aside0 (Below w.heap.size w w'))
 case atStart => exact ⟨(y140), (0), (by first | rfl | (simp; done) | (simp [*]; done)), H', ⟨Nat.le_refl _⟩, ⟨by (with_reducible repeat (first | apply Kd.R_alloc | apply Kd.R_drewN | apply Kd.R_drew)); exact Kd.R_mono HO142.out (fun _ hk => hk.2)⟩, ⟨by (with_reducible repeat (first | apply Kd.R_alloc | apply Kd.R_drewN | apply Kd.R_drew)); exact Kd.R_mono HO145.out (fun _ hk => hk.2)⟩, ⟨by (with_reducible repeat (first | refine blk_drewN ?_ _ | refine blk_drew ?_ | refine blk_alloc ?_ _)); exact BK138.out⟩, ⟨by (with_reducible repeat (first | refine blk_drewN ?_ _ | refine blk_drew ?_ | refine blk_alloc ?_ _)); exact BK139.out⟩, ⟨Hd.b_⟩⟩
 case round =>
  clear H'
  try clear c1
  try clear c2
  try clear p2
  try clear c7
  try clear hcz8_0
  try clear hcz8_1
  try clear hcz8_2
  try clear hcz8_3
  try clear hcz9_0
  try clear hcz9_1
  try clear hcz9_2
  try clear hcz9_3
  try clear hfz8_0
  try clear hfz8_1
  try clear hfz8_2
  try clear hfz8_3
  try clear hfz9_0
  try clear hfz9_1
  try clear hfz9_2
  try clear hfz9_3
  obtain ⟨x5_1, x7_1, rfl, HA, HK1, HO_5, HO_6, BK138, BK139, HB⟩ := hrel
  cases gk with
  | zero => exact absurd HA.out (by simp [spec_l5Shared.l0])
  | succ k1 =>
   have H := HA.out
   clear HA
   simp only [spec_l5Shared.l0] at H
   by_cases c12 : x7_1 < 4
   ·
    rw [if_pos c12] at H
    have c12b0 : decide (x7_1 < 4) = true := decide_eq_true c12
    clear c12
    have HC13 := Aside0.mk H
    clear H
    go_upto_region 6 with (fail)
    go_cut [8] (fun v8 wc => ∃ (kq : Nat) (x8_12 : Bool), v8 = .bool x8_12 ∧ Aside0 (spec_l5Shared.j1 kq x5_1 y143 x7_1 x8_12 a0_0 a0_1 a0_2 a0_3 a1_0 a1_1 a1_2 a1_3 = some r) ∧ Aside0 (kq ≤ k1) ∧ Aside0 (Kd.R k49 49 wc w.heap.size (fun k_ => some k_ ≠ (v144 : Value).ownBlock) u5 x5_1) ∧ Aside0 (Kd.R k49 49 wc w.heap.size (fun k_ => some k_ ≠ (u5 : Value).ownBlock) v144 y143) ∧ Aside0 (wc.heap[gb138]? = some (.cells #[.int .i64 a0_0, .int .i64 a0_1, .int .i64 a0_2, .int .i64 a0_3] 111 (0, 0))) ∧ Aside0 (wc.heap[gb139]? = some (.cells #[.int .i64 a1_0, .int .i64 a1_1, .int .i64 a1_2, .int .i64 a1_3] 111 (0, 0))) ∧ Aside0 (Below w.heap.size w wc))
    case first =>
     have H := HC13.out
     clear HC13
     by_cases c14 : x7_1 < 2
     ·
      rw [if_pos c14] at H
      have c14b0 : decide (x7_1 < 2) = true := decide_eq_true c14
      clear c14
      (first | rw [c14b0] | (simp only [i64_w, i32_w]; rw [c14b0]) | skip)
      by_cases c15 : 0 ≤ x7_1
      ·
       rw [if_pos c15] at H
       have c15b0 : decide (0 ≤ x7_1) = true := decide_eq_true c15
       clear c15
       by_cases c16 : x7_1 < (y143.length : Int)
       ·
        rw [if_pos c16] at H
        have c16b0 : decide (x7_1 < (y143.length : Int)) = true := decide_eq_true c16
        clear c16
        replace H := Option.bind_eq_some_iff.mp H
        obtain ⟨t147, A170, H⟩ := H
        replace H : (if t147 = true then (spec_l5Shared.j1 k1 x5_1 y143 x7_1 true a0_0 a0_1 a0_2 a0_3 a1_0 a1_1 a1_2 a1_3) else (if x7_1 ≥ 2 then ((spec_IsOn.f a0_0 a0_1 a0_2 a0_3 ((rd_T49 y143 x7_1).f0) ((rd_T49 y143 x7_1).f1)).bind fun t149 => (spec_l5Shared.j1 k1 x5_1 y143 x7_1 t149 a0_0 a0_1 a0_2 a0_3 a1_0 a1_1 a1_2 a1_3)) else (spec_l5Shared.j1 k1 x5_1 y143 x7_1 false a0_0 a0_1 a0_2 a0_3 a1_0 a1_1 a1_2 a1_3))) = some r := H
        have A17 := Aside0.mk A170
        clear A170
        by_cases c18 : t147 = true
        ·
         subst c18
         have H1 : (spec_l5Shared.j1 k1 x5_1 y143 x7_1 true a0_0 a0_1 a0_2 a0_3 a1_0 a1_1 a1_2 a1_3) = some r := by rw [if_pos rfl] at H; exact H
         clear H
         have H := H1
         clear H1
         have H' := Aside0.mk H
         clear H
         try go_wp2
         replace HO_5 := Aside0.mk (Kd.R_drew HO_5.out)
         replace HO_6 := Aside0.mk (Kd.R_drew HO_6.out)
         replace BK138 := Aside0.mk (blk_drew BK138.out)
         replace BK139 := Aside0.mk (blk_drew BK139.out)
         replace HB := Aside0.mk (below_drew1 HB.out)
         obtain ⟨Ao20, co20, eo20⟩ := Kd.R_slice HO_6.out
         (first | subst eo20 | (injection eo20 with f1_ f2_ f3_; have f4_ := f1_.symm; have f5_ := f3_.symm; clear f1_ f2_ f3_; subst f4_; subst f5_))
         have p146 : 0 ≤ (x7_1 : Int) := of_decide_eq_true Hd.a_
         have q146 : x7_1 < (y143.length : Int) := of_decide_eq_true Hd.a_
         obtain ⟨ad146, e146, hx146_0, hx146_1⟩ := at_T49 (Kd.R_reads' HO_6.out).2.2 x7_1 p146 q146
         cases e146
         replace p146 := eq_true p146
         replace q146 := eq_true q146
         obtain ⟨s0_, s1_, s2_, s3_⟩ := Hd.HW.k4 (W0 := wr.drew) BK139
         have s4_ := Hd.HW.x (W0 := wr.drew) hx146_0
         have s5_ := Hd.HW.x (W0 := wr.drew) hx146_1
         refine Hd.HW.region (by kernel_rfl) (by kernel_rfl) ?_
         repeat (go_big_quiet_step ((first | (go_at_call 167; with_reducible exact Hd.HW.c (spec_IsOn.calls a1_0 a1_1 a1_2 a1_3 ((rd_T49 y143 x7_1).f0) ((rd_T49 y143 x7_1).f1) true _ A17.out)))))
         refine wpQuiet_nil ?_
         intro _ hq_
         obtain ⟨q_, rfl⟩ := hq_
         clear s0_ s1_ s2_ s3_ s4_ s5_
         replace HO_5 := Aside0.mk (Kd.R_below HO_5.out q_.b)
         replace HO_6 := Aside0.mk (Kd.R_below HO_6.out q_.b)
         replace BK138 := Aside0.mk (blk_below BK138.out q_.b)
         replace BK139 := Aside0.mk (blk_below BK139.out q_.b)
         replace HB := Aside0.mk (below_step HB.out q_.b)
         replace hx146_0 := q_.cell hx146_0
         replace hx146_1 := q_.cell hx146_1
         generalize q_.W = w21 at HO_5 HO_6 BK138 BK139 HB hx146_0 hx146_1 ⊢
         try simp only [i64_w, i32_w]
         try go_wp2
         go_meet
         case rel => exact ⟨_, (true), (by first | rfl | (simp; done) | (simp [*]; done)), H', ⟨by have := HK1.out; first | omega | exact Nat.le_refl _⟩, ⟨by (with_reducible repeat (first | apply Kd.R_alloc | apply Kd.R_drewN | apply Kd.R_drew)); exact HO_5.out⟩, ⟨by (with_reducible repeat (first | apply Kd.R_alloc | apply Kd.R_drewN | apply Kd.R_drew)); exact HO_6.out⟩, ⟨by (with_reducible repeat (first | refine blk_drewN ?_ _ | refine blk_drew ?_ | refine blk_alloc ?_ _)); exact BK138.out⟩, ⟨by (with_reducible repeat (first | refine blk_drewN ?_ _ | refine blk_drew ?_ | refine blk_alloc ?_ _)); exact BK139.out⟩, ⟨Hd.b_⟩⟩
        ·
         replace c18 := Bool.eq_false_iff.mpr c18
         subst c18
         have H1 : (if x7_1 ≥ 2 then ((spec_IsOn.f a0_0 a0_1 a0_2 a0_3 ((rd_T49 y143 x7_1).f0) ((rd_T49 y143 x7_1).f1)).bind fun t149 => (spec_l5Shared.j1 k1 x5_1 y143 x7_1 t149 a0_0 a0_1 a0_2 a0_3 a1_0 a1_1 a1_2 a1_3)) else (spec_l5Shared.j1 k1 x5_1 y143 x7_1 false a0_0 a0_1 a0_2 a0_3 a1_0 a1_1 a1_2 a1_3)) = some r := by rw [if_neg (show ¬ (false = true) by decide)] at H; exact H
         clear H
         have H := H1
         clear H1
         by_cases c22 : x7_1 ≥ 2
         ·
          rw [if_pos c22] at H
          have c22b0 : decide (2 ≤ x7_1) = true := decide_eq_true c22
          clear c22
          replace H := Option.bind_eq_some_iff.mp H
          obtain ⟨t149, A230, H⟩ := H
          replace H : (spec_l5Shared.j1 k1 x5_1 y143 x7_1 t149 a0_0 a0_1 a0_2 a0_3 a1_0 a1_1 a1_2 a1_3) = some r := H
          have A23 := Aside0.mk A230
          clear A230
          have H' := Aside0.mk H
          clear H
          try go_wp2
          replace HO_5 := Aside0.mk (Kd.R_drew HO_5.out)
          replace HO_6 := Aside0.mk (Kd.R_drew HO_6.out)
          replace BK138 := Aside0.mk (blk_drew BK138.out)
          replace BK139 := Aside0.mk (blk_drew BK139.out)
          replace HB := Aside0.mk (below_drew1 HB.out)
          obtain ⟨Ao25, co25, eo25⟩ := Kd.R_slice HO_6.out
          (first | subst eo25 | (injection eo25 with f1_ f2_ f3_; have f4_ := f1_.symm; have f5_ := f3_.symm; clear f1_ f2_ f3_; subst f4_; subst f5_))
          have p146 : 0 ≤ (x7_1 : Int) := of_decide_eq_true Hd.a_
          have q146 : x7_1 < (y143.length : Int) := of_decide_eq_true Hd.a_
          obtain ⟨ad146, e146, hx146_0, hx146_1⟩ := at_T49 (Kd.R_reads' HO_6.out).2.2 x7_1 p146 q146
          cases e146
          replace p146 := eq_true p146
          replace q146 := eq_true q146
          have p148 : 0 ≤ (x7_1 : Int) := of_decide_eq_true Hd.a_
          have q148 : x7_1 < (y143.length : Int) := of_decide_eq_true Hd.a_
          obtain ⟨ad148, e148, hx148_0, hx148_1⟩ := at_T49 (Kd.R_reads' HO_6.out).2.2 x7_1 p148 q148
          obtain rfl : ad146 = ad148 := (by injection e148)
          replace p148 := eq_true p148
          replace q148 := eq_true q148
          obtain ⟨s0_, s1_, s2_, s3_⟩ := Hd.HW.k4 (W0 := wr.drew) BK139
          obtain ⟨s4_, s5_, s6_, s7_⟩ := Hd.HW.k4 (W0 := wr.drew) BK138
          have s8_ := Hd.HW.x (W0 := wr.drew) hx146_0
          have s9_ := Hd.HW.x (W0 := wr.drew) hx146_1
          have s10_ := Hd.HW.x (W0 := wr.drew) hx148_0
          have s11_ := Hd.HW.x (W0 := wr.drew) hx148_1
          refine Hd.HW.region (by kernel_rfl) (by kernel_rfl) ?_
          repeat (go_big_quiet_step ((first | (go_at_call 167; with_reducible exact Hd.HW.c (spec_IsOn.calls a1_0 a1_1 a1_2 a1_3 ((rd_T49 y143 x7_1).f0) ((rd_T49 y143 x7_1).f1) false _ A17.out)) | (go_at_call 167; with_reducible exact Hd.HW.c (spec_IsOn.calls a0_0 a0_1 a0_2 a0_3 ((rd_T49 y143 x7_1).f0) ((rd_T49 y143 x7_1).f1) t149 _ A23.out)))))
          refine wpQuiet_nil ?_
          intro _ hq_
          obtain ⟨q_, rfl⟩ := hq_
          clear s0_ s1_ s2_ s3_ s4_ s5_ s6_ s7_ s8_ s9_ s10_ s11_
          replace HO_5 := Aside0.mk (Kd.R_below HO_5.out q_.b)
          replace HO_6 := Aside0.mk (Kd.R_below HO_6.out q_.b)
          replace BK138 := Aside0.mk (blk_below BK138.out q_.b)
          replace BK139 := Aside0.mk (blk_below BK139.out q_.b)
          replace HB := Aside0.mk (below_step HB.out q_.b)
          replace hx146_0 := q_.cell hx146_0
          replace hx146_1 := q_.cell hx146_1
          replace hx148_0 := q_.cell hx148_0
          replace hx148_1 := q_.cell hx148_1
          generalize q_.W = w27 at HO_5 HO_6 BK138 BK139 HB hx146_0 hx146_1 hx148_0 hx148_1 ⊢
          try simp only [i64_w, i32_w]
          try go_wp2
          go_meet
          case rel => exact ⟨_, (t149), (by first | rfl | (simp; done) | (simp [*]; done)), H', ⟨by have := HK1.out; first | omega | exact Nat.le_refl _⟩, ⟨by (with_reducible repeat (first | apply Kd.R_alloc | apply Kd.R_drewN | apply Kd.R_drew)); exact HO_5.out⟩, ⟨by (with_reducible repeat (first | apply Kd.R_alloc | apply Kd.R_drewN | apply Kd.R_drew)); exact HO_6.out⟩, ⟨by (with_reducible repeat (first | refine blk_drewN ?_ _ | refine blk_drew ?_ | refine blk_alloc ?_ _)); exact BK138.out⟩, ⟨by (with_reducible repeat (first | refine blk_drewN ?_ _ | refine blk_drew ?_ | refine blk_alloc ?_ _)); exact BK139.out⟩, ⟨Hd.b_⟩⟩
         ·
          rw [if_neg c22] at H
          have c22b0 : decide (2 ≤ x7_1) = false := decide_eq_false c22
          clear c22
          have H' := Aside0.mk H
          clear H
          try go_wp2
          replace HO_5 := Aside0.mk (Kd.R_drew HO_5.out)
          replace HO_6 := Aside0.mk (Kd.R_drew HO_6.out)
          replace BK138 := Aside0.mk (blk_drew BK138.out)
          replace BK139 := Aside0.mk (blk_drew BK139.out)
          replace HB := Aside0.mk (below_drew1 HB.out)
          obtain ⟨Ao29, co29, eo29⟩ := Kd.R_slice HO_6.out
          (first | subst eo29 | (injection eo29 with f1_ f2_ f3_; have f4_ := f1_.symm; have f5_ := f3_.symm; clear f1_ f2_ f3_; subst f4_; subst f5_))
          have p146 : 0 ≤ (x7_1 : Int) := of_decide_eq_true Hd.a_
          have q146 : x7_1 < (y143.length : Int) := of_decide_eq_true Hd.a_
          obtain ⟨ad146, e146, hx146_0, hx146_1⟩ := at_T49 (Kd.R_reads' HO_6.out).2.2 x7_1 p146 q146
          cases e146
          replace p146 := eq_true p146
          replace q146 := eq_true q146
          obtain ⟨s0_, s1_, s2_, s3_⟩ := Hd.HW.k4 (W0 := wr.drew) BK139
          have s4_ := Hd.HW.x (W0 := wr.drew) hx146_0
          have s5_ := Hd.HW.x (W0 := wr.drew) hx146_1
          refine Hd.HW.region (by kernel_rfl) (by kernel_rfl) ?_
          repeat (go_big_quiet_step ((first | (go_at_call 167; with_reducible exact Hd.HW.c (spec_IsOn.calls a1_0 a1_1 a1_2 a1_3 ((rd_T49 y143 x7_1).f0) ((rd_T49 y143 x7_1).f1) false _ A17.out)))))
          refine wpQuiet_nil ?_
          intro _ hq_
          obtain ⟨q_, rfl⟩ := hq_
          clear s0_ s1_ s2_ s3_ s4_ s5_
          replace HO_5 := Aside0.mk (Kd.R_below HO_5.out q_.b)
          replace HO_6 := Aside0.mk (Kd.R_below HO_6.out q_.b)
          replace BK138 := Aside0.mk (blk_below BK138.out q_.b)
          replace BK139 := Aside0.mk (blk_below BK139.out q_.b)
          replace HB := Aside0.mk (below_step HB.out q_.b)
          replace hx146_0 := q_.cell hx146_0
          replace hx146_1 := q_.cell hx146_1
          generalize q_.W = w30 at HO_5 HO_6 BK138 BK139 HB hx146_0 hx146_1 ⊢
          try simp only [i64_w, i32_w]
          try go_wp2
          go_meet
          case rel => exact ⟨_, (false), (by first | rfl | (simp; done) | (simp [*]; done)), H', ⟨by have := HK1.out; first | omega | exact Nat.le_refl _⟩, ⟨by (with_reducible repeat (first | apply Kd.R_alloc | apply Kd.R_drewN | apply Kd.R_drew)); exact HO_5.out⟩, ⟨by (with_reducible repeat (first | apply Kd.R_alloc | apply Kd.R_drewN | apply Kd.R_drew)); exact HO_6.out⟩, ⟨by (with_reducible repeat (first | refine blk_drewN ?_ _ | refine blk_drew ?_ | refine blk_alloc ?_ _)); exact BK138.out⟩, ⟨by (with_reducible repeat (first | refine blk_drewN ?_ _ | refine blk_drew ?_ | refine blk_alloc ?_ _)); exact BK139.out⟩, ⟨Hd.b_⟩⟩
       ·
        rw [if_neg c16] at H
        exact absurd H (by simp)
      ·
       rw [if_neg c15] at H
       exact absurd H (by simp)
     ·
      rw [if_neg c14] at H
      have c14b0 : decide (x7_1 < 2) = false := decide_eq_false c14
      clear c14
      (first | rw [c14b0] | (simp only [i64_w, i32_w]; rw [c14b0]) | skip)
      by_cases c31 : x7_1 ≥ 2
      ·
       rw [if_pos c31] at H
       have c31b0 : decide (2 ≤ x7_1) = true := decide_eq_true c31
       clear c31
       by_cases c32 : 0 ≤ x7_1
       ·
        rw [if_pos c32] at H
        have c32b0 : decide (0 ≤ x7_1) = true := decide_eq_true c32
        clear c32
        by_cases c33 : x7_1 < (y143.length : Int)
        ·
         rw [if_pos c33] at H
         have c33b0 : decide (x7_1 < (y143.length : Int)) = true := decide_eq_true c33
         clear c33
         replace H := Option.bind_eq_some_iff.mp H
         obtain ⟨t151, A340, H⟩ := H
         replace H : (spec_l5Shared.j1 k1 x5_1 y143 x7_1 t151 a0_0 a0_1 a0_2 a0_3 a1_0 a1_1 a1_2 a1_3) = some r := H
         have A34 := Aside0.mk A340
         clear A340
         have H' := Aside0.mk H
         clear H
         try go_wp2
         replace HO_5 := Aside0.mk (Kd.R_drew HO_5.out)
         replace HO_6 := Aside0.mk (Kd.R_drew HO_6.out)
         replace BK138 := Aside0.mk (blk_drew BK138.out)
         replace BK139 := Aside0.mk (blk_drew BK139.out)
         replace HB := Aside0.mk (below_drew1 HB.out)
         obtain ⟨Ao36, co36, eo36⟩ := Kd.R_slice HO_6.out
         (first | subst eo36 | (injection eo36 with f1_ f2_ f3_; have f4_ := f1_.symm; have f5_ := f3_.symm; clear f1_ f2_ f3_; subst f4_; subst f5_))
         have p150 : 0 ≤ (x7_1 : Int) := of_decide_eq_true Hd.a_
         have q150 : x7_1 < (y143.length : Int) := of_decide_eq_true Hd.a_
         obtain ⟨ad150, e150, hx150_0, hx150_1⟩ := at_T49 (Kd.R_reads' HO_6.out).2.2 x7_1 p150 q150
         cases e150
         replace p150 := eq_true p150
         replace q150 := eq_true q150
         obtain ⟨s0_, s1_, s2_, s3_⟩ := Hd.HW.k4 (W0 := wr.drew) BK138
         have s4_ := Hd.HW.x (W0 := wr.drew) hx150_0
         have s5_ := Hd.HW.x (W0 := wr.drew) hx150_1
         refine Hd.HW.region (by kernel_rfl) (by kernel_rfl) ?_
         repeat (go_big_quiet_step ((first | (go_at_call 167; with_reducible exact Hd.HW.c (spec_IsOn.calls a0_0 a0_1 a0_2 a0_3 ((rd_T49 y143 x7_1).f0) ((rd_T49 y143 x7_1).f1) t151 _ A34.out)))))
         refine wpQuiet_nil ?_
         intro _ hq_
         obtain ⟨q_, rfl⟩ := hq_
         clear s0_ s1_ s2_ s3_ s4_ s5_
         replace HO_5 := Aside0.mk (Kd.R_below HO_5.out q_.b)
         replace HO_6 := Aside0.mk (Kd.R_below HO_6.out q_.b)
         replace BK138 := Aside0.mk (blk_below BK138.out q_.b)
         replace BK139 := Aside0.mk (blk_below BK139.out q_.b)
         replace HB := Aside0.mk (below_step HB.out q_.b)
         replace hx150_0 := q_.cell hx150_0
         replace hx150_1 := q_.cell hx150_1
         generalize q_.W = w37 at HO_5 HO_6 BK138 BK139 HB hx150_0 hx150_1 ⊢
         try simp only [i64_w, i32_w]
         try go_wp2
         go_meet
         case rel => exact ⟨_, (t151), (by first | rfl | (simp; done) | (simp [*]; done)), H', ⟨by have := HK1.out; first | omega | exact Nat.le_refl _⟩, ⟨by (with_reducible repeat (first | apply Kd.R_alloc | apply Kd.R_drewN | apply Kd.R_drew)); exact HO_5.out⟩, ⟨by (with_reducible repeat (first | apply Kd.R_alloc | apply Kd.R_drewN | apply Kd.R_drew)); exact HO_6.out⟩, ⟨by (with_reducible repeat (first | refine blk_drewN ?_ _ | refine blk_drew ?_ | refine blk_alloc ?_ _)); exact BK138.out⟩, ⟨by (with_reducible repeat (first | refine blk_drewN ?_ _ | refine blk_drew ?_ | refine blk_alloc ?_ _)); exact BK139.out⟩, ⟨Hd.b_⟩⟩
        ·
         rw [if_neg c33] at H
         exact absurd H (by simp)
       ·
        rw [if_neg c32] at H
        exact absurd H (by simp)
      ·
       rw [if_neg c31] at H
       have c31b0 : decide (2 ≤ x7_1) = false := decide_eq_false c31
       clear c31
       have H' := Aside0.mk H
       clear H
       try go_wp2
       replace HO_5 := Aside0.mk (Kd.R_drew HO_5.out)
       replace HO_6 := Aside0.mk (Kd.R_drew HO_6.out)
       replace BK138 := Aside0.mk (blk_drew BK138.out)
       replace BK139 := Aside0.mk (blk_drew BK139.out)
       replace HB := Aside0.mk (below_drew1 HB.out)
       refine Hd.HW.region (by kernel_rfl) (by kernel_rfl) ?_
       repeat (go_big_quiet_step (fail))
       refine wpQuiet_nil ?_
       intro _ hq_
       obtain ⟨q_, rfl⟩ := hq_
       replace HO_5 := Aside0.mk (Kd.R_below HO_5.out q_.b)
       replace HO_6 := Aside0.mk (Kd.R_below HO_6.out q_.b)
       replace BK138 := Aside0.mk (blk_below BK138.out q_.b)
       replace BK139 := Aside0.mk (blk_below BK139.out q_.b)
       replace HB := Aside0.mk (below_step HB.out q_.b)
       generalize q_.W = w38 at HO_5 HO_6 BK138 BK139 HB ⊢
       try simp only [i64_w, i32_w]
       try go_wp2
       go_meet
       case rel => exact ⟨_, (false), (by first | rfl | (simp; done) | (simp [*]; done)), H', ⟨by have := HK1.out; first | omega | exact Nat.le_refl _⟩, ⟨by (with_reducible repeat (first | apply Kd.R_alloc | apply Kd.R_drewN | apply Kd.R_drew)); exact HO_5.out⟩, ⟨by (with_reducible repeat (first | apply Kd.R_alloc | apply Kd.R_drewN | apply Kd.R_drew)); exact HO_6.out⟩, ⟨by (with_reducible repeat (first | refine blk_drewN ?_ _ | refine blk_drew ?_ | refine blk_alloc ?_ _)); exact BK138.out⟩, ⟨by (with_reducible repeat (first | refine blk_drewN ?_ _ | refine blk_drew ?_ | refine blk_alloc ?_ _)); exact BK139.out⟩, ⟨Hd.b_⟩⟩
    case rest =>
     clear HC13
     try clear c1
     try clear p1
     try clear q1
     try clear hx1
     try clear p2
     try clear c3
     try clear c14
     try clear c14b0
     try clear c15
     try clear p15
     try clear q15
     try clear hx15
     try clear c16
     try clear c31
     try clear c31b0
     try clear c32
     try clear c32b0
     try clear c33
     try clear c33b0
     try clear hx150_0
     try clear hx150_1
     try clear p150
     try clear q150
     obtain ⟨kq, x8_12, rfl, HA, HJ12, HO_5, HO_6, BK138, BK139, HB⟩ := hcut
     cases kq with
     | zero => exact absurd HA.out (by simp [spec_l5Shared.j1])
     | succ kj12 =>
      have H := HA.out
      clear HA
      simp only [spec_l5Shared.j1] at H
      have H' := Aside0.mk H
      clear H
      go_wp2
      go_loopg [8, 9] kj12 (fun kq v8 v9 w' => ∃ (x8_3 : Bool) (x9_3 : Int), v8 = .bool x8_3 ∧ v9 = .int .i64 x9_3 ∧ Aside0 (spec_l5Shared.l1 kq x5_1 y143 x7_1 x8_3 x9_3 a0_0 a0_1 a0_2 a0_3 a1_0 a1_1 a1_2 a1_3 = some r) ∧ Aside0 (kq ≤ kj12) ∧ Aside0 (Kd.R k49 49 w' w.heap.size (fun k_ => some k_ ≠ (v144 : Value).ownBlock) u5 x5_1) ∧ Aside0 (Kd.R k49 49 w' w.heap.size (fun k_ => some k_ ≠ (u5 : Value).ownBlock) v144 y143) ∧ Aside0 (w'.heap[gb138]? = some (.cells #[.int .i64 a0_0, .int .i64 a0_1, .int .i64 a0_2, .int .i64 a0_3] 111 (0, 0))) ∧ Aside0 (w'.heap[gb139]? = some (.cells #[.int .i64 a1_0, .int .i64 a1_1, .int .i64 a1_2, .int .i64 a1_3] 111 (0, 0))) ∧ Aside0 (Below w.heap.size w w'))
      case atStart => exact ⟨(x8_12), (0), (by first | rfl | (simp; done) | (simp [*]; done)), (by first | rfl | (simp; done) | (simp [*]; done)), H', ⟨Nat.le_refl _⟩, ⟨by (with_reducible repeat (first | apply Kd.R_alloc | apply Kd.R_drewN | apply Kd.R_drew)); exact HO_5.out⟩, ⟨by (with_reducible repeat (first | apply Kd.R_alloc | apply Kd.R_drewN | apply Kd.R_drew)); exact HO_6.out⟩, ⟨by (with_reducible repeat (first | refine blk_drewN ?_ _ | refine blk_drew ?_ | refine blk_alloc ?_ _)); exact BK138.out⟩, ⟨by (with_reducible repeat (first | refine blk_drewN ?_ _ | refine blk_drew ?_ | refine blk_alloc ?_ _)); exact BK139.out⟩, ⟨Hd.b_⟩⟩
      case round =>
       clear H'
       try clear c1
       try clear p1
       try clear q1
       try clear hx1
       try clear p2
       try clear c3
       try clear c14
       try clear c14b0
       try clear c15
       try clear p15
       try clear q15
       try clear hx15
       try clear c16
       try clear c31
       try clear c31b0
       try clear c32
       try clear c32b0
       try clear c33
       try clear c33b0
       try clear hx150_0
       try clear hx150_1
       try clear p1
       try clear p15
       try clear p150
       try clear p2
       try clear q1
       try clear q15
       try clear q150
       obtain ⟨x8_3, x9_3, rfl, rfl, HA, HK3, HO_5, HO_6, BK138, BK139, HB⟩ := hrel
       cases gk with
       | zero => exact absurd HA.out (by simp [spec_l5Shared.l1])
       | succ k3 =>
        have H := HA.out
        clear HA
        simp only [spec_l5Shared.l1] at H
        by_cases c39 : x9_3 < (x5_1.length : Int)
        ·
         rw [if_pos c39] at H
         have c39b0 : decide (x9_3 < (x5_1.length : Int)) = true := decide_eq_true c39
         clear c39
         by_cases c40 : x8_3 = true
         ·
          subst c40
          have H1 : (if 0 ≤ x9_3 then (if 0 ≤ x7_1 then (if x7_1 < (y143.length : Int) then (spec_l5Shared.l1 k3 x5_1 y143 x7_1 (!(((rd_T49 x5_1 x9_3).f0) == ((rd_T49 y143 x7_1).f0)) || (!(((rd_T49 x5_1 x9_3).f1) == ((rd_T49 y143 x7_1).f1)))) (wrap64 (x9_3 + 1)) a0_0 a0_1 a0_2 a0_3 a1_0 a1_1 a1_2 a1_3) else (none)) else (none)) else (none)) = some r := by rw [if_pos rfl] at H; exact H
          clear H
          have H := H1
          clear H1
          by_cases c41 : 0 ≤ x9_3
          ·
           rw [if_pos c41] at H
           have c41b0 : decide (0 ≤ x9_3) = true := decide_eq_true c41
           clear c41
           by_cases c42 : 0 ≤ x7_1
           ·
            rw [if_pos c42] at H
            have c42b0 : decide (0 ≤ x7_1) = true := decide_eq_true c42
            clear c42
            by_cases c43 : x7_1 < (y143.length : Int)
            ·
             rw [if_pos c43] at H
             have c43b0 : decide (x7_1 < (y143.length : Int)) = true := decide_eq_true c43
             clear c43
             have H' := Aside0.mk H
             clear H
             obtain ⟨Ao44, co44, eo44⟩ := Kd.R_slice HO_5.out
             subst eo44
             try go_wp2
             replace HO_5 := Aside0.mk (Kd.R_drew HO_5.out)
             replace HO_6 := Aside0.mk (Kd.R_drew HO_6.out)
             replace BK138 := Aside0.mk (blk_drew BK138.out)
             replace BK139 := Aside0.mk (blk_drew BK139.out)
             replace HB := Aside0.mk (below_drew1 HB.out)
             have p152 : 0 ≤ (x9_3 : Int) := of_decide_eq_true Hd.a_
             have q152 : x9_3 < (x5_1.length : Int) := of_decide_eq_true Hd.a_
             obtain ⟨ad152, e152, hx152_0, hx152_1⟩ := at_T49 (Kd.R_reads' HO_5.out).2.2 x9_3 p152 q152
             cases e152
             replace p152 := eq_true p152
             replace q152 := eq_true q152
             obtain ⟨Ao46, co46, eo46⟩ := Kd.R_slice HO_6.out
             (first | subst eo46 | (injection eo46 with f1_ f2_ f3_; have f4_ := f1_.symm; have f5_ := f3_.symm; clear f1_ f2_ f3_; subst f4_; subst f5_))
             have p153 : 0 ≤ (x7_1 : Int) := of_decide_eq_true Hd.a_
             have q153 : x7_1 < (y143.length : Int) := of_decide_eq_true Hd.a_
             obtain ⟨ad153, e153, hx153_0, hx153_1⟩ := at_T49 (Kd.R_reads' HO_6.out).2.2 x7_1 p153 q153
             cases e153
             replace p153 := eq_true p153
             replace q153 := eq_true q153
             have s0_ := Hd.HW.x (W0 := wr.drew) hx152_0
             have s1_ := Hd.HW.x (W0 := wr.drew) hx152_1
             have s2_ := Hd.HW.x (W0 := wr.drew) hx153_0
             have s3_ := Hd.HW.x (W0 := wr.drew) hx153_1
             refine Hd.HW.region (by kernel_rfl) (by kernel_rfl) ?_
             repeat (go_big_quiet_step (fail))
             refine wpQuiet_nil ?_
             intro _ hq_
             obtain ⟨q_, rfl⟩ := hq_
             clear s0_ s1_ s2_ s3_
             replace HO_5 := Aside0.mk (Kd.R_below HO_5.out q_.b)
             replace HO_6 := Aside0.mk (Kd.R_below HO_6.out q_.b)
             replace BK138 := Aside0.mk (blk_below BK138.out q_.b)
             replace BK139 := Aside0.mk (blk_below BK139.out q_.b)
             replace HB := Aside0.mk (below_step HB.out q_.b)
             replace hx152_0 := q_.cell hx152_0
             replace hx152_1 := q_.cell hx152_1
             replace hx153_0 := q_.cell hx153_0
             replace hx153_1 := q_.cell hx153_1
             generalize q_.W = w45 at HO_5 HO_6 BK138 BK139 HB hx152_0 hx152_1 hx153_0 hx153_1 ⊢
             try simp only [i64_w, i32_w]
             try go_wp2
             go_roundg k3
             case measure => have := HK1.out; have := HJ12.out; have := HK3.out; omega
             case rel => exact ⟨((!(((rd_T49 x5_1 x9_3).f0) == ((rd_T49 y143 x7_1).f0)) || (!(((rd_T49 x5_1 x9_3).f1) == ((rd_T49 y143 x7_1).f1))))), (wrap64 (x9_3 + 1)), (by first | rfl | (simp; done) | (simp [*]; done)), (by first | rfl | (simp; done) | (simp [*]; done)), H', ⟨by have := HK1.out; have := HJ12.out; have := HK3.out; omega⟩, ⟨by (with_reducible repeat (first | apply Kd.R_alloc | apply Kd.R_drewN | apply Kd.R_drew)); exact HO_5.out⟩, ⟨by (with_reducible repeat (first | apply Kd.R_alloc | apply Kd.R_drewN | apply Kd.R_drew)); exact HO_6.out⟩, ⟨by (with_reducible repeat (first | refine blk_drewN ?_ _ | refine blk_drew ?_ | refine blk_alloc ?_ _)); exact BK138.out⟩, ⟨by (with_reducible repeat (first | refine blk_drewN ?_ _ | refine blk_drew ?_ | refine blk_alloc ?_ _)); exact BK139.out⟩, ⟨Hd.b_⟩⟩
            ·
             rw [if_neg c43] at H
             exact absurd H (by simp)
           ·
            rw [if_neg c42] at H
            exact absurd H (by simp)
          ·
           rw [if_neg c41] at H
           exact absurd H (by simp)
         ·
          replace c40 := Bool.eq_false_iff.mpr c40
          subst c40
          have H1 : (spec_l5Shared.l1 k3 x5_1 y143 x7_1 false (wrap64 (x9_3 + 1)) a0_0 a0_1 a0_2 a0_3 a1_0 a1_1 a1_2 a1_3) = some r := by rw [if_neg (show ¬ (false = true) by decide)] at H; exact H
          clear H
          have H := H1
          clear H1
          have H' := Aside0.mk H
          clear H
          obtain ⟨Ao47, co47, eo47⟩ := Kd.R_slice HO_5.out
          subst eo47
          try go_wp2
          replace HO_5 := Aside0.mk (Kd.R_drew HO_5.out)
          replace HO_6 := Aside0.mk (Kd.R_drew HO_6.out)
          replace BK138 := Aside0.mk (blk_drew BK138.out)
          replace BK139 := Aside0.mk (blk_drew BK139.out)
          replace HB := Aside0.mk (below_drew1 HB.out)
          refine Hd.HW.region (by kernel_rfl) (by kernel_rfl) ?_
          repeat (go_big_quiet_step (fail))
          refine wpQuiet_nil ?_
          intro _ hq_
          obtain ⟨q_, rfl⟩ := hq_
          replace HO_5 := Aside0.mk (Kd.R_below HO_5.out q_.b)
          replace HO_6 := Aside0.mk (Kd.R_below HO_6.out q_.b)
          replace BK138 := Aside0.mk (blk_below BK138.out q_.b)
          replace BK139 := Aside0.mk (blk_below BK139.out q_.b)
          replace HB := Aside0.mk (below_step HB.out q_.b)
          generalize q_.W = w48 at HO_5 HO_6 BK138 BK139 HB ⊢
          try simp only [i64_w, i32_w]
          try go_wp2
          go_roundg k3
          case measure => have := HK1.out; have := HJ12.out; have := HK3.out; omega
          case rel => exact ⟨(false), (wrap64 (x9_3 + 1)), (by first | rfl | (simp; done) | (simp [*]; done)), (by first | rfl | (simp; done) | (simp [*]; done)), H', ⟨by have := HK1.out; have := HJ12.out; have := HK3.out; omega⟩, ⟨by (with_reducible repeat (first | apply Kd.R_alloc | apply Kd.R_drewN | apply Kd.R_drew)); exact HO_5.out⟩, ⟨by (with_reducible repeat (first | apply Kd.R_alloc | apply Kd.R_drewN | apply Kd.R_drew)); exact HO_6.out⟩, ⟨by (with_reducible repeat (first | refine blk_drewN ?_ _ | refine blk_drew ?_ | refine blk_alloc ?_ _)); exact BK138.out⟩, ⟨by (with_reducible repeat (first | refine blk_drewN ?_ _ | refine blk_drew ?_ | refine blk_alloc ?_ _)); exact BK139.out⟩, ⟨Hd.b_⟩⟩
        ·
         rw [if_neg c39] at H
         have c39b0 : decide (x9_3 < (x5_1.length : Int)) = false := decide_eq_false c39
         clear c39
         by_cases c49 : x8_3 = true
         ·
          subst c49
          have H1 : (if 0 ≤ x7_1 then (if x7_1 < (y143.length : Int) then (if x5_1.length < 8796093022208 then (spec_l5Shared.l0 k3 (x5_1 ++ [(⟨(rd_T49 y143 x7_1).f0, (rd_T49 y143 x7_1).f1⟩ : S49)]) y143 (wrap64 (x7_1 + 1)) a0_0 a0_1 a0_2 a0_3 a1_0 a1_1 a1_2 a1_3) else (none)) else (none)) else (none)) = some r := by rw [if_pos rfl] at H; exact H
          clear H
          have H := H1
          clear H1
          by_cases c50 : 0 ≤ x7_1
          ·
           rw [if_pos c50] at H
           have c50b0 : decide (0 ≤ x7_1) = true := decide_eq_true c50
           clear c50
           by_cases c51 : x7_1 < (y143.length : Int)
           ·
            rw [if_pos c51] at H
            have c51b0 : decide (x7_1 < (y143.length : Int)) = true := decide_eq_true c51
            clear c51
            by_cases c52 : x5_1.length < 8796093022208
            ·
             rw [if_pos c52] at H
             have LMc52 := Aside0.mk c52
             clear c52
             obtain ⟨y155, hy155⟩ : ∃ y_ : List (S49), y_ = (x5_1 ++ [(⟨(rd_T49 y143 x7_1).f0, (rd_T49 y143 x7_1).f1⟩ : S49)]) := ⟨_, rfl⟩
             replace H : (spec_l5Shared.l0 k3 y155 y143 (wrap64 (x7_1 + 1)) a0_0 a0_1 a0_2 a0_3 a1_0 a1_1 a1_2 a1_3) = some r := by first | (rw [hy155]; with_reducible exact H) | (have H2_ := (Option.bind_some _ _).symm.trans H; rw [hy155]; with_reducible exact H2_) | (have H2_ := (Option.bind_some _ _).symm.trans H; with_reducible exact H2_) | with_reducible exact H | (rw [hy155]; exact H) | exact H
             have Ny155 := Aside0.mk hy155
             clear hy155
             have H' := Aside0.mk H
             clear H
             obtain ⟨Ao53, co53, eo53⟩ := Kd.R_slice HO_5.out
             subst eo53
             obtain ⟨Ao54, co54, eo54⟩ := Kd.R_slice HO_6.out
             subst eo54
             have p154 : 0 ≤ (x7_1 : Int) := of_decide_eq_true Hd.a_
             have q154 : x7_1 < (y143.length : Int) := of_decide_eq_true Hd.a_
             obtain ⟨ad154, e154, hx154_0, hx154_1⟩ := at_T49 (Kd.R_reads' HO_6.out).2.2 x7_1 p154 q154
             cases e154
             replace p154 := eq_true p154
             replace q154 := eq_true q154
             go_wp2_with (first | ((with_reducible refine gate_builtin (b := .append) (xs := #[.tmp 65, .tmp 70]) rfl ?_); at_builtin; refine Kd.R_append k49 (w0 := w) w.heap.size rfl (.tmp 65) (.tmp 70) 28 49 (.agg #[(.int .i64 0), (.int .i64 0)]) 16 rfl Try.underlying28 info49 rfl (by decide) (by omega) (.slice Ao53 x5_1.length co53) x5_1 (⟨(rd_T49 y143 x7_1).f0, (rd_T49 y143 x7_1).f1⟩ : S49) [.int .i64 ((rd_T49 y143 x7_1).f0), .int .i64 ((rd_T49 y143 x7_1).f1)] (fun k_ => some k_ ≠ (.slice (some ad154) y143.length co54 : Value).ownBlock) (fun _ => False) rfl rfl ?aP (fun _ hk => hk.elim) ?aF ?aO ?aB ?aS ?aL ?_; (case aP => exact k49_mkM _ _ _ (⟨(rd_T49 y143 x7_1).f0, (rd_T49 y143 x7_1).f1⟩ : S49)); (case aB => exact Hd.b_); (case aF => exact (fun k_ hk => Kd.fresh' (Kd.R_lt (Hd.r_ HO_6)) k_ hk)); (case aO => exact (Hd.r_ HO_5)); (case aS => exact (below_size Hd.b_)); (case aL => have := LMc52.out; omega); intro v156 w55 ho hb hg hat; rw [← Ny155.out] at ho; have n0_ := Aside0.mk (Kd.R_after (ok := (fun _ => True)) (by (with_reducible repeat (first | apply Kd.R_alloc | apply Kd.R_drewN | apply Kd.R_drew)); exact Kd.R_mono HO_6.out (fun _ hk => ⟨trivial, hk⟩)) hg hat); have n1_ := Aside0.mk (blk_grown (g := gb138) (o := .cells #[.int .i64 a0_0, .int .i64 a0_1, .int .i64 a0_2, .int .i64 a0_3] 111 (0, 0)) (Hd.k_ BK138) hg (Kd.R_ne HO_5.out BK138.out (by decide))); have n2_ := Aside0.mk (blk_grown (g := gb139) (o := .cells #[.int .i64 a1_0, .int .i64 a1_1, .int .i64 a1_2, .int .i64 a1_3] 111 (0, 0)) (Hd.k_ BK139) hg (Kd.R_ne HO_5.out BK139.out (by decide))); have n3_ := Aside0.mk (hb); have n4_ := Aside0.mk (ho); clear HO_6; clear BK138; clear BK139; clear HB; clear HO_5; have HO_6 := n0_; have BK138 := n1_; have BK139 := n2_; have HB := n3_; have HO157 := n4_; clear n0_ n1_ n2_ n3_ n4_; clear ho hb hg hat))
             go_roundg k3
             case measure => have := HK1.out; have := HJ12.out; have := HK3.out; omega
             case rel => exact ⟨(y155), (wrap64 (x7_1 + 1)), (by first | rfl | (simp; done) | (simp [*]; done)), H', ⟨by have := HK1.out; have := HJ12.out; have := HK3.out; omega⟩, ⟨by (with_reducible repeat (first | apply Kd.R_alloc | apply Kd.R_drewN | apply Kd.R_drew)); exact HO157.out⟩, ⟨by (with_reducible repeat (first | apply Kd.R_alloc | apply Kd.R_drewN | apply Kd.R_drew)); exact Kd.R_mono HO_6.out (fun _ hk => hk.2)⟩, ⟨by (with_reducible repeat (first | refine blk_drewN ?_ _ | refine blk_drew ?_ | refine blk_alloc ?_ _)); exact BK138.out⟩, ⟨by (with_reducible repeat (first | refine blk_drewN ?_ _ | refine blk_drew ?_ | refine blk_alloc ?_ _)); exact BK139.out⟩, ⟨Hd.b_⟩⟩
            ·
             rw [if_neg c52] at H
             exact absurd H (by simp)
           ·
            rw [if_neg c51] at H
            exact absurd H (by simp)
          ·
           rw [if_neg c50] at H
           exact absurd H (by simp)
         ·
          replace c49 := Bool.eq_false_iff.mpr c49
          subst c49
          have H1 : (spec_l5Shared.l0 k3 x5_1 y143 (wrap64 (x7_1 + 1)) a0_0 a0_1 a0_2 a0_3 a1_0 a1_1 a1_2 a1_3) = some r := by rw [if_neg (show ¬ (false = true) by decide)] at H; exact H
          clear H
          have H := H1
          clear H1
          have H' := Aside0.mk H
          clear H
          obtain ⟨Ao56, co56, eo56⟩ := Kd.R_slice HO_5.out
          subst eo56
          go_wp2
          go_roundg k3
          case measure => have := HK1.out; have := HJ12.out; have := HK3.out; omega
          case rel => exact ⟨(x5_1), (wrap64 (x7_1 + 1)), (by first | rfl | (simp; done) | (simp [*]; done)), H', ⟨by have := HK1.out; have := HJ12.out; have := HK3.out; omega⟩, ⟨by (with_reducible repeat (first | apply Kd.R_alloc | apply Kd.R_drewN | apply Kd.R_drew)); exact HO_5.out⟩, ⟨by (with_reducible repeat (first | apply Kd.R_alloc | apply Kd.R_drewN | apply Kd.R_drew)); exact HO_6.out⟩, ⟨by (with_reducible repeat (first | refine blk_drewN ?_ _ | refine blk_drew ?_ | refine blk_alloc ?_ _)); exact BK138.out⟩, ⟨by (with_reducible repeat (first | refine blk_drewN ?_ _ | refine blk_drew ?_ | refine blk_alloc ?_ _)); exact BK139.out⟩, ⟨Hd.b_⟩⟩
   ·
    rw [if_neg c12] at H
    have c12b0 : decide (x7_1 < 4) = false := decide_eq_false c12
    clear c12
    obtain rfl := Option.some.inj H
    obtain ⟨Ao57, co57, eo57⟩ := Kd.R_slice HO_5.out
    subst eo57
    go_wp2
    go_ret
    exact ⟨Hd.e_, Hd.b_⟩
end Go.Proofs.Ytchmbcembbbplac.MFnExactDropCorner
