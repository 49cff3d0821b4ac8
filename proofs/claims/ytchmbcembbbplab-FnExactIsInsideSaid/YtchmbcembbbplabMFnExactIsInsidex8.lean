-- Laid by this session's program pp.py, after the kit's print and texts of the session's own. Not trusted: Lean checks it.
import Derived.Test.YtchmbcembbbplabMFnExactIsInsidex0
import Derived.Test.YtchmbcembbbplabMFnExactIsInsidex7
namespace Go.Proofs.Ytchmbcembbbplab.MFnExactIsInside
open Go.RowKit Go.Proofs.YtchmbcembbbplabW.PrintWords Go.Proofs.YtchmbcembbbplabW.PrintLast Go.Proofs.YtchmbcembbbplabW.PrintMore
attribute [local go_sem] max2_int min2_int max_two min_two max_three min_three max_four min_four   -- for this text's walks alone
set_option linter.unusedVariables false
set_option linter.unusedSimpArgs false

/-! ### spec_IsOn: function 113 -/
def spec_IsOn.f (a0_0 : Int) (a0_1 : Int) (a0_2 : Int) (a0_3 : Int) (a1_0 : Int) (a1_1 : Int) : Option (Bool) := (spec_IsSegment.f a0_0 a0_1 a0_2 a0_3).bind fun t233 => (if t233 = true then ((spec_IsPoint.f a1_0 a1_1).bind fun t234 => (if t234 = true then ((spec_l4Cross.f a0_0 a0_1 a0_2 a0_3 a1_0 a1_1).bind fun t235 => (if t235 = 0 then ((spec_Min.f a0_0 a0_2).bind fun t236 => ((spec_Max.f a0_0 a0_2).bind fun t237 => ((spec_l1In.f a1_0 t236 t237).bind fun t238 => (if t238 = true then ((spec_Min.f a0_1 a0_3).bind fun t239 => ((spec_Max.f a0_1 a0_3).bind fun t240 => ((spec_l1In.f a1_1 t239 t240).bind fun t241 => (some t241)))) else (some false))))) else (some false))) else (some false))) else (some false))
def spec_IsOn.T1 : Bool × List (List Nat × List Nat) := (true, [([], []), ([0], [0]), ([1, 1], [1]), ([2], [2]), ([3, 2, 2], [2, 3]), ([2, 4], [2, 4]), ([5, 4], [5]), ([6], [6]), ([7, 6], [6, 7]), ([6], [6]), ([9, 6], [6, 9]), ([6], [6]), ([8, 10, 11, 6, 6], [6, 8, 10, 11]), ([12, 6], [6, 12]), ([6, 13], [6, 13]), ([14, 12], [14]), ([15], [15]), ([16, 15], [15, 16]), ([15], [15]), ([18, 15], [15, 18]), ([19, 15], [15, 19]), ([15], [15]), ([21, 15], [15, 21]), ([22, 15], [15, 22]), ([20, 23, 15, 15], [15, 20, 23]), ([15], [15]), ([25, 15], [15, 25]), ([26, 15], [15, 26]), ([15], [15]), ([28, 15], [15, 28]), ([29, 15], [15, 29]), ([27, 30, 24, 15], [15, 27, 30]), ([17, 24, 31, 31, 15], [15, 17, 24, 31]), ([15, 32], [15, 32]), ([33, 32], [33]), ([34], [34]), ([35, 34], [34, 35]), ([34], [34]), ([37, 34], [34, 37]), ([38, 34], [34, 38]), ([34], [34]), ([40, 34], [34, 40]), ([41, 34], [34, 41]), ([39, 42, 34, 34], [34, 39, 42]), ([34], [34]), ([44, 34], [34, 44]), ([45, 34], [34, 45]), ([34], [34]), ([47, 34], [34, 47]), ([48, 34], [34, 48]), ([46, 49, 43, 34], [34, 46, 49]), ([36, 43, 50, 50, 34], [34, 36, 43, 50]), ([34, 51], [34, 51]), ([52, 51, 0, 1, 2, 3, 4, 5, 6, 7, 8, 9, 10, 11, 12, 13, 14, 15, 16, 17, 18, 19, 20, 21, 22, 23, 24, 25, 26, 27, 28, 29, 30, 31, 32, 33, 34, 35, 36, 37, 38, 39, 40, 41, 42, 43, 44, 45, 46, 47, 48, 49, 50, 51, 52], [52])])
def spec_IsOn.B1 : List Nat := [0, 1, 3, 7, 15, 31, 63, 127, 255, 127, 639, 127, 4095, 8191, 16383, 32767, 65535, 131071, 65535, 327679, 851967, 65535, 2162687, 6356991, 16580607, 65535, 33619967, 100728831, 65535, 268500991, 805371903, 2147287039, 4294967295, 8589934591, 17179869183, 34359738367, 68719476735, 34359738367, 171798691839, 446676598783, 34359738367, 1133871366143, 3332894621695, 8693013807103, 34359738367, 17626545782783, 52810917871615, 34359738367, 140771848093695, 422246824804351, 1125796827627519, 2251799813685247, 4503599627370495, 9007199254740991]
theorem spec_IsOn.tab1 : rtab .any (opsOf Try.f113 1) = spec_IsOn.T1 := by kernel_rfl
theorem spec_IsOn.bits1 : waitsOk spec_IsOn.T1.2 spec_IsOn.B1 = true := by kernel_rfl
set_option maxHeartbeats 8000000 in
set_option maxRecDepth 100000 in
theorem spec_IsOn.calls (a0_0 : Int) (a0_1 : Int) (a0_2 : Int) (a0_3 : Int) (a1_0 : Int) (a1_1 : Int) (r : Bool) (w : World) (h : spec_IsOn.f a0_0 a0_1 a0_2 a0_3 a1_0 a1_1 = some r) :
  Calls Try.prog 113 #[.agg #[.int .i64 a0_0, .int .i64 a0_1, .int .i64 a0_2, .int .i64 a0_3], .agg #[.int .i64 a1_0, .int .i64 a1_1]] w fun e w' => e = .returned (.bool r) ∧ Below w.heap.size w w' := by
 have hu60 := Try.underlying60
 have hu27 := Try.underlying27
 have HB := Aside0.mk (Below.refl w.heap.size w)
 have H : ((spec_IsSegment.f a0_0 a0_1 a0_2 a0_3).bind fun t233 => (if t233 = true then ((spec_IsPoint.f a1_0 a1_1).bind fun t234 => (if t234 = true then ((spec_l4Cross.f a0_0 a0_1 a0_2 a0_3 a1_0 a1_1).bind fun t235 => (if t235 = 0 then ((spec_Min.f a0_0 a0_2).bind fun t236 => ((spec_Max.f a0_0 a0_2).bind fun t237 => ((spec_l1In.f a1_0 t236 t237).bind fun t238 => (if t238 = true then ((spec_Min.f a0_1 a0_3).bind fun t239 => ((spec_Max.f a0_1 a0_3).bind fun t240 => ((spec_l1In.f a1_1 t239 t240).bind fun t241 => (some t241)))) else (some false))))) else (some false))) else (some false))) else (some false))) = some r := h
 clear h
 replace H := Option.bind_eq_some_iff.mp H
 obtain ⟨t233, A30, H⟩ := H
 replace H : (if t233 = true then ((spec_IsPoint.f a1_0 a1_1).bind fun t234 => (if t234 = true then ((spec_l4Cross.f a0_0 a0_1 a0_2 a0_3 a1_0 a1_1).bind fun t235 => (if t235 = 0 then ((spec_Min.f a0_0 a0_2).bind fun t236 => ((spec_Max.f a0_0 a0_2).bind fun t237 => ((spec_l1In.f a1_0 t236 t237).bind fun t238 => (if t238 = true then ((spec_Min.f a0_1 a0_3).bind fun t239 => ((spec_Max.f a0_1 a0_3).bind fun t240 => ((spec_l1In.f a1_1 t239 t240).bind fun t241 => (some t241)))) else (some false))))) else (some false))) else (some false))) else (some false)) = some r := H
 have A3 := Aside0.mk A30
 clear A30
 by_cases c4 : t233 = true
 ·
  subst c4
  have H1 : ((spec_IsPoint.f a1_0 a1_1).bind fun t234 => (if t234 = true then ((spec_l4Cross.f a0_0 a0_1 a0_2 a0_3 a1_0 a1_1).bind fun t235 => (if t235 = 0 then ((spec_Min.f a0_0 a0_2).bind fun t236 => ((spec_Max.f a0_0 a0_2).bind fun t237 => ((spec_l1In.f a1_0 t236 t237).bind fun t238 => (if t238 = true then ((spec_Min.f a0_1 a0_3).bind fun t239 => ((spec_Max.f a0_1 a0_3).bind fun t240 => ((spec_l1In.f a1_1 t239 t240).bind fun t241 => (some t241)))) else (some false))))) else (some false))) else (some false))) = some r := by rw [if_pos rfl] at H; exact H
  clear H
  have H := H1
  clear H1
  replace H := Option.bind_eq_some_iff.mp H
  obtain ⟨t234, A50, H⟩ := H
  replace H : (if t234 = true then ((spec_l4Cross.f a0_0 a0_1 a0_2 a0_3 a1_0 a1_1).bind fun t235 => (if t235 = 0 then ((spec_Min.f a0_0 a0_2).bind fun t236 => ((spec_Max.f a0_0 a0_2).bind fun t237 => ((spec_l1In.f a1_0 t236 t237).bind fun t238 => (if t238 = true then ((spec_Min.f a0_1 a0_3).bind fun t239 => ((spec_Max.f a0_1 a0_3).bind fun t240 => ((spec_l1In.f a1_1 t239 t240).bind fun t241 => (some t241)))) else (some false))))) else (some false))) else (some false)) = some r := H
  have A5 := Aside0.mk A50
  clear A50
  by_cases c6 : t234 = true
  ·
   subst c6
   have H1 : ((spec_l4Cross.f a0_0 a0_1 a0_2 a0_3 a1_0 a1_1).bind fun t235 => (if t235 = 0 then ((spec_Min.f a0_0 a0_2).bind fun t236 => ((spec_Max.f a0_0 a0_2).bind fun t237 => ((spec_l1In.f a1_0 t236 t237).bind fun t238 => (if t238 = true then ((spec_Min.f a0_1 a0_3).bind fun t239 => ((spec_Max.f a0_1 a0_3).bind fun t240 => ((spec_l1In.f a1_1 t239 t240).bind fun t241 => (some t241)))) else (some false))))) else (some false))) = some r := by rw [if_pos rfl] at H; exact H
   clear H
   have H := H1
   clear H1
   replace H := Option.bind_eq_some_iff.mp H
   obtain ⟨t235, A70, H⟩ := H
   replace H : (if t235 = 0 then ((spec_Min.f a0_0 a0_2).bind fun t236 => ((spec_Max.f a0_0 a0_2).bind fun t237 => ((spec_l1In.f a1_0 t236 t237).bind fun t238 => (if t238 = true then ((spec_Min.f a0_1 a0_3).bind fun t239 => ((spec_Max.f a0_1 a0_3).bind fun t240 => ((spec_l1In.f a1_1 t239 t240).bind fun t241 => (some t241)))) else (some false))))) else (some false)) = some r := H
   have A7 := Aside0.mk A70
   clear A70
   by_cases c8 : t235 = 0
   ·
    rw [if_pos c8] at H
    have c8b0 : (t235 == 0) = true := beq_iff_eq.mpr c8
    have c8b1 : (t235 != 0) = false := bne_eq_false_iff_eq.mpr c8
    clear c8
    replace H := Option.bind_eq_some_iff.mp H
    obtain ⟨t236, A90, H⟩ := H
    replace H : ((spec_Max.f a0_0 a0_2).bind fun t237 => ((spec_l1In.f a1_0 t236 t237).bind fun t238 => (if t238 = true then ((spec_Min.f a0_1 a0_3).bind fun t239 => ((spec_Max.f a0_1 a0_3).bind fun t240 => ((spec_l1In.f a1_1 t239 t240).bind fun t241 => (some t241)))) else (some false)))) = some r := H
    have A9 := Aside0.mk A90
    clear A90
    replace H := Option.bind_eq_some_iff.mp H
    obtain ⟨t237, A100, H⟩ := H
    replace H : ((spec_l1In.f a1_0 t236 t237).bind fun t238 => (if t238 = true then ((spec_Min.f a0_1 a0_3).bind fun t239 => ((spec_Max.f a0_1 a0_3).bind fun t240 => ((spec_l1In.f a1_1 t239 t240).bind fun t241 => (some t241)))) else (some false))) = some r := H
    have A10 := Aside0.mk A100
    clear A100
    replace H := Option.bind_eq_some_iff.mp H
    obtain ⟨t238, A110, H⟩ := H
    replace H : (if t238 = true then ((spec_Min.f a0_1 a0_3).bind fun t239 => ((spec_Max.f a0_1 a0_3).bind fun t240 => ((spec_l1In.f a1_1 t239 t240).bind fun t241 => (some t241)))) else (some false)) = some r := H
    have A11 := Aside0.mk A110
    clear A110
    by_cases c12 : t238 = true
    ·
     subst c12
     have H1 : ((spec_Min.f a0_1 a0_3).bind fun t239 => ((spec_Max.f a0_1 a0_3).bind fun t240 => ((spec_l1In.f a1_1 t239 t240).bind fun t241 => (some t241)))) = some r := by rw [if_pos rfl] at H; exact H
     clear H
     have H := H1
     clear H1
     replace H := Option.bind_eq_some_iff.mp H
     obtain ⟨t239, A130, H⟩ := H
     replace H : ((spec_Max.f a0_1 a0_3).bind fun t240 => ((spec_l1In.f a1_1 t239 t240).bind fun t241 => (some t241))) = some r := H
     have A13 := Aside0.mk A130
     clear A130
     replace H := Option.bind_eq_some_iff.mp H
     obtain ⟨t240, A140, H⟩ := H
     replace H : ((spec_l1In.f a1_1 t239 t240).bind fun t241 => (some t241)) = some r := H
     have A14 := Aside0.mk A140
     clear A140
     replace H := Option.bind_eq_some_iff.mp H
     obtain ⟨t241, A150, H⟩ := H
     replace H : (some t241) = some r := H
     have A15 := Aside0.mk A150
     clear A150
     obtain rfl := Option.some.inj H
     go_enter Try.func113, Try.ntmps113
     try go_wp2_with (first | ((with_reducible refine gate_dst (N := 2) rfl ?_); refine Hd.box_ 2 (#[.int .i64 a0_0, .int .i64 a0_1, .int .i64 a0_2, .int .i64 a0_3]) 60 ?_; intro gb231 hg w16 hbox hb; have BK231 := Aside0.mk (hbox); have GW231 := Aside0.mk ((Hd.g_ hg Hd.b_ : w.heap.size ≤ gb231)); have GE231 := Aside0.mk ((Hd.g_ hg Hd.b_ : w.heap.size ≤ gb231)); replace HB := Aside0.mk (below_step Hd.b_ hb); clear hb hbox hg) | ((with_reducible refine gate_dst (N := 3) rfl ?_); refine Hd.box_ 3 (#[.int .i64 a1_0, .int .i64 a1_1]) 27 ?_; intro gb232 hg w17 hbox hb; have BK232 := Aside0.mk (hbox); have GW232 := Aside0.mk ((Hd.g_ hg Hd.b_ : w.heap.size ≤ gb232)); have GE232 := Aside0.mk ((Hd.g_ hg Hd.b_ : w.heap.size ≤ gb232)); replace HB := Aside0.mk (below_step Hd.b_ hb); have NB231_232 := Aside0.mk ((Hd.lt_ BK231 hg)); have NB232_231 := Aside0.mk ((Hd.gt_ BK231 hg)); replace BK231 := Aside0.mk (Hd.kb_ BK231 hb); clear hb hbox hg))
     replace BK231 := Aside0.mk (blk_drew BK231.out)
     replace BK232 := Aside0.mk (blk_drew BK232.out)
     replace HB := Aside0.mk (below_drew1 HB.out)
     have S_ : (fun w' : World => w'.cell? ⟨gb231, 0, none⟩ = some (.int .i64 a0_0) ∧ w'.cell? ⟨gb231, 1, none⟩ = some (.int .i64 a0_1) ∧ w'.cell? ⟨gb231, 2, none⟩ = some (.int .i64 a0_2) ∧ w'.cell? ⟨gb231, 3, none⟩ = some (.int .i64 a0_3) ∧ w'.cell? ⟨gb232, 0, none⟩ = some (.int .i64 a1_0) ∧ w'.cell? ⟨gb232, 1, none⟩ = some (.int .i64 a1_1)) w17.drew := ⟨(blk_cell BK231.out 0).trans rfl, (blk_cell BK231.out 1).trans rfl, (blk_cell BK231.out 2).trans rfl, (blk_cell BK231.out 3).trans rfl, (blk_cell BK232.out 0).trans rfl, (blk_cell BK232.out 1).trans rfl⟩
     obtain ⟨s0_, s1_, s2_, s3_, s4_, s5_⟩ := S_
     replace s0_ := fun q : Hd.HW w17.drew => q.cell s0_
     replace s1_ := fun q : Hd.HW w17.drew => q.cell s1_
     replace s2_ := fun q : Hd.HW w17.drew => q.cell s2_
     replace s3_ := fun q : Hd.HW w17.drew => q.cell s3_
     replace s4_ := fun q : Hd.HW w17.drew => q.cell s4_
     replace s5_ := fun q : Hd.HW w17.drew => q.cell s5_
     refine Hd.HW.region (by kernel_rfl) (by kernel_rfl) ?_
     try dsimp only [List.append]
     repeat (go_big_quiet_step ((first | (go_at_call 118; with_reducible exact Hd.HW.c (spec_IsSegment.calls a0_0 a0_1 a0_2 a0_3 true _ A3.out)) | (go_at_call 111; with_reducible exact Hd.HW.c (spec_IsPoint.calls a1_0 a1_1 true _ A5.out)) | (go_at_call 99; with_reducible exact Hd.HW.c (spec_l4Cross.calls a0_0 a0_1 a0_2 a0_3 a1_0 a1_1 t235 _ A7.out)) | (go_at_call 134; with_reducible exact Hd.HW.d (spec_Min.calls a0_0 a0_2 t236 _ A9.out)) | (go_at_call 100; with_reducible exact Hd.HW.d (spec_Max.calls a0_0 a0_2 t237 _ A10.out)) | (go_at_call 88; with_reducible exact Hd.HW.d (spec_l1In.calls a1_0 t236 t237 true _ A11.out)) | (go_at_call 134; with_reducible exact Hd.HW.d (spec_Min.calls a0_1 a0_3 t239 _ A13.out)) | (go_at_call 100; with_reducible exact Hd.HW.d (spec_Max.calls a0_1 a0_3 t240 _ A14.out)) | (go_at_call 88; with_reducible exact Hd.HW.d (spec_l1In.calls a1_1 t239 t240 t241 _ A15.out)))))
     refine wpQuiet_nil ?_
     intro _ hq_
     obtain ⟨q_, rfl⟩ := hq_
     clear s0_ s1_ s2_ s3_ s4_ s5_
     replace BK231 := Aside0.mk (blk_below BK231.out q_.b)
     replace BK232 := Aside0.mk (blk_below BK232.out q_.b)
     replace HB := Aside0.mk (below_step HB.out q_.b)
     generalize q_.W = w21 at BK231 BK232 HB ⊢
     try simp only [i64_w, i32_w]
     try go_wp2
     go_ret
     exact ⟨Hd.e_, Hd.b_⟩
    ·
     replace c12 := Bool.eq_false_iff.mpr c12
     subst c12
     have H1 : (some false) = some r := by rw [if_neg (show ¬ (false = true) by decide)] at H; exact H
     clear H
     have H := H1
     clear H1
     obtain rfl := Option.some.inj H
     go_enter Try.func113, Try.ntmps113
     try go_wp2_with (first | ((with_reducible refine gate_dst (N := 2) rfl ?_); refine Hd.box_ 2 (#[.int .i64 a0_0, .int .i64 a0_1, .int .i64 a0_2, .int .i64 a0_3]) 60 ?_; intro gb231 hg w22 hbox hb; have BK231 := Aside0.mk (hbox); have GW231 := Aside0.mk ((Hd.g_ hg Hd.b_ : w.heap.size ≤ gb231)); have GE231 := Aside0.mk ((Hd.g_ hg Hd.b_ : w.heap.size ≤ gb231)); replace HB := Aside0.mk (below_step Hd.b_ hb); clear hb hbox hg) | ((with_reducible refine gate_dst (N := 3) rfl ?_); refine Hd.box_ 3 (#[.int .i64 a1_0, .int .i64 a1_1]) 27 ?_; intro gb232 hg w23 hbox hb; have BK232 := Aside0.mk (hbox); have GW232 := Aside0.mk ((Hd.g_ hg Hd.b_ : w.heap.size ≤ gb232)); have GE232 := Aside0.mk ((Hd.g_ hg Hd.b_ : w.heap.size ≤ gb232)); replace HB := Aside0.mk (below_step Hd.b_ hb); have NB231_232 := Aside0.mk ((Hd.lt_ BK231 hg)); have NB232_231 := Aside0.mk ((Hd.gt_ BK231 hg)); replace BK231 := Aside0.mk (Hd.kb_ BK231 hb); clear hb hbox hg))
     replace BK231 := Aside0.mk (blk_drew BK231.out)
     replace BK232 := Aside0.mk (blk_drew BK232.out)
     replace HB := Aside0.mk (below_drew1 HB.out)
     have S_ : (fun w' : World => w'.cell? ⟨gb231, 0, none⟩ = some (.int .i64 a0_0) ∧ w'.cell? ⟨gb231, 1, none⟩ = some (.int .i64 a0_1) ∧ w'.cell? ⟨gb231, 2, none⟩ = some (.int .i64 a0_2) ∧ w'.cell? ⟨gb231, 3, none⟩ = some (.int .i64 a0_3) ∧ w'.cell? ⟨gb232, 0, none⟩ = some (.int .i64 a1_0) ∧ w'.cell? ⟨gb232, 1, none⟩ = some (.int .i64 a1_1)) w23.drew := ⟨(blk_cell BK231.out 0).trans rfl, (blk_cell BK231.out 1).trans rfl, (blk_cell BK231.out 2).trans rfl, (blk_cell BK231.out 3).trans rfl, (blk_cell BK232.out 0).trans rfl, (blk_cell BK232.out 1).trans rfl⟩
     obtain ⟨s0_, s1_, s2_, s3_, s4_, s5_⟩ := S_
     replace s0_ := fun q : Hd.HW w23.drew => q.cell s0_
     replace s1_ := fun q : Hd.HW w23.drew => q.cell s1_
     replace s2_ := fun q : Hd.HW w23.drew => q.cell s2_
     replace s3_ := fun q : Hd.HW w23.drew => q.cell s3_
     replace s4_ := fun q : Hd.HW w23.drew => q.cell s4_
     replace s5_ := fun q : Hd.HW w23.drew => q.cell s5_
     refine Hd.HW.region (by kernel_rfl) (by kernel_rfl) ?_
     try dsimp only [List.append]
     repeat (go_big_quiet_step ((first | (go_at_call 118; with_reducible exact Hd.HW.c (spec_IsSegment.calls a0_0 a0_1 a0_2 a0_3 true _ A3.out)) | (go_at_call 111; with_reducible exact Hd.HW.c (spec_IsPoint.calls a1_0 a1_1 true _ A5.out)) | (go_at_call 99; with_reducible exact Hd.HW.c (spec_l4Cross.calls a0_0 a0_1 a0_2 a0_3 a1_0 a1_1 t235 _ A7.out)) | (go_at_call 134; with_reducible exact Hd.HW.d (spec_Min.calls a0_0 a0_2 t236 _ A9.out)) | (go_at_call 100; with_reducible exact Hd.HW.d (spec_Max.calls a0_0 a0_2 t237 _ A10.out)) | (go_at_call 88; with_reducible exact Hd.HW.d (spec_l1In.calls a1_0 t236 t237 false _ A11.out)))))
     refine wpQuiet_nil ?_
     intro _ hq_
     obtain ⟨q_, rfl⟩ := hq_
     clear s0_ s1_ s2_ s3_ s4_ s5_
     replace BK231 := Aside0.mk (blk_below BK231.out q_.b)
     replace BK232 := Aside0.mk (blk_below BK232.out q_.b)
     replace HB := Aside0.mk (below_step HB.out q_.b)
     generalize q_.W = w27 at BK231 BK232 HB ⊢
     try simp only [i64_w, i32_w]
     try go_wp2
     go_ret
     exact ⟨Hd.e_, Hd.b_⟩
   ·
    rw [if_neg c8] at H
    have c8b0 : (t235 == 0) = false := beq_eq_false_iff_ne.mpr c8
    have c8b1 : (t235 != 0) = true := bne_iff_ne.mpr c8
    obtain rfl := Option.some.inj H
    go_enter Try.func113, Try.ntmps113
    try go_wp2_with (first | ((with_reducible refine gate_dst (N := 2) rfl ?_); refine Hd.box_ 2 (#[.int .i64 a0_0, .int .i64 a0_1, .int .i64 a0_2, .int .i64 a0_3]) 60 ?_; intro gb231 hg w28 hbox hb; have BK231 := Aside0.mk (hbox); have GW231 := Aside0.mk ((Hd.g_ hg Hd.b_ : w.heap.size ≤ gb231)); have GE231 := Aside0.mk ((Hd.g_ hg Hd.b_ : w.heap.size ≤ gb231)); replace HB := Aside0.mk (below_step Hd.b_ hb); clear hb hbox hg) | ((with_reducible refine gate_dst (N := 3) rfl ?_); refine Hd.box_ 3 (#[.int .i64 a1_0, .int .i64 a1_1]) 27 ?_; intro gb232 hg w29 hbox hb; have BK232 := Aside0.mk (hbox); have GW232 := Aside0.mk ((Hd.g_ hg Hd.b_ : w.heap.size ≤ gb232)); have GE232 := Aside0.mk ((Hd.g_ hg Hd.b_ : w.heap.size ≤ gb232)); replace HB := Aside0.mk (below_step Hd.b_ hb); have NB231_232 := Aside0.mk ((Hd.lt_ BK231 hg)); have NB232_231 := Aside0.mk ((Hd.gt_ BK231 hg)); replace BK231 := Aside0.mk (Hd.kb_ BK231 hb); clear hb hbox hg))
    replace BK231 := Aside0.mk (blk_drew BK231.out)
    replace BK232 := Aside0.mk (blk_drew BK232.out)
    replace HB := Aside0.mk (below_drew1 HB.out)
    have S_ : (fun w' : World => w'.cell? ⟨gb231, 0, none⟩ = some (.int .i64 a0_0) ∧ w'.cell? ⟨gb231, 1, none⟩ = some (.int .i64 a0_1) ∧ w'.cell? ⟨gb231, 2, none⟩ = some (.int .i64 a0_2) ∧ w'.cell? ⟨gb231, 3, none⟩ = some (.int .i64 a0_3) ∧ w'.cell? ⟨gb232, 0, none⟩ = some (.int .i64 a1_0) ∧ w'.cell? ⟨gb232, 1, none⟩ = some (.int .i64 a1_1)) w29.drew := ⟨(blk_cell BK231.out 0).trans rfl, (blk_cell BK231.out 1).trans rfl, (blk_cell BK231.out 2).trans rfl, (blk_cell BK231.out 3).trans rfl, (blk_cell BK232.out 0).trans rfl, (blk_cell BK232.out 1).trans rfl⟩
    obtain ⟨s0_, s1_, s2_, s3_, s4_, s5_⟩ := S_
    replace s0_ := fun q : Hd.HW w29.drew => q.cell s0_
    replace s1_ := fun q : Hd.HW w29.drew => q.cell s1_
    replace s2_ := fun q : Hd.HW w29.drew => q.cell s2_
    replace s3_ := fun q : Hd.HW w29.drew => q.cell s3_
    replace s4_ := fun q : Hd.HW w29.drew => q.cell s4_
    replace s5_ := fun q : Hd.HW w29.drew => q.cell s5_
    refine Hd.HW.region (by kernel_rfl) (by kernel_rfl) ?_
    try dsimp only [List.append]
    repeat (go_big_quiet_step ((first | (go_at_call 118; with_reducible exact Hd.HW.c (spec_IsSegment.calls a0_0 a0_1 a0_2 a0_3 true _ A3.out)) | (go_at_call 111; with_reducible exact Hd.HW.c (spec_IsPoint.calls a1_0 a1_1 true _ A5.out)) | (go_at_call 99; with_reducible exact Hd.HW.c (spec_l4Cross.calls a0_0 a0_1 a0_2 a0_3 a1_0 a1_1 t235 _ A7.out)))))
    refine wpQuiet_nil ?_
    intro _ hq_
    obtain ⟨q_, rfl⟩ := hq_
    clear s0_ s1_ s2_ s3_ s4_ s5_
    replace BK231 := Aside0.mk (blk_below BK231.out q_.b)
    replace BK232 := Aside0.mk (blk_below BK232.out q_.b)
    replace HB := Aside0.mk (below_step HB.out q_.b)
    generalize q_.W = w33 at BK231 BK232 HB ⊢
    try simp only [i64_w, i32_w]
    try go_wp2
    go_ret
    exact ⟨Hd.e_, Hd.b_⟩
  ·
   replace c6 := Bool.eq_false_iff.mpr c6
   subst c6
   have H1 : (some false) = some r := by rw [if_neg (show ¬ (false = true) by decide)] at H; exact H
   clear H
   have H := H1
   clear H1
   obtain rfl := Option.some.inj H
   go_enter Try.func113, Try.ntmps113
   try go_wp2_with (first | ((with_reducible refine gate_dst (N := 2) rfl ?_); refine Hd.box_ 2 (#[.int .i64 a0_0, .int .i64 a0_1, .int .i64 a0_2, .int .i64 a0_3]) 60 ?_; intro gb231 hg w34 hbox hb; have BK231 := Aside0.mk (hbox); have GW231 := Aside0.mk ((Hd.g_ hg Hd.b_ : w.heap.size ≤ gb231)); have GE231 := Aside0.mk ((Hd.g_ hg Hd.b_ : w.heap.size ≤ gb231)); replace HB := Aside0.mk (below_step Hd.b_ hb); clear hb hbox hg) | ((with_reducible refine gate_dst (N := 3) rfl ?_); refine Hd.box_ 3 (#[.int .i64 a1_0, .int .i64 a1_1]) 27 ?_; intro gb232 hg w35 hbox hb; have BK232 := Aside0.mk (hbox); have GW232 := Aside0.mk ((Hd.g_ hg Hd.b_ : w.heap.size ≤ gb232)); have GE232 := Aside0.mk ((Hd.g_ hg Hd.b_ : w.heap.size ≤ gb232)); replace HB := Aside0.mk (below_step Hd.b_ hb); have NB231_232 := Aside0.mk ((Hd.lt_ BK231 hg)); have NB232_231 := Aside0.mk ((Hd.gt_ BK231 hg)); replace BK231 := Aside0.mk (Hd.kb_ BK231 hb); clear hb hbox hg))
   replace BK231 := Aside0.mk (blk_drew BK231.out)
   replace BK232 := Aside0.mk (blk_drew BK232.out)
   replace HB := Aside0.mk (below_drew1 HB.out)
   have S_ : (fun w' : World => w'.cell? ⟨gb231, 0, none⟩ = some (.int .i64 a0_0) ∧ w'.cell? ⟨gb231, 1, none⟩ = some (.int .i64 a0_1) ∧ w'.cell? ⟨gb231, 2, none⟩ = some (.int .i64 a0_2) ∧ w'.cell? ⟨gb231, 3, none⟩ = some (.int .i64 a0_3) ∧ w'.cell? ⟨gb232, 0, none⟩ = some (.int .i64 a1_0) ∧ w'.cell? ⟨gb232, 1, none⟩ = some (.int .i64 a1_1)) w35.drew := ⟨(blk_cell BK231.out 0).trans rfl, (blk_cell BK231.out 1).trans rfl, (blk_cell BK231.out 2).trans rfl, (blk_cell BK231.out 3).trans rfl, (blk_cell BK232.out 0).trans rfl, (blk_cell BK232.out 1).trans rfl⟩
   obtain ⟨s0_, s1_, s2_, s3_, s4_, s5_⟩ := S_
   replace s0_ := fun q : Hd.HW w35.drew => q.cell s0_
   replace s1_ := fun q : Hd.HW w35.drew => q.cell s1_
   replace s2_ := fun q : Hd.HW w35.drew => q.cell s2_
   replace s3_ := fun q : Hd.HW w35.drew => q.cell s3_
   replace s4_ := fun q : Hd.HW w35.drew => q.cell s4_
   replace s5_ := fun q : Hd.HW w35.drew => q.cell s5_
   refine Hd.HW.region (by kernel_rfl) (by kernel_rfl) ?_
   try dsimp only [List.append]
   repeat (go_big_quiet_step ((first | (go_at_call 118; with_reducible exact Hd.HW.c (spec_IsSegment.calls a0_0 a0_1 a0_2 a0_3 true _ A3.out)) | (go_at_call 111; with_reducible exact Hd.HW.c (spec_IsPoint.calls a1_0 a1_1 false _ A5.out)))))
   refine wpQuiet_nil ?_
   intro _ hq_
   obtain ⟨q_, rfl⟩ := hq_
   clear s0_ s1_ s2_ s3_ s4_ s5_
   replace BK231 := Aside0.mk (blk_below BK231.out q_.b)
   replace BK232 := Aside0.mk (blk_below BK232.out q_.b)
   replace HB := Aside0.mk (below_step HB.out q_.b)
   generalize q_.W = w38 at BK231 BK232 HB ⊢
   try simp only [i64_w, i32_w]
   try go_wp2
   go_ret
   exact ⟨Hd.e_, Hd.b_⟩
 ·
  replace c4 := Bool.eq_false_iff.mpr c4
  subst c4
  have H1 : (some false) = some r := by rw [if_neg (show ¬ (false = true) by decide)] at H; exact H
  clear H
  have H := H1
  clear H1
  obtain rfl := Option.some.inj H
  go_enter Try.func113, Try.ntmps113
  try go_wp2_with (first | ((with_reducible refine gate_dst (N := 2) rfl ?_); refine Hd.box_ 2 (#[.int .i64 a0_0, .int .i64 a0_1, .int .i64 a0_2, .int .i64 a0_3]) 60 ?_; intro gb231 hg w39 hbox hb; have BK231 := Aside0.mk (hbox); have GW231 := Aside0.mk ((Hd.g_ hg Hd.b_ : w.heap.size ≤ gb231)); have GE231 := Aside0.mk ((Hd.g_ hg Hd.b_ : w.heap.size ≤ gb231)); replace HB := Aside0.mk (below_step Hd.b_ hb); clear hb hbox hg) | ((with_reducible refine gate_dst (N := 3) rfl ?_); refine Hd.box_ 3 (#[.int .i64 a1_0, .int .i64 a1_1]) 27 ?_; intro gb232 hg w40 hbox hb; have BK232 := Aside0.mk (hbox); have GW232 := Aside0.mk ((Hd.g_ hg Hd.b_ : w.heap.size ≤ gb232)); have GE232 := Aside0.mk ((Hd.g_ hg Hd.b_ : w.heap.size ≤ gb232)); replace HB := Aside0.mk (below_step Hd.b_ hb); have NB231_232 := Aside0.mk ((Hd.lt_ BK231 hg)); have NB232_231 := Aside0.mk ((Hd.gt_ BK231 hg)); replace BK231 := Aside0.mk (Hd.kb_ BK231 hb); clear hb hbox hg))
  replace BK231 := Aside0.mk (blk_drew BK231.out)
  replace BK232 := Aside0.mk (blk_drew BK232.out)
  replace HB := Aside0.mk (below_drew1 HB.out)
  have S_ : (fun w' : World => w'.cell? ⟨gb231, 0, none⟩ = some (.int .i64 a0_0) ∧ w'.cell? ⟨gb231, 1, none⟩ = some (.int .i64 a0_1) ∧ w'.cell? ⟨gb231, 2, none⟩ = some (.int .i64 a0_2) ∧ w'.cell? ⟨gb231, 3, none⟩ = some (.int .i64 a0_3)) w40.drew := ⟨(blk_cell BK231.out 0).trans rfl, (blk_cell BK231.out 1).trans rfl, (blk_cell BK231.out 2).trans rfl, (blk_cell BK231.out 3).trans rfl⟩
  obtain ⟨s0_, s1_, s2_, s3_⟩ := S_
  replace s0_ := fun q : Hd.HW w40.drew => q.cell s0_
  replace s1_ := fun q : Hd.HW w40.drew => q.cell s1_
  replace s2_ := fun q : Hd.HW w40.drew => q.cell s2_
  replace s3_ := fun q : Hd.HW w40.drew => q.cell s3_
  refine Hd.HW.region (by kernel_rfl) (by kernel_rfl) ?_
  try dsimp only [List.append]
  repeat (go_big_quiet_step ((first | (go_at_call 118; with_reducible exact Hd.HW.c (spec_IsSegment.calls a0_0 a0_1 a0_2 a0_3 false _ A3.out)))))
  refine wpQuiet_nil ?_
  intro _ hq_
  obtain ⟨q_, rfl⟩ := hq_
  clear s0_ s1_ s2_ s3_
  replace BK231 := Aside0.mk (blk_below BK231.out q_.b)
  replace BK232 := Aside0.mk (blk_below BK232.out q_.b)
  replace HB := Aside0.mk (below_step HB.out q_.b)
  generalize q_.W = w42 at BK231 BK232 HB ⊢
  try simp only [i64_w, i32_w]
  try go_wp2
  go_ret
  exact ⟨Hd.e_, Hd.b_⟩

end Go.Proofs.Ytchmbcembbbplab.MFnExactIsInside
