-- Laid by this session's program pp.py, after the kit's print and texts of the session's own. Not trusted: Lean checks it.
import Derived.Test.YtchmbcembbbplabMFnExactIsInsidex0
import Derived.Test.YtchmbcembbbplabMFnExactIsInsidex2
import Derived.Test.YtchmbcembbbplabMFnExactIsInsidex7
import Derived.Test.YtchmbcembbbplabMFnExactIsInsidex12
namespace Go.Proofs.Ytchmbcembbbplab.MFnExactIsInside
open Go.RowKit Go.Proofs.YtchmbcembbbplabW.PrintWords Go.Proofs.YtchmbcembbbplabW.PrintLast Go.Proofs.YtchmbcembbbplabW.PrintMore
attribute [local go_sem] max2_int min2_int max_two min_two max_three min_three max_four min_four   -- for this text's walks alone
set_option linter.unusedVariables false
set_option linter.unusedSimpArgs false

/-! ### laws_FnExactIsInside: function 13 -/
def laws_FnExactIsInside.f (k : Nat) (l0 : List (S77)) (a1_0 : Int) (a1_1 : Int) : Option (Bool) := (laws_szPointS.f l0 1048576).bind fun t312 => (if t312 < 0 then (some true) else ((laws_toPointS.f k l0).bind fun t313 => ((laws_toPoint.f a1_0 a1_1).bind fun bt316 => ((spec_IsInside.f k t313 bt316.1 bt316.2).bind fun t318 => ((laws_toPointS.f k l0).bind fun t319 => ((laws_toPoint.f a1_0 a1_1).bind fun bt322 => ((impl_IsInside.f k t319 bt322.1 bt322.2).bind fun t324 => (if (t324 != t318) = true then (some false) else ((laws_toPointS.f k l0).bind fun t325 => ((laws_eqPointS.f k t319 t325).bind fun t328 => (if t328 = true then (some true) else (some false))))))))))))
theorem laws_FnExactIsInside.mono : ∀ a0 a1 a2 k, LeO (laws_FnExactIsInside.f k a0 a1 a2) (laws_FnExactIsInside.f (k + 1) a0 a1 a2) := by
 intro a0 a1 a2 k
 unfold laws_FnExactIsInside.f
 repeat' first
   | (with_reducible exact impl_IsInside.mono _ _ _ _)
   | (with_reducible exact laws_eqPointS.mono _ _ _)
   | (with_reducible exact laws_toPointS.mono _ _)
   | (with_reducible exact spec_IsInside.mono _ _ _ _)
   | (with_reducible exact LeO.refl _)
   | (with_reducible exact LeO.none _)
   | (with_reducible refine LeO.ite ?_ ?_)
   | (with_reducible refine LeO.bind ?_ (fun _ => ?_))
   | exact impl_IsInside.mono _ _ _ _
   | exact laws_eqPointS.mono _ _ _
   | exact laws_toPointS.mono _ _
   | exact spec_IsInside.mono _ _ _ _
   | exact LeO.none _
   | refine LeO.ite ?_ ?_
   | refine LeO.bind ?_ (fun _ => ?_)
set_option maxHeartbeats 8000000 in
set_option maxRecDepth 100000 in
theorem laws_FnExactIsInside.calls (k : Nat) (A0 : Option Addr) (c0 : Nat) (l0 : List (S77)) (a1_0 : Int) (a1_1 : Int) (r : Bool) (w : World) (hr0 : Kd.C k77 w A0 l0.length l0) (hc0 : l0.length ≤ c0) (h : laws_FnExactIsInside.f k l0 a1_0 a1_1 = some r) :
  Calls Try.prog 13 #[.slice A0 l0.length c0, .agg #[.int .i64 a1_0, .int .i64 a1_1]] w fun e w' => e = .returned (.bool r) ∧ Below w.heap.size w w' := by
 have hu77 := Try.underlying77
 have HR0 := Aside0.mk hr0
 have HC0 := Aside0.mk hc0
 clear hr0 hc0
 have HB := Aside0.mk (Below.refl w.heap.size w)
 have H : ((laws_szPointS.f l0 1048576).bind fun t312 => (if t312 < 0 then (some true) else ((laws_toPointS.f k l0).bind fun t313 => ((laws_toPoint.f a1_0 a1_1).bind fun bt316 => ((spec_IsInside.f k t313 bt316.1 bt316.2).bind fun t318 => ((laws_toPointS.f k l0).bind fun t319 => ((laws_toPoint.f a1_0 a1_1).bind fun bt322 => ((impl_IsInside.f k t319 bt322.1 bt322.2).bind fun t324 => (if (t324 != t318) = true then (some false) else ((laws_toPointS.f k l0).bind fun t325 => ((laws_eqPointS.f k t319 t325).bind fun t328 => (if t328 = true then (some true) else (some false))))))))))))) = some r := h
 clear h
 replace H := Option.bind_eq_some_iff.mp H
 obtain ⟨t312, A30, H⟩ := H
 replace H : (if t312 < 0 then (some true) else ((laws_toPointS.f k l0).bind fun t313 => ((laws_toPoint.f a1_0 a1_1).bind fun bt316 => ((spec_IsInside.f k t313 bt316.1 bt316.2).bind fun t318 => ((laws_toPointS.f k l0).bind fun t319 => ((laws_toPoint.f a1_0 a1_1).bind fun bt322 => ((impl_IsInside.f k t319 bt322.1 bt322.2).bind fun t324 => (if (t324 != t318) = true then (some false) else ((laws_toPointS.f k l0).bind fun t325 => ((laws_eqPointS.f k t319 t325).bind fun t328 => (if t328 = true then (some true) else (some false)))))))))))) = some r := H
 have A3 := Aside0.mk A30
 clear A30
 by_cases c4 : t312 < 0
 ·
  rw [if_pos c4] at H
  have c4b0 : decide (t312 < 0) = true := decide_eq_true c4
  clear c4
  obtain rfl := Option.some.inj H
  go_enter Try.func13, Try.ntmps13
  go_wp2_with (first | ((with_reducible refine gate_dst (N := 3) rfl ?_); refine Hd.box_ 3 (#[.int .i64 a1_0, .int .i64 a1_1]) 77 ?_; intro gb311 hg w5 hbox hb; have BK311 := Aside0.mk (hbox); have GW311 := Aside0.mk ((Hd.g_ hg Hd.b_ : w.heap.size ≤ gb311)); have GE311 := Aside0.mk ((Hd.g_ hg Hd.b_ : w.heap.size ≤ gb311)); replace HB := Aside0.mk (below_step Hd.b_ hb); clear hb hbox hg) | ((with_reducible refine gate_callee (f := 32) rfl ?_); refine goesL_ (some 11) rfl rfl Try.func32 (by kernel_rfl) rfl #[.slice A0 l0.length c0, .int .i64 1048576] rfl Hd.m_ ?_; (with_reducible refine (laws_szPointS.calls _ _ l0 1048576 t312 _ ?side1 ?side2 A3.out).mono ?_); (case side1 => repeat (first | exact (Kd.C_below HR0.out HB.out) | (with_reducible refine Kd.C_alloc ?_ _) | (with_reducible refine Kd.C_drewN ?_ _) | (with_reducible refine Kd.C_drew ?_))); (case side2 => exact HC0.out); rintro e w' ⟨rfl, ⟨nd, rfl⟩⟩; refine ⟨_, rfl, ?_⟩))
  go_ret
  exact ⟨Hd.e_, Hd.b_⟩
 ·
  rw [if_neg c4] at H
  have c4b0 : decide (t312 < 0) = false := decide_eq_false c4
  clear c4
  replace H := Option.bind_eq_some_iff.mp H
  obtain ⟨t313, A60, H⟩ := H
  replace H : ((laws_toPoint.f a1_0 a1_1).bind fun bt316 => ((spec_IsInside.f k t313 bt316.1 bt316.2).bind fun t318 => ((laws_toPointS.f k l0).bind fun t319 => ((laws_toPoint.f a1_0 a1_1).bind fun bt322 => ((impl_IsInside.f k t319 bt322.1 bt322.2).bind fun t324 => (if (t324 != t318) = true then (some false) else ((laws_toPointS.f k l0).bind fun t325 => ((laws_eqPointS.f k t319 t325).bind fun t328 => (if t328 = true then (some true) else (some false)))))))))) = some r := H
  have A6 := Aside0.mk A60
  clear A60
  replace H := Option.bind_eq_some_iff.mp H
  obtain ⟨⟨t316, t317⟩, A70, H⟩ := H
  replace H : ((spec_IsInside.f k t313 t316 t317).bind fun t318 => ((laws_toPointS.f k l0).bind fun t319 => ((laws_toPoint.f a1_0 a1_1).bind fun bt322 => ((impl_IsInside.f k t319 bt322.1 bt322.2).bind fun t324 => (if (t324 != t318) = true then (some false) else ((laws_toPointS.f k l0).bind fun t325 => ((laws_eqPointS.f k t319 t325).bind fun t328 => (if t328 = true then (some true) else (some false))))))))) = some r := H
  have A7 := Aside0.mk A70
  clear A70
  replace H := Option.bind_eq_some_iff.mp H
  obtain ⟨t318, A80, H⟩ := H
  replace H : ((laws_toPointS.f k l0).bind fun t319 => ((laws_toPoint.f a1_0 a1_1).bind fun bt322 => ((impl_IsInside.f k t319 bt322.1 bt322.2).bind fun t324 => (if (t324 != t318) = true then (some false) else ((laws_toPointS.f k l0).bind fun t325 => ((laws_eqPointS.f k t319 t325).bind fun t328 => (if t328 = true then (some true) else (some false)))))))) = some r := H
  have A8 := Aside0.mk A80
  clear A80
  replace H := Option.bind_eq_some_iff.mp H
  obtain ⟨t319, A90, H⟩ := H
  replace H : ((laws_toPoint.f a1_0 a1_1).bind fun bt322 => ((impl_IsInside.f k t319 bt322.1 bt322.2).bind fun t324 => (if (t324 != t318) = true then (some false) else ((laws_toPointS.f k l0).bind fun t325 => ((laws_eqPointS.f k t319 t325).bind fun t328 => (if t328 = true then (some true) else (some false))))))) = some r := H
  have A9 := Aside0.mk A90
  clear A90
  replace H := Option.bind_eq_some_iff.mp H
  obtain ⟨⟨t322, t323⟩, A100, H⟩ := H
  replace H : ((impl_IsInside.f k t319 t322 t323).bind fun t324 => (if (t324 != t318) = true then (some false) else ((laws_toPointS.f k l0).bind fun t325 => ((laws_eqPointS.f k t319 t325).bind fun t328 => (if t328 = true then (some true) else (some false)))))) = some r := H
  have A10 := Aside0.mk A100
  clear A100
  replace H := Option.bind_eq_some_iff.mp H
  obtain ⟨t324, A110, H⟩ := H
  replace H : (if (t324 != t318) = true then (some false) else ((laws_toPointS.f k l0).bind fun t325 => ((laws_eqPointS.f k t319 t325).bind fun t328 => (if t328 = true then (some true) else (some false))))) = some r := H
  have A11 := Aside0.mk A110
  clear A110
  by_cases c12 : (t324 != t318) = true
  ·
   rw [if_pos c12] at H
   have c12b0 : (t324 != t318) = true := c12
   (try (have c12b1 : decide (t324 = t318) = false := by simpa using c12))
   (try (have c12b2 : (t324 == t318) = false := by simpa using c12))
   (try (have c12b3 : ¬ (t324 = t318) := by simpa using c12))
   clear c12
   obtain rfl := Option.some.inj H
   go_enter Try.func13, Try.ntmps13
   try go_wp2_with (first | ((with_reducible refine gate_dst (N := 3) rfl ?_); refine Hd.box_ 3 (#[.int .i64 a1_0, .int .i64 a1_1]) 77 ?_; intro gb311 hg w13 hbox hb; have BK311 := Aside0.mk (hbox); have GW311 := Aside0.mk ((Hd.g_ hg Hd.b_ : w.heap.size ≤ gb311)); have GE311 := Aside0.mk ((Hd.g_ hg Hd.b_ : w.heap.size ≤ gb311)); replace HB := Aside0.mk (below_step Hd.b_ hb); clear hb hbox hg) | ((with_reducible refine gate_callee (f := 32) rfl ?_); refine goesL_ (some 11) rfl rfl Try.func32 (by kernel_rfl) rfl #[.slice A0 l0.length c0, .int .i64 1048576] rfl Hd.m_ ?_; (with_reducible refine (laws_szPointS.calls _ _ l0 1048576 t312 _ ?side1 ?side2 A3.out).mono ?_); (case side1 => repeat (first | exact (Kd.C_below HR0.out HB.out) | (with_reducible refine Kd.C_alloc ?_ _) | (with_reducible refine Kd.C_drewN ?_ _) | (with_reducible refine Kd.C_drew ?_))); (case side2 => exact HC0.out); rintro e w' ⟨rfl, ⟨nd, rfl⟩⟩; refine ⟨_, rfl, ?_⟩))
   (try (rw [drewN_self w13]; generalize hq_ : World.drewN w13 _ = w13; have n0_ : Aside0 (w13.heap[gb311]? = some (.cells #[.int .i64 a1_0, .int .i64 a1_1] 77 (0, 0))) := ⟨by rw [← hq_]; exact (Hd.k_ BK311)⟩; have n1_ : Aside0 (Below w.heap.size w w13) := ⟨by rw [← hq_]; exact Hd.b_⟩; clear BK311 HB hq_; have BK311 := n0_; have HB := n1_; clear n0_ n1_))
   replace BK311 := Aside0.mk (blk_drew BK311.out)
   replace HB := Aside0.mk (below_drew1 HB.out)
   refine start_ (n := 6) (S := fun w' => w'.cell? ⟨gb311, 0, none⟩ = some (.int .i64 a1_0) ∧ w'.cell? ⟨gb311, 1, none⟩ = some (.int .i64 a1_1)) (ds := []) #[false, false, false, false, false, false] (by kernel_rfl) rfl rfl ⟨(blk_cell BK311.out 0).trans rfl, (blk_cell BK311.out 1).trans rfl⟩ (fun hHeld => ?_)
   generalize w13.drew = w14 at BK311 HB hHeld ⊢
   refine pure_ (i := 0) (N := some 14) (v := ?_) (a' := ?_) #[true, false, false, false, false, false] rfl rfl (by kernel_rfl) (fun _ _ _ h => h) (Or.inl ⟨by rfl, ?_⟩) ?_ ?_
   rotate_left
   ·
    intro w'
    go_simp
    with_reducible rfl
   rotate_left
   ·
    simp only [Act.put, List.setIfInBounds_toArray, List.set_cons_zero, List.set_cons_succ, i64_w, i32_w]
    rfl
   refine take_ (i := 2) (N := some 16) (v := ?_) (a' := ?_) #[true, false, true, false, false, false] rfl rfl (by kernel_rfl) (fun _ _ _ h => h) (Or.inl ⟨by rfl, ?_⟩) hHeld ?_ ?_
   rotate_left
   ·
    rintro w' ⟨s0, s1⟩
    go_simp
    with_reducible rfl
   rotate_left
   ·
    simp only [Act.put, List.setIfInBounds_toArray, List.set_cons_zero, List.set_cons_succ, i64_w, i32_w]
    rfl
   refine one_ (i := 1) (N := some 15) #[true, true, true, false, false, false] rfl rfl (by kernel_rfl) (by decide) (fun K hK => ?_)
   refine goes_ Try.func34 (by kernel_rfl) rfl #[.slice A0 l0.length c0] (by rfl) rfl rfl Hd.m_ ?_
   with_reducible refine (laws_toPointS.calls k _ _ l0 t313 _ ?side1 ?side2 A6.out).mono ?_
   (case side1 => repeat (first | exact (Kd.C_below HR0.out HB.out) | (with_reducible refine Kd.C_alloc ?_ _) | (with_reducible refine Kd.C_drewN ?_ _) | (with_reducible refine Kd.C_drew ?_)))
   (case side2 => exact HC0.out)
   rintro e w15 ⟨v314, rfl, ho0, hb⟩
   refine ⟨_, rfl, ?_⟩
   have HO315 := Aside0.mk (Kd.R_lower ho0 (below_size Hd.b_))
   replace BK311 := Aside0.mk (Hd.kb_ BK311 hb)
   replace HB := Aside0.mk (below_step Hd.b_ hb)
   (try clear hb)
   (try clear hb2)
   (try clear hk)
   (try clear hi)
   (try clear ho0)
   refine hK.out _ _ ⟨(blk_cell BK311.out 0).trans rfl, (blk_cell BK311.out 1).trans rfl⟩ (fun hHeld => ?_)
   clear hK K
   refine norm_ (a' := ?_) ?_ ?_
   rotate_left
   ·
    show Act.put _ (some 15) _ = _
    simp only [Act.put, List.setIfInBounds_toArray, List.set_cons_zero, List.set_cons_succ, i64_w, i32_w]
    rfl
   refine one_ (i := 3) (N := some 17) #[true, true, true, true, false, false] rfl rfl (by kernel_rfl) (by decide) (fun K hK => ?_)
   refine goes_ Try.func66 (by kernel_rfl) rfl #[.agg #[.int .i64 a1_0, .int .i64 a1_1]] (by rfl) rfl rfl Hd.m_ ?_
   with_reducible refine (laws_toPoint.calls a1_0 a1_1 t316 t317 _ A7.out).mono ?_
   rintro e w16 ⟨rfl, hb⟩
   refine ⟨_, rfl, ?_⟩
   replace HO315 := Aside0.mk (Kd.R_below (Hd.r_ HO315) hb)
   replace BK311 := Aside0.mk (Hd.kb_ BK311 hb)
   replace HB := Aside0.mk (below_step Hd.b_ hb)
   (try clear hb)
   (try clear hb2)
   (try clear hk)
   (try clear hi)
   obtain ⟨Ao17, co17, eo17⟩ := Kd.R_slice HO315.out
   (first | subst eo17 | (injection eo17 with f1_ f2_ f3_; have f4_ := f1_.symm; have f5_ := f3_.symm; clear f1_ f2_ f3_; subst f4_; subst f5_))
   refine hK.out _ _ ⟨(blk_cell BK311.out 0).trans rfl, (blk_cell BK311.out 1).trans rfl⟩ (fun hHeld => ?_)
   clear hK K
   refine norm_ (a' := ?_) ?_ ?_
   rotate_left
   ·
    show Act.put _ (some 17) _ = _
    simp only [Act.put, List.setIfInBounds_toArray, List.set_cons_zero, List.set_cons_succ, i64_w, i32_w]
    rfl
   refine one_ (i := 4) (N := some 18) #[true, true, true, true, true, false] rfl rfl (by kernel_rfl) (by decide) (fun K hK => ?_)
   refine goes_ Try.func65 (by kernel_rfl) rfl #[.slice Ao17 t313.length co17, .agg #[.int .i64 t316, .int .i64 t317]] (by rfl) rfl rfl Hd.m_ ?_
   with_reducible refine (spec_IsInside.calls k _ _ t313 t316 t317 t318 _ ?side1 ?side2 A8.out).mono ?_
   (case side1 => repeat (first | exact (Kd.R_reads' HO315.out).2.2 | (with_reducible refine Kd.C_alloc ?_ _) | (with_reducible refine Kd.C_drewN ?_ _) | (with_reducible refine Kd.C_drew ?_)))
   (case side2 => exact (Kd.R_reads' HO315.out).2.1)
   rintro e w18 ⟨rfl, hb⟩
   refine ⟨_, rfl, ?_⟩
   replace HO315 := Aside0.mk (Kd.R_below (Hd.r_ HO315) hb)
   replace BK311 := Aside0.mk (Hd.kb_ BK311 hb)
   replace HB := Aside0.mk (below_step Hd.b_ hb)
   (try clear hb)
   (try clear hb2)
   (try clear hk)
   (try clear hi)
   refine hK.out _ _ ⟨(blk_cell BK311.out 0).trans rfl, (blk_cell BK311.out 1).trans rfl⟩ (fun hHeld => ?_)
   clear hK K
   refine norm_ (a' := ?_) ?_ ?_
   rotate_left
   ·
    show Act.put _ (some 18) _ = _
    simp only [Act.put, List.setIfInBounds_toArray, List.set_cons_zero, List.set_cons_succ, i64_w, i32_w]
    rfl
   refine pure_ (i := 5) (N := some 6) (v := ?_) (a' := ?_) #[true, true, true, true, true, true] rfl rfl (by kernel_rfl) (fun _ _ _ h => h) (Or.inl ⟨by rfl, ?_⟩) ?_ ?_
   rotate_left
   ·
    intro w'
    go_simp
    with_reducible rfl
   rotate_left
   ·
    simp only [Act.put, List.setIfInBounds_toArray, List.set_cons_zero, List.set_cons_succ, i64_w, i32_w]
    rfl
   refine done_ (by kernel_rfl) ?_
   try go_wp2_with (first | ((with_reducible refine gate_callee (f := 34) rfl ?_); refine goesL_ (some 20) rfl rfl Try.func34 (by kernel_rfl) rfl #[.slice A0 l0.length c0] rfl Hd.m_ ?_; (with_reducible refine (laws_toPointS.calls k _ _ l0 t319 _ ?side1 ?side2 A9.out).mono ?_); (case side1 => repeat (first | exact (Kd.C_below HR0.out HB.out) | (with_reducible refine Kd.C_alloc ?_ _) | (with_reducible refine Kd.C_drewN ?_ _) | (with_reducible refine Kd.C_drew ?_))); (case side2 => exact HC0.out); rintro e w19 ⟨v320, rfl, ho0, hb⟩; refine ⟨_, rfl, ?_⟩; have HO321 := Aside0.mk (Kd.R_lower (Kd.R_new' ho0 (Kd.R_lt (Hd.r_ HO315))) (below_size Hd.b_)); replace HO315 := Aside0.mk (Kd.R_elder' (Hd.r_ HO315) (Kd.R_base ho0) hb); replace BK311 := Aside0.mk (Hd.kb_ BK311 hb); replace HB := Aside0.mk (below_step Hd.b_ hb); (try clear hb); (try clear hb2); (try clear hk); (try clear hi); (try clear ho0); obtain ⟨hcz20_0, hcz20_1⟩ := Hd.c2_ BK311.out; obtain ⟨hfz20_0, hfz20_1⟩ := Hd.f2_ BK311.out) | ((with_reducible refine gate_callee (f := 66) rfl ?_); refine goesL_ (some 23) rfl rfl Try.func66 (by kernel_rfl) rfl #[.agg #[.int .i64 a1_0, .int .i64 a1_1]] rfl Hd.m_ ?_; (with_reducible refine (laws_toPoint.calls a1_0 a1_1 t322 t323 _ A10.out).mono ?_); rintro e w21 ⟨rfl, hb⟩; refine ⟨_, rfl, ?_⟩; replace HO315 := Aside0.mk (Kd.R_below (Hd.r_ HO315) hb); replace HO321 := Aside0.mk (Kd.R_below (Hd.r_ HO321) hb); replace BK311 := Aside0.mk (Hd.kb_ BK311 hb); replace HB := Aside0.mk (below_step Hd.b_ hb); (try clear hb); (try clear hb2); (try clear hk); (try clear hi); obtain ⟨Ao22, co22, eo22⟩ := Kd.R_slice HO321.out; subst eo22) | ((with_reducible refine gate_callee (f := 62) rfl ?_); refine goesL_ (some 24) rfl rfl Try.func62 (by kernel_rfl) rfl #[.slice Ao22 t319.length co22, .agg #[.int .i64 t322, .int .i64 t323]] rfl Hd.m_ ?_; (with_reducible refine (impl_IsInside.calls k _ _ t319 t322 t323 t324 _ ?side1 ?side2 A11.out).mono ?_); (case side1 => repeat (first | exact (Kd.R_reads' HO321.out).2.2 | (with_reducible refine Kd.C_alloc ?_ _) | (with_reducible refine Kd.C_drewN ?_ _) | (with_reducible refine Kd.C_drew ?_))); (case side2 => exact (Kd.R_reads' HO321.out).2.1); rintro e w23 ⟨rfl, hb⟩; refine ⟨_, rfl, ?_⟩; replace HO315 := Aside0.mk (Kd.R_below (Hd.r_ HO315) hb); replace HO321 := Aside0.mk (Kd.R_below (Hd.r_ HO321) hb); replace BK311 := Aside0.mk (Hd.kb_ BK311 hb); replace HB := Aside0.mk (below_step Hd.b_ hb); (try clear hb); (try clear hb2); (try clear hk); (try clear hi)))
   go_ret
   exact ⟨Hd.e_, Hd.b_⟩
  ·
   rw [if_neg c12] at H
   have c12b0 : (t324 != t318) = false := by simpa using c12
   (try (have c12b1 : decide (t324 = t318) = true := by simpa using c12))
   (try (have c12b2 : (t324 == t318) = true := by simpa using c12))
   clear c12
   replace H := Option.bind_eq_some_iff.mp H
   obtain ⟨t325, A240, H⟩ := H
   replace H : ((laws_eqPointS.f k t319 t325).bind fun t328 => (if t328 = true then (some true) else (some false))) = some r := H
   have A24 := Aside0.mk A240
   clear A240
   replace H := Option.bind_eq_some_iff.mp H
   obtain ⟨t328, A250, H⟩ := H
   replace H : (if t328 = true then (some true) else (some false)) = some r := H
   have A25 := Aside0.mk A250
   clear A250
   by_cases c26 : t328 = true
   ·
    subst c26
    have H1 : (some true) = some r := by rw [if_pos rfl] at H; exact H
    clear H
    have H := H1
    clear H1
    obtain rfl := Option.some.inj H
    go_enter Try.func13, Try.ntmps13
    try go_wp2_with (first | ((with_reducible refine gate_dst (N := 3) rfl ?_); refine Hd.box_ 3 (#[.int .i64 a1_0, .int .i64 a1_1]) 77 ?_; intro gb311 hg w27 hbox hb; have BK311 := Aside0.mk (hbox); have GW311 := Aside0.mk ((Hd.g_ hg Hd.b_ : w.heap.size ≤ gb311)); have GE311 := Aside0.mk ((Hd.g_ hg Hd.b_ : w.heap.size ≤ gb311)); replace HB := Aside0.mk (below_step Hd.b_ hb); clear hb hbox hg) | ((with_reducible refine gate_callee (f := 32) rfl ?_); refine goesL_ (some 11) rfl rfl Try.func32 (by kernel_rfl) rfl #[.slice A0 l0.length c0, .int .i64 1048576] rfl Hd.m_ ?_; (with_reducible refine (laws_szPointS.calls _ _ l0 1048576 t312 _ ?side1 ?side2 A3.out).mono ?_); (case side1 => repeat (first | exact (Kd.C_below HR0.out HB.out) | (with_reducible refine Kd.C_alloc ?_ _) | (with_reducible refine Kd.C_drewN ?_ _) | (with_reducible refine Kd.C_drew ?_))); (case side2 => exact HC0.out); rintro e w' ⟨rfl, ⟨nd, rfl⟩⟩; refine ⟨_, rfl, ?_⟩))
    (try (rw [drewN_self w27]; generalize hq_ : World.drewN w27 _ = w27; have n0_ : Aside0 (w27.heap[gb311]? = some (.cells #[.int .i64 a1_0, .int .i64 a1_1] 77 (0, 0))) := ⟨by rw [← hq_]; exact (Hd.k_ BK311)⟩; have n1_ : Aside0 (Below w.heap.size w w27) := ⟨by rw [← hq_]; exact Hd.b_⟩; clear BK311 HB hq_; have BK311 := n0_; have HB := n1_; clear n0_ n1_))
    replace BK311 := Aside0.mk (blk_drew BK311.out)
    replace HB := Aside0.mk (below_drew1 HB.out)
    refine start_ (n := 6) (S := fun w' => w'.cell? ⟨gb311, 0, none⟩ = some (.int .i64 a1_0) ∧ w'.cell? ⟨gb311, 1, none⟩ = some (.int .i64 a1_1)) (ds := []) #[false, false, false, false, false, false] (by kernel_rfl) rfl rfl ⟨(blk_cell BK311.out 0).trans rfl, (blk_cell BK311.out 1).trans rfl⟩ (fun hHeld => ?_)
    generalize w27.drew = w28 at BK311 HB hHeld ⊢
    refine pure_ (i := 0) (N := some 14) (v := ?_) (a' := ?_) #[true, false, false, false, false, false] rfl rfl (by kernel_rfl) (fun _ _ _ h => h) (Or.inl ⟨by rfl, ?_⟩) ?_ ?_
    rotate_left
    ·
     intro w'
     go_simp
     with_reducible rfl
    rotate_left
    ·
     simp only [Act.put, List.setIfInBounds_toArray, List.set_cons_zero, List.set_cons_succ, i64_w, i32_w]
     rfl
    refine take_ (i := 2) (N := some 16) (v := ?_) (a' := ?_) #[true, false, true, false, false, false] rfl rfl (by kernel_rfl) (fun _ _ _ h => h) (Or.inl ⟨by rfl, ?_⟩) hHeld ?_ ?_
    rotate_left
    ·
     rintro w' ⟨s0, s1⟩
     go_simp
     with_reducible rfl
    rotate_left
    ·
     simp only [Act.put, List.setIfInBounds_toArray, List.set_cons_zero, List.set_cons_succ, i64_w, i32_w]
     rfl
    refine one_ (i := 1) (N := some 15) #[true, true, true, false, false, false] rfl rfl (by kernel_rfl) (by decide) (fun K hK => ?_)
    refine goes_ Try.func34 (by kernel_rfl) rfl #[.slice A0 l0.length c0] (by rfl) rfl rfl Hd.m_ ?_
    with_reducible refine (laws_toPointS.calls k _ _ l0 t313 _ ?side1 ?side2 A6.out).mono ?_
    (case side1 => repeat (first | exact (Kd.C_below HR0.out HB.out) | (with_reducible refine Kd.C_alloc ?_ _) | (with_reducible refine Kd.C_drewN ?_ _) | (with_reducible refine Kd.C_drew ?_)))
    (case side2 => exact HC0.out)
    rintro e w29 ⟨v314, rfl, ho0, hb⟩
    refine ⟨_, rfl, ?_⟩
    have HO315 := Aside0.mk (Kd.R_lower ho0 (below_size Hd.b_))
    replace BK311 := Aside0.mk (Hd.kb_ BK311 hb)
    replace HB := Aside0.mk (below_step Hd.b_ hb)
    (try clear hb)
    (try clear hb2)
    (try clear hk)
    (try clear hi)
    (try clear ho0)
    refine hK.out _ _ ⟨(blk_cell BK311.out 0).trans rfl, (blk_cell BK311.out 1).trans rfl⟩ (fun hHeld => ?_)
    clear hK K
    refine norm_ (a' := ?_) ?_ ?_
    rotate_left
    ·
     show Act.put _ (some 15) _ = _
     simp only [Act.put, List.setIfInBounds_toArray, List.set_cons_zero, List.set_cons_succ, i64_w, i32_w]
     rfl
    refine one_ (i := 3) (N := some 17) #[true, true, true, true, false, false] rfl rfl (by kernel_rfl) (by decide) (fun K hK => ?_)
    refine goes_ Try.func66 (by kernel_rfl) rfl #[.agg #[.int .i64 a1_0, .int .i64 a1_1]] (by rfl) rfl rfl Hd.m_ ?_
    with_reducible refine (laws_toPoint.calls a1_0 a1_1 t316 t317 _ A7.out).mono ?_
    rintro e w30 ⟨rfl, hb⟩
    refine ⟨_, rfl, ?_⟩
    replace HO315 := Aside0.mk (Kd.R_below (Hd.r_ HO315) hb)
    replace BK311 := Aside0.mk (Hd.kb_ BK311 hb)
    replace HB := Aside0.mk (below_step Hd.b_ hb)
    (try clear hb)
    (try clear hb2)
    (try clear hk)
    (try clear hi)
    obtain ⟨Ao31, co31, eo31⟩ := Kd.R_slice HO315.out
    (first | subst eo31 | (injection eo31 with f1_ f2_ f3_; have f4_ := f1_.symm; have f5_ := f3_.symm; clear f1_ f2_ f3_; subst f4_; subst f5_))
    refine hK.out _ _ ⟨(blk_cell BK311.out 0).trans rfl, (blk_cell BK311.out 1).trans rfl⟩ (fun hHeld => ?_)
    clear hK K
    refine norm_ (a' := ?_) ?_ ?_
    rotate_left
    ·
     show Act.put _ (some 17) _ = _
     simp only [Act.put, List.setIfInBounds_toArray, List.set_cons_zero, List.set_cons_succ, i64_w, i32_w]
     rfl
    refine one_ (i := 4) (N := some 18) #[true, true, true, true, true, false] rfl rfl (by kernel_rfl) (by decide) (fun K hK => ?_)
    refine goes_ Try.func65 (by kernel_rfl) rfl #[.slice Ao31 t313.length co31, .agg #[.int .i64 t316, .int .i64 t317]] (by rfl) rfl rfl Hd.m_ ?_
    with_reducible refine (spec_IsInside.calls k _ _ t313 t316 t317 t318 _ ?side1 ?side2 A8.out).mono ?_
    (case side1 => repeat (first | exact (Kd.R_reads' HO315.out).2.2 | (with_reducible refine Kd.C_alloc ?_ _) | (with_reducible refine Kd.C_drewN ?_ _) | (with_reducible refine Kd.C_drew ?_)))
    (case side2 => exact (Kd.R_reads' HO315.out).2.1)
    rintro e w32 ⟨rfl, hb⟩
    refine ⟨_, rfl, ?_⟩
    replace HO315 := Aside0.mk (Kd.R_below (Hd.r_ HO315) hb)
    replace BK311 := Aside0.mk (Hd.kb_ BK311 hb)
    replace HB := Aside0.mk (below_step Hd.b_ hb)
    (try clear hb)
    (try clear hb2)
    (try clear hk)
    (try clear hi)
    refine hK.out _ _ ⟨(blk_cell BK311.out 0).trans rfl, (blk_cell BK311.out 1).trans rfl⟩ (fun hHeld => ?_)
    clear hK K
    refine norm_ (a' := ?_) ?_ ?_
    rotate_left
    ·
     show Act.put _ (some 18) _ = _
     simp only [Act.put, List.setIfInBounds_toArray, List.set_cons_zero, List.set_cons_succ, i64_w, i32_w]
     rfl
    refine pure_ (i := 5) (N := some 6) (v := ?_) (a' := ?_) #[true, true, true, true, true, true] rfl rfl (by kernel_rfl) (fun _ _ _ h => h) (Or.inl ⟨by rfl, ?_⟩) ?_ ?_
    rotate_left
    ·
     intro w'
     go_simp
     with_reducible rfl
    rotate_left
    ·
     simp only [Act.put, List.setIfInBounds_toArray, List.set_cons_zero, List.set_cons_succ, i64_w, i32_w]
     rfl
    refine done_ (by kernel_rfl) ?_
    try go_wp2_with (first | ((with_reducible refine gate_callee (f := 34) rfl ?_); refine goesL_ (some 20) rfl rfl Try.func34 (by kernel_rfl) rfl #[.slice A0 l0.length c0] rfl Hd.m_ ?_; (with_reducible refine (laws_toPointS.calls k _ _ l0 t319 _ ?side1 ?side2 A9.out).mono ?_); (case side1 => repeat (first | exact (Kd.C_below HR0.out HB.out) | (with_reducible refine Kd.C_alloc ?_ _) | (with_reducible refine Kd.C_drewN ?_ _) | (with_reducible refine Kd.C_drew ?_))); (case side2 => exact HC0.out); rintro e w33 ⟨v320, rfl, ho0, hb⟩; refine ⟨_, rfl, ?_⟩; have HO321 := Aside0.mk (Kd.R_lower (Kd.R_new' ho0 (Kd.R_lt (Hd.r_ HO315))) (below_size Hd.b_)); replace HO315 := Aside0.mk (Kd.R_elder' (Hd.r_ HO315) (Kd.R_base ho0) hb); replace BK311 := Aside0.mk (Hd.kb_ BK311 hb); replace HB := Aside0.mk (below_step Hd.b_ hb); (try clear hb); (try clear hb2); (try clear hk); (try clear hi); (try clear ho0); obtain ⟨hcz34_0, hcz34_1⟩ := Hd.c2_ BK311.out; obtain ⟨hfz34_0, hfz34_1⟩ := Hd.f2_ BK311.out) | ((with_reducible refine gate_callee (f := 66) rfl ?_); refine goesL_ (some 23) rfl rfl Try.func66 (by kernel_rfl) rfl #[.agg #[.int .i64 a1_0, .int .i64 a1_1]] rfl Hd.m_ ?_; (with_reducible refine (laws_toPoint.calls a1_0 a1_1 t322 t323 _ A10.out).mono ?_); rintro e w35 ⟨rfl, hb⟩; refine ⟨_, rfl, ?_⟩; replace HO315 := Aside0.mk (Kd.R_below (Hd.r_ HO315) hb); replace HO321 := Aside0.mk (Kd.R_below (Hd.r_ HO321) hb); replace BK311 := Aside0.mk (Hd.kb_ BK311 hb); replace HB := Aside0.mk (below_step Hd.b_ hb); (try clear hb); (try clear hb2); (try clear hk); (try clear hi); obtain ⟨Ao36, co36, eo36⟩ := Kd.R_slice HO321.out; subst eo36) | ((with_reducible refine gate_callee (f := 62) rfl ?_); refine goesL_ (some 24) rfl rfl Try.func62 (by kernel_rfl) rfl #[.slice Ao36 t319.length co36, .agg #[.int .i64 t322, .int .i64 t323]] rfl Hd.m_ ?_; (with_reducible refine (impl_IsInside.calls k _ _ t319 t322 t323 t324 _ ?side1 ?side2 A11.out).mono ?_); (case side1 => repeat (first | exact (Kd.R_reads' HO321.out).2.2 | (with_reducible refine Kd.C_alloc ?_ _) | (with_reducible refine Kd.C_drewN ?_ _) | (with_reducible refine Kd.C_drew ?_))); (case side2 => exact (Kd.R_reads' HO321.out).2.1); rintro e w37 ⟨rfl, hb⟩; refine ⟨_, rfl, ?_⟩; replace HO315 := Aside0.mk (Kd.R_below (Hd.r_ HO315) hb); replace HO321 := Aside0.mk (Kd.R_below (Hd.r_ HO321) hb); replace BK311 := Aside0.mk (Hd.kb_ BK311 hb); replace HB := Aside0.mk (below_step Hd.b_ hb); (try clear hb); (try clear hb2); (try clear hk); (try clear hi)) | ((with_reducible refine gate_callee (f := 34) rfl ?_); refine goesL_ (some 30) rfl rfl Try.func34 (by kernel_rfl) rfl #[.slice A0 l0.length c0] rfl Hd.m_ ?_; (with_reducible refine (laws_toPointS.calls k _ _ l0 t325 _ ?side1 ?side2 A24.out).mono ?_); (case side1 => repeat (first | exact (Kd.C_below HR0.out HB.out) | (with_reducible refine Kd.C_alloc ?_ _) | (with_reducible refine Kd.C_drewN ?_ _) | (with_reducible refine Kd.C_drew ?_))); (case side2 => exact HC0.out); rintro e w38 ⟨v326, rfl, ho0, hb⟩; refine ⟨_, rfl, ?_⟩; have HO327 := Aside0.mk (Kd.R_lower (Kd.R_new' (Kd.R_new' ho0 (Kd.R_lt (Hd.r_ HO315))) (Kd.R_lt (Hd.r_ HO321))) (below_size Hd.b_)); replace HO315 := Aside0.mk (Kd.R_elder' (Hd.r_ HO315) (Kd.R_base ho0) hb); replace HO321 := Aside0.mk (Kd.R_elder' (Hd.r_ HO321) (Kd.R_base ho0) hb); replace BK311 := Aside0.mk (Hd.kb_ BK311 hb); replace HB := Aside0.mk (below_step Hd.b_ hb); (try clear hb); (try clear hb2); (try clear hk); (try clear hi); (try clear ho0); obtain ⟨Ao39, co39, eo39⟩ := Kd.R_slice HO327.out; subst eo39) | ((with_reducible refine gate_callee (f := 36) rfl ?_); refine goesL_ (some 31) rfl rfl Try.func36 (by kernel_rfl) rfl #[.slice Ao36 t319.length co36, .slice Ao39 t325.length co39] rfl Hd.m_ ?_; (with_reducible refine (laws_eqPointS.calls k _ _ t319 _ _ t325 true _ ?side1 ?side2 ?side3 ?side4 A25.out).mono ?_); (case side1 => repeat (first | exact (Kd.R_reads' HO321.out).2.2 | (with_reducible refine Kd.C_alloc ?_ _) | (with_reducible refine Kd.C_drewN ?_ _) | (with_reducible refine Kd.C_drew ?_))); (case side2 => exact (Kd.R_reads' HO321.out).2.1); (case side3 => repeat (first | exact (Kd.R_reads' HO327.out).2.2 | (with_reducible refine Kd.C_alloc ?_ _) | (with_reducible refine Kd.C_drewN ?_ _) | (with_reducible refine Kd.C_drew ?_))); (case side4 => exact (Kd.R_reads' HO327.out).2.1); rintro e w40 ⟨rfl, hb⟩; refine ⟨_, rfl, ?_⟩; replace HO315 := Aside0.mk (Kd.R_below (Hd.r_ HO315) hb); replace HO321 := Aside0.mk (Kd.R_below (Hd.r_ HO321) hb); replace HO327 := Aside0.mk (Kd.R_below (Hd.r_ HO327) hb); replace BK311 := Aside0.mk (Hd.kb_ BK311 hb); replace HB := Aside0.mk (below_step Hd.b_ hb); (try clear hb); (try clear hb2); (try clear hk); (try clear hi)))
    go_ret
    exact ⟨Hd.e_, Hd.b_⟩
   ·
    replace c26 := Bool.eq_false_iff.mpr c26
    subst c26
    have H1 : (some false) = some r := by rw [if_neg (show ¬ (false = true) by decide)] at H; exact H
    clear H
    have H := H1
    clear H1
    obtain rfl := Option.some.inj H
    go_enter Try.func13, Try.ntmps13
    try go_wp2_with (first | ((with_reducible refine gate_dst (N := 3) rfl ?_); refine Hd.box_ 3 (#[.int .i64 a1_0, .int .i64 a1_1]) 77 ?_; intro gb311 hg w41 hbox hb; have BK311 := Aside0.mk (hbox); have GW311 := Aside0.mk ((Hd.g_ hg Hd.b_ : w.heap.size ≤ gb311)); have GE311 := Aside0.mk ((Hd.g_ hg Hd.b_ : w.heap.size ≤ gb311)); replace HB := Aside0.mk (below_step Hd.b_ hb); clear hb hbox hg) | ((with_reducible refine gate_callee (f := 32) rfl ?_); refine goesL_ (some 11) rfl rfl Try.func32 (by kernel_rfl) rfl #[.slice A0 l0.length c0, .int .i64 1048576] rfl Hd.m_ ?_; (with_reducible refine (laws_szPointS.calls _ _ l0 1048576 t312 _ ?side1 ?side2 A3.out).mono ?_); (case side1 => repeat (first | exact (Kd.C_below HR0.out HB.out) | (with_reducible refine Kd.C_alloc ?_ _) | (with_reducible refine Kd.C_drewN ?_ _) | (with_reducible refine Kd.C_drew ?_))); (case side2 => exact HC0.out); rintro e w' ⟨rfl, ⟨nd, rfl⟩⟩; refine ⟨_, rfl, ?_⟩))
    (try (rw [drewN_self w41]; generalize hq_ : World.drewN w41 _ = w41; have n0_ : Aside0 (w41.heap[gb311]? = some (.cells #[.int .i64 a1_0, .int .i64 a1_1] 77 (0, 0))) := ⟨by rw [← hq_]; exact (Hd.k_ BK311)⟩; have n1_ : Aside0 (Below w.heap.size w w41) := ⟨by rw [← hq_]; exact Hd.b_⟩; clear BK311 HB hq_; have BK311 := n0_; have HB := n1_; clear n0_ n1_))
    replace BK311 := Aside0.mk (blk_drew BK311.out)
    replace HB := Aside0.mk (below_drew1 HB.out)
    refine start_ (n := 6) (S := fun w' => w'.cell? ⟨gb311, 0, none⟩ = some (.int .i64 a1_0) ∧ w'.cell? ⟨gb311, 1, none⟩ = some (.int .i64 a1_1)) (ds := []) #[false, false, false, false, false, false] (by kernel_rfl) rfl rfl ⟨(blk_cell BK311.out 0).trans rfl, (blk_cell BK311.out 1).trans rfl⟩ (fun hHeld => ?_)
    generalize w41.drew = w42 at BK311 HB hHeld ⊢
    refine pure_ (i := 0) (N := some 14) (v := ?_) (a' := ?_) #[true, false, false, false, false, false] rfl rfl (by kernel_rfl) (fun _ _ _ h => h) (Or.inl ⟨by rfl, ?_⟩) ?_ ?_
    rotate_left
    ·
     intro w'
     go_simp
     with_reducible rfl
    rotate_left
    ·
     simp only [Act.put, List.setIfInBounds_toArray, List.set_cons_zero, List.set_cons_succ, i64_w, i32_w]
     rfl
    refine take_ (i := 2) (N := some 16) (v := ?_) (a' := ?_) #[true, false, true, false, false, false] rfl rfl (by kernel_rfl) (fun _ _ _ h => h) (Or.inl ⟨by rfl, ?_⟩) hHeld ?_ ?_
    rotate_left
    ·
     rintro w' ⟨s0, s1⟩
     go_simp
     with_reducible rfl
    rotate_left
    ·
     simp only [Act.put, List.setIfInBounds_toArray, List.set_cons_zero, List.set_cons_succ, i64_w, i32_w]
     rfl
    refine one_ (i := 1) (N := some 15) #[true, true, true, false, false, false] rfl rfl (by kernel_rfl) (by decide) (fun K hK => ?_)
    refine goes_ Try.func34 (by kernel_rfl) rfl #[.slice A0 l0.length c0] (by rfl) rfl rfl Hd.m_ ?_
    with_reducible refine (laws_toPointS.calls k _ _ l0 t313 _ ?side1 ?side2 A6.out).mono ?_
    (case side1 => repeat (first | exact (Kd.C_below HR0.out HB.out) | (with_reducible refine Kd.C_alloc ?_ _) | (with_reducible refine Kd.C_drewN ?_ _) | (with_reducible refine Kd.C_drew ?_)))
    (case side2 => exact HC0.out)
    rintro e w43 ⟨v314, rfl, ho0, hb⟩
    refine ⟨_, rfl, ?_⟩
    have HO315 := Aside0.mk (Kd.R_lower ho0 (below_size Hd.b_))
    replace BK311 := Aside0.mk (Hd.kb_ BK311 hb)
    replace HB := Aside0.mk (below_step Hd.b_ hb)
    (try clear hb)
    (try clear hb2)
    (try clear hk)
    (try clear hi)
    (try clear ho0)
    refine hK.out _ _ ⟨(blk_cell BK311.out 0).trans rfl, (blk_cell BK311.out 1).trans rfl⟩ (fun hHeld => ?_)
    clear hK K
    refine norm_ (a' := ?_) ?_ ?_
    rotate_left
    ·
     show Act.put _ (some 15) _ = _
     simp only [Act.put, List.setIfInBounds_toArray, List.set_cons_zero, List.set_cons_succ, i64_w, i32_w]
     rfl
    refine one_ (i := 3) (N := some 17) #[true, true, true, true, false, false] rfl rfl (by kernel_rfl) (by decide) (fun K hK => ?_)
    refine goes_ Try.func66 (by kernel_rfl) rfl #[.agg #[.int .i64 a1_0, .int .i64 a1_1]] (by rfl) rfl rfl Hd.m_ ?_
    with_reducible refine (laws_toPoint.calls a1_0 a1_1 t316 t317 _ A7.out).mono ?_
    rintro e w44 ⟨rfl, hb⟩
    refine ⟨_, rfl, ?_⟩
    replace HO315 := Aside0.mk (Kd.R_below (Hd.r_ HO315) hb)
    replace BK311 := Aside0.mk (Hd.kb_ BK311 hb)
    replace HB := Aside0.mk (below_step Hd.b_ hb)
    (try clear hb)
    (try clear hb2)
    (try clear hk)
    (try clear hi)
    obtain ⟨Ao45, co45, eo45⟩ := Kd.R_slice HO315.out
    (first | subst eo45 | (injection eo45 with f1_ f2_ f3_; have f4_ := f1_.symm; have f5_ := f3_.symm; clear f1_ f2_ f3_; subst f4_; subst f5_))
    refine hK.out _ _ ⟨(blk_cell BK311.out 0).trans rfl, (blk_cell BK311.out 1).trans rfl⟩ (fun hHeld => ?_)
    clear hK K
    refine norm_ (a' := ?_) ?_ ?_
    rotate_left
    ·
     show Act.put _ (some 17) _ = _
     simp only [Act.put, List.setIfInBounds_toArray, List.set_cons_zero, List.set_cons_succ, i64_w, i32_w]
     rfl
    refine one_ (i := 4) (N := some 18) #[true, true, true, true, true, false] rfl rfl (by kernel_rfl) (by decide) (fun K hK => ?_)
    refine goes_ Try.func65 (by kernel_rfl) rfl #[.slice Ao45 t313.length co45, .agg #[.int .i64 t316, .int .i64 t317]] (by rfl) rfl rfl Hd.m_ ?_
    with_reducible refine (spec_IsInside.calls k _ _ t313 t316 t317 t318 _ ?side1 ?side2 A8.out).mono ?_
    (case side1 => repeat (first | exact (Kd.R_reads' HO315.out).2.2 | (with_reducible refine Kd.C_alloc ?_ _) | (with_reducible refine Kd.C_drewN ?_ _) | (with_reducible refine Kd.C_drew ?_)))
    (case side2 => exact (Kd.R_reads' HO315.out).2.1)
    rintro e w46 ⟨rfl, hb⟩
    refine ⟨_, rfl, ?_⟩
    replace HO315 := Aside0.mk (Kd.R_below (Hd.r_ HO315) hb)
    replace BK311 := Aside0.mk (Hd.kb_ BK311 hb)
    replace HB := Aside0.mk (below_step Hd.b_ hb)
    (try clear hb)
    (try clear hb2)
    (try clear hk)
    (try clear hi)
    refine hK.out _ _ ⟨(blk_cell BK311.out 0).trans rfl, (blk_cell BK311.out 1).trans rfl⟩ (fun hHeld => ?_)
    clear hK K
    refine norm_ (a' := ?_) ?_ ?_
    rotate_left
    ·
     show Act.put _ (some 18) _ = _
     simp only [Act.put, List.setIfInBounds_toArray, List.set_cons_zero, List.set_cons_succ, i64_w, i32_w]
     rfl
    refine pure_ (i := 5) (N := some 6) (v := ?_) (a' := ?_) #[true, true, true, true, true, true] rfl rfl (by kernel_rfl) (fun _ _ _ h => h) (Or.inl ⟨by rfl, ?_⟩) ?_ ?_
    rotate_left
    ·
     intro w'
     go_simp
     with_reducible rfl
    rotate_left
    ·
     simp only [Act.put, List.setIfInBounds_toArray, List.set_cons_zero, List.set_cons_succ, i64_w, i32_w]
     rfl
    refine done_ (by kernel_rfl) ?_
    try go_wp2_with (first | ((with_reducible refine gate_callee (f := 34) rfl ?_); refine goesL_ (some 20) rfl rfl Try.func34 (by kernel_rfl) rfl #[.slice A0 l0.length c0] rfl Hd.m_ ?_; (with_reducible refine (laws_toPointS.calls k _ _ l0 t319 _ ?side1 ?side2 A9.out).mono ?_); (case side1 => repeat (first | exact (Kd.C_below HR0.out HB.out) | (with_reducible refine Kd.C_alloc ?_ _) | (with_reducible refine Kd.C_drewN ?_ _) | (with_reducible refine Kd.C_drew ?_))); (case side2 => exact HC0.out); rintro e w47 ⟨v320, rfl, ho0, hb⟩; refine ⟨_, rfl, ?_⟩; have HO321 := Aside0.mk (Kd.R_lower (Kd.R_new' ho0 (Kd.R_lt (Hd.r_ HO315))) (below_size Hd.b_)); replace HO315 := Aside0.mk (Kd.R_elder' (Hd.r_ HO315) (Kd.R_base ho0) hb); replace BK311 := Aside0.mk (Hd.kb_ BK311 hb); replace HB := Aside0.mk (below_step Hd.b_ hb); (try clear hb); (try clear hb2); (try clear hk); (try clear hi); (try clear ho0); obtain ⟨hcz48_0, hcz48_1⟩ := Hd.c2_ BK311.out; obtain ⟨hfz48_0, hfz48_1⟩ := Hd.f2_ BK311.out) | ((with_reducible refine gate_callee (f := 66) rfl ?_); refine goesL_ (some 23) rfl rfl Try.func66 (by kernel_rfl) rfl #[.agg #[.int .i64 a1_0, .int .i64 a1_1]] rfl Hd.m_ ?_; (with_reducible refine (laws_toPoint.calls a1_0 a1_1 t322 t323 _ A10.out).mono ?_); rintro e w49 ⟨rfl, hb⟩; refine ⟨_, rfl, ?_⟩; replace HO315 := Aside0.mk (Kd.R_below (Hd.r_ HO315) hb); replace HO321 := Aside0.mk (Kd.R_below (Hd.r_ HO321) hb); replace BK311 := Aside0.mk (Hd.kb_ BK311 hb); replace HB := Aside0.mk (below_step Hd.b_ hb); (try clear hb); (try clear hb2); (try clear hk); (try clear hi); obtain ⟨Ao50, co50, eo50⟩ := Kd.R_slice HO321.out; subst eo50) | ((with_reducible refine gate_callee (f := 62) rfl ?_); refine goesL_ (some 24) rfl rfl Try.func62 (by kernel_rfl) rfl #[.slice Ao50 t319.length co50, .agg #[.int .i64 t322, .int .i64 t323]] rfl Hd.m_ ?_; (with_reducible refine (impl_IsInside.calls k _ _ t319 t322 t323 t324 _ ?side1 ?side2 A11.out).mono ?_); (case side1 => repeat (first | exact (Kd.R_reads' HO321.out).2.2 | (with_reducible refine Kd.C_alloc ?_ _) | (with_reducible refine Kd.C_drewN ?_ _) | (with_reducible refine Kd.C_drew ?_))); (case side2 => exact (Kd.R_reads' HO321.out).2.1); rintro e w51 ⟨rfl, hb⟩; refine ⟨_, rfl, ?_⟩; replace HO315 := Aside0.mk (Kd.R_below (Hd.r_ HO315) hb); replace HO321 := Aside0.mk (Kd.R_below (Hd.r_ HO321) hb); replace BK311 := Aside0.mk (Hd.kb_ BK311 hb); replace HB := Aside0.mk (below_step Hd.b_ hb); (try clear hb); (try clear hb2); (try clear hk); (try clear hi)) | ((with_reducible refine gate_callee (f := 34) rfl ?_); refine goesL_ (some 30) rfl rfl Try.func34 (by kernel_rfl) rfl #[.slice A0 l0.length c0] rfl Hd.m_ ?_; (with_reducible refine (laws_toPointS.calls k _ _ l0 t325 _ ?side1 ?side2 A24.out).mono ?_); (case side1 => repeat (first | exact (Kd.C_below HR0.out HB.out) | (with_reducible refine Kd.C_alloc ?_ _) | (with_reducible refine Kd.C_drewN ?_ _) | (with_reducible refine Kd.C_drew ?_))); (case side2 => exact HC0.out); rintro e w52 ⟨v326, rfl, ho0, hb⟩; refine ⟨_, rfl, ?_⟩; have HO327 := Aside0.mk (Kd.R_lower (Kd.R_new' (Kd.R_new' ho0 (Kd.R_lt (Hd.r_ HO315))) (Kd.R_lt (Hd.r_ HO321))) (below_size Hd.b_)); replace HO315 := Aside0.mk (Kd.R_elder' (Hd.r_ HO315) (Kd.R_base ho0) hb); replace HO321 := Aside0.mk (Kd.R_elder' (Hd.r_ HO321) (Kd.R_base ho0) hb); replace BK311 := Aside0.mk (Hd.kb_ BK311 hb); replace HB := Aside0.mk (below_step Hd.b_ hb); (try clear hb); (try clear hb2); (try clear hk); (try clear hi); (try clear ho0); obtain ⟨Ao53, co53, eo53⟩ := Kd.R_slice HO327.out; subst eo53) | ((with_reducible refine gate_callee (f := 36) rfl ?_); refine goesL_ (some 31) rfl rfl Try.func36 (by kernel_rfl) rfl #[.slice Ao50 t319.length co50, .slice Ao53 t325.length co53] rfl Hd.m_ ?_; (with_reducible refine (laws_eqPointS.calls k _ _ t319 _ _ t325 false _ ?side1 ?side2 ?side3 ?side4 A25.out).mono ?_); (case side1 => repeat (first | exact (Kd.R_reads' HO321.out).2.2 | (with_reducible refine Kd.C_alloc ?_ _) | (with_reducible refine Kd.C_drewN ?_ _) | (with_reducible refine Kd.C_drew ?_))); (case side2 => exact (Kd.R_reads' HO321.out).2.1); (case side3 => repeat (first | exact (Kd.R_reads' HO327.out).2.2 | (with_reducible refine Kd.C_alloc ?_ _) | (with_reducible refine Kd.C_drewN ?_ _) | (with_reducible refine Kd.C_drew ?_))); (case side4 => exact (Kd.R_reads' HO327.out).2.1); rintro e w54 ⟨rfl, hb⟩; refine ⟨_, rfl, ?_⟩; replace HO315 := Aside0.mk (Kd.R_below (Hd.r_ HO315) hb); replace HO321 := Aside0.mk (Kd.R_below (Hd.r_ HO321) hb); replace HO327 := Aside0.mk (Kd.R_below (Hd.r_ HO327) hb); replace BK311 := Aside0.mk (Hd.kb_ BK311 hb); replace HB := Aside0.mk (below_step Hd.b_ hb); (try clear hb); (try clear hb2); (try clear hk); (try clear hi)))
    go_ret
    exact ⟨Hd.e_, Hd.b_⟩

end Go.Proofs.Ytchmbcembbbplab.MFnExactIsInside
