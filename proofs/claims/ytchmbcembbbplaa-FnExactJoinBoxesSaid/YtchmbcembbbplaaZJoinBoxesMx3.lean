-- Laid by this session's program pp.py, after the kit's print and texts of the session's own. Not trusted: Lean checks it.
import Derived.Test.YtchmbcembbbplaaZJoinBoxesMx0
import Derived.Test.YtchmbcembbbplaaZJoinBoxesMx1
import Derived.Test.YtchmbcembbbplaaZJoinBoxesMx2
namespace Go.Proofs.Ytchmbcembbbplaa.MFnExactJoinBoxes
open Go.RowKit Go.Proofs.YtchmbcembbbplaaW.PrintWords Go.Proofs.YtchmbcembbbplaaW.PrintLast Go.Proofs.YtchmbcembbbplaaW.PrintMore
attribute [local go_sem] max2_int min2_int max_two min_two max_three min_three max_four min_four   -- for this text's walks alone
set_option linter.unusedVariables false
set_option linter.unusedSimpArgs false
def laws_FnExactJoinBoxes.f (k : Nat) (a0_0 : Int) (a0_1 : Int) (a0_2 : Int) (a0_3 : Int) (a1_0 : Int) (a1_1 : Int) (a1_2 : Int) (a1_3 : Int) : Option (Bool) := (laws_toBox.f a0_0 a0_1 a0_2 a0_3).bind fun bt178 => ((laws_toBox.f a1_0 a1_1 a1_2 a1_3).bind fun bt182 => ((spec_JoinBoxes.f k bt178.1 bt178.2.1 bt178.2.2.1 bt178.2.2.2 bt182.1 bt182.2.1 bt182.2.2.1 bt182.2.2.2).bind fun bt186 => ((laws_toBox.f a0_0 a0_1 a0_2 a0_3).bind fun bt192 => ((laws_toBox.f a1_0 a1_1 a1_2 a1_3).bind fun bt196 => ((impl_JoinBoxes.f k bt192.1 bt192.2.1 bt192.2.2.1 bt192.2.2.2 bt196.1 bt196.2.1 bt196.2.2.1 bt196.2.2.2).bind fun bt200 => ((laws_eqBox.f bt200.1 bt200.2.1 bt200.2.2.1 bt200.2.2.2.1 bt186.1 bt186.2.1 bt186.2.2.1 bt186.2.2.2.1).bind fun t206 => (if t206 = true then (if (bt200.2.2.2.2 != bt186.2.2.2.2) = true then (some false) else (some true)) else (some false))))))))
def laws_FnExactJoinBoxes.T1 : Bool × List (List Nat × List Nat) := (true, [([], []), ([0], [0]), ([], []), ([2, 1], [2]), ([1, 3, 3], [1, 3]), ([4], [4]), ([5], [5]), ([5], [5]), ([], []), ([8, 6, 4, 0, 1, 2, 3, 4, 5, 6, 8], [6, 8]), ([7, 9, 0, 1, 2, 3, 4, 5, 6, 7, 8, 9], [7])])
def laws_FnExactJoinBoxes.B1 : List Nat := [0, 1, 0, 7, 15, 31, 63, 63, 0, 383, 1023]
theorem laws_FnExactJoinBoxes.tab1 : rtab .any (opsOf Try.f7 1) = laws_FnExactJoinBoxes.T1 := by kernel_rfl
theorem laws_FnExactJoinBoxes.bits1 : waitsOk laws_FnExactJoinBoxes.T1.2 laws_FnExactJoinBoxes.B1 = true := by kernel_rfl
def laws_FnExactJoinBoxes.T2 : Bool × List (List Nat × List Nat) := (true, [([], []), ([0], [0]), ([], []), ([2, 1], [2]), ([1, 3, 3], [1, 3]), ([4], [4]), ([5], [5]), ([5], [5]), ([], []), ([8, 6, 4, 0, 1, 2, 3, 4, 5, 6, 8], [6, 8]), ([7, 9, 0, 1, 2, 3, 4, 5, 6, 7, 8, 9], [7])])
def laws_FnExactJoinBoxes.B2 : List Nat := [0, 1, 0, 7, 15, 31, 63, 63, 0, 383, 1023]
theorem laws_FnExactJoinBoxes.tab2 : rtab .any (opsOf Try.f7 2) = laws_FnExactJoinBoxes.T2 := by kernel_rfl
theorem laws_FnExactJoinBoxes.bits2 : waitsOk laws_FnExactJoinBoxes.T2.2 laws_FnExactJoinBoxes.B2 = true := by kernel_rfl
set_option maxHeartbeats 8000000 in
set_option maxRecDepth 100000 in
theorem laws_FnExactJoinBoxes.calls (k : Nat) (a0_0 : Int) (a0_1 : Int) (a0_2 : Int) (a0_3 : Int) (a1_0 : Int) (a1_1 : Int) (a1_2 : Int) (a1_3 : Int) (r : Bool) (w : World) (h : laws_FnExactJoinBoxes.f k a0_0 a0_1 a0_2 a0_3 a1_0 a1_1 a1_2 a1_3 = some r) :
  Calls Try.prog 7 #[.agg #[.int .i64 a0_0, .int .i64 a0_1, .int .i64 a0_2, .int .i64 a0_3], .agg #[.int .i64 a1_0, .int .i64 a1_1, .int .i64 a1_2, .int .i64 a1_3]] w fun e w' => e = .returned (.bool r) ∧ Below w.heap.size w w' := by
 have hu64 := Try.underlying64
 have hu66 := Try.underlying66
 have HB := Aside0.mk (Below.refl w.heap.size w)
 have H : ((laws_toBox.f a0_0 a0_1 a0_2 a0_3).bind fun bt178 => ((laws_toBox.f a1_0 a1_1 a1_2 a1_3).bind fun bt182 => ((spec_JoinBoxes.f k bt178.1 bt178.2.1 bt178.2.2.1 bt178.2.2.2 bt182.1 bt182.2.1 bt182.2.2.1 bt182.2.2.2).bind fun bt186 => ((laws_toBox.f a0_0 a0_1 a0_2 a0_3).bind fun bt192 => ((laws_toBox.f a1_0 a1_1 a1_2 a1_3).bind fun bt196 => ((impl_JoinBoxes.f k bt192.1 bt192.2.1 bt192.2.2.1 bt192.2.2.2 bt196.1 bt196.2.1 bt196.2.2.1 bt196.2.2.2).bind fun bt200 => ((laws_eqBox.f bt200.1 bt200.2.1 bt200.2.2.1 bt200.2.2.2.1 bt186.1 bt186.2.1 bt186.2.2.1 bt186.2.2.2.1).bind fun t206 => (if t206 = true then (if (bt200.2.2.2.2 != bt186.2.2.2.2) = true then (some false) else (some true)) else (some false))))))))) = some r := h
 clear h
 replace H := Option.bind_eq_some_iff.mp H
 obtain ⟨⟨t178, t179, t180, t181⟩, A30, H⟩ := H
 replace H : ((laws_toBox.f a1_0 a1_1 a1_2 a1_3).bind fun bt182 => ((spec_JoinBoxes.f k t178 t179 t180 t181 bt182.1 bt182.2.1 bt182.2.2.1 bt182.2.2.2).bind fun bt186 => ((laws_toBox.f a0_0 a0_1 a0_2 a0_3).bind fun bt192 => ((laws_toBox.f a1_0 a1_1 a1_2 a1_3).bind fun bt196 => ((impl_JoinBoxes.f k bt192.1 bt192.2.1 bt192.2.2.1 bt192.2.2.2 bt196.1 bt196.2.1 bt196.2.2.1 bt196.2.2.2).bind fun bt200 => ((laws_eqBox.f bt200.1 bt200.2.1 bt200.2.2.1 bt200.2.2.2.1 bt186.1 bt186.2.1 bt186.2.2.1 bt186.2.2.2.1).bind fun t206 => (if t206 = true then (if (bt200.2.2.2.2 != bt186.2.2.2.2) = true then (some false) else (some true)) else (some false)))))))) = some r := H
 have A3 := Aside0.mk A30
 clear A30
 replace H := Option.bind_eq_some_iff.mp H
 obtain ⟨⟨t182, t183, t184, t185⟩, A40, H⟩ := H
 replace H : ((spec_JoinBoxes.f k t178 t179 t180 t181 t182 t183 t184 t185).bind fun bt186 => ((laws_toBox.f a0_0 a0_1 a0_2 a0_3).bind fun bt192 => ((laws_toBox.f a1_0 a1_1 a1_2 a1_3).bind fun bt196 => ((impl_JoinBoxes.f k bt192.1 bt192.2.1 bt192.2.2.1 bt192.2.2.2 bt196.1 bt196.2.1 bt196.2.2.1 bt196.2.2.2).bind fun bt200 => ((laws_eqBox.f bt200.1 bt200.2.1 bt200.2.2.1 bt200.2.2.2.1 bt186.1 bt186.2.1 bt186.2.2.1 bt186.2.2.2.1).bind fun t206 => (if t206 = true then (if (bt200.2.2.2.2 != bt186.2.2.2.2) = true then (some false) else (some true)) else (some false))))))) = some r := H
 have A4 := Aside0.mk A40
 clear A40
 replace H := Option.bind_eq_some_iff.mp H
 obtain ⟨⟨t186, t187, t188, t189, t190⟩, A50, H⟩ := H
 replace H : ((laws_toBox.f a0_0 a0_1 a0_2 a0_3).bind fun bt192 => ((laws_toBox.f a1_0 a1_1 a1_2 a1_3).bind fun bt196 => ((impl_JoinBoxes.f k bt192.1 bt192.2.1 bt192.2.2.1 bt192.2.2.2 bt196.1 bt196.2.1 bt196.2.2.1 bt196.2.2.2).bind fun bt200 => ((laws_eqBox.f bt200.1 bt200.2.1 bt200.2.2.1 bt200.2.2.2.1 t186 t187 t188 t189).bind fun t206 => (if t206 = true then (if (bt200.2.2.2.2 != t190) = true then (some false) else (some true)) else (some false)))))) = some r := H
 have A5 := Aside0.mk A50
 clear A50
 replace H := Option.bind_eq_some_iff.mp H
 obtain ⟨⟨t192, t193, t194, t195⟩, A60, H⟩ := H
 replace H : ((laws_toBox.f a1_0 a1_1 a1_2 a1_3).bind fun bt196 => ((impl_JoinBoxes.f k t192 t193 t194 t195 bt196.1 bt196.2.1 bt196.2.2.1 bt196.2.2.2).bind fun bt200 => ((laws_eqBox.f bt200.1 bt200.2.1 bt200.2.2.1 bt200.2.2.2.1 t186 t187 t188 t189).bind fun t206 => (if t206 = true then (if (bt200.2.2.2.2 != t190) = true then (some false) else (some true)) else (some false))))) = some r := H
 have A6 := Aside0.mk A60
 clear A60
 replace H := Option.bind_eq_some_iff.mp H
 obtain ⟨⟨t196, t197, t198, t199⟩, A70, H⟩ := H
 replace H : ((impl_JoinBoxes.f k t192 t193 t194 t195 t196 t197 t198 t199).bind fun bt200 => ((laws_eqBox.f bt200.1 bt200.2.1 bt200.2.2.1 bt200.2.2.2.1 t186 t187 t188 t189).bind fun t206 => (if t206 = true then (if (bt200.2.2.2.2 != t190) = true then (some false) else (some true)) else (some false)))) = some r := H
 have A7 := Aside0.mk A70
 clear A70
 replace H := Option.bind_eq_some_iff.mp H
 obtain ⟨⟨t200, t201, t202, t203, t204⟩, A80, H⟩ := H
 replace H : ((laws_eqBox.f t200 t201 t202 t203 t186 t187 t188 t189).bind fun t206 => (if t206 = true then (if (t204 != t190) = true then (some false) else (some true)) else (some false))) = some r := H
 have A8 := Aside0.mk A80
 clear A80
 replace H := Option.bind_eq_some_iff.mp H
 obtain ⟨t206, A90, H⟩ := H
 replace H : (if t206 = true then (if (t204 != t190) = true then (some false) else (some true)) else (some false)) = some r := H
 have A9 := Aside0.mk A90
 clear A90
 by_cases c10 : t206 = true
 ·
  subst c10
  have H1 : (if (t204 != t190) = true then (some false) else (some true)) = some r := by rw [if_pos rfl] at H; exact H
  clear H
  have H := H1
  clear H1
  by_cases c11 : (t204 != t190) = true
  ·
   rw [if_pos c11] at H
   have c11b0 : (t204 != t190) = true := c11
   (try (have c11b1 : decide (t204 = t190) = false := by simpa using c11))
   (try (have c11b2 : (t204 == t190) = false := by simpa using c11))
   (try (have c11b3 : ¬ (t204 = t190) := by simpa using c11))
   clear c11
   obtain rfl := Option.some.inj H
   go_enter Try.func7, Try.ntmps7
   try go_wp2_with (first | ((with_reducible refine gate_dst (N := 2) rfl ?_); refine Hd.box_ 2 (#[.int .i64 a0_0, .int .i64 a0_1, .int .i64 a0_2, .int .i64 a0_3]) 64 ?_; intro gb176 hg w12 hbox hb; have BK176 := Aside0.mk (hbox); have GW176 := Aside0.mk ((Hd.g_ hg Hd.b_ : w.heap.size ≤ gb176)); have GE176 := Aside0.mk ((Hd.g_ hg Hd.b_ : w.heap.size ≤ gb176)); replace HB := Aside0.mk (below_step Hd.b_ hb); clear hb hbox hg) | ((with_reducible refine gate_dst (N := 3) rfl ?_); refine Hd.box_ 3 (#[.int .i64 a1_0, .int .i64 a1_1, .int .i64 a1_2, .int .i64 a1_3]) 64 ?_; intro gb177 hg w13 hbox hb; have BK177 := Aside0.mk (hbox); have GW177 := Aside0.mk ((Hd.g_ hg Hd.b_ : w.heap.size ≤ gb177)); have GE177 := Aside0.mk ((Hd.g_ hg Hd.b_ : w.heap.size ≤ gb177)); replace HB := Aside0.mk (below_step Hd.b_ hb); have NB176_177 := Aside0.mk ((Hd.lt_ BK176 hg)); have NB177_176 := Aside0.mk ((Hd.gt_ BK176 hg)); replace BK176 := Aside0.mk (Hd.kb_ BK176 hb); clear hb hbox hg))
   replace BK176 := Aside0.mk (blk_drew BK176.out)
   replace BK177 := Aside0.mk (blk_drew BK177.out)
   replace HB := Aside0.mk (below_drew1 HB.out)
   refine start_ (n := 11) (S := fun w' => w'.cell? ⟨gb176, 0, none⟩ = some (.int .i64 a0_0) ∧ w'.cell? ⟨gb176, 1, none⟩ = some (.int .i64 a0_1) ∧ w'.cell? ⟨gb176, 2, none⟩ = some (.int .i64 a0_2) ∧ w'.cell? ⟨gb176, 3, none⟩ = some (.int .i64 a0_3) ∧ w'.cell? ⟨gb177, 0, none⟩ = some (.int .i64 a1_0) ∧ w'.cell? ⟨gb177, 1, none⟩ = some (.int .i64 a1_1) ∧ w'.cell? ⟨gb177, 2, none⟩ = some (.int .i64 a1_2) ∧ w'.cell? ⟨gb177, 3, none⟩ = some (.int .i64 a1_3)) (ds := []) #[false, false, false, false, false, false, false, false, false, false, false] (by kernel_rfl) rfl rfl ⟨(blk_cell BK176.out 0).trans rfl, (blk_cell BK176.out 1).trans rfl, (blk_cell BK176.out 2).trans rfl, (blk_cell BK176.out 3).trans rfl, (blk_cell BK177.out 0).trans rfl, (blk_cell BK177.out 1).trans rfl, (blk_cell BK177.out 2).trans rfl, (blk_cell BK177.out 3).trans rfl⟩ (fun hHeld => ?_); refine with_tabW laws_FnExactJoinBoxes.tab1 laws_FnExactJoinBoxes.bits1 (fun HT_ HW_ => ?_)
   generalize w13.drew = w14 at BK176 BK177 HB hHeld ⊢
   refine Hd.t_ HT_ HW_ hHeld 0 (some 10) #[true, false, false, false, false, false, false, false, false, false, false] ?_
   refine Hd.t_ HT_ HW_ hHeld 2 (some 12) #[true, false, true, false, false, false, false, false, false, false, false] ?_
   refine join_ (σ := Nat) 2 #[true, true, true, true, true, true, true, true, true, false, false] (fun s_ => [(11, .agg #[.int .i64 t178, .int .i64 t179, .int .i64 t180, .int .i64 t181]), (13, .agg #[.int .i64 t182, .int .i64 t183, .int .i64 t184, .int .i64 t185]), (14, .tuple #[.agg #[.int .i64 t186, .int .i64 t187, .int .i64 t188, .int .i64 t189], .bool t190]), (5, .pointer (some ⟨s_, 0, none⟩)), (9, .tuple #[.agg #[.int .i64 t186, .int .i64 t187, .int .i64 t188, .int .i64 t189], .bool t190]), (15, .agg #[.int .i64 t186, .int .i64 t187, .int .i64 t188, .int .i64 t189]), (16, .bool t190)]) (fun s_ w' => (w'.cell? ⟨gb176, 0, none⟩ = some (.int .i64 a0_0) ∧ w'.cell? ⟨gb176, 1, none⟩ = some (.int .i64 a0_1) ∧ w'.cell? ⟨gb176, 2, none⟩ = some (.int .i64 a0_2) ∧ w'.cell? ⟨gb176, 3, none⟩ = some (.int .i64 a0_3) ∧ w'.cell? ⟨gb177, 0, none⟩ = some (.int .i64 a1_0) ∧ w'.cell? ⟨gb177, 1, none⟩ = some (.int .i64 a1_1) ∧ w'.cell? ⟨gb177, 2, none⟩ = some (.int .i64 a1_2) ∧ w'.cell? ⟨gb177, 3, none⟩ = some (.int .i64 a1_3)) ∧ (w'.heap[gb176]? = some (.cells #[.int .i64 a0_0, .int .i64 a0_1, .int .i64 a0_2, .int .i64 a0_3] 64 (0, 0))) ∧ (w'.heap[gb177]? = some (.cells #[.int .i64 a1_0, .int .i64 a1_1, .int .i64 a1_2, .int .i64 a1_3] 64 (0, 0))) ∧ (w'.heap[s_]? = some (.cells #[.int .i64 0, .int .i64 0, .int .i64 0, .int .i64 0] 66 (0, 0))) ∧ (w.heap.size ≤ s_) ∧ (w.heap.size ≤ s_) ∧ (gb176 ≠ s_) ∧ (s_ ≠ gb176) ∧ (gb177 ≠ s_) ∧ (s_ ≠ gb177) ∧ (Below w.heap.size w w')) ?_ ?_
   rotate_left
   ·
    intro hCont
    refine two_ (i := 1) (j := 8) (Ni := some 11) (Nj := some 5) #[true, true, true, false, false, false, false, false, false, false, false] #[true, false, true, false, false, false, false, false, true, false, false] rfl rfl rfl rfl (two_of HT_.out (by kernel_rfl)) (by decide) (by decide) (fun K hK => ?_) (fun K hK => ?_)
    ·
     skip
     refine goes_ Try.func39 (by kernel_rfl) rfl #[.agg #[.int .i64 a0_0, .int .i64 a0_1, .int .i64 a0_2, .int .i64 a0_3]] (by rfl) rfl rfl Hd.m_ ?_
     with_reducible refine (laws_toBox.calls a0_0 a0_1 a0_2 a0_3 t178 t179 t180 t181 _ A3.out).mono ?_
     rintro e w15 ⟨rfl, hb⟩
     refine ⟨_, rfl, ?_⟩
     replace BK176 := Aside0.mk (Hd.kb_ BK176 hb)
     replace BK177 := Aside0.mk (Hd.kb_ BK177 hb)
     replace HB := Aside0.mk (below_step Hd.b_ hb)
     (try clear hb)
     (try clear hb2)
     (try clear hk)
     (try clear hi)
     refine hK.out _ _ ⟨(blk_cell BK176.out 0).trans rfl, (blk_cell BK176.out 1).trans rfl, (blk_cell BK176.out 2).trans rfl, (blk_cell BK176.out 3).trans rfl, (blk_cell BK177.out 0).trans rfl, (blk_cell BK177.out 1).trans rfl, (blk_cell BK177.out 2).trans rfl, (blk_cell BK177.out 3).trans rfl⟩ (fun hHeld => ?_)
     clear hK K
     refine Hd.n_ (some 11) ?_
     refine two_ (i := 3) (j := 8) (Ni := some 13) (Nj := some 5) #[true, true, true, true, false, false, false, false, false, false, false] #[true, true, true, false, false, false, false, false, true, false, false] rfl rfl rfl rfl (two_of HT_.out (by kernel_rfl)) (by decide) (by decide) (fun K hK => ?_) (fun K hK => ?_)
     ·
      skip
      refine goes_ Try.func39 (by kernel_rfl) rfl #[.agg #[.int .i64 a1_0, .int .i64 a1_1, .int .i64 a1_2, .int .i64 a1_3]] (by rfl) rfl rfl Hd.m_ ?_
      with_reducible refine (laws_toBox.calls a1_0 a1_1 a1_2 a1_3 t182 t183 t184 t185 _ A4.out).mono ?_
      rintro e w16 ⟨rfl, hb⟩
      refine ⟨_, rfl, ?_⟩
      replace BK176 := Aside0.mk (Hd.kb_ BK176 hb)
      replace BK177 := Aside0.mk (Hd.kb_ BK177 hb)
      replace HB := Aside0.mk (below_step Hd.b_ hb)
      (try clear hb)
      (try clear hb2)
      (try clear hk)
      (try clear hi)
      refine hK.out _ _ ⟨(blk_cell BK176.out 0).trans rfl, (blk_cell BK176.out 1).trans rfl, (blk_cell BK176.out 2).trans rfl, (blk_cell BK176.out 3).trans rfl, (blk_cell BK177.out 0).trans rfl, (blk_cell BK177.out 1).trans rfl, (blk_cell BK177.out 2).trans rfl, (blk_cell BK177.out 3).trans rfl⟩ (fun hHeld => ?_)
      clear hK K
      refine Hd.n_ (some 13) ?_
      refine two_ (i := 4) (j := 8) (Ni := some 14) (Nj := some 5) #[true, true, true, true, true, false, false, false, false, false, false] #[true, true, true, true, false, false, false, false, true, false, false] rfl rfl rfl rfl (two_of HT_.out (by kernel_rfl)) (by decide) (by decide) (fun K hK => ?_) (fun K hK => ?_)
      ·
       skip
       refine goes_ Try.func38 (by kernel_rfl) rfl #[.agg #[.int .i64 t178, .int .i64 t179, .int .i64 t180, .int .i64 t181], .agg #[.int .i64 t182, .int .i64 t183, .int .i64 t184, .int .i64 t185]] (by rfl) rfl rfl Hd.m_ ?_
       with_reducible refine (spec_JoinBoxes.calls k t178 t179 t180 t181 t182 t183 t184 t185 t186 t187 t188 t189 t190 _ A5.out).mono ?_
       rintro e w17 ⟨rfl, hb⟩
       refine ⟨_, rfl, ?_⟩
       replace BK176 := Aside0.mk (Hd.kb_ BK176 hb)
       replace BK177 := Aside0.mk (Hd.kb_ BK177 hb)
       replace HB := Aside0.mk (below_step Hd.b_ hb)
       (try clear hb)
       (try clear hb2)
       (try clear hk)
       (try clear hi)
       refine hK.out _ _ ⟨(blk_cell BK176.out 0).trans rfl, (blk_cell BK176.out 1).trans rfl, (blk_cell BK176.out 2).trans rfl, (blk_cell BK176.out 3).trans rfl, (blk_cell BK177.out 0).trans rfl, (blk_cell BK177.out 1).trans rfl, (blk_cell BK177.out 2).trans rfl, (blk_cell BK177.out 3).trans rfl⟩ (fun hHeld => ?_)
       clear hK K
       refine Hd.n_ (some 14) ?_
       refine Hd.p_ HT_ 5 (some 9) #[true, true, true, true, true, true, false, false, false, false, false] ?_
       refine Hd.p_ HT_ 6 (some 15) #[true, true, true, true, true, true, true, false, false, false, false] ?_
       refine Hd.p_ HT_ 7 (some 16) #[true, true, true, true, true, true, true, true, false, false, false] ?_
       refine Hd.o_ HT_ 8 (some 5) #[true, true, true, true, true, true, true, true, true, false, false] (fun K hK => ?_)
       refine box_step ?hg (N := 5) ?hd (cs := #[.int .i64 0, .int .i64 0, .int .i64 0, .int .i64 0]) (t := 66) ?hr ?_; (case hd => rfl); (case hg => rfl); (case hr => first | (go_simp; done) | (go_simp; rfl))
       intro gb191 hg w18 hbox hb
       have BK191 := Aside0.mk (hbox)
       have GW191 := Aside0.mk ((Hd.g_ hg Hd.b_ : w.heap.size ≤ gb191))
       have GE191 := Aside0.mk ((Hd.g_ hg Hd.b_ : w.heap.size ≤ gb191))
       replace HB := Aside0.mk (below_step Hd.b_ hb)
       have NB176_191 := Aside0.mk ((Hd.lt_ BK176 hg))
       have NB191_176 := Aside0.mk ((Hd.gt_ BK176 hg))
       replace BK176 := Aside0.mk (Hd.kb_ BK176 hb)
       have NB177_191 := Aside0.mk ((Hd.lt_ BK177 hg))
       have NB191_177 := Aside0.mk ((Hd.gt_ BK177 hg))
       replace BK177 := Aside0.mk (Hd.kb_ BK177 hb)
       clear hb hbox hg
       refine hK.out _ _ ⟨(blk_cell BK176.out 0).trans rfl, (blk_cell BK176.out 1).trans rfl, (blk_cell BK176.out 2).trans rfl, (blk_cell BK176.out 3).trans rfl, (blk_cell BK177.out 0).trans rfl, (blk_cell BK177.out 1).trans rfl, (blk_cell BK177.out 2).trans rfl, (blk_cell BK177.out 3).trans rfl⟩ (fun hHeld => ?_)
       clear hK K
       refine Hd.n_ (some 5) ?_
       exact norm_ (by simp only [putAll, Act.put, List.setIfInBounds_toArray, List.set_cons_zero, List.set_cons_succ]) (hCont (gb191) _ ⟨hHeld, (Hd.k_ BK176), (Hd.k_ BK177), (Hd.k_ BK191), GW191.out, GE191.out, NB176_191.out, NB191_176.out, NB177_191.out, NB191_177.out, Hd.b_⟩)
      ·
       skip
       refine box_step ?hg (N := 5) ?hd (cs := #[.int .i64 0, .int .i64 0, .int .i64 0, .int .i64 0]) (t := 66) ?hr ?_; (case hd => rfl); (case hg => rfl); (case hr => first | (go_simp; done) | (go_simp; rfl))
       intro gb191 hg w17 hbox hb
       have BK191 := Aside0.mk (hbox)
       have GW191 := Aside0.mk ((Hd.g_ hg Hd.b_ : w.heap.size ≤ gb191))
       have GE191 := Aside0.mk ((Hd.g_ hg Hd.b_ : w.heap.size ≤ gb191))
       replace HB := Aside0.mk (below_step Hd.b_ hb)
       have NB176_191 := Aside0.mk ((Hd.lt_ BK176 hg))
       have NB191_176 := Aside0.mk ((Hd.gt_ BK176 hg))
       replace BK176 := Aside0.mk (Hd.kb_ BK176 hb)
       have NB177_191 := Aside0.mk ((Hd.lt_ BK177 hg))
       have NB191_177 := Aside0.mk ((Hd.gt_ BK177 hg))
       replace BK177 := Aside0.mk (Hd.kb_ BK177 hb)
       clear hb hbox hg
       refine hK.out _ _ ⟨(blk_cell BK176.out 0).trans rfl, (blk_cell BK176.out 1).trans rfl, (blk_cell BK176.out 2).trans rfl, (blk_cell BK176.out 3).trans rfl, (blk_cell BK177.out 0).trans rfl, (blk_cell BK177.out 1).trans rfl, (blk_cell BK177.out 2).trans rfl, (blk_cell BK177.out 3).trans rfl⟩ (fun hHeld => ?_)
       clear hK K
       refine Hd.n_ (some 5) ?_
       refine Hd.o_ HT_ 4 (some 14) #[true, true, true, true, true, false, false, false, true, false, false] (fun K hK => ?_)
       refine goes_ Try.func38 (by kernel_rfl) rfl #[.agg #[.int .i64 t178, .int .i64 t179, .int .i64 t180, .int .i64 t181], .agg #[.int .i64 t182, .int .i64 t183, .int .i64 t184, .int .i64 t185]] (by rfl) rfl rfl Hd.m_ ?_
       with_reducible refine (spec_JoinBoxes.calls k t178 t179 t180 t181 t182 t183 t184 t185 t186 t187 t188 t189 t190 _ A5.out).mono ?_
       rintro e w18 ⟨rfl, hb⟩
       refine ⟨_, rfl, ?_⟩
       replace BK176 := Aside0.mk (Hd.kb_ BK176 hb)
       replace BK177 := Aside0.mk (Hd.kb_ BK177 hb)
       replace BK191 := Aside0.mk (Hd.kb_ BK191 hb)
       replace HB := Aside0.mk (below_step Hd.b_ hb)
       (try clear hb)
       (try clear hb2)
       (try clear hk)
       (try clear hi)
       refine hK.out _ _ ⟨(blk_cell BK176.out 0).trans rfl, (blk_cell BK176.out 1).trans rfl, (blk_cell BK176.out 2).trans rfl, (blk_cell BK176.out 3).trans rfl, (blk_cell BK177.out 0).trans rfl, (blk_cell BK177.out 1).trans rfl, (blk_cell BK177.out 2).trans rfl, (blk_cell BK177.out 3).trans rfl⟩ (fun hHeld => ?_)
       clear hK K
       refine Hd.n_ (some 14) ?_
       refine Hd.p_ HT_ 5 (some 9) #[true, true, true, true, true, true, false, false, true, false, false] ?_
       refine Hd.p_ HT_ 6 (some 15) #[true, true, true, true, true, true, true, false, true, false, false] ?_
       refine Hd.p_ HT_ 7 (some 16) #[true, true, true, true, true, true, true, true, true, false, false] ?_
       exact norm_ (by simp only [putAll, Act.put, List.setIfInBounds_toArray, List.set_cons_zero, List.set_cons_succ]) (hCont (gb191) _ ⟨hHeld, (Hd.k_ BK176), (Hd.k_ BK177), (Hd.k_ BK191), GW191.out, GE191.out, NB176_191.out, NB191_176.out, NB177_191.out, NB191_177.out, Hd.b_⟩)
     ·
      skip
      refine box_step ?hg (N := 5) ?hd (cs := #[.int .i64 0, .int .i64 0, .int .i64 0, .int .i64 0]) (t := 66) ?hr ?_; (case hd => rfl); (case hg => rfl); (case hr => first | (go_simp; done) | (go_simp; rfl))
      intro gb191 hg w16 hbox hb
      have BK191 := Aside0.mk (hbox)
      have GW191 := Aside0.mk ((Hd.g_ hg Hd.b_ : w.heap.size ≤ gb191))
      have GE191 := Aside0.mk ((Hd.g_ hg Hd.b_ : w.heap.size ≤ gb191))
      replace HB := Aside0.mk (below_step Hd.b_ hb)
      have NB176_191 := Aside0.mk ((Hd.lt_ BK176 hg))
      have NB191_176 := Aside0.mk ((Hd.gt_ BK176 hg))
      replace BK176 := Aside0.mk (Hd.kb_ BK176 hb)
      have NB177_191 := Aside0.mk ((Hd.lt_ BK177 hg))
      have NB191_177 := Aside0.mk ((Hd.gt_ BK177 hg))
      replace BK177 := Aside0.mk (Hd.kb_ BK177 hb)
      clear hb hbox hg
      refine hK.out _ _ ⟨(blk_cell BK176.out 0).trans rfl, (blk_cell BK176.out 1).trans rfl, (blk_cell BK176.out 2).trans rfl, (blk_cell BK176.out 3).trans rfl, (blk_cell BK177.out 0).trans rfl, (blk_cell BK177.out 1).trans rfl, (blk_cell BK177.out 2).trans rfl, (blk_cell BK177.out 3).trans rfl⟩ (fun hHeld => ?_)
      clear hK K
      refine Hd.n_ (some 5) ?_
      refine Hd.o_ HT_ 3 (some 13) #[true, true, true, true, false, false, false, false, true, false, false] (fun K hK => ?_)
      refine goes_ Try.func39 (by kernel_rfl) rfl #[.agg #[.int .i64 a1_0, .int .i64 a1_1, .int .i64 a1_2, .int .i64 a1_3]] (by rfl) rfl rfl Hd.m_ ?_
      with_reducible refine (laws_toBox.calls a1_0 a1_1 a1_2 a1_3 t182 t183 t184 t185 _ A4.out).mono ?_
      rintro e w17 ⟨rfl, hb⟩
      refine ⟨_, rfl, ?_⟩
      replace BK176 := Aside0.mk (Hd.kb_ BK176 hb)
      replace BK177 := Aside0.mk (Hd.kb_ BK177 hb)
      replace BK191 := Aside0.mk (Hd.kb_ BK191 hb)
      replace HB := Aside0.mk (below_step Hd.b_ hb)
      (try clear hb)
      (try clear hb2)
      (try clear hk)
      (try clear hi)
      refine hK.out _ _ ⟨(blk_cell BK176.out 0).trans rfl, (blk_cell BK176.out 1).trans rfl, (blk_cell BK176.out 2).trans rfl, (blk_cell BK176.out 3).trans rfl, (blk_cell BK177.out 0).trans rfl, (blk_cell BK177.out 1).trans rfl, (blk_cell BK177.out 2).trans rfl, (blk_cell BK177.out 3).trans rfl⟩ (fun hHeld => ?_)
      clear hK K
      refine Hd.n_ (some 13) ?_
      refine Hd.o_ HT_ 4 (some 14) #[true, true, true, true, true, false, false, false, true, false, false] (fun K hK => ?_)
      refine goes_ Try.func38 (by kernel_rfl) rfl #[.agg #[.int .i64 t178, .int .i64 t179, .int .i64 t180, .int .i64 t181], .agg #[.int .i64 t182, .int .i64 t183, .int .i64 t184, .int .i64 t185]] (by rfl) rfl rfl Hd.m_ ?_
      with_reducible refine (spec_JoinBoxes.calls k t178 t179 t180 t181 t182 t183 t184 t185 t186 t187 t188 t189 t190 _ A5.out).mono ?_
      rintro e w18 ⟨rfl, hb⟩
      refine ⟨_, rfl, ?_⟩
      replace BK176 := Aside0.mk (Hd.kb_ BK176 hb)
      replace BK177 := Aside0.mk (Hd.kb_ BK177 hb)
      replace BK191 := Aside0.mk (Hd.kb_ BK191 hb)
      replace HB := Aside0.mk (below_step Hd.b_ hb)
      (try clear hb)
      (try clear hb2)
      (try clear hk)
      (try clear hi)
      refine hK.out _ _ ⟨(blk_cell BK176.out 0).trans rfl, (blk_cell BK176.out 1).trans rfl, (blk_cell BK176.out 2).trans rfl, (blk_cell BK176.out 3).trans rfl, (blk_cell BK177.out 0).trans rfl, (blk_cell BK177.out 1).trans rfl, (blk_cell BK177.out 2).trans rfl, (blk_cell BK177.out 3).trans rfl⟩ (fun hHeld => ?_)
      clear hK K
      refine Hd.n_ (some 14) ?_
      refine Hd.p_ HT_ 5 (some 9) #[true, true, true, true, true, true, false, false, true, false, false] ?_
      refine Hd.p_ HT_ 6 (some 15) #[true, true, true, true, true, true, true, false, true, false, false] ?_
      refine Hd.p_ HT_ 7 (some 16) #[true, true, true, true, true, true, true, true, true, false, false] ?_
      exact norm_ (by simp only [putAll, Act.put, List.setIfInBounds_toArray, List.set_cons_zero, List.set_cons_succ]) (hCont (gb191) _ ⟨hHeld, (Hd.k_ BK176), (Hd.k_ BK177), (Hd.k_ BK191), GW191.out, GE191.out, NB176_191.out, NB191_176.out, NB177_191.out, NB191_177.out, Hd.b_⟩)
    ·
     skip
     refine box_step ?hg (N := 5) ?hd (cs := #[.int .i64 0, .int .i64 0, .int .i64 0, .int .i64 0]) (t := 66) ?hr ?_; (case hd => rfl); (case hg => rfl); (case hr => first | (go_simp; done) | (go_simp; rfl))
     intro gb191 hg w15 hbox hb
     have BK191 := Aside0.mk (hbox)
     have GW191 := Aside0.mk ((Hd.g_ hg Hd.b_ : w.heap.size ≤ gb191))
     have GE191 := Aside0.mk ((Hd.g_ hg Hd.b_ : w.heap.size ≤ gb191))
     replace HB := Aside0.mk (below_step Hd.b_ hb)
     have NB176_191 := Aside0.mk ((Hd.lt_ BK176 hg))
     have NB191_176 := Aside0.mk ((Hd.gt_ BK176 hg))
     replace BK176 := Aside0.mk (Hd.kb_ BK176 hb)
     have NB177_191 := Aside0.mk ((Hd.lt_ BK177 hg))
     have NB191_177 := Aside0.mk ((Hd.gt_ BK177 hg))
     replace BK177 := Aside0.mk (Hd.kb_ BK177 hb)
     clear hb hbox hg
     refine hK.out _ _ ⟨(blk_cell BK176.out 0).trans rfl, (blk_cell BK176.out 1).trans rfl, (blk_cell BK176.out 2).trans rfl, (blk_cell BK176.out 3).trans rfl, (blk_cell BK177.out 0).trans rfl, (blk_cell BK177.out 1).trans rfl, (blk_cell BK177.out 2).trans rfl, (blk_cell BK177.out 3).trans rfl⟩ (fun hHeld => ?_)
     clear hK K
     refine Hd.n_ (some 5) ?_
     refine Hd.o_ HT_ 1 (some 11) #[true, true, true, false, false, false, false, false, true, false, false] (fun K hK => ?_)
     refine goes_ Try.func39 (by kernel_rfl) rfl #[.agg #[.int .i64 a0_0, .int .i64 a0_1, .int .i64 a0_2, .int .i64 a0_3]] (by rfl) rfl rfl Hd.m_ ?_
     with_reducible refine (laws_toBox.calls a0_0 a0_1 a0_2 a0_3 t178 t179 t180 t181 _ A3.out).mono ?_
     rintro e w16 ⟨rfl, hb⟩
     refine ⟨_, rfl, ?_⟩
     replace BK176 := Aside0.mk (Hd.kb_ BK176 hb)
     replace BK177 := Aside0.mk (Hd.kb_ BK177 hb)
     replace BK191 := Aside0.mk (Hd.kb_ BK191 hb)
     replace HB := Aside0.mk (below_step Hd.b_ hb)
     (try clear hb)
     (try clear hb2)
     (try clear hk)
     (try clear hi)
     refine hK.out _ _ ⟨(blk_cell BK176.out 0).trans rfl, (blk_cell BK176.out 1).trans rfl, (blk_cell BK176.out 2).trans rfl, (blk_cell BK176.out 3).trans rfl, (blk_cell BK177.out 0).trans rfl, (blk_cell BK177.out 1).trans rfl, (blk_cell BK177.out 2).trans rfl, (blk_cell BK177.out 3).trans rfl⟩ (fun hHeld => ?_)
     clear hK K
     refine Hd.n_ (some 11) ?_
     refine Hd.o_ HT_ 3 (some 13) #[true, true, true, true, false, false, false, false, true, false, false] (fun K hK => ?_)
     refine goes_ Try.func39 (by kernel_rfl) rfl #[.agg #[.int .i64 a1_0, .int .i64 a1_1, .int .i64 a1_2, .int .i64 a1_3]] (by rfl) rfl rfl Hd.m_ ?_
     with_reducible refine (laws_toBox.calls a1_0 a1_1 a1_2 a1_3 t182 t183 t184 t185 _ A4.out).mono ?_
     rintro e w17 ⟨rfl, hb⟩
     refine ⟨_, rfl, ?_⟩
     replace BK176 := Aside0.mk (Hd.kb_ BK176 hb)
     replace BK177 := Aside0.mk (Hd.kb_ BK177 hb)
     replace BK191 := Aside0.mk (Hd.kb_ BK191 hb)
     replace HB := Aside0.mk (below_step Hd.b_ hb)
     (try clear hb)
     (try clear hb2)
     (try clear hk)
     (try clear hi)
     refine hK.out _ _ ⟨(blk_cell BK176.out 0).trans rfl, (blk_cell BK176.out 1).trans rfl, (blk_cell BK176.out 2).trans rfl, (blk_cell BK176.out 3).trans rfl, (blk_cell BK177.out 0).trans rfl, (blk_cell BK177.out 1).trans rfl, (blk_cell BK177.out 2).trans rfl, (blk_cell BK177.out 3).trans rfl⟩ (fun hHeld => ?_)
     clear hK K
     refine Hd.n_ (some 13) ?_
     refine Hd.o_ HT_ 4 (some 14) #[true, true, true, true, true, false, false, false, true, false, false] (fun K hK => ?_)
     refine goes_ Try.func38 (by kernel_rfl) rfl #[.agg #[.int .i64 t178, .int .i64 t179, .int .i64 t180, .int .i64 t181], .agg #[.int .i64 t182, .int .i64 t183, .int .i64 t184, .int .i64 t185]] (by rfl) rfl rfl Hd.m_ ?_
     with_reducible refine (spec_JoinBoxes.calls k t178 t179 t180 t181 t182 t183 t184 t185 t186 t187 t188 t189 t190 _ A5.out).mono ?_
     rintro e w18 ⟨rfl, hb⟩
     refine ⟨_, rfl, ?_⟩
     replace BK176 := Aside0.mk (Hd.kb_ BK176 hb)
     replace BK177 := Aside0.mk (Hd.kb_ BK177 hb)
     replace BK191 := Aside0.mk (Hd.kb_ BK191 hb)
     replace HB := Aside0.mk (below_step Hd.b_ hb)
     (try clear hb)
     (try clear hb2)
     (try clear hk)
     (try clear hi)
     refine hK.out _ _ ⟨(blk_cell BK176.out 0).trans rfl, (blk_cell BK176.out 1).trans rfl, (blk_cell BK176.out 2).trans rfl, (blk_cell BK176.out 3).trans rfl, (blk_cell BK177.out 0).trans rfl, (blk_cell BK177.out 1).trans rfl, (blk_cell BK177.out 2).trans rfl, (blk_cell BK177.out 3).trans rfl⟩ (fun hHeld => ?_)
     clear hK K
     refine Hd.n_ (some 14) ?_
     refine Hd.p_ HT_ 5 (some 9) #[true, true, true, true, true, true, false, false, true, false, false] ?_
     refine Hd.p_ HT_ 6 (some 15) #[true, true, true, true, true, true, true, false, true, false, false] ?_
     refine Hd.p_ HT_ 7 (some 16) #[true, true, true, true, true, true, true, true, true, false, false] ?_
     exact norm_ (by simp only [putAll, Act.put, List.setIfInBounds_toArray, List.set_cons_zero, List.set_cons_succ]) (hCont (gb191) _ ⟨hHeld, (Hd.k_ BK176), (Hd.k_ BK177), (Hd.k_ BK191), GW191.out, GE191.out, NB176_191.out, NB191_176.out, NB177_191.out, NB191_177.out, Hd.b_⟩)
   rintro gb191 w19 ⟨hS_, h0_, h1_, h2_, h3_, h4_, h5_, h6_, h7_, h8_, h9_⟩
   have n0_ : Aside0 (w19.heap[gb176]? = some (.cells #[.int .i64 a0_0, .int .i64 a0_1, .int .i64 a0_2, .int .i64 a0_3] 64 (0, 0))) := ⟨h0_⟩
   have n1_ : Aside0 (w19.heap[gb177]? = some (.cells #[.int .i64 a1_0, .int .i64 a1_1, .int .i64 a1_2, .int .i64 a1_3] 64 (0, 0))) := ⟨h1_⟩
   have n2_ : Aside0 (w19.heap[gb191]? = some (.cells #[.int .i64 0, .int .i64 0, .int .i64 0, .int .i64 0] 66 (0, 0))) := ⟨h2_⟩
   have n3_ : Aside0 (w.heap.size ≤ gb191) := ⟨h3_⟩
   have n4_ : Aside0 (w.heap.size ≤ gb191) := ⟨h4_⟩
   have n5_ : Aside0 (gb176 ≠ gb191) := ⟨h5_⟩
   have n6_ : Aside0 (gb191 ≠ gb176) := ⟨h6_⟩
   have n7_ : Aside0 (gb177 ≠ gb191) := ⟨h7_⟩
   have n8_ : Aside0 (gb191 ≠ gb177) := ⟨h8_⟩
   have n9_ : Aside0 (Below w.heap.size w w19) := ⟨h9_⟩
   clear BK176
   clear BK177
   clear HB
   clear h0_ h1_ h2_ h3_ h4_ h5_ h6_ h7_ h8_ h9_
   have BK176 := n0_
   have BK177 := n1_
   have BK191 := n2_
   have GW191 := n3_
   have GE191 := n4_
   have NB176_191 := n5_
   have NB191_176 := n6_
   have NB177_191 := n7_
   have NB191_177 := n8_
   have HB := n9_
   clear n0_ n1_ n2_ n3_ n4_ n5_ n6_ n7_ n8_ n9_
   have hHeld : w19.cell? ⟨gb176, 0, none⟩ = some (.int .i64 a0_0) ∧ w19.cell? ⟨gb176, 1, none⟩ = some (.int .i64 a0_1) ∧ w19.cell? ⟨gb176, 2, none⟩ = some (.int .i64 a0_2) ∧ w19.cell? ⟨gb176, 3, none⟩ = some (.int .i64 a0_3) ∧ w19.cell? ⟨gb177, 0, none⟩ = some (.int .i64 a1_0) ∧ w19.cell? ⟨gb177, 1, none⟩ = some (.int .i64 a1_1) ∧ w19.cell? ⟨gb177, 2, none⟩ = some (.int .i64 a1_2) ∧ w19.cell? ⟨gb177, 3, none⟩ = some (.int .i64 a1_3) := hS_
   refine norm_ (a' := ?_) ?_ ?_
   rotate_left
   ·
    simp only [putAll, Act.put, List.setIfInBounds_toArray, List.set_cons_zero, List.set_cons_succ]
    rfl
   refine Hd.o_ HT_ 9 (none) #[true, true, true, true, true, true, true, true, true, true, false] (fun K hK => ?_)
   have hs20 : w19.cell? ⟨gb191, 0, none⟩ = some (.int .i64 0) := (blk_cell BK191.out 0).trans rfl
   have hfs20 := blk_frozen BK191.out 0
   have hns20_0 := NB176_191.out
   have hns20_1 := NB177_191.out
   have hms20_0 := NB191_176.out
   have hms20_1 := NB191_177.out
   have hs21 : w19.cell? ⟨gb191, 1, none⟩ = some (.int .i64 0) := (blk_cell BK191.out 1).trans rfl
   have hfs21 := blk_frozen BK191.out 1
   have hns21_0 := NB176_191.out
   have hns21_1 := NB177_191.out
   have hms21_0 := NB191_176.out
   have hms21_1 := NB191_177.out
   have hs22 : w19.cell? ⟨gb191, 2, none⟩ = some (.int .i64 0) := (blk_cell BK191.out 2).trans rfl
   have hfs22 := blk_frozen BK191.out 2
   have hns22_0 := NB176_191.out
   have hns22_1 := NB177_191.out
   have hms22_0 := NB191_176.out
   have hms22_1 := NB191_177.out
   have hs23 : w19.cell? ⟨gb191, 3, none⟩ = some (.int .i64 0) := (blk_cell BK191.out 3).trans rfl
   have hfs23 := blk_frozen BK191.out 3
   have hns23_0 := NB176_191.out
   have hns23_1 := NB177_191.out
   have hms23_0 := NB191_176.out
   have hms23_1 := NB191_177.out
   refine skip_ (w1 := ?_) (by rfl) rfl ?_ ?_
   rotate_left
   ·
    go_simp
    rfl
   refine hK.out _ _ ⟨((cell_far (p := ⟨gb191, _, none⟩) NB176_191.out _).trans (((cell_far (p := ⟨gb191, _, none⟩) NB176_191.out _).trans (((cell_far (p := ⟨gb191, _, none⟩) NB176_191.out _).trans (((cell_far (p := ⟨gb191, _, none⟩) NB176_191.out _).trans (hHeld.1)))))))), ((cell_far (p := ⟨gb191, _, none⟩) NB176_191.out _).trans (((cell_far (p := ⟨gb191, _, none⟩) NB176_191.out _).trans (((cell_far (p := ⟨gb191, _, none⟩) NB176_191.out _).trans (((cell_far (p := ⟨gb191, _, none⟩) NB176_191.out _).trans (hHeld.2.1)))))))), ((cell_far (p := ⟨gb191, _, none⟩) NB176_191.out _).trans (((cell_far (p := ⟨gb191, _, none⟩) NB176_191.out _).trans (((cell_far (p := ⟨gb191, _, none⟩) NB176_191.out _).trans (((cell_far (p := ⟨gb191, _, none⟩) NB176_191.out _).trans (hHeld.2.2.1)))))))), ((cell_far (p := ⟨gb191, _, none⟩) NB176_191.out _).trans (((cell_far (p := ⟨gb191, _, none⟩) NB176_191.out _).trans (((cell_far (p := ⟨gb191, _, none⟩) NB176_191.out _).trans (((cell_far (p := ⟨gb191, _, none⟩) NB176_191.out _).trans (hHeld.2.2.2.1)))))))), ((cell_far (p := ⟨gb191, _, none⟩) NB177_191.out _).trans (((cell_far (p := ⟨gb191, _, none⟩) NB177_191.out _).trans (((cell_far (p := ⟨gb191, _, none⟩) NB177_191.out _).trans (((cell_far (p := ⟨gb191, _, none⟩) NB177_191.out _).trans (hHeld.2.2.2.2.1)))))))), ((cell_far (p := ⟨gb191, _, none⟩) NB177_191.out _).trans (((cell_far (p := ⟨gb191, _, none⟩) NB177_191.out _).trans (((cell_far (p := ⟨gb191, _, none⟩) NB177_191.out _).trans (((cell_far (p := ⟨gb191, _, none⟩) NB177_191.out _).trans (hHeld.2.2.2.2.2.1)))))))), ((cell_far (p := ⟨gb191, _, none⟩) NB177_191.out _).trans (((cell_far (p := ⟨gb191, _, none⟩) NB177_191.out _).trans (((cell_far (p := ⟨gb191, _, none⟩) NB177_191.out _).trans (((cell_far (p := ⟨gb191, _, none⟩) NB177_191.out _).trans (hHeld.2.2.2.2.2.2.1)))))))), ((cell_far (p := ⟨gb191, _, none⟩) NB177_191.out _).trans (((cell_far (p := ⟨gb191, _, none⟩) NB177_191.out _).trans (((cell_far (p := ⟨gb191, _, none⟩) NB177_191.out _).trans (((cell_far (p := ⟨gb191, _, none⟩) NB177_191.out _).trans (hHeld.2.2.2.2.2.2.2))))))))⟩ (fun hHeld => ?_)
   clear hK K
   refine Hd.p_ HT_ 10 (some 6) #[true, true, true, true, true, true, true, true, true, true, true] ?_
   refine done_ (done_of HT_.out (by kernel_rfl)) ?_
   try go_wp2
   have n0_ : Aside0 (((((w19.setCell ⟨gb191, 0, none⟩ (.int .i64 t186)).setCell ⟨gb191, 1, none⟩ (.int .i64 t187)).setCell ⟨gb191, 2, none⟩ (.int .i64 t188)).setCell ⟨gb191, 3, none⟩ (.int .i64 t189)).heap[gb176]? = some (.cells #[.int .i64 a0_0, .int .i64 a0_1, .int .i64 a0_2, .int .i64 a0_3] 64 (0, 0))) := ⟨by (with_reducible repeat (first | refine blk_drewN ?_ _ | refine blk_drew ?_ | refine blk_alloc ?_ _)); refine blk_far ?_ NB176_191.out _; (with_reducible repeat (first | refine blk_drewN ?_ _ | refine blk_drew ?_ | refine blk_alloc ?_ _)); refine blk_far ?_ NB176_191.out _; (with_reducible repeat (first | refine blk_drewN ?_ _ | refine blk_drew ?_ | refine blk_alloc ?_ _)); refine blk_far ?_ NB176_191.out _; (with_reducible repeat (first | refine blk_drewN ?_ _ | refine blk_drew ?_ | refine blk_alloc ?_ _)); refine blk_far ?_ NB176_191.out _; (with_reducible repeat (first | refine blk_drewN ?_ _ | refine blk_drew ?_ | refine blk_alloc ?_ _)); exact BK176.out⟩
   have n1_ : Aside0 (((((w19.setCell ⟨gb191, 0, none⟩ (.int .i64 t186)).setCell ⟨gb191, 1, none⟩ (.int .i64 t187)).setCell ⟨gb191, 2, none⟩ (.int .i64 t188)).setCell ⟨gb191, 3, none⟩ (.int .i64 t189)).heap[gb177]? = some (.cells #[.int .i64 a1_0, .int .i64 a1_1, .int .i64 a1_2, .int .i64 a1_3] 64 (0, 0))) := ⟨by (with_reducible repeat (first | refine blk_drewN ?_ _ | refine blk_drew ?_ | refine blk_alloc ?_ _)); refine blk_far ?_ NB177_191.out _; (with_reducible repeat (first | refine blk_drewN ?_ _ | refine blk_drew ?_ | refine blk_alloc ?_ _)); refine blk_far ?_ NB177_191.out _; (with_reducible repeat (first | refine blk_drewN ?_ _ | refine blk_drew ?_ | refine blk_alloc ?_ _)); refine blk_far ?_ NB177_191.out _; (with_reducible repeat (first | refine blk_drewN ?_ _ | refine blk_drew ?_ | refine blk_alloc ?_ _)); refine blk_far ?_ NB177_191.out _; (with_reducible repeat (first | refine blk_drewN ?_ _ | refine blk_drew ?_ | refine blk_alloc ?_ _)); exact BK177.out⟩
   have n2_ : Aside0 (((((w19.setCell ⟨gb191, 0, none⟩ (.int .i64 t186)).setCell ⟨gb191, 1, none⟩ (.int .i64 t187)).setCell ⟨gb191, 2, none⟩ (.int .i64 t188)).setCell ⟨gb191, 3, none⟩ (.int .i64 t189)).heap[gb191]? = some (.cells #[.int .i64 t186, .int .i64 t187, .int .i64 t188, .int .i64 t189] 66 (0, 0))) := ⟨by (with_reducible repeat (first | refine blk_drewN ?_ _ | refine blk_drew ?_ | refine blk_alloc ?_ _)); refine blk_put (cs := #[.int .i64 t186, .int .i64 t187, .int .i64 t188, .int .i64 0]) ?_ 3 _ rfl; (with_reducible repeat (first | refine blk_drewN ?_ _ | refine blk_drew ?_ | refine blk_alloc ?_ _)); refine blk_put (cs := #[.int .i64 t186, .int .i64 t187, .int .i64 0, .int .i64 0]) ?_ 2 _ rfl; (with_reducible repeat (first | refine blk_drewN ?_ _ | refine blk_drew ?_ | refine blk_alloc ?_ _)); refine blk_put (cs := #[.int .i64 t186, .int .i64 0, .int .i64 0, .int .i64 0]) ?_ 1 _ rfl; (with_reducible repeat (first | refine blk_drewN ?_ _ | refine blk_drew ?_ | refine blk_alloc ?_ _)); refine blk_put (cs := #[.int .i64 0, .int .i64 0, .int .i64 0, .int .i64 0]) ?_ 0 _ rfl; (with_reducible repeat (first | refine blk_drewN ?_ _ | refine blk_drew ?_ | refine blk_alloc ?_ _)); exact BK191.out⟩
   have n3_ : Aside0 (Below w.heap.size w ((((w19.setCell ⟨gb191, 0, none⟩ (.int .i64 t186)).setCell ⟨gb191, 1, none⟩ (.int .i64 t187)).setCell ⟨gb191, 2, none⟩ (.int .i64 t188)).setCell ⟨gb191, 3, none⟩ (.int .i64 t189))) := ⟨Hd.b_⟩
   (try clear BK176)
   (try clear BK177)
   (try clear BK191)
   (try clear HB)
   generalize ((((w19.setCell ⟨gb191, 0, none⟩ (.int .i64 t186)).setCell ⟨gb191, 1, none⟩ (.int .i64 t187)).setCell ⟨gb191, 2, none⟩ (.int .i64 t188)).setCell ⟨gb191, 3, none⟩ (.int .i64 t189)) = w24 at n0_ n1_ n2_ n3_ ⊢
   have BK176 := n0_
   have BK177 := n1_
   have BK191 := n2_
   have HB := n3_
   clear n0_ n1_ n2_ n3_
   replace BK176 := Aside0.mk (blk_drew BK176.out)
   replace BK177 := Aside0.mk (blk_drew BK177.out)
   replace BK191 := Aside0.mk (blk_drew BK191.out)
   replace HB := Aside0.mk (below_drew1 HB.out)
   refine start_ (n := 11) (S := fun w' => w'.cell? ⟨gb176, 0, none⟩ = some (.int .i64 a0_0) ∧ w'.cell? ⟨gb176, 1, none⟩ = some (.int .i64 a0_1) ∧ w'.cell? ⟨gb176, 2, none⟩ = some (.int .i64 a0_2) ∧ w'.cell? ⟨gb176, 3, none⟩ = some (.int .i64 a0_3) ∧ w'.cell? ⟨gb177, 0, none⟩ = some (.int .i64 a1_0) ∧ w'.cell? ⟨gb177, 1, none⟩ = some (.int .i64 a1_1) ∧ w'.cell? ⟨gb177, 2, none⟩ = some (.int .i64 a1_2) ∧ w'.cell? ⟨gb177, 3, none⟩ = some (.int .i64 a1_3)) (ds := []) #[false, false, false, false, false, false, false, false, false, false, false] (by kernel_rfl) rfl rfl ⟨(blk_cell BK176.out 0).trans rfl, (blk_cell BK176.out 1).trans rfl, (blk_cell BK176.out 2).trans rfl, (blk_cell BK176.out 3).trans rfl, (blk_cell BK177.out 0).trans rfl, (blk_cell BK177.out 1).trans rfl, (blk_cell BK177.out 2).trans rfl, (blk_cell BK177.out 3).trans rfl⟩ (fun hHeld => ?_); refine with_tabW laws_FnExactJoinBoxes.tab2 laws_FnExactJoinBoxes.bits2 (fun HT_ HW_ => ?_)
   generalize w24.drew = w25 at BK176 BK177 BK191 HB hHeld ⊢
   refine Hd.t_ HT_ HW_ hHeld 0 (some 18) #[true, false, false, false, false, false, false, false, false, false, false] ?_
   refine Hd.t_ HT_ HW_ hHeld 2 (some 20) #[true, false, true, false, false, false, false, false, false, false, false] ?_
   refine join_ (σ := Nat) 2 #[true, true, true, true, true, true, true, true, true, false, false] (fun s_ => [(19, .agg #[.int .i64 t192, .int .i64 t193, .int .i64 t194, .int .i64 t195]), (21, .agg #[.int .i64 t196, .int .i64 t197, .int .i64 t198, .int .i64 t199]), (22, .tuple #[.agg #[.int .i64 t200, .int .i64 t201, .int .i64 t202, .int .i64 t203], .bool t204]), (7, .pointer (some ⟨s_, 0, none⟩)), (17, .tuple #[.agg #[.int .i64 t200, .int .i64 t201, .int .i64 t202, .int .i64 t203], .bool t204]), (23, .agg #[.int .i64 t200, .int .i64 t201, .int .i64 t202, .int .i64 t203]), (24, .bool t204)]) (fun s_ w' => (w'.cell? ⟨gb176, 0, none⟩ = some (.int .i64 a0_0) ∧ w'.cell? ⟨gb176, 1, none⟩ = some (.int .i64 a0_1) ∧ w'.cell? ⟨gb176, 2, none⟩ = some (.int .i64 a0_2) ∧ w'.cell? ⟨gb176, 3, none⟩ = some (.int .i64 a0_3) ∧ w'.cell? ⟨gb177, 0, none⟩ = some (.int .i64 a1_0) ∧ w'.cell? ⟨gb177, 1, none⟩ = some (.int .i64 a1_1) ∧ w'.cell? ⟨gb177, 2, none⟩ = some (.int .i64 a1_2) ∧ w'.cell? ⟨gb177, 3, none⟩ = some (.int .i64 a1_3)) ∧ (w'.heap[gb176]? = some (.cells #[.int .i64 a0_0, .int .i64 a0_1, .int .i64 a0_2, .int .i64 a0_3] 64 (0, 0))) ∧ (w'.heap[gb177]? = some (.cells #[.int .i64 a1_0, .int .i64 a1_1, .int .i64 a1_2, .int .i64 a1_3] 64 (0, 0))) ∧ (w'.heap[gb191]? = some (.cells #[.int .i64 t186, .int .i64 t187, .int .i64 t188, .int .i64 t189] 66 (0, 0))) ∧ (w'.heap[s_]? = some (.cells #[.int .i64 0, .int .i64 0, .int .i64 0, .int .i64 0] 66 (0, 0))) ∧ (w.heap.size ≤ s_) ∧ (w.heap.size ≤ s_) ∧ (gb176 ≠ s_) ∧ (s_ ≠ gb176) ∧ (gb177 ≠ s_) ∧ (s_ ≠ gb177) ∧ (gb191 ≠ s_) ∧ (s_ ≠ gb191) ∧ (Below w.heap.size w w')) ?_ ?_
   rotate_left
   ·
    intro hCont
    refine two_ (i := 1) (j := 8) (Ni := some 19) (Nj := some 7) #[true, true, true, false, false, false, false, false, false, false, false] #[true, false, true, false, false, false, false, false, true, false, false] rfl rfl rfl rfl (two_of HT_.out (by kernel_rfl)) (by decide) (by decide) (fun K hK => ?_) (fun K hK => ?_)
    ·
     skip
     refine goes_ Try.func39 (by kernel_rfl) rfl #[.agg #[.int .i64 a0_0, .int .i64 a0_1, .int .i64 a0_2, .int .i64 a0_3]] (by rfl) rfl rfl Hd.m_ ?_
     with_reducible refine (laws_toBox.calls a0_0 a0_1 a0_2 a0_3 t192 t193 t194 t195 _ A6.out).mono ?_
     rintro e w26 ⟨rfl, hb⟩
     refine ⟨_, rfl, ?_⟩
     replace BK176 := Aside0.mk (Hd.kb_ BK176 hb)
     replace BK177 := Aside0.mk (Hd.kb_ BK177 hb)
     replace BK191 := Aside0.mk (Hd.kb_ BK191 hb)
     replace HB := Aside0.mk (below_step Hd.b_ hb)
     (try clear hb)
     (try clear hb2)
     (try clear hk)
     (try clear hi)
     refine hK.out _ _ ⟨(blk_cell BK176.out 0).trans rfl, (blk_cell BK176.out 1).trans rfl, (blk_cell BK176.out 2).trans rfl, (blk_cell BK176.out 3).trans rfl, (blk_cell BK177.out 0).trans rfl, (blk_cell BK177.out 1).trans rfl, (blk_cell BK177.out 2).trans rfl, (blk_cell BK177.out 3).trans rfl⟩ (fun hHeld => ?_)
     clear hK K
     refine Hd.n_ (some 19) ?_
     refine two_ (i := 3) (j := 8) (Ni := some 21) (Nj := some 7) #[true, true, true, true, false, false, false, false, false, false, false] #[true, true, true, false, false, false, false, false, true, false, false] rfl rfl rfl rfl (two_of HT_.out (by kernel_rfl)) (by decide) (by decide) (fun K hK => ?_) (fun K hK => ?_)
     ·
      skip
      refine goes_ Try.func39 (by kernel_rfl) rfl #[.agg #[.int .i64 a1_0, .int .i64 a1_1, .int .i64 a1_2, .int .i64 a1_3]] (by rfl) rfl rfl Hd.m_ ?_
      with_reducible refine (laws_toBox.calls a1_0 a1_1 a1_2 a1_3 t196 t197 t198 t199 _ A7.out).mono ?_
      rintro e w27 ⟨rfl, hb⟩
      refine ⟨_, rfl, ?_⟩
      replace BK176 := Aside0.mk (Hd.kb_ BK176 hb)
      replace BK177 := Aside0.mk (Hd.kb_ BK177 hb)
      replace BK191 := Aside0.mk (Hd.kb_ BK191 hb)
      replace HB := Aside0.mk (below_step Hd.b_ hb)
      (try clear hb)
      (try clear hb2)
      (try clear hk)
      (try clear hi)
      refine hK.out _ _ ⟨(blk_cell BK176.out 0).trans rfl, (blk_cell BK176.out 1).trans rfl, (blk_cell BK176.out 2).trans rfl, (blk_cell BK176.out 3).trans rfl, (blk_cell BK177.out 0).trans rfl, (blk_cell BK177.out 1).trans rfl, (blk_cell BK177.out 2).trans rfl, (blk_cell BK177.out 3).trans rfl⟩ (fun hHeld => ?_)
      clear hK K
      refine Hd.n_ (some 21) ?_
      refine two_ (i := 4) (j := 8) (Ni := some 22) (Nj := some 7) #[true, true, true, true, true, false, false, false, false, false, false] #[true, true, true, true, false, false, false, false, true, false, false] rfl rfl rfl rfl (two_of HT_.out (by kernel_rfl)) (by decide) (by decide) (fun K hK => ?_) (fun K hK => ?_)
      ·
       skip
       refine goes_ Try.func40 (by kernel_rfl) rfl #[.agg #[.int .i64 t192, .int .i64 t193, .int .i64 t194, .int .i64 t195], .agg #[.int .i64 t196, .int .i64 t197, .int .i64 t198, .int .i64 t199]] (by rfl) rfl rfl Hd.m_ ?_
       with_reducible refine (impl_JoinBoxes.calls k t192 t193 t194 t195 t196 t197 t198 t199 t200 t201 t202 t203 t204 _ A8.out).mono ?_
       rintro e w28 ⟨rfl, hb⟩
       refine ⟨_, rfl, ?_⟩
       replace BK176 := Aside0.mk (Hd.kb_ BK176 hb)
       replace BK177 := Aside0.mk (Hd.kb_ BK177 hb)
       replace BK191 := Aside0.mk (Hd.kb_ BK191 hb)
       replace HB := Aside0.mk (below_step Hd.b_ hb)
       (try clear hb)
       (try clear hb2)
       (try clear hk)
       (try clear hi)
       refine hK.out _ _ ⟨(blk_cell BK176.out 0).trans rfl, (blk_cell BK176.out 1).trans rfl, (blk_cell BK176.out 2).trans rfl, (blk_cell BK176.out 3).trans rfl, (blk_cell BK177.out 0).trans rfl, (blk_cell BK177.out 1).trans rfl, (blk_cell BK177.out 2).trans rfl, (blk_cell BK177.out 3).trans rfl⟩ (fun hHeld => ?_)
       clear hK K
       refine Hd.n_ (some 22) ?_
       refine Hd.p_ HT_ 5 (some 17) #[true, true, true, true, true, true, false, false, false, false, false] ?_
       refine Hd.p_ HT_ 6 (some 23) #[true, true, true, true, true, true, true, false, false, false, false] ?_
       refine Hd.p_ HT_ 7 (some 24) #[true, true, true, true, true, true, true, true, false, false, false] ?_
       refine Hd.o_ HT_ 8 (some 7) #[true, true, true, true, true, true, true, true, true, false, false] (fun K hK => ?_)
       refine box_step ?hg (N := 7) ?hd (cs := #[.int .i64 0, .int .i64 0, .int .i64 0, .int .i64 0]) (t := 66) ?hr ?_; (case hd => rfl); (case hg => rfl); (case hr => first | (go_simp; done) | (go_simp; rfl))
       intro gb205 hg w29 hbox hb
       have BK205 := Aside0.mk (hbox)
       have GW205 := Aside0.mk ((Hd.g_ hg Hd.b_ : w.heap.size ≤ gb205))
       have GE205 := Aside0.mk ((Hd.g_ hg Hd.b_ : w.heap.size ≤ gb205))
       replace HB := Aside0.mk (below_step Hd.b_ hb)
       have NB176_205 := Aside0.mk ((Hd.lt_ BK176 hg))
       have NB205_176 := Aside0.mk ((Hd.gt_ BK176 hg))
       replace BK176 := Aside0.mk (Hd.kb_ BK176 hb)
       have NB177_205 := Aside0.mk ((Hd.lt_ BK177 hg))
       have NB205_177 := Aside0.mk ((Hd.gt_ BK177 hg))
       replace BK177 := Aside0.mk (Hd.kb_ BK177 hb)
       have NB191_205 := Aside0.mk ((Hd.lt_ BK191 hg))
       have NB205_191 := Aside0.mk ((Hd.gt_ BK191 hg))
       replace BK191 := Aside0.mk (Hd.kb_ BK191 hb)
       clear hb hbox hg
       refine hK.out _ _ ⟨(blk_cell BK176.out 0).trans rfl, (blk_cell BK176.out 1).trans rfl, (blk_cell BK176.out 2).trans rfl, (blk_cell BK176.out 3).trans rfl, (blk_cell BK177.out 0).trans rfl, (blk_cell BK177.out 1).trans rfl, (blk_cell BK177.out 2).trans rfl, (blk_cell BK177.out 3).trans rfl⟩ (fun hHeld => ?_)
       clear hK K
       refine Hd.n_ (some 7) ?_
       exact norm_ (by simp only [putAll, Act.put, List.setIfInBounds_toArray, List.set_cons_zero, List.set_cons_succ]) (hCont (gb205) _ ⟨hHeld, (Hd.k_ BK176), (Hd.k_ BK177), (Hd.k_ BK191), (Hd.k_ BK205), GW205.out, GE205.out, NB176_205.out, NB205_176.out, NB177_205.out, NB205_177.out, NB191_205.out, NB205_191.out, Hd.b_⟩)
      ·
       skip
       refine box_step ?hg (N := 7) ?hd (cs := #[.int .i64 0, .int .i64 0, .int .i64 0, .int .i64 0]) (t := 66) ?hr ?_; (case hd => rfl); (case hg => rfl); (case hr => first | (go_simp; done) | (go_simp; rfl))
       intro gb205 hg w28 hbox hb
       have BK205 := Aside0.mk (hbox)
       have GW205 := Aside0.mk ((Hd.g_ hg Hd.b_ : w.heap.size ≤ gb205))
       have GE205 := Aside0.mk ((Hd.g_ hg Hd.b_ : w.heap.size ≤ gb205))
       replace HB := Aside0.mk (below_step Hd.b_ hb)
       have NB176_205 := Aside0.mk ((Hd.lt_ BK176 hg))
       have NB205_176 := Aside0.mk ((Hd.gt_ BK176 hg))
       replace BK176 := Aside0.mk (Hd.kb_ BK176 hb)
       have NB177_205 := Aside0.mk ((Hd.lt_ BK177 hg))
       have NB205_177 := Aside0.mk ((Hd.gt_ BK177 hg))
       replace BK177 := Aside0.mk (Hd.kb_ BK177 hb)
       have NB191_205 := Aside0.mk ((Hd.lt_ BK191 hg))
       have NB205_191 := Aside0.mk ((Hd.gt_ BK191 hg))
       replace BK191 := Aside0.mk (Hd.kb_ BK191 hb)
       clear hb hbox hg
       refine hK.out _ _ ⟨(blk_cell BK176.out 0).trans rfl, (blk_cell BK176.out 1).trans rfl, (blk_cell BK176.out 2).trans rfl, (blk_cell BK176.out 3).trans rfl, (blk_cell BK177.out 0).trans rfl, (blk_cell BK177.out 1).trans rfl, (blk_cell BK177.out 2).trans rfl, (blk_cell BK177.out 3).trans rfl⟩ (fun hHeld => ?_)
       clear hK K
       refine Hd.n_ (some 7) ?_
       refine Hd.o_ HT_ 4 (some 22) #[true, true, true, true, true, false, false, false, true, false, false] (fun K hK => ?_)
       refine goes_ Try.func40 (by kernel_rfl) rfl #[.agg #[.int .i64 t192, .int .i64 t193, .int .i64 t194, .int .i64 t195], .agg #[.int .i64 t196, .int .i64 t197, .int .i64 t198, .int .i64 t199]] (by rfl) rfl rfl Hd.m_ ?_
       with_reducible refine (impl_JoinBoxes.calls k t192 t193 t194 t195 t196 t197 t198 t199 t200 t201 t202 t203 t204 _ A8.out).mono ?_
       rintro e w29 ⟨rfl, hb⟩
       refine ⟨_, rfl, ?_⟩
       replace BK176 := Aside0.mk (Hd.kb_ BK176 hb)
       replace BK177 := Aside0.mk (Hd.kb_ BK177 hb)
       replace BK191 := Aside0.mk (Hd.kb_ BK191 hb)
       replace BK205 := Aside0.mk (Hd.kb_ BK205 hb)
       replace HB := Aside0.mk (below_step Hd.b_ hb)
       (try clear hb)
       (try clear hb2)
       (try clear hk)
       (try clear hi)
       refine hK.out _ _ ⟨(blk_cell BK176.out 0).trans rfl, (blk_cell BK176.out 1).trans rfl, (blk_cell BK176.out 2).trans rfl, (blk_cell BK176.out 3).trans rfl, (blk_cell BK177.out 0).trans rfl, (blk_cell BK177.out 1).trans rfl, (blk_cell BK177.out 2).trans rfl, (blk_cell BK177.out 3).trans rfl⟩ (fun hHeld => ?_)
       clear hK K
       refine Hd.n_ (some 22) ?_
       refine Hd.p_ HT_ 5 (some 17) #[true, true, true, true, true, true, false, false, true, false, false] ?_
       refine Hd.p_ HT_ 6 (some 23) #[true, true, true, true, true, true, true, false, true, false, false] ?_
       refine Hd.p_ HT_ 7 (some 24) #[true, true, true, true, true, true, true, true, true, false, false] ?_
       exact norm_ (by simp only [putAll, Act.put, List.setIfInBounds_toArray, List.set_cons_zero, List.set_cons_succ]) (hCont (gb205) _ ⟨hHeld, (Hd.k_ BK176), (Hd.k_ BK177), (Hd.k_ BK191), (Hd.k_ BK205), GW205.out, GE205.out, NB176_205.out, NB205_176.out, NB177_205.out, NB205_177.out, NB191_205.out, NB205_191.out, Hd.b_⟩)
     ·
      skip
      refine box_step ?hg (N := 7) ?hd (cs := #[.int .i64 0, .int .i64 0, .int .i64 0, .int .i64 0]) (t := 66) ?hr ?_; (case hd => rfl); (case hg => rfl); (case hr => first | (go_simp; done) | (go_simp; rfl))
      intro gb205 hg w27 hbox hb
      have BK205 := Aside0.mk (hbox)
      have GW205 := Aside0.mk ((Hd.g_ hg Hd.b_ : w.heap.size ≤ gb205))
      have GE205 := Aside0.mk ((Hd.g_ hg Hd.b_ : w.heap.size ≤ gb205))
      replace HB := Aside0.mk (below_step Hd.b_ hb)
      have NB176_205 := Aside0.mk ((Hd.lt_ BK176 hg))
      have NB205_176 := Aside0.mk ((Hd.gt_ BK176 hg))
      replace BK176 := Aside0.mk (Hd.kb_ BK176 hb)
      have NB177_205 := Aside0.mk ((Hd.lt_ BK177 hg))
      have NB205_177 := Aside0.mk ((Hd.gt_ BK177 hg))
      replace BK177 := Aside0.mk (Hd.kb_ BK177 hb)
      have NB191_205 := Aside0.mk ((Hd.lt_ BK191 hg))
      have NB205_191 := Aside0.mk ((Hd.gt_ BK191 hg))
      replace BK191 := Aside0.mk (Hd.kb_ BK191 hb)
      clear hb hbox hg
      refine hK.out _ _ ⟨(blk_cell BK176.out 0).trans rfl, (blk_cell BK176.out 1).trans rfl, (blk_cell BK176.out 2).trans rfl, (blk_cell BK176.out 3).trans rfl, (blk_cell BK177.out 0).trans rfl, (blk_cell BK177.out 1).trans rfl, (blk_cell BK177.out 2).trans rfl, (blk_cell BK177.out 3).trans rfl⟩ (fun hHeld => ?_)
      clear hK K
      refine Hd.n_ (some 7) ?_
      refine Hd.o_ HT_ 3 (some 21) #[true, true, true, true, false, false, false, false, true, false, false] (fun K hK => ?_)
      refine goes_ Try.func39 (by kernel_rfl) rfl #[.agg #[.int .i64 a1_0, .int .i64 a1_1, .int .i64 a1_2, .int .i64 a1_3]] (by rfl) rfl rfl Hd.m_ ?_
      with_reducible refine (laws_toBox.calls a1_0 a1_1 a1_2 a1_3 t196 t197 t198 t199 _ A7.out).mono ?_
      rintro e w28 ⟨rfl, hb⟩
      refine ⟨_, rfl, ?_⟩
      replace BK176 := Aside0.mk (Hd.kb_ BK176 hb)
      replace BK177 := Aside0.mk (Hd.kb_ BK177 hb)
      replace BK191 := Aside0.mk (Hd.kb_ BK191 hb)
      replace BK205 := Aside0.mk (Hd.kb_ BK205 hb)
      replace HB := Aside0.mk (below_step Hd.b_ hb)
      (try clear hb)
      (try clear hb2)
      (try clear hk)
      (try clear hi)
      refine hK.out _ _ ⟨(blk_cell BK176.out 0).trans rfl, (blk_cell BK176.out 1).trans rfl, (blk_cell BK176.out 2).trans rfl, (blk_cell BK176.out 3).trans rfl, (blk_cell BK177.out 0).trans rfl, (blk_cell BK177.out 1).trans rfl, (blk_cell BK177.out 2).trans rfl, (blk_cell BK177.out 3).trans rfl⟩ (fun hHeld => ?_)
      clear hK K
      refine Hd.n_ (some 21) ?_
      refine Hd.o_ HT_ 4 (some 22) #[true, true, true, true, true, false, false, false, true, false, false] (fun K hK => ?_)
      refine goes_ Try.func40 (by kernel_rfl) rfl #[.agg #[.int .i64 t192, .int .i64 t193, .int .i64 t194, .int .i64 t195], .agg #[.int .i64 t196, .int .i64 t197, .int .i64 t198, .int .i64 t199]] (by rfl) rfl rfl Hd.m_ ?_
      with_reducible refine (impl_JoinBoxes.calls k t192 t193 t194 t195 t196 t197 t198 t199 t200 t201 t202 t203 t204 _ A8.out).mono ?_
      rintro e w29 ⟨rfl, hb⟩
      refine ⟨_, rfl, ?_⟩
      replace BK176 := Aside0.mk (Hd.kb_ BK176 hb)
      replace BK177 := Aside0.mk (Hd.kb_ BK177 hb)
      replace BK191 := Aside0.mk (Hd.kb_ BK191 hb)
      replace BK205 := Aside0.mk (Hd.kb_ BK205 hb)
      replace HB := Aside0.mk (below_step Hd.b_ hb)
      (try clear hb)
      (try clear hb2)
      (try clear hk)
      (try clear hi)
      refine hK.out _ _ ⟨(blk_cell BK176.out 0).trans rfl, (blk_cell BK176.out 1).trans rfl, (blk_cell BK176.out 2).trans rfl, (blk_cell BK176.out 3).trans rfl, (blk_cell BK177.out 0).trans rfl, (blk_cell BK177.out 1).trans rfl, (blk_cell BK177.out 2).trans rfl, (blk_cell BK177.out 3).trans rfl⟩ (fun hHeld => ?_)
      clear hK K
      refine Hd.n_ (some 22) ?_
      refine Hd.p_ HT_ 5 (some 17) #[true, true, true, true, true, true, false, false, true, false, false] ?_
      refine Hd.p_ HT_ 6 (some 23) #[true, true, true, true, true, true, true, false, true, false, false] ?_
      refine Hd.p_ HT_ 7 (some 24) #[true, true, true, true, true, true, true, true, true, false, false] ?_
      exact norm_ (by simp only [putAll, Act.put, List.setIfInBounds_toArray, List.set_cons_zero, List.set_cons_succ]) (hCont (gb205) _ ⟨hHeld, (Hd.k_ BK176), (Hd.k_ BK177), (Hd.k_ BK191), (Hd.k_ BK205), GW205.out, GE205.out, NB176_205.out, NB205_176.out, NB177_205.out, NB205_177.out, NB191_205.out, NB205_191.out, Hd.b_⟩)
    ·
     skip
     refine box_step ?hg (N := 7) ?hd (cs := #[.int .i64 0, .int .i64 0, .int .i64 0, .int .i64 0]) (t := 66) ?hr ?_; (case hd => rfl); (case hg => rfl); (case hr => first | (go_simp; done) | (go_simp; rfl))
     intro gb205 hg w26 hbox hb
     have BK205 := Aside0.mk (hbox)
     have GW205 := Aside0.mk ((Hd.g_ hg Hd.b_ : w.heap.size ≤ gb205))
     have GE205 := Aside0.mk ((Hd.g_ hg Hd.b_ : w.heap.size ≤ gb205))
     replace HB := Aside0.mk (below_step Hd.b_ hb)
     have NB176_205 := Aside0.mk ((Hd.lt_ BK176 hg))
     have NB205_176 := Aside0.mk ((Hd.gt_ BK176 hg))
     replace BK176 := Aside0.mk (Hd.kb_ BK176 hb)
     have NB177_205 := Aside0.mk ((Hd.lt_ BK177 hg))
     have NB205_177 := Aside0.mk ((Hd.gt_ BK177 hg))
     replace BK177 := Aside0.mk (Hd.kb_ BK177 hb)
     have NB191_205 := Aside0.mk ((Hd.lt_ BK191 hg))
     have NB205_191 := Aside0.mk ((Hd.gt_ BK191 hg))
     replace BK191 := Aside0.mk (Hd.kb_ BK191 hb)
     clear hb hbox hg
     refine hK.out _ _ ⟨(blk_cell BK176.out 0).trans rfl, (blk_cell BK176.out 1).trans rfl, (blk_cell BK176.out 2).trans rfl, (blk_cell BK176.out 3).trans rfl, (blk_cell BK177.out 0).trans rfl, (blk_cell BK177.out 1).trans rfl, (blk_cell BK177.out 2).trans rfl, (blk_cell BK177.out 3).trans rfl⟩ (fun hHeld => ?_)
     clear hK K
     refine Hd.n_ (some 7) ?_
     refine Hd.o_ HT_ 1 (some 19) #[true, true, true, false, false, false, false, false, true, false, false] (fun K hK => ?_)
     refine goes_ Try.func39 (by kernel_rfl) rfl #[.agg #[.int .i64 a0_0, .int .i64 a0_1, .int .i64 a0_2, .int .i64 a0_3]] (by rfl) rfl rfl Hd.m_ ?_
     with_reducible refine (laws_toBox.calls a0_0 a0_1 a0_2 a0_3 t192 t193 t194 t195 _ A6.out).mono ?_
     rintro e w27 ⟨rfl, hb⟩
     refine ⟨_, rfl, ?_⟩
     replace BK176 := Aside0.mk (Hd.kb_ BK176 hb)
     replace BK177 := Aside0.mk (Hd.kb_ BK177 hb)
     replace BK191 := Aside0.mk (Hd.kb_ BK191 hb)
     replace BK205 := Aside0.mk (Hd.kb_ BK205 hb)
     replace HB := Aside0.mk (below_step Hd.b_ hb)
     (try clear hb)
     (try clear hb2)
     (try clear hk)
     (try clear hi)
     refine hK.out _ _ ⟨(blk_cell BK176.out 0).trans rfl, (blk_cell BK176.out 1).trans rfl, (blk_cell BK176.out 2).trans rfl, (blk_cell BK176.out 3).trans rfl, (blk_cell BK177.out 0).trans rfl, (blk_cell BK177.out 1).trans rfl, (blk_cell BK177.out 2).trans rfl, (blk_cell BK177.out 3).trans rfl⟩ (fun hHeld => ?_)
     clear hK K
     refine Hd.n_ (some 19) ?_
     refine Hd.o_ HT_ 3 (some 21) #[true, true, true, true, false, false, false, false, true, false, false] (fun K hK => ?_)
     refine goes_ Try.func39 (by kernel_rfl) rfl #[.agg #[.int .i64 a1_0, .int .i64 a1_1, .int .i64 a1_2, .int .i64 a1_3]] (by rfl) rfl rfl Hd.m_ ?_
     with_reducible refine (laws_toBox.calls a1_0 a1_1 a1_2 a1_3 t196 t197 t198 t199 _ A7.out).mono ?_
     rintro e w28 ⟨rfl, hb⟩
     refine ⟨_, rfl, ?_⟩
     replace BK176 := Aside0.mk (Hd.kb_ BK176 hb)
     replace BK177 := Aside0.mk (Hd.kb_ BK177 hb)
     replace BK191 := Aside0.mk (Hd.kb_ BK191 hb)
     replace BK205 := Aside0.mk (Hd.kb_ BK205 hb)
     replace HB := Aside0.mk (below_step Hd.b_ hb)
     (try clear hb)
     (try clear hb2)
     (try clear hk)
     (try clear hi)
     refine hK.out _ _ ⟨(blk_cell BK176.out 0).trans rfl, (blk_cell BK176.out 1).trans rfl, (blk_cell BK176.out 2).trans rfl, (blk_cell BK176.out 3).trans rfl, (blk_cell BK177.out 0).trans rfl, (blk_cell BK177.out 1).trans rfl, (blk_cell BK177.out 2).trans rfl, (blk_cell BK177.out 3).trans rfl⟩ (fun hHeld => ?_)
     clear hK K
     refine Hd.n_ (some 21) ?_
     refine Hd.o_ HT_ 4 (some 22) #[true, true, true, true, true, false, false, false, true, false, false] (fun K hK => ?_)
     refine goes_ Try.func40 (by kernel_rfl) rfl #[.agg #[.int .i64 t192, .int .i64 t193, .int .i64 t194, .int .i64 t195], .agg #[.int .i64 t196, .int .i64 t197, .int .i64 t198, .int .i64 t199]] (by rfl) rfl rfl Hd.m_ ?_
     with_reducible refine (impl_JoinBoxes.calls k t192 t193 t194 t195 t196 t197 t198 t199 t200 t201 t202 t203 t204 _ A8.out).mono ?_
     rintro e w29 ⟨rfl, hb⟩
     refine ⟨_, rfl, ?_⟩
     replace BK176 := Aside0.mk (Hd.kb_ BK176 hb)
     replace BK177 := Aside0.mk (Hd.kb_ BK177 hb)
     replace BK191 := Aside0.mk (Hd.kb_ BK191 hb)
     replace BK205 := Aside0.mk (Hd.kb_ BK205 hb)
     replace HB := Aside0.mk (below_step Hd.b_ hb)
     (try clear hb)
     (try clear hb2)
     (try clear hk)
     (try clear hi)
     refine hK.out _ _ ⟨(blk_cell BK176.out 0).trans rfl, (blk_cell BK176.out 1).trans rfl, (blk_cell BK176.out 2).trans rfl, (blk_cell BK176.out 3).trans rfl, (blk_cell BK177.out 0).trans rfl, (blk_cell BK177.out 1).trans rfl, (blk_cell BK177.out 2).trans rfl, (blk_cell BK177.out 3).trans rfl⟩ (fun hHeld => ?_)
     clear hK K
     refine Hd.n_ (some 22) ?_
     refine Hd.p_ HT_ 5 (some 17) #[true, true, true, true, true, true, false, false, true, false, false] ?_
     refine Hd.p_ HT_ 6 (some 23) #[true, true, true, true, true, true, true, false, true, false, false] ?_
     refine Hd.p_ HT_ 7 (some 24) #[true, true, true, true, true, true, true, true, true, false, false] ?_
     exact norm_ (by simp only [putAll, Act.put, List.setIfInBounds_toArray, List.set_cons_zero, List.set_cons_succ]) (hCont (gb205) _ ⟨hHeld, (Hd.k_ BK176), (Hd.k_ BK177), (Hd.k_ BK191), (Hd.k_ BK205), GW205.out, GE205.out, NB176_205.out, NB205_176.out, NB177_205.out, NB205_177.out, NB191_205.out, NB205_191.out, Hd.b_⟩)
   rintro gb205 w30 ⟨hS_, h0_, h1_, h2_, h3_, h4_, h5_, h6_, h7_, h8_, h9_, h10_, h11_, h12_⟩
   have n0_ : Aside0 (w30.heap[gb176]? = some (.cells #[.int .i64 a0_0, .int .i64 a0_1, .int .i64 a0_2, .int .i64 a0_3] 64 (0, 0))) := ⟨h0_⟩
   have n1_ : Aside0 (w30.heap[gb177]? = some (.cells #[.int .i64 a1_0, .int .i64 a1_1, .int .i64 a1_2, .int .i64 a1_3] 64 (0, 0))) := ⟨h1_⟩
   have n2_ : Aside0 (w30.heap[gb191]? = some (.cells #[.int .i64 t186, .int .i64 t187, .int .i64 t188, .int .i64 t189] 66 (0, 0))) := ⟨h2_⟩
   have n3_ : Aside0 (w30.heap[gb205]? = some (.cells #[.int .i64 0, .int .i64 0, .int .i64 0, .int .i64 0] 66 (0, 0))) := ⟨h3_⟩
   have n4_ : Aside0 (w.heap.size ≤ gb205) := ⟨h4_⟩
   have n5_ : Aside0 (w.heap.size ≤ gb205) := ⟨h5_⟩
   have n6_ : Aside0 (gb176 ≠ gb205) := ⟨h6_⟩
   have n7_ : Aside0 (gb205 ≠ gb176) := ⟨h7_⟩
   have n8_ : Aside0 (gb177 ≠ gb205) := ⟨h8_⟩
   have n9_ : Aside0 (gb205 ≠ gb177) := ⟨h9_⟩
   have n10_ : Aside0 (gb191 ≠ gb205) := ⟨h10_⟩
   have n11_ : Aside0 (gb205 ≠ gb191) := ⟨h11_⟩
   have n12_ : Aside0 (Below w.heap.size w w30) := ⟨h12_⟩
   clear BK176
   clear BK177
   clear BK191
   clear HB
   clear h0_ h1_ h2_ h3_ h4_ h5_ h6_ h7_ h8_ h9_ h10_ h11_ h12_
   have BK176 := n0_
   have BK177 := n1_
   have BK191 := n2_
   have BK205 := n3_
   have GW205 := n4_
   have GE205 := n5_
   have NB176_205 := n6_
   have NB205_176 := n7_
   have NB177_205 := n8_
   have NB205_177 := n9_
   have NB191_205 := n10_
   have NB205_191 := n11_
   have HB := n12_
   clear n0_ n1_ n2_ n3_ n4_ n5_ n6_ n7_ n8_ n9_ n10_ n11_ n12_
   have hHeld : w30.cell? ⟨gb176, 0, none⟩ = some (.int .i64 a0_0) ∧ w30.cell? ⟨gb176, 1, none⟩ = some (.int .i64 a0_1) ∧ w30.cell? ⟨gb176, 2, none⟩ = some (.int .i64 a0_2) ∧ w30.cell? ⟨gb176, 3, none⟩ = some (.int .i64 a0_3) ∧ w30.cell? ⟨gb177, 0, none⟩ = some (.int .i64 a1_0) ∧ w30.cell? ⟨gb177, 1, none⟩ = some (.int .i64 a1_1) ∧ w30.cell? ⟨gb177, 2, none⟩ = some (.int .i64 a1_2) ∧ w30.cell? ⟨gb177, 3, none⟩ = some (.int .i64 a1_3) := hS_
   refine norm_ (a' := ?_) ?_ ?_
   rotate_left
   ·
    simp only [putAll, Act.put, List.setIfInBounds_toArray, List.set_cons_zero, List.set_cons_succ]
    rfl
   refine Hd.o_ HT_ 9 (none) #[true, true, true, true, true, true, true, true, true, true, false] (fun K hK => ?_)
   have hs31 : w30.cell? ⟨gb205, 0, none⟩ = some (.int .i64 0) := (blk_cell BK205.out 0).trans rfl
   have hfs31 := blk_frozen BK205.out 0
   have hns31_0 := NB176_205.out
   have hns31_1 := NB177_205.out
   have hns31_2 := NB191_205.out
   have hms31_0 := NB205_176.out
   have hms31_1 := NB205_177.out
   have hms31_2 := NB205_191.out
   have hs32 : w30.cell? ⟨gb205, 1, none⟩ = some (.int .i64 0) := (blk_cell BK205.out 1).trans rfl
   have hfs32 := blk_frozen BK205.out 1
   have hns32_0 := NB176_205.out
   have hns32_1 := NB177_205.out
   have hns32_2 := NB191_205.out
   have hms32_0 := NB205_176.out
   have hms32_1 := NB205_177.out
   have hms32_2 := NB205_191.out
   have hs33 : w30.cell? ⟨gb205, 2, none⟩ = some (.int .i64 0) := (blk_cell BK205.out 2).trans rfl
   have hfs33 := blk_frozen BK205.out 2
   have hns33_0 := NB176_205.out
   have hns33_1 := NB177_205.out
   have hns33_2 := NB191_205.out
   have hms33_0 := NB205_176.out
   have hms33_1 := NB205_177.out
   have hms33_2 := NB205_191.out
   have hs34 : w30.cell? ⟨gb205, 3, none⟩ = some (.int .i64 0) := (blk_cell BK205.out 3).trans rfl
   have hfs34 := blk_frozen BK205.out 3
   have hns34_0 := NB176_205.out
   have hns34_1 := NB177_205.out
   have hns34_2 := NB191_205.out
   have hms34_0 := NB205_176.out
   have hms34_1 := NB205_177.out
   have hms34_2 := NB205_191.out
   refine skip_ (w1 := ?_) (by rfl) rfl ?_ ?_
   rotate_left
   ·
    go_simp
    rfl
   refine hK.out _ _ ⟨((cell_far (p := ⟨gb205, _, none⟩) NB176_205.out _).trans (((cell_far (p := ⟨gb205, _, none⟩) NB176_205.out _).trans (((cell_far (p := ⟨gb205, _, none⟩) NB176_205.out _).trans (((cell_far (p := ⟨gb205, _, none⟩) NB176_205.out _).trans (hHeld.1)))))))), ((cell_far (p := ⟨gb205, _, none⟩) NB176_205.out _).trans (((cell_far (p := ⟨gb205, _, none⟩) NB176_205.out _).trans (((cell_far (p := ⟨gb205, _, none⟩) NB176_205.out _).trans (((cell_far (p := ⟨gb205, _, none⟩) NB176_205.out _).trans (hHeld.2.1)))))))), ((cell_far (p := ⟨gb205, _, none⟩) NB176_205.out _).trans (((cell_far (p := ⟨gb205, _, none⟩) NB176_205.out _).trans (((cell_far (p := ⟨gb205, _, none⟩) NB176_205.out _).trans (((cell_far (p := ⟨gb205, _, none⟩) NB176_205.out _).trans (hHeld.2.2.1)))))))), ((cell_far (p := ⟨gb205, _, none⟩) NB176_205.out _).trans (((cell_far (p := ⟨gb205, _, none⟩) NB176_205.out _).trans (((cell_far (p := ⟨gb205, _, none⟩) NB176_205.out _).trans (((cell_far (p := ⟨gb205, _, none⟩) NB176_205.out _).trans (hHeld.2.2.2.1)))))))), ((cell_far (p := ⟨gb205, _, none⟩) NB177_205.out _).trans (((cell_far (p := ⟨gb205, _, none⟩) NB177_205.out _).trans (((cell_far (p := ⟨gb205, _, none⟩) NB177_205.out _).trans (((cell_far (p := ⟨gb205, _, none⟩) NB177_205.out _).trans (hHeld.2.2.2.2.1)))))))), ((cell_far (p := ⟨gb205, _, none⟩) NB177_205.out _).trans (((cell_far (p := ⟨gb205, _, none⟩) NB177_205.out _).trans (((cell_far (p := ⟨gb205, _, none⟩) NB177_205.out _).trans (((cell_far (p := ⟨gb205, _, none⟩) NB177_205.out _).trans (hHeld.2.2.2.2.2.1)))))))), ((cell_far (p := ⟨gb205, _, none⟩) NB177_205.out _).trans (((cell_far (p := ⟨gb205, _, none⟩) NB177_205.out _).trans (((cell_far (p := ⟨gb205, _, none⟩) NB177_205.out _).trans (((cell_far (p := ⟨gb205, _, none⟩) NB177_205.out _).trans (hHeld.2.2.2.2.2.2.1)))))))), ((cell_far (p := ⟨gb205, _, none⟩) NB177_205.out _).trans (((cell_far (p := ⟨gb205, _, none⟩) NB177_205.out _).trans (((cell_far (p := ⟨gb205, _, none⟩) NB177_205.out _).trans (((cell_far (p := ⟨gb205, _, none⟩) NB177_205.out _).trans (hHeld.2.2.2.2.2.2.2))))))))⟩ (fun hHeld => ?_)
   clear hK K
   refine Hd.p_ HT_ 10 (some 8) #[true, true, true, true, true, true, true, true, true, true, true] ?_
   refine done_ (done_of HT_.out (by kernel_rfl)) ?_
   have hnb35 := NB205_176.out
   have hnc35 := NB176_205.out
   have hnb36 := NB205_177.out
   have hnc36 := NB177_205.out
   have hnb37 := NB205_191.out
   have hnc37 := NB191_205.out
   obtain ⟨hcz38_0, hcz38_1, hcz38_2, hcz38_3⟩ := Hd.c4_ BK205.out
   obtain ⟨hfz38_0, hfz38_1, hfz38_2, hfz38_3⟩ := Hd.f4_ BK205.out
   have hnb39 := NB191_176.out
   have hnc39 := NB176_191.out
   have hnb40 := NB191_177.out
   have hnc40 := NB177_191.out
   obtain ⟨hcz41_0, hcz41_1, hcz41_2, hcz41_3⟩ := Hd.c4_ BK191.out
   obtain ⟨hfz41_0, hfz41_1, hfz41_2, hfz41_3⟩ := Hd.f4_ BK191.out
   try go_wp2_with (first | ((with_reducible refine gate_callee (f := 41) rfl ?_); refine goesL_ (some 27) rfl rfl Try.func41 (by kernel_rfl) rfl #[.agg #[.int .i64 t200, .int .i64 t201, .int .i64 t202, .int .i64 t203], .agg #[.int .i64 t186, .int .i64 t187, .int .i64 t188, .int .i64 t189]] rfl Hd.m_ ?_; (with_reducible refine (laws_eqBox.calls t200 t201 t202 t203 t186 t187 t188 t189 true _ A9.out).mono ?_); rintro e w42 ⟨rfl, hb⟩; refine ⟨_, rfl, ?_⟩; replace BK176 := Aside0.mk (blk_below (g := gb176) (o := .cells #[.int .i64 a0_0, .int .i64 a0_1, .int .i64 a0_2, .int .i64 a0_3] 64 (0, 0)) (by (with_reducible repeat (first | refine blk_drewN ?_ _ | refine blk_drew ?_ | refine blk_alloc ?_ _)); refine blk_far ?_ NB176_205.out _; (with_reducible repeat (first | refine blk_drewN ?_ _ | refine blk_drew ?_ | refine blk_alloc ?_ _)); refine blk_far ?_ NB176_205.out _; (with_reducible repeat (first | refine blk_drewN ?_ _ | refine blk_drew ?_ | refine blk_alloc ?_ _)); refine blk_far ?_ NB176_205.out _; (with_reducible repeat (first | refine blk_drewN ?_ _ | refine blk_drew ?_ | refine blk_alloc ?_ _)); refine blk_far ?_ NB176_205.out _; (with_reducible repeat (first | refine blk_drewN ?_ _ | refine blk_drew ?_ | refine blk_alloc ?_ _)); exact BK176.out) hb); replace BK177 := Aside0.mk (blk_below (g := gb177) (o := .cells #[.int .i64 a1_0, .int .i64 a1_1, .int .i64 a1_2, .int .i64 a1_3] 64 (0, 0)) (by (with_reducible repeat (first | refine blk_drewN ?_ _ | refine blk_drew ?_ | refine blk_alloc ?_ _)); refine blk_far ?_ NB177_205.out _; (with_reducible repeat (first | refine blk_drewN ?_ _ | refine blk_drew ?_ | refine blk_alloc ?_ _)); refine blk_far ?_ NB177_205.out _; (with_reducible repeat (first | refine blk_drewN ?_ _ | refine blk_drew ?_ | refine blk_alloc ?_ _)); refine blk_far ?_ NB177_205.out _; (with_reducible repeat (first | refine blk_drewN ?_ _ | refine blk_drew ?_ | refine blk_alloc ?_ _)); refine blk_far ?_ NB177_205.out _; (with_reducible repeat (first | refine blk_drewN ?_ _ | refine blk_drew ?_ | refine blk_alloc ?_ _)); exact BK177.out) hb); replace BK191 := Aside0.mk (blk_below (g := gb191) (o := .cells #[.int .i64 t186, .int .i64 t187, .int .i64 t188, .int .i64 t189] 66 (0, 0)) (by (with_reducible repeat (first | refine blk_drewN ?_ _ | refine blk_drew ?_ | refine blk_alloc ?_ _)); refine blk_far ?_ NB191_205.out _; (with_reducible repeat (first | refine blk_drewN ?_ _ | refine blk_drew ?_ | refine blk_alloc ?_ _)); refine blk_far ?_ NB191_205.out _; (with_reducible repeat (first | refine blk_drewN ?_ _ | refine blk_drew ?_ | refine blk_alloc ?_ _)); refine blk_far ?_ NB191_205.out _; (with_reducible repeat (first | refine blk_drewN ?_ _ | refine blk_drew ?_ | refine blk_alloc ?_ _)); refine blk_far ?_ NB191_205.out _; (with_reducible repeat (first | refine blk_drewN ?_ _ | refine blk_drew ?_ | refine blk_alloc ?_ _)); exact BK191.out) hb); replace BK205 := Aside0.mk (blk_below (g := gb205) (o := .cells #[.int .i64 t200, .int .i64 t201, .int .i64 t202, .int .i64 t203] 66 (0, 0)) (by (with_reducible repeat (first | refine blk_drewN ?_ _ | refine blk_drew ?_ | refine blk_alloc ?_ _)); refine blk_put (cs := #[.int .i64 t200, .int .i64 t201, .int .i64 t202, .int .i64 0]) ?_ 3 _ rfl; (with_reducible repeat (first | refine blk_drewN ?_ _ | refine blk_drew ?_ | refine blk_alloc ?_ _)); refine blk_put (cs := #[.int .i64 t200, .int .i64 t201, .int .i64 0, .int .i64 0]) ?_ 2 _ rfl; (with_reducible repeat (first | refine blk_drewN ?_ _ | refine blk_drew ?_ | refine blk_alloc ?_ _)); refine blk_put (cs := #[.int .i64 t200, .int .i64 0, .int .i64 0, .int .i64 0]) ?_ 1 _ rfl; (with_reducible repeat (first | refine blk_drewN ?_ _ | refine blk_drew ?_ | refine blk_alloc ?_ _)); refine blk_put (cs := #[.int .i64 0, .int .i64 0, .int .i64 0, .int .i64 0]) ?_ 0 _ rfl; (with_reducible repeat (first | refine blk_drewN ?_ _ | refine blk_drew ?_ | refine blk_alloc ?_ _)); exact BK205.out) hb); replace HB := Aside0.mk (below_step Hd.b_ hb); (try clear hb); (try clear hb2); (try clear hk); (try clear hi)))
   go_ret
   exact ⟨Hd.e_, Hd.b_⟩
  ·
   rw [if_neg c11] at H
   have c11b0 : (t204 != t190) = false := by simpa using c11
   (try (have c11b1 : decide (t204 = t190) = true := by simpa using c11))
   (try (have c11b2 : (t204 == t190) = true := by simpa using c11))
   clear c11
   obtain rfl := Option.some.inj H
   go_enter Try.func7, Try.ntmps7
   try go_wp2_with (first | ((with_reducible refine gate_dst (N := 2) rfl ?_); refine Hd.box_ 2 (#[.int .i64 a0_0, .int .i64 a0_1, .int .i64 a0_2, .int .i64 a0_3]) 64 ?_; intro gb176 hg w43 hbox hb; have BK176 := Aside0.mk (hbox); have GW176 := Aside0.mk ((Hd.g_ hg Hd.b_ : w.heap.size ≤ gb176)); have GE176 := Aside0.mk ((Hd.g_ hg Hd.b_ : w.heap.size ≤ gb176)); replace HB := Aside0.mk (below_step Hd.b_ hb); clear hb hbox hg) | ((with_reducible refine gate_dst (N := 3) rfl ?_); refine Hd.box_ 3 (#[.int .i64 a1_0, .int .i64 a1_1, .int .i64 a1_2, .int .i64 a1_3]) 64 ?_; intro gb177 hg w44 hbox hb; have BK177 := Aside0.mk (hbox); have GW177 := Aside0.mk ((Hd.g_ hg Hd.b_ : w.heap.size ≤ gb177)); have GE177 := Aside0.mk ((Hd.g_ hg Hd.b_ : w.heap.size ≤ gb177)); replace HB := Aside0.mk (below_step Hd.b_ hb); have NB176_177 := Aside0.mk ((Hd.lt_ BK176 hg)); have NB177_176 := Aside0.mk ((Hd.gt_ BK176 hg)); replace BK176 := Aside0.mk (Hd.kb_ BK176 hb); clear hb hbox hg))
   replace BK176 := Aside0.mk (blk_drew BK176.out)
   replace BK177 := Aside0.mk (blk_drew BK177.out)
   replace HB := Aside0.mk (below_drew1 HB.out)
   refine start_ (n := 11) (S := fun w' => w'.cell? ⟨gb176, 0, none⟩ = some (.int .i64 a0_0) ∧ w'.cell? ⟨gb176, 1, none⟩ = some (.int .i64 a0_1) ∧ w'.cell? ⟨gb176, 2, none⟩ = some (.int .i64 a0_2) ∧ w'.cell? ⟨gb176, 3, none⟩ = some (.int .i64 a0_3) ∧ w'.cell? ⟨gb177, 0, none⟩ = some (.int .i64 a1_0) ∧ w'.cell? ⟨gb177, 1, none⟩ = some (.int .i64 a1_1) ∧ w'.cell? ⟨gb177, 2, none⟩ = some (.int .i64 a1_2) ∧ w'.cell? ⟨gb177, 3, none⟩ = some (.int .i64 a1_3)) (ds := []) #[false, false, false, false, false, false, false, false, false, false, false] (by kernel_rfl) rfl rfl ⟨(blk_cell BK176.out 0).trans rfl, (blk_cell BK176.out 1).trans rfl, (blk_cell BK176.out 2).trans rfl, (blk_cell BK176.out 3).trans rfl, (blk_cell BK177.out 0).trans rfl, (blk_cell BK177.out 1).trans rfl, (blk_cell BK177.out 2).trans rfl, (blk_cell BK177.out 3).trans rfl⟩ (fun hHeld => ?_); refine with_tabW laws_FnExactJoinBoxes.tab1 laws_FnExactJoinBoxes.bits1 (fun HT_ HW_ => ?_)
   generalize w44.drew = w45 at BK176 BK177 HB hHeld ⊢
   refine Hd.t_ HT_ HW_ hHeld 0 (some 10) #[true, false, false, false, false, false, false, false, false, false, false] ?_
   refine Hd.t_ HT_ HW_ hHeld 2 (some 12) #[true, false, true, false, false, false, false, false, false, false, false] ?_
   refine join_ (σ := Nat) 2 #[true, true, true, true, true, true, true, true, true, false, false] (fun s_ => [(11, .agg #[.int .i64 t178, .int .i64 t179, .int .i64 t180, .int .i64 t181]), (13, .agg #[.int .i64 t182, .int .i64 t183, .int .i64 t184, .int .i64 t185]), (14, .tuple #[.agg #[.int .i64 t186, .int .i64 t187, .int .i64 t188, .int .i64 t189], .bool t190]), (5, .pointer (some ⟨s_, 0, none⟩)), (9, .tuple #[.agg #[.int .i64 t186, .int .i64 t187, .int .i64 t188, .int .i64 t189], .bool t190]), (15, .agg #[.int .i64 t186, .int .i64 t187, .int .i64 t188, .int .i64 t189]), (16, .bool t190)]) (fun s_ w' => (w'.cell? ⟨gb176, 0, none⟩ = some (.int .i64 a0_0) ∧ w'.cell? ⟨gb176, 1, none⟩ = some (.int .i64 a0_1) ∧ w'.cell? ⟨gb176, 2, none⟩ = some (.int .i64 a0_2) ∧ w'.cell? ⟨gb176, 3, none⟩ = some (.int .i64 a0_3) ∧ w'.cell? ⟨gb177, 0, none⟩ = some (.int .i64 a1_0) ∧ w'.cell? ⟨gb177, 1, none⟩ = some (.int .i64 a1_1) ∧ w'.cell? ⟨gb177, 2, none⟩ = some (.int .i64 a1_2) ∧ w'.cell? ⟨gb177, 3, none⟩ = some (.int .i64 a1_3)) ∧ (w'.heap[gb176]? = some (.cells #[.int .i64 a0_0, .int .i64 a0_1, .int .i64 a0_2, .int .i64 a0_3] 64 (0, 0))) ∧ (w'.heap[gb177]? = some (.cells #[.int .i64 a1_0, .int .i64 a1_1, .int .i64 a1_2, .int .i64 a1_3] 64 (0, 0))) ∧ (w'.heap[s_]? = some (.cells #[.int .i64 0, .int .i64 0, .int .i64 0, .int .i64 0] 66 (0, 0))) ∧ (w.heap.size ≤ s_) ∧ (w.heap.size ≤ s_) ∧ (gb176 ≠ s_) ∧ (s_ ≠ gb176) ∧ (gb177 ≠ s_) ∧ (s_ ≠ gb177) ∧ (Below w.heap.size w w')) ?_ ?_
   rotate_left
   ·
    intro hCont
    refine two_ (i := 1) (j := 8) (Ni := some 11) (Nj := some 5) #[true, true, true, false, false, false, false, false, false, false, false] #[true, false, true, false, false, false, false, false, true, false, false] rfl rfl rfl rfl (two_of HT_.out (by kernel_rfl)) (by decide) (by decide) (fun K hK => ?_) (fun K hK => ?_)
    ·
     skip
     refine goes_ Try.func39 (by kernel_rfl) rfl #[.agg #[.int .i64 a0_0, .int .i64 a0_1, .int .i64 a0_2, .int .i64 a0_3]] (by rfl) rfl rfl Hd.m_ ?_
     with_reducible refine (laws_toBox.calls a0_0 a0_1 a0_2 a0_3 t178 t179 t180 t181 _ A3.out).mono ?_
     rintro e w46 ⟨rfl, hb⟩
     refine ⟨_, rfl, ?_⟩
     replace BK176 := Aside0.mk (Hd.kb_ BK176 hb)
     replace BK177 := Aside0.mk (Hd.kb_ BK177 hb)
     replace HB := Aside0.mk (below_step Hd.b_ hb)
     (try clear hb)
     (try clear hb2)
     (try clear hk)
     (try clear hi)
     refine hK.out _ _ ⟨(blk_cell BK176.out 0).trans rfl, (blk_cell BK176.out 1).trans rfl, (blk_cell BK176.out 2).trans rfl, (blk_cell BK176.out 3).trans rfl, (blk_cell BK177.out 0).trans rfl, (blk_cell BK177.out 1).trans rfl, (blk_cell BK177.out 2).trans rfl, (blk_cell BK177.out 3).trans rfl⟩ (fun hHeld => ?_)
     clear hK K
     refine Hd.n_ (some 11) ?_
     refine two_ (i := 3) (j := 8) (Ni := some 13) (Nj := some 5) #[true, true, true, true, false, false, false, false, false, false, false] #[true, true, true, false, false, false, false, false, true, false, false] rfl rfl rfl rfl (two_of HT_.out (by kernel_rfl)) (by decide) (by decide) (fun K hK => ?_) (fun K hK => ?_)
     ·
      skip
      refine goes_ Try.func39 (by kernel_rfl) rfl #[.agg #[.int .i64 a1_0, .int .i64 a1_1, .int .i64 a1_2, .int .i64 a1_3]] (by rfl) rfl rfl Hd.m_ ?_
      with_reducible refine (laws_toBox.calls a1_0 a1_1 a1_2 a1_3 t182 t183 t184 t185 _ A4.out).mono ?_
      rintro e w47 ⟨rfl, hb⟩
      refine ⟨_, rfl, ?_⟩
      replace BK176 := Aside0.mk (Hd.kb_ BK176 hb)
      replace BK177 := Aside0.mk (Hd.kb_ BK177 hb)
      replace HB := Aside0.mk (below_step Hd.b_ hb)
      (try clear hb)
      (try clear hb2)
      (try clear hk)
      (try clear hi)
      refine hK.out _ _ ⟨(blk_cell BK176.out 0).trans rfl, (blk_cell BK176.out 1).trans rfl, (blk_cell BK176.out 2).trans rfl, (blk_cell BK176.out 3).trans rfl, (blk_cell BK177.out 0).trans rfl, (blk_cell BK177.out 1).trans rfl, (blk_cell BK177.out 2).trans rfl, (blk_cell BK177.out 3).trans rfl⟩ (fun hHeld => ?_)
      clear hK K
      refine Hd.n_ (some 13) ?_
      refine two_ (i := 4) (j := 8) (Ni := some 14) (Nj := some 5) #[true, true, true, true, true, false, false, false, false, false, false] #[true, true, true, true, false, false, false, false, true, false, false] rfl rfl rfl rfl (two_of HT_.out (by kernel_rfl)) (by decide) (by decide) (fun K hK => ?_) (fun K hK => ?_)
      ·
       skip
       refine goes_ Try.func38 (by kernel_rfl) rfl #[.agg #[.int .i64 t178, .int .i64 t179, .int .i64 t180, .int .i64 t181], .agg #[.int .i64 t182, .int .i64 t183, .int .i64 t184, .int .i64 t185]] (by rfl) rfl rfl Hd.m_ ?_
       with_reducible refine (spec_JoinBoxes.calls k t178 t179 t180 t181 t182 t183 t184 t185 t186 t187 t188 t189 t190 _ A5.out).mono ?_
       rintro e w48 ⟨rfl, hb⟩
       refine ⟨_, rfl, ?_⟩
       replace BK176 := Aside0.mk (Hd.kb_ BK176 hb)
       replace BK177 := Aside0.mk (Hd.kb_ BK177 hb)
       replace HB := Aside0.mk (below_step Hd.b_ hb)
       (try clear hb)
       (try clear hb2)
       (try clear hk)
       (try clear hi)
       refine hK.out _ _ ⟨(blk_cell BK176.out 0).trans rfl, (blk_cell BK176.out 1).trans rfl, (blk_cell BK176.out 2).trans rfl, (blk_cell BK176.out 3).trans rfl, (blk_cell BK177.out 0).trans rfl, (blk_cell BK177.out 1).trans rfl, (blk_cell BK177.out 2).trans rfl, (blk_cell BK177.out 3).trans rfl⟩ (fun hHeld => ?_)
       clear hK K
       refine Hd.n_ (some 14) ?_
       refine Hd.p_ HT_ 5 (some 9) #[true, true, true, true, true, true, false, false, false, false, false] ?_
       refine Hd.p_ HT_ 6 (some 15) #[true, true, true, true, true, true, true, false, false, false, false] ?_
       refine Hd.p_ HT_ 7 (some 16) #[true, true, true, true, true, true, true, true, false, false, false] ?_
       refine Hd.o_ HT_ 8 (some 5) #[true, true, true, true, true, true, true, true, true, false, false] (fun K hK => ?_)
       refine box_step ?hg (N := 5) ?hd (cs := #[.int .i64 0, .int .i64 0, .int .i64 0, .int .i64 0]) (t := 66) ?hr ?_; (case hd => rfl); (case hg => rfl); (case hr => first | (go_simp; done) | (go_simp; rfl))
       intro gb191 hg w49 hbox hb
       have BK191 := Aside0.mk (hbox)
       have GW191 := Aside0.mk ((Hd.g_ hg Hd.b_ : w.heap.size ≤ gb191))
       have GE191 := Aside0.mk ((Hd.g_ hg Hd.b_ : w.heap.size ≤ gb191))
       replace HB := Aside0.mk (below_step Hd.b_ hb)
       have NB176_191 := Aside0.mk ((Hd.lt_ BK176 hg))
       have NB191_176 := Aside0.mk ((Hd.gt_ BK176 hg))
       replace BK176 := Aside0.mk (Hd.kb_ BK176 hb)
       have NB177_191 := Aside0.mk ((Hd.lt_ BK177 hg))
       have NB191_177 := Aside0.mk ((Hd.gt_ BK177 hg))
       replace BK177 := Aside0.mk (Hd.kb_ BK177 hb)
       clear hb hbox hg
       refine hK.out _ _ ⟨(blk_cell BK176.out 0).trans rfl, (blk_cell BK176.out 1).trans rfl, (blk_cell BK176.out 2).trans rfl, (blk_cell BK176.out 3).trans rfl, (blk_cell BK177.out 0).trans rfl, (blk_cell BK177.out 1).trans rfl, (blk_cell BK177.out 2).trans rfl, (blk_cell BK177.out 3).trans rfl⟩ (fun hHeld => ?_)
       clear hK K
       refine Hd.n_ (some 5) ?_
       exact norm_ (by simp only [putAll, Act.put, List.setIfInBounds_toArray, List.set_cons_zero, List.set_cons_succ]) (hCont (gb191) _ ⟨hHeld, (Hd.k_ BK176), (Hd.k_ BK177), (Hd.k_ BK191), GW191.out, GE191.out, NB176_191.out, NB191_176.out, NB177_191.out, NB191_177.out, Hd.b_⟩)
      ·
       skip
       refine box_step ?hg (N := 5) ?hd (cs := #[.int .i64 0, .int .i64 0, .int .i64 0, .int .i64 0]) (t := 66) ?hr ?_; (case hd => rfl); (case hg => rfl); (case hr => first | (go_simp; done) | (go_simp; rfl))
       intro gb191 hg w48 hbox hb
       have BK191 := Aside0.mk (hbox)
       have GW191 := Aside0.mk ((Hd.g_ hg Hd.b_ : w.heap.size ≤ gb191))
       have GE191 := Aside0.mk ((Hd.g_ hg Hd.b_ : w.heap.size ≤ gb191))
       replace HB := Aside0.mk (below_step Hd.b_ hb)
       have NB176_191 := Aside0.mk ((Hd.lt_ BK176 hg))
       have NB191_176 := Aside0.mk ((Hd.gt_ BK176 hg))
       replace BK176 := Aside0.mk (Hd.kb_ BK176 hb)
       have NB177_191 := Aside0.mk ((Hd.lt_ BK177 hg))
       have NB191_177 := Aside0.mk ((Hd.gt_ BK177 hg))
       replace BK177 := Aside0.mk (Hd.kb_ BK177 hb)
       clear hb hbox hg
       refine hK.out _ _ ⟨(blk_cell BK176.out 0).trans rfl, (blk_cell BK176.out 1).trans rfl, (blk_cell BK176.out 2).trans rfl, (blk_cell BK176.out 3).trans rfl, (blk_cell BK177.out 0).trans rfl, (blk_cell BK177.out 1).trans rfl, (blk_cell BK177.out 2).trans rfl, (blk_cell BK177.out 3).trans rfl⟩ (fun hHeld => ?_)
       clear hK K
       refine Hd.n_ (some 5) ?_
       refine Hd.o_ HT_ 4 (some 14) #[true, true, true, true, true, false, false, false, true, false, false] (fun K hK => ?_)
       refine goes_ Try.func38 (by kernel_rfl) rfl #[.agg #[.int .i64 t178, .int .i64 t179, .int .i64 t180, .int .i64 t181], .agg #[.int .i64 t182, .int .i64 t183, .int .i64 t184, .int .i64 t185]] (by rfl) rfl rfl Hd.m_ ?_
       with_reducible refine (spec_JoinBoxes.calls k t178 t179 t180 t181 t182 t183 t184 t185 t186 t187 t188 t189 t190 _ A5.out).mono ?_
       rintro e w49 ⟨rfl, hb⟩
       refine ⟨_, rfl, ?_⟩
       replace BK176 := Aside0.mk (Hd.kb_ BK176 hb)
       replace BK177 := Aside0.mk (Hd.kb_ BK177 hb)
       replace BK191 := Aside0.mk (Hd.kb_ BK191 hb)
       replace HB := Aside0.mk (below_step Hd.b_ hb)
       (try clear hb)
       (try clear hb2)
       (try clear hk)
       (try clear hi)
       refine hK.out _ _ ⟨(blk_cell BK176.out 0).trans rfl, (blk_cell BK176.out 1).trans rfl, (blk_cell BK176.out 2).trans rfl, (blk_cell BK176.out 3).trans rfl, (blk_cell BK177.out 0).trans rfl, (blk_cell BK177.out 1).trans rfl, (blk_cell BK177.out 2).trans rfl, (blk_cell BK177.out 3).trans rfl⟩ (fun hHeld => ?_)
       clear hK K
       refine Hd.n_ (some 14) ?_
       refine Hd.p_ HT_ 5 (some 9) #[true, true, true, true, true, true, false, false, true, false, false] ?_
       refine Hd.p_ HT_ 6 (some 15) #[true, true, true, true, true, true, true, false, true, false, false] ?_
       refine Hd.p_ HT_ 7 (some 16) #[true, true, true, true, true, true, true, true, true, false, false] ?_
       exact norm_ (by simp only [putAll, Act.put, List.setIfInBounds_toArray, List.set_cons_zero, List.set_cons_succ]) (hCont (gb191) _ ⟨hHeld, (Hd.k_ BK176), (Hd.k_ BK177), (Hd.k_ BK191), GW191.out, GE191.out, NB176_191.out, NB191_176.out, NB177_191.out, NB191_177.out, Hd.b_⟩)
     ·
      skip
      refine box_step ?hg (N := 5) ?hd (cs := #[.int .i64 0, .int .i64 0, .int .i64 0, .int .i64 0]) (t := 66) ?hr ?_; (case hd => rfl); (case hg => rfl); (case hr => first | (go_simp; done) | (go_simp; rfl))
      intro gb191 hg w47 hbox hb
      have BK191 := Aside0.mk (hbox)
      have GW191 := Aside0.mk ((Hd.g_ hg Hd.b_ : w.heap.size ≤ gb191))
      have GE191 := Aside0.mk ((Hd.g_ hg Hd.b_ : w.heap.size ≤ gb191))
      replace HB := Aside0.mk (below_step Hd.b_ hb)
      have NB176_191 := Aside0.mk ((Hd.lt_ BK176 hg))
      have NB191_176 := Aside0.mk ((Hd.gt_ BK176 hg))
      replace BK176 := Aside0.mk (Hd.kb_ BK176 hb)
      have NB177_191 := Aside0.mk ((Hd.lt_ BK177 hg))
      have NB191_177 := Aside0.mk ((Hd.gt_ BK177 hg))
      replace BK177 := Aside0.mk (Hd.kb_ BK177 hb)
      clear hb hbox hg
      refine hK.out _ _ ⟨(blk_cell BK176.out 0).trans rfl, (blk_cell BK176.out 1).trans rfl, (blk_cell BK176.out 2).trans rfl, (blk_cell BK176.out 3).trans rfl, (blk_cell BK177.out 0).trans rfl, (blk_cell BK177.out 1).trans rfl, (blk_cell BK177.out 2).trans rfl, (blk_cell BK177.out 3).trans rfl⟩ (fun hHeld => ?_)
      clear hK K
      refine Hd.n_ (some 5) ?_
      refine Hd.o_ HT_ 3 (some 13) #[true, true, true, true, false, false, false, false, true, false, false] (fun K hK => ?_)
      refine goes_ Try.func39 (by kernel_rfl) rfl #[.agg #[.int .i64 a1_0, .int .i64 a1_1, .int .i64 a1_2, .int .i64 a1_3]] (by rfl) rfl rfl Hd.m_ ?_
      with_reducible refine (laws_toBox.calls a1_0 a1_1 a1_2 a1_3 t182 t183 t184 t185 _ A4.out).mono ?_
      rintro e w48 ⟨rfl, hb⟩
      refine ⟨_, rfl, ?_⟩
      replace BK176 := Aside0.mk (Hd.kb_ BK176 hb)
      replace BK177 := Aside0.mk (Hd.kb_ BK177 hb)
      replace BK191 := Aside0.mk (Hd.kb_ BK191 hb)
      replace HB := Aside0.mk (below_step Hd.b_ hb)
      (try clear hb)
      (try clear hb2)
      (try clear hk)
      (try clear hi)
      refine hK.out _ _ ⟨(blk_cell BK176.out 0).trans rfl, (blk_cell BK176.out 1).trans rfl, (blk_cell BK176.out 2).trans rfl, (blk_cell BK176.out 3).trans rfl, (blk_cell BK177.out 0).trans rfl, (blk_cell BK177.out 1).trans rfl, (blk_cell BK177.out 2).trans rfl, (blk_cell BK177.out 3).trans rfl⟩ (fun hHeld => ?_)
      clear hK K
      refine Hd.n_ (some 13) ?_
      refine Hd.o_ HT_ 4 (some 14) #[true, true, true, true, true, false, false, false, true, false, false] (fun K hK => ?_)
      refine goes_ Try.func38 (by kernel_rfl) rfl #[.agg #[.int .i64 t178, .int .i64 t179, .int .i64 t180, .int .i64 t181], .agg #[.int .i64 t182, .int .i64 t183, .int .i64 t184, .int .i64 t185]] (by rfl) rfl rfl Hd.m_ ?_
      with_reducible refine (spec_JoinBoxes.calls k t178 t179 t180 t181 t182 t183 t184 t185 t186 t187 t188 t189 t190 _ A5.out).mono ?_
      rintro e w49 ⟨rfl, hb⟩
      refine ⟨_, rfl, ?_⟩
      replace BK176 := Aside0.mk (Hd.kb_ BK176 hb)
      replace BK177 := Aside0.mk (Hd.kb_ BK177 hb)
      replace BK191 := Aside0.mk (Hd.kb_ BK191 hb)
      replace HB := Aside0.mk (below_step Hd.b_ hb)
      (try clear hb)
      (try clear hb2)
      (try clear hk)
      (try clear hi)
      refine hK.out _ _ ⟨(blk_cell BK176.out 0).trans rfl, (blk_cell BK176.out 1).trans rfl, (blk_cell BK176.out 2).trans rfl, (blk_cell BK176.out 3).trans rfl, (blk_cell BK177.out 0).trans rfl, (blk_cell BK177.out 1).trans rfl, (blk_cell BK177.out 2).trans rfl, (blk_cell BK177.out 3).trans rfl⟩ (fun hHeld => ?_)
      clear hK K
      refine Hd.n_ (some 14) ?_
      refine Hd.p_ HT_ 5 (some 9) #[true, true, true, true, true, true, false, false, true, false, false] ?_
      refine Hd.p_ HT_ 6 (some 15) #[true, true, true, true, true, true, true, false, true, false, false] ?_
      refine Hd.p_ HT_ 7 (some 16) #[true, true, true, true, true, true, true, true, true, false, false] ?_
      exact norm_ (by simp only [putAll, Act.put, List.setIfInBounds_toArray, List.set_cons_zero, List.set_cons_succ]) (hCont (gb191) _ ⟨hHeld, (Hd.k_ BK176), (Hd.k_ BK177), (Hd.k_ BK191), GW191.out, GE191.out, NB176_191.out, NB191_176.out, NB177_191.out, NB191_177.out, Hd.b_⟩)
    ·
     skip
     refine box_step ?hg (N := 5) ?hd (cs := #[.int .i64 0, .int .i64 0, .int .i64 0, .int .i64 0]) (t := 66) ?hr ?_; (case hd => rfl); (case hg => rfl); (case hr => first | (go_simp; done) | (go_simp; rfl))
     intro gb191 hg w46 hbox hb
     have BK191 := Aside0.mk (hbox)
     have GW191 := Aside0.mk ((Hd.g_ hg Hd.b_ : w.heap.size ≤ gb191))
     have GE191 := Aside0.mk ((Hd.g_ hg Hd.b_ : w.heap.size ≤ gb191))
     replace HB := Aside0.mk (below_step Hd.b_ hb)
     have NB176_191 := Aside0.mk ((Hd.lt_ BK176 hg))
     have NB191_176 := Aside0.mk ((Hd.gt_ BK176 hg))
     replace BK176 := Aside0.mk (Hd.kb_ BK176 hb)
     have NB177_191 := Aside0.mk ((Hd.lt_ BK177 hg))
     have NB191_177 := Aside0.mk ((Hd.gt_ BK177 hg))
     replace BK177 := Aside0.mk (Hd.kb_ BK177 hb)
     clear hb hbox hg
     refine hK.out _ _ ⟨(blk_cell BK176.out 0).trans rfl, (blk_cell BK176.out 1).trans rfl, (blk_cell BK176.out 2).trans rfl, (blk_cell BK176.out 3).trans rfl, (blk_cell BK177.out 0).trans rfl, (blk_cell BK177.out 1).trans rfl, (blk_cell BK177.out 2).trans rfl, (blk_cell BK177.out 3).trans rfl⟩ (fun hHeld => ?_)
     clear hK K
     refine Hd.n_ (some 5) ?_
     refine Hd.o_ HT_ 1 (some 11) #[true, true, true, false, false, false, false, false, true, false, false] (fun K hK => ?_)
     refine goes_ Try.func39 (by kernel_rfl) rfl #[.agg #[.int .i64 a0_0, .int .i64 a0_1, .int .i64 a0_2, .int .i64 a0_3]] (by rfl) rfl rfl Hd.m_ ?_
     with_reducible refine (laws_toBox.calls a0_0 a0_1 a0_2 a0_3 t178 t179 t180 t181 _ A3.out).mono ?_
     rintro e w47 ⟨rfl, hb⟩
     refine ⟨_, rfl, ?_⟩
     replace BK176 := Aside0.mk (Hd.kb_ BK176 hb)
     replace BK177 := Aside0.mk (Hd.kb_ BK177 hb)
     replace BK191 := Aside0.mk (Hd.kb_ BK191 hb)
     replace HB := Aside0.mk (below_step Hd.b_ hb)
     (try clear hb)
     (try clear hb2)
     (try clear hk)
     (try clear hi)
     refine hK.out _ _ ⟨(blk_cell BK176.out 0).trans rfl, (blk_cell BK176.out 1).trans rfl, (blk_cell BK176.out 2).trans rfl, (blk_cell BK176.out 3).trans rfl, (blk_cell BK177.out 0).trans rfl, (blk_cell BK177.out 1).trans rfl, (blk_cell BK177.out 2).trans rfl, (blk_cell BK177.out 3).trans rfl⟩ (fun hHeld => ?_)
     clear hK K
     refine Hd.n_ (some 11) ?_
     refine Hd.o_ HT_ 3 (some 13) #[true, true, true, true, false, false, false, false, true, false, false] (fun K hK => ?_)
     refine goes_ Try.func39 (by kernel_rfl) rfl #[.agg #[.int .i64 a1_0, .int .i64 a1_1, .int .i64 a1_2, .int .i64 a1_3]] (by rfl) rfl rfl Hd.m_ ?_
     with_reducible refine (laws_toBox.calls a1_0 a1_1 a1_2 a1_3 t182 t183 t184 t185 _ A4.out).mono ?_
     rintro e w48 ⟨rfl, hb⟩
     refine ⟨_, rfl, ?_⟩
     replace BK176 := Aside0.mk (Hd.kb_ BK176 hb)
     replace BK177 := Aside0.mk (Hd.kb_ BK177 hb)
     replace BK191 := Aside0.mk (Hd.kb_ BK191 hb)
     replace HB := Aside0.mk (below_step Hd.b_ hb)
     (try clear hb)
     (try clear hb2)
     (try clear hk)
     (try clear hi)
     refine hK.out _ _ ⟨(blk_cell BK176.out 0).trans rfl, (blk_cell BK176.out 1).trans rfl, (blk_cell BK176.out 2).trans rfl, (blk_cell BK176.out 3).trans rfl, (blk_cell BK177.out 0).trans rfl, (blk_cell BK177.out 1).trans rfl, (blk_cell BK177.out 2).trans rfl, (blk_cell BK177.out 3).trans rfl⟩ (fun hHeld => ?_)
     clear hK K
     refine Hd.n_ (some 13) ?_
     refine Hd.o_ HT_ 4 (some 14) #[true, true, true, true, true, false, false, false, true, false, false] (fun K hK => ?_)
     refine goes_ Try.func38 (by kernel_rfl) rfl #[.agg #[.int .i64 t178, .int .i64 t179, .int .i64 t180, .int .i64 t181], .agg #[.int .i64 t182, .int .i64 t183, .int .i64 t184, .int .i64 t185]] (by rfl) rfl rfl Hd.m_ ?_
     with_reducible refine (spec_JoinBoxes.calls k t178 t179 t180 t181 t182 t183 t184 t185 t186 t187 t188 t189 t190 _ A5.out).mono ?_
     rintro e w49 ⟨rfl, hb⟩
     refine ⟨_, rfl, ?_⟩
     replace BK176 := Aside0.mk (Hd.kb_ BK176 hb)
     replace BK177 := Aside0.mk (Hd.kb_ BK177 hb)
     replace BK191 := Aside0.mk (Hd.kb_ BK191 hb)
     replace HB := Aside0.mk (below_step Hd.b_ hb)
     (try clear hb)
     (try clear hb2)
     (try clear hk)
     (try clear hi)
     refine hK.out _ _ ⟨(blk_cell BK176.out 0).trans rfl, (blk_cell BK176.out 1).trans rfl, (blk_cell BK176.out 2).trans rfl, (blk_cell BK176.out 3).trans rfl, (blk_cell BK177.out 0).trans rfl, (blk_cell BK177.out 1).trans rfl, (blk_cell BK177.out 2).trans rfl, (blk_cell BK177.out 3).trans rfl⟩ (fun hHeld => ?_)
     clear hK K
     refine Hd.n_ (some 14) ?_
     refine Hd.p_ HT_ 5 (some 9) #[true, true, true, true, true, true, false, false, true, false, false] ?_
     refine Hd.p_ HT_ 6 (some 15) #[true, true, true, true, true, true, true, false, true, false, false] ?_
     refine Hd.p_ HT_ 7 (some 16) #[true, true, true, true, true, true, true, true, true, false, false] ?_
     exact norm_ (by simp only [putAll, Act.put, List.setIfInBounds_toArray, List.set_cons_zero, List.set_cons_succ]) (hCont (gb191) _ ⟨hHeld, (Hd.k_ BK176), (Hd.k_ BK177), (Hd.k_ BK191), GW191.out, GE191.out, NB176_191.out, NB191_176.out, NB177_191.out, NB191_177.out, Hd.b_⟩)
   rintro gb191 w50 ⟨hS_, h0_, h1_, h2_, h3_, h4_, h5_, h6_, h7_, h8_, h9_⟩
   have n0_ : Aside0 (w50.heap[gb176]? = some (.cells #[.int .i64 a0_0, .int .i64 a0_1, .int .i64 a0_2, .int .i64 a0_3] 64 (0, 0))) := ⟨h0_⟩
   have n1_ : Aside0 (w50.heap[gb177]? = some (.cells #[.int .i64 a1_0, .int .i64 a1_1, .int .i64 a1_2, .int .i64 a1_3] 64 (0, 0))) := ⟨h1_⟩
   have n2_ : Aside0 (w50.heap[gb191]? = some (.cells #[.int .i64 0, .int .i64 0, .int .i64 0, .int .i64 0] 66 (0, 0))) := ⟨h2_⟩
   have n3_ : Aside0 (w.heap.size ≤ gb191) := ⟨h3_⟩
   have n4_ : Aside0 (w.heap.size ≤ gb191) := ⟨h4_⟩
   have n5_ : Aside0 (gb176 ≠ gb191) := ⟨h5_⟩
   have n6_ : Aside0 (gb191 ≠ gb176) := ⟨h6_⟩
   have n7_ : Aside0 (gb177 ≠ gb191) := ⟨h7_⟩
   have n8_ : Aside0 (gb191 ≠ gb177) := ⟨h8_⟩
   have n9_ : Aside0 (Below w.heap.size w w50) := ⟨h9_⟩
   clear BK176
   clear BK177
   clear HB
   clear h0_ h1_ h2_ h3_ h4_ h5_ h6_ h7_ h8_ h9_
   have BK176 := n0_
   have BK177 := n1_
   have BK191 := n2_
   have GW191 := n3_
   have GE191 := n4_
   have NB176_191 := n5_
   have NB191_176 := n6_
   have NB177_191 := n7_
   have NB191_177 := n8_
   have HB := n9_
   clear n0_ n1_ n2_ n3_ n4_ n5_ n6_ n7_ n8_ n9_
   have hHeld : w50.cell? ⟨gb176, 0, none⟩ = some (.int .i64 a0_0) ∧ w50.cell? ⟨gb176, 1, none⟩ = some (.int .i64 a0_1) ∧ w50.cell? ⟨gb176, 2, none⟩ = some (.int .i64 a0_2) ∧ w50.cell? ⟨gb176, 3, none⟩ = some (.int .i64 a0_3) ∧ w50.cell? ⟨gb177, 0, none⟩ = some (.int .i64 a1_0) ∧ w50.cell? ⟨gb177, 1, none⟩ = some (.int .i64 a1_1) ∧ w50.cell? ⟨gb177, 2, none⟩ = some (.int .i64 a1_2) ∧ w50.cell? ⟨gb177, 3, none⟩ = some (.int .i64 a1_3) := hS_
   refine norm_ (a' := ?_) ?_ ?_
   rotate_left
   ·
    simp only [putAll, Act.put, List.setIfInBounds_toArray, List.set_cons_zero, List.set_cons_succ]
    rfl
   refine Hd.o_ HT_ 9 (none) #[true, true, true, true, true, true, true, true, true, true, false] (fun K hK => ?_)
   have hs51 : w50.cell? ⟨gb191, 0, none⟩ = some (.int .i64 0) := (blk_cell BK191.out 0).trans rfl
   have hfs51 := blk_frozen BK191.out 0
   have hns51_0 := NB176_191.out
   have hns51_1 := NB177_191.out
   have hms51_0 := NB191_176.out
   have hms51_1 := NB191_177.out
   have hs52 : w50.cell? ⟨gb191, 1, none⟩ = some (.int .i64 0) := (blk_cell BK191.out 1).trans rfl
   have hfs52 := blk_frozen BK191.out 1
   have hns52_0 := NB176_191.out
   have hns52_1 := NB177_191.out
   have hms52_0 := NB191_176.out
   have hms52_1 := NB191_177.out
   have hs53 : w50.cell? ⟨gb191, 2, none⟩ = some (.int .i64 0) := (blk_cell BK191.out 2).trans rfl
   have hfs53 := blk_frozen BK191.out 2
   have hns53_0 := NB176_191.out
   have hns53_1 := NB177_191.out
   have hms53_0 := NB191_176.out
   have hms53_1 := NB191_177.out
   have hs54 : w50.cell? ⟨gb191, 3, none⟩ = some (.int .i64 0) := (blk_cell BK191.out 3).trans rfl
   have hfs54 := blk_frozen BK191.out 3
   have hns54_0 := NB176_191.out
   have hns54_1 := NB177_191.out
   have hms54_0 := NB191_176.out
   have hms54_1 := NB191_177.out
   refine skip_ (w1 := ?_) (by rfl) rfl ?_ ?_
   rotate_left
   ·
    go_simp
    rfl
   refine hK.out _ _ ⟨((cell_far (p := ⟨gb191, _, none⟩) NB176_191.out _).trans (((cell_far (p := ⟨gb191, _, none⟩) NB176_191.out _).trans (((cell_far (p := ⟨gb191, _, none⟩) NB176_191.out _).trans (((cell_far (p := ⟨gb191, _, none⟩) NB176_191.out _).trans (hHeld.1)))))))), ((cell_far (p := ⟨gb191, _, none⟩) NB176_191.out _).trans (((cell_far (p := ⟨gb191, _, none⟩) NB176_191.out _).trans (((cell_far (p := ⟨gb191, _, none⟩) NB176_191.out _).trans (((cell_far (p := ⟨gb191, _, none⟩) NB176_191.out _).trans (hHeld.2.1)))))))), ((cell_far (p := ⟨gb191, _, none⟩) NB176_191.out _).trans (((cell_far (p := ⟨gb191, _, none⟩) NB176_191.out _).trans (((cell_far (p := ⟨gb191, _, none⟩) NB176_191.out _).trans (((cell_far (p := ⟨gb191, _, none⟩) NB176_191.out _).trans (hHeld.2.2.1)))))))), ((cell_far (p := ⟨gb191, _, none⟩) NB176_191.out _).trans (((cell_far (p := ⟨gb191, _, none⟩) NB176_191.out _).trans (((cell_far (p := ⟨gb191, _, none⟩) NB176_191.out _).trans (((cell_far (p := ⟨gb191, _, none⟩) NB176_191.out _).trans (hHeld.2.2.2.1)))))))), ((cell_far (p := ⟨gb191, _, none⟩) NB177_191.out _).trans (((cell_far (p := ⟨gb191, _, none⟩) NB177_191.out _).trans (((cell_far (p := ⟨gb191, _, none⟩) NB177_191.out _).trans (((cell_far (p := ⟨gb191, _, none⟩) NB177_191.out _).trans (hHeld.2.2.2.2.1)))))))), ((cell_far (p := ⟨gb191, _, none⟩) NB177_191.out _).trans (((cell_far (p := ⟨gb191, _, none⟩) NB177_191.out _).trans (((cell_far (p := ⟨gb191, _, none⟩) NB177_191.out _).trans (((cell_far (p := ⟨gb191, _, none⟩) NB177_191.out _).trans (hHeld.2.2.2.2.2.1)))))))), ((cell_far (p := ⟨gb191, _, none⟩) NB177_191.out _).trans (((cell_far (p := ⟨gb191, _, none⟩) NB177_191.out _).trans (((cell_far (p := ⟨gb191, _, none⟩) NB177_191.out _).trans (((cell_far (p := ⟨gb191, _, none⟩) NB177_191.out _).trans (hHeld.2.2.2.2.2.2.1)))))))), ((cell_far (p := ⟨gb191, _, none⟩) NB177_191.out _).trans (((cell_far (p := ⟨gb191, _, none⟩) NB177_191.out _).trans (((cell_far (p := ⟨gb191, _, none⟩) NB177_191.out _).trans (((cell_far (p := ⟨gb191, _, none⟩) NB177_191.out _).trans (hHeld.2.2.2.2.2.2.2))))))))⟩ (fun hHeld => ?_)
   clear hK K
   refine Hd.p_ HT_ 10 (some 6) #[true, true, true, true, true, true, true, true, true, true, true] ?_
   refine done_ (done_of HT_.out (by kernel_rfl)) ?_
   try go_wp2
   have n0_ : Aside0 (((((w50.setCell ⟨gb191, 0, none⟩ (.int .i64 t186)).setCell ⟨gb191, 1, none⟩ (.int .i64 t187)).setCell ⟨gb191, 2, none⟩ (.int .i64 t188)).setCell ⟨gb191, 3, none⟩ (.int .i64 t189)).heap[gb176]? = some (.cells #[.int .i64 a0_0, .int .i64 a0_1, .int .i64 a0_2, .int .i64 a0_3] 64 (0, 0))) := ⟨by (with_reducible repeat (first | refine blk_drewN ?_ _ | refine blk_drew ?_ | refine blk_alloc ?_ _)); refine blk_far ?_ NB176_191.out _; (with_reducible repeat (first | refine blk_drewN ?_ _ | refine blk_drew ?_ | refine blk_alloc ?_ _)); refine blk_far ?_ NB176_191.out _; (with_reducible repeat (first | refine blk_drewN ?_ _ | refine blk_drew ?_ | refine blk_alloc ?_ _)); refine blk_far ?_ NB176_191.out _; (with_reducible repeat (first | refine blk_drewN ?_ _ | refine blk_drew ?_ | refine blk_alloc ?_ _)); refine blk_far ?_ NB176_191.out _; (with_reducible repeat (first | refine blk_drewN ?_ _ | refine blk_drew ?_ | refine blk_alloc ?_ _)); exact BK176.out⟩
   have n1_ : Aside0 (((((w50.setCell ⟨gb191, 0, none⟩ (.int .i64 t186)).setCell ⟨gb191, 1, none⟩ (.int .i64 t187)).setCell ⟨gb191, 2, none⟩ (.int .i64 t188)).setCell ⟨gb191, 3, none⟩ (.int .i64 t189)).heap[gb177]? = some (.cells #[.int .i64 a1_0, .int .i64 a1_1, .int .i64 a1_2, .int .i64 a1_3] 64 (0, 0))) := ⟨by (with_reducible repeat (first | refine blk_drewN ?_ _ | refine blk_drew ?_ | refine blk_alloc ?_ _)); refine blk_far ?_ NB177_191.out _; (with_reducible repeat (first | refine blk_drewN ?_ _ | refine blk_drew ?_ | refine blk_alloc ?_ _)); refine blk_far ?_ NB177_191.out _; (with_reducible repeat (first | refine blk_drewN ?_ _ | refine blk_drew ?_ | refine blk_alloc ?_ _)); refine blk_far ?_ NB177_191.out _; (with_reducible repeat (first | refine blk_drewN ?_ _ | refine blk_drew ?_ | refine blk_alloc ?_ _)); refine blk_far ?_ NB177_191.out _; (with_reducible repeat (first | refine blk_drewN ?_ _ | refine blk_drew ?_ | refine blk_alloc ?_ _)); exact BK177.out⟩
   have n2_ : Aside0 (((((w50.setCell ⟨gb191, 0, none⟩ (.int .i64 t186)).setCell ⟨gb191, 1, none⟩ (.int .i64 t187)).setCell ⟨gb191, 2, none⟩ (.int .i64 t188)).setCell ⟨gb191, 3, none⟩ (.int .i64 t189)).heap[gb191]? = some (.cells #[.int .i64 t186, .int .i64 t187, .int .i64 t188, .int .i64 t189] 66 (0, 0))) := ⟨by (with_reducible repeat (first | refine blk_drewN ?_ _ | refine blk_drew ?_ | refine blk_alloc ?_ _)); refine blk_put (cs := #[.int .i64 t186, .int .i64 t187, .int .i64 t188, .int .i64 0]) ?_ 3 _ rfl; (with_reducible repeat (first | refine blk_drewN ?_ _ | refine blk_drew ?_ | refine blk_alloc ?_ _)); refine blk_put (cs := #[.int .i64 t186, .int .i64 t187, .int .i64 0, .int .i64 0]) ?_ 2 _ rfl; (with_reducible repeat (first | refine blk_drewN ?_ _ | refine blk_drew ?_ | refine blk_alloc ?_ _)); refine blk_put (cs := #[.int .i64 t186, .int .i64 0, .int .i64 0, .int .i64 0]) ?_ 1 _ rfl; (with_reducible repeat (first | refine blk_drewN ?_ _ | refine blk_drew ?_ | refine blk_alloc ?_ _)); refine blk_put (cs := #[.int .i64 0, .int .i64 0, .int .i64 0, .int .i64 0]) ?_ 0 _ rfl; (with_reducible repeat (first | refine blk_drewN ?_ _ | refine blk_drew ?_ | refine blk_alloc ?_ _)); exact BK191.out⟩
   have n3_ : Aside0 (Below w.heap.size w ((((w50.setCell ⟨gb191, 0, none⟩ (.int .i64 t186)).setCell ⟨gb191, 1, none⟩ (.int .i64 t187)).setCell ⟨gb191, 2, none⟩ (.int .i64 t188)).setCell ⟨gb191, 3, none⟩ (.int .i64 t189))) := ⟨Hd.b_⟩
   (try clear BK176)
   (try clear BK177)
   (try clear BK191)
   (try clear HB)
   generalize ((((w50.setCell ⟨gb191, 0, none⟩ (.int .i64 t186)).setCell ⟨gb191, 1, none⟩ (.int .i64 t187)).setCell ⟨gb191, 2, none⟩ (.int .i64 t188)).setCell ⟨gb191, 3, none⟩ (.int .i64 t189)) = w55 at n0_ n1_ n2_ n3_ ⊢
   have BK176 := n0_
   have BK177 := n1_
   have BK191 := n2_
   have HB := n3_
   clear n0_ n1_ n2_ n3_
   replace BK176 := Aside0.mk (blk_drew BK176.out)
   replace BK177 := Aside0.mk (blk_drew BK177.out)
   replace BK191 := Aside0.mk (blk_drew BK191.out)
   replace HB := Aside0.mk (below_drew1 HB.out)
   refine start_ (n := 11) (S := fun w' => w'.cell? ⟨gb176, 0, none⟩ = some (.int .i64 a0_0) ∧ w'.cell? ⟨gb176, 1, none⟩ = some (.int .i64 a0_1) ∧ w'.cell? ⟨gb176, 2, none⟩ = some (.int .i64 a0_2) ∧ w'.cell? ⟨gb176, 3, none⟩ = some (.int .i64 a0_3) ∧ w'.cell? ⟨gb177, 0, none⟩ = some (.int .i64 a1_0) ∧ w'.cell? ⟨gb177, 1, none⟩ = some (.int .i64 a1_1) ∧ w'.cell? ⟨gb177, 2, none⟩ = some (.int .i64 a1_2) ∧ w'.cell? ⟨gb177, 3, none⟩ = some (.int .i64 a1_3)) (ds := []) #[false, false, false, false, false, false, false, false, false, false, false] (by kernel_rfl) rfl rfl ⟨(blk_cell BK176.out 0).trans rfl, (blk_cell BK176.out 1).trans rfl, (blk_cell BK176.out 2).trans rfl, (blk_cell BK176.out 3).trans rfl, (blk_cell BK177.out 0).trans rfl, (blk_cell BK177.out 1).trans rfl, (blk_cell BK177.out 2).trans rfl, (blk_cell BK177.out 3).trans rfl⟩ (fun hHeld => ?_); refine with_tabW laws_FnExactJoinBoxes.tab2 laws_FnExactJoinBoxes.bits2 (fun HT_ HW_ => ?_)
   generalize w55.drew = w56 at BK176 BK177 BK191 HB hHeld ⊢
   refine Hd.t_ HT_ HW_ hHeld 0 (some 18) #[true, false, false, false, false, false, false, false, false, false, false] ?_
   refine Hd.t_ HT_ HW_ hHeld 2 (some 20) #[true, false, true, false, false, false, false, false, false, false, false] ?_
   refine join_ (σ := Nat) 2 #[true, true, true, true, true, true, true, true, true, false, false] (fun s_ => [(19, .agg #[.int .i64 t192, .int .i64 t193, .int .i64 t194, .int .i64 t195]), (21, .agg #[.int .i64 t196, .int .i64 t197, .int .i64 t198, .int .i64 t199]), (22, .tuple #[.agg #[.int .i64 t200, .int .i64 t201, .int .i64 t202, .int .i64 t203], .bool t204]), (7, .pointer (some ⟨s_, 0, none⟩)), (17, .tuple #[.agg #[.int .i64 t200, .int .i64 t201, .int .i64 t202, .int .i64 t203], .bool t204]), (23, .agg #[.int .i64 t200, .int .i64 t201, .int .i64 t202, .int .i64 t203]), (24, .bool t204)]) (fun s_ w' => (w'.cell? ⟨gb176, 0, none⟩ = some (.int .i64 a0_0) ∧ w'.cell? ⟨gb176, 1, none⟩ = some (.int .i64 a0_1) ∧ w'.cell? ⟨gb176, 2, none⟩ = some (.int .i64 a0_2) ∧ w'.cell? ⟨gb176, 3, none⟩ = some (.int .i64 a0_3) ∧ w'.cell? ⟨gb177, 0, none⟩ = some (.int .i64 a1_0) ∧ w'.cell? ⟨gb177, 1, none⟩ = some (.int .i64 a1_1) ∧ w'.cell? ⟨gb177, 2, none⟩ = some (.int .i64 a1_2) ∧ w'.cell? ⟨gb177, 3, none⟩ = some (.int .i64 a1_3)) ∧ (w'.heap[gb176]? = some (.cells #[.int .i64 a0_0, .int .i64 a0_1, .int .i64 a0_2, .int .i64 a0_3] 64 (0, 0))) ∧ (w'.heap[gb177]? = some (.cells #[.int .i64 a1_0, .int .i64 a1_1, .int .i64 a1_2, .int .i64 a1_3] 64 (0, 0))) ∧ (w'.heap[gb191]? = some (.cells #[.int .i64 t186, .int .i64 t187, .int .i64 t188, .int .i64 t189] 66 (0, 0))) ∧ (w'.heap[s_]? = some (.cells #[.int .i64 0, .int .i64 0, .int .i64 0, .int .i64 0] 66 (0, 0))) ∧ (w.heap.size ≤ s_) ∧ (w.heap.size ≤ s_) ∧ (gb176 ≠ s_) ∧ (s_ ≠ gb176) ∧ (gb177 ≠ s_) ∧ (s_ ≠ gb177) ∧ (gb191 ≠ s_) ∧ (s_ ≠ gb191) ∧ (Below w.heap.size w w')) ?_ ?_
   rotate_left
   ·
    intro hCont
    refine two_ (i := 1) (j := 8) (Ni := some 19) (Nj := some 7) #[true, true, true, false, false, false, false, false, false, false, false] #[true, false, true, false, false, false, false, false, true, false, false] rfl rfl rfl rfl (two_of HT_.out (by kernel_rfl)) (by decide) (by decide) (fun K hK => ?_) (fun K hK => ?_)
    ·
     skip
     refine goes_ Try.func39 (by kernel_rfl) rfl #[.agg #[.int .i64 a0_0, .int .i64 a0_1, .int .i64 a0_2, .int .i64 a0_3]] (by rfl) rfl rfl Hd.m_ ?_
     with_reducible refine (laws_toBox.calls a0_0 a0_1 a0_2 a0_3 t192 t193 t194 t195 _ A6.out).mono ?_
     rintro e w57 ⟨rfl, hb⟩
     refine ⟨_, rfl, ?_⟩
     replace BK176 := Aside0.mk (Hd.kb_ BK176 hb)
     replace BK177 := Aside0.mk (Hd.kb_ BK177 hb)
     replace BK191 := Aside0.mk (Hd.kb_ BK191 hb)
     replace HB := Aside0.mk (below_step Hd.b_ hb)
     (try clear hb)
     (try clear hb2)
     (try clear hk)
     (try clear hi)
     refine hK.out _ _ ⟨(blk_cell BK176.out 0).trans rfl, (blk_cell BK176.out 1).trans rfl, (blk_cell BK176.out 2).trans rfl, (blk_cell BK176.out 3).trans rfl, (blk_cell BK177.out 0).trans rfl, (blk_cell BK177.out 1).trans rfl, (blk_cell BK177.out 2).trans rfl, (blk_cell BK177.out 3).trans rfl⟩ (fun hHeld => ?_)
     clear hK K
     refine Hd.n_ (some 19) ?_
     refine two_ (i := 3) (j := 8) (Ni := some 21) (Nj := some 7) #[true, true, true, true, false, false, false, false, false, false, false] #[true, true, true, false, false, false, false, false, true, false, false] rfl rfl rfl rfl (two_of HT_.out (by kernel_rfl)) (by decide) (by decide) (fun K hK => ?_) (fun K hK => ?_)
     ·
      skip
      refine goes_ Try.func39 (by kernel_rfl) rfl #[.agg #[.int .i64 a1_0, .int .i64 a1_1, .int .i64 a1_2, .int .i64 a1_3]] (by rfl) rfl rfl Hd.m_ ?_
      with_reducible refine (laws_toBox.calls a1_0 a1_1 a1_2 a1_3 t196 t197 t198 t199 _ A7.out).mono ?_
      rintro e w58 ⟨rfl, hb⟩
      refine ⟨_, rfl, ?_⟩
      replace BK176 := Aside0.mk (Hd.kb_ BK176 hb)
      replace BK177 := Aside0.mk (Hd.kb_ BK177 hb)
      replace BK191 := Aside0.mk (Hd.kb_ BK191 hb)
      replace HB := Aside0.mk (below_step Hd.b_ hb)
      (try clear hb)
      (try clear hb2)
      (try clear hk)
      (try clear hi)
      refine hK.out _ _ ⟨(blk_cell BK176.out 0).trans rfl, (blk_cell BK176.out 1).trans rfl, (blk_cell BK176.out 2).trans rfl, (blk_cell BK176.out 3).trans rfl, (blk_cell BK177.out 0).trans rfl, (blk_cell BK177.out 1).trans rfl, (blk_cell BK177.out 2).trans rfl, (blk_cell BK177.out 3).trans rfl⟩ (fun hHeld => ?_)
      clear hK K
      refine Hd.n_ (some 21) ?_
      refine two_ (i := 4) (j := 8) (Ni := some 22) (Nj := some 7) #[true, true, true, true, true, false, false, false, false, false, false] #[true, true, true, true, false, false, false, false, true, false, false] rfl rfl rfl rfl (two_of HT_.out (by kernel_rfl)) (by decide) (by decide) (fun K hK => ?_) (fun K hK => ?_)
      ·
       skip
       refine goes_ Try.func40 (by kernel_rfl) rfl #[.agg #[.int .i64 t192, .int .i64 t193, .int .i64 t194, .int .i64 t195], .agg #[.int .i64 t196, .int .i64 t197, .int .i64 t198, .int .i64 t199]] (by rfl) rfl rfl Hd.m_ ?_
       with_reducible refine (impl_JoinBoxes.calls k t192 t193 t194 t195 t196 t197 t198 t199 t200 t201 t202 t203 t204 _ A8.out).mono ?_
       rintro e w59 ⟨rfl, hb⟩
       refine ⟨_, rfl, ?_⟩
       replace BK176 := Aside0.mk (Hd.kb_ BK176 hb)
       replace BK177 := Aside0.mk (Hd.kb_ BK177 hb)
       replace BK191 := Aside0.mk (Hd.kb_ BK191 hb)
       replace HB := Aside0.mk (below_step Hd.b_ hb)
       (try clear hb)
       (try clear hb2)
       (try clear hk)
       (try clear hi)
       refine hK.out _ _ ⟨(blk_cell BK176.out 0).trans rfl, (blk_cell BK176.out 1).trans rfl, (blk_cell BK176.out 2).trans rfl, (blk_cell BK176.out 3).trans rfl, (blk_cell BK177.out 0).trans rfl, (blk_cell BK177.out 1).trans rfl, (blk_cell BK177.out 2).trans rfl, (blk_cell BK177.out 3).trans rfl⟩ (fun hHeld => ?_)
       clear hK K
       refine Hd.n_ (some 22) ?_
       refine Hd.p_ HT_ 5 (some 17) #[true, true, true, true, true, true, false, false, false, false, false] ?_
       refine Hd.p_ HT_ 6 (some 23) #[true, true, true, true, true, true, true, false, false, false, false] ?_
       refine Hd.p_ HT_ 7 (some 24) #[true, true, true, true, true, true, true, true, false, false, false] ?_
       refine Hd.o_ HT_ 8 (some 7) #[true, true, true, true, true, true, true, true, true, false, false] (fun K hK => ?_)
       refine box_step ?hg (N := 7) ?hd (cs := #[.int .i64 0, .int .i64 0, .int .i64 0, .int .i64 0]) (t := 66) ?hr ?_; (case hd => rfl); (case hg => rfl); (case hr => first | (go_simp; done) | (go_simp; rfl))
       intro gb205 hg w60 hbox hb
       have BK205 := Aside0.mk (hbox)
       have GW205 := Aside0.mk ((Hd.g_ hg Hd.b_ : w.heap.size ≤ gb205))
       have GE205 := Aside0.mk ((Hd.g_ hg Hd.b_ : w.heap.size ≤ gb205))
       replace HB := Aside0.mk (below_step Hd.b_ hb)
       have NB176_205 := Aside0.mk ((Hd.lt_ BK176 hg))
       have NB205_176 := Aside0.mk ((Hd.gt_ BK176 hg))
       replace BK176 := Aside0.mk (Hd.kb_ BK176 hb)
       have NB177_205 := Aside0.mk ((Hd.lt_ BK177 hg))
       have NB205_177 := Aside0.mk ((Hd.gt_ BK177 hg))
       replace BK177 := Aside0.mk (Hd.kb_ BK177 hb)
       have NB191_205 := Aside0.mk ((Hd.lt_ BK191 hg))
       have NB205_191 := Aside0.mk ((Hd.gt_ BK191 hg))
       replace BK191 := Aside0.mk (Hd.kb_ BK191 hb)
       clear hb hbox hg
       refine hK.out _ _ ⟨(blk_cell BK176.out 0).trans rfl, (blk_cell BK176.out 1).trans rfl, (blk_cell BK176.out 2).trans rfl, (blk_cell BK176.out 3).trans rfl, (blk_cell BK177.out 0).trans rfl, (blk_cell BK177.out 1).trans rfl, (blk_cell BK177.out 2).trans rfl, (blk_cell BK177.out 3).trans rfl⟩ (fun hHeld => ?_)
       clear hK K
       refine Hd.n_ (some 7) ?_
       exact norm_ (by simp only [putAll, Act.put, List.setIfInBounds_toArray, List.set_cons_zero, List.set_cons_succ]) (hCont (gb205) _ ⟨hHeld, (Hd.k_ BK176), (Hd.k_ BK177), (Hd.k_ BK191), (Hd.k_ BK205), GW205.out, GE205.out, NB176_205.out, NB205_176.out, NB177_205.out, NB205_177.out, NB191_205.out, NB205_191.out, Hd.b_⟩)
      ·
       skip
       refine box_step ?hg (N := 7) ?hd (cs := #[.int .i64 0, .int .i64 0, .int .i64 0, .int .i64 0]) (t := 66) ?hr ?_; (case hd => rfl); (case hg => rfl); (case hr => first | (go_simp; done) | (go_simp; rfl))
       intro gb205 hg w59 hbox hb
       have BK205 := Aside0.mk (hbox)
       have GW205 := Aside0.mk ((Hd.g_ hg Hd.b_ : w.heap.size ≤ gb205))
       have GE205 := Aside0.mk ((Hd.g_ hg Hd.b_ : w.heap.size ≤ gb205))
       replace HB := Aside0.mk (below_step Hd.b_ hb)
       have NB176_205 := Aside0.mk ((Hd.lt_ BK176 hg))
       have NB205_176 := Aside0.mk ((Hd.gt_ BK176 hg))
       replace BK176 := Aside0.mk (Hd.kb_ BK176 hb)
       have NB177_205 := Aside0.mk ((Hd.lt_ BK177 hg))
       have NB205_177 := Aside0.mk ((Hd.gt_ BK177 hg))
       replace BK177 := Aside0.mk (Hd.kb_ BK177 hb)
       have NB191_205 := Aside0.mk ((Hd.lt_ BK191 hg))
       have NB205_191 := Aside0.mk ((Hd.gt_ BK191 hg))
       replace BK191 := Aside0.mk (Hd.kb_ BK191 hb)
       clear hb hbox hg
       refine hK.out _ _ ⟨(blk_cell BK176.out 0).trans rfl, (blk_cell BK176.out 1).trans rfl, (blk_cell BK176.out 2).trans rfl, (blk_cell BK176.out 3).trans rfl, (blk_cell BK177.out 0).trans rfl, (blk_cell BK177.out 1).trans rfl, (blk_cell BK177.out 2).trans rfl, (blk_cell BK177.out 3).trans rfl⟩ (fun hHeld => ?_)
       clear hK K
       refine Hd.n_ (some 7) ?_
       refine Hd.o_ HT_ 4 (some 22) #[true, true, true, true, true, false, false, false, true, false, false] (fun K hK => ?_)
       refine goes_ Try.func40 (by kernel_rfl) rfl #[.agg #[.int .i64 t192, .int .i64 t193, .int .i64 t194, .int .i64 t195], .agg #[.int .i64 t196, .int .i64 t197, .int .i64 t198, .int .i64 t199]] (by rfl) rfl rfl Hd.m_ ?_
       with_reducible refine (impl_JoinBoxes.calls k t192 t193 t194 t195 t196 t197 t198 t199 t200 t201 t202 t203 t204 _ A8.out).mono ?_
       rintro e w60 ⟨rfl, hb⟩
       refine ⟨_, rfl, ?_⟩
       replace BK176 := Aside0.mk (Hd.kb_ BK176 hb)
       replace BK177 := Aside0.mk (Hd.kb_ BK177 hb)
       replace BK191 := Aside0.mk (Hd.kb_ BK191 hb)
       replace BK205 := Aside0.mk (Hd.kb_ BK205 hb)
       replace HB := Aside0.mk (below_step Hd.b_ hb)
       (try clear hb)
       (try clear hb2)
       (try clear hk)
       (try clear hi)
       refine hK.out _ _ ⟨(blk_cell BK176.out 0).trans rfl, (blk_cell BK176.out 1).trans rfl, (blk_cell BK176.out 2).trans rfl, (blk_cell BK176.out 3).trans rfl, (blk_cell BK177.out 0).trans rfl, (blk_cell BK177.out 1).trans rfl, (blk_cell BK177.out 2).trans rfl, (blk_cell BK177.out 3).trans rfl⟩ (fun hHeld => ?_)
       clear hK K
       refine Hd.n_ (some 22) ?_
       refine Hd.p_ HT_ 5 (some 17) #[true, true, true, true, true, true, false, false, true, false, false] ?_
       refine Hd.p_ HT_ 6 (some 23) #[true, true, true, true, true, true, true, false, true, false, false] ?_
       refine Hd.p_ HT_ 7 (some 24) #[true, true, true, true, true, true, true, true, true, false, false] ?_
       exact norm_ (by simp only [putAll, Act.put, List.setIfInBounds_toArray, List.set_cons_zero, List.set_cons_succ]) (hCont (gb205) _ ⟨hHeld, (Hd.k_ BK176), (Hd.k_ BK177), (Hd.k_ BK191), (Hd.k_ BK205), GW205.out, GE205.out, NB176_205.out, NB205_176.out, NB177_205.out, NB205_177.out, NB191_205.out, NB205_191.out, Hd.b_⟩)
     ·
      skip
      refine box_step ?hg (N := 7) ?hd (cs := #[.int .i64 0, .int .i64 0, .int .i64 0, .int .i64 0]) (t := 66) ?hr ?_; (case hd => rfl); (case hg => rfl); (case hr => first | (go_simp; done) | (go_simp; rfl))
      intro gb205 hg w58 hbox hb
      have BK205 := Aside0.mk (hbox)
      have GW205 := Aside0.mk ((Hd.g_ hg Hd.b_ : w.heap.size ≤ gb205))
      have GE205 := Aside0.mk ((Hd.g_ hg Hd.b_ : w.heap.size ≤ gb205))
      replace HB := Aside0.mk (below_step Hd.b_ hb)
      have NB176_205 := Aside0.mk ((Hd.lt_ BK176 hg))
      have NB205_176 := Aside0.mk ((Hd.gt_ BK176 hg))
      replace BK176 := Aside0.mk (Hd.kb_ BK176 hb)
      have NB177_205 := Aside0.mk ((Hd.lt_ BK177 hg))
      have NB205_177 := Aside0.mk ((Hd.gt_ BK177 hg))
      replace BK177 := Aside0.mk (Hd.kb_ BK177 hb)
      have NB191_205 := Aside0.mk ((Hd.lt_ BK191 hg))
      have NB205_191 := Aside0.mk ((Hd.gt_ BK191 hg))
      replace BK191 := Aside0.mk (Hd.kb_ BK191 hb)
      clear hb hbox hg
      refine hK.out _ _ ⟨(blk_cell BK176.out 0).trans rfl, (blk_cell BK176.out 1).trans rfl, (blk_cell BK176.out 2).trans rfl, (blk_cell BK176.out 3).trans rfl, (blk_cell BK177.out 0).trans rfl, (blk_cell BK177.out 1).trans rfl, (blk_cell BK177.out 2).trans rfl, (blk_cell BK177.out 3).trans rfl⟩ (fun hHeld => ?_)
      clear hK K
      refine Hd.n_ (some 7) ?_
      refine Hd.o_ HT_ 3 (some 21) #[true, true, true, true, false, false, false, false, true, false, false] (fun K hK => ?_)
      refine goes_ Try.func39 (by kernel_rfl) rfl #[.agg #[.int .i64 a1_0, .int .i64 a1_1, .int .i64 a1_2, .int .i64 a1_3]] (by rfl) rfl rfl Hd.m_ ?_
      with_reducible refine (laws_toBox.calls a1_0 a1_1 a1_2 a1_3 t196 t197 t198 t199 _ A7.out).mono ?_
      rintro e w59 ⟨rfl, hb⟩
      refine ⟨_, rfl, ?_⟩
      replace BK176 := Aside0.mk (Hd.kb_ BK176 hb)
      replace BK177 := Aside0.mk (Hd.kb_ BK177 hb)
      replace BK191 := Aside0.mk (Hd.kb_ BK191 hb)
      replace BK205 := Aside0.mk (Hd.kb_ BK205 hb)
      replace HB := Aside0.mk (below_step Hd.b_ hb)
      (try clear hb)
      (try clear hb2)
      (try clear hk)
      (try clear hi)
      refine hK.out _ _ ⟨(blk_cell BK176.out 0).trans rfl, (blk_cell BK176.out 1).trans rfl, (blk_cell BK176.out 2).trans rfl, (blk_cell BK176.out 3).trans rfl, (blk_cell BK177.out 0).trans rfl, (blk_cell BK177.out 1).trans rfl, (blk_cell BK177.out 2).trans rfl, (blk_cell BK177.out 3).trans rfl⟩ (fun hHeld => ?_)
      clear hK K
      refine Hd.n_ (some 21) ?_
      refine Hd.o_ HT_ 4 (some 22) #[true, true, true, true, true, false, false, false, true, false, false] (fun K hK => ?_)
      refine goes_ Try.func40 (by kernel_rfl) rfl #[.agg #[.int .i64 t192, .int .i64 t193, .int .i64 t194, .int .i64 t195], .agg #[.int .i64 t196, .int .i64 t197, .int .i64 t198, .int .i64 t199]] (by rfl) rfl rfl Hd.m_ ?_
      with_reducible refine (impl_JoinBoxes.calls k t192 t193 t194 t195 t196 t197 t198 t199 t200 t201 t202 t203 t204 _ A8.out).mono ?_
      rintro e w60 ⟨rfl, hb⟩
      refine ⟨_, rfl, ?_⟩
      replace BK176 := Aside0.mk (Hd.kb_ BK176 hb)
      replace BK177 := Aside0.mk (Hd.kb_ BK177 hb)
      replace BK191 := Aside0.mk (Hd.kb_ BK191 hb)
      replace BK205 := Aside0.mk (Hd.kb_ BK205 hb)
      replace HB := Aside0.mk (below_step Hd.b_ hb)
      (try clear hb)
      (try clear hb2)
      (try clear hk)
      (try clear hi)
      refine hK.out _ _ ⟨(blk_cell BK176.out 0).trans rfl, (blk_cell BK176.out 1).trans rfl, (blk_cell BK176.out 2).trans rfl, (blk_cell BK176.out 3).trans rfl, (blk_cell BK177.out 0).trans rfl, (blk_cell BK177.out 1).trans rfl, (blk_cell BK177.out 2).trans rfl, (blk_cell BK177.out 3).trans rfl⟩ (fun hHeld => ?_)
      clear hK K
      refine Hd.n_ (some 22) ?_
      refine Hd.p_ HT_ 5 (some 17) #[true, true, true, true, true, true, false, false, true, false, false] ?_
      refine Hd.p_ HT_ 6 (some 23) #[true, true, true, true, true, true, true, false, true, false, false] ?_
      refine Hd.p_ HT_ 7 (some 24) #[true, true, true, true, true, true, true, true, true, false, false] ?_
      exact norm_ (by simp only [putAll, Act.put, List.setIfInBounds_toArray, List.set_cons_zero, List.set_cons_succ]) (hCont (gb205) _ ⟨hHeld, (Hd.k_ BK176), (Hd.k_ BK177), (Hd.k_ BK191), (Hd.k_ BK205), GW205.out, GE205.out, NB176_205.out, NB205_176.out, NB177_205.out, NB205_177.out, NB191_205.out, NB205_191.out, Hd.b_⟩)
    ·
     skip
     refine box_step ?hg (N := 7) ?hd (cs := #[.int .i64 0, .int .i64 0, .int .i64 0, .int .i64 0]) (t := 66) ?hr ?_; (case hd => rfl); (case hg => rfl); (case hr => first | (go_simp; done) | (go_simp; rfl))
     intro gb205 hg w57 hbox hb
     have BK205 := Aside0.mk (hbox)
     have GW205 := Aside0.mk ((Hd.g_ hg Hd.b_ : w.heap.size ≤ gb205))
     have GE205 := Aside0.mk ((Hd.g_ hg Hd.b_ : w.heap.size ≤ gb205))
     replace HB := Aside0.mk (below_step Hd.b_ hb)
     have NB176_205 := Aside0.mk ((Hd.lt_ BK176 hg))
     have NB205_176 := Aside0.mk ((Hd.gt_ BK176 hg))
     replace BK176 := Aside0.mk (Hd.kb_ BK176 hb)
     have NB177_205 := Aside0.mk ((Hd.lt_ BK177 hg))
     have NB205_177 := Aside0.mk ((Hd.gt_ BK177 hg))
     replace BK177 := Aside0.mk (Hd.kb_ BK177 hb)
     have NB191_205 := Aside0.mk ((Hd.lt_ BK191 hg))
     have NB205_191 := Aside0.mk ((Hd.gt_ BK191 hg))
     replace BK191 := Aside0.mk (Hd.kb_ BK191 hb)
     clear hb hbox hg
     refine hK.out _ _ ⟨(blk_cell BK176.out 0).trans rfl, (blk_cell BK176.out 1).trans rfl, (blk_cell BK176.out 2).trans rfl, (blk_cell BK176.out 3).trans rfl, (blk_cell BK177.out 0).trans rfl, (blk_cell BK177.out 1).trans rfl, (blk_cell BK177.out 2).trans rfl, (blk_cell BK177.out 3).trans rfl⟩ (fun hHeld => ?_)
     clear hK K
     refine Hd.n_ (some 7) ?_
     refine Hd.o_ HT_ 1 (some 19) #[true, true, true, false, false, false, false, false, true, false, false] (fun K hK => ?_)
     refine goes_ Try.func39 (by kernel_rfl) rfl #[.agg #[.int .i64 a0_0, .int .i64 a0_1, .int .i64 a0_2, .int .i64 a0_3]] (by rfl) rfl rfl Hd.m_ ?_
     with_reducible refine (laws_toBox.calls a0_0 a0_1 a0_2 a0_3 t192 t193 t194 t195 _ A6.out).mono ?_
     rintro e w58 ⟨rfl, hb⟩
     refine ⟨_, rfl, ?_⟩
     replace BK176 := Aside0.mk (Hd.kb_ BK176 hb)
     replace BK177 := Aside0.mk (Hd.kb_ BK177 hb)
     replace BK191 := Aside0.mk (Hd.kb_ BK191 hb)
     replace BK205 := Aside0.mk (Hd.kb_ BK205 hb)
     replace HB := Aside0.mk (below_step Hd.b_ hb)
     (try clear hb)
     (try clear hb2)
     (try clear hk)
     (try clear hi)
     refine hK.out _ _ ⟨(blk_cell BK176.out 0).trans rfl, (blk_cell BK176.out 1).trans rfl, (blk_cell BK176.out 2).trans rfl, (blk_cell BK176.out 3).trans rfl, (blk_cell BK177.out 0).trans rfl, (blk_cell BK177.out 1).trans rfl, (blk_cell BK177.out 2).trans rfl, (blk_cell BK177.out 3).trans rfl⟩ (fun hHeld => ?_)
     clear hK K
     refine Hd.n_ (some 19) ?_
     refine Hd.o_ HT_ 3 (some 21) #[true, true, true, true, false, false, false, false, true, false, false] (fun K hK => ?_)
     refine goes_ Try.func39 (by kernel_rfl) rfl #[.agg #[.int .i64 a1_0, .int .i64 a1_1, .int .i64 a1_2, .int .i64 a1_3]] (by rfl) rfl rfl Hd.m_ ?_
     with_reducible refine (laws_toBox.calls a1_0 a1_1 a1_2 a1_3 t196 t197 t198 t199 _ A7.out).mono ?_
     rintro e w59 ⟨rfl, hb⟩
     refine ⟨_, rfl, ?_⟩
     replace BK176 := Aside0.mk (Hd.kb_ BK176 hb)
     replace BK177 := Aside0.mk (Hd.kb_ BK177 hb)
     replace BK191 := Aside0.mk (Hd.kb_ BK191 hb)
     replace BK205 := Aside0.mk (Hd.kb_ BK205 hb)
     replace HB := Aside0.mk (below_step Hd.b_ hb)
     (try clear hb)
     (try clear hb2)
     (try clear hk)
     (try clear hi)
     refine hK.out _ _ ⟨(blk_cell BK176.out 0).trans rfl, (blk_cell BK176.out 1).trans rfl, (blk_cell BK176.out 2).trans rfl, (blk_cell BK176.out 3).trans rfl, (blk_cell BK177.out 0).trans rfl, (blk_cell BK177.out 1).trans rfl, (blk_cell BK177.out 2).trans rfl, (blk_cell BK177.out 3).trans rfl⟩ (fun hHeld => ?_)
     clear hK K
     refine Hd.n_ (some 21) ?_
     refine Hd.o_ HT_ 4 (some 22) #[true, true, true, true, true, false, false, false, true, false, false] (fun K hK => ?_)
     refine goes_ Try.func40 (by kernel_rfl) rfl #[.agg #[.int .i64 t192, .int .i64 t193, .int .i64 t194, .int .i64 t195], .agg #[.int .i64 t196, .int .i64 t197, .int .i64 t198, .int .i64 t199]] (by rfl) rfl rfl Hd.m_ ?_
     with_reducible refine (impl_JoinBoxes.calls k t192 t193 t194 t195 t196 t197 t198 t199 t200 t201 t202 t203 t204 _ A8.out).mono ?_
     rintro e w60 ⟨rfl, hb⟩
     refine ⟨_, rfl, ?_⟩
     replace BK176 := Aside0.mk (Hd.kb_ BK176 hb)
     replace BK177 := Aside0.mk (Hd.kb_ BK177 hb)
     replace BK191 := Aside0.mk (Hd.kb_ BK191 hb)
     replace BK205 := Aside0.mk (Hd.kb_ BK205 hb)
     replace HB := Aside0.mk (below_step Hd.b_ hb)
     (try clear hb)
     (try clear hb2)
     (try clear hk)
     (try clear hi)
     refine hK.out _ _ ⟨(blk_cell BK176.out 0).trans rfl, (blk_cell BK176.out 1).trans rfl, (blk_cell BK176.out 2).trans rfl, (blk_cell BK176.out 3).trans rfl, (blk_cell BK177.out 0).trans rfl, (blk_cell BK177.out 1).trans rfl, (blk_cell BK177.out 2).trans rfl, (blk_cell BK177.out 3).trans rfl⟩ (fun hHeld => ?_)
     clear hK K
     refine Hd.n_ (some 22) ?_
     refine Hd.p_ HT_ 5 (some 17) #[true, true, true, true, true, true, false, false, true, false, false] ?_
     refine Hd.p_ HT_ 6 (some 23) #[true, true, true, true, true, true, true, false, true, false, false] ?_
     refine Hd.p_ HT_ 7 (some 24) #[true, true, true, true, true, true, true, true, true, false, false] ?_
     exact norm_ (by simp only [putAll, Act.put, List.setIfInBounds_toArray, List.set_cons_zero, List.set_cons_succ]) (hCont (gb205) _ ⟨hHeld, (Hd.k_ BK176), (Hd.k_ BK177), (Hd.k_ BK191), (Hd.k_ BK205), GW205.out, GE205.out, NB176_205.out, NB205_176.out, NB177_205.out, NB205_177.out, NB191_205.out, NB205_191.out, Hd.b_⟩)
   rintro gb205 w61 ⟨hS_, h0_, h1_, h2_, h3_, h4_, h5_, h6_, h7_, h8_, h9_, h10_, h11_, h12_⟩
   have n0_ : Aside0 (w61.heap[gb176]? = some (.cells #[.int .i64 a0_0, .int .i64 a0_1, .int .i64 a0_2, .int .i64 a0_3] 64 (0, 0))) := ⟨h0_⟩
   have n1_ : Aside0 (w61.heap[gb177]? = some (.cells #[.int .i64 a1_0, .int .i64 a1_1, .int .i64 a1_2, .int .i64 a1_3] 64 (0, 0))) := ⟨h1_⟩
   have n2_ : Aside0 (w61.heap[gb191]? = some (.cells #[.int .i64 t186, .int .i64 t187, .int .i64 t188, .int .i64 t189] 66 (0, 0))) := ⟨h2_⟩
   have n3_ : Aside0 (w61.heap[gb205]? = some (.cells #[.int .i64 0, .int .i64 0, .int .i64 0, .int .i64 0] 66 (0, 0))) := ⟨h3_⟩
   have n4_ : Aside0 (w.heap.size ≤ gb205) := ⟨h4_⟩
   have n5_ : Aside0 (w.heap.size ≤ gb205) := ⟨h5_⟩
   have n6_ : Aside0 (gb176 ≠ gb205) := ⟨h6_⟩
   have n7_ : Aside0 (gb205 ≠ gb176) := ⟨h7_⟩
   have n8_ : Aside0 (gb177 ≠ gb205) := ⟨h8_⟩
   have n9_ : Aside0 (gb205 ≠ gb177) := ⟨h9_⟩
   have n10_ : Aside0 (gb191 ≠ gb205) := ⟨h10_⟩
   have n11_ : Aside0 (gb205 ≠ gb191) := ⟨h11_⟩
   have n12_ : Aside0 (Below w.heap.size w w61) := ⟨h12_⟩
   clear BK176
   clear BK177
   clear BK191
   clear HB
   clear h0_ h1_ h2_ h3_ h4_ h5_ h6_ h7_ h8_ h9_ h10_ h11_ h12_
   have BK176 := n0_
   have BK177 := n1_
   have BK191 := n2_
   have BK205 := n3_
   have GW205 := n4_
   have GE205 := n5_
   have NB176_205 := n6_
   have NB205_176 := n7_
   have NB177_205 := n8_
   have NB205_177 := n9_
   have NB191_205 := n10_
   have NB205_191 := n11_
   have HB := n12_
   clear n0_ n1_ n2_ n3_ n4_ n5_ n6_ n7_ n8_ n9_ n10_ n11_ n12_
   have hHeld : w61.cell? ⟨gb176, 0, none⟩ = some (.int .i64 a0_0) ∧ w61.cell? ⟨gb176, 1, none⟩ = some (.int .i64 a0_1) ∧ w61.cell? ⟨gb176, 2, none⟩ = some (.int .i64 a0_2) ∧ w61.cell? ⟨gb176, 3, none⟩ = some (.int .i64 a0_3) ∧ w61.cell? ⟨gb177, 0, none⟩ = some (.int .i64 a1_0) ∧ w61.cell? ⟨gb177, 1, none⟩ = some (.int .i64 a1_1) ∧ w61.cell? ⟨gb177, 2, none⟩ = some (.int .i64 a1_2) ∧ w61.cell? ⟨gb177, 3, none⟩ = some (.int .i64 a1_3) := hS_
   refine norm_ (a' := ?_) ?_ ?_
   rotate_left
   ·
    simp only [putAll, Act.put, List.setIfInBounds_toArray, List.set_cons_zero, List.set_cons_succ]
    rfl
   refine Hd.o_ HT_ 9 (none) #[true, true, true, true, true, true, true, true, true, true, false] (fun K hK => ?_)
   have hs62 : w61.cell? ⟨gb205, 0, none⟩ = some (.int .i64 0) := (blk_cell BK205.out 0).trans rfl
   have hfs62 := blk_frozen BK205.out 0
   have hns62_0 := NB176_205.out
   have hns62_1 := NB177_205.out
   have hns62_2 := NB191_205.out
   have hms62_0 := NB205_176.out
   have hms62_1 := NB205_177.out
   have hms62_2 := NB205_191.out
   have hs63 : w61.cell? ⟨gb205, 1, none⟩ = some (.int .i64 0) := (blk_cell BK205.out 1).trans rfl
   have hfs63 := blk_frozen BK205.out 1
   have hns63_0 := NB176_205.out
   have hns63_1 := NB177_205.out
   have hns63_2 := NB191_205.out
   have hms63_0 := NB205_176.out
   have hms63_1 := NB205_177.out
   have hms63_2 := NB205_191.out
   have hs64 : w61.cell? ⟨gb205, 2, none⟩ = some (.int .i64 0) := (blk_cell BK205.out 2).trans rfl
   have hfs64 := blk_frozen BK205.out 2
   have hns64_0 := NB176_205.out
   have hns64_1 := NB177_205.out
   have hns64_2 := NB191_205.out
   have hms64_0 := NB205_176.out
   have hms64_1 := NB205_177.out
   have hms64_2 := NB205_191.out
   have hs65 : w61.cell? ⟨gb205, 3, none⟩ = some (.int .i64 0) := (blk_cell BK205.out 3).trans rfl
   have hfs65 := blk_frozen BK205.out 3
   have hns65_0 := NB176_205.out
   have hns65_1 := NB177_205.out
   have hns65_2 := NB191_205.out
   have hms65_0 := NB205_176.out
   have hms65_1 := NB205_177.out
   have hms65_2 := NB205_191.out
   refine skip_ (w1 := ?_) (by rfl) rfl ?_ ?_
   rotate_left
   ·
    go_simp
    rfl
   refine hK.out _ _ ⟨((cell_far (p := ⟨gb205, _, none⟩) NB176_205.out _).trans (((cell_far (p := ⟨gb205, _, none⟩) NB176_205.out _).trans (((cell_far (p := ⟨gb205, _, none⟩) NB176_205.out _).trans (((cell_far (p := ⟨gb205, _, none⟩) NB176_205.out _).trans (hHeld.1)))))))), ((cell_far (p := ⟨gb205, _, none⟩) NB176_205.out _).trans (((cell_far (p := ⟨gb205, _, none⟩) NB176_205.out _).trans (((cell_far (p := ⟨gb205, _, none⟩) NB176_205.out _).trans (((cell_far (p := ⟨gb205, _, none⟩) NB176_205.out _).trans (hHeld.2.1)))))))), ((cell_far (p := ⟨gb205, _, none⟩) NB176_205.out _).trans (((cell_far (p := ⟨gb205, _, none⟩) NB176_205.out _).trans (((cell_far (p := ⟨gb205, _, none⟩) NB176_205.out _).trans (((cell_far (p := ⟨gb205, _, none⟩) NB176_205.out _).trans (hHeld.2.2.1)))))))), ((cell_far (p := ⟨gb205, _, none⟩) NB176_205.out _).trans (((cell_far (p := ⟨gb205, _, none⟩) NB176_205.out _).trans (((cell_far (p := ⟨gb205, _, none⟩) NB176_205.out _).trans (((cell_far (p := ⟨gb205, _, none⟩) NB176_205.out _).trans (hHeld.2.2.2.1)))))))), ((cell_far (p := ⟨gb205, _, none⟩) NB177_205.out _).trans (((cell_far (p := ⟨gb205, _, none⟩) NB177_205.out _).trans (((cell_far (p := ⟨gb205, _, none⟩) NB177_205.out _).trans (((cell_far (p := ⟨gb205, _, none⟩) NB177_205.out _).trans (hHeld.2.2.2.2.1)))))))), ((cell_far (p := ⟨gb205, _, none⟩) NB177_205.out _).trans (((cell_far (p := ⟨gb205, _, none⟩) NB177_205.out _).trans (((cell_far (p := ⟨gb205, _, none⟩) NB177_205.out _).trans (((cell_far (p := ⟨gb205, _, none⟩) NB177_205.out _).trans (hHeld.2.2.2.2.2.1)))))))), ((cell_far (p := ⟨gb205, _, none⟩) NB177_205.out _).trans (((cell_far (p := ⟨gb205, _, none⟩) NB177_205.out _).trans (((cell_far (p := ⟨gb205, _, none⟩) NB177_205.out _).trans (((cell_far (p := ⟨gb205, _, none⟩) NB177_205.out _).trans (hHeld.2.2.2.2.2.2.1)))))))), ((cell_far (p := ⟨gb205, _, none⟩) NB177_205.out _).trans (((cell_far (p := ⟨gb205, _, none⟩) NB177_205.out _).trans (((cell_far (p := ⟨gb205, _, none⟩) NB177_205.out _).trans (((cell_far (p := ⟨gb205, _, none⟩) NB177_205.out _).trans (hHeld.2.2.2.2.2.2.2))))))))⟩ (fun hHeld => ?_)
   clear hK K
   refine Hd.p_ HT_ 10 (some 8) #[true, true, true, true, true, true, true, true, true, true, true] ?_
   refine done_ (done_of HT_.out (by kernel_rfl)) ?_
   have hnb66 := NB205_176.out
   have hnc66 := NB176_205.out
   have hnb67 := NB205_177.out
   have hnc67 := NB177_205.out
   have hnb68 := NB205_191.out
   have hnc68 := NB191_205.out
   obtain ⟨hcz69_0, hcz69_1, hcz69_2, hcz69_3⟩ := Hd.c4_ BK205.out
   obtain ⟨hfz69_0, hfz69_1, hfz69_2, hfz69_3⟩ := Hd.f4_ BK205.out
   have hnb70 := NB191_176.out
   have hnc70 := NB176_191.out
   have hnb71 := NB191_177.out
   have hnc71 := NB177_191.out
   obtain ⟨hcz72_0, hcz72_1, hcz72_2, hcz72_3⟩ := Hd.c4_ BK191.out
   obtain ⟨hfz72_0, hfz72_1, hfz72_2, hfz72_3⟩ := Hd.f4_ BK191.out
   try go_wp2_with (first | ((with_reducible refine gate_callee (f := 41) rfl ?_); refine goesL_ (some 27) rfl rfl Try.func41 (by kernel_rfl) rfl #[.agg #[.int .i64 t200, .int .i64 t201, .int .i64 t202, .int .i64 t203], .agg #[.int .i64 t186, .int .i64 t187, .int .i64 t188, .int .i64 t189]] rfl Hd.m_ ?_; (with_reducible refine (laws_eqBox.calls t200 t201 t202 t203 t186 t187 t188 t189 true _ A9.out).mono ?_); rintro e w73 ⟨rfl, hb⟩; refine ⟨_, rfl, ?_⟩; replace BK176 := Aside0.mk (blk_below (g := gb176) (o := .cells #[.int .i64 a0_0, .int .i64 a0_1, .int .i64 a0_2, .int .i64 a0_3] 64 (0, 0)) (by (with_reducible repeat (first | refine blk_drewN ?_ _ | refine blk_drew ?_ | refine blk_alloc ?_ _)); refine blk_far ?_ NB176_205.out _; (with_reducible repeat (first | refine blk_drewN ?_ _ | refine blk_drew ?_ | refine blk_alloc ?_ _)); refine blk_far ?_ NB176_205.out _; (with_reducible repeat (first | refine blk_drewN ?_ _ | refine blk_drew ?_ | refine blk_alloc ?_ _)); refine blk_far ?_ NB176_205.out _; (with_reducible repeat (first | refine blk_drewN ?_ _ | refine blk_drew ?_ | refine blk_alloc ?_ _)); refine blk_far ?_ NB176_205.out _; (with_reducible repeat (first | refine blk_drewN ?_ _ | refine blk_drew ?_ | refine blk_alloc ?_ _)); exact BK176.out) hb); replace BK177 := Aside0.mk (blk_below (g := gb177) (o := .cells #[.int .i64 a1_0, .int .i64 a1_1, .int .i64 a1_2, .int .i64 a1_3] 64 (0, 0)) (by (with_reducible repeat (first | refine blk_drewN ?_ _ | refine blk_drew ?_ | refine blk_alloc ?_ _)); refine blk_far ?_ NB177_205.out _; (with_reducible repeat (first | refine blk_drewN ?_ _ | refine blk_drew ?_ | refine blk_alloc ?_ _)); refine blk_far ?_ NB177_205.out _; (with_reducible repeat (first | refine blk_drewN ?_ _ | refine blk_drew ?_ | refine blk_alloc ?_ _)); refine blk_far ?_ NB177_205.out _; (with_reducible repeat (first | refine blk_drewN ?_ _ | refine blk_drew ?_ | refine blk_alloc ?_ _)); refine blk_far ?_ NB177_205.out _; (with_reducible repeat (first | refine blk_drewN ?_ _ | refine blk_drew ?_ | refine blk_alloc ?_ _)); exact BK177.out) hb); replace BK191 := Aside0.mk (blk_below (g := gb191) (o := .cells #[.int .i64 t186, .int .i64 t187, .int .i64 t188, .int .i64 t189] 66 (0, 0)) (by (with_reducible repeat (first | refine blk_drewN ?_ _ | refine blk_drew ?_ | refine blk_alloc ?_ _)); refine blk_far ?_ NB191_205.out _; (with_reducible repeat (first | refine blk_drewN ?_ _ | refine blk_drew ?_ | refine blk_alloc ?_ _)); refine blk_far ?_ NB191_205.out _; (with_reducible repeat (first | refine blk_drewN ?_ _ | refine blk_drew ?_ | refine blk_alloc ?_ _)); refine blk_far ?_ NB191_205.out _; (with_reducible repeat (first | refine blk_drewN ?_ _ | refine blk_drew ?_ | refine blk_alloc ?_ _)); refine blk_far ?_ NB191_205.out _; (with_reducible repeat (first | refine blk_drewN ?_ _ | refine blk_drew ?_ | refine blk_alloc ?_ _)); exact BK191.out) hb); replace BK205 := Aside0.mk (blk_below (g := gb205) (o := .cells #[.int .i64 t200, .int .i64 t201, .int .i64 t202, .int .i64 t203] 66 (0, 0)) (by (with_reducible repeat (first | refine blk_drewN ?_ _ | refine blk_drew ?_ | refine blk_alloc ?_ _)); refine blk_put (cs := #[.int .i64 t200, .int .i64 t201, .int .i64 t202, .int .i64 0]) ?_ 3 _ rfl; (with_reducible repeat (first | refine blk_drewN ?_ _ | refine blk_drew ?_ | refine blk_alloc ?_ _)); refine blk_put (cs := #[.int .i64 t200, .int .i64 t201, .int .i64 0, .int .i64 0]) ?_ 2 _ rfl; (with_reducible repeat (first | refine blk_drewN ?_ _ | refine blk_drew ?_ | refine blk_alloc ?_ _)); refine blk_put (cs := #[.int .i64 t200, .int .i64 0, .int .i64 0, .int .i64 0]) ?_ 1 _ rfl; (with_reducible repeat (first | refine blk_drewN ?_ _ | refine blk_drew ?_ | refine blk_alloc ?_ _)); refine blk_put (cs := #[.int .i64 0, .int .i64 0, .int .i64 0, .int .i64 0]) ?_ 0 _ rfl; (with_reducible repeat (first | refine blk_drewN ?_ _ | refine blk_drew ?_ | refine blk_alloc ?_ _)); exact BK205.out) hb); replace HB := Aside0.mk (below_step Hd.b_ hb); (try clear hb); (try clear hb2); (try clear hk); (try clear hi)))
   go_ret
   exact ⟨Hd.e_, Hd.b_⟩
 ·
  replace c10 := Bool.eq_false_iff.mpr c10
  subst c10
  have H1 : (some false) = some r := by rw [if_neg (show ¬ (false = true) by decide)] at H; exact H
  clear H
  have H := H1
  clear H1
  obtain rfl := Option.some.inj H
  go_enter Try.func7, Try.ntmps7
  try go_wp2_with (first | ((with_reducible refine gate_dst (N := 2) rfl ?_); refine Hd.box_ 2 (#[.int .i64 a0_0, .int .i64 a0_1, .int .i64 a0_2, .int .i64 a0_3]) 64 ?_; intro gb176 hg w74 hbox hb; have BK176 := Aside0.mk (hbox); have GW176 := Aside0.mk ((Hd.g_ hg Hd.b_ : w.heap.size ≤ gb176)); have GE176 := Aside0.mk ((Hd.g_ hg Hd.b_ : w.heap.size ≤ gb176)); replace HB := Aside0.mk (below_step Hd.b_ hb); clear hb hbox hg) | ((with_reducible refine gate_dst (N := 3) rfl ?_); refine Hd.box_ 3 (#[.int .i64 a1_0, .int .i64 a1_1, .int .i64 a1_2, .int .i64 a1_3]) 64 ?_; intro gb177 hg w75 hbox hb; have BK177 := Aside0.mk (hbox); have GW177 := Aside0.mk ((Hd.g_ hg Hd.b_ : w.heap.size ≤ gb177)); have GE177 := Aside0.mk ((Hd.g_ hg Hd.b_ : w.heap.size ≤ gb177)); replace HB := Aside0.mk (below_step Hd.b_ hb); have NB176_177 := Aside0.mk ((Hd.lt_ BK176 hg)); have NB177_176 := Aside0.mk ((Hd.gt_ BK176 hg)); replace BK176 := Aside0.mk (Hd.kb_ BK176 hb); clear hb hbox hg))
  replace BK176 := Aside0.mk (blk_drew BK176.out)
  replace BK177 := Aside0.mk (blk_drew BK177.out)
  replace HB := Aside0.mk (below_drew1 HB.out)
  refine start_ (n := 11) (S := fun w' => w'.cell? ⟨gb176, 0, none⟩ = some (.int .i64 a0_0) ∧ w'.cell? ⟨gb176, 1, none⟩ = some (.int .i64 a0_1) ∧ w'.cell? ⟨gb176, 2, none⟩ = some (.int .i64 a0_2) ∧ w'.cell? ⟨gb176, 3, none⟩ = some (.int .i64 a0_3) ∧ w'.cell? ⟨gb177, 0, none⟩ = some (.int .i64 a1_0) ∧ w'.cell? ⟨gb177, 1, none⟩ = some (.int .i64 a1_1) ∧ w'.cell? ⟨gb177, 2, none⟩ = some (.int .i64 a1_2) ∧ w'.cell? ⟨gb177, 3, none⟩ = some (.int .i64 a1_3)) (ds := []) #[false, false, false, false, false, false, false, false, false, false, false] (by kernel_rfl) rfl rfl ⟨(blk_cell BK176.out 0).trans rfl, (blk_cell BK176.out 1).trans rfl, (blk_cell BK176.out 2).trans rfl, (blk_cell BK176.out 3).trans rfl, (blk_cell BK177.out 0).trans rfl, (blk_cell BK177.out 1).trans rfl, (blk_cell BK177.out 2).trans rfl, (blk_cell BK177.out 3).trans rfl⟩ (fun hHeld => ?_); refine with_tabW laws_FnExactJoinBoxes.tab1 laws_FnExactJoinBoxes.bits1 (fun HT_ HW_ => ?_)
  generalize w75.drew = w76 at BK176 BK177 HB hHeld ⊢
  refine Hd.t_ HT_ HW_ hHeld 0 (some 10) #[true, false, false, false, false, false, false, false, false, false, false] ?_
  refine Hd.t_ HT_ HW_ hHeld 2 (some 12) #[true, false, true, false, false, false, false, false, false, false, false] ?_
  refine join_ (σ := Nat) 2 #[true, true, true, true, true, true, true, true, true, false, false] (fun s_ => [(11, .agg #[.int .i64 t178, .int .i64 t179, .int .i64 t180, .int .i64 t181]), (13, .agg #[.int .i64 t182, .int .i64 t183, .int .i64 t184, .int .i64 t185]), (14, .tuple #[.agg #[.int .i64 t186, .int .i64 t187, .int .i64 t188, .int .i64 t189], .bool t190]), (5, .pointer (some ⟨s_, 0, none⟩)), (9, .tuple #[.agg #[.int .i64 t186, .int .i64 t187, .int .i64 t188, .int .i64 t189], .bool t190]), (15, .agg #[.int .i64 t186, .int .i64 t187, .int .i64 t188, .int .i64 t189]), (16, .bool t190)]) (fun s_ w' => (w'.cell? ⟨gb176, 0, none⟩ = some (.int .i64 a0_0) ∧ w'.cell? ⟨gb176, 1, none⟩ = some (.int .i64 a0_1) ∧ w'.cell? ⟨gb176, 2, none⟩ = some (.int .i64 a0_2) ∧ w'.cell? ⟨gb176, 3, none⟩ = some (.int .i64 a0_3) ∧ w'.cell? ⟨gb177, 0, none⟩ = some (.int .i64 a1_0) ∧ w'.cell? ⟨gb177, 1, none⟩ = some (.int .i64 a1_1) ∧ w'.cell? ⟨gb177, 2, none⟩ = some (.int .i64 a1_2) ∧ w'.cell? ⟨gb177, 3, none⟩ = some (.int .i64 a1_3)) ∧ (w'.heap[gb176]? = some (.cells #[.int .i64 a0_0, .int .i64 a0_1, .int .i64 a0_2, .int .i64 a0_3] 64 (0, 0))) ∧ (w'.heap[gb177]? = some (.cells #[.int .i64 a1_0, .int .i64 a1_1, .int .i64 a1_2, .int .i64 a1_3] 64 (0, 0))) ∧ (w'.heap[s_]? = some (.cells #[.int .i64 0, .int .i64 0, .int .i64 0, .int .i64 0] 66 (0, 0))) ∧ (w.heap.size ≤ s_) ∧ (w.heap.size ≤ s_) ∧ (gb176 ≠ s_) ∧ (s_ ≠ gb176) ∧ (gb177 ≠ s_) ∧ (s_ ≠ gb177) ∧ (Below w.heap.size w w')) ?_ ?_
  rotate_left
  ·
   intro hCont
   refine two_ (i := 1) (j := 8) (Ni := some 11) (Nj := some 5) #[true, true, true, false, false, false, false, false, false, false, false] #[true, false, true, false, false, false, false, false, true, false, false] rfl rfl rfl rfl (two_of HT_.out (by kernel_rfl)) (by decide) (by decide) (fun K hK => ?_) (fun K hK => ?_)
   ·
    skip
    refine goes_ Try.func39 (by kernel_rfl) rfl #[.agg #[.int .i64 a0_0, .int .i64 a0_1, .int .i64 a0_2, .int .i64 a0_3]] (by rfl) rfl rfl Hd.m_ ?_
    with_reducible refine (laws_toBox.calls a0_0 a0_1 a0_2 a0_3 t178 t179 t180 t181 _ A3.out).mono ?_
    rintro e w77 ⟨rfl, hb⟩
    refine ⟨_, rfl, ?_⟩
    replace BK176 := Aside0.mk (Hd.kb_ BK176 hb)
    replace BK177 := Aside0.mk (Hd.kb_ BK177 hb)
    replace HB := Aside0.mk (below_step Hd.b_ hb)
    (try clear hb)
    (try clear hb2)
    (try clear hk)
    (try clear hi)
    refine hK.out _ _ ⟨(blk_cell BK176.out 0).trans rfl, (blk_cell BK176.out 1).trans rfl, (blk_cell BK176.out 2).trans rfl, (blk_cell BK176.out 3).trans rfl, (blk_cell BK177.out 0).trans rfl, (blk_cell BK177.out 1).trans rfl, (blk_cell BK177.out 2).trans rfl, (blk_cell BK177.out 3).trans rfl⟩ (fun hHeld => ?_)
    clear hK K
    refine Hd.n_ (some 11) ?_
    refine two_ (i := 3) (j := 8) (Ni := some 13) (Nj := some 5) #[true, true, true, true, false, false, false, false, false, false, false] #[true, true, true, false, false, false, false, false, true, false, false] rfl rfl rfl rfl (two_of HT_.out (by kernel_rfl)) (by decide) (by decide) (fun K hK => ?_) (fun K hK => ?_)
    ·
     skip
     refine goes_ Try.func39 (by kernel_rfl) rfl #[.agg #[.int .i64 a1_0, .int .i64 a1_1, .int .i64 a1_2, .int .i64 a1_3]] (by rfl) rfl rfl Hd.m_ ?_
     with_reducible refine (laws_toBox.calls a1_0 a1_1 a1_2 a1_3 t182 t183 t184 t185 _ A4.out).mono ?_
     rintro e w78 ⟨rfl, hb⟩
     refine ⟨_, rfl, ?_⟩
     replace BK176 := Aside0.mk (Hd.kb_ BK176 hb)
     replace BK177 := Aside0.mk (Hd.kb_ BK177 hb)
     replace HB := Aside0.mk (below_step Hd.b_ hb)
     (try clear hb)
     (try clear hb2)
     (try clear hk)
     (try clear hi)
     refine hK.out _ _ ⟨(blk_cell BK176.out 0).trans rfl, (blk_cell BK176.out 1).trans rfl, (blk_cell BK176.out 2).trans rfl, (blk_cell BK176.out 3).trans rfl, (blk_cell BK177.out 0).trans rfl, (blk_cell BK177.out 1).trans rfl, (blk_cell BK177.out 2).trans rfl, (blk_cell BK177.out 3).trans rfl⟩ (fun hHeld => ?_)
     clear hK K
     refine Hd.n_ (some 13) ?_
     refine two_ (i := 4) (j := 8) (Ni := some 14) (Nj := some 5) #[true, true, true, true, true, false, false, false, false, false, false] #[true, true, true, true, false, false, false, false, true, false, false] rfl rfl rfl rfl (two_of HT_.out (by kernel_rfl)) (by decide) (by decide) (fun K hK => ?_) (fun K hK => ?_)
     ·
      skip
      refine goes_ Try.func38 (by kernel_rfl) rfl #[.agg #[.int .i64 t178, .int .i64 t179, .int .i64 t180, .int .i64 t181], .agg #[.int .i64 t182, .int .i64 t183, .int .i64 t184, .int .i64 t185]] (by rfl) rfl rfl Hd.m_ ?_
      with_reducible refine (spec_JoinBoxes.calls k t178 t179 t180 t181 t182 t183 t184 t185 t186 t187 t188 t189 t190 _ A5.out).mono ?_
      rintro e w79 ⟨rfl, hb⟩
      refine ⟨_, rfl, ?_⟩
      replace BK176 := Aside0.mk (Hd.kb_ BK176 hb)
      replace BK177 := Aside0.mk (Hd.kb_ BK177 hb)
      replace HB := Aside0.mk (below_step Hd.b_ hb)
      (try clear hb)
      (try clear hb2)
      (try clear hk)
      (try clear hi)
      refine hK.out _ _ ⟨(blk_cell BK176.out 0).trans rfl, (blk_cell BK176.out 1).trans rfl, (blk_cell BK176.out 2).trans rfl, (blk_cell BK176.out 3).trans rfl, (blk_cell BK177.out 0).trans rfl, (blk_cell BK177.out 1).trans rfl, (blk_cell BK177.out 2).trans rfl, (blk_cell BK177.out 3).trans rfl⟩ (fun hHeld => ?_)
      clear hK K
      refine Hd.n_ (some 14) ?_
      refine Hd.p_ HT_ 5 (some 9) #[true, true, true, true, true, true, false, false, false, false, false] ?_
      refine Hd.p_ HT_ 6 (some 15) #[true, true, true, true, true, true, true, false, false, false, false] ?_
      refine Hd.p_ HT_ 7 (some 16) #[true, true, true, true, true, true, true, true, false, false, false] ?_
      refine Hd.o_ HT_ 8 (some 5) #[true, true, true, true, true, true, true, true, true, false, false] (fun K hK => ?_)
      refine box_step ?hg (N := 5) ?hd (cs := #[.int .i64 0, .int .i64 0, .int .i64 0, .int .i64 0]) (t := 66) ?hr ?_; (case hd => rfl); (case hg => rfl); (case hr => first | (go_simp; done) | (go_simp; rfl))
      intro gb191 hg w80 hbox hb
      have BK191 := Aside0.mk (hbox)
      have GW191 := Aside0.mk ((Hd.g_ hg Hd.b_ : w.heap.size ≤ gb191))
      have GE191 := Aside0.mk ((Hd.g_ hg Hd.b_ : w.heap.size ≤ gb191))
      replace HB := Aside0.mk (below_step Hd.b_ hb)
      have NB176_191 := Aside0.mk ((Hd.lt_ BK176 hg))
      have NB191_176 := Aside0.mk ((Hd.gt_ BK176 hg))
      replace BK176 := Aside0.mk (Hd.kb_ BK176 hb)
      have NB177_191 := Aside0.mk ((Hd.lt_ BK177 hg))
      have NB191_177 := Aside0.mk ((Hd.gt_ BK177 hg))
      replace BK177 := Aside0.mk (Hd.kb_ BK177 hb)
      clear hb hbox hg
      refine hK.out _ _ ⟨(blk_cell BK176.out 0).trans rfl, (blk_cell BK176.out 1).trans rfl, (blk_cell BK176.out 2).trans rfl, (blk_cell BK176.out 3).trans rfl, (blk_cell BK177.out 0).trans rfl, (blk_cell BK177.out 1).trans rfl, (blk_cell BK177.out 2).trans rfl, (blk_cell BK177.out 3).trans rfl⟩ (fun hHeld => ?_)
      clear hK K
      refine Hd.n_ (some 5) ?_
      exact norm_ (by simp only [putAll, Act.put, List.setIfInBounds_toArray, List.set_cons_zero, List.set_cons_succ]) (hCont (gb191) _ ⟨hHeld, (Hd.k_ BK176), (Hd.k_ BK177), (Hd.k_ BK191), GW191.out, GE191.out, NB176_191.out, NB191_176.out, NB177_191.out, NB191_177.out, Hd.b_⟩)
     ·
      skip
      refine box_step ?hg (N := 5) ?hd (cs := #[.int .i64 0, .int .i64 0, .int .i64 0, .int .i64 0]) (t := 66) ?hr ?_; (case hd => rfl); (case hg => rfl); (case hr => first | (go_simp; done) | (go_simp; rfl))
      intro gb191 hg w79 hbox hb
      have BK191 := Aside0.mk (hbox)
      have GW191 := Aside0.mk ((Hd.g_ hg Hd.b_ : w.heap.size ≤ gb191))
      have GE191 := Aside0.mk ((Hd.g_ hg Hd.b_ : w.heap.size ≤ gb191))
      replace HB := Aside0.mk (below_step Hd.b_ hb)
      have NB176_191 := Aside0.mk ((Hd.lt_ BK176 hg))
      have NB191_176 := Aside0.mk ((Hd.gt_ BK176 hg))
      replace BK176 := Aside0.mk (Hd.kb_ BK176 hb)
      have NB177_191 := Aside0.mk ((Hd.lt_ BK177 hg))
      have NB191_177 := Aside0.mk ((Hd.gt_ BK177 hg))
      replace BK177 := Aside0.mk (Hd.kb_ BK177 hb)
      clear hb hbox hg
      refine hK.out _ _ ⟨(blk_cell BK176.out 0).trans rfl, (blk_cell BK176.out 1).trans rfl, (blk_cell BK176.out 2).trans rfl, (blk_cell BK176.out 3).trans rfl, (blk_cell BK177.out 0).trans rfl, (blk_cell BK177.out 1).trans rfl, (blk_cell BK177.out 2).trans rfl, (blk_cell BK177.out 3).trans rfl⟩ (fun hHeld => ?_)
      clear hK K
      refine Hd.n_ (some 5) ?_
      refine Hd.o_ HT_ 4 (some 14) #[true, true, true, true, true, false, false, false, true, false, false] (fun K hK => ?_)
      refine goes_ Try.func38 (by kernel_rfl) rfl #[.agg #[.int .i64 t178, .int .i64 t179, .int .i64 t180, .int .i64 t181], .agg #[.int .i64 t182, .int .i64 t183, .int .i64 t184, .int .i64 t185]] (by rfl) rfl rfl Hd.m_ ?_
      with_reducible refine (spec_JoinBoxes.calls k t178 t179 t180 t181 t182 t183 t184 t185 t186 t187 t188 t189 t190 _ A5.out).mono ?_
      rintro e w80 ⟨rfl, hb⟩
      refine ⟨_, rfl, ?_⟩
      replace BK176 := Aside0.mk (Hd.kb_ BK176 hb)
      replace BK177 := Aside0.mk (Hd.kb_ BK177 hb)
      replace BK191 := Aside0.mk (Hd.kb_ BK191 hb)
      replace HB := Aside0.mk (below_step Hd.b_ hb)
      (try clear hb)
      (try clear hb2)
      (try clear hk)
      (try clear hi)
      refine hK.out _ _ ⟨(blk_cell BK176.out 0).trans rfl, (blk_cell BK176.out 1).trans rfl, (blk_cell BK176.out 2).trans rfl, (blk_cell BK176.out 3).trans rfl, (blk_cell BK177.out 0).trans rfl, (blk_cell BK177.out 1).trans rfl, (blk_cell BK177.out 2).trans rfl, (blk_cell BK177.out 3).trans rfl⟩ (fun hHeld => ?_)
      clear hK K
      refine Hd.n_ (some 14) ?_
      refine Hd.p_ HT_ 5 (some 9) #[true, true, true, true, true, true, false, false, true, false, false] ?_
      refine Hd.p_ HT_ 6 (some 15) #[true, true, true, true, true, true, true, false, true, false, false] ?_
      refine Hd.p_ HT_ 7 (some 16) #[true, true, true, true, true, true, true, true, true, false, false] ?_
      exact norm_ (by simp only [putAll, Act.put, List.setIfInBounds_toArray, List.set_cons_zero, List.set_cons_succ]) (hCont (gb191) _ ⟨hHeld, (Hd.k_ BK176), (Hd.k_ BK177), (Hd.k_ BK191), GW191.out, GE191.out, NB176_191.out, NB191_176.out, NB177_191.out, NB191_177.out, Hd.b_⟩)
    ·
     skip
     refine box_step ?hg (N := 5) ?hd (cs := #[.int .i64 0, .int .i64 0, .int .i64 0, .int .i64 0]) (t := 66) ?hr ?_; (case hd => rfl); (case hg => rfl); (case hr => first | (go_simp; done) | (go_simp; rfl))
     intro gb191 hg w78 hbox hb
     have BK191 := Aside0.mk (hbox)
     have GW191 := Aside0.mk ((Hd.g_ hg Hd.b_ : w.heap.size ≤ gb191))
     have GE191 := Aside0.mk ((Hd.g_ hg Hd.b_ : w.heap.size ≤ gb191))
     replace HB := Aside0.mk (below_step Hd.b_ hb)
     have NB176_191 := Aside0.mk ((Hd.lt_ BK176 hg))
     have NB191_176 := Aside0.mk ((Hd.gt_ BK176 hg))
     replace BK176 := Aside0.mk (Hd.kb_ BK176 hb)
     have NB177_191 := Aside0.mk ((Hd.lt_ BK177 hg))
     have NB191_177 := Aside0.mk ((Hd.gt_ BK177 hg))
     replace BK177 := Aside0.mk (Hd.kb_ BK177 hb)
     clear hb hbox hg
     refine hK.out _ _ ⟨(blk_cell BK176.out 0).trans rfl, (blk_cell BK176.out 1).trans rfl, (blk_cell BK176.out 2).trans rfl, (blk_cell BK176.out 3).trans rfl, (blk_cell BK177.out 0).trans rfl, (blk_cell BK177.out 1).trans rfl, (blk_cell BK177.out 2).trans rfl, (blk_cell BK177.out 3).trans rfl⟩ (fun hHeld => ?_)
     clear hK K
     refine Hd.n_ (some 5) ?_
     refine Hd.o_ HT_ 3 (some 13) #[true, true, true, true, false, false, false, false, true, false, false] (fun K hK => ?_)
     refine goes_ Try.func39 (by kernel_rfl) rfl #[.agg #[.int .i64 a1_0, .int .i64 a1_1, .int .i64 a1_2, .int .i64 a1_3]] (by rfl) rfl rfl Hd.m_ ?_
     with_reducible refine (laws_toBox.calls a1_0 a1_1 a1_2 a1_3 t182 t183 t184 t185 _ A4.out).mono ?_
     rintro e w79 ⟨rfl, hb⟩
     refine ⟨_, rfl, ?_⟩
     replace BK176 := Aside0.mk (Hd.kb_ BK176 hb)
     replace BK177 := Aside0.mk (Hd.kb_ BK177 hb)
     replace BK191 := Aside0.mk (Hd.kb_ BK191 hb)
     replace HB := Aside0.mk (below_step Hd.b_ hb)
     (try clear hb)
     (try clear hb2)
     (try clear hk)
     (try clear hi)
     refine hK.out _ _ ⟨(blk_cell BK176.out 0).trans rfl, (blk_cell BK176.out 1).trans rfl, (blk_cell BK176.out 2).trans rfl, (blk_cell BK176.out 3).trans rfl, (blk_cell BK177.out 0).trans rfl, (blk_cell BK177.out 1).trans rfl, (blk_cell BK177.out 2).trans rfl, (blk_cell BK177.out 3).trans rfl⟩ (fun hHeld => ?_)
     clear hK K
     refine Hd.n_ (some 13) ?_
     refine Hd.o_ HT_ 4 (some 14) #[true, true, true, true, true, false, false, false, true, false, false] (fun K hK => ?_)
     refine goes_ Try.func38 (by kernel_rfl) rfl #[.agg #[.int .i64 t178, .int .i64 t179, .int .i64 t180, .int .i64 t181], .agg #[.int .i64 t182, .int .i64 t183, .int .i64 t184, .int .i64 t185]] (by rfl) rfl rfl Hd.m_ ?_
     with_reducible refine (spec_JoinBoxes.calls k t178 t179 t180 t181 t182 t183 t184 t185 t186 t187 t188 t189 t190 _ A5.out).mono ?_
     rintro e w80 ⟨rfl, hb⟩
     refine ⟨_, rfl, ?_⟩
     replace BK176 := Aside0.mk (Hd.kb_ BK176 hb)
     replace BK177 := Aside0.mk (Hd.kb_ BK177 hb)
     replace BK191 := Aside0.mk (Hd.kb_ BK191 hb)
     replace HB := Aside0.mk (below_step Hd.b_ hb)
     (try clear hb)
     (try clear hb2)
     (try clear hk)
     (try clear hi)
     refine hK.out _ _ ⟨(blk_cell BK176.out 0).trans rfl, (blk_cell BK176.out 1).trans rfl, (blk_cell BK176.out 2).trans rfl, (blk_cell BK176.out 3).trans rfl, (blk_cell BK177.out 0).trans rfl, (blk_cell BK177.out 1).trans rfl, (blk_cell BK177.out 2).trans rfl, (blk_cell BK177.out 3).trans rfl⟩ (fun hHeld => ?_)
     clear hK K
     refine Hd.n_ (some 14) ?_
     refine Hd.p_ HT_ 5 (some 9) #[true, true, true, true, true, true, false, false, true, false, false] ?_
     refine Hd.p_ HT_ 6 (some 15) #[true, true, true, true, true, true, true, false, true, false, false] ?_
     refine Hd.p_ HT_ 7 (some 16) #[true, true, true, true, true, true, true, true, true, false, false] ?_
     exact norm_ (by simp only [putAll, Act.put, List.setIfInBounds_toArray, List.set_cons_zero, List.set_cons_succ]) (hCont (gb191) _ ⟨hHeld, (Hd.k_ BK176), (Hd.k_ BK177), (Hd.k_ BK191), GW191.out, GE191.out, NB176_191.out, NB191_176.out, NB177_191.out, NB191_177.out, Hd.b_⟩)
   ·
    skip
    refine box_step ?hg (N := 5) ?hd (cs := #[.int .i64 0, .int .i64 0, .int .i64 0, .int .i64 0]) (t := 66) ?hr ?_; (case hd => rfl); (case hg => rfl); (case hr => first | (go_simp; done) | (go_simp; rfl))
    intro gb191 hg w77 hbox hb
    have BK191 := Aside0.mk (hbox)
    have GW191 := Aside0.mk ((Hd.g_ hg Hd.b_ : w.heap.size ≤ gb191))
    have GE191 := Aside0.mk ((Hd.g_ hg Hd.b_ : w.heap.size ≤ gb191))
    replace HB := Aside0.mk (below_step Hd.b_ hb)
    have NB176_191 := Aside0.mk ((Hd.lt_ BK176 hg))
    have NB191_176 := Aside0.mk ((Hd.gt_ BK176 hg))
    replace BK176 := Aside0.mk (Hd.kb_ BK176 hb)
    have NB177_191 := Aside0.mk ((Hd.lt_ BK177 hg))
    have NB191_177 := Aside0.mk ((Hd.gt_ BK177 hg))
    replace BK177 := Aside0.mk (Hd.kb_ BK177 hb)
    clear hb hbox hg
    refine hK.out _ _ ⟨(blk_cell BK176.out 0).trans rfl, (blk_cell BK176.out 1).trans rfl, (blk_cell BK176.out 2).trans rfl, (blk_cell BK176.out 3).trans rfl, (blk_cell BK177.out 0).trans rfl, (blk_cell BK177.out 1).trans rfl, (blk_cell BK177.out 2).trans rfl, (blk_cell BK177.out 3).trans rfl⟩ (fun hHeld => ?_)
    clear hK K
    refine Hd.n_ (some 5) ?_
    refine Hd.o_ HT_ 1 (some 11) #[true, true, true, false, false, false, false, false, true, false, false] (fun K hK => ?_)
    refine goes_ Try.func39 (by kernel_rfl) rfl #[.agg #[.int .i64 a0_0, .int .i64 a0_1, .int .i64 a0_2, .int .i64 a0_3]] (by rfl) rfl rfl Hd.m_ ?_
    with_reducible refine (laws_toBox.calls a0_0 a0_1 a0_2 a0_3 t178 t179 t180 t181 _ A3.out).mono ?_
    rintro e w78 ⟨rfl, hb⟩
    refine ⟨_, rfl, ?_⟩
    replace BK176 := Aside0.mk (Hd.kb_ BK176 hb)
    replace BK177 := Aside0.mk (Hd.kb_ BK177 hb)
    replace BK191 := Aside0.mk (Hd.kb_ BK191 hb)
    replace HB := Aside0.mk (below_step Hd.b_ hb)
    (try clear hb)
    (try clear hb2)
    (try clear hk)
    (try clear hi)
    refine hK.out _ _ ⟨(blk_cell BK176.out 0).trans rfl, (blk_cell BK176.out 1).trans rfl, (blk_cell BK176.out 2).trans rfl, (blk_cell BK176.out 3).trans rfl, (blk_cell BK177.out 0).trans rfl, (blk_cell BK177.out 1).trans rfl, (blk_cell BK177.out 2).trans rfl, (blk_cell BK177.out 3).trans rfl⟩ (fun hHeld => ?_)
    clear hK K
    refine Hd.n_ (some 11) ?_
    refine Hd.o_ HT_ 3 (some 13) #[true, true, true, true, false, false, false, false, true, false, false] (fun K hK => ?_)
    refine goes_ Try.func39 (by kernel_rfl) rfl #[.agg #[.int .i64 a1_0, .int .i64 a1_1, .int .i64 a1_2, .int .i64 a1_3]] (by rfl) rfl rfl Hd.m_ ?_
    with_reducible refine (laws_toBox.calls a1_0 a1_1 a1_2 a1_3 t182 t183 t184 t185 _ A4.out).mono ?_
    rintro e w79 ⟨rfl, hb⟩
    refine ⟨_, rfl, ?_⟩
    replace BK176 := Aside0.mk (Hd.kb_ BK176 hb)
    replace BK177 := Aside0.mk (Hd.kb_ BK177 hb)
    replace BK191 := Aside0.mk (Hd.kb_ BK191 hb)
    replace HB := Aside0.mk (below_step Hd.b_ hb)
    (try clear hb)
    (try clear hb2)
    (try clear hk)
    (try clear hi)
    refine hK.out _ _ ⟨(blk_cell BK176.out 0).trans rfl, (blk_cell BK176.out 1).trans rfl, (blk_cell BK176.out 2).trans rfl, (blk_cell BK176.out 3).trans rfl, (blk_cell BK177.out 0).trans rfl, (blk_cell BK177.out 1).trans rfl, (blk_cell BK177.out 2).trans rfl, (blk_cell BK177.out 3).trans rfl⟩ (fun hHeld => ?_)
    clear hK K
    refine Hd.n_ (some 13) ?_
    refine Hd.o_ HT_ 4 (some 14) #[true, true, true, true, true, false, false, false, true, false, false] (fun K hK => ?_)
    refine goes_ Try.func38 (by kernel_rfl) rfl #[.agg #[.int .i64 t178, .int .i64 t179, .int .i64 t180, .int .i64 t181], .agg #[.int .i64 t182, .int .i64 t183, .int .i64 t184, .int .i64 t185]] (by rfl) rfl rfl Hd.m_ ?_
    with_reducible refine (spec_JoinBoxes.calls k t178 t179 t180 t181 t182 t183 t184 t185 t186 t187 t188 t189 t190 _ A5.out).mono ?_
    rintro e w80 ⟨rfl, hb⟩
    refine ⟨_, rfl, ?_⟩
    replace BK176 := Aside0.mk (Hd.kb_ BK176 hb)
    replace BK177 := Aside0.mk (Hd.kb_ BK177 hb)
    replace BK191 := Aside0.mk (Hd.kb_ BK191 hb)
    replace HB := Aside0.mk (below_step Hd.b_ hb)
    (try clear hb)
    (try clear hb2)
    (try clear hk)
    (try clear hi)
    refine hK.out _ _ ⟨(blk_cell BK176.out 0).trans rfl, (blk_cell BK176.out 1).trans rfl, (blk_cell BK176.out 2).trans rfl, (blk_cell BK176.out 3).trans rfl, (blk_cell BK177.out 0).trans rfl, (blk_cell BK177.out 1).trans rfl, (blk_cell BK177.out 2).trans rfl, (blk_cell BK177.out 3).trans rfl⟩ (fun hHeld => ?_)
    clear hK K
    refine Hd.n_ (some 14) ?_
    refine Hd.p_ HT_ 5 (some 9) #[true, true, true, true, true, true, false, false, true, false, false] ?_
    refine Hd.p_ HT_ 6 (some 15) #[true, true, true, true, true, true, true, false, true, false, false] ?_
    refine Hd.p_ HT_ 7 (some 16) #[true, true, true, true, true, true, true, true, true, false, false] ?_
    exact norm_ (by simp only [putAll, Act.put, List.setIfInBounds_toArray, List.set_cons_zero, List.set_cons_succ]) (hCont (gb191) _ ⟨hHeld, (Hd.k_ BK176), (Hd.k_ BK177), (Hd.k_ BK191), GW191.out, GE191.out, NB176_191.out, NB191_176.out, NB177_191.out, NB191_177.out, Hd.b_⟩)
  rintro gb191 w81 ⟨hS_, h0_, h1_, h2_, h3_, h4_, h5_, h6_, h7_, h8_, h9_⟩
  have n0_ : Aside0 (w81.heap[gb176]? = some (.cells #[.int .i64 a0_0, .int .i64 a0_1, .int .i64 a0_2, .int .i64 a0_3] 64 (0, 0))) := ⟨h0_⟩
  have n1_ : Aside0 (w81.heap[gb177]? = some (.cells #[.int .i64 a1_0, .int .i64 a1_1, .int .i64 a1_2, .int .i64 a1_3] 64 (0, 0))) := ⟨h1_⟩
  have n2_ : Aside0 (w81.heap[gb191]? = some (.cells #[.int .i64 0, .int .i64 0, .int .i64 0, .int .i64 0] 66 (0, 0))) := ⟨h2_⟩
  have n3_ : Aside0 (w.heap.size ≤ gb191) := ⟨h3_⟩
  have n4_ : Aside0 (w.heap.size ≤ gb191) := ⟨h4_⟩
  have n5_ : Aside0 (gb176 ≠ gb191) := ⟨h5_⟩
  have n6_ : Aside0 (gb191 ≠ gb176) := ⟨h6_⟩
  have n7_ : Aside0 (gb177 ≠ gb191) := ⟨h7_⟩
  have n8_ : Aside0 (gb191 ≠ gb177) := ⟨h8_⟩
  have n9_ : Aside0 (Below w.heap.size w w81) := ⟨h9_⟩
  clear BK176
  clear BK177
  clear HB
  clear h0_ h1_ h2_ h3_ h4_ h5_ h6_ h7_ h8_ h9_
  have BK176 := n0_
  have BK177 := n1_
  have BK191 := n2_
  have GW191 := n3_
  have GE191 := n4_
  have NB176_191 := n5_
  have NB191_176 := n6_
  have NB177_191 := n7_
  have NB191_177 := n8_
  have HB := n9_
  clear n0_ n1_ n2_ n3_ n4_ n5_ n6_ n7_ n8_ n9_
  have hHeld : w81.cell? ⟨gb176, 0, none⟩ = some (.int .i64 a0_0) ∧ w81.cell? ⟨gb176, 1, none⟩ = some (.int .i64 a0_1) ∧ w81.cell? ⟨gb176, 2, none⟩ = some (.int .i64 a0_2) ∧ w81.cell? ⟨gb176, 3, none⟩ = some (.int .i64 a0_3) ∧ w81.cell? ⟨gb177, 0, none⟩ = some (.int .i64 a1_0) ∧ w81.cell? ⟨gb177, 1, none⟩ = some (.int .i64 a1_1) ∧ w81.cell? ⟨gb177, 2, none⟩ = some (.int .i64 a1_2) ∧ w81.cell? ⟨gb177, 3, none⟩ = some (.int .i64 a1_3) := hS_
  refine norm_ (a' := ?_) ?_ ?_
  rotate_left
  ·
   simp only [putAll, Act.put, List.setIfInBounds_toArray, List.set_cons_zero, List.set_cons_succ]
   rfl
  refine Hd.o_ HT_ 9 (none) #[true, true, true, true, true, true, true, true, true, true, false] (fun K hK => ?_)
  have hs82 : w81.cell? ⟨gb191, 0, none⟩ = some (.int .i64 0) := (blk_cell BK191.out 0).trans rfl
  have hfs82 := blk_frozen BK191.out 0
  have hns82_0 := NB176_191.out
  have hns82_1 := NB177_191.out
  have hms82_0 := NB191_176.out
  have hms82_1 := NB191_177.out
  have hs83 : w81.cell? ⟨gb191, 1, none⟩ = some (.int .i64 0) := (blk_cell BK191.out 1).trans rfl
  have hfs83 := blk_frozen BK191.out 1
  have hns83_0 := NB176_191.out
  have hns83_1 := NB177_191.out
  have hms83_0 := NB191_176.out
  have hms83_1 := NB191_177.out
  have hs84 : w81.cell? ⟨gb191, 2, none⟩ = some (.int .i64 0) := (blk_cell BK191.out 2).trans rfl
  have hfs84 := blk_frozen BK191.out 2
  have hns84_0 := NB176_191.out
  have hns84_1 := NB177_191.out
  have hms84_0 := NB191_176.out
  have hms84_1 := NB191_177.out
  have hs85 : w81.cell? ⟨gb191, 3, none⟩ = some (.int .i64 0) := (blk_cell BK191.out 3).trans rfl
  have hfs85 := blk_frozen BK191.out 3
  have hns85_0 := NB176_191.out
  have hns85_1 := NB177_191.out
  have hms85_0 := NB191_176.out
  have hms85_1 := NB191_177.out
  refine skip_ (w1 := ?_) (by rfl) rfl ?_ ?_
  rotate_left
  ·
   go_simp
   rfl
  refine hK.out _ _ ⟨((cell_far (p := ⟨gb191, _, none⟩) NB176_191.out _).trans (((cell_far (p := ⟨gb191, _, none⟩) NB176_191.out _).trans (((cell_far (p := ⟨gb191, _, none⟩) NB176_191.out _).trans (((cell_far (p := ⟨gb191, _, none⟩) NB176_191.out _).trans (hHeld.1)))))))), ((cell_far (p := ⟨gb191, _, none⟩) NB176_191.out _).trans (((cell_far (p := ⟨gb191, _, none⟩) NB176_191.out _).trans (((cell_far (p := ⟨gb191, _, none⟩) NB176_191.out _).trans (((cell_far (p := ⟨gb191, _, none⟩) NB176_191.out _).trans (hHeld.2.1)))))))), ((cell_far (p := ⟨gb191, _, none⟩) NB176_191.out _).trans (((cell_far (p := ⟨gb191, _, none⟩) NB176_191.out _).trans (((cell_far (p := ⟨gb191, _, none⟩) NB176_191.out _).trans (((cell_far (p := ⟨gb191, _, none⟩) NB176_191.out _).trans (hHeld.2.2.1)))))))), ((cell_far (p := ⟨gb191, _, none⟩) NB176_191.out _).trans (((cell_far (p := ⟨gb191, _, none⟩) NB176_191.out _).trans (((cell_far (p := ⟨gb191, _, none⟩) NB176_191.out _).trans (((cell_far (p := ⟨gb191, _, none⟩) NB176_191.out _).trans (hHeld.2.2.2.1)))))))), ((cell_far (p := ⟨gb191, _, none⟩) NB177_191.out _).trans (((cell_far (p := ⟨gb191, _, none⟩) NB177_191.out _).trans (((cell_far (p := ⟨gb191, _, none⟩) NB177_191.out _).trans (((cell_far (p := ⟨gb191, _, none⟩) NB177_191.out _).trans (hHeld.2.2.2.2.1)))))))), ((cell_far (p := ⟨gb191, _, none⟩) NB177_191.out _).trans (((cell_far (p := ⟨gb191, _, none⟩) NB177_191.out _).trans (((cell_far (p := ⟨gb191, _, none⟩) NB177_191.out _).trans (((cell_far (p := ⟨gb191, _, none⟩) NB177_191.out _).trans (hHeld.2.2.2.2.2.1)))))))), ((cell_far (p := ⟨gb191, _, none⟩) NB177_191.out _).trans (((cell_far (p := ⟨gb191, _, none⟩) NB177_191.out _).trans (((cell_far (p := ⟨gb191, _, none⟩) NB177_191.out _).trans (((cell_far (p := ⟨gb191, _, none⟩) NB177_191.out _).trans (hHeld.2.2.2.2.2.2.1)))))))), ((cell_far (p := ⟨gb191, _, none⟩) NB177_191.out _).trans (((cell_far (p := ⟨gb191, _, none⟩) NB177_191.out _).trans (((cell_far (p := ⟨gb191, _, none⟩) NB177_191.out _).trans (((cell_far (p := ⟨gb191, _, none⟩) NB177_191.out _).trans (hHeld.2.2.2.2.2.2.2))))))))⟩ (fun hHeld => ?_)
  clear hK K
  refine Hd.p_ HT_ 10 (some 6) #[true, true, true, true, true, true, true, true, true, true, true] ?_
  refine done_ (done_of HT_.out (by kernel_rfl)) ?_
  try go_wp2
  have n0_ : Aside0 (((((w81.setCell ⟨gb191, 0, none⟩ (.int .i64 t186)).setCell ⟨gb191, 1, none⟩ (.int .i64 t187)).setCell ⟨gb191, 2, none⟩ (.int .i64 t188)).setCell ⟨gb191, 3, none⟩ (.int .i64 t189)).heap[gb176]? = some (.cells #[.int .i64 a0_0, .int .i64 a0_1, .int .i64 a0_2, .int .i64 a0_3] 64 (0, 0))) := ⟨by (with_reducible repeat (first | refine blk_drewN ?_ _ | refine blk_drew ?_ | refine blk_alloc ?_ _)); refine blk_far ?_ NB176_191.out _; (with_reducible repeat (first | refine blk_drewN ?_ _ | refine blk_drew ?_ | refine blk_alloc ?_ _)); refine blk_far ?_ NB176_191.out _; (with_reducible repeat (first | refine blk_drewN ?_ _ | refine blk_drew ?_ | refine blk_alloc ?_ _)); refine blk_far ?_ NB176_191.out _; (with_reducible repeat (first | refine blk_drewN ?_ _ | refine blk_drew ?_ | refine blk_alloc ?_ _)); refine blk_far ?_ NB176_191.out _; (with_reducible repeat (first | refine blk_drewN ?_ _ | refine blk_drew ?_ | refine blk_alloc ?_ _)); exact BK176.out⟩
  have n1_ : Aside0 (((((w81.setCell ⟨gb191, 0, none⟩ (.int .i64 t186)).setCell ⟨gb191, 1, none⟩ (.int .i64 t187)).setCell ⟨gb191, 2, none⟩ (.int .i64 t188)).setCell ⟨gb191, 3, none⟩ (.int .i64 t189)).heap[gb177]? = some (.cells #[.int .i64 a1_0, .int .i64 a1_1, .int .i64 a1_2, .int .i64 a1_3] 64 (0, 0))) := ⟨by (with_reducible repeat (first | refine blk_drewN ?_ _ | refine blk_drew ?_ | refine blk_alloc ?_ _)); refine blk_far ?_ NB177_191.out _; (with_reducible repeat (first | refine blk_drewN ?_ _ | refine blk_drew ?_ | refine blk_alloc ?_ _)); refine blk_far ?_ NB177_191.out _; (with_reducible repeat (first | refine blk_drewN ?_ _ | refine blk_drew ?_ | refine blk_alloc ?_ _)); refine blk_far ?_ NB177_191.out _; (with_reducible repeat (first | refine blk_drewN ?_ _ | refine blk_drew ?_ | refine blk_alloc ?_ _)); refine blk_far ?_ NB177_191.out _; (with_reducible repeat (first | refine blk_drewN ?_ _ | refine blk_drew ?_ | refine blk_alloc ?_ _)); exact BK177.out⟩
  have n2_ : Aside0 (((((w81.setCell ⟨gb191, 0, none⟩ (.int .i64 t186)).setCell ⟨gb191, 1, none⟩ (.int .i64 t187)).setCell ⟨gb191, 2, none⟩ (.int .i64 t188)).setCell ⟨gb191, 3, none⟩ (.int .i64 t189)).heap[gb191]? = some (.cells #[.int .i64 t186, .int .i64 t187, .int .i64 t188, .int .i64 t189] 66 (0, 0))) := ⟨by (with_reducible repeat (first | refine blk_drewN ?_ _ | refine blk_drew ?_ | refine blk_alloc ?_ _)); refine blk_put (cs := #[.int .i64 t186, .int .i64 t187, .int .i64 t188, .int .i64 0]) ?_ 3 _ rfl; (with_reducible repeat (first | refine blk_drewN ?_ _ | refine blk_drew ?_ | refine blk_alloc ?_ _)); refine blk_put (cs := #[.int .i64 t186, .int .i64 t187, .int .i64 0, .int .i64 0]) ?_ 2 _ rfl; (with_reducible repeat (first | refine blk_drewN ?_ _ | refine blk_drew ?_ | refine blk_alloc ?_ _)); refine blk_put (cs := #[.int .i64 t186, .int .i64 0, .int .i64 0, .int .i64 0]) ?_ 1 _ rfl; (with_reducible repeat (first | refine blk_drewN ?_ _ | refine blk_drew ?_ | refine blk_alloc ?_ _)); refine blk_put (cs := #[.int .i64 0, .int .i64 0, .int .i64 0, .int .i64 0]) ?_ 0 _ rfl; (with_reducible repeat (first | refine blk_drewN ?_ _ | refine blk_drew ?_ | refine blk_alloc ?_ _)); exact BK191.out⟩
  have n3_ : Aside0 (Below w.heap.size w ((((w81.setCell ⟨gb191, 0, none⟩ (.int .i64 t186)).setCell ⟨gb191, 1, none⟩ (.int .i64 t187)).setCell ⟨gb191, 2, none⟩ (.int .i64 t188)).setCell ⟨gb191, 3, none⟩ (.int .i64 t189))) := ⟨Hd.b_⟩
  (try clear BK176)
  (try clear BK177)
  (try clear BK191)
  (try clear HB)
  generalize ((((w81.setCell ⟨gb191, 0, none⟩ (.int .i64 t186)).setCell ⟨gb191, 1, none⟩ (.int .i64 t187)).setCell ⟨gb191, 2, none⟩ (.int .i64 t188)).setCell ⟨gb191, 3, none⟩ (.int .i64 t189)) = w86 at n0_ n1_ n2_ n3_ ⊢
  have BK176 := n0_
  have BK177 := n1_
  have BK191 := n2_
  have HB := n3_
  clear n0_ n1_ n2_ n3_
  replace BK176 := Aside0.mk (blk_drew BK176.out)
  replace BK177 := Aside0.mk (blk_drew BK177.out)
  replace BK191 := Aside0.mk (blk_drew BK191.out)
  replace HB := Aside0.mk (below_drew1 HB.out)
  refine start_ (n := 11) (S := fun w' => w'.cell? ⟨gb176, 0, none⟩ = some (.int .i64 a0_0) ∧ w'.cell? ⟨gb176, 1, none⟩ = some (.int .i64 a0_1) ∧ w'.cell? ⟨gb176, 2, none⟩ = some (.int .i64 a0_2) ∧ w'.cell? ⟨gb176, 3, none⟩ = some (.int .i64 a0_3) ∧ w'.cell? ⟨gb177, 0, none⟩ = some (.int .i64 a1_0) ∧ w'.cell? ⟨gb177, 1, none⟩ = some (.int .i64 a1_1) ∧ w'.cell? ⟨gb177, 2, none⟩ = some (.int .i64 a1_2) ∧ w'.cell? ⟨gb177, 3, none⟩ = some (.int .i64 a1_3)) (ds := []) #[false, false, false, false, false, false, false, false, false, false, false] (by kernel_rfl) rfl rfl ⟨(blk_cell BK176.out 0).trans rfl, (blk_cell BK176.out 1).trans rfl, (blk_cell BK176.out 2).trans rfl, (blk_cell BK176.out 3).trans rfl, (blk_cell BK177.out 0).trans rfl, (blk_cell BK177.out 1).trans rfl, (blk_cell BK177.out 2).trans rfl, (blk_cell BK177.out 3).trans rfl⟩ (fun hHeld => ?_); refine with_tabW laws_FnExactJoinBoxes.tab2 laws_FnExactJoinBoxes.bits2 (fun HT_ HW_ => ?_)
  generalize w86.drew = w87 at BK176 BK177 BK191 HB hHeld ⊢
  refine Hd.t_ HT_ HW_ hHeld 0 (some 18) #[true, false, false, false, false, false, false, false, false, false, false] ?_
  refine Hd.t_ HT_ HW_ hHeld 2 (some 20) #[true, false, true, false, false, false, false, false, false, false, false] ?_
  refine join_ (σ := Nat) 2 #[true, true, true, true, true, true, true, true, true, false, false] (fun s_ => [(19, .agg #[.int .i64 t192, .int .i64 t193, .int .i64 t194, .int .i64 t195]), (21, .agg #[.int .i64 t196, .int .i64 t197, .int .i64 t198, .int .i64 t199]), (22, .tuple #[.agg #[.int .i64 t200, .int .i64 t201, .int .i64 t202, .int .i64 t203], .bool t204]), (7, .pointer (some ⟨s_, 0, none⟩)), (17, .tuple #[.agg #[.int .i64 t200, .int .i64 t201, .int .i64 t202, .int .i64 t203], .bool t204]), (23, .agg #[.int .i64 t200, .int .i64 t201, .int .i64 t202, .int .i64 t203]), (24, .bool t204)]) (fun s_ w' => (w'.cell? ⟨gb176, 0, none⟩ = some (.int .i64 a0_0) ∧ w'.cell? ⟨gb176, 1, none⟩ = some (.int .i64 a0_1) ∧ w'.cell? ⟨gb176, 2, none⟩ = some (.int .i64 a0_2) ∧ w'.cell? ⟨gb176, 3, none⟩ = some (.int .i64 a0_3) ∧ w'.cell? ⟨gb177, 0, none⟩ = some (.int .i64 a1_0) ∧ w'.cell? ⟨gb177, 1, none⟩ = some (.int .i64 a1_1) ∧ w'.cell? ⟨gb177, 2, none⟩ = some (.int .i64 a1_2) ∧ w'.cell? ⟨gb177, 3, none⟩ = some (.int .i64 a1_3)) ∧ (w'.heap[gb176]? = some (.cells #[.int .i64 a0_0, .int .i64 a0_1, .int .i64 a0_2, .int .i64 a0_3] 64 (0, 0))) ∧ (w'.heap[gb177]? = some (.cells #[.int .i64 a1_0, .int .i64 a1_1, .int .i64 a1_2, .int .i64 a1_3] 64 (0, 0))) ∧ (w'.heap[gb191]? = some (.cells #[.int .i64 t186, .int .i64 t187, .int .i64 t188, .int .i64 t189] 66 (0, 0))) ∧ (w'.heap[s_]? = some (.cells #[.int .i64 0, .int .i64 0, .int .i64 0, .int .i64 0] 66 (0, 0))) ∧ (w.heap.size ≤ s_) ∧ (w.heap.size ≤ s_) ∧ (gb176 ≠ s_) ∧ (s_ ≠ gb176) ∧ (gb177 ≠ s_) ∧ (s_ ≠ gb177) ∧ (gb191 ≠ s_) ∧ (s_ ≠ gb191) ∧ (Below w.heap.size w w')) ?_ ?_
  rotate_left
  ·
   intro hCont
   refine two_ (i := 1) (j := 8) (Ni := some 19) (Nj := some 7) #[true, true, true, false, false, false, false, false, false, false, false] #[true, false, true, false, false, false, false, false, true, false, false] rfl rfl rfl rfl (two_of HT_.out (by kernel_rfl)) (by decide) (by decide) (fun K hK => ?_) (fun K hK => ?_)
   ·
    skip
    refine goes_ Try.func39 (by kernel_rfl) rfl #[.agg #[.int .i64 a0_0, .int .i64 a0_1, .int .i64 a0_2, .int .i64 a0_3]] (by rfl) rfl rfl Hd.m_ ?_
    with_reducible refine (laws_toBox.calls a0_0 a0_1 a0_2 a0_3 t192 t193 t194 t195 _ A6.out).mono ?_
    rintro e w88 ⟨rfl, hb⟩
    refine ⟨_, rfl, ?_⟩
    replace BK176 := Aside0.mk (Hd.kb_ BK176 hb)
    replace BK177 := Aside0.mk (Hd.kb_ BK177 hb)
    replace BK191 := Aside0.mk (Hd.kb_ BK191 hb)
    replace HB := Aside0.mk (below_step Hd.b_ hb)
    (try clear hb)
    (try clear hb2)
    (try clear hk)
    (try clear hi)
    refine hK.out _ _ ⟨(blk_cell BK176.out 0).trans rfl, (blk_cell BK176.out 1).trans rfl, (blk_cell BK176.out 2).trans rfl, (blk_cell BK176.out 3).trans rfl, (blk_cell BK177.out 0).trans rfl, (blk_cell BK177.out 1).trans rfl, (blk_cell BK177.out 2).trans rfl, (blk_cell BK177.out 3).trans rfl⟩ (fun hHeld => ?_)
    clear hK K
    refine Hd.n_ (some 19) ?_
    refine two_ (i := 3) (j := 8) (Ni := some 21) (Nj := some 7) #[true, true, true, true, false, false, false, false, false, false, false] #[true, true, true, false, false, false, false, false, true, false, false] rfl rfl rfl rfl (two_of HT_.out (by kernel_rfl)) (by decide) (by decide) (fun K hK => ?_) (fun K hK => ?_)
    ·
     skip
     refine goes_ Try.func39 (by kernel_rfl) rfl #[.agg #[.int .i64 a1_0, .int .i64 a1_1, .int .i64 a1_2, .int .i64 a1_3]] (by rfl) rfl rfl Hd.m_ ?_
     with_reducible refine (laws_toBox.calls a1_0 a1_1 a1_2 a1_3 t196 t197 t198 t199 _ A7.out).mono ?_
     rintro e w89 ⟨rfl, hb⟩
     refine ⟨_, rfl, ?_⟩
     replace BK176 := Aside0.mk (Hd.kb_ BK176 hb)
     replace BK177 := Aside0.mk (Hd.kb_ BK177 hb)
     replace BK191 := Aside0.mk (Hd.kb_ BK191 hb)
     replace HB := Aside0.mk (below_step Hd.b_ hb)
     (try clear hb)
     (try clear hb2)
     (try clear hk)
     (try clear hi)
     refine hK.out _ _ ⟨(blk_cell BK176.out 0).trans rfl, (blk_cell BK176.out 1).trans rfl, (blk_cell BK176.out 2).trans rfl, (blk_cell BK176.out 3).trans rfl, (blk_cell BK177.out 0).trans rfl, (blk_cell BK177.out 1).trans rfl, (blk_cell BK177.out 2).trans rfl, (blk_cell BK177.out 3).trans rfl⟩ (fun hHeld => ?_)
     clear hK K
     refine Hd.n_ (some 21) ?_
     refine two_ (i := 4) (j := 8) (Ni := some 22) (Nj := some 7) #[true, true, true, true, true, false, false, false, false, false, false] #[true, true, true, true, false, false, false, false, true, false, false] rfl rfl rfl rfl (two_of HT_.out (by kernel_rfl)) (by decide) (by decide) (fun K hK => ?_) (fun K hK => ?_)
     ·
      skip
      refine goes_ Try.func40 (by kernel_rfl) rfl #[.agg #[.int .i64 t192, .int .i64 t193, .int .i64 t194, .int .i64 t195], .agg #[.int .i64 t196, .int .i64 t197, .int .i64 t198, .int .i64 t199]] (by rfl) rfl rfl Hd.m_ ?_
      with_reducible refine (impl_JoinBoxes.calls k t192 t193 t194 t195 t196 t197 t198 t199 t200 t201 t202 t203 t204 _ A8.out).mono ?_
      rintro e w90 ⟨rfl, hb⟩
      refine ⟨_, rfl, ?_⟩
      replace BK176 := Aside0.mk (Hd.kb_ BK176 hb)
      replace BK177 := Aside0.mk (Hd.kb_ BK177 hb)
      replace BK191 := Aside0.mk (Hd.kb_ BK191 hb)
      replace HB := Aside0.mk (below_step Hd.b_ hb)
      (try clear hb)
      (try clear hb2)
      (try clear hk)
      (try clear hi)
      refine hK.out _ _ ⟨(blk_cell BK176.out 0).trans rfl, (blk_cell BK176.out 1).trans rfl, (blk_cell BK176.out 2).trans rfl, (blk_cell BK176.out 3).trans rfl, (blk_cell BK177.out 0).trans rfl, (blk_cell BK177.out 1).trans rfl, (blk_cell BK177.out 2).trans rfl, (blk_cell BK177.out 3).trans rfl⟩ (fun hHeld => ?_)
      clear hK K
      refine Hd.n_ (some 22) ?_
      refine Hd.p_ HT_ 5 (some 17) #[true, true, true, true, true, true, false, false, false, false, false] ?_
      refine Hd.p_ HT_ 6 (some 23) #[true, true, true, true, true, true, true, false, false, false, false] ?_
      refine Hd.p_ HT_ 7 (some 24) #[true, true, true, true, true, true, true, true, false, false, false] ?_
      refine Hd.o_ HT_ 8 (some 7) #[true, true, true, true, true, true, true, true, true, false, false] (fun K hK => ?_)
      refine box_step ?hg (N := 7) ?hd (cs := #[.int .i64 0, .int .i64 0, .int .i64 0, .int .i64 0]) (t := 66) ?hr ?_; (case hd => rfl); (case hg => rfl); (case hr => first | (go_simp; done) | (go_simp; rfl))
      intro gb205 hg w91 hbox hb
      have BK205 := Aside0.mk (hbox)
      have GW205 := Aside0.mk ((Hd.g_ hg Hd.b_ : w.heap.size ≤ gb205))
      have GE205 := Aside0.mk ((Hd.g_ hg Hd.b_ : w.heap.size ≤ gb205))
      replace HB := Aside0.mk (below_step Hd.b_ hb)
      have NB176_205 := Aside0.mk ((Hd.lt_ BK176 hg))
      have NB205_176 := Aside0.mk ((Hd.gt_ BK176 hg))
      replace BK176 := Aside0.mk (Hd.kb_ BK176 hb)
      have NB177_205 := Aside0.mk ((Hd.lt_ BK177 hg))
      have NB205_177 := Aside0.mk ((Hd.gt_ BK177 hg))
      replace BK177 := Aside0.mk (Hd.kb_ BK177 hb)
      have NB191_205 := Aside0.mk ((Hd.lt_ BK191 hg))
      have NB205_191 := Aside0.mk ((Hd.gt_ BK191 hg))
      replace BK191 := Aside0.mk (Hd.kb_ BK191 hb)
      clear hb hbox hg
      refine hK.out _ _ ⟨(blk_cell BK176.out 0).trans rfl, (blk_cell BK176.out 1).trans rfl, (blk_cell BK176.out 2).trans rfl, (blk_cell BK176.out 3).trans rfl, (blk_cell BK177.out 0).trans rfl, (blk_cell BK177.out 1).trans rfl, (blk_cell BK177.out 2).trans rfl, (blk_cell BK177.out 3).trans rfl⟩ (fun hHeld => ?_)
      clear hK K
      refine Hd.n_ (some 7) ?_
      exact norm_ (by simp only [putAll, Act.put, List.setIfInBounds_toArray, List.set_cons_zero, List.set_cons_succ]) (hCont (gb205) _ ⟨hHeld, (Hd.k_ BK176), (Hd.k_ BK177), (Hd.k_ BK191), (Hd.k_ BK205), GW205.out, GE205.out, NB176_205.out, NB205_176.out, NB177_205.out, NB205_177.out, NB191_205.out, NB205_191.out, Hd.b_⟩)
     ·
      skip
      refine box_step ?hg (N := 7) ?hd (cs := #[.int .i64 0, .int .i64 0, .int .i64 0, .int .i64 0]) (t := 66) ?hr ?_; (case hd => rfl); (case hg => rfl); (case hr => first | (go_simp; done) | (go_simp; rfl))
      intro gb205 hg w90 hbox hb
      have BK205 := Aside0.mk (hbox)
      have GW205 := Aside0.mk ((Hd.g_ hg Hd.b_ : w.heap.size ≤ gb205))
      have GE205 := Aside0.mk ((Hd.g_ hg Hd.b_ : w.heap.size ≤ gb205))
      replace HB := Aside0.mk (below_step Hd.b_ hb)
      have NB176_205 := Aside0.mk ((Hd.lt_ BK176 hg))
      have NB205_176 := Aside0.mk ((Hd.gt_ BK176 hg))
      replace BK176 := Aside0.mk (Hd.kb_ BK176 hb)
      have NB177_205 := Aside0.mk ((Hd.lt_ BK177 hg))
      have NB205_177 := Aside0.mk ((Hd.gt_ BK177 hg))
      replace BK177 := Aside0.mk (Hd.kb_ BK177 hb)
      have NB191_205 := Aside0.mk ((Hd.lt_ BK191 hg))
      have NB205_191 := Aside0.mk ((Hd.gt_ BK191 hg))
      replace BK191 := Aside0.mk (Hd.kb_ BK191 hb)
      clear hb hbox hg
      refine hK.out _ _ ⟨(blk_cell BK176.out 0).trans rfl, (blk_cell BK176.out 1).trans rfl, (blk_cell BK176.out 2).trans rfl, (blk_cell BK176.out 3).trans rfl, (blk_cell BK177.out 0).trans rfl, (blk_cell BK177.out 1).trans rfl, (blk_cell BK177.out 2).trans rfl, (blk_cell BK177.out 3).trans rfl⟩ (fun hHeld => ?_)
      clear hK K
      refine Hd.n_ (some 7) ?_
      refine Hd.o_ HT_ 4 (some 22) #[true, true, true, true, true, false, false, false, true, false, false] (fun K hK => ?_)
      refine goes_ Try.func40 (by kernel_rfl) rfl #[.agg #[.int .i64 t192, .int .i64 t193, .int .i64 t194, .int .i64 t195], .agg #[.int .i64 t196, .int .i64 t197, .int .i64 t198, .int .i64 t199]] (by rfl) rfl rfl Hd.m_ ?_
      with_reducible refine (impl_JoinBoxes.calls k t192 t193 t194 t195 t196 t197 t198 t199 t200 t201 t202 t203 t204 _ A8.out).mono ?_
      rintro e w91 ⟨rfl, hb⟩
      refine ⟨_, rfl, ?_⟩
      replace BK176 := Aside0.mk (Hd.kb_ BK176 hb)
      replace BK177 := Aside0.mk (Hd.kb_ BK177 hb)
      replace BK191 := Aside0.mk (Hd.kb_ BK191 hb)
      replace BK205 := Aside0.mk (Hd.kb_ BK205 hb)
      replace HB := Aside0.mk (below_step Hd.b_ hb)
      (try clear hb)
      (try clear hb2)
      (try clear hk)
      (try clear hi)
      refine hK.out _ _ ⟨(blk_cell BK176.out 0).trans rfl, (blk_cell BK176.out 1).trans rfl, (blk_cell BK176.out 2).trans rfl, (blk_cell BK176.out 3).trans rfl, (blk_cell BK177.out 0).trans rfl, (blk_cell BK177.out 1).trans rfl, (blk_cell BK177.out 2).trans rfl, (blk_cell BK177.out 3).trans rfl⟩ (fun hHeld => ?_)
      clear hK K
      refine Hd.n_ (some 22) ?_
      refine Hd.p_ HT_ 5 (some 17) #[true, true, true, true, true, true, false, false, true, false, false] ?_
      refine Hd.p_ HT_ 6 (some 23) #[true, true, true, true, true, true, true, false, true, false, false] ?_
      refine Hd.p_ HT_ 7 (some 24) #[true, true, true, true, true, true, true, true, true, false, false] ?_
      exact norm_ (by simp only [putAll, Act.put, List.setIfInBounds_toArray, List.set_cons_zero, List.set_cons_succ]) (hCont (gb205) _ ⟨hHeld, (Hd.k_ BK176), (Hd.k_ BK177), (Hd.k_ BK191), (Hd.k_ BK205), GW205.out, GE205.out, NB176_205.out, NB205_176.out, NB177_205.out, NB205_177.out, NB191_205.out, NB205_191.out, Hd.b_⟩)
    ·
     skip
     refine box_step ?hg (N := 7) ?hd (cs := #[.int .i64 0, .int .i64 0, .int .i64 0, .int .i64 0]) (t := 66) ?hr ?_; (case hd => rfl); (case hg => rfl); (case hr => first | (go_simp; done) | (go_simp; rfl))
     intro gb205 hg w89 hbox hb
     have BK205 := Aside0.mk (hbox)
     have GW205 := Aside0.mk ((Hd.g_ hg Hd.b_ : w.heap.size ≤ gb205))
     have GE205 := Aside0.mk ((Hd.g_ hg Hd.b_ : w.heap.size ≤ gb205))
     replace HB := Aside0.mk (below_step Hd.b_ hb)
     have NB176_205 := Aside0.mk ((Hd.lt_ BK176 hg))
     have NB205_176 := Aside0.mk ((Hd.gt_ BK176 hg))
     replace BK176 := Aside0.mk (Hd.kb_ BK176 hb)
     have NB177_205 := Aside0.mk ((Hd.lt_ BK177 hg))
     have NB205_177 := Aside0.mk ((Hd.gt_ BK177 hg))
     replace BK177 := Aside0.mk (Hd.kb_ BK177 hb)
     have NB191_205 := Aside0.mk ((Hd.lt_ BK191 hg))
     have NB205_191 := Aside0.mk ((Hd.gt_ BK191 hg))
     replace BK191 := Aside0.mk (Hd.kb_ BK191 hb)
     clear hb hbox hg
     refine hK.out _ _ ⟨(blk_cell BK176.out 0).trans rfl, (blk_cell BK176.out 1).trans rfl, (blk_cell BK176.out 2).trans rfl, (blk_cell BK176.out 3).trans rfl, (blk_cell BK177.out 0).trans rfl, (blk_cell BK177.out 1).trans rfl, (blk_cell BK177.out 2).trans rfl, (blk_cell BK177.out 3).trans rfl⟩ (fun hHeld => ?_)
     clear hK K
     refine Hd.n_ (some 7) ?_
     refine Hd.o_ HT_ 3 (some 21) #[true, true, true, true, false, false, false, false, true, false, false] (fun K hK => ?_)
     refine goes_ Try.func39 (by kernel_rfl) rfl #[.agg #[.int .i64 a1_0, .int .i64 a1_1, .int .i64 a1_2, .int .i64 a1_3]] (by rfl) rfl rfl Hd.m_ ?_
     with_reducible refine (laws_toBox.calls a1_0 a1_1 a1_2 a1_3 t196 t197 t198 t199 _ A7.out).mono ?_
     rintro e w90 ⟨rfl, hb⟩
     refine ⟨_, rfl, ?_⟩
     replace BK176 := Aside0.mk (Hd.kb_ BK176 hb)
     replace BK177 := Aside0.mk (Hd.kb_ BK177 hb)
     replace BK191 := Aside0.mk (Hd.kb_ BK191 hb)
     replace BK205 := Aside0.mk (Hd.kb_ BK205 hb)
     replace HB := Aside0.mk (below_step Hd.b_ hb)
     (try clear hb)
     (try clear hb2)
     (try clear hk)
     (try clear hi)
     refine hK.out _ _ ⟨(blk_cell BK176.out 0).trans rfl, (blk_cell BK176.out 1).trans rfl, (blk_cell BK176.out 2).trans rfl, (blk_cell BK176.out 3).trans rfl, (blk_cell BK177.out 0).trans rfl, (blk_cell BK177.out 1).trans rfl, (blk_cell BK177.out 2).trans rfl, (blk_cell BK177.out 3).trans rfl⟩ (fun hHeld => ?_)
     clear hK K
     refine Hd.n_ (some 21) ?_
     refine Hd.o_ HT_ 4 (some 22) #[true, true, true, true, true, false, false, false, true, false, false] (fun K hK => ?_)
     refine goes_ Try.func40 (by kernel_rfl) rfl #[.agg #[.int .i64 t192, .int .i64 t193, .int .i64 t194, .int .i64 t195], .agg #[.int .i64 t196, .int .i64 t197, .int .i64 t198, .int .i64 t199]] (by rfl) rfl rfl Hd.m_ ?_
     with_reducible refine (impl_JoinBoxes.calls k t192 t193 t194 t195 t196 t197 t198 t199 t200 t201 t202 t203 t204 _ A8.out).mono ?_
     rintro e w91 ⟨rfl, hb⟩
     refine ⟨_, rfl, ?_⟩
     replace BK176 := Aside0.mk (Hd.kb_ BK176 hb)
     replace BK177 := Aside0.mk (Hd.kb_ BK177 hb)
     replace BK191 := Aside0.mk (Hd.kb_ BK191 hb)
     replace BK205 := Aside0.mk (Hd.kb_ BK205 hb)
     replace HB := Aside0.mk (below_step Hd.b_ hb)
     (try clear hb)
     (try clear hb2)
     (try clear hk)
     (try clear hi)
     refine hK.out _ _ ⟨(blk_cell BK176.out 0).trans rfl, (blk_cell BK176.out 1).trans rfl, (blk_cell BK176.out 2).trans rfl, (blk_cell BK176.out 3).trans rfl, (blk_cell BK177.out 0).trans rfl, (blk_cell BK177.out 1).trans rfl, (blk_cell BK177.out 2).trans rfl, (blk_cell BK177.out 3).trans rfl⟩ (fun hHeld => ?_)
     clear hK K
     refine Hd.n_ (some 22) ?_
     refine Hd.p_ HT_ 5 (some 17) #[true, true, true, true, true, true, false, false, true, false, false] ?_
     refine Hd.p_ HT_ 6 (some 23) #[true, true, true, true, true, true, true, false, true, false, false] ?_
     refine Hd.p_ HT_ 7 (some 24) #[true, true, true, true, true, true, true, true, true, false, false] ?_
     exact norm_ (by simp only [putAll, Act.put, List.setIfInBounds_toArray, List.set_cons_zero, List.set_cons_succ]) (hCont (gb205) _ ⟨hHeld, (Hd.k_ BK176), (Hd.k_ BK177), (Hd.k_ BK191), (Hd.k_ BK205), GW205.out, GE205.out, NB176_205.out, NB205_176.out, NB177_205.out, NB205_177.out, NB191_205.out, NB205_191.out, Hd.b_⟩)
   ·
    skip
    refine box_step ?hg (N := 7) ?hd (cs := #[.int .i64 0, .int .i64 0, .int .i64 0, .int .i64 0]) (t := 66) ?hr ?_; (case hd => rfl); (case hg => rfl); (case hr => first | (go_simp; done) | (go_simp; rfl))
    intro gb205 hg w88 hbox hb
    have BK205 := Aside0.mk (hbox)
    have GW205 := Aside0.mk ((Hd.g_ hg Hd.b_ : w.heap.size ≤ gb205))
    have GE205 := Aside0.mk ((Hd.g_ hg Hd.b_ : w.heap.size ≤ gb205))
    replace HB := Aside0.mk (below_step Hd.b_ hb)
    have NB176_205 := Aside0.mk ((Hd.lt_ BK176 hg))
    have NB205_176 := Aside0.mk ((Hd.gt_ BK176 hg))
    replace BK176 := Aside0.mk (Hd.kb_ BK176 hb)
    have NB177_205 := Aside0.mk ((Hd.lt_ BK177 hg))
    have NB205_177 := Aside0.mk ((Hd.gt_ BK177 hg))
    replace BK177 := Aside0.mk (Hd.kb_ BK177 hb)
    have NB191_205 := Aside0.mk ((Hd.lt_ BK191 hg))
    have NB205_191 := Aside0.mk ((Hd.gt_ BK191 hg))
    replace BK191 := Aside0.mk (Hd.kb_ BK191 hb)
    clear hb hbox hg
    refine hK.out _ _ ⟨(blk_cell BK176.out 0).trans rfl, (blk_cell BK176.out 1).trans rfl, (blk_cell BK176.out 2).trans rfl, (blk_cell BK176.out 3).trans rfl, (blk_cell BK177.out 0).trans rfl, (blk_cell BK177.out 1).trans rfl, (blk_cell BK177.out 2).trans rfl, (blk_cell BK177.out 3).trans rfl⟩ (fun hHeld => ?_)
    clear hK K
    refine Hd.n_ (some 7) ?_
    refine Hd.o_ HT_ 1 (some 19) #[true, true, true, false, false, false, false, false, true, false, false] (fun K hK => ?_)
    refine goes_ Try.func39 (by kernel_rfl) rfl #[.agg #[.int .i64 a0_0, .int .i64 a0_1, .int .i64 a0_2, .int .i64 a0_3]] (by rfl) rfl rfl Hd.m_ ?_
    with_reducible refine (laws_toBox.calls a0_0 a0_1 a0_2 a0_3 t192 t193 t194 t195 _ A6.out).mono ?_
    rintro e w89 ⟨rfl, hb⟩
    refine ⟨_, rfl, ?_⟩
    replace BK176 := Aside0.mk (Hd.kb_ BK176 hb)
    replace BK177 := Aside0.mk (Hd.kb_ BK177 hb)
    replace BK191 := Aside0.mk (Hd.kb_ BK191 hb)
    replace BK205 := Aside0.mk (Hd.kb_ BK205 hb)
    replace HB := Aside0.mk (below_step Hd.b_ hb)
    (try clear hb)
    (try clear hb2)
    (try clear hk)
    (try clear hi)
    refine hK.out _ _ ⟨(blk_cell BK176.out 0).trans rfl, (blk_cell BK176.out 1).trans rfl, (blk_cell BK176.out 2).trans rfl, (blk_cell BK176.out 3).trans rfl, (blk_cell BK177.out 0).trans rfl, (blk_cell BK177.out 1).trans rfl, (blk_cell BK177.out 2).trans rfl, (blk_cell BK177.out 3).trans rfl⟩ (fun hHeld => ?_)
    clear hK K
    refine Hd.n_ (some 19) ?_
    refine Hd.o_ HT_ 3 (some 21) #[true, true, true, true, false, false, false, false, true, false, false] (fun K hK => ?_)
    refine goes_ Try.func39 (by kernel_rfl) rfl #[.agg #[.int .i64 a1_0, .int .i64 a1_1, .int .i64 a1_2, .int .i64 a1_3]] (by rfl) rfl rfl Hd.m_ ?_
    with_reducible refine (laws_toBox.calls a1_0 a1_1 a1_2 a1_3 t196 t197 t198 t199 _ A7.out).mono ?_
    rintro e w90 ⟨rfl, hb⟩
    refine ⟨_, rfl, ?_⟩
    replace BK176 := Aside0.mk (Hd.kb_ BK176 hb)
    replace BK177 := Aside0.mk (Hd.kb_ BK177 hb)
    replace BK191 := Aside0.mk (Hd.kb_ BK191 hb)
    replace BK205 := Aside0.mk (Hd.kb_ BK205 hb)
    replace HB := Aside0.mk (below_step Hd.b_ hb)
    (try clear hb)
    (try clear hb2)
    (try clear hk)
    (try clear hi)
    refine hK.out _ _ ⟨(blk_cell BK176.out 0).trans rfl, (blk_cell BK176.out 1).trans rfl, (blk_cell BK176.out 2).trans rfl, (blk_cell BK176.out 3).trans rfl, (blk_cell BK177.out 0).trans rfl, (blk_cell BK177.out 1).trans rfl, (blk_cell BK177.out 2).trans rfl, (blk_cell BK177.out 3).trans rfl⟩ (fun hHeld => ?_)
    clear hK K
    refine Hd.n_ (some 21) ?_
    refine Hd.o_ HT_ 4 (some 22) #[true, true, true, true, true, false, false, false, true, false, false] (fun K hK => ?_)
    refine goes_ Try.func40 (by kernel_rfl) rfl #[.agg #[.int .i64 t192, .int .i64 t193, .int .i64 t194, .int .i64 t195], .agg #[.int .i64 t196, .int .i64 t197, .int .i64 t198, .int .i64 t199]] (by rfl) rfl rfl Hd.m_ ?_
    with_reducible refine (impl_JoinBoxes.calls k t192 t193 t194 t195 t196 t197 t198 t199 t200 t201 t202 t203 t204 _ A8.out).mono ?_
    rintro e w91 ⟨rfl, hb⟩
    refine ⟨_, rfl, ?_⟩
    replace BK176 := Aside0.mk (Hd.kb_ BK176 hb)
    replace BK177 := Aside0.mk (Hd.kb_ BK177 hb)
    replace BK191 := Aside0.mk (Hd.kb_ BK191 hb)
    replace BK205 := Aside0.mk (Hd.kb_ BK205 hb)
    replace HB := Aside0.mk (below_step Hd.b_ hb)
    (try clear hb)
    (try clear hb2)
    (try clear hk)
    (try clear hi)
    refine hK.out _ _ ⟨(blk_cell BK176.out 0).trans rfl, (blk_cell BK176.out 1).trans rfl, (blk_cell BK176.out 2).trans rfl, (blk_cell BK176.out 3).trans rfl, (blk_cell BK177.out 0).trans rfl, (blk_cell BK177.out 1).trans rfl, (blk_cell BK177.out 2).trans rfl, (blk_cell BK177.out 3).trans rfl⟩ (fun hHeld => ?_)
    clear hK K
    refine Hd.n_ (some 22) ?_
    refine Hd.p_ HT_ 5 (some 17) #[true, true, true, true, true, true, false, false, true, false, false] ?_
    refine Hd.p_ HT_ 6 (some 23) #[true, true, true, true, true, true, true, false, true, false, false] ?_
    refine Hd.p_ HT_ 7 (some 24) #[true, true, true, true, true, true, true, true, true, false, false] ?_
    exact norm_ (by simp only [putAll, Act.put, List.setIfInBounds_toArray, List.set_cons_zero, List.set_cons_succ]) (hCont (gb205) _ ⟨hHeld, (Hd.k_ BK176), (Hd.k_ BK177), (Hd.k_ BK191), (Hd.k_ BK205), GW205.out, GE205.out, NB176_205.out, NB205_176.out, NB177_205.out, NB205_177.out, NB191_205.out, NB205_191.out, Hd.b_⟩)
  rintro gb205 w92 ⟨hS_, h0_, h1_, h2_, h3_, h4_, h5_, h6_, h7_, h8_, h9_, h10_, h11_, h12_⟩
  have n0_ : Aside0 (w92.heap[gb176]? = some (.cells #[.int .i64 a0_0, .int .i64 a0_1, .int .i64 a0_2, .int .i64 a0_3] 64 (0, 0))) := ⟨h0_⟩
  have n1_ : Aside0 (w92.heap[gb177]? = some (.cells #[.int .i64 a1_0, .int .i64 a1_1, .int .i64 a1_2, .int .i64 a1_3] 64 (0, 0))) := ⟨h1_⟩
  have n2_ : Aside0 (w92.heap[gb191]? = some (.cells #[.int .i64 t186, .int .i64 t187, .int .i64 t188, .int .i64 t189] 66 (0, 0))) := ⟨h2_⟩
  have n3_ : Aside0 (w92.heap[gb205]? = some (.cells #[.int .i64 0, .int .i64 0, .int .i64 0, .int .i64 0] 66 (0, 0))) := ⟨h3_⟩
  have n4_ : Aside0 (w.heap.size ≤ gb205) := ⟨h4_⟩
  have n5_ : Aside0 (w.heap.size ≤ gb205) := ⟨h5_⟩
  have n6_ : Aside0 (gb176 ≠ gb205) := ⟨h6_⟩
  have n7_ : Aside0 (gb205 ≠ gb176) := ⟨h7_⟩
  have n8_ : Aside0 (gb177 ≠ gb205) := ⟨h8_⟩
  have n9_ : Aside0 (gb205 ≠ gb177) := ⟨h9_⟩
  have n10_ : Aside0 (gb191 ≠ gb205) := ⟨h10_⟩
  have n11_ : Aside0 (gb205 ≠ gb191) := ⟨h11_⟩
  have n12_ : Aside0 (Below w.heap.size w w92) := ⟨h12_⟩
  clear BK176
  clear BK177
  clear BK191
  clear HB
  clear h0_ h1_ h2_ h3_ h4_ h5_ h6_ h7_ h8_ h9_ h10_ h11_ h12_
  have BK176 := n0_
  have BK177 := n1_
  have BK191 := n2_
  have BK205 := n3_
  have GW205 := n4_
  have GE205 := n5_
  have NB176_205 := n6_
  have NB205_176 := n7_
  have NB177_205 := n8_
  have NB205_177 := n9_
  have NB191_205 := n10_
  have NB205_191 := n11_
  have HB := n12_
  clear n0_ n1_ n2_ n3_ n4_ n5_ n6_ n7_ n8_ n9_ n10_ n11_ n12_
  have hHeld : w92.cell? ⟨gb176, 0, none⟩ = some (.int .i64 a0_0) ∧ w92.cell? ⟨gb176, 1, none⟩ = some (.int .i64 a0_1) ∧ w92.cell? ⟨gb176, 2, none⟩ = some (.int .i64 a0_2) ∧ w92.cell? ⟨gb176, 3, none⟩ = some (.int .i64 a0_3) ∧ w92.cell? ⟨gb177, 0, none⟩ = some (.int .i64 a1_0) ∧ w92.cell? ⟨gb177, 1, none⟩ = some (.int .i64 a1_1) ∧ w92.cell? ⟨gb177, 2, none⟩ = some (.int .i64 a1_2) ∧ w92.cell? ⟨gb177, 3, none⟩ = some (.int .i64 a1_3) := hS_
  refine norm_ (a' := ?_) ?_ ?_
  rotate_left
  ·
   simp only [putAll, Act.put, List.setIfInBounds_toArray, List.set_cons_zero, List.set_cons_succ]
   rfl
  refine Hd.o_ HT_ 9 (none) #[true, true, true, true, true, true, true, true, true, true, false] (fun K hK => ?_)
  have hs93 : w92.cell? ⟨gb205, 0, none⟩ = some (.int .i64 0) := (blk_cell BK205.out 0).trans rfl
  have hfs93 := blk_frozen BK205.out 0
  have hns93_0 := NB176_205.out
  have hns93_1 := NB177_205.out
  have hns93_2 := NB191_205.out
  have hms93_0 := NB205_176.out
  have hms93_1 := NB205_177.out
  have hms93_2 := NB205_191.out
  have hs94 : w92.cell? ⟨gb205, 1, none⟩ = some (.int .i64 0) := (blk_cell BK205.out 1).trans rfl
  have hfs94 := blk_frozen BK205.out 1
  have hns94_0 := NB176_205.out
  have hns94_1 := NB177_205.out
  have hns94_2 := NB191_205.out
  have hms94_0 := NB205_176.out
  have hms94_1 := NB205_177.out
  have hms94_2 := NB205_191.out
  have hs95 : w92.cell? ⟨gb205, 2, none⟩ = some (.int .i64 0) := (blk_cell BK205.out 2).trans rfl
  have hfs95 := blk_frozen BK205.out 2
  have hns95_0 := NB176_205.out
  have hns95_1 := NB177_205.out
  have hns95_2 := NB191_205.out
  have hms95_0 := NB205_176.out
  have hms95_1 := NB205_177.out
  have hms95_2 := NB205_191.out
  have hs96 : w92.cell? ⟨gb205, 3, none⟩ = some (.int .i64 0) := (blk_cell BK205.out 3).trans rfl
  have hfs96 := blk_frozen BK205.out 3
  have hns96_0 := NB176_205.out
  have hns96_1 := NB177_205.out
  have hns96_2 := NB191_205.out
  have hms96_0 := NB205_176.out
  have hms96_1 := NB205_177.out
  have hms96_2 := NB205_191.out
  refine skip_ (w1 := ?_) (by rfl) rfl ?_ ?_
  rotate_left
  ·
   go_simp
   rfl
  refine hK.out _ _ ⟨((cell_far (p := ⟨gb205, _, none⟩) NB176_205.out _).trans (((cell_far (p := ⟨gb205, _, none⟩) NB176_205.out _).trans (((cell_far (p := ⟨gb205, _, none⟩) NB176_205.out _).trans (((cell_far (p := ⟨gb205, _, none⟩) NB176_205.out _).trans (hHeld.1)))))))), ((cell_far (p := ⟨gb205, _, none⟩) NB176_205.out _).trans (((cell_far (p := ⟨gb205, _, none⟩) NB176_205.out _).trans (((cell_far (p := ⟨gb205, _, none⟩) NB176_205.out _).trans (((cell_far (p := ⟨gb205, _, none⟩) NB176_205.out _).trans (hHeld.2.1)))))))), ((cell_far (p := ⟨gb205, _, none⟩) NB176_205.out _).trans (((cell_far (p := ⟨gb205, _, none⟩) NB176_205.out _).trans (((cell_far (p := ⟨gb205, _, none⟩) NB176_205.out _).trans (((cell_far (p := ⟨gb205, _, none⟩) NB176_205.out _).trans (hHeld.2.2.1)))))))), ((cell_far (p := ⟨gb205, _, none⟩) NB176_205.out _).trans (((cell_far (p := ⟨gb205, _, none⟩) NB176_205.out _).trans (((cell_far (p := ⟨gb205, _, none⟩) NB176_205.out _).trans (((cell_far (p := ⟨gb205, _, none⟩) NB176_205.out _).trans (hHeld.2.2.2.1)))))))), ((cell_far (p := ⟨gb205, _, none⟩) NB177_205.out _).trans (((cell_far (p := ⟨gb205, _, none⟩) NB177_205.out _).trans (((cell_far (p := ⟨gb205, _, none⟩) NB177_205.out _).trans (((cell_far (p := ⟨gb205, _, none⟩) NB177_205.out _).trans (hHeld.2.2.2.2.1)))))))), ((cell_far (p := ⟨gb205, _, none⟩) NB177_205.out _).trans (((cell_far (p := ⟨gb205, _, none⟩) NB177_205.out _).trans (((cell_far (p := ⟨gb205, _, none⟩) NB177_205.out _).trans (((cell_far (p := ⟨gb205, _, none⟩) NB177_205.out _).trans (hHeld.2.2.2.2.2.1)))))))), ((cell_far (p := ⟨gb205, _, none⟩) NB177_205.out _).trans (((cell_far (p := ⟨gb205, _, none⟩) NB177_205.out _).trans (((cell_far (p := ⟨gb205, _, none⟩) NB177_205.out _).trans (((cell_far (p := ⟨gb205, _, none⟩) NB177_205.out _).trans (hHeld.2.2.2.2.2.2.1)))))))), ((cell_far (p := ⟨gb205, _, none⟩) NB177_205.out _).trans (((cell_far (p := ⟨gb205, _, none⟩) NB177_205.out _).trans (((cell_far (p := ⟨gb205, _, none⟩) NB177_205.out _).trans (((cell_far (p := ⟨gb205, _, none⟩) NB177_205.out _).trans (hHeld.2.2.2.2.2.2.2))))))))⟩ (fun hHeld => ?_)
  clear hK K
  refine Hd.p_ HT_ 10 (some 8) #[true, true, true, true, true, true, true, true, true, true, true] ?_
  refine done_ (done_of HT_.out (by kernel_rfl)) ?_
  have hnb97 := NB205_176.out
  have hnc97 := NB176_205.out
  have hnb98 := NB205_177.out
  have hnc98 := NB177_205.out
  have hnb99 := NB205_191.out
  have hnc99 := NB191_205.out
  obtain ⟨hcz100_0, hcz100_1, hcz100_2, hcz100_3⟩ := Hd.c4_ BK205.out
  obtain ⟨hfz100_0, hfz100_1, hfz100_2, hfz100_3⟩ := Hd.f4_ BK205.out
  have hnb101 := NB191_176.out
  have hnc101 := NB176_191.out
  have hnb102 := NB191_177.out
  have hnc102 := NB177_191.out
  obtain ⟨hcz103_0, hcz103_1, hcz103_2, hcz103_3⟩ := Hd.c4_ BK191.out
  obtain ⟨hfz103_0, hfz103_1, hfz103_2, hfz103_3⟩ := Hd.f4_ BK191.out
  try go_wp2_with (first | ((with_reducible refine gate_callee (f := 41) rfl ?_); refine goesL_ (some 27) rfl rfl Try.func41 (by kernel_rfl) rfl #[.agg #[.int .i64 t200, .int .i64 t201, .int .i64 t202, .int .i64 t203], .agg #[.int .i64 t186, .int .i64 t187, .int .i64 t188, .int .i64 t189]] rfl Hd.m_ ?_; (with_reducible refine (laws_eqBox.calls t200 t201 t202 t203 t186 t187 t188 t189 false _ A9.out).mono ?_); rintro e w104 ⟨rfl, hb⟩; refine ⟨_, rfl, ?_⟩; replace BK176 := Aside0.mk (blk_below (g := gb176) (o := .cells #[.int .i64 a0_0, .int .i64 a0_1, .int .i64 a0_2, .int .i64 a0_3] 64 (0, 0)) (by (with_reducible repeat (first | refine blk_drewN ?_ _ | refine blk_drew ?_ | refine blk_alloc ?_ _)); refine blk_far ?_ NB176_205.out _; (with_reducible repeat (first | refine blk_drewN ?_ _ | refine blk_drew ?_ | refine blk_alloc ?_ _)); refine blk_far ?_ NB176_205.out _; (with_reducible repeat (first | refine blk_drewN ?_ _ | refine blk_drew ?_ | refine blk_alloc ?_ _)); refine blk_far ?_ NB176_205.out _; (with_reducible repeat (first | refine blk_drewN ?_ _ | refine blk_drew ?_ | refine blk_alloc ?_ _)); refine blk_far ?_ NB176_205.out _; (with_reducible repeat (first | refine blk_drewN ?_ _ | refine blk_drew ?_ | refine blk_alloc ?_ _)); exact BK176.out) hb); replace BK177 := Aside0.mk (blk_below (g := gb177) (o := .cells #[.int .i64 a1_0, .int .i64 a1_1, .int .i64 a1_2, .int .i64 a1_3] 64 (0, 0)) (by (with_reducible repeat (first | refine blk_drewN ?_ _ | refine blk_drew ?_ | refine blk_alloc ?_ _)); refine blk_far ?_ NB177_205.out _; (with_reducible repeat (first | refine blk_drewN ?_ _ | refine blk_drew ?_ | refine blk_alloc ?_ _)); refine blk_far ?_ NB177_205.out _; (with_reducible repeat (first | refine blk_drewN ?_ _ | refine blk_drew ?_ | refine blk_alloc ?_ _)); refine blk_far ?_ NB177_205.out _; (with_reducible repeat (first | refine blk_drewN ?_ _ | refine blk_drew ?_ | refine blk_alloc ?_ _)); refine blk_far ?_ NB177_205.out _; (with_reducible repeat (first | refine blk_drewN ?_ _ | refine blk_drew ?_ | refine blk_alloc ?_ _)); exact BK177.out) hb); replace BK191 := Aside0.mk (blk_below (g := gb191) (o := .cells #[.int .i64 t186, .int .i64 t187, .int .i64 t188, .int .i64 t189] 66 (0, 0)) (by (with_reducible repeat (first | refine blk_drewN ?_ _ | refine blk_drew ?_ | refine blk_alloc ?_ _)); refine blk_far ?_ NB191_205.out _; (with_reducible repeat (first | refine blk_drewN ?_ _ | refine blk_drew ?_ | refine blk_alloc ?_ _)); refine blk_far ?_ NB191_205.out _; (with_reducible repeat (first | refine blk_drewN ?_ _ | refine blk_drew ?_ | refine blk_alloc ?_ _)); refine blk_far ?_ NB191_205.out _; (with_reducible repeat (first | refine blk_drewN ?_ _ | refine blk_drew ?_ | refine blk_alloc ?_ _)); refine blk_far ?_ NB191_205.out _; (with_reducible repeat (first | refine blk_drewN ?_ _ | refine blk_drew ?_ | refine blk_alloc ?_ _)); exact BK191.out) hb); replace BK205 := Aside0.mk (blk_below (g := gb205) (o := .cells #[.int .i64 t200, .int .i64 t201, .int .i64 t202, .int .i64 t203] 66 (0, 0)) (by (with_reducible repeat (first | refine blk_drewN ?_ _ | refine blk_drew ?_ | refine blk_alloc ?_ _)); refine blk_put (cs := #[.int .i64 t200, .int .i64 t201, .int .i64 t202, .int .i64 0]) ?_ 3 _ rfl; (with_reducible repeat (first | refine blk_drewN ?_ _ | refine blk_drew ?_ | refine blk_alloc ?_ _)); refine blk_put (cs := #[.int .i64 t200, .int .i64 t201, .int .i64 0, .int .i64 0]) ?_ 2 _ rfl; (with_reducible repeat (first | refine blk_drewN ?_ _ | refine blk_drew ?_ | refine blk_alloc ?_ _)); refine blk_put (cs := #[.int .i64 t200, .int .i64 0, .int .i64 0, .int .i64 0]) ?_ 1 _ rfl; (with_reducible repeat (first | refine blk_drewN ?_ _ | refine blk_drew ?_ | refine blk_alloc ?_ _)); refine blk_put (cs := #[.int .i64 0, .int .i64 0, .int .i64 0, .int .i64 0]) ?_ 0 _ rfl; (with_reducible repeat (first | refine blk_drewN ?_ _ | refine blk_drew ?_ | refine blk_alloc ?_ _)); exact BK205.out) hb); replace HB := Aside0.mk (below_step Hd.b_ hb); (try clear hb); (try clear hb2); (try clear hk); (try clear hi)))
  go_ret
  exact ⟨Hd.e_, Hd.b_⟩
end Go.Proofs.Ytchmbcembbbplaa.MFnExactJoinBoxes
