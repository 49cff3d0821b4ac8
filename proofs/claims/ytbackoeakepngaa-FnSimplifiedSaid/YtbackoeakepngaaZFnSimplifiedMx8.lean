-- Laid by this session's program pp.py, after the kit's print and texts of the session's own. Not trusted: Lean checks it.
import Derived.Test.YtbackoeakepngaaZFnSimplifiedMx0
import Derived.Test.YtbackoeakepngaaZFnSimplifiedMx4
import Derived.Test.YtbackoeakepngaaZFnSimplifiedMx6
import Derived.Test.YtbackoeakepngaaZFnSimplifiedMx7
namespace Go.Proofs.Ytbackoeakepngaa.MFnSimplified
open Go.RowKit Go.Proofs.YtbackoeakepngaaW.PrintWords Go.Proofs.YtbackoeakepngaaW.PrintLast Go.Proofs.YtbackoeakepngaaW.PrintMore
attribute [local go_sem] max2_int min2_int max_two min_two max_three min_three max_four min_four   -- for this text's walks alone
set_option linter.unusedVariables false
set_option linter.unusedSimpArgs false
def spec_l5Draw.f (s0_0 : List Int) (s0_1 : Int) (s0_2 : Int) : Option (Int × Int × Int × Int × Int × Int) := (spec_l4Draw.f s0_0 s0_1 s0_2).bind fun bt315 => ((spec_l1Below.f s0_0 bt315.2.2.1 bt315.2.2.2 12).bind fun bt320 => ((spec_l1Once.f s0_0 bt320.2.1 bt320.2.2 3).bind fun bt324 => (if bt324.1 = true then (some (bt315.1, bt315.2.1, bt320.1, bt315.2.1, bt324.2.1, bt324.2.2)) else ((spec_l1Below.f s0_0 bt324.2.1 bt324.2.2 12).bind fun bt327 => (some (bt315.1, bt315.2.1, bt320.1, bt327.1, bt327.2.1, bt327.2.2))))))
set_option maxHeartbeats 8000000 in
set_option maxRecDepth 100000 in
theorem spec_l5Draw.calls (g : Nat) (s0_0 : List Int) (s0_1 : Int) (s0_2 : Int) (r1 : Int) (r2 : Int) (r3 : Int) (r4 : Int) (r5 : Int) (r6 : Int) (w0 w : World) (hI : IsS109 w0 w g s0_0 s0_1 s0_2) (hB : Below w0.heap.size w0 w) (h : spec_l5Draw.f s0_0 s0_1 s0_2 = some (r1, r2, r3, r4, r5, r6)) :
  Calls Try.prog 105 #[.pointer (some ⟨g, 0, none⟩)] w fun e w' => e = .returned (.agg #[.int .i64 r1, .int .i64 r2, .int .i64 r3, .int .i64 r4]) ∧ IsS109 w0 w' g s0_0 r5 r6 ∧ Below w0.heap.size w0 w' ∧ KeepBut w w' g none := by
 have hu53 := Try.underlying53
 have hu27 := Try.underlying27
 have HI0 := Aside0.mk hI
 have HK := Aside0.mk (KeepBut.refl w g none)
 have HL := Aside0.mk hB.size
 clear hI
 have HW0 := Aside0.mk hB.size
 have HB := Aside0.mk hB
 clear hB
 have H : ((spec_l4Draw.f s0_0 s0_1 s0_2).bind fun bt315 => ((spec_l1Below.f s0_0 bt315.2.2.1 bt315.2.2.2 12).bind fun bt320 => ((spec_l1Once.f s0_0 bt320.2.1 bt320.2.2 3).bind fun bt324 => (if bt324.1 = true then (some (bt315.1, bt315.2.1, bt320.1, bt315.2.1, bt324.2.1, bt324.2.2)) else ((spec_l1Below.f s0_0 bt324.2.1 bt324.2.2 12).bind fun bt327 => (some (bt315.1, bt315.2.1, bt320.1, bt327.1, bt327.2.1, bt327.2.2))))))) = some (r1, r2, r3, r4, r5, r6) := h
 clear h
 replace H := Option.bind_eq_some_iff.mp H
 obtain ⟨⟨t315, t316, t317, t318⟩, A20, H⟩ := H
 replace H : ((spec_l1Below.f s0_0 t317 t318 12).bind fun bt320 => ((spec_l1Once.f s0_0 bt320.2.1 bt320.2.2 3).bind fun bt324 => (if bt324.1 = true then (some (t315, t316, bt320.1, t316, bt324.2.1, bt324.2.2)) else ((spec_l1Below.f s0_0 bt324.2.1 bt324.2.2 12).bind fun bt327 => (some (t315, t316, bt320.1, bt327.1, bt327.2.1, bt327.2.2)))))) = some (r1, r2, r3, r4, r5, r6) := H
 have A2 := Aside0.mk A20
 clear A20
 replace H := Option.bind_eq_some_iff.mp H
 obtain ⟨⟨t320, t321, t322⟩, A30, H⟩ := H
 replace H : ((spec_l1Once.f s0_0 t321 t322 3).bind fun bt324 => (if bt324.1 = true then (some (t315, t316, t320, t316, bt324.2.1, bt324.2.2)) else ((spec_l1Below.f s0_0 bt324.2.1 bt324.2.2 12).bind fun bt327 => (some (t315, t316, t320, bt327.1, bt327.2.1, bt327.2.2))))) = some (r1, r2, r3, r4, r5, r6) := H
 have A3 := Aside0.mk A30
 clear A30
 replace H := Option.bind_eq_some_iff.mp H
 obtain ⟨⟨t324, t325, t326⟩, A40, H⟩ := H
 replace H : (if t324 = true then (some (t315, t316, t320, t316, t325, t326)) else ((spec_l1Below.f s0_0 t325 t326 12).bind fun bt327 => (some (t315, t316, t320, bt327.1, bt327.2.1, bt327.2.2)))) = some (r1, r2, r3, r4, r5, r6) := H
 have A4 := Aside0.mk A40
 clear A40
 by_cases c5 : t324 = true
 ·
  subst c5
  have H1 : (some (t315, t316, t320, t316, t325, t326)) = some (r1, r2, r3, r4, r5, r6) := by rw [if_pos rfl] at H; exact H
  clear H
  have H := H1
  clear H1
  simp only [Option.some.injEq, Prod.mk.injEq] at H
  obtain ⟨rfl, rfl, rfl, rfl, rfl, rfl⟩ := H
  go_enter Try.func105, Try.ntmps105
  try go_wp2_with (first | ((with_reducible refine gate_dst (N := 2) rfl ?_); refine Hd.box_ 2 (#[.int .i64 0, .int .i64 0, .int .i64 0, .int .i64 0]) 53 ?_; intro gb314 hg w6 hbox hb; replace HB := Aside0.mk (below_step (by repeat (first | (with_reducible first | exact HB.out | apply below_alloc | apply pw_below_drewN | apply below_drew1 | refine below_set ?_ (IsS109.ge HI0.out)) | exact HB.out)) hb); have BK314 := Aside0.mk (hbox); have GW314 := Aside0.mk ((by rw [hg]; exact (keep_size (w := w) (g := g) (row := none) (by repeat (first | (with_reducible first | exact HK.out | apply KeepBut.set_ | apply keep_drewN | apply keep_drew | apply keep_alloc) | exact HK.out))) : w.heap.size ≤ gb314)); have GE314 := Aside0.mk ((Nat.le_trans HW0.out (by rw [hg]; exact (keep_size (w := w) (g := g) (row := none) (by repeat (first | (with_reducible first | exact HK.out | apply KeepBut.set_ | apply keep_drewN | apply keep_drew | apply keep_alloc) | exact HK.out))) : w.heap.size ≤ gb314) : w0.heap.size ≤ gb314)); replace HK := Aside0.mk (KeepBut.trans (by repeat (first | (with_reducible first | exact HK.out | apply KeepBut.set_ | apply keep_drewN | apply keep_drew | apply keep_alloc) | exact HK.out)) (KeepBut.of_below hb g none) (.inl rfl)); have NB0_314 := Aside0.mk ((by rw [hg]; exact Nat.ne_of_lt (IsS109.lt (show IsS109 w0 _ g s0_0 s0_1 s0_2 from by repeat (first | (with_reducible first | exact HI0.out | apply IsS109.alloc | apply IsS109.drewN | apply IsS109.drew | apply IsS109.set_1 | apply IsS109.set_2) | exact HI0.out))) : g ≠ gb314)); have NB314_0 := Aside0.mk ((by rw [hg]; exact Nat.ne_of_gt (IsS109.lt (show IsS109 w0 _ g s0_0 s0_1 s0_2 from by repeat (first | (with_reducible first | exact HI0.out | apply IsS109.alloc | apply IsS109.drewN | apply IsS109.drew | apply IsS109.set_1 | apply IsS109.set_2) | exact HI0.out))) : gb314 ≠ g)); replace HI0 := Aside0.mk (IsS109.below (by repeat (first | (with_reducible first | exact HI0.out | apply IsS109.alloc | apply IsS109.drewN | apply IsS109.drew | apply IsS109.set_1 | apply IsS109.set_2) | exact HI0.out)) hb); clear hb hbox hg) | ((with_reducible refine gate_callee (f := 106) rfl ?_); refine goesL_ (some 6) rfl rfl Try.func106 (by kernel_rfl) rfl #[.pointer (some ⟨g, 0, none⟩)] rfl Hd.m_ ?_; (with_reducible refine (spec_l4Draw.calls g s0_0 s0_1 s0_2 t315 t316 t317 t318 w0 _ ?side1 ?side2 A2.out).mono ?_); (case side1 => repeat (first | (with_reducible first | exact HI0.out | apply IsS109.alloc | apply IsS109.drewN | apply IsS109.drew | apply IsS109.set_1 | apply IsS109.set_2 | refine IsS109.far ?_ NB0_314.out _) | exact HI0.out)); (case side2 => repeat (first | (with_reducible first | exact HB.out | apply below_alloc | apply pw_below_drewN | apply below_drew1 | refine below_set ?_ (IsS109.ge HI0.out) | refine below_set ?_ GE314.out) | exact HB.out)); rintro e w7 ⟨rfl, hi, hb, hk⟩; refine ⟨_, rfl, ?_⟩; replace BK314 := Aside0.mk (KeepBut.blk hk (g' := gb314) (o := .cells #[.int .i64 0, .int .i64 0, .int .i64 0, .int .i64 0] 53 (0, 0)) (Hd.k_ BK314) NB314_0.out (by simp)); replace HK := Aside0.mk (KeepBut.trans (by repeat (first | (with_reducible first | exact HK.out | apply KeepBut.set_ | apply keep_drewN | apply keep_drew | apply keep_alloc | refine keep_far ?_ GW314.out _) | exact HK.out)) hk (.inl rfl)); replace HB := Aside0.mk (hb); replace HI0 := Aside0.mk (hi); (try clear hb); (try clear hb2); (try clear hk); (try clear hi)) | ((with_reducible refine gate_dst (N := 3) rfl ?_); refine Hd.box_ 3 (#[.int .i64 0, .int .i64 0]) 27 ?_; intro gb319 hg w8 hbox hb; replace HB := Aside0.mk (below_step (by repeat (first | (with_reducible first | exact HB.out | apply below_alloc | apply pw_below_drewN | apply below_drew1 | refine below_set ?_ (IsS109.ge HI0.out) | refine below_set ?_ GE314.out) | exact HB.out)) hb); have BK319 := Aside0.mk (hbox); have GW319 := Aside0.mk ((by rw [hg]; exact (keep_size (w := w) (g := g) (row := none) (by repeat (first | (with_reducible first | exact HK.out | apply KeepBut.set_ | apply keep_drewN | apply keep_drew | apply keep_alloc | refine keep_far ?_ GW314.out _) | exact HK.out))) : w.heap.size ≤ gb319)); have GE319 := Aside0.mk ((Nat.le_trans HW0.out (by rw [hg]; exact (keep_size (w := w) (g := g) (row := none) (by repeat (first | (with_reducible first | exact HK.out | apply KeepBut.set_ | apply keep_drewN | apply keep_drew | apply keep_alloc | refine keep_far ?_ GW314.out _) | exact HK.out))) : w.heap.size ≤ gb319) : w0.heap.size ≤ gb319)); replace HK := Aside0.mk (KeepBut.trans (by repeat (first | (with_reducible first | exact HK.out | apply KeepBut.set_ | apply keep_drewN | apply keep_drew | apply keep_alloc | refine keep_far ?_ GW314.out _) | exact HK.out)) (KeepBut.of_below hb g none) (.inl rfl)); have NB314_319 := Aside0.mk ((Hd.lt_ BK314 hg)); have NB319_314 := Aside0.mk ((Hd.gt_ BK314 hg)); replace BK314 := Aside0.mk (Hd.kb_ BK314 hb); have NB0_319 := Aside0.mk ((by rw [hg]; exact Nat.ne_of_lt (IsS109.lt (show IsS109 w0 _ g s0_0 t317 t318 from by repeat (first | (with_reducible first | exact HI0.out | apply IsS109.alloc | apply IsS109.drewN | apply IsS109.drew | apply IsS109.set_1 | apply IsS109.set_2 | refine IsS109.far ?_ NB0_314.out _) | exact HI0.out))) : g ≠ gb319)); have NB319_0 := Aside0.mk ((by rw [hg]; exact Nat.ne_of_gt (IsS109.lt (show IsS109 w0 _ g s0_0 t317 t318 from by repeat (first | (with_reducible first | exact HI0.out | apply IsS109.alloc | apply IsS109.drewN | apply IsS109.drew | apply IsS109.set_1 | apply IsS109.set_2 | refine IsS109.far ?_ NB0_314.out _) | exact HI0.out))) : gb319 ≠ g)); replace HI0 := Aside0.mk (IsS109.below (by repeat (first | (with_reducible first | exact HI0.out | apply IsS109.alloc | apply IsS109.drewN | apply IsS109.drew | apply IsS109.set_1 | apply IsS109.set_2 | refine IsS109.far ?_ NB0_314.out _) | exact HI0.out)) hb); clear hb hbox hg; have hnb9 := NB319_314.out; have hnc9 := NB314_319.out; have hnb10 := NB319_0.out; have hnc10 := NB0_319.out; obtain ⟨hcz11_0, hcz11_1⟩ := Hd.c2_ BK319.out; obtain ⟨hfz11_0, hfz11_1⟩ := Hd.f2_ BK319.out))
  have n0_ : Aside0 (((w8.setCell ⟨gb319, 0, none⟩ (.int .i64 t315)).setCell ⟨gb319, 1, none⟩ (.int .i64 t316)).heap[gb314]? = some (.cells #[.int .i64 0, .int .i64 0, .int .i64 0, .int .i64 0] 53 (0, 0))) := ⟨by (with_reducible repeat (first | refine blk_drewN ?_ _ | refine blk_drew ?_ | refine blk_alloc ?_ _)); refine blk_far ?_ NB314_319.out _; (with_reducible repeat (first | refine blk_drewN ?_ _ | refine blk_drew ?_ | refine blk_alloc ?_ _)); refine blk_far ?_ NB314_319.out _; (with_reducible repeat (first | refine blk_drewN ?_ _ | refine blk_drew ?_ | refine blk_alloc ?_ _)); exact BK314.out⟩
  have n1_ : Aside0 (((w8.setCell ⟨gb319, 0, none⟩ (.int .i64 t315)).setCell ⟨gb319, 1, none⟩ (.int .i64 t316)).heap[gb319]? = some (.cells #[.int .i64 t315, .int .i64 t316] 27 (0, 0))) := ⟨by (with_reducible repeat (first | refine blk_drewN ?_ _ | refine blk_drew ?_ | refine blk_alloc ?_ _)); refine blk_put (cs := #[.int .i64 t315, .int .i64 0]) ?_ 1 _ rfl; (with_reducible repeat (first | refine blk_drewN ?_ _ | refine blk_drew ?_ | refine blk_alloc ?_ _)); refine blk_put (cs := #[.int .i64 0, .int .i64 0]) ?_ 0 _ rfl; (with_reducible repeat (first | refine blk_drewN ?_ _ | refine blk_drew ?_ | refine blk_alloc ?_ _)); exact BK319.out⟩
  have n2_ : Aside0 (IsS109 w0 ((w8.setCell ⟨gb319, 0, none⟩ (.int .i64 t315)).setCell ⟨gb319, 1, none⟩ (.int .i64 t316)) g s0_0 t317 t318) := ⟨by repeat (first | (with_reducible first | exact HI0.out | apply IsS109.alloc | apply IsS109.drewN | apply IsS109.drew | apply IsS109.set_1 | apply IsS109.set_2 | refine IsS109.far ?_ NB0_314.out _ | refine IsS109.far ?_ NB0_319.out _) | exact HI0.out)⟩
  have n3_ : Aside0 (KeepBut w ((w8.setCell ⟨gb319, 0, none⟩ (.int .i64 t315)).setCell ⟨gb319, 1, none⟩ (.int .i64 t316)) g none) := ⟨by repeat (first | (with_reducible first | exact HK.out | apply KeepBut.set_ | apply keep_drewN | apply keep_drew | apply keep_alloc | refine keep_far ?_ GW314.out _ | refine keep_far ?_ GW319.out _) | exact HK.out)⟩
  have n4_ : Aside0 (Below w0.heap.size w0 ((w8.setCell ⟨gb319, 0, none⟩ (.int .i64 t315)).setCell ⟨gb319, 1, none⟩ (.int .i64 t316))) := ⟨by repeat (first | (with_reducible first | exact HB.out | apply below_alloc | apply pw_below_drewN | apply below_drew1 | refine below_set ?_ (IsS109.ge HI0.out) | refine below_set ?_ GE314.out | refine below_set ?_ GE319.out) | exact HB.out)⟩
  (try clear BK314)
  (try clear BK319)
  (try clear HI0)
  (try clear HK)
  (try clear HB)
  generalize ((w8.setCell ⟨gb319, 0, none⟩ (.int .i64 t315)).setCell ⟨gb319, 1, none⟩ (.int .i64 t316)) = w12 at n0_ n1_ n2_ n3_ n4_ ⊢
  have BK314 := n0_
  have BK319 := n1_
  have HI0 := n2_
  have HK := n3_
  have HB := n4_
  clear n0_ n1_ n2_ n3_ n4_
  replace BK314 := Aside0.mk (blk_drew BK314.out)
  replace BK319 := Aside0.mk (blk_drew BK319.out)
  replace HI0 := Aside0.mk (IsS109.drew HI0.out)
  replace HK := Aside0.mk (keep_drew HK.out)
  replace HB := Aside0.mk (below_drew1 HB.out)
  refine start_ (n := 7) (S := fun w' => w'.cell? ⟨gb319, 0, none⟩ = some (.int .i64 t315) ∧ w'.cell? ⟨gb319, 1, none⟩ = some (.int .i64 t316)) (ds := []) #[false, false, false, false, false, false, false] (by kernel_rfl) rfl rfl ⟨(blk_cell BK319.out 0).trans rfl, (blk_cell BK319.out 1).trans rfl⟩ (fun hHeld => ?_)
  generalize w12.drew = w13 at BK314 BK319 HI0 HK HB hHeld ⊢
  refine pure_ (i := 0) (N := some 7) (v := ?_) (a' := ?_) #[true, false, false, false, false, false, false] rfl rfl (by kernel_rfl) (fun _ _ _ h => h) (Or.inl ⟨by rfl, ?_⟩) ?_ ?_
  rotate_left
  ·
   intro w'
   go_simp
   with_reducible rfl
  rotate_left
  ·
   simp only [Act.put, List.setIfInBounds_toArray, List.set_cons_zero, List.set_cons_succ, i64_w, i32_w]
   rfl
  refine pure_ (i := 2) (N := some 9) (v := ?_) (a' := ?_) #[true, false, true, false, false, false, false] rfl rfl (by kernel_rfl) (fun _ _ _ h => h) (Or.inl ⟨by rfl, ?_⟩) ?_ ?_
  rotate_left
  ·
   intro w'
   go_simp
   with_reducible rfl
  rotate_left
  ·
   simp only [Act.put, List.setIfInBounds_toArray, List.set_cons_zero, List.set_cons_succ, i64_w, i32_w]
   rfl
  refine take_ (i := 3) (N := some 10) (v := ?_) (a' := ?_) #[true, false, true, true, false, false, false] rfl rfl (by kernel_rfl) (fun _ _ _ h => h) (Or.inl ⟨by rfl, ?_⟩) hHeld ?_ ?_
  rotate_left
  ·
   rintro w' ⟨s0, s1⟩
   go_simp
   with_reducible rfl
  rotate_left
  ·
   simp only [Act.put, List.setIfInBounds_toArray, List.set_cons_zero, List.set_cons_succ, i64_w, i32_w]
   rfl
  refine join_ (σ := Nat) 1 #[true, true, true, true, true, true, false] (fun s_ => [(8, .int .i64 t320), (4, .pointer (some ⟨s_, 0, none⟩)), (11, .agg #[.int .i64 t320, .int .i64 t316])]) (fun s_ w' => (w'.cell? ⟨gb319, 0, none⟩ = some (.int .i64 t315) ∧ w'.cell? ⟨gb319, 1, none⟩ = some (.int .i64 t316)) ∧ (w'.heap[gb314]? = some (.cells #[.int .i64 0, .int .i64 0, .int .i64 0, .int .i64 0] 53 (0, 0))) ∧ (w'.heap[gb319]? = some (.cells #[.int .i64 t315, .int .i64 t316] 27 (0, 0))) ∧ (w'.heap[s_]? = some (.cells #[.int .i64 0, .int .i64 0] 27 (0, 0))) ∧ (w.heap.size ≤ s_) ∧ (w0.heap.size ≤ s_) ∧ (g ≠ s_) ∧ (s_ ≠ g) ∧ (gb314 ≠ s_) ∧ (s_ ≠ gb314) ∧ (gb319 ≠ s_) ∧ (s_ ≠ gb319) ∧ (IsS109 w0 w' g s0_0 t321 t322) ∧ (KeepBut w w' g none) ∧ (Below w0.heap.size w0 w')) ?_ ?_
  rotate_left
  ·
   intro hCont
   refine two_ (i := 1) (j := 5) (Ni := some 8) (Nj := some 4) #[true, true, true, true, false, false, false] #[true, false, true, true, false, true, false] rfl rfl rfl rfl (by kernel_rfl) (by decide) (by decide) (fun K hK => ?_) (fun K hK => ?_)
   ·
    skip
    refine goes_ Try.func89 (by kernel_rfl) rfl #[.pointer (some ⟨g, 0, none⟩), .int .i64 12] (by rfl) rfl rfl Hd.m_ ?_
    with_reducible refine (spec_l1Below.calls g s0_0 t317 t318 12 t320 t321 t322 w0 _ ?side1 ?side2 A3.out).mono ?_
    (case side1 => repeat (first | (with_reducible first | exact HI0.out | apply IsS109.alloc | apply IsS109.drewN | apply IsS109.drew | apply IsS109.set_1 | apply IsS109.set_2 | refine IsS109.far ?_ NB0_314.out _ | refine IsS109.far ?_ NB0_319.out _) | exact HI0.out))
    (case side2 => repeat (first | (with_reducible first | exact HB.out | apply below_alloc | apply pw_below_drewN | apply below_drew1 | refine below_set ?_ (IsS109.ge HI0.out) | refine below_set ?_ GE314.out | refine below_set ?_ GE319.out) | exact HB.out))
    rintro e w14 ⟨rfl, hi, hb, hk⟩
    refine ⟨_, rfl, ?_⟩
    replace BK314 := Aside0.mk (KeepBut.blk hk (g' := gb314) (o := .cells #[.int .i64 0, .int .i64 0, .int .i64 0, .int .i64 0] 53 (0, 0)) (Hd.k_ BK314) NB314_0.out (by simp))
    replace BK319 := Aside0.mk (KeepBut.blk hk (g' := gb319) (o := .cells #[.int .i64 t315, .int .i64 t316] 27 (0, 0)) (Hd.k_ BK319) NB319_0.out (by simp))
    replace HK := Aside0.mk (KeepBut.trans (by repeat (first | (with_reducible first | exact HK.out | apply KeepBut.set_ | apply keep_drewN | apply keep_drew | apply keep_alloc | refine keep_far ?_ GW314.out _ | refine keep_far ?_ GW319.out _) | exact HK.out)) hk (.inl rfl))
    replace HB := Aside0.mk (hb)
    replace HI0 := Aside0.mk (hi)
    (try clear hb)
    (try clear hb2)
    (try clear hk)
    (try clear hi)
    refine hK.out _ _ ⟨(blk_cell BK319.out 0).trans rfl, (blk_cell BK319.out 1).trans rfl⟩ (fun hHeld => ?_)
    clear hK K
    refine Hd.n_ (some 8) ?_
    refine pure_ (i := 4) (N := some 11) (v := ?_) (a' := ?_) #[true, true, true, true, true, false, false] rfl rfl (by kernel_rfl) (fun _ _ _ h => h) (Or.inl ⟨by rfl, ?_⟩) ?_ ?_
    rotate_left
    ·
     intro w'
     go_simp
     with_reducible rfl
    rotate_left
    ·
     simp only [Act.put, List.setIfInBounds_toArray, List.set_cons_zero, List.set_cons_succ, i64_w, i32_w]
     rfl
    refine one_ (i := 5) (N := some 4) #[true, true, true, true, true, true, false] rfl rfl (by kernel_rfl) (by decide) (fun K hK => ?_)
    refine box_step ?hg (N := 4) ?hd (cs := #[.int .i64 0, .int .i64 0]) (t := 27) ?hr ?_; (case hd => rfl); (case hg => rfl); (case hr => first | (go_simp; done) | (go_simp; rfl))
    intro gb323 hg w15 hbox hb
    replace HB := Aside0.mk (below_step (by repeat (first | (with_reducible first | exact HB.out | apply below_alloc | apply pw_below_drewN | apply below_drew1 | refine below_set ?_ (IsS109.ge HI0.out) | refine below_set ?_ GE314.out | refine below_set ?_ GE319.out) | exact HB.out)) hb)
    have BK323 := Aside0.mk (hbox)
    have GW323 := Aside0.mk ((by rw [hg]; exact (keep_size (w := w) (g := g) (row := none) (by repeat (first | (with_reducible first | exact HK.out | apply KeepBut.set_ | apply keep_drewN | apply keep_drew | apply keep_alloc | refine keep_far ?_ GW314.out _ | refine keep_far ?_ GW319.out _) | exact HK.out))) : w.heap.size ≤ gb323))
    have GE323 := Aside0.mk ((Nat.le_trans HW0.out (by rw [hg]; exact (keep_size (w := w) (g := g) (row := none) (by repeat (first | (with_reducible first | exact HK.out | apply KeepBut.set_ | apply keep_drewN | apply keep_drew | apply keep_alloc | refine keep_far ?_ GW314.out _ | refine keep_far ?_ GW319.out _) | exact HK.out))) : w.heap.size ≤ gb323) : w0.heap.size ≤ gb323))
    replace HK := Aside0.mk (KeepBut.trans (by repeat (first | (with_reducible first | exact HK.out | apply KeepBut.set_ | apply keep_drewN | apply keep_drew | apply keep_alloc | refine keep_far ?_ GW314.out _ | refine keep_far ?_ GW319.out _) | exact HK.out)) (KeepBut.of_below hb g none) (.inl rfl))
    have NB314_323 := Aside0.mk ((Hd.lt_ BK314 hg))
    have NB323_314 := Aside0.mk ((Hd.gt_ BK314 hg))
    replace BK314 := Aside0.mk (Hd.kb_ BK314 hb)
    have NB319_323 := Aside0.mk ((Hd.lt_ BK319 hg))
    have NB323_319 := Aside0.mk ((Hd.gt_ BK319 hg))
    replace BK319 := Aside0.mk (Hd.kb_ BK319 hb)
    have NB0_323 := Aside0.mk ((by rw [hg]; exact Nat.ne_of_lt (IsS109.lt (show IsS109 w0 _ g s0_0 t321 t322 from by repeat (first | (with_reducible first | exact HI0.out | apply IsS109.alloc | apply IsS109.drewN | apply IsS109.drew | apply IsS109.set_1 | apply IsS109.set_2 | refine IsS109.far ?_ NB0_314.out _ | refine IsS109.far ?_ NB0_319.out _) | exact HI0.out))) : g ≠ gb323))
    have NB323_0 := Aside0.mk ((by rw [hg]; exact Nat.ne_of_gt (IsS109.lt (show IsS109 w0 _ g s0_0 t321 t322 from by repeat (first | (with_reducible first | exact HI0.out | apply IsS109.alloc | apply IsS109.drewN | apply IsS109.drew | apply IsS109.set_1 | apply IsS109.set_2 | refine IsS109.far ?_ NB0_314.out _ | refine IsS109.far ?_ NB0_319.out _) | exact HI0.out))) : gb323 ≠ g))
    replace HI0 := Aside0.mk (IsS109.below (by repeat (first | (with_reducible first | exact HI0.out | apply IsS109.alloc | apply IsS109.drewN | apply IsS109.drew | apply IsS109.set_1 | apply IsS109.set_2 | refine IsS109.far ?_ NB0_314.out _ | refine IsS109.far ?_ NB0_319.out _) | exact HI0.out)) hb)
    clear hb hbox hg
    refine hK.out _ _ ⟨(blk_cell BK319.out 0).trans rfl, (blk_cell BK319.out 1).trans rfl⟩ (fun hHeld => ?_)
    clear hK K
    refine Hd.n_ (some 4) ?_
    exact norm_ (by simp only [putAll, Act.put, List.setIfInBounds_toArray, List.set_cons_zero, List.set_cons_succ]) (hCont (gb323) _ ⟨hHeld, (Hd.k_ BK314), (Hd.k_ BK319), (Hd.k_ BK323), GW323.out, GE323.out, NB0_323.out, NB323_0.out, NB314_323.out, NB323_314.out, NB319_323.out, NB323_319.out, (by repeat (first | (with_reducible first | exact HI0.out | apply IsS109.alloc | apply IsS109.drewN | apply IsS109.drew | apply IsS109.set_1 | apply IsS109.set_2 | refine IsS109.far ?_ NB0_314.out _ | refine IsS109.far ?_ NB0_319.out _ | refine IsS109.far ?_ NB0_323.out _) | exact HI0.out)), (by repeat (first | (with_reducible first | exact HK.out | apply KeepBut.set_ | apply keep_drewN | apply keep_drew | apply keep_alloc | refine keep_far ?_ GW314.out _ | refine keep_far ?_ GW319.out _ | refine keep_far ?_ GW323.out _) | exact HK.out)), (by repeat (first | (with_reducible first | exact HB.out | apply below_alloc | apply pw_below_drewN | apply below_drew1 | refine below_set ?_ (IsS109.ge HI0.out) | refine below_set ?_ GE314.out | refine below_set ?_ GE319.out | refine below_set ?_ GE323.out) | exact HB.out))⟩)
   ·
    skip
    refine box_step ?hg (N := 4) ?hd (cs := #[.int .i64 0, .int .i64 0]) (t := 27) ?hr ?_; (case hd => rfl); (case hg => rfl); (case hr => first | (go_simp; done) | (go_simp; rfl))
    intro gb323 hg w14 hbox hb
    replace HB := Aside0.mk (below_step (by repeat (first | (with_reducible first | exact HB.out | apply below_alloc | apply pw_below_drewN | apply below_drew1 | refine below_set ?_ (IsS109.ge HI0.out) | refine below_set ?_ GE314.out | refine below_set ?_ GE319.out) | exact HB.out)) hb)
    have BK323 := Aside0.mk (hbox)
    have GW323 := Aside0.mk ((by rw [hg]; exact (keep_size (w := w) (g := g) (row := none) (by repeat (first | (with_reducible first | exact HK.out | apply KeepBut.set_ | apply keep_drewN | apply keep_drew | apply keep_alloc | refine keep_far ?_ GW314.out _ | refine keep_far ?_ GW319.out _) | exact HK.out))) : w.heap.size ≤ gb323))
    have GE323 := Aside0.mk ((Nat.le_trans HW0.out (by rw [hg]; exact (keep_size (w := w) (g := g) (row := none) (by repeat (first | (with_reducible first | exact HK.out | apply KeepBut.set_ | apply keep_drewN | apply keep_drew | apply keep_alloc | refine keep_far ?_ GW314.out _ | refine keep_far ?_ GW319.out _) | exact HK.out))) : w.heap.size ≤ gb323) : w0.heap.size ≤ gb323))
    replace HK := Aside0.mk (KeepBut.trans (by repeat (first | (with_reducible first | exact HK.out | apply KeepBut.set_ | apply keep_drewN | apply keep_drew | apply keep_alloc | refine keep_far ?_ GW314.out _ | refine keep_far ?_ GW319.out _) | exact HK.out)) (KeepBut.of_below hb g none) (.inl rfl))
    have NB314_323 := Aside0.mk ((Hd.lt_ BK314 hg))
    have NB323_314 := Aside0.mk ((Hd.gt_ BK314 hg))
    replace BK314 := Aside0.mk (Hd.kb_ BK314 hb)
    have NB319_323 := Aside0.mk ((Hd.lt_ BK319 hg))
    have NB323_319 := Aside0.mk ((Hd.gt_ BK319 hg))
    replace BK319 := Aside0.mk (Hd.kb_ BK319 hb)
    have NB0_323 := Aside0.mk ((by rw [hg]; exact Nat.ne_of_lt (IsS109.lt (show IsS109 w0 _ g s0_0 t317 t318 from by repeat (first | (with_reducible first | exact HI0.out | apply IsS109.alloc | apply IsS109.drewN | apply IsS109.drew | apply IsS109.set_1 | apply IsS109.set_2 | refine IsS109.far ?_ NB0_314.out _ | refine IsS109.far ?_ NB0_319.out _) | exact HI0.out))) : g ≠ gb323))
    have NB323_0 := Aside0.mk ((by rw [hg]; exact Nat.ne_of_gt (IsS109.lt (show IsS109 w0 _ g s0_0 t317 t318 from by repeat (first | (with_reducible first | exact HI0.out | apply IsS109.alloc | apply IsS109.drewN | apply IsS109.drew | apply IsS109.set_1 | apply IsS109.set_2 | refine IsS109.far ?_ NB0_314.out _ | refine IsS109.far ?_ NB0_319.out _) | exact HI0.out))) : gb323 ≠ g))
    replace HI0 := Aside0.mk (IsS109.below (by repeat (first | (with_reducible first | exact HI0.out | apply IsS109.alloc | apply IsS109.drewN | apply IsS109.drew | apply IsS109.set_1 | apply IsS109.set_2 | refine IsS109.far ?_ NB0_314.out _ | refine IsS109.far ?_ NB0_319.out _) | exact HI0.out)) hb)
    clear hb hbox hg
    refine hK.out _ _ ⟨(blk_cell BK319.out 0).trans rfl, (blk_cell BK319.out 1).trans rfl⟩ (fun hHeld => ?_)
    clear hK K
    refine Hd.n_ (some 4) ?_
    refine one_ (i := 1) (N := some 8) #[true, true, true, true, false, true, false] rfl rfl (by kernel_rfl) (by decide) (fun K hK => ?_)
    refine goes_ Try.func89 (by kernel_rfl) rfl #[.pointer (some ⟨g, 0, none⟩), .int .i64 12] (by rfl) rfl rfl Hd.m_ ?_
    with_reducible refine (spec_l1Below.calls g s0_0 t317 t318 12 t320 t321 t322 w0 _ ?side1 ?side2 A3.out).mono ?_
    (case side1 => repeat (first | (with_reducible first | exact HI0.out | apply IsS109.alloc | apply IsS109.drewN | apply IsS109.drew | apply IsS109.set_1 | apply IsS109.set_2 | refine IsS109.far ?_ NB0_314.out _ | refine IsS109.far ?_ NB0_319.out _ | refine IsS109.far ?_ NB0_323.out _) | exact HI0.out))
    (case side2 => repeat (first | (with_reducible first | exact HB.out | apply below_alloc | apply pw_below_drewN | apply below_drew1 | refine below_set ?_ (IsS109.ge HI0.out) | refine below_set ?_ GE314.out | refine below_set ?_ GE319.out | refine below_set ?_ GE323.out) | exact HB.out))
    rintro e w15 ⟨rfl, hi, hb, hk⟩
    refine ⟨_, rfl, ?_⟩
    replace BK314 := Aside0.mk (KeepBut.blk hk (g' := gb314) (o := .cells #[.int .i64 0, .int .i64 0, .int .i64 0, .int .i64 0] 53 (0, 0)) (Hd.k_ BK314) NB314_0.out (by simp))
    replace BK319 := Aside0.mk (KeepBut.blk hk (g' := gb319) (o := .cells #[.int .i64 t315, .int .i64 t316] 27 (0, 0)) (Hd.k_ BK319) NB319_0.out (by simp))
    replace BK323 := Aside0.mk (KeepBut.blk hk (g' := gb323) (o := .cells #[.int .i64 0, .int .i64 0] 27 (0, 0)) (Hd.k_ BK323) NB323_0.out (by simp))
    replace HK := Aside0.mk (KeepBut.trans (by repeat (first | (with_reducible first | exact HK.out | apply KeepBut.set_ | apply keep_drewN | apply keep_drew | apply keep_alloc | refine keep_far ?_ GW314.out _ | refine keep_far ?_ GW319.out _ | refine keep_far ?_ GW323.out _) | exact HK.out)) hk (.inl rfl))
    replace HB := Aside0.mk (hb)
    replace HI0 := Aside0.mk (hi)
    (try clear hb)
    (try clear hb2)
    (try clear hk)
    (try clear hi)
    refine hK.out _ _ ⟨(blk_cell BK319.out 0).trans rfl, (blk_cell BK319.out 1).trans rfl⟩ (fun hHeld => ?_)
    clear hK K
    refine Hd.n_ (some 8) ?_
    refine pure_ (i := 4) (N := some 11) (v := ?_) (a' := ?_) #[true, true, true, true, true, true, false] rfl rfl (by kernel_rfl) (fun _ _ _ h => h) (Or.inl ⟨by rfl, ?_⟩) ?_ ?_
    rotate_left
    ·
     intro w'
     go_simp
     with_reducible rfl
    rotate_left
    ·
     simp only [Act.put, List.setIfInBounds_toArray, List.set_cons_zero, List.set_cons_succ, i64_w, i32_w]
     rfl
    exact norm_ (by simp only [putAll, Act.put, List.setIfInBounds_toArray, List.set_cons_zero, List.set_cons_succ]) (hCont (gb323) _ ⟨hHeld, (Hd.k_ BK314), (Hd.k_ BK319), (Hd.k_ BK323), GW323.out, GE323.out, NB0_323.out, NB323_0.out, NB314_323.out, NB323_314.out, NB319_323.out, NB323_319.out, (by repeat (first | (with_reducible first | exact HI0.out | apply IsS109.alloc | apply IsS109.drewN | apply IsS109.drew | apply IsS109.set_1 | apply IsS109.set_2 | refine IsS109.far ?_ NB0_314.out _ | refine IsS109.far ?_ NB0_319.out _ | refine IsS109.far ?_ NB0_323.out _) | exact HI0.out)), (by repeat (first | (with_reducible first | exact HK.out | apply KeepBut.set_ | apply keep_drewN | apply keep_drew | apply keep_alloc | refine keep_far ?_ GW314.out _ | refine keep_far ?_ GW319.out _ | refine keep_far ?_ GW323.out _) | exact HK.out)), (by repeat (first | (with_reducible first | exact HB.out | apply below_alloc | apply pw_below_drewN | apply below_drew1 | refine below_set ?_ (IsS109.ge HI0.out) | refine below_set ?_ GE314.out | refine below_set ?_ GE319.out | refine below_set ?_ GE323.out) | exact HB.out))⟩)
  rintro gb323 w16 ⟨hS_, h0_, h1_, h2_, h3_, h4_, h5_, h6_, h7_, h8_, h9_, h10_, h11_, h12_, h13_⟩
  have n0_ : Aside0 (w16.heap[gb314]? = some (.cells #[.int .i64 0, .int .i64 0, .int .i64 0, .int .i64 0] 53 (0, 0))) := ⟨h0_⟩
  have n1_ : Aside0 (w16.heap[gb319]? = some (.cells #[.int .i64 t315, .int .i64 t316] 27 (0, 0))) := ⟨h1_⟩
  have n2_ : Aside0 (w16.heap[gb323]? = some (.cells #[.int .i64 0, .int .i64 0] 27 (0, 0))) := ⟨h2_⟩
  have n3_ : Aside0 (w.heap.size ≤ gb323) := ⟨h3_⟩
  have n4_ : Aside0 (w0.heap.size ≤ gb323) := ⟨h4_⟩
  have n5_ : Aside0 (g ≠ gb323) := ⟨h5_⟩
  have n6_ : Aside0 (gb323 ≠ g) := ⟨h6_⟩
  have n7_ : Aside0 (gb314 ≠ gb323) := ⟨h7_⟩
  have n8_ : Aside0 (gb323 ≠ gb314) := ⟨h8_⟩
  have n9_ : Aside0 (gb319 ≠ gb323) := ⟨h9_⟩
  have n10_ : Aside0 (gb323 ≠ gb319) := ⟨h10_⟩
  have n11_ : Aside0 (IsS109 w0 w16 g s0_0 t321 t322) := ⟨h11_⟩
  have n12_ : Aside0 (KeepBut w w16 g none) := ⟨h12_⟩
  have n13_ : Aside0 (Below w0.heap.size w0 w16) := ⟨h13_⟩
  clear BK314
  clear BK319
  clear HI0
  clear HK
  clear HB
  clear h0_ h1_ h2_ h3_ h4_ h5_ h6_ h7_ h8_ h9_ h10_ h11_ h12_ h13_
  have BK314 := n0_
  have BK319 := n1_
  have BK323 := n2_
  have GW323 := n3_
  have GE323 := n4_
  have NB0_323 := n5_
  have NB323_0 := n6_
  have NB314_323 := n7_
  have NB323_314 := n8_
  have NB319_323 := n9_
  have NB323_319 := n10_
  have HI0 := n11_
  have HK := n12_
  have HB := n13_
  clear n0_ n1_ n2_ n3_ n4_ n5_ n6_ n7_ n8_ n9_ n10_ n11_ n12_ n13_
  have hHeld : w16.cell? ⟨gb319, 0, none⟩ = some (.int .i64 t315) ∧ w16.cell? ⟨gb319, 1, none⟩ = some (.int .i64 t316) := hS_
  refine norm_ (a' := ?_) ?_ ?_
  rotate_left
  ·
   simp only [putAll, Act.put, List.setIfInBounds_toArray, List.set_cons_zero, List.set_cons_succ]
   rfl
  refine one_ (i := 6) (N := none) #[true, true, true, true, true, true, true] rfl rfl (by kernel_rfl) (by decide) (fun K hK => ?_)
  have hs17 : w16.cell? ⟨gb323, 0, none⟩ = some (.int .i64 0) := (blk_cell BK323.out 0).trans rfl
  have hfs17 := blk_frozen BK323.out 0
  have hns17_0 := NB314_323.out
  have hns17_1 := NB319_323.out
  have hms17_0 := NB323_314.out
  have hms17_1 := NB323_319.out
  have hs18 : w16.cell? ⟨gb323, 1, none⟩ = some (.int .i64 0) := (blk_cell BK323.out 1).trans rfl
  have hfs18 := blk_frozen BK323.out 1
  have hns18_0 := NB314_323.out
  have hns18_1 := NB319_323.out
  have hms18_0 := NB323_314.out
  have hms18_1 := NB323_319.out
  refine skip_ (w1 := ?_) (by rfl) rfl ?_ ?_
  rotate_left
  ·
   go_simp
   rfl
  refine hK.out _ _ ⟨((cell_far (p := ⟨gb323, _, none⟩) NB319_323.out _).trans (((cell_far (p := ⟨gb323, _, none⟩) NB319_323.out _).trans (hHeld.1)))), ((cell_far (p := ⟨gb323, _, none⟩) NB319_323.out _).trans (((cell_far (p := ⟨gb323, _, none⟩) NB319_323.out _).trans (hHeld.2))))⟩ (fun hHeld => ?_)
  clear hK K
  refine done_ (by kernel_rfl) ?_
  try go_wp2_with (first | ((with_reducible refine gate_callee (f := 99) rfl ?_); refine goesL_ (some 13) rfl rfl Try.func99 (by kernel_rfl) rfl #[.pointer (some ⟨g, 0, none⟩), .int .i64 3] rfl Hd.m_ ?_; (with_reducible refine (spec_l1Once.calls g s0_0 t321 t322 3 true t325 t326 w0 _ ?side1 ?side2 A4.out).mono ?_); (case side1 => repeat (first | (with_reducible first | exact HI0.out | apply IsS109.alloc | apply IsS109.drewN | apply IsS109.drew | apply IsS109.set_1 | apply IsS109.set_2 | refine IsS109.far ?_ NB0_314.out _ | refine IsS109.far ?_ NB0_319.out _ | refine IsS109.far ?_ NB0_323.out _) | exact HI0.out)); (case side2 => repeat (first | (with_reducible first | exact HB.out | apply below_alloc | apply pw_below_drewN | apply below_drew1 | refine below_set ?_ (IsS109.ge HI0.out) | refine below_set ?_ GE314.out | refine below_set ?_ GE319.out | refine below_set ?_ GE323.out) | exact HB.out)); rintro e w19 ⟨rfl, hi, hb, hk⟩; refine ⟨_, rfl, ?_⟩; replace BK314 := Aside0.mk (KeepBut.blk hk (g' := gb314) (o := .cells #[.int .i64 0, .int .i64 0, .int .i64 0, .int .i64 0] 53 (0, 0)) (by (with_reducible repeat (first | refine blk_drewN ?_ _ | refine blk_drew ?_ | refine blk_alloc ?_ _)); refine blk_far ?_ NB314_323.out _; (with_reducible repeat (first | refine blk_drewN ?_ _ | refine blk_drew ?_ | refine blk_alloc ?_ _)); refine blk_far ?_ NB314_323.out _; (with_reducible repeat (first | refine blk_drewN ?_ _ | refine blk_drew ?_ | refine blk_alloc ?_ _)); exact BK314.out) NB314_0.out (by simp)); replace BK319 := Aside0.mk (KeepBut.blk hk (g' := gb319) (o := .cells #[.int .i64 t315, .int .i64 t316] 27 (0, 0)) (by (with_reducible repeat (first | refine blk_drewN ?_ _ | refine blk_drew ?_ | refine blk_alloc ?_ _)); refine blk_far ?_ NB319_323.out _; (with_reducible repeat (first | refine blk_drewN ?_ _ | refine blk_drew ?_ | refine blk_alloc ?_ _)); refine blk_far ?_ NB319_323.out _; (with_reducible repeat (first | refine blk_drewN ?_ _ | refine blk_drew ?_ | refine blk_alloc ?_ _)); exact BK319.out) NB319_0.out (by simp)); replace BK323 := Aside0.mk (KeepBut.blk hk (g' := gb323) (o := .cells #[.int .i64 t320, .int .i64 t316] 27 (0, 0)) (by (with_reducible repeat (first | refine blk_drewN ?_ _ | refine blk_drew ?_ | refine blk_alloc ?_ _)); refine blk_put (cs := #[.int .i64 t320, .int .i64 0]) ?_ 1 _ rfl; (with_reducible repeat (first | refine blk_drewN ?_ _ | refine blk_drew ?_ | refine blk_alloc ?_ _)); refine blk_put (cs := #[.int .i64 0, .int .i64 0]) ?_ 0 _ rfl; (with_reducible repeat (first | refine blk_drewN ?_ _ | refine blk_drew ?_ | refine blk_alloc ?_ _)); exact BK323.out) NB323_0.out (by simp)); replace HK := Aside0.mk (KeepBut.trans (by repeat (first | (with_reducible first | exact HK.out | apply KeepBut.set_ | apply keep_drewN | apply keep_drew | apply keep_alloc | refine keep_far ?_ GW314.out _ | refine keep_far ?_ GW319.out _ | refine keep_far ?_ GW323.out _) | exact HK.out)) hk (.inl rfl)); replace HB := Aside0.mk (hb); replace HI0 := Aside0.mk (hi); (try clear hb); (try clear hb2); (try clear hk); (try clear hi); have hnb20 := NB319_323.out; have hnc20 := NB323_319.out; obtain ⟨hcz21_0, hcz21_1⟩ := Hd.c2_ BK319.out; obtain ⟨hfz21_0, hfz21_1⟩ := Hd.f2_ BK319.out; have hnb22 := NB323_314.out; have hnc22 := NB314_323.out; have hnb23 := NB323_0.out; have hnc23 := NB0_323.out; obtain ⟨hcz24_0, hcz24_1⟩ := Hd.c2_ BK323.out; obtain ⟨hfz24_0, hfz24_1⟩ := Hd.f2_ BK323.out; have hnb25 := NB314_0.out; have hnc25 := NB0_314.out; obtain ⟨hcz26_0, hcz26_1, hcz26_2, hcz26_3⟩ := Hd.c4_ BK314.out; obtain ⟨hfz26_0, hfz26_1, hfz26_2, hfz26_3⟩ := Hd.f4_ BK314.out))
  refine bodyPost_ret (results_cell_row rfl _ _ gb314 53 #[.int .i64 t315, .int .i64 t316, .int .i64 t320, .int .i64 t316] (0, 0) _ rfl (by (with_reducible repeat (first | refine blk_drewN ?_ _ | refine blk_drew ?_ | refine blk_alloc ?_ _)); refine blk_put (cs := #[.int .i64 t315, .int .i64 t316, .int .i64 t320, .int .i64 0]) ?_ 3 _ rfl; (with_reducible repeat (first | refine blk_drewN ?_ _ | refine blk_drew ?_ | refine blk_alloc ?_ _)); refine blk_put (cs := #[.int .i64 t315, .int .i64 t316, .int .i64 0, .int .i64 0]) ?_ 2 _ rfl; (with_reducible repeat (first | refine blk_drewN ?_ _ | refine blk_drew ?_ | refine blk_alloc ?_ _)); refine blk_put (cs := #[.int .i64 t315, .int .i64 0, .int .i64 0, .int .i64 0]) ?_ 1 _ rfl; (with_reducible repeat (first | refine blk_drewN ?_ _ | refine blk_drew ?_ | refine blk_alloc ?_ _)); refine blk_put (cs := #[.int .i64 0, .int .i64 0, .int .i64 0, .int .i64 0]) ?_ 0 _ rfl; (with_reducible repeat (first | refine blk_drewN ?_ _ | refine blk_drew ?_ | refine blk_alloc ?_ _)); exact BK314.out) Try.underlying53 rfl (by kernel_rfl)) rfl ?_
  exact ⟨Hd.e_, by repeat (first | (with_reducible first | exact HI0.out | apply IsS109.alloc | apply IsS109.drewN | apply IsS109.drew | apply IsS109.set_1 | apply IsS109.set_2 | refine IsS109.far ?_ NB0_314.out _ | refine IsS109.far ?_ NB0_319.out _ | refine IsS109.far ?_ NB0_323.out _) | exact HI0.out), by repeat (first | (with_reducible first | exact HB.out | apply below_alloc | apply pw_below_drewN | apply below_drew1 | refine below_set ?_ (IsS109.ge HI0.out) | refine below_set ?_ GE314.out | refine below_set ?_ GE319.out | refine below_set ?_ GE323.out) | exact HB.out), by repeat (first | (with_reducible first | exact HK.out | apply KeepBut.set_ | apply keep_drewN | apply keep_drew | apply keep_alloc | refine keep_far ?_ GW314.out _ | refine keep_far ?_ GW319.out _ | refine keep_far ?_ GW323.out _) | exact HK.out)⟩
 ·
  replace c5 := Bool.eq_false_iff.mpr c5
  subst c5
  have H1 : ((spec_l1Below.f s0_0 t325 t326 12).bind fun bt327 => (some (t315, t316, t320, bt327.1, bt327.2.1, bt327.2.2))) = some (r1, r2, r3, r4, r5, r6) := by rw [if_neg (show ¬ (false = true) by decide)] at H; exact H
  clear H
  have H := H1
  clear H1
  replace H := Option.bind_eq_some_iff.mp H
  obtain ⟨⟨t327, t328, t329⟩, A270, H⟩ := H
  replace H : (some (t315, t316, t320, t327, t328, t329)) = some (r1, r2, r3, r4, r5, r6) := H
  have A27 := Aside0.mk A270
  clear A270
  simp only [Option.some.injEq, Prod.mk.injEq] at H
  obtain ⟨rfl, rfl, rfl, rfl, rfl, rfl⟩ := H
  go_enter Try.func105, Try.ntmps105
  try go_wp2_with (first | ((with_reducible refine gate_dst (N := 2) rfl ?_); refine Hd.box_ 2 (#[.int .i64 0, .int .i64 0, .int .i64 0, .int .i64 0]) 53 ?_; intro gb314 hg w28 hbox hb; replace HB := Aside0.mk (below_step (by repeat (first | (with_reducible first | exact HB.out | apply below_alloc | apply pw_below_drewN | apply below_drew1 | refine below_set ?_ (IsS109.ge HI0.out)) | exact HB.out)) hb); have BK314 := Aside0.mk (hbox); have GW314 := Aside0.mk ((by rw [hg]; exact (keep_size (w := w) (g := g) (row := none) (by repeat (first | (with_reducible first | exact HK.out | apply KeepBut.set_ | apply keep_drewN | apply keep_drew | apply keep_alloc) | exact HK.out))) : w.heap.size ≤ gb314)); have GE314 := Aside0.mk ((Nat.le_trans HW0.out (by rw [hg]; exact (keep_size (w := w) (g := g) (row := none) (by repeat (first | (with_reducible first | exact HK.out | apply KeepBut.set_ | apply keep_drewN | apply keep_drew | apply keep_alloc) | exact HK.out))) : w.heap.size ≤ gb314) : w0.heap.size ≤ gb314)); replace HK := Aside0.mk (KeepBut.trans (by repeat (first | (with_reducible first | exact HK.out | apply KeepBut.set_ | apply keep_drewN | apply keep_drew | apply keep_alloc) | exact HK.out)) (KeepBut.of_below hb g none) (.inl rfl)); have NB0_314 := Aside0.mk ((by rw [hg]; exact Nat.ne_of_lt (IsS109.lt (show IsS109 w0 _ g s0_0 s0_1 s0_2 from by repeat (first | (with_reducible first | exact HI0.out | apply IsS109.alloc | apply IsS109.drewN | apply IsS109.drew | apply IsS109.set_1 | apply IsS109.set_2) | exact HI0.out))) : g ≠ gb314)); have NB314_0 := Aside0.mk ((by rw [hg]; exact Nat.ne_of_gt (IsS109.lt (show IsS109 w0 _ g s0_0 s0_1 s0_2 from by repeat (first | (with_reducible first | exact HI0.out | apply IsS109.alloc | apply IsS109.drewN | apply IsS109.drew | apply IsS109.set_1 | apply IsS109.set_2) | exact HI0.out))) : gb314 ≠ g)); replace HI0 := Aside0.mk (IsS109.below (by repeat (first | (with_reducible first | exact HI0.out | apply IsS109.alloc | apply IsS109.drewN | apply IsS109.drew | apply IsS109.set_1 | apply IsS109.set_2) | exact HI0.out)) hb); clear hb hbox hg) | ((with_reducible refine gate_callee (f := 106) rfl ?_); refine goesL_ (some 6) rfl rfl Try.func106 (by kernel_rfl) rfl #[.pointer (some ⟨g, 0, none⟩)] rfl Hd.m_ ?_; (with_reducible refine (spec_l4Draw.calls g s0_0 s0_1 s0_2 t315 t316 t317 t318 w0 _ ?side1 ?side2 A2.out).mono ?_); (case side1 => repeat (first | (with_reducible first | exact HI0.out | apply IsS109.alloc | apply IsS109.drewN | apply IsS109.drew | apply IsS109.set_1 | apply IsS109.set_2 | refine IsS109.far ?_ NB0_314.out _) | exact HI0.out)); (case side2 => repeat (first | (with_reducible first | exact HB.out | apply below_alloc | apply pw_below_drewN | apply below_drew1 | refine below_set ?_ (IsS109.ge HI0.out) | refine below_set ?_ GE314.out) | exact HB.out)); rintro e w29 ⟨rfl, hi, hb, hk⟩; refine ⟨_, rfl, ?_⟩; replace BK314 := Aside0.mk (KeepBut.blk hk (g' := gb314) (o := .cells #[.int .i64 0, .int .i64 0, .int .i64 0, .int .i64 0] 53 (0, 0)) (Hd.k_ BK314) NB314_0.out (by simp)); replace HK := Aside0.mk (KeepBut.trans (by repeat (first | (with_reducible first | exact HK.out | apply KeepBut.set_ | apply keep_drewN | apply keep_drew | apply keep_alloc | refine keep_far ?_ GW314.out _) | exact HK.out)) hk (.inl rfl)); replace HB := Aside0.mk (hb); replace HI0 := Aside0.mk (hi); (try clear hb); (try clear hb2); (try clear hk); (try clear hi)) | ((with_reducible refine gate_dst (N := 3) rfl ?_); refine Hd.box_ 3 (#[.int .i64 0, .int .i64 0]) 27 ?_; intro gb319 hg w30 hbox hb; replace HB := Aside0.mk (below_step (by repeat (first | (with_reducible first | exact HB.out | apply below_alloc | apply pw_below_drewN | apply below_drew1 | refine below_set ?_ (IsS109.ge HI0.out) | refine below_set ?_ GE314.out) | exact HB.out)) hb); have BK319 := Aside0.mk (hbox); have GW319 := Aside0.mk ((by rw [hg]; exact (keep_size (w := w) (g := g) (row := none) (by repeat (first | (with_reducible first | exact HK.out | apply KeepBut.set_ | apply keep_drewN | apply keep_drew | apply keep_alloc | refine keep_far ?_ GW314.out _) | exact HK.out))) : w.heap.size ≤ gb319)); have GE319 := Aside0.mk ((Nat.le_trans HW0.out (by rw [hg]; exact (keep_size (w := w) (g := g) (row := none) (by repeat (first | (with_reducible first | exact HK.out | apply KeepBut.set_ | apply keep_drewN | apply keep_drew | apply keep_alloc | refine keep_far ?_ GW314.out _) | exact HK.out))) : w.heap.size ≤ gb319) : w0.heap.size ≤ gb319)); replace HK := Aside0.mk (KeepBut.trans (by repeat (first | (with_reducible first | exact HK.out | apply KeepBut.set_ | apply keep_drewN | apply keep_drew | apply keep_alloc | refine keep_far ?_ GW314.out _) | exact HK.out)) (KeepBut.of_below hb g none) (.inl rfl)); have NB314_319 := Aside0.mk ((Hd.lt_ BK314 hg)); have NB319_314 := Aside0.mk ((Hd.gt_ BK314 hg)); replace BK314 := Aside0.mk (Hd.kb_ BK314 hb); have NB0_319 := Aside0.mk ((by rw [hg]; exact Nat.ne_of_lt (IsS109.lt (show IsS109 w0 _ g s0_0 t317 t318 from by repeat (first | (with_reducible first | exact HI0.out | apply IsS109.alloc | apply IsS109.drewN | apply IsS109.drew | apply IsS109.set_1 | apply IsS109.set_2 | refine IsS109.far ?_ NB0_314.out _) | exact HI0.out))) : g ≠ gb319)); have NB319_0 := Aside0.mk ((by rw [hg]; exact Nat.ne_of_gt (IsS109.lt (show IsS109 w0 _ g s0_0 t317 t318 from by repeat (first | (with_reducible first | exact HI0.out | apply IsS109.alloc | apply IsS109.drewN | apply IsS109.drew | apply IsS109.set_1 | apply IsS109.set_2 | refine IsS109.far ?_ NB0_314.out _) | exact HI0.out))) : gb319 ≠ g)); replace HI0 := Aside0.mk (IsS109.below (by repeat (first | (with_reducible first | exact HI0.out | apply IsS109.alloc | apply IsS109.drewN | apply IsS109.drew | apply IsS109.set_1 | apply IsS109.set_2 | refine IsS109.far ?_ NB0_314.out _) | exact HI0.out)) hb); clear hb hbox hg; have hnb31 := NB319_314.out; have hnc31 := NB314_319.out; have hnb32 := NB319_0.out; have hnc32 := NB0_319.out; obtain ⟨hcz33_0, hcz33_1⟩ := Hd.c2_ BK319.out; obtain ⟨hfz33_0, hfz33_1⟩ := Hd.f2_ BK319.out))
  have n0_ : Aside0 (((w30.setCell ⟨gb319, 0, none⟩ (.int .i64 t315)).setCell ⟨gb319, 1, none⟩ (.int .i64 t316)).heap[gb314]? = some (.cells #[.int .i64 0, .int .i64 0, .int .i64 0, .int .i64 0] 53 (0, 0))) := ⟨by (with_reducible repeat (first | refine blk_drewN ?_ _ | refine blk_drew ?_ | refine blk_alloc ?_ _)); refine blk_far ?_ NB314_319.out _; (with_reducible repeat (first | refine blk_drewN ?_ _ | refine blk_drew ?_ | refine blk_alloc ?_ _)); refine blk_far ?_ NB314_319.out _; (with_reducible repeat (first | refine blk_drewN ?_ _ | refine blk_drew ?_ | refine blk_alloc ?_ _)); exact BK314.out⟩
  have n1_ : Aside0 (((w30.setCell ⟨gb319, 0, none⟩ (.int .i64 t315)).setCell ⟨gb319, 1, none⟩ (.int .i64 t316)).heap[gb319]? = some (.cells #[.int .i64 t315, .int .i64 t316] 27 (0, 0))) := ⟨by (with_reducible repeat (first | refine blk_drewN ?_ _ | refine blk_drew ?_ | refine blk_alloc ?_ _)); refine blk_put (cs := #[.int .i64 t315, .int .i64 0]) ?_ 1 _ rfl; (with_reducible repeat (first | refine blk_drewN ?_ _ | refine blk_drew ?_ | refine blk_alloc ?_ _)); refine blk_put (cs := #[.int .i64 0, .int .i64 0]) ?_ 0 _ rfl; (with_reducible repeat (first | refine blk_drewN ?_ _ | refine blk_drew ?_ | refine blk_alloc ?_ _)); exact BK319.out⟩
  have n2_ : Aside0 (IsS109 w0 ((w30.setCell ⟨gb319, 0, none⟩ (.int .i64 t315)).setCell ⟨gb319, 1, none⟩ (.int .i64 t316)) g s0_0 t317 t318) := ⟨by repeat (first | (with_reducible first | exact HI0.out | apply IsS109.alloc | apply IsS109.drewN | apply IsS109.drew | apply IsS109.set_1 | apply IsS109.set_2 | refine IsS109.far ?_ NB0_314.out _ | refine IsS109.far ?_ NB0_319.out _) | exact HI0.out)⟩
  have n3_ : Aside0 (KeepBut w ((w30.setCell ⟨gb319, 0, none⟩ (.int .i64 t315)).setCell ⟨gb319, 1, none⟩ (.int .i64 t316)) g none) := ⟨by repeat (first | (with_reducible first | exact HK.out | apply KeepBut.set_ | apply keep_drewN | apply keep_drew | apply keep_alloc | refine keep_far ?_ GW314.out _ | refine keep_far ?_ GW319.out _) | exact HK.out)⟩
  have n4_ : Aside0 (Below w0.heap.size w0 ((w30.setCell ⟨gb319, 0, none⟩ (.int .i64 t315)).setCell ⟨gb319, 1, none⟩ (.int .i64 t316))) := ⟨by repeat (first | (with_reducible first | exact HB.out | apply below_alloc | apply pw_below_drewN | apply below_drew1 | refine below_set ?_ (IsS109.ge HI0.out) | refine below_set ?_ GE314.out | refine below_set ?_ GE319.out) | exact HB.out)⟩
  (try clear BK314)
  (try clear BK319)
  (try clear HI0)
  (try clear HK)
  (try clear HB)
  generalize ((w30.setCell ⟨gb319, 0, none⟩ (.int .i64 t315)).setCell ⟨gb319, 1, none⟩ (.int .i64 t316)) = w34 at n0_ n1_ n2_ n3_ n4_ ⊢
  have BK314 := n0_
  have BK319 := n1_
  have HI0 := n2_
  have HK := n3_
  have HB := n4_
  clear n0_ n1_ n2_ n3_ n4_
  replace BK314 := Aside0.mk (blk_drew BK314.out)
  replace BK319 := Aside0.mk (blk_drew BK319.out)
  replace HI0 := Aside0.mk (IsS109.drew HI0.out)
  replace HK := Aside0.mk (keep_drew HK.out)
  replace HB := Aside0.mk (below_drew1 HB.out)
  refine start_ (n := 7) (S := fun w' => w'.cell? ⟨gb319, 0, none⟩ = some (.int .i64 t315) ∧ w'.cell? ⟨gb319, 1, none⟩ = some (.int .i64 t316)) (ds := []) #[false, false, false, false, false, false, false] (by kernel_rfl) rfl rfl ⟨(blk_cell BK319.out 0).trans rfl, (blk_cell BK319.out 1).trans rfl⟩ (fun hHeld => ?_)
  generalize w34.drew = w35 at BK314 BK319 HI0 HK HB hHeld ⊢
  refine pure_ (i := 0) (N := some 7) (v := ?_) (a' := ?_) #[true, false, false, false, false, false, false] rfl rfl (by kernel_rfl) (fun _ _ _ h => h) (Or.inl ⟨by rfl, ?_⟩) ?_ ?_
  rotate_left
  ·
   intro w'
   go_simp
   with_reducible rfl
  rotate_left
  ·
   simp only [Act.put, List.setIfInBounds_toArray, List.set_cons_zero, List.set_cons_succ, i64_w, i32_w]
   rfl
  refine pure_ (i := 2) (N := some 9) (v := ?_) (a' := ?_) #[true, false, true, false, false, false, false] rfl rfl (by kernel_rfl) (fun _ _ _ h => h) (Or.inl ⟨by rfl, ?_⟩) ?_ ?_
  rotate_left
  ·
   intro w'
   go_simp
   with_reducible rfl
  rotate_left
  ·
   simp only [Act.put, List.setIfInBounds_toArray, List.set_cons_zero, List.set_cons_succ, i64_w, i32_w]
   rfl
  refine take_ (i := 3) (N := some 10) (v := ?_) (a' := ?_) #[true, false, true, true, false, false, false] rfl rfl (by kernel_rfl) (fun _ _ _ h => h) (Or.inl ⟨by rfl, ?_⟩) hHeld ?_ ?_
  rotate_left
  ·
   rintro w' ⟨s0, s1⟩
   go_simp
   with_reducible rfl
  rotate_left
  ·
   simp only [Act.put, List.setIfInBounds_toArray, List.set_cons_zero, List.set_cons_succ, i64_w, i32_w]
   rfl
  refine join_ (σ := Nat) 1 #[true, true, true, true, true, true, false] (fun s_ => [(8, .int .i64 t320), (4, .pointer (some ⟨s_, 0, none⟩)), (11, .agg #[.int .i64 t320, .int .i64 t316])]) (fun s_ w' => (w'.cell? ⟨gb319, 0, none⟩ = some (.int .i64 t315) ∧ w'.cell? ⟨gb319, 1, none⟩ = some (.int .i64 t316)) ∧ (w'.heap[gb314]? = some (.cells #[.int .i64 0, .int .i64 0, .int .i64 0, .int .i64 0] 53 (0, 0))) ∧ (w'.heap[gb319]? = some (.cells #[.int .i64 t315, .int .i64 t316] 27 (0, 0))) ∧ (w'.heap[s_]? = some (.cells #[.int .i64 0, .int .i64 0] 27 (0, 0))) ∧ (w.heap.size ≤ s_) ∧ (w0.heap.size ≤ s_) ∧ (g ≠ s_) ∧ (s_ ≠ g) ∧ (gb314 ≠ s_) ∧ (s_ ≠ gb314) ∧ (gb319 ≠ s_) ∧ (s_ ≠ gb319) ∧ (IsS109 w0 w' g s0_0 t321 t322) ∧ (KeepBut w w' g none) ∧ (Below w0.heap.size w0 w')) ?_ ?_
  rotate_left
  ·
   intro hCont
   refine two_ (i := 1) (j := 5) (Ni := some 8) (Nj := some 4) #[true, true, true, true, false, false, false] #[true, false, true, true, false, true, false] rfl rfl rfl rfl (by kernel_rfl) (by decide) (by decide) (fun K hK => ?_) (fun K hK => ?_)
   ·
    skip
    refine goes_ Try.func89 (by kernel_rfl) rfl #[.pointer (some ⟨g, 0, none⟩), .int .i64 12] (by rfl) rfl rfl Hd.m_ ?_
    with_reducible refine (spec_l1Below.calls g s0_0 t317 t318 12 t320 t321 t322 w0 _ ?side1 ?side2 A3.out).mono ?_
    (case side1 => repeat (first | (with_reducible first | exact HI0.out | apply IsS109.alloc | apply IsS109.drewN | apply IsS109.drew | apply IsS109.set_1 | apply IsS109.set_2 | refine IsS109.far ?_ NB0_314.out _ | refine IsS109.far ?_ NB0_319.out _) | exact HI0.out))
    (case side2 => repeat (first | (with_reducible first | exact HB.out | apply below_alloc | apply pw_below_drewN | apply below_drew1 | refine below_set ?_ (IsS109.ge HI0.out) | refine below_set ?_ GE314.out | refine below_set ?_ GE319.out) | exact HB.out))
    rintro e w36 ⟨rfl, hi, hb, hk⟩
    refine ⟨_, rfl, ?_⟩
    replace BK314 := Aside0.mk (KeepBut.blk hk (g' := gb314) (o := .cells #[.int .i64 0, .int .i64 0, .int .i64 0, .int .i64 0] 53 (0, 0)) (Hd.k_ BK314) NB314_0.out (by simp))
    replace BK319 := Aside0.mk (KeepBut.blk hk (g' := gb319) (o := .cells #[.int .i64 t315, .int .i64 t316] 27 (0, 0)) (Hd.k_ BK319) NB319_0.out (by simp))
    replace HK := Aside0.mk (KeepBut.trans (by repeat (first | (with_reducible first | exact HK.out | apply KeepBut.set_ | apply keep_drewN | apply keep_drew | apply keep_alloc | refine keep_far ?_ GW314.out _ | refine keep_far ?_ GW319.out _) | exact HK.out)) hk (.inl rfl))
    replace HB := Aside0.mk (hb)
    replace HI0 := Aside0.mk (hi)
    (try clear hb)
    (try clear hb2)
    (try clear hk)
    (try clear hi)
    refine hK.out _ _ ⟨(blk_cell BK319.out 0).trans rfl, (blk_cell BK319.out 1).trans rfl⟩ (fun hHeld => ?_)
    clear hK K
    refine Hd.n_ (some 8) ?_
    refine pure_ (i := 4) (N := some 11) (v := ?_) (a' := ?_) #[true, true, true, true, true, false, false] rfl rfl (by kernel_rfl) (fun _ _ _ h => h) (Or.inl ⟨by rfl, ?_⟩) ?_ ?_
    rotate_left
    ·
     intro w'
     go_simp
     with_reducible rfl
    rotate_left
    ·
     simp only [Act.put, List.setIfInBounds_toArray, List.set_cons_zero, List.set_cons_succ, i64_w, i32_w]
     rfl
    refine one_ (i := 5) (N := some 4) #[true, true, true, true, true, true, false] rfl rfl (by kernel_rfl) (by decide) (fun K hK => ?_)
    refine box_step ?hg (N := 4) ?hd (cs := #[.int .i64 0, .int .i64 0]) (t := 27) ?hr ?_; (case hd => rfl); (case hg => rfl); (case hr => first | (go_simp; done) | (go_simp; rfl))
    intro gb323 hg w37 hbox hb
    replace HB := Aside0.mk (below_step (by repeat (first | (with_reducible first | exact HB.out | apply below_alloc | apply pw_below_drewN | apply below_drew1 | refine below_set ?_ (IsS109.ge HI0.out) | refine below_set ?_ GE314.out | refine below_set ?_ GE319.out) | exact HB.out)) hb)
    have BK323 := Aside0.mk (hbox)
    have GW323 := Aside0.mk ((by rw [hg]; exact (keep_size (w := w) (g := g) (row := none) (by repeat (first | (with_reducible first | exact HK.out | apply KeepBut.set_ | apply keep_drewN | apply keep_drew | apply keep_alloc | refine keep_far ?_ GW314.out _ | refine keep_far ?_ GW319.out _) | exact HK.out))) : w.heap.size ≤ gb323))
    have GE323 := Aside0.mk ((Nat.le_trans HW0.out (by rw [hg]; exact (keep_size (w := w) (g := g) (row := none) (by repeat (first | (with_reducible first | exact HK.out | apply KeepBut.set_ | apply keep_drewN | apply keep_drew | apply keep_alloc | refine keep_far ?_ GW314.out _ | refine keep_far ?_ GW319.out _) | exact HK.out))) : w.heap.size ≤ gb323) : w0.heap.size ≤ gb323))
    replace HK := Aside0.mk (KeepBut.trans (by repeat (first | (with_reducible first | exact HK.out | apply KeepBut.set_ | apply keep_drewN | apply keep_drew | apply keep_alloc | refine keep_far ?_ GW314.out _ | refine keep_far ?_ GW319.out _) | exact HK.out)) (KeepBut.of_below hb g none) (.inl rfl))
    have NB314_323 := Aside0.mk ((Hd.lt_ BK314 hg))
    have NB323_314 := Aside0.mk ((Hd.gt_ BK314 hg))
    replace BK314 := Aside0.mk (Hd.kb_ BK314 hb)
    have NB319_323 := Aside0.mk ((Hd.lt_ BK319 hg))
    have NB323_319 := Aside0.mk ((Hd.gt_ BK319 hg))
    replace BK319 := Aside0.mk (Hd.kb_ BK319 hb)
    have NB0_323 := Aside0.mk ((by rw [hg]; exact Nat.ne_of_lt (IsS109.lt (show IsS109 w0 _ g s0_0 t321 t322 from by repeat (first | (with_reducible first | exact HI0.out | apply IsS109.alloc | apply IsS109.drewN | apply IsS109.drew | apply IsS109.set_1 | apply IsS109.set_2 | refine IsS109.far ?_ NB0_314.out _ | refine IsS109.far ?_ NB0_319.out _) | exact HI0.out))) : g ≠ gb323))
    have NB323_0 := Aside0.mk ((by rw [hg]; exact Nat.ne_of_gt (IsS109.lt (show IsS109 w0 _ g s0_0 t321 t322 from by repeat (first | (with_reducible first | exact HI0.out | apply IsS109.alloc | apply IsS109.drewN | apply IsS109.drew | apply IsS109.set_1 | apply IsS109.set_2 | refine IsS109.far ?_ NB0_314.out _ | refine IsS109.far ?_ NB0_319.out _) | exact HI0.out))) : gb323 ≠ g))
    replace HI0 := Aside0.mk (IsS109.below (by repeat (first | (with_reducible first | exact HI0.out | apply IsS109.alloc | apply IsS109.drewN | apply IsS109.drew | apply IsS109.set_1 | apply IsS109.set_2 | refine IsS109.far ?_ NB0_314.out _ | refine IsS109.far ?_ NB0_319.out _) | exact HI0.out)) hb)
    clear hb hbox hg
    refine hK.out _ _ ⟨(blk_cell BK319.out 0).trans rfl, (blk_cell BK319.out 1).trans rfl⟩ (fun hHeld => ?_)
    clear hK K
    refine Hd.n_ (some 4) ?_
    exact norm_ (by simp only [putAll, Act.put, List.setIfInBounds_toArray, List.set_cons_zero, List.set_cons_succ]) (hCont (gb323) _ ⟨hHeld, (Hd.k_ BK314), (Hd.k_ BK319), (Hd.k_ BK323), GW323.out, GE323.out, NB0_323.out, NB323_0.out, NB314_323.out, NB323_314.out, NB319_323.out, NB323_319.out, (by repeat (first | (with_reducible first | exact HI0.out | apply IsS109.alloc | apply IsS109.drewN | apply IsS109.drew | apply IsS109.set_1 | apply IsS109.set_2 | refine IsS109.far ?_ NB0_314.out _ | refine IsS109.far ?_ NB0_319.out _ | refine IsS109.far ?_ NB0_323.out _) | exact HI0.out)), (by repeat (first | (with_reducible first | exact HK.out | apply KeepBut.set_ | apply keep_drewN | apply keep_drew | apply keep_alloc | refine keep_far ?_ GW314.out _ | refine keep_far ?_ GW319.out _ | refine keep_far ?_ GW323.out _) | exact HK.out)), (by repeat (first | (with_reducible first | exact HB.out | apply below_alloc | apply pw_below_drewN | apply below_drew1 | refine below_set ?_ (IsS109.ge HI0.out) | refine below_set ?_ GE314.out | refine below_set ?_ GE319.out | refine below_set ?_ GE323.out) | exact HB.out))⟩)
   ·
    skip
    refine box_step ?hg (N := 4) ?hd (cs := #[.int .i64 0, .int .i64 0]) (t := 27) ?hr ?_; (case hd => rfl); (case hg => rfl); (case hr => first | (go_simp; done) | (go_simp; rfl))
    intro gb323 hg w36 hbox hb
    replace HB := Aside0.mk (below_step (by repeat (first | (with_reducible first | exact HB.out | apply below_alloc | apply pw_below_drewN | apply below_drew1 | refine below_set ?_ (IsS109.ge HI0.out) | refine below_set ?_ GE314.out | refine below_set ?_ GE319.out) | exact HB.out)) hb)
    have BK323 := Aside0.mk (hbox)
    have GW323 := Aside0.mk ((by rw [hg]; exact (keep_size (w := w) (g := g) (row := none) (by repeat (first | (with_reducible first | exact HK.out | apply KeepBut.set_ | apply keep_drewN | apply keep_drew | apply keep_alloc | refine keep_far ?_ GW314.out _ | refine keep_far ?_ GW319.out _) | exact HK.out))) : w.heap.size ≤ gb323))
    have GE323 := Aside0.mk ((Nat.le_trans HW0.out (by rw [hg]; exact (keep_size (w := w) (g := g) (row := none) (by repeat (first | (with_reducible first | exact HK.out | apply KeepBut.set_ | apply keep_drewN | apply keep_drew | apply keep_alloc | refine keep_far ?_ GW314.out _ | refine keep_far ?_ GW319.out _) | exact HK.out))) : w.heap.size ≤ gb323) : w0.heap.size ≤ gb323))
    replace HK := Aside0.mk (KeepBut.trans (by repeat (first | (with_reducible first | exact HK.out | apply KeepBut.set_ | apply keep_drewN | apply keep_drew | apply keep_alloc | refine keep_far ?_ GW314.out _ | refine keep_far ?_ GW319.out _) | exact HK.out)) (KeepBut.of_below hb g none) (.inl rfl))
    have NB314_323 := Aside0.mk ((Hd.lt_ BK314 hg))
    have NB323_314 := Aside0.mk ((Hd.gt_ BK314 hg))
    replace BK314 := Aside0.mk (Hd.kb_ BK314 hb)
    have NB319_323 := Aside0.mk ((Hd.lt_ BK319 hg))
    have NB323_319 := Aside0.mk ((Hd.gt_ BK319 hg))
    replace BK319 := Aside0.mk (Hd.kb_ BK319 hb)
    have NB0_323 := Aside0.mk ((by rw [hg]; exact Nat.ne_of_lt (IsS109.lt (show IsS109 w0 _ g s0_0 t317 t318 from by repeat (first | (with_reducible first | exact HI0.out | apply IsS109.alloc | apply IsS109.drewN | apply IsS109.drew | apply IsS109.set_1 | apply IsS109.set_2 | refine IsS109.far ?_ NB0_314.out _ | refine IsS109.far ?_ NB0_319.out _) | exact HI0.out))) : g ≠ gb323))
    have NB323_0 := Aside0.mk ((by rw [hg]; exact Nat.ne_of_gt (IsS109.lt (show IsS109 w0 _ g s0_0 t317 t318 from by repeat (first | (with_reducible first | exact HI0.out | apply IsS109.alloc | apply IsS109.drewN | apply IsS109.drew | apply IsS109.set_1 | apply IsS109.set_2 | refine IsS109.far ?_ NB0_314.out _ | refine IsS109.far ?_ NB0_319.out _) | exact HI0.out))) : gb323 ≠ g))
    replace HI0 := Aside0.mk (IsS109.below (by repeat (first | (with_reducible first | exact HI0.out | apply IsS109.alloc | apply IsS109.drewN | apply IsS109.drew | apply IsS109.set_1 | apply IsS109.set_2 | refine IsS109.far ?_ NB0_314.out _ | refine IsS109.far ?_ NB0_319.out _) | exact HI0.out)) hb)
    clear hb hbox hg
    refine hK.out _ _ ⟨(blk_cell BK319.out 0).trans rfl, (blk_cell BK319.out 1).trans rfl⟩ (fun hHeld => ?_)
    clear hK K
    refine Hd.n_ (some 4) ?_
    refine one_ (i := 1) (N := some 8) #[true, true, true, true, false, true, false] rfl rfl (by kernel_rfl) (by decide) (fun K hK => ?_)
    refine goes_ Try.func89 (by kernel_rfl) rfl #[.pointer (some ⟨g, 0, none⟩), .int .i64 12] (by rfl) rfl rfl Hd.m_ ?_
    with_reducible refine (spec_l1Below.calls g s0_0 t317 t318 12 t320 t321 t322 w0 _ ?side1 ?side2 A3.out).mono ?_
    (case side1 => repeat (first | (with_reducible first | exact HI0.out | apply IsS109.alloc | apply IsS109.drewN | apply IsS109.drew | apply IsS109.set_1 | apply IsS109.set_2 | refine IsS109.far ?_ NB0_314.out _ | refine IsS109.far ?_ NB0_319.out _ | refine IsS109.far ?_ NB0_323.out _) | exact HI0.out))
    (case side2 => repeat (first | (with_reducible first | exact HB.out | apply below_alloc | apply pw_below_drewN | apply below_drew1 | refine below_set ?_ (IsS109.ge HI0.out) | refine below_set ?_ GE314.out | refine below_set ?_ GE319.out | refine below_set ?_ GE323.out) | exact HB.out))
    rintro e w37 ⟨rfl, hi, hb, hk⟩
    refine ⟨_, rfl, ?_⟩
    replace BK314 := Aside0.mk (KeepBut.blk hk (g' := gb314) (o := .cells #[.int .i64 0, .int .i64 0, .int .i64 0, .int .i64 0] 53 (0, 0)) (Hd.k_ BK314) NB314_0.out (by simp))
    replace BK319 := Aside0.mk (KeepBut.blk hk (g' := gb319) (o := .cells #[.int .i64 t315, .int .i64 t316] 27 (0, 0)) (Hd.k_ BK319) NB319_0.out (by simp))
    replace BK323 := Aside0.mk (KeepBut.blk hk (g' := gb323) (o := .cells #[.int .i64 0, .int .i64 0] 27 (0, 0)) (Hd.k_ BK323) NB323_0.out (by simp))
    replace HK := Aside0.mk (KeepBut.trans (by repeat (first | (with_reducible first | exact HK.out | apply KeepBut.set_ | apply keep_drewN | apply keep_drew | apply keep_alloc | refine keep_far ?_ GW314.out _ | refine keep_far ?_ GW319.out _ | refine keep_far ?_ GW323.out _) | exact HK.out)) hk (.inl rfl))
    replace HB := Aside0.mk (hb)
    replace HI0 := Aside0.mk (hi)
    (try clear hb)
    (try clear hb2)
    (try clear hk)
    (try clear hi)
    refine hK.out _ _ ⟨(blk_cell BK319.out 0).trans rfl, (blk_cell BK319.out 1).trans rfl⟩ (fun hHeld => ?_)
    clear hK K
    refine Hd.n_ (some 8) ?_
    refine pure_ (i := 4) (N := some 11) (v := ?_) (a' := ?_) #[true, true, true, true, true, true, false] rfl rfl (by kernel_rfl) (fun _ _ _ h => h) (Or.inl ⟨by rfl, ?_⟩) ?_ ?_
    rotate_left
    ·
     intro w'
     go_simp
     with_reducible rfl
    rotate_left
    ·
     simp only [Act.put, List.setIfInBounds_toArray, List.set_cons_zero, List.set_cons_succ, i64_w, i32_w]
     rfl
    exact norm_ (by simp only [putAll, Act.put, List.setIfInBounds_toArray, List.set_cons_zero, List.set_cons_succ]) (hCont (gb323) _ ⟨hHeld, (Hd.k_ BK314), (Hd.k_ BK319), (Hd.k_ BK323), GW323.out, GE323.out, NB0_323.out, NB323_0.out, NB314_323.out, NB323_314.out, NB319_323.out, NB323_319.out, (by repeat (first | (with_reducible first | exact HI0.out | apply IsS109.alloc | apply IsS109.drewN | apply IsS109.drew | apply IsS109.set_1 | apply IsS109.set_2 | refine IsS109.far ?_ NB0_314.out _ | refine IsS109.far ?_ NB0_319.out _ | refine IsS109.far ?_ NB0_323.out _) | exact HI0.out)), (by repeat (first | (with_reducible first | exact HK.out | apply KeepBut.set_ | apply keep_drewN | apply keep_drew | apply keep_alloc | refine keep_far ?_ GW314.out _ | refine keep_far ?_ GW319.out _ | refine keep_far ?_ GW323.out _) | exact HK.out)), (by repeat (first | (with_reducible first | exact HB.out | apply below_alloc | apply pw_below_drewN | apply below_drew1 | refine below_set ?_ (IsS109.ge HI0.out) | refine below_set ?_ GE314.out | refine below_set ?_ GE319.out | refine below_set ?_ GE323.out) | exact HB.out))⟩)
  rintro gb323 w38 ⟨hS_, h0_, h1_, h2_, h3_, h4_, h5_, h6_, h7_, h8_, h9_, h10_, h11_, h12_, h13_⟩
  have n0_ : Aside0 (w38.heap[gb314]? = some (.cells #[.int .i64 0, .int .i64 0, .int .i64 0, .int .i64 0] 53 (0, 0))) := ⟨h0_⟩
  have n1_ : Aside0 (w38.heap[gb319]? = some (.cells #[.int .i64 t315, .int .i64 t316] 27 (0, 0))) := ⟨h1_⟩
  have n2_ : Aside0 (w38.heap[gb323]? = some (.cells #[.int .i64 0, .int .i64 0] 27 (0, 0))) := ⟨h2_⟩
  have n3_ : Aside0 (w.heap.size ≤ gb323) := ⟨h3_⟩
  have n4_ : Aside0 (w0.heap.size ≤ gb323) := ⟨h4_⟩
  have n5_ : Aside0 (g ≠ gb323) := ⟨h5_⟩
  have n6_ : Aside0 (gb323 ≠ g) := ⟨h6_⟩
  have n7_ : Aside0 (gb314 ≠ gb323) := ⟨h7_⟩
  have n8_ : Aside0 (gb323 ≠ gb314) := ⟨h8_⟩
  have n9_ : Aside0 (gb319 ≠ gb323) := ⟨h9_⟩
  have n10_ : Aside0 (gb323 ≠ gb319) := ⟨h10_⟩
  have n11_ : Aside0 (IsS109 w0 w38 g s0_0 t321 t322) := ⟨h11_⟩
  have n12_ : Aside0 (KeepBut w w38 g none) := ⟨h12_⟩
  have n13_ : Aside0 (Below w0.heap.size w0 w38) := ⟨h13_⟩
  clear BK314
  clear BK319
  clear HI0
  clear HK
  clear HB
  clear h0_ h1_ h2_ h3_ h4_ h5_ h6_ h7_ h8_ h9_ h10_ h11_ h12_ h13_
  have BK314 := n0_
  have BK319 := n1_
  have BK323 := n2_
  have GW323 := n3_
  have GE323 := n4_
  have NB0_323 := n5_
  have NB323_0 := n6_
  have NB314_323 := n7_
  have NB323_314 := n8_
  have NB319_323 := n9_
  have NB323_319 := n10_
  have HI0 := n11_
  have HK := n12_
  have HB := n13_
  clear n0_ n1_ n2_ n3_ n4_ n5_ n6_ n7_ n8_ n9_ n10_ n11_ n12_ n13_
  have hHeld : w38.cell? ⟨gb319, 0, none⟩ = some (.int .i64 t315) ∧ w38.cell? ⟨gb319, 1, none⟩ = some (.int .i64 t316) := hS_
  refine norm_ (a' := ?_) ?_ ?_
  rotate_left
  ·
   simp only [putAll, Act.put, List.setIfInBounds_toArray, List.set_cons_zero, List.set_cons_succ]
   rfl
  refine one_ (i := 6) (N := none) #[true, true, true, true, true, true, true] rfl rfl (by kernel_rfl) (by decide) (fun K hK => ?_)
  have hs39 : w38.cell? ⟨gb323, 0, none⟩ = some (.int .i64 0) := (blk_cell BK323.out 0).trans rfl
  have hfs39 := blk_frozen BK323.out 0
  have hns39_0 := NB314_323.out
  have hns39_1 := NB319_323.out
  have hms39_0 := NB323_314.out
  have hms39_1 := NB323_319.out
  have hs40 : w38.cell? ⟨gb323, 1, none⟩ = some (.int .i64 0) := (blk_cell BK323.out 1).trans rfl
  have hfs40 := blk_frozen BK323.out 1
  have hns40_0 := NB314_323.out
  have hns40_1 := NB319_323.out
  have hms40_0 := NB323_314.out
  have hms40_1 := NB323_319.out
  refine skip_ (w1 := ?_) (by rfl) rfl ?_ ?_
  rotate_left
  ·
   go_simp
   rfl
  refine hK.out _ _ ⟨((cell_far (p := ⟨gb323, _, none⟩) NB319_323.out _).trans (((cell_far (p := ⟨gb323, _, none⟩) NB319_323.out _).trans (hHeld.1)))), ((cell_far (p := ⟨gb323, _, none⟩) NB319_323.out _).trans (((cell_far (p := ⟨gb323, _, none⟩) NB319_323.out _).trans (hHeld.2))))⟩ (fun hHeld => ?_)
  clear hK K
  refine done_ (by kernel_rfl) ?_
  try go_wp2_with (first | ((with_reducible refine gate_callee (f := 99) rfl ?_); refine goesL_ (some 13) rfl rfl Try.func99 (by kernel_rfl) rfl #[.pointer (some ⟨g, 0, none⟩), .int .i64 3] rfl Hd.m_ ?_; (with_reducible refine (spec_l1Once.calls g s0_0 t321 t322 3 false t325 t326 w0 _ ?side1 ?side2 A4.out).mono ?_); (case side1 => repeat (first | (with_reducible first | exact HI0.out | apply IsS109.alloc | apply IsS109.drewN | apply IsS109.drew | apply IsS109.set_1 | apply IsS109.set_2 | refine IsS109.far ?_ NB0_314.out _ | refine IsS109.far ?_ NB0_319.out _ | refine IsS109.far ?_ NB0_323.out _) | exact HI0.out)); (case side2 => repeat (first | (with_reducible first | exact HB.out | apply below_alloc | apply pw_below_drewN | apply below_drew1 | refine below_set ?_ (IsS109.ge HI0.out) | refine below_set ?_ GE314.out | refine below_set ?_ GE319.out | refine below_set ?_ GE323.out) | exact HB.out)); rintro e w41 ⟨rfl, hi, hb, hk⟩; refine ⟨_, rfl, ?_⟩; replace BK314 := Aside0.mk (KeepBut.blk hk (g' := gb314) (o := .cells #[.int .i64 0, .int .i64 0, .int .i64 0, .int .i64 0] 53 (0, 0)) (by (with_reducible repeat (first | refine blk_drewN ?_ _ | refine blk_drew ?_ | refine blk_alloc ?_ _)); refine blk_far ?_ NB314_323.out _; (with_reducible repeat (first | refine blk_drewN ?_ _ | refine blk_drew ?_ | refine blk_alloc ?_ _)); refine blk_far ?_ NB314_323.out _; (with_reducible repeat (first | refine blk_drewN ?_ _ | refine blk_drew ?_ | refine blk_alloc ?_ _)); exact BK314.out) NB314_0.out (by simp)); replace BK319 := Aside0.mk (KeepBut.blk hk (g' := gb319) (o := .cells #[.int .i64 t315, .int .i64 t316] 27 (0, 0)) (by (with_reducible repeat (first | refine blk_drewN ?_ _ | refine blk_drew ?_ | refine blk_alloc ?_ _)); refine blk_far ?_ NB319_323.out _; (with_reducible repeat (first | refine blk_drewN ?_ _ | refine blk_drew ?_ | refine blk_alloc ?_ _)); refine blk_far ?_ NB319_323.out _; (with_reducible repeat (first | refine blk_drewN ?_ _ | refine blk_drew ?_ | refine blk_alloc ?_ _)); exact BK319.out) NB319_0.out (by simp)); replace BK323 := Aside0.mk (KeepBut.blk hk (g' := gb323) (o := .cells #[.int .i64 t320, .int .i64 t316] 27 (0, 0)) (by (with_reducible repeat (first | refine blk_drewN ?_ _ | refine blk_drew ?_ | refine blk_alloc ?_ _)); refine blk_put (cs := #[.int .i64 t320, .int .i64 0]) ?_ 1 _ rfl; (with_reducible repeat (first | refine blk_drewN ?_ _ | refine blk_drew ?_ | refine blk_alloc ?_ _)); refine blk_put (cs := #[.int .i64 0, .int .i64 0]) ?_ 0 _ rfl; (with_reducible repeat (first | refine blk_drewN ?_ _ | refine blk_drew ?_ | refine blk_alloc ?_ _)); exact BK323.out) NB323_0.out (by simp)); replace HK := Aside0.mk (KeepBut.trans (by repeat (first | (with_reducible first | exact HK.out | apply KeepBut.set_ | apply keep_drewN | apply keep_drew | apply keep_alloc | refine keep_far ?_ GW314.out _ | refine keep_far ?_ GW319.out _ | refine keep_far ?_ GW323.out _) | exact HK.out)) hk (.inl rfl)); replace HB := Aside0.mk (hb); replace HI0 := Aside0.mk (hi); (try clear hb); (try clear hb2); (try clear hk); (try clear hi)) | ((with_reducible refine gate_callee (f := 89) rfl ?_); refine goesL_ (some 16) rfl rfl Try.func89 (by kernel_rfl) rfl #[.pointer (some ⟨g, 0, none⟩), .int .i64 12] rfl Hd.m_ ?_; (with_reducible refine (spec_l1Below.calls g s0_0 t325 t326 12 t327 t328 t329 w0 _ ?side1 ?side2 A27.out).mono ?_); (case side1 => repeat (first | (with_reducible first | exact HI0.out | apply IsS109.alloc | apply IsS109.drewN | apply IsS109.drew | apply IsS109.set_1 | apply IsS109.set_2 | refine IsS109.far ?_ NB0_314.out _ | refine IsS109.far ?_ NB0_319.out _ | refine IsS109.far ?_ NB0_323.out _) | exact HI0.out)); (case side2 => repeat (first | (with_reducible first | exact HB.out | apply below_alloc | apply pw_below_drewN | apply below_drew1 | refine below_set ?_ (IsS109.ge HI0.out) | refine below_set ?_ GE314.out | refine below_set ?_ GE319.out | refine below_set ?_ GE323.out) | exact HB.out)); rintro e w42 ⟨rfl, hi, hb, hk⟩; refine ⟨_, rfl, ?_⟩; replace BK314 := Aside0.mk (KeepBut.blk hk (g' := gb314) (o := .cells #[.int .i64 0, .int .i64 0, .int .i64 0, .int .i64 0] 53 (0, 0)) (Hd.k_ BK314) NB314_0.out (by simp)); replace BK319 := Aside0.mk (KeepBut.blk hk (g' := gb319) (o := .cells #[.int .i64 t315, .int .i64 t316] 27 (0, 0)) (Hd.k_ BK319) NB319_0.out (by simp)); replace BK323 := Aside0.mk (KeepBut.blk hk (g' := gb323) (o := .cells #[.int .i64 t320, .int .i64 t316] 27 (0, 0)) (Hd.k_ BK323) NB323_0.out (by simp)); replace HK := Aside0.mk (KeepBut.trans (by repeat (first | (with_reducible first | exact HK.out | apply KeepBut.set_ | apply keep_drewN | apply keep_drew | apply keep_alloc | refine keep_far ?_ GW314.out _ | refine keep_far ?_ GW319.out _ | refine keep_far ?_ GW323.out _) | exact HK.out)) hk (.inl rfl)); replace HB := Aside0.mk (hb); replace HI0 := Aside0.mk (hi); (try clear hb); (try clear hb2); (try clear hk); (try clear hi); have hnb43 := NB323_314.out; have hnc43 := NB314_323.out; have hnb44 := NB323_319.out; have hnc44 := NB319_323.out; have hnb45 := NB323_0.out; have hnc45 := NB0_323.out; obtain ⟨hcz46_0, hcz46_1⟩ := Hd.c2_ BK323.out; obtain ⟨hfz46_0, hfz46_1⟩ := Hd.f2_ BK323.out; obtain ⟨hcz47_0, hcz47_1⟩ := Hd.c2_ BK319.out; obtain ⟨hfz47_0, hfz47_1⟩ := Hd.f2_ BK319.out; have hnb48 := NB314_0.out; have hnc48 := NB0_314.out; obtain ⟨hcz49_0, hcz49_1, hcz49_2, hcz49_3⟩ := Hd.c4_ BK314.out; obtain ⟨hfz49_0, hfz49_1, hfz49_2, hfz49_3⟩ := Hd.f4_ BK314.out))
  refine bodyPost_ret (results_cell_row rfl _ _ gb314 53 #[.int .i64 t315, .int .i64 t316, .int .i64 t320, .int .i64 t327] (0, 0) _ rfl (by (with_reducible repeat (first | refine blk_drewN ?_ _ | refine blk_drew ?_ | refine blk_alloc ?_ _)); refine blk_put (cs := #[.int .i64 t315, .int .i64 t316, .int .i64 t320, .int .i64 0]) ?_ 3 _ rfl; (with_reducible repeat (first | refine blk_drewN ?_ _ | refine blk_drew ?_ | refine blk_alloc ?_ _)); refine blk_put (cs := #[.int .i64 t315, .int .i64 t316, .int .i64 0, .int .i64 0]) ?_ 2 _ rfl; (with_reducible repeat (first | refine blk_drewN ?_ _ | refine blk_drew ?_ | refine blk_alloc ?_ _)); refine blk_put (cs := #[.int .i64 t315, .int .i64 0, .int .i64 0, .int .i64 0]) ?_ 1 _ rfl; (with_reducible repeat (first | refine blk_drewN ?_ _ | refine blk_drew ?_ | refine blk_alloc ?_ _)); refine blk_put (cs := #[.int .i64 0, .int .i64 0, .int .i64 0, .int .i64 0]) ?_ 0 _ rfl; (with_reducible repeat (first | refine blk_drewN ?_ _ | refine blk_drew ?_ | refine blk_alloc ?_ _)); refine blk_far ?_ NB314_323.out _; (with_reducible repeat (first | refine blk_drewN ?_ _ | refine blk_drew ?_ | refine blk_alloc ?_ _)); exact BK314.out) Try.underlying53 rfl (by kernel_rfl)) rfl ?_
  exact ⟨Hd.e_, by repeat (first | (with_reducible first | exact HI0.out | apply IsS109.alloc | apply IsS109.drewN | apply IsS109.drew | apply IsS109.set_1 | apply IsS109.set_2 | refine IsS109.far ?_ NB0_314.out _ | refine IsS109.far ?_ NB0_319.out _ | refine IsS109.far ?_ NB0_323.out _) | exact HI0.out), by repeat (first | (with_reducible first | exact HB.out | apply below_alloc | apply pw_below_drewN | apply below_drew1 | refine below_set ?_ (IsS109.ge HI0.out) | refine below_set ?_ GE314.out | refine below_set ?_ GE319.out | refine below_set ?_ GE323.out) | exact HB.out), by repeat (first | (with_reducible first | exact HK.out | apply KeepBut.set_ | apply keep_drewN | apply keep_drew | apply keep_alloc | refine keep_far ?_ GW314.out _ | refine keep_far ?_ GW319.out _ | refine keep_far ?_ GW323.out _) | exact HK.out)⟩
def spec_l5Any.f (s0_0 : List Int) (s0_1 : Int) (s0_2 : Int) : Option (Int × Int × Int × Int × Int × Int) := (spec_l5Draw.f s0_0 s0_1 s0_2).bind fun bt331 => ((spec_l1Once.f s0_0 bt331.2.2.2.2.1 bt331.2.2.2.2.2 9).bind fun bt338 => (if bt338.1 = true then ((spec_l4Any.f s0_0 bt338.2.1 bt338.2.2).bind fun bt341 => (some (bt341.1, bt341.2.1, bt331.2.2.1, bt331.2.2.2.1, bt341.2.2.1, bt341.2.2.2))) else (some (bt331.1, bt331.2.1, bt331.2.2.1, bt331.2.2.2.1, bt338.2.1, bt338.2.2))))
set_option maxHeartbeats 8000000 in
set_option maxRecDepth 100000 in
theorem spec_l5Any.calls (g : Nat) (s0_0 : List Int) (s0_1 : Int) (s0_2 : Int) (r1 : Int) (r2 : Int) (r3 : Int) (r4 : Int) (r5 : Int) (r6 : Int) (w0 w : World) (hI : IsS109 w0 w g s0_0 s0_1 s0_2) (hB : Below w0.heap.size w0 w) (h : spec_l5Any.f s0_0 s0_1 s0_2 = some (r1, r2, r3, r4, r5, r6)) :
  Calls Try.prog 81 #[.pointer (some ⟨g, 0, none⟩)] w fun e w' => e = .returned (.agg #[.int .i64 r1, .int .i64 r2, .int .i64 r3, .int .i64 r4]) ∧ IsS109 w0 w' g s0_0 r5 r6 ∧ Below w0.heap.size w0 w' ∧ KeepBut w w' g none := by
 have hu53 := Try.underlying53
 have hu27 := Try.underlying27
 have HI0 := Aside0.mk hI
 have HK := Aside0.mk (KeepBut.refl w g none)
 have HL := Aside0.mk hB.size
 clear hI
 have HW0 := Aside0.mk hB.size
 have HB := Aside0.mk hB
 clear hB
 have H : ((spec_l5Draw.f s0_0 s0_1 s0_2).bind fun bt331 => ((spec_l1Once.f s0_0 bt331.2.2.2.2.1 bt331.2.2.2.2.2 9).bind fun bt338 => (if bt338.1 = true then ((spec_l4Any.f s0_0 bt338.2.1 bt338.2.2).bind fun bt341 => (some (bt341.1, bt341.2.1, bt331.2.2.1, bt331.2.2.2.1, bt341.2.2.1, bt341.2.2.2))) else (some (bt331.1, bt331.2.1, bt331.2.2.1, bt331.2.2.2.1, bt338.2.1, bt338.2.2))))) = some (r1, r2, r3, r4, r5, r6) := h
 clear h
 replace H := Option.bind_eq_some_iff.mp H
 obtain ⟨⟨t331, t332, t333, t334, t335, t336⟩, A20, H⟩ := H
 replace H : ((spec_l1Once.f s0_0 t335 t336 9).bind fun bt338 => (if bt338.1 = true then ((spec_l4Any.f s0_0 bt338.2.1 bt338.2.2).bind fun bt341 => (some (bt341.1, bt341.2.1, t333, t334, bt341.2.2.1, bt341.2.2.2))) else (some (t331, t332, t333, t334, bt338.2.1, bt338.2.2)))) = some (r1, r2, r3, r4, r5, r6) := H
 have A2 := Aside0.mk A20
 clear A20
 replace H := Option.bind_eq_some_iff.mp H
 obtain ⟨⟨t338, t339, t340⟩, A30, H⟩ := H
 replace H : (if t338 = true then ((spec_l4Any.f s0_0 t339 t340).bind fun bt341 => (some (bt341.1, bt341.2.1, t333, t334, bt341.2.2.1, bt341.2.2.2))) else (some (t331, t332, t333, t334, t339, t340))) = some (r1, r2, r3, r4, r5, r6) := H
 have A3 := Aside0.mk A30
 clear A30
 by_cases c4 : t338 = true
 ·
  subst c4
  have H1 : ((spec_l4Any.f s0_0 t339 t340).bind fun bt341 => (some (bt341.1, bt341.2.1, t333, t334, bt341.2.2.1, bt341.2.2.2))) = some (r1, r2, r3, r4, r5, r6) := by rw [if_pos rfl] at H; exact H
  clear H
  have H := H1
  clear H1
  replace H := Option.bind_eq_some_iff.mp H
  obtain ⟨⟨t341, t342, t343, t344⟩, A50, H⟩ := H
  replace H : (some (t341, t342, t333, t334, t343, t344)) = some (r1, r2, r3, r4, r5, r6) := H
  have A5 := Aside0.mk A50
  clear A50
  simp only [Option.some.injEq, Prod.mk.injEq] at H
  obtain ⟨rfl, rfl, rfl, rfl, rfl, rfl⟩ := H
  go_enter Try.func81, Try.ntmps81
  go_wp2_with (first | ((with_reducible refine gate_dst (N := 2) rfl ?_); refine Hd.box_ 2 (#[.int .i64 0, .int .i64 0, .int .i64 0, .int .i64 0]) 53 ?_; intro gb330 hg w6 hbox hb; replace HB := Aside0.mk (below_step (by repeat (first | (with_reducible first | exact HB.out | apply below_alloc | apply pw_below_drewN | apply below_drew1 | refine below_set ?_ (IsS109.ge HI0.out)) | exact HB.out)) hb); have BK330 := Aside0.mk (hbox); have GW330 := Aside0.mk ((by rw [hg]; exact (keep_size (w := w) (g := g) (row := none) (by repeat (first | (with_reducible first | exact HK.out | apply KeepBut.set_ | apply keep_drewN | apply keep_drew | apply keep_alloc) | exact HK.out))) : w.heap.size ≤ gb330)); have GE330 := Aside0.mk ((Nat.le_trans HW0.out (by rw [hg]; exact (keep_size (w := w) (g := g) (row := none) (by repeat (first | (with_reducible first | exact HK.out | apply KeepBut.set_ | apply keep_drewN | apply keep_drew | apply keep_alloc) | exact HK.out))) : w.heap.size ≤ gb330) : w0.heap.size ≤ gb330)); replace HK := Aside0.mk (KeepBut.trans (by repeat (first | (with_reducible first | exact HK.out | apply KeepBut.set_ | apply keep_drewN | apply keep_drew | apply keep_alloc) | exact HK.out)) (KeepBut.of_below hb g none) (.inl rfl)); have NB0_330 := Aside0.mk ((by rw [hg]; exact Nat.ne_of_lt (IsS109.lt (show IsS109 w0 _ g s0_0 s0_1 s0_2 from by repeat (first | (with_reducible first | exact HI0.out | apply IsS109.alloc | apply IsS109.drewN | apply IsS109.drew | apply IsS109.set_1 | apply IsS109.set_2) | exact HI0.out))) : g ≠ gb330)); have NB330_0 := Aside0.mk ((by rw [hg]; exact Nat.ne_of_gt (IsS109.lt (show IsS109 w0 _ g s0_0 s0_1 s0_2 from by repeat (first | (with_reducible first | exact HI0.out | apply IsS109.alloc | apply IsS109.drewN | apply IsS109.drew | apply IsS109.set_1 | apply IsS109.set_2) | exact HI0.out))) : gb330 ≠ g)); replace HI0 := Aside0.mk (IsS109.below (by repeat (first | (with_reducible first | exact HI0.out | apply IsS109.alloc | apply IsS109.drewN | apply IsS109.drew | apply IsS109.set_1 | apply IsS109.set_2) | exact HI0.out)) hb); clear hb hbox hg) | ((with_reducible refine gate_callee (f := 105) rfl ?_); refine goesL_ (some 5) rfl rfl Try.func105 (by kernel_rfl) rfl #[.pointer (some ⟨g, 0, none⟩)] rfl Hd.m_ ?_; (with_reducible refine (spec_l5Draw.calls g s0_0 s0_1 s0_2 t331 t332 t333 t334 t335 t336 w0 _ ?side1 ?side2 A2.out).mono ?_); (case side1 => repeat (first | (with_reducible first | exact HI0.out | apply IsS109.alloc | apply IsS109.drewN | apply IsS109.drew | apply IsS109.set_1 | apply IsS109.set_2 | refine IsS109.far ?_ NB0_330.out _) | exact HI0.out)); (case side2 => repeat (first | (with_reducible first | exact HB.out | apply below_alloc | apply pw_below_drewN | apply below_drew1 | refine below_set ?_ (IsS109.ge HI0.out) | refine below_set ?_ GE330.out) | exact HB.out)); rintro e w7 ⟨rfl, hi, hb, hk⟩; refine ⟨_, rfl, ?_⟩; replace BK330 := Aside0.mk (KeepBut.blk hk (g' := gb330) (o := .cells #[.int .i64 0, .int .i64 0, .int .i64 0, .int .i64 0] 53 (0, 0)) (Hd.k_ BK330) NB330_0.out (by simp)); replace HK := Aside0.mk (KeepBut.trans (by repeat (first | (with_reducible first | exact HK.out | apply KeepBut.set_ | apply keep_drewN | apply keep_drew | apply keep_alloc | refine keep_far ?_ GW330.out _) | exact HK.out)) hk (.inl rfl)); replace HB := Aside0.mk (hb); replace HI0 := Aside0.mk (hi); (try clear hb); (try clear hb2); (try clear hk); (try clear hi)) | ((with_reducible refine gate_dst (N := 3) rfl ?_); refine Hd.box_ 3 (#[.int .i64 0, .int .i64 0, .int .i64 0, .int .i64 0]) 53 ?_; intro gb337 hg w8 hbox hb; replace HB := Aside0.mk (below_step (by repeat (first | (with_reducible first | exact HB.out | apply below_alloc | apply pw_below_drewN | apply below_drew1 | refine below_set ?_ (IsS109.ge HI0.out) | refine below_set ?_ GE330.out) | exact HB.out)) hb); have BK337 := Aside0.mk (hbox); have GW337 := Aside0.mk ((by rw [hg]; exact (keep_size (w := w) (g := g) (row := none) (by repeat (first | (with_reducible first | exact HK.out | apply KeepBut.set_ | apply keep_drewN | apply keep_drew | apply keep_alloc | refine keep_far ?_ GW330.out _) | exact HK.out))) : w.heap.size ≤ gb337)); have GE337 := Aside0.mk ((Nat.le_trans HW0.out (by rw [hg]; exact (keep_size (w := w) (g := g) (row := none) (by repeat (first | (with_reducible first | exact HK.out | apply KeepBut.set_ | apply keep_drewN | apply keep_drew | apply keep_alloc | refine keep_far ?_ GW330.out _) | exact HK.out))) : w.heap.size ≤ gb337) : w0.heap.size ≤ gb337)); replace HK := Aside0.mk (KeepBut.trans (by repeat (first | (with_reducible first | exact HK.out | apply KeepBut.set_ | apply keep_drewN | apply keep_drew | apply keep_alloc | refine keep_far ?_ GW330.out _) | exact HK.out)) (KeepBut.of_below hb g none) (.inl rfl)); have NB330_337 := Aside0.mk ((Hd.lt_ BK330 hg)); have NB337_330 := Aside0.mk ((Hd.gt_ BK330 hg)); replace BK330 := Aside0.mk (Hd.kb_ BK330 hb); have NB0_337 := Aside0.mk ((by rw [hg]; exact Nat.ne_of_lt (IsS109.lt (show IsS109 w0 _ g s0_0 t335 t336 from by repeat (first | (with_reducible first | exact HI0.out | apply IsS109.alloc | apply IsS109.drewN | apply IsS109.drew | apply IsS109.set_1 | apply IsS109.set_2 | refine IsS109.far ?_ NB0_330.out _) | exact HI0.out))) : g ≠ gb337)); have NB337_0 := Aside0.mk ((by rw [hg]; exact Nat.ne_of_gt (IsS109.lt (show IsS109 w0 _ g s0_0 t335 t336 from by repeat (first | (with_reducible first | exact HI0.out | apply IsS109.alloc | apply IsS109.drewN | apply IsS109.drew | apply IsS109.set_1 | apply IsS109.set_2 | refine IsS109.far ?_ NB0_330.out _) | exact HI0.out))) : gb337 ≠ g)); replace HI0 := Aside0.mk (IsS109.below (by repeat (first | (with_reducible first | exact HI0.out | apply IsS109.alloc | apply IsS109.drewN | apply IsS109.drew | apply IsS109.set_1 | apply IsS109.set_2 | refine IsS109.far ?_ NB0_330.out _) | exact HI0.out)) hb); clear hb hbox hg; have hnb9 := NB337_330.out; have hnc9 := NB330_337.out; have hnb10 := NB337_0.out; have hnc10 := NB0_337.out; obtain ⟨hcz11_0, hcz11_1, hcz11_2, hcz11_3⟩ := Hd.c4_ BK337.out; obtain ⟨hfz11_0, hfz11_1, hfz11_2, hfz11_3⟩ := Hd.f4_ BK337.out) | ((with_reducible refine gate_callee (f := 99) rfl ?_); refine goesL_ (some 7) rfl rfl Try.func99 (by kernel_rfl) rfl #[.pointer (some ⟨g, 0, none⟩), .int .i64 9] rfl Hd.m_ ?_; (with_reducible refine (spec_l1Once.calls g s0_0 t335 t336 9 true t339 t340 w0 _ ?side1 ?side2 A3.out).mono ?_); (case side1 => repeat (first | (with_reducible first | exact HI0.out | apply IsS109.alloc | apply IsS109.drewN | apply IsS109.drew | apply IsS109.set_1 | apply IsS109.set_2 | refine IsS109.far ?_ NB0_330.out _ | refine IsS109.far ?_ NB0_337.out _) | exact HI0.out)); (case side2 => repeat (first | (with_reducible first | exact HB.out | apply below_alloc | apply pw_below_drewN | apply below_drew1 | refine below_set ?_ (IsS109.ge HI0.out) | refine below_set ?_ GE330.out | refine below_set ?_ GE337.out) | exact HB.out)); rintro e w12 ⟨rfl, hi, hb, hk⟩; refine ⟨_, rfl, ?_⟩; replace BK330 := Aside0.mk (KeepBut.blk hk (g' := gb330) (o := .cells #[.int .i64 0, .int .i64 0, .int .i64 0, .int .i64 0] 53 (0, 0)) (by (with_reducible repeat (first | refine blk_drewN ?_ _ | refine blk_drew ?_ | refine blk_alloc ?_ _)); refine blk_far ?_ NB330_337.out _; (with_reducible repeat (first | refine blk_drewN ?_ _ | refine blk_drew ?_ | refine blk_alloc ?_ _)); refine blk_far ?_ NB330_337.out _; (with_reducible repeat (first | refine blk_drewN ?_ _ | refine blk_drew ?_ | refine blk_alloc ?_ _)); refine blk_far ?_ NB330_337.out _; (with_reducible repeat (first | refine blk_drewN ?_ _ | refine blk_drew ?_ | refine blk_alloc ?_ _)); refine blk_far ?_ NB330_337.out _; (with_reducible repeat (first | refine blk_drewN ?_ _ | refine blk_drew ?_ | refine blk_alloc ?_ _)); exact BK330.out) NB330_0.out (by simp)); replace BK337 := Aside0.mk (KeepBut.blk hk (g' := gb337) (o := .cells #[.int .i64 t331, .int .i64 t332, .int .i64 t333, .int .i64 t334] 53 (0, 0)) (by (with_reducible repeat (first | refine blk_drewN ?_ _ | refine blk_drew ?_ | refine blk_alloc ?_ _)); refine blk_put (cs := #[.int .i64 t331, .int .i64 t332, .int .i64 t333, .int .i64 0]) ?_ 3 _ rfl; (with_reducible repeat (first | refine blk_drewN ?_ _ | refine blk_drew ?_ | refine blk_alloc ?_ _)); refine blk_put (cs := #[.int .i64 t331, .int .i64 t332, .int .i64 0, .int .i64 0]) ?_ 2 _ rfl; (with_reducible repeat (first | refine blk_drewN ?_ _ | refine blk_drew ?_ | refine blk_alloc ?_ _)); refine blk_put (cs := #[.int .i64 t331, .int .i64 0, .int .i64 0, .int .i64 0]) ?_ 1 _ rfl; (with_reducible repeat (first | refine blk_drewN ?_ _ | refine blk_drew ?_ | refine blk_alloc ?_ _)); refine blk_put (cs := #[.int .i64 0, .int .i64 0, .int .i64 0, .int .i64 0]) ?_ 0 _ rfl; (with_reducible repeat (first | refine blk_drewN ?_ _ | refine blk_drew ?_ | refine blk_alloc ?_ _)); exact BK337.out) NB337_0.out (by simp)); replace HK := Aside0.mk (KeepBut.trans (by repeat (first | (with_reducible first | exact HK.out | apply KeepBut.set_ | apply keep_drewN | apply keep_drew | apply keep_alloc | refine keep_far ?_ GW330.out _ | refine keep_far ?_ GW337.out _) | exact HK.out)) hk (.inl rfl)); replace HB := Aside0.mk (hb); replace HI0 := Aside0.mk (hi); (try clear hb); (try clear hb2); (try clear hk); (try clear hi)) | ((with_reducible refine gate_callee (f := 82) rfl ?_); refine goesL_ (some 9) rfl rfl Try.func82 (by kernel_rfl) rfl #[.pointer (some ⟨g, 0, none⟩)] rfl Hd.m_ ?_; (with_reducible refine (spec_l4Any.calls g s0_0 t339 t340 t341 t342 t343 t344 w0 _ ?side1 ?side2 A5.out).mono ?_); (case side1 => repeat (first | (with_reducible first | exact HI0.out | apply IsS109.alloc | apply IsS109.drewN | apply IsS109.drew | apply IsS109.set_1 | apply IsS109.set_2 | refine IsS109.far ?_ NB0_330.out _ | refine IsS109.far ?_ NB0_337.out _) | exact HI0.out)); (case side2 => repeat (first | (with_reducible first | exact HB.out | apply below_alloc | apply pw_below_drewN | apply below_drew1 | refine below_set ?_ (IsS109.ge HI0.out) | refine below_set ?_ GE330.out | refine below_set ?_ GE337.out) | exact HB.out)); rintro e w13 ⟨rfl, hi, hb, hk⟩; refine ⟨_, rfl, ?_⟩; replace BK330 := Aside0.mk (KeepBut.blk hk (g' := gb330) (o := .cells #[.int .i64 0, .int .i64 0, .int .i64 0, .int .i64 0] 53 (0, 0)) (Hd.k_ BK330) NB330_0.out (by simp)); replace BK337 := Aside0.mk (KeepBut.blk hk (g' := gb337) (o := .cells #[.int .i64 t331, .int .i64 t332, .int .i64 t333, .int .i64 t334] 53 (0, 0)) (Hd.k_ BK337) NB337_0.out (by simp)); replace HK := Aside0.mk (KeepBut.trans (by repeat (first | (with_reducible first | exact HK.out | apply KeepBut.set_ | apply keep_drewN | apply keep_drew | apply keep_alloc | refine keep_far ?_ GW330.out _ | refine keep_far ?_ GW337.out _) | exact HK.out)) hk (.inl rfl)); replace HB := Aside0.mk (hb); replace HI0 := Aside0.mk (hi); (try clear hb); (try clear hb2); (try clear hk); (try clear hi); obtain ⟨hcz14_0, hcz14_1, hcz14_2, hcz14_3⟩ := Hd.c4_ BK337.out; obtain ⟨hfz14_0, hfz14_1, hfz14_2, hfz14_3⟩ := Hd.f4_ BK337.out; have hnb15 := NB330_0.out; have hnc15 := NB0_330.out; obtain ⟨hcz16_0, hcz16_1, hcz16_2, hcz16_3⟩ := Hd.c4_ BK330.out; obtain ⟨hfz16_0, hfz16_1, hfz16_2, hfz16_3⟩ := Hd.f4_ BK330.out))
  refine bodyPost_ret (results_cell_row rfl _ _ gb330 53 #[.int .i64 t341, .int .i64 t342, .int .i64 t333, .int .i64 t334] (0, 0) _ rfl (by (with_reducible repeat (first | refine blk_drewN ?_ _ | refine blk_drew ?_ | refine blk_alloc ?_ _)); refine blk_put (cs := #[.int .i64 t341, .int .i64 t342, .int .i64 t333, .int .i64 0]) ?_ 3 _ rfl; (with_reducible repeat (first | refine blk_drewN ?_ _ | refine blk_drew ?_ | refine blk_alloc ?_ _)); refine blk_put (cs := #[.int .i64 t341, .int .i64 t342, .int .i64 0, .int .i64 0]) ?_ 2 _ rfl; (with_reducible repeat (first | refine blk_drewN ?_ _ | refine blk_drew ?_ | refine blk_alloc ?_ _)); refine blk_put (cs := #[.int .i64 t341, .int .i64 0, .int .i64 0, .int .i64 0]) ?_ 1 _ rfl; (with_reducible repeat (first | refine blk_drewN ?_ _ | refine blk_drew ?_ | refine blk_alloc ?_ _)); refine blk_put (cs := #[.int .i64 0, .int .i64 0, .int .i64 0, .int .i64 0]) ?_ 0 _ rfl; (with_reducible repeat (first | refine blk_drewN ?_ _ | refine blk_drew ?_ | refine blk_alloc ?_ _)); refine blk_far ?_ NB330_337.out _; (with_reducible repeat (first | refine blk_drewN ?_ _ | refine blk_drew ?_ | refine blk_alloc ?_ _)); refine blk_far ?_ NB330_337.out _; (with_reducible repeat (first | refine blk_drewN ?_ _ | refine blk_drew ?_ | refine blk_alloc ?_ _)); exact BK330.out) Try.underlying53 rfl (by kernel_rfl)) rfl ?_
  exact ⟨Hd.e_, by repeat (first | (with_reducible first | exact HI0.out | apply IsS109.alloc | apply IsS109.drewN | apply IsS109.drew | apply IsS109.set_1 | apply IsS109.set_2 | refine IsS109.far ?_ NB0_330.out _ | refine IsS109.far ?_ NB0_337.out _) | exact HI0.out), by repeat (first | (with_reducible first | exact HB.out | apply below_alloc | apply pw_below_drewN | apply below_drew1 | refine below_set ?_ (IsS109.ge HI0.out) | refine below_set ?_ GE330.out | refine below_set ?_ GE337.out) | exact HB.out), by repeat (first | (with_reducible first | exact HK.out | apply KeepBut.set_ | apply keep_drewN | apply keep_drew | apply keep_alloc | refine keep_far ?_ GW330.out _ | refine keep_far ?_ GW337.out _) | exact HK.out)⟩
 ·
  replace c4 := Bool.eq_false_iff.mpr c4
  subst c4
  have H1 : (some (t331, t332, t333, t334, t339, t340)) = some (r1, r2, r3, r4, r5, r6) := by rw [if_neg (show ¬ (false = true) by decide)] at H; exact H
  clear H
  have H := H1
  clear H1
  simp only [Option.some.injEq, Prod.mk.injEq] at H
  obtain ⟨rfl, rfl, rfl, rfl, rfl, rfl⟩ := H
  go_enter Try.func81, Try.ntmps81
  go_wp2_with (first | ((with_reducible refine gate_dst (N := 2) rfl ?_); refine Hd.box_ 2 (#[.int .i64 0, .int .i64 0, .int .i64 0, .int .i64 0]) 53 ?_; intro gb330 hg w17 hbox hb; replace HB := Aside0.mk (below_step (by repeat (first | (with_reducible first | exact HB.out | apply below_alloc | apply pw_below_drewN | apply below_drew1 | refine below_set ?_ (IsS109.ge HI0.out)) | exact HB.out)) hb); have BK330 := Aside0.mk (hbox); have GW330 := Aside0.mk ((by rw [hg]; exact (keep_size (w := w) (g := g) (row := none) (by repeat (first | (with_reducible first | exact HK.out | apply KeepBut.set_ | apply keep_drewN | apply keep_drew | apply keep_alloc) | exact HK.out))) : w.heap.size ≤ gb330)); have GE330 := Aside0.mk ((Nat.le_trans HW0.out (by rw [hg]; exact (keep_size (w := w) (g := g) (row := none) (by repeat (first | (with_reducible first | exact HK.out | apply KeepBut.set_ | apply keep_drewN | apply keep_drew | apply keep_alloc) | exact HK.out))) : w.heap.size ≤ gb330) : w0.heap.size ≤ gb330)); replace HK := Aside0.mk (KeepBut.trans (by repeat (first | (with_reducible first | exact HK.out | apply KeepBut.set_ | apply keep_drewN | apply keep_drew | apply keep_alloc) | exact HK.out)) (KeepBut.of_below hb g none) (.inl rfl)); have NB0_330 := Aside0.mk ((by rw [hg]; exact Nat.ne_of_lt (IsS109.lt (show IsS109 w0 _ g s0_0 s0_1 s0_2 from by repeat (first | (with_reducible first | exact HI0.out | apply IsS109.alloc | apply IsS109.drewN | apply IsS109.drew | apply IsS109.set_1 | apply IsS109.set_2) | exact HI0.out))) : g ≠ gb330)); have NB330_0 := Aside0.mk ((by rw [hg]; exact Nat.ne_of_gt (IsS109.lt (show IsS109 w0 _ g s0_0 s0_1 s0_2 from by repeat (first | (with_reducible first | exact HI0.out | apply IsS109.alloc | apply IsS109.drewN | apply IsS109.drew | apply IsS109.set_1 | apply IsS109.set_2) | exact HI0.out))) : gb330 ≠ g)); replace HI0 := Aside0.mk (IsS109.below (by repeat (first | (with_reducible first | exact HI0.out | apply IsS109.alloc | apply IsS109.drewN | apply IsS109.drew | apply IsS109.set_1 | apply IsS109.set_2) | exact HI0.out)) hb); clear hb hbox hg) | ((with_reducible refine gate_callee (f := 105) rfl ?_); refine goesL_ (some 5) rfl rfl Try.func105 (by kernel_rfl) rfl #[.pointer (some ⟨g, 0, none⟩)] rfl Hd.m_ ?_; (with_reducible refine (spec_l5Draw.calls g s0_0 s0_1 s0_2 t331 t332 t333 t334 t335 t336 w0 _ ?side1 ?side2 A2.out).mono ?_); (case side1 => repeat (first | (with_reducible first | exact HI0.out | apply IsS109.alloc | apply IsS109.drewN | apply IsS109.drew | apply IsS109.set_1 | apply IsS109.set_2 | refine IsS109.far ?_ NB0_330.out _) | exact HI0.out)); (case side2 => repeat (first | (with_reducible first | exact HB.out | apply below_alloc | apply pw_below_drewN | apply below_drew1 | refine below_set ?_ (IsS109.ge HI0.out) | refine below_set ?_ GE330.out) | exact HB.out)); rintro e w18 ⟨rfl, hi, hb, hk⟩; refine ⟨_, rfl, ?_⟩; replace BK330 := Aside0.mk (KeepBut.blk hk (g' := gb330) (o := .cells #[.int .i64 0, .int .i64 0, .int .i64 0, .int .i64 0] 53 (0, 0)) (Hd.k_ BK330) NB330_0.out (by simp)); replace HK := Aside0.mk (KeepBut.trans (by repeat (first | (with_reducible first | exact HK.out | apply KeepBut.set_ | apply keep_drewN | apply keep_drew | apply keep_alloc | refine keep_far ?_ GW330.out _) | exact HK.out)) hk (.inl rfl)); replace HB := Aside0.mk (hb); replace HI0 := Aside0.mk (hi); (try clear hb); (try clear hb2); (try clear hk); (try clear hi)) | ((with_reducible refine gate_dst (N := 3) rfl ?_); refine Hd.box_ 3 (#[.int .i64 0, .int .i64 0, .int .i64 0, .int .i64 0]) 53 ?_; intro gb337 hg w19 hbox hb; replace HB := Aside0.mk (below_step (by repeat (first | (with_reducible first | exact HB.out | apply below_alloc | apply pw_below_drewN | apply below_drew1 | refine below_set ?_ (IsS109.ge HI0.out) | refine below_set ?_ GE330.out) | exact HB.out)) hb); have BK337 := Aside0.mk (hbox); have GW337 := Aside0.mk ((by rw [hg]; exact (keep_size (w := w) (g := g) (row := none) (by repeat (first | (with_reducible first | exact HK.out | apply KeepBut.set_ | apply keep_drewN | apply keep_drew | apply keep_alloc | refine keep_far ?_ GW330.out _) | exact HK.out))) : w.heap.size ≤ gb337)); have GE337 := Aside0.mk ((Nat.le_trans HW0.out (by rw [hg]; exact (keep_size (w := w) (g := g) (row := none) (by repeat (first | (with_reducible first | exact HK.out | apply KeepBut.set_ | apply keep_drewN | apply keep_drew | apply keep_alloc | refine keep_far ?_ GW330.out _) | exact HK.out))) : w.heap.size ≤ gb337) : w0.heap.size ≤ gb337)); replace HK := Aside0.mk (KeepBut.trans (by repeat (first | (with_reducible first | exact HK.out | apply KeepBut.set_ | apply keep_drewN | apply keep_drew | apply keep_alloc | refine keep_far ?_ GW330.out _) | exact HK.out)) (KeepBut.of_below hb g none) (.inl rfl)); have NB330_337 := Aside0.mk ((Hd.lt_ BK330 hg)); have NB337_330 := Aside0.mk ((Hd.gt_ BK330 hg)); replace BK330 := Aside0.mk (Hd.kb_ BK330 hb); have NB0_337 := Aside0.mk ((by rw [hg]; exact Nat.ne_of_lt (IsS109.lt (show IsS109 w0 _ g s0_0 t335 t336 from by repeat (first | (with_reducible first | exact HI0.out | apply IsS109.alloc | apply IsS109.drewN | apply IsS109.drew | apply IsS109.set_1 | apply IsS109.set_2 | refine IsS109.far ?_ NB0_330.out _) | exact HI0.out))) : g ≠ gb337)); have NB337_0 := Aside0.mk ((by rw [hg]; exact Nat.ne_of_gt (IsS109.lt (show IsS109 w0 _ g s0_0 t335 t336 from by repeat (first | (with_reducible first | exact HI0.out | apply IsS109.alloc | apply IsS109.drewN | apply IsS109.drew | apply IsS109.set_1 | apply IsS109.set_2 | refine IsS109.far ?_ NB0_330.out _) | exact HI0.out))) : gb337 ≠ g)); replace HI0 := Aside0.mk (IsS109.below (by repeat (first | (with_reducible first | exact HI0.out | apply IsS109.alloc | apply IsS109.drewN | apply IsS109.drew | apply IsS109.set_1 | apply IsS109.set_2 | refine IsS109.far ?_ NB0_330.out _) | exact HI0.out)) hb); clear hb hbox hg; have hnb20 := NB337_330.out; have hnc20 := NB330_337.out; have hnb21 := NB337_0.out; have hnc21 := NB0_337.out; obtain ⟨hcz22_0, hcz22_1, hcz22_2, hcz22_3⟩ := Hd.c4_ BK337.out; obtain ⟨hfz22_0, hfz22_1, hfz22_2, hfz22_3⟩ := Hd.f4_ BK337.out) | ((with_reducible refine gate_callee (f := 99) rfl ?_); refine goesL_ (some 7) rfl rfl Try.func99 (by kernel_rfl) rfl #[.pointer (some ⟨g, 0, none⟩), .int .i64 9] rfl Hd.m_ ?_; (with_reducible refine (spec_l1Once.calls g s0_0 t335 t336 9 false t339 t340 w0 _ ?side1 ?side2 A3.out).mono ?_); (case side1 => repeat (first | (with_reducible first | exact HI0.out | apply IsS109.alloc | apply IsS109.drewN | apply IsS109.drew | apply IsS109.set_1 | apply IsS109.set_2 | refine IsS109.far ?_ NB0_330.out _ | refine IsS109.far ?_ NB0_337.out _) | exact HI0.out)); (case side2 => repeat (first | (with_reducible first | exact HB.out | apply below_alloc | apply pw_below_drewN | apply below_drew1 | refine below_set ?_ (IsS109.ge HI0.out) | refine below_set ?_ GE330.out | refine below_set ?_ GE337.out) | exact HB.out)); rintro e w23 ⟨rfl, hi, hb, hk⟩; refine ⟨_, rfl, ?_⟩; replace BK330 := Aside0.mk (KeepBut.blk hk (g' := gb330) (o := .cells #[.int .i64 0, .int .i64 0, .int .i64 0, .int .i64 0] 53 (0, 0)) (by (with_reducible repeat (first | refine blk_drewN ?_ _ | refine blk_drew ?_ | refine blk_alloc ?_ _)); refine blk_far ?_ NB330_337.out _; (with_reducible repeat (first | refine blk_drewN ?_ _ | refine blk_drew ?_ | refine blk_alloc ?_ _)); refine blk_far ?_ NB330_337.out _; (with_reducible repeat (first | refine blk_drewN ?_ _ | refine blk_drew ?_ | refine blk_alloc ?_ _)); refine blk_far ?_ NB330_337.out _; (with_reducible repeat (first | refine blk_drewN ?_ _ | refine blk_drew ?_ | refine blk_alloc ?_ _)); refine blk_far ?_ NB330_337.out _; (with_reducible repeat (first | refine blk_drewN ?_ _ | refine blk_drew ?_ | refine blk_alloc ?_ _)); exact BK330.out) NB330_0.out (by simp)); replace BK337 := Aside0.mk (KeepBut.blk hk (g' := gb337) (o := .cells #[.int .i64 t331, .int .i64 t332, .int .i64 t333, .int .i64 t334] 53 (0, 0)) (by (with_reducible repeat (first | refine blk_drewN ?_ _ | refine blk_drew ?_ | refine blk_alloc ?_ _)); refine blk_put (cs := #[.int .i64 t331, .int .i64 t332, .int .i64 t333, .int .i64 0]) ?_ 3 _ rfl; (with_reducible repeat (first | refine blk_drewN ?_ _ | refine blk_drew ?_ | refine blk_alloc ?_ _)); refine blk_put (cs := #[.int .i64 t331, .int .i64 t332, .int .i64 0, .int .i64 0]) ?_ 2 _ rfl; (with_reducible repeat (first | refine blk_drewN ?_ _ | refine blk_drew ?_ | refine blk_alloc ?_ _)); refine blk_put (cs := #[.int .i64 t331, .int .i64 0, .int .i64 0, .int .i64 0]) ?_ 1 _ rfl; (with_reducible repeat (first | refine blk_drewN ?_ _ | refine blk_drew ?_ | refine blk_alloc ?_ _)); refine blk_put (cs := #[.int .i64 0, .int .i64 0, .int .i64 0, .int .i64 0]) ?_ 0 _ rfl; (with_reducible repeat (first | refine blk_drewN ?_ _ | refine blk_drew ?_ | refine blk_alloc ?_ _)); exact BK337.out) NB337_0.out (by simp)); replace HK := Aside0.mk (KeepBut.trans (by repeat (first | (with_reducible first | exact HK.out | apply KeepBut.set_ | apply keep_drewN | apply keep_drew | apply keep_alloc | refine keep_far ?_ GW330.out _ | refine keep_far ?_ GW337.out _) | exact HK.out)) hk (.inl rfl)); replace HB := Aside0.mk (hb); replace HI0 := Aside0.mk (hi); (try clear hb); (try clear hb2); (try clear hk); (try clear hi); obtain ⟨hcz24_0, hcz24_1, hcz24_2, hcz24_3⟩ := Hd.c4_ BK337.out; obtain ⟨hfz24_0, hfz24_1, hfz24_2, hfz24_3⟩ := Hd.f4_ BK337.out; have hnb25 := NB330_0.out; have hnc25 := NB0_330.out; obtain ⟨hcz26_0, hcz26_1, hcz26_2, hcz26_3⟩ := Hd.c4_ BK330.out; obtain ⟨hfz26_0, hfz26_1, hfz26_2, hfz26_3⟩ := Hd.f4_ BK330.out))
  refine bodyPost_ret (results_cell_row rfl _ _ gb330 53 #[.int .i64 t331, .int .i64 t332, .int .i64 t333, .int .i64 t334] (0, 0) _ rfl (by (with_reducible repeat (first | refine blk_drewN ?_ _ | refine blk_drew ?_ | refine blk_alloc ?_ _)); refine blk_put (cs := #[.int .i64 t331, .int .i64 t332, .int .i64 t333, .int .i64 0]) ?_ 3 _ rfl; (with_reducible repeat (first | refine blk_drewN ?_ _ | refine blk_drew ?_ | refine blk_alloc ?_ _)); refine blk_put (cs := #[.int .i64 t331, .int .i64 t332, .int .i64 0, .int .i64 0]) ?_ 2 _ rfl; (with_reducible repeat (first | refine blk_drewN ?_ _ | refine blk_drew ?_ | refine blk_alloc ?_ _)); refine blk_put (cs := #[.int .i64 t331, .int .i64 0, .int .i64 0, .int .i64 0]) ?_ 1 _ rfl; (with_reducible repeat (first | refine blk_drewN ?_ _ | refine blk_drew ?_ | refine blk_alloc ?_ _)); refine blk_put (cs := #[.int .i64 0, .int .i64 0, .int .i64 0, .int .i64 0]) ?_ 0 _ rfl; (with_reducible repeat (first | refine blk_drewN ?_ _ | refine blk_drew ?_ | refine blk_alloc ?_ _)); exact BK330.out) Try.underlying53 rfl (by kernel_rfl)) rfl ?_
  exact ⟨Hd.e_, by repeat (first | (with_reducible first | exact HI0.out | apply IsS109.alloc | apply IsS109.drewN | apply IsS109.drew | apply IsS109.set_1 | apply IsS109.set_2 | refine IsS109.far ?_ NB0_330.out _ | refine IsS109.far ?_ NB0_337.out _) | exact HI0.out), by repeat (first | (with_reducible first | exact HB.out | apply below_alloc | apply pw_below_drewN | apply below_drew1 | refine below_set ?_ (IsS109.ge HI0.out) | refine below_set ?_ GE330.out | refine below_set ?_ GE337.out) | exact HB.out), by repeat (first | (with_reducible first | exact HK.out | apply KeepBut.set_ | apply keep_drewN | apply keep_drew | apply keep_alloc | refine keep_far ?_ GW330.out _ | refine keep_far ?_ GW337.out _) | exact HK.out)⟩
def spec_DrawIsNear.f (k : Nat) (l0 : List Int) : Option (Int × Int × Int × Int × Int × Int × Int) := (spec_l1New.f k l0).bind fun bt347 => ((spec_l5Any.f bt347.1 bt347.2.1 bt347.2.2).bind fun bt351 => ((spec_l4Any.f bt347.1 bt351.2.2.2.2.1 bt351.2.2.2.2.2).bind fun bt358 => ((spec_l11Near.f bt347.1 bt358.2.2.1 bt358.2.2.2).bind fun bt363 => (some (bt351.1, bt351.2.1, bt351.2.2.1, bt351.2.2.2.1, bt358.1, bt358.2.1, bt363.1)))))
set_option maxHeartbeats 8000000 in
set_option maxRecDepth 100000 in
theorem spec_DrawIsNear.calls (k : Nat) (A0 : Option Addr) (c0 : Nat) (l0 : List Int) (r1 : Int) (r2 : Int) (r3 : Int) (r4 : Int) (r5 : Int) (r6 : Int) (r7 : Int) (w : World) (hr0 : Kd.C (Kd.int .u8) w A0 l0.length l0) (hc0 : l0.length ≤ c0) (h : spec_DrawIsNear.f k l0 = some (r1, r2, r3, r4, r5, r6, r7)) :
  Calls Try.prog 35 #[.slice A0 l0.length c0] w fun e w' => e = .returned (.tuple #[.agg #[.int .i64 r1, .int .i64 r2, .int .i64 r3, .int .i64 r4], .agg #[.int .i64 r5, .int .i64 r6], .int .i64 r7]) ∧ Below w.heap.size w w' := by
 have hu53 := Try.underlying53
 have hu27 := Try.underlying27
 have HR0 := Aside0.mk hr0
 have HC0 := Aside0.mk hc0
 clear hr0 hc0
 have HB := Aside0.mk (Below.refl w.heap.size w)
 have H : ((spec_l1New.f k l0).bind fun bt347 => ((spec_l5Any.f bt347.1 bt347.2.1 bt347.2.2).bind fun bt351 => ((spec_l4Any.f bt347.1 bt351.2.2.2.2.1 bt351.2.2.2.2.2).bind fun bt358 => ((spec_l11Near.f bt347.1 bt358.2.2.1 bt358.2.2.2).bind fun bt363 => (some (bt351.1, bt351.2.1, bt351.2.2.1, bt351.2.2.2.1, bt358.1, bt358.2.1, bt363.1)))))) = some (r1, r2, r3, r4, r5, r6, r7) := h
 clear h
 replace H := Option.bind_eq_some_iff.mp H
 obtain ⟨⟨t347, t348, t349⟩, A20, H⟩ := H
 replace H : ((spec_l5Any.f t347 t348 t349).bind fun bt351 => ((spec_l4Any.f t347 bt351.2.2.2.2.1 bt351.2.2.2.2.2).bind fun bt358 => ((spec_l11Near.f t347 bt358.2.2.1 bt358.2.2.2).bind fun bt363 => (some (bt351.1, bt351.2.1, bt351.2.2.1, bt351.2.2.2.1, bt358.1, bt358.2.1, bt363.1))))) = some (r1, r2, r3, r4, r5, r6, r7) := H
 have A2 := Aside0.mk A20
 clear A20
 replace H := Option.bind_eq_some_iff.mp H
 obtain ⟨⟨t351, t352, t353, t354, t355, t356⟩, A30, H⟩ := H
 replace H : ((spec_l4Any.f t347 t355 t356).bind fun bt358 => ((spec_l11Near.f t347 bt358.2.2.1 bt358.2.2.2).bind fun bt363 => (some (t351, t352, t353, t354, bt358.1, bt358.2.1, bt363.1)))) = some (r1, r2, r3, r4, r5, r6, r7) := H
 have A3 := Aside0.mk A30
 clear A30
 replace H := Option.bind_eq_some_iff.mp H
 obtain ⟨⟨t358, t359, t360, t361⟩, A40, H⟩ := H
 replace H : ((spec_l11Near.f t347 t360 t361).bind fun bt363 => (some (t351, t352, t353, t354, t358, t359, bt363.1))) = some (r1, r2, r3, r4, r5, r6, r7) := H
 have A4 := Aside0.mk A40
 clear A40
 replace H := Option.bind_eq_some_iff.mp H
 obtain ⟨⟨t363, t364, t365⟩, A50, H⟩ := H
 replace H : (some (t351, t352, t353, t354, t358, t359, t363)) = some (r1, r2, r3, r4, r5, r6, r7) := H
 have A5 := Aside0.mk A50
 clear A50
 simp only [Option.some.injEq, Prod.mk.injEq] at H
 obtain ⟨rfl, rfl, rfl, rfl, rfl, rfl, rfl⟩ := H
 go_enter Try.func35, Try.ntmps35
 try go_wp2_with (first | ((with_reducible refine gate_dst (N := 2) rfl ?_); refine Hd.box_ 2 (#[.int .i64 0, .int .i64 0, .int .i64 0, .int .i64 0]) 53 ?_; intro gb345 hg w6 hbox hb; have BK345 := Aside0.mk (hbox); have GW345 := Aside0.mk ((Hd.g_ hg Hd.b_ : w.heap.size ≤ gb345)); have GE345 := Aside0.mk ((Hd.g_ hg Hd.b_ : w.heap.size ≤ gb345)); replace HB := Aside0.mk (below_step Hd.b_ hb); clear hb hbox hg) | ((with_reducible refine gate_dst (N := 3) rfl ?_); refine Hd.box_ 3 (#[.int .i64 0, .int .i64 0]) 27 ?_; intro gb346 hg w7 hbox hb; have BK346 := Aside0.mk (hbox); have GW346 := Aside0.mk ((Hd.g_ hg Hd.b_ : w.heap.size ≤ gb346)); have GE346 := Aside0.mk ((Hd.g_ hg Hd.b_ : w.heap.size ≤ gb346)); replace HB := Aside0.mk (below_step Hd.b_ hb); have NB345_346 := Aside0.mk ((Hd.lt_ BK345 hg)); have NB346_345 := Aside0.mk ((Hd.gt_ BK345 hg)); replace BK345 := Aside0.mk (Hd.kb_ BK345 hb); clear hb hbox hg) | ((with_reducible refine gate_callee (f := 66) rfl ?_); refine goesL_ (some 9) rfl rfl Try.func66 (by kernel_rfl) rfl #[.slice A0 l0.length c0] rfl Hd.m_ ?_; (with_reducible refine (spec_l1New.calls k _ _ l0 t347 t348 t349 w _ ?side1 ?side2 ?side3 A2.out).mono ?_); (case side1 => repeat (first | (with_reducible first | exact HB.out | apply below_alloc | apply pw_below_drewN | apply below_drew1 | refine below_set ?_ GE345.out | refine below_set ?_ GE346.out) | exact HB.out)); (case side2 => exact HR0.out); (case side3 => exact HC0.out); rintro e w8 ⟨g350, rfl, hi, hb, hb2⟩; refine ⟨_, rfl, ?_⟩; replace HB := Aside0.mk (hb); have HI350 := Aside0.mk (hi); have NB350_345 := Aside0.mk (IsS109.ne_blk hi (blk_below (g := gb345) (o := .cells #[.int .i64 0, .int .i64 0, .int .i64 0, .int .i64 0] 53 (0, 0)) (Hd.k_ BK345) hb2) (by decide)); have NB345_350 := Aside0.mk (Ne.symm (IsS109.ne_blk hi (blk_below (g := gb345) (o := .cells #[.int .i64 0, .int .i64 0, .int .i64 0, .int .i64 0] 53 (0, 0)) (Hd.k_ BK345) hb2) (by decide))); replace BK345 := Aside0.mk (blk_below (g := gb345) (o := .cells #[.int .i64 0, .int .i64 0, .int .i64 0, .int .i64 0] 53 (0, 0)) (Hd.k_ BK345) hb2); have NB350_346 := Aside0.mk (IsS109.ne_blk hi (blk_below (g := gb346) (o := .cells #[.int .i64 0, .int .i64 0] 27 (0, 0)) (Hd.k_ BK346) hb2) (by decide)); have NB346_350 := Aside0.mk (Ne.symm (IsS109.ne_blk hi (blk_below (g := gb346) (o := .cells #[.int .i64 0, .int .i64 0] 27 (0, 0)) (Hd.k_ BK346) hb2) (by decide))); replace BK346 := Aside0.mk (blk_below (g := gb346) (o := .cells #[.int .i64 0, .int .i64 0] 27 (0, 0)) (Hd.k_ BK346) hb2); (try clear hb); (try clear hb2); (try clear hk); (try clear hi)) | ((with_reducible refine gate_callee (f := 81) rfl ?_); refine goesL_ (some 11) rfl rfl Try.func81 (by kernel_rfl) rfl #[.pointer (some ⟨g350, 0, none⟩)] rfl Hd.m_ ?_; (with_reducible refine (spec_l5Any.calls g350 t347 t348 t349 t351 t352 t353 t354 t355 t356 w _ ?side1 ?side2 A3.out).mono ?_); (case side1 => repeat (first | (with_reducible first | exact HI350.out | apply IsS109.alloc | apply IsS109.drewN | apply IsS109.drew | apply IsS109.set_1 | apply IsS109.set_2 | refine IsS109.far ?_ NB350_345.out _ | refine IsS109.far ?_ NB350_346.out _) | exact HI350.out)); (case side2 => repeat (first | (with_reducible first | exact HB.out | apply below_alloc | apply pw_below_drewN | apply below_drew1 | refine below_set ?_ (IsS109.ge HI350.out) | refine below_set ?_ GE345.out | refine below_set ?_ GE346.out) | exact HB.out)); rintro e w9 ⟨rfl, hi, hb, hk⟩; refine ⟨_, rfl, ?_⟩; replace BK345 := Aside0.mk (KeepBut.blk hk (g' := gb345) (o := .cells #[.int .i64 0, .int .i64 0, .int .i64 0, .int .i64 0] 53 (0, 0)) (Hd.k_ BK345) NB345_350.out (by simp)); replace BK346 := Aside0.mk (KeepBut.blk hk (g' := gb346) (o := .cells #[.int .i64 0, .int .i64 0] 27 (0, 0)) (Hd.k_ BK346) NB346_350.out (by simp)); replace HB := Aside0.mk (hb); replace HI350 := Aside0.mk (hi); (try clear hb); (try clear hb2); (try clear hk); (try clear hi)) | ((with_reducible refine gate_dst (N := 6) rfl ?_); refine Hd.box_ 6 (#[.int .i64 0, .int .i64 0, .int .i64 0, .int .i64 0]) 53 ?_; intro gb357 hg w10 hbox hb; have BK357 := Aside0.mk (hbox); have GW357 := Aside0.mk ((by rw [hg]; exact (below_size (by repeat (first | (with_reducible first | exact HB.out | apply below_alloc | apply pw_below_drewN | apply below_drew1 | refine below_set ?_ (IsS109.ge HI350.out) | refine below_set ?_ GE345.out | refine below_set ?_ GE346.out) | exact HB.out))) : w.heap.size ≤ gb357)); have GE357 := Aside0.mk ((by rw [hg]; exact (below_size (by repeat (first | (with_reducible first | exact HB.out | apply below_alloc | apply pw_below_drewN | apply below_drew1 | refine below_set ?_ (IsS109.ge HI350.out) | refine below_set ?_ GE345.out | refine below_set ?_ GE346.out) | exact HB.out))) : w.heap.size ≤ gb357)); replace HB := Aside0.mk (below_step (by repeat (first | (with_reducible first | exact HB.out | apply below_alloc | apply pw_below_drewN | apply below_drew1 | refine below_set ?_ (IsS109.ge HI350.out) | refine below_set ?_ GE345.out | refine below_set ?_ GE346.out) | exact HB.out)) hb); have NB345_357 := Aside0.mk ((Hd.lt_ BK345 hg)); have NB357_345 := Aside0.mk ((Hd.gt_ BK345 hg)); replace BK345 := Aside0.mk (Hd.kb_ BK345 hb); have NB346_357 := Aside0.mk ((Hd.lt_ BK346 hg)); have NB357_346 := Aside0.mk ((Hd.gt_ BK346 hg)); replace BK346 := Aside0.mk (Hd.kb_ BK346 hb); have NB350_357 := Aside0.mk ((by rw [hg]; exact Nat.ne_of_lt (IsS109.lt (show IsS109 w _ g350 t347 t355 t356 from by repeat (first | (with_reducible first | exact HI350.out | apply IsS109.alloc | apply IsS109.drewN | apply IsS109.drew | apply IsS109.set_1 | apply IsS109.set_2 | refine IsS109.far ?_ NB350_345.out _ | refine IsS109.far ?_ NB350_346.out _) | exact HI350.out))) : g350 ≠ gb357)); have NB357_350 := Aside0.mk ((by rw [hg]; exact Nat.ne_of_gt (IsS109.lt (show IsS109 w _ g350 t347 t355 t356 from by repeat (first | (with_reducible first | exact HI350.out | apply IsS109.alloc | apply IsS109.drewN | apply IsS109.drew | apply IsS109.set_1 | apply IsS109.set_2 | refine IsS109.far ?_ NB350_345.out _ | refine IsS109.far ?_ NB350_346.out _) | exact HI350.out))) : gb357 ≠ g350)); replace HI350 := Aside0.mk (IsS109.below (by repeat (first | (with_reducible first | exact HI350.out | apply IsS109.alloc | apply IsS109.drewN | apply IsS109.drew | apply IsS109.set_1 | apply IsS109.set_2 | refine IsS109.far ?_ NB350_345.out _ | refine IsS109.far ?_ NB350_346.out _) | exact HI350.out)) hb); clear hb hbox hg; have hnb11 := NB357_345.out; have hnc11 := NB345_357.out; have hnb12 := NB357_346.out; have hnc12 := NB346_357.out; have hnb13 := NB357_350.out; have hnc13 := NB350_357.out; obtain ⟨hcz14_0, hcz14_1, hcz14_2, hcz14_3⟩ := Hd.c4_ BK357.out; obtain ⟨hfz14_0, hfz14_1, hfz14_2, hfz14_3⟩ := Hd.f4_ BK357.out) | ((with_reducible refine gate_callee (f := 82) rfl ?_); refine goesL_ (some 13) rfl rfl Try.func82 (by kernel_rfl) rfl #[.pointer (some ⟨g350, 0, none⟩)] rfl Hd.m_ ?_; (with_reducible refine (spec_l4Any.calls g350 t347 t355 t356 t358 t359 t360 t361 w _ ?side1 ?side2 A4.out).mono ?_); (case side1 => repeat (first | (with_reducible first | exact HI350.out | apply IsS109.alloc | apply IsS109.drewN | apply IsS109.drew | apply IsS109.set_1 | apply IsS109.set_2 | refine IsS109.far ?_ NB350_345.out _ | refine IsS109.far ?_ NB350_346.out _ | refine IsS109.far ?_ NB350_357.out _) | exact HI350.out)); (case side2 => repeat (first | (with_reducible first | exact HB.out | apply below_alloc | apply pw_below_drewN | apply below_drew1 | refine below_set ?_ (IsS109.ge HI350.out) | refine below_set ?_ GE345.out | refine below_set ?_ GE346.out | refine below_set ?_ GE357.out) | exact HB.out)); rintro e w15 ⟨rfl, hi, hb, hk⟩; refine ⟨_, rfl, ?_⟩; replace BK345 := Aside0.mk (KeepBut.blk hk (g' := gb345) (o := .cells #[.int .i64 0, .int .i64 0, .int .i64 0, .int .i64 0] 53 (0, 0)) (by (with_reducible repeat (first | refine blk_drewN ?_ _ | refine blk_drew ?_ | refine blk_alloc ?_ _)); refine blk_far ?_ NB345_357.out _; (with_reducible repeat (first | refine blk_drewN ?_ _ | refine blk_drew ?_ | refine blk_alloc ?_ _)); refine blk_far ?_ NB345_357.out _; (with_reducible repeat (first | refine blk_drewN ?_ _ | refine blk_drew ?_ | refine blk_alloc ?_ _)); refine blk_far ?_ NB345_357.out _; (with_reducible repeat (first | refine blk_drewN ?_ _ | refine blk_drew ?_ | refine blk_alloc ?_ _)); refine blk_far ?_ NB345_357.out _; (with_reducible repeat (first | refine blk_drewN ?_ _ | refine blk_drew ?_ | refine blk_alloc ?_ _)); exact BK345.out) NB345_350.out (by simp)); replace BK346 := Aside0.mk (KeepBut.blk hk (g' := gb346) (o := .cells #[.int .i64 0, .int .i64 0] 27 (0, 0)) (by (with_reducible repeat (first | refine blk_drewN ?_ _ | refine blk_drew ?_ | refine blk_alloc ?_ _)); refine blk_far ?_ NB346_357.out _; (with_reducible repeat (first | refine blk_drewN ?_ _ | refine blk_drew ?_ | refine blk_alloc ?_ _)); refine blk_far ?_ NB346_357.out _; (with_reducible repeat (first | refine blk_drewN ?_ _ | refine blk_drew ?_ | refine blk_alloc ?_ _)); refine blk_far ?_ NB346_357.out _; (with_reducible repeat (first | refine blk_drewN ?_ _ | refine blk_drew ?_ | refine blk_alloc ?_ _)); refine blk_far ?_ NB346_357.out _; (with_reducible repeat (first | refine blk_drewN ?_ _ | refine blk_drew ?_ | refine blk_alloc ?_ _)); exact BK346.out) NB346_350.out (by simp)); replace BK357 := Aside0.mk (KeepBut.blk hk (g' := gb357) (o := .cells #[.int .i64 t351, .int .i64 t352, .int .i64 t353, .int .i64 t354] 53 (0, 0)) (by (with_reducible repeat (first | refine blk_drewN ?_ _ | refine blk_drew ?_ | refine blk_alloc ?_ _)); refine blk_put (cs := #[.int .i64 t351, .int .i64 t352, .int .i64 t353, .int .i64 0]) ?_ 3 _ rfl; (with_reducible repeat (first | refine blk_drewN ?_ _ | refine blk_drew ?_ | refine blk_alloc ?_ _)); refine blk_put (cs := #[.int .i64 t351, .int .i64 t352, .int .i64 0, .int .i64 0]) ?_ 2 _ rfl; (with_reducible repeat (first | refine blk_drewN ?_ _ | refine blk_drew ?_ | refine blk_alloc ?_ _)); refine blk_put (cs := #[.int .i64 t351, .int .i64 0, .int .i64 0, .int .i64 0]) ?_ 1 _ rfl; (with_reducible repeat (first | refine blk_drewN ?_ _ | refine blk_drew ?_ | refine blk_alloc ?_ _)); refine blk_put (cs := #[.int .i64 0, .int .i64 0, .int .i64 0, .int .i64 0]) ?_ 0 _ rfl; (with_reducible repeat (first | refine blk_drewN ?_ _ | refine blk_drew ?_ | refine blk_alloc ?_ _)); exact BK357.out) NB357_350.out (by simp)); replace HB := Aside0.mk (hb); replace HI350 := Aside0.mk (hi); (try clear hb); (try clear hb2); (try clear hk); (try clear hi)) | ((with_reducible refine gate_dst (N := 7) rfl ?_); refine Hd.box_ 7 (#[.int .i64 0, .int .i64 0]) 27 ?_; intro gb362 hg w16 hbox hb; have BK362 := Aside0.mk (hbox); have GW362 := Aside0.mk ((by rw [hg]; exact (below_size (by repeat (first | (with_reducible first | exact HB.out | apply below_alloc | apply pw_below_drewN | apply below_drew1 | refine below_set ?_ (IsS109.ge HI350.out) | refine below_set ?_ GE345.out | refine below_set ?_ GE346.out | refine below_set ?_ GE357.out) | exact HB.out))) : w.heap.size ≤ gb362)); have GE362 := Aside0.mk ((by rw [hg]; exact (below_size (by repeat (first | (with_reducible first | exact HB.out | apply below_alloc | apply pw_below_drewN | apply below_drew1 | refine below_set ?_ (IsS109.ge HI350.out) | refine below_set ?_ GE345.out | refine below_set ?_ GE346.out | refine below_set ?_ GE357.out) | exact HB.out))) : w.heap.size ≤ gb362)); replace HB := Aside0.mk (below_step (by repeat (first | (with_reducible first | exact HB.out | apply below_alloc | apply pw_below_drewN | apply below_drew1 | refine below_set ?_ (IsS109.ge HI350.out) | refine below_set ?_ GE345.out | refine below_set ?_ GE346.out | refine below_set ?_ GE357.out) | exact HB.out)) hb); have NB345_362 := Aside0.mk ((Hd.lt_ BK345 hg)); have NB362_345 := Aside0.mk ((Hd.gt_ BK345 hg)); replace BK345 := Aside0.mk (Hd.kb_ BK345 hb); have NB346_362 := Aside0.mk ((Hd.lt_ BK346 hg)); have NB362_346 := Aside0.mk ((Hd.gt_ BK346 hg)); replace BK346 := Aside0.mk (Hd.kb_ BK346 hb); have NB357_362 := Aside0.mk ((Hd.lt_ BK357 hg)); have NB362_357 := Aside0.mk ((Hd.gt_ BK357 hg)); replace BK357 := Aside0.mk (Hd.kb_ BK357 hb); have NB350_362 := Aside0.mk ((by rw [hg]; exact Nat.ne_of_lt (IsS109.lt (show IsS109 w _ g350 t347 t360 t361 from by repeat (first | (with_reducible first | exact HI350.out | apply IsS109.alloc | apply IsS109.drewN | apply IsS109.drew | apply IsS109.set_1 | apply IsS109.set_2 | refine IsS109.far ?_ NB350_345.out _ | refine IsS109.far ?_ NB350_346.out _ | refine IsS109.far ?_ NB350_357.out _) | exact HI350.out))) : g350 ≠ gb362)); have NB362_350 := Aside0.mk ((by rw [hg]; exact Nat.ne_of_gt (IsS109.lt (show IsS109 w _ g350 t347 t360 t361 from by repeat (first | (with_reducible first | exact HI350.out | apply IsS109.alloc | apply IsS109.drewN | apply IsS109.drew | apply IsS109.set_1 | apply IsS109.set_2 | refine IsS109.far ?_ NB350_345.out _ | refine IsS109.far ?_ NB350_346.out _ | refine IsS109.far ?_ NB350_357.out _) | exact HI350.out))) : gb362 ≠ g350)); replace HI350 := Aside0.mk (IsS109.below (by repeat (first | (with_reducible first | exact HI350.out | apply IsS109.alloc | apply IsS109.drewN | apply IsS109.drew | apply IsS109.set_1 | apply IsS109.set_2 | refine IsS109.far ?_ NB350_345.out _ | refine IsS109.far ?_ NB350_346.out _ | refine IsS109.far ?_ NB350_357.out _) | exact HI350.out)) hb); clear hb hbox hg; have hnb17 := NB362_345.out; have hnc17 := NB345_362.out; have hnb18 := NB362_346.out; have hnc18 := NB346_362.out; have hnb19 := NB362_357.out; have hnc19 := NB357_362.out; have hnb20 := NB362_350.out; have hnc20 := NB350_362.out; obtain ⟨hcz21_0, hcz21_1⟩ := Hd.c2_ BK362.out; obtain ⟨hfz21_0, hfz21_1⟩ := Hd.f2_ BK362.out))
 have n0_ : Aside0 (((w16.setCell ⟨gb362, 0, none⟩ (.int .i64 t358)).setCell ⟨gb362, 1, none⟩ (.int .i64 t359)).heap[gb345]? = some (.cells #[.int .i64 0, .int .i64 0, .int .i64 0, .int .i64 0] 53 (0, 0))) := ⟨by (with_reducible repeat (first | refine blk_drewN ?_ _ | refine blk_drew ?_ | refine blk_alloc ?_ _)); refine blk_far ?_ NB345_362.out _; (with_reducible repeat (first | refine blk_drewN ?_ _ | refine blk_drew ?_ | refine blk_alloc ?_ _)); refine blk_far ?_ NB345_362.out _; (with_reducible repeat (first | refine blk_drewN ?_ _ | refine blk_drew ?_ | refine blk_alloc ?_ _)); exact BK345.out⟩
 have n1_ : Aside0 (((w16.setCell ⟨gb362, 0, none⟩ (.int .i64 t358)).setCell ⟨gb362, 1, none⟩ (.int .i64 t359)).heap[gb346]? = some (.cells #[.int .i64 0, .int .i64 0] 27 (0, 0))) := ⟨by (with_reducible repeat (first | refine blk_drewN ?_ _ | refine blk_drew ?_ | refine blk_alloc ?_ _)); refine blk_far ?_ NB346_362.out _; (with_reducible repeat (first | refine blk_drewN ?_ _ | refine blk_drew ?_ | refine blk_alloc ?_ _)); refine blk_far ?_ NB346_362.out _; (with_reducible repeat (first | refine blk_drewN ?_ _ | refine blk_drew ?_ | refine blk_alloc ?_ _)); exact BK346.out⟩
 have n2_ : Aside0 (((w16.setCell ⟨gb362, 0, none⟩ (.int .i64 t358)).setCell ⟨gb362, 1, none⟩ (.int .i64 t359)).heap[gb357]? = some (.cells #[.int .i64 t351, .int .i64 t352, .int .i64 t353, .int .i64 t354] 53 (0, 0))) := ⟨by (with_reducible repeat (first | refine blk_drewN ?_ _ | refine blk_drew ?_ | refine blk_alloc ?_ _)); refine blk_far ?_ NB357_362.out _; (with_reducible repeat (first | refine blk_drewN ?_ _ | refine blk_drew ?_ | refine blk_alloc ?_ _)); refine blk_far ?_ NB357_362.out _; (with_reducible repeat (first | refine blk_drewN ?_ _ | refine blk_drew ?_ | refine blk_alloc ?_ _)); exact BK357.out⟩
 have n3_ : Aside0 (((w16.setCell ⟨gb362, 0, none⟩ (.int .i64 t358)).setCell ⟨gb362, 1, none⟩ (.int .i64 t359)).heap[gb362]? = some (.cells #[.int .i64 t358, .int .i64 t359] 27 (0, 0))) := ⟨by (with_reducible repeat (first | refine blk_drewN ?_ _ | refine blk_drew ?_ | refine blk_alloc ?_ _)); refine blk_put (cs := #[.int .i64 t358, .int .i64 0]) ?_ 1 _ rfl; (with_reducible repeat (first | refine blk_drewN ?_ _ | refine blk_drew ?_ | refine blk_alloc ?_ _)); refine blk_put (cs := #[.int .i64 0, .int .i64 0]) ?_ 0 _ rfl; (with_reducible repeat (first | refine blk_drewN ?_ _ | refine blk_drew ?_ | refine blk_alloc ?_ _)); exact BK362.out⟩
 have n4_ : Aside0 (IsS109 w ((w16.setCell ⟨gb362, 0, none⟩ (.int .i64 t358)).setCell ⟨gb362, 1, none⟩ (.int .i64 t359)) g350 t347 t360 t361) := ⟨by repeat (first | (with_reducible first | exact HI350.out | apply IsS109.alloc | apply IsS109.drewN | apply IsS109.drew | apply IsS109.set_1 | apply IsS109.set_2 | refine IsS109.far ?_ NB350_345.out _ | refine IsS109.far ?_ NB350_346.out _ | refine IsS109.far ?_ NB350_357.out _ | refine IsS109.far ?_ NB350_362.out _) | exact HI350.out)⟩
 have n5_ : Aside0 (Below w.heap.size w ((w16.setCell ⟨gb362, 0, none⟩ (.int .i64 t358)).setCell ⟨gb362, 1, none⟩ (.int .i64 t359))) := ⟨by repeat (first | (with_reducible first | exact HB.out | apply below_alloc | apply pw_below_drewN | apply below_drew1 | refine below_set ?_ (IsS109.ge HI350.out) | refine below_set ?_ GE345.out | refine below_set ?_ GE346.out | refine below_set ?_ GE357.out | refine below_set ?_ GE362.out) | exact HB.out)⟩
 (try clear BK345)
 (try clear BK346)
 (try clear BK357)
 (try clear BK362)
 (try clear HI350)
 (try clear HB)
 generalize ((w16.setCell ⟨gb362, 0, none⟩ (.int .i64 t358)).setCell ⟨gb362, 1, none⟩ (.int .i64 t359)) = w22 at n0_ n1_ n2_ n3_ n4_ n5_ ⊢
 have BK345 := n0_
 have BK346 := n1_
 have BK357 := n2_
 have BK362 := n3_
 have HI350 := n4_
 have HB := n5_
 clear n0_ n1_ n2_ n3_ n4_ n5_
 replace BK345 := Aside0.mk (blk_drew BK345.out)
 replace BK346 := Aside0.mk (blk_drew BK346.out)
 replace BK357 := Aside0.mk (blk_drew BK357.out)
 replace BK362 := Aside0.mk (blk_drew BK362.out)
 replace HI350 := Aside0.mk (IsS109.drew HI350.out)
 replace HB := Aside0.mk (below_drew1 HB.out)
 refine start_ (n := 7) (S := fun w' => w'.cell? ⟨gb357, 0, none⟩ = some (.int .i64 t351) ∧ w'.cell? ⟨gb357, 1, none⟩ = some (.int .i64 t352) ∧ w'.cell? ⟨gb357, 2, none⟩ = some (.int .i64 t353) ∧ w'.cell? ⟨gb357, 3, none⟩ = some (.int .i64 t354) ∧ w'.cell? ⟨gb362, 0, none⟩ = some (.int .i64 t358) ∧ w'.cell? ⟨gb362, 1, none⟩ = some (.int .i64 t359)) (ds := []) #[false, false, false, false, false, false, false] (by kernel_rfl) rfl rfl ⟨(blk_cell BK357.out 0).trans rfl, (blk_cell BK357.out 1).trans rfl, (blk_cell BK357.out 2).trans rfl, (blk_cell BK357.out 3).trans rfl, (blk_cell BK362.out 0).trans rfl, (blk_cell BK362.out 1).trans rfl⟩ (fun hHeld => ?_)
 generalize w22.drew = w23 at BK345 BK346 BK357 BK362 HI350 HB hHeld ⊢
 refine pure_ (i := 2) (N := some 16) (v := ?_) (a' := ?_) #[false, false, true, false, false, false, false] rfl rfl (by kernel_rfl) (fun _ _ _ h => h) (Or.inl ⟨by rfl, ?_⟩) ?_ ?_
 rotate_left
 ·
  intro w'
  go_simp
  with_reducible rfl
 rotate_left
 ·
  simp only [Act.put, List.setIfInBounds_toArray, List.set_cons_zero, List.set_cons_succ, i64_w, i32_w]
  rfl
 refine take_ (i := 0) (N := some 14) (v := ?_) (a' := ?_) #[true, false, true, false, false, false, false] rfl rfl (by kernel_rfl) (fun _ _ _ h => h) (Or.inl ⟨by rfl, ?_⟩) hHeld ?_ ?_
 rotate_left
 ·
  rintro w' ⟨s0, s1, s2, s3, s4, s5⟩
  go_simp
  with_reducible rfl
 rotate_left
 ·
  simp only [Act.put, List.setIfInBounds_toArray, List.set_cons_zero, List.set_cons_succ, i64_w, i32_w]
  rfl
 refine take_ (i := 1) (N := some 15) (v := ?_) (a' := ?_) #[true, true, true, false, false, false, false] rfl rfl (by kernel_rfl) (fun _ _ _ h => h) (Or.inl ⟨by rfl, ?_⟩) hHeld ?_ ?_
 rotate_left
 ·
  rintro w' ⟨s0, s1, s2, s3, s4, s5⟩
  go_simp
  with_reducible rfl
 rotate_left
 ·
  simp only [Act.put, List.setIfInBounds_toArray, List.set_cons_zero, List.set_cons_succ, i64_w, i32_w]
  rfl
 refine one_ (i := 3) (N := some 17) #[true, true, true, true, false, false, false] rfl rfl (by kernel_rfl) (by decide) (fun K hK => ?_)
 refine goes_ Try.func79 (by kernel_rfl) rfl #[.pointer (some ⟨g350, 0, none⟩)] (by rfl) rfl rfl Hd.m_ ?_
 with_reducible refine (spec_l11Near.calls g350 t347 t360 t361 t363 t364 t365 w _ ?side1 ?side2 A5.out).mono ?_
 (case side1 => repeat (first | (with_reducible first | exact HI350.out | apply IsS109.alloc | apply IsS109.drewN | apply IsS109.drew | apply IsS109.set_1 | apply IsS109.set_2 | refine IsS109.far ?_ NB350_345.out _ | refine IsS109.far ?_ NB350_346.out _ | refine IsS109.far ?_ NB350_357.out _ | refine IsS109.far ?_ NB350_362.out _) | exact HI350.out))
 (case side2 => repeat (first | (with_reducible first | exact HB.out | apply below_alloc | apply pw_below_drewN | apply below_drew1 | refine below_set ?_ (IsS109.ge HI350.out) | refine below_set ?_ GE345.out | refine below_set ?_ GE346.out | refine below_set ?_ GE357.out | refine below_set ?_ GE362.out) | exact HB.out))
 rintro e w24 ⟨rfl, hi, hb, hk⟩
 refine ⟨_, rfl, ?_⟩
 replace BK345 := Aside0.mk (KeepBut.blk hk (g' := gb345) (o := .cells #[.int .i64 0, .int .i64 0, .int .i64 0, .int .i64 0] 53 (0, 0)) (Hd.k_ BK345) NB345_350.out (by simp))
 replace BK346 := Aside0.mk (KeepBut.blk hk (g' := gb346) (o := .cells #[.int .i64 0, .int .i64 0] 27 (0, 0)) (Hd.k_ BK346) NB346_350.out (by simp))
 replace BK357 := Aside0.mk (KeepBut.blk hk (g' := gb357) (o := .cells #[.int .i64 t351, .int .i64 t352, .int .i64 t353, .int .i64 t354] 53 (0, 0)) (Hd.k_ BK357) NB357_350.out (by simp))
 replace BK362 := Aside0.mk (KeepBut.blk hk (g' := gb362) (o := .cells #[.int .i64 t358, .int .i64 t359] 27 (0, 0)) (Hd.k_ BK362) NB362_350.out (by simp))
 replace HB := Aside0.mk (hb)
 replace HI350 := Aside0.mk (hi)
 (try clear hb)
 (try clear hb2)
 (try clear hk)
 (try clear hi)
 refine hK.out _ _ ⟨(blk_cell BK357.out 0).trans rfl, (blk_cell BK357.out 1).trans rfl, (blk_cell BK357.out 2).trans rfl, (blk_cell BK357.out 3).trans rfl, (blk_cell BK362.out 0).trans rfl, (blk_cell BK362.out 1).trans rfl⟩ (fun hHeld => ?_)
 clear hK K
 refine Hd.n_ (some 17) ?_
 refine one_ (i := 4) (N := none) #[true, true, true, true, true, false, false] rfl rfl (by kernel_rfl) (by decide) (fun K hK => ?_)
 have hs25 : w24.cell? ⟨gb345, 0, none⟩ = some (.int .i64 0) := (blk_cell BK345.out 0).trans rfl
 have hfs25 := blk_frozen BK345.out 0
 have hns25_1 := NB346_345.out
 have hns25_2 := NB357_345.out
 have hns25_3 := NB362_345.out
 have hms25_1 := NB345_346.out
 have hms25_2 := NB345_357.out
 have hms25_3 := NB345_362.out
 have hs26 : w24.cell? ⟨gb345, 1, none⟩ = some (.int .i64 0) := (blk_cell BK345.out 1).trans rfl
 have hfs26 := blk_frozen BK345.out 1
 have hns26_1 := NB346_345.out
 have hns26_2 := NB357_345.out
 have hns26_3 := NB362_345.out
 have hms26_1 := NB345_346.out
 have hms26_2 := NB345_357.out
 have hms26_3 := NB345_362.out
 have hs27 : w24.cell? ⟨gb345, 2, none⟩ = some (.int .i64 0) := (blk_cell BK345.out 2).trans rfl
 have hfs27 := blk_frozen BK345.out 2
 have hns27_1 := NB346_345.out
 have hns27_2 := NB357_345.out
 have hns27_3 := NB362_345.out
 have hms27_1 := NB345_346.out
 have hms27_2 := NB345_357.out
 have hms27_3 := NB345_362.out
 have hs28 : w24.cell? ⟨gb345, 3, none⟩ = some (.int .i64 0) := (blk_cell BK345.out 3).trans rfl
 have hfs28 := blk_frozen BK345.out 3
 have hns28_1 := NB346_345.out
 have hns28_2 := NB357_345.out
 have hns28_3 := NB362_345.out
 have hms28_1 := NB345_346.out
 have hms28_2 := NB345_357.out
 have hms28_3 := NB345_362.out
 refine skip_ (w1 := ?_) (by rfl) rfl ?_ ?_
 rotate_left
 ·
  go_simp
  rfl
 refine hK.out _ _ ⟨((cell_far (p := ⟨gb345, _, none⟩) NB357_345.out _).trans (((cell_far (p := ⟨gb345, _, none⟩) NB357_345.out _).trans (((cell_far (p := ⟨gb345, _, none⟩) NB357_345.out _).trans (((cell_far (p := ⟨gb345, _, none⟩) NB357_345.out _).trans (hHeld.1)))))))), ((cell_far (p := ⟨gb345, _, none⟩) NB357_345.out _).trans (((cell_far (p := ⟨gb345, _, none⟩) NB357_345.out _).trans (((cell_far (p := ⟨gb345, _, none⟩) NB357_345.out _).trans (((cell_far (p := ⟨gb345, _, none⟩) NB357_345.out _).trans (hHeld.2.1)))))))), ((cell_far (p := ⟨gb345, _, none⟩) NB357_345.out _).trans (((cell_far (p := ⟨gb345, _, none⟩) NB357_345.out _).trans (((cell_far (p := ⟨gb345, _, none⟩) NB357_345.out _).trans (((cell_far (p := ⟨gb345, _, none⟩) NB357_345.out _).trans (hHeld.2.2.1)))))))), ((cell_far (p := ⟨gb345, _, none⟩) NB357_345.out _).trans (((cell_far (p := ⟨gb345, _, none⟩) NB357_345.out _).trans (((cell_far (p := ⟨gb345, _, none⟩) NB357_345.out _).trans (((cell_far (p := ⟨gb345, _, none⟩) NB357_345.out _).trans (hHeld.2.2.2.1)))))))), ((cell_far (p := ⟨gb345, _, none⟩) NB362_345.out _).trans (((cell_far (p := ⟨gb345, _, none⟩) NB362_345.out _).trans (((cell_far (p := ⟨gb345, _, none⟩) NB362_345.out _).trans (((cell_far (p := ⟨gb345, _, none⟩) NB362_345.out _).trans (hHeld.2.2.2.2.1)))))))), ((cell_far (p := ⟨gb345, _, none⟩) NB362_345.out _).trans (((cell_far (p := ⟨gb345, _, none⟩) NB362_345.out _).trans (((cell_far (p := ⟨gb345, _, none⟩) NB362_345.out _).trans (((cell_far (p := ⟨gb345, _, none⟩) NB362_345.out _).trans (hHeld.2.2.2.2.2))))))))⟩ (fun hHeld => ?_)
 clear hK K
 refine one_ (i := 5) (N := none) #[true, true, true, true, true, true, false] rfl rfl (by kernel_rfl) (by decide) (fun K hK => ?_)
 have hs29 : w24.cell? ⟨gb346, 0, none⟩ = some (.int .i64 0) := (blk_cell BK346.out 0).trans rfl
 have hfs29 := blk_frozen BK346.out 0
 have hns29_0 := NB345_346.out
 have hns29_2 := NB357_346.out
 have hns29_3 := NB362_346.out
 have hms29_0 := NB346_345.out
 have hms29_2 := NB346_357.out
 have hms29_3 := NB346_362.out
 have hs30 : w24.cell? ⟨gb346, 1, none⟩ = some (.int .i64 0) := (blk_cell BK346.out 1).trans rfl
 have hfs30 := blk_frozen BK346.out 1
 have hns30_0 := NB345_346.out
 have hns30_2 := NB357_346.out
 have hns30_3 := NB362_346.out
 have hms30_0 := NB346_345.out
 have hms30_2 := NB346_357.out
 have hms30_3 := NB346_362.out
 refine skip_ (w1 := ?_) (by rfl) rfl ?_ ?_
 rotate_left
 ·
  go_simp
  rfl
 refine hK.out _ _ ⟨((cell_far (p := ⟨gb346, _, none⟩) NB357_346.out _).trans (((cell_far (p := ⟨gb346, _, none⟩) NB357_346.out _).trans (hHeld.1)))), ((cell_far (p := ⟨gb346, _, none⟩) NB357_346.out _).trans (((cell_far (p := ⟨gb346, _, none⟩) NB357_346.out _).trans (hHeld.2.1)))), ((cell_far (p := ⟨gb346, _, none⟩) NB357_346.out _).trans (((cell_far (p := ⟨gb346, _, none⟩) NB357_346.out _).trans (hHeld.2.2.1)))), ((cell_far (p := ⟨gb346, _, none⟩) NB357_346.out _).trans (((cell_far (p := ⟨gb346, _, none⟩) NB357_346.out _).trans (hHeld.2.2.2.1)))), ((cell_far (p := ⟨gb346, _, none⟩) NB362_346.out _).trans (((cell_far (p := ⟨gb346, _, none⟩) NB362_346.out _).trans (hHeld.2.2.2.2.1)))), ((cell_far (p := ⟨gb346, _, none⟩) NB362_346.out _).trans (((cell_far (p := ⟨gb346, _, none⟩) NB362_346.out _).trans (hHeld.2.2.2.2.2))))⟩ (fun hHeld => ?_)
 clear hK K
 refine pure_ (i := 6) (N := some 4) (v := ?_) (a' := ?_) #[true, true, true, true, true, true, true] rfl rfl (by kernel_rfl) (fun _ _ _ h => h) (Or.inl ⟨by rfl, ?_⟩) ?_ ?_
 rotate_left
 ·
  intro w'
  go_simp
  with_reducible rfl
 rotate_left
 ·
  simp only [Act.put, List.setIfInBounds_toArray, List.set_cons_zero, List.set_cons_succ, i64_w, i32_w]
  rfl
 refine done_ (by kernel_rfl) ?_
 try go_wp2
 refine bodyPost_ret (results_list (rs := [.cell 2 53, .cell 3 27, .tmp 4]) rfl (by simp) (.cell gb345 53 #[.int .i64 t351, .int .i64 t352, .int .i64 t353, .int .i64 t354] (0, 0) _ rfl (by (with_reducible repeat (first | refine blk_drewN ?_ _ | refine blk_drew ?_ | refine blk_alloc ?_ _)); refine blk_far ?_ NB345_346.out _; (with_reducible repeat (first | refine blk_drewN ?_ _ | refine blk_drew ?_ | refine blk_alloc ?_ _)); refine blk_far ?_ NB345_346.out _; (with_reducible repeat (first | refine blk_drewN ?_ _ | refine blk_drew ?_ | refine blk_alloc ?_ _)); refine blk_put (cs := #[.int .i64 t351, .int .i64 t352, .int .i64 t353, .int .i64 0]) ?_ 3 _ rfl; (with_reducible repeat (first | refine blk_drewN ?_ _ | refine blk_drew ?_ | refine blk_alloc ?_ _)); refine blk_put (cs := #[.int .i64 t351, .int .i64 t352, .int .i64 0, .int .i64 0]) ?_ 2 _ rfl; (with_reducible repeat (first | refine blk_drewN ?_ _ | refine blk_drew ?_ | refine blk_alloc ?_ _)); refine blk_put (cs := #[.int .i64 t351, .int .i64 0, .int .i64 0, .int .i64 0]) ?_ 1 _ rfl; (with_reducible repeat (first | refine blk_drewN ?_ _ | refine blk_drew ?_ | refine blk_alloc ?_ _)); refine blk_put (cs := #[.int .i64 0, .int .i64 0, .int .i64 0, .int .i64 0]) ?_ 0 _ rfl; (with_reducible repeat (first | refine blk_drewN ?_ _ | refine blk_drew ?_ | refine blk_alloc ?_ _)); exact BK345.out) Try.underlying53 rfl (by kernel_rfl) (.cell gb346 27 #[.int .i64 t358, .int .i64 t359] (0, 0) _ rfl (by (with_reducible repeat (first | refine blk_drewN ?_ _ | refine blk_drew ?_ | refine blk_alloc ?_ _)); refine blk_put (cs := #[.int .i64 t358, .int .i64 0]) ?_ 1 _ rfl; (with_reducible repeat (first | refine blk_drewN ?_ _ | refine blk_drew ?_ | refine blk_alloc ?_ _)); refine blk_put (cs := #[.int .i64 0, .int .i64 0]) ?_ 0 _ rfl; (with_reducible repeat (first | refine blk_drewN ?_ _ | refine blk_drew ?_ | refine blk_alloc ?_ _)); refine blk_far ?_ NB346_345.out _; (with_reducible repeat (first | refine blk_drewN ?_ _ | refine blk_drew ?_ | refine blk_alloc ?_ _)); refine blk_far ?_ NB346_345.out _; (with_reducible repeat (first | refine blk_drewN ?_ _ | refine blk_drew ?_ | refine blk_alloc ?_ _)); refine blk_far ?_ NB346_345.out _; (with_reducible repeat (first | refine blk_drewN ?_ _ | refine blk_drew ?_ | refine blk_alloc ?_ _)); refine blk_far ?_ NB346_345.out _; (with_reducible repeat (first | refine blk_drewN ?_ _ | refine blk_drew ?_ | refine blk_alloc ?_ _)); exact BK346.out) Try.underlying27 rfl (by kernel_rfl) (.tmp .nil)))) rfl ?_
 exact ⟨Hd.e_, by repeat (first | (with_reducible first | exact HB.out | apply below_alloc | apply pw_below_drewN | apply below_drew1 | refine below_set ?_ (IsS109.ge HI350.out) | refine below_set ?_ GE345.out | refine below_set ?_ GE346.out | refine below_set ?_ GE357.out | refine below_set ?_ GE362.out) | exact HB.out)⟩
end Go.Proofs.Ytbackoeakepngaa.MFnSimplified
