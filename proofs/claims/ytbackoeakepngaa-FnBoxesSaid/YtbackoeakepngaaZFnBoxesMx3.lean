-- Laid by this session's program pp.py, after the kit's print and texts of the session's own. Not trusted: Lean checks it.
import Derived.Test.YtbackoeakepngaaZFnBoxesMx0
import Derived.Test.YtbackoeakepngaaZFnBoxesMx1
import Derived.Test.YtbackoeakepngaaZFnBoxesMx2
namespace Go.Proofs.Ytbackoeakepngaa.MFnBoxes
open Go.RowKit Go.Proofs.YtbackoeakepngaaW.PrintWords Go.Proofs.YtbackoeakepngaaW.PrintLast Go.Proofs.YtbackoeakepngaaW.PrintMore
attribute [local go_sem] max2_int min2_int max_two min_two max_three min_three max_four min_four   -- for this text's walks alone
set_option linter.unusedVariables false
set_option linter.unusedSimpArgs false
attribute [local go_sem high] eqA27
def spec_l6Draw.l0 : Nat → List (S27) → Int → List Int → Int → Int → Option ((List (S27)) × Int × Int)
 | 0, _, _, _, _, _ => none
 | k + 1, x3, x4, x1000, x1001, x1002 => if x4 > 0 then (if 0 ≤ (wrap64 ((x3.length : Int) - 1)) then (if (wrap64 ((x3.length : Int) - 1)) < (x3.length : Int) then ((spec_l1Below.f x1000 x1001 x1002 14).bind fun bt161 => ((spec_l1Below.f x1000 bt161.2.1 bt161.2.2 4).bind fun bt164 => ((spec_Min.f 200 (wrap64 (((rd_T27 x3 (wrap64 ((x3.length : Int) - 1))).f1) + bt164.1))).bind fun t167 => (if (bt161.1 == ((rd_T27 x3 (wrap64 ((x3.length : Int) - 1))).f0) && (t167 == ((rd_T27 x3 (wrap64 ((x3.length : Int) - 1))).f1))) = true then (if x3.length < 8796093022208 then (spec_l6Draw.l0 k (x3 ++ [(⟨wrap64 (bt161.1 + 1), t167⟩ : S27)]) (wrap64 (x4 - 1)) x1000 bt164.2.1 bt164.2.2) else (none)) else (if x3.length < 8796093022208 then (spec_l6Draw.l0 k (x3 ++ [(⟨bt161.1, t167⟩ : S27)]) (wrap64 (x4 - 1)) x1000 bt164.2.1 bt164.2.2) else (none)))))) else (none)) else (none)) else (some (x3, x1001, x1002))
def spec_l6Draw.f (k : Nat) (s0_0 : List Int) (s0_1 : Int) (s0_2 : Int) : Option ((List (S27)) × Int × Int) := (spec_l4Draw.f s0_0 s0_1 s0_2).bind fun bt149 => ((spec_l1Below.f s0_0 bt149.2.2.1 bt149.2.2.2 5).bind fun bt156 => (spec_l6Draw.l0 k (([(⟨bt149.1, bt149.2.1⟩ : S27)] : List (S27))) (wrap64 (1 + bt156.1)) s0_0 bt156.2.1 bt156.2.2))
def spec_l6Draw.T6 : Bool × List (List Nat × List Nat) := (true, [([], []), ([0], [0]), ([], []), ([2], [2]), ([], []), ([4, 1], [4]), ([3, 5], [3, 5]), ([6, 5], [6]), ([1, 7], [1, 7]), ([], []), ([9, 8, 7, 0, 1, 2, 3, 4, 5, 6, 7, 8, 9], [8, 9])])
def spec_l6Draw.B6 : List Nat := [0, 1, 0, 4, 0, 19, 63, 127, 255, 0, 1023]
theorem spec_l6Draw.tab6 : rtab .any (opsOf Try.f104 6) = spec_l6Draw.T6 := by kernel_rfl
theorem spec_l6Draw.bits6 : waitsOk spec_l6Draw.T6.2 spec_l6Draw.B6 = true := by kernel_rfl
set_option maxHeartbeats 8000000 in
set_option maxRecDepth 100000 in
theorem spec_l6Draw.calls (k : Nat) (g : Nat) (s0_0 : List Int) (s0_1 : Int) (s0_2 : Int) (r1 : List (S27)) (r2 : Int) (r3 : Int) (w0 w : World) (hI : IsS109 w0 w g s0_0 s0_1 s0_2) (hB : Below w0.heap.size w0 w) (h : spec_l6Draw.f k s0_0 s0_1 s0_2 = some (r1, r2, r3)) :
  Calls Try.prog 104 #[.pointer (some ⟨g, 0, none⟩)] w fun e w' => ∃ v0_ : Value, e = .returned (v0_) ∧ Kd.R k27 27 w' w.heap.size (fun _ => True) v0_ r1 ∧ IsS109 w0 w' g s0_0 r2 r3 ∧ Below w0.heap.size w0 w' ∧ KeepBut w w' g none := by
 have hu27 := Try.underlying27
 have HI0 := Aside0.mk hI
 have HK := Aside0.mk (KeepBut.refl w g none)
 have HL := Aside0.mk hB.size
 clear hI
 have HW0 := Aside0.mk hB.size
 have HB := Aside0.mk hB
 clear hB
 have H : ((spec_l4Draw.f s0_0 s0_1 s0_2).bind fun bt149 => ((spec_l1Below.f s0_0 bt149.2.2.1 bt149.2.2.2 5).bind fun bt156 => (spec_l6Draw.l0 k (([(⟨bt149.1, bt149.2.1⟩ : S27)] : List (S27))) (wrap64 (1 + bt156.1)) s0_0 bt156.2.1 bt156.2.2))) = some (r1, r2, r3) := h
 clear h
 replace H := Option.bind_eq_some_iff.mp H
 obtain ⟨⟨t149, t150, t151, t152⟩, A20, H⟩ := H
 replace H : ((spec_l1Below.f s0_0 t151 t152 5).bind fun bt156 => (spec_l6Draw.l0 k (([(⟨t149, t150⟩ : S27)] : List (S27))) (wrap64 (1 + bt156.1)) s0_0 bt156.2.1 bt156.2.2)) = some (r1, r2, r3) := H
 have A2 := Aside0.mk A20
 clear A20
 obtain ⟨y153, hy153⟩ : ∃ y_ : List (S27), y_ = (([(⟨t149, t150⟩ : S27)] : List (S27))) := ⟨_, rfl⟩
 replace H : ((spec_l1Below.f s0_0 t151 t152 5).bind fun bt156 => (spec_l6Draw.l0 k y153 (wrap64 (1 + bt156.1)) s0_0 bt156.2.1 bt156.2.2)) = some (r1, r2, r3) := by first | (rw [hy153]; with_reducible exact H) | (have H2_ := (Option.bind_some _ _).symm.trans H; rw [hy153]; with_reducible exact H2_) | (have H2_ := (Option.bind_some _ _).symm.trans H; with_reducible exact H2_) | with_reducible exact H | (rw [hy153]; exact H) | exact H
 have Ny153 := Aside0.mk hy153
 clear hy153
 replace H := Option.bind_eq_some_iff.mp H
 obtain ⟨⟨t156, t157, t158⟩, A30, H⟩ := H
 replace H : (spec_l6Draw.l0 k y153 (wrap64 (1 + t156)) s0_0 t157 t158) = some (r1, r2, r3) := H
 have A3 := Aside0.mk A30
 clear A30
 have H' := Aside0.mk H
 clear H
 go_enter Try.func104, Try.ntmps104
 go_wp2_with (first | ((with_reducible refine gate_callee (f := 106) rfl ?_); refine goesL_ (some 8) rfl rfl Try.func106 (by kernel_rfl) rfl #[.pointer (some ⟨g, 0, none⟩)] rfl Hd.m_ ?_; (with_reducible refine (spec_l4Draw.calls g s0_0 s0_1 s0_2 t149 t150 t151 t152 w0 _ ?side1 ?side2 A2.out).mono ?_); (case side1 => repeat (first | (with_reducible first | exact HI0.out | apply IsS109.alloc | apply IsS109.drewN | apply IsS109.drew | apply IsS109.set_1 | apply IsS109.set_2) | exact HI0.out)); (case side2 => repeat (first | (with_reducible first | exact HB.out | apply below_alloc | apply pw_below_drewN | apply below_drew1 | refine below_set ?_ (IsS109.ge HI0.out)) | exact HB.out)); rintro e w4 ⟨rfl, hi, hb, hk⟩; refine ⟨_, rfl, ?_⟩; replace HK := Aside0.mk (KeepBut.trans (by repeat (first | (with_reducible first | exact HK.out | apply KeepBut.set_ | apply keep_drewN | apply keep_drew | apply keep_alloc) | exact HK.out)) hk (.inl rfl)); replace HB := Aside0.mk (hb); replace HI0 := Aside0.mk (hi); (try clear hb); (try clear hb2); (try clear hk); (try clear hi)) | ((with_reducible refine gate_dst (N := 9) rfl ?_); refine Kd.R_lit k27 _ 27 ?hg (N := 9) ?hd (xs := ([(⟨t149, t150⟩ : S27)] : List (S27))) (inner := [.int .i64 t149, .int .i64 t150]) (ok := fun _ => True) (okp := fun _ => True) ?hr ?hp (fun _ hk => hk) trivial (Below.refl _ _) (Nat.le_refl _) (by simp) ?_; (case hd => rfl); (case hg => rfl); (case hr => first | (go_simp; done) | (go_simp; rfl)); (case hp => exact (Reps.c2 (show Kd.M k27 _ _ _ (⟨t149, t150⟩ : S27) [.int .i64 t149, .int .i64 t150] from (k27_mkM _ _ _ (⟨t149, t150⟩ : S27) )) (Reps.none _ _))); intro v154 w5 ho6 hb hg_ hnew_; clear hg_ hnew_; (first | rw [← Ny153.out] at ho6 | (simp only [Int.reduceToNat] at ho6; rw [← Ny153.out] at ho6)); have HO155 := Aside0.mk (Kd.R_lower ho6 (keep_size (w := w) (g := g) (row := none) (by repeat (first | (with_reducible first | exact HK.out | apply KeepBut.set_ | apply keep_drewN | apply keep_drew | apply keep_alloc) | exact HK.out)))); replace HK := Aside0.mk (KeepBut.trans (by repeat (first | (with_reducible first | exact HK.out | apply KeepBut.set_ | apply keep_drewN | apply keep_drew | apply keep_alloc) | exact HK.out)) (KeepBut.of_below hb g none) (.inl rfl)); replace HB := Aside0.mk (below_step (by repeat (first | (with_reducible first | exact HB.out | apply below_alloc | apply pw_below_drewN | apply below_drew1 | refine below_set ?_ (IsS109.ge HI0.out)) | exact HB.out)) hb); replace HI0 := Aside0.mk (IsS109.below (by repeat (first | (with_reducible first | exact HI0.out | apply IsS109.alloc | apply IsS109.drewN | apply IsS109.drew | apply IsS109.set_1 | apply IsS109.set_2) | exact HI0.out)) hb); clear hb ho6) | ((with_reducible refine gate_callee (f := 89) rfl ?_); refine goesL_ (some 11) rfl rfl Try.func89 (by kernel_rfl) rfl #[.pointer (some ⟨g, 0, none⟩), .int .i64 5] rfl Hd.m_ ?_; (with_reducible refine (spec_l1Below.calls g s0_0 t151 t152 5 t156 t157 t158 w0 _ ?side1 ?side2 A3.out).mono ?_); (case side1 => repeat (first | (with_reducible first | exact HI0.out | apply IsS109.alloc | apply IsS109.drewN | apply IsS109.drew | apply IsS109.set_1 | apply IsS109.set_2) | exact HI0.out)); (case side2 => repeat (first | (with_reducible first | exact HB.out | apply below_alloc | apply pw_below_drewN | apply below_drew1 | refine below_set ?_ (IsS109.ge HI0.out)) | exact HB.out)); rintro e w7 ⟨rfl, hi, hb, hk⟩; refine ⟨_, rfl, ?_⟩; replace HO155 := Aside0.mk (Kd.R_mono (Kd.R_keep (IsS109.apart (show IsS109 w0 _ g s0_0 t151 t152 from by repeat (first | (with_reducible first | exact HI0.out | apply IsS109.alloc | apply IsS109.drewN | apply IsS109.drew | apply IsS109.set_1 | apply IsS109.set_2) | exact HI0.out)) (Hd.r_ HO155) (by decide)) hk (fun _ h => h.2)) (fun _ h => h.1)); replace HK := Aside0.mk (KeepBut.trans (by repeat (first | (with_reducible first | exact HK.out | apply KeepBut.set_ | apply keep_drewN | apply keep_drew | apply keep_alloc) | exact HK.out)) hk (.inl rfl)); replace HB := Aside0.mk (hb); replace HI0 := Aside0.mk (hi); (try clear hb); (try clear hb2); (try clear hk); (try clear hi)))
 go_loopg [3, 4] k (fun kq v3 v4 w' => ∃ (x3_1 : List (S27)) (x4_1 : Int) (x1001_1 : Int) (x1002_1 : Int), v4 = .int .i64 x4_1 ∧ Aside0 (spec_l6Draw.l0 kq x3_1 x4_1 s0_0 x1001_1 x1002_1 = some (r1, r2, r3)) ∧ Aside0 (kq ≤ k) ∧ Aside0 (Kd.R k27 27 w' w.heap.size (fun _ => True) v3 x3_1) ∧ Aside0 (IsS109 w0 w' g s0_0 x1001_1 x1002_1) ∧ Aside0 (KeepBut w w' g none) ∧ Aside0 (Below w0.heap.size w0 w'))
 case atStart => exact ⟨(y153), (wrap64 (1 + t156)), (t157), (t158), (by first | rfl | (simp; done) | (simp [*]; done)), H', ⟨Nat.le_refl _⟩, ⟨by (with_reducible repeat (first | apply Kd.R_alloc | apply Kd.R_drewN | apply Kd.R_drew)); exact HO155.out⟩, ⟨by repeat (first | (with_reducible first | exact HI0.out | apply IsS109.alloc | apply IsS109.drewN | apply IsS109.drew | apply IsS109.set_1 | apply IsS109.set_2) | exact HI0.out)⟩, ⟨by repeat (first | (with_reducible first | exact HK.out | apply KeepBut.set_ | apply keep_drewN | apply keep_drew | apply keep_alloc) | exact HK.out)⟩, ⟨by repeat (first | (with_reducible first | exact HB.out | apply below_alloc | apply pw_below_drewN | apply below_drew1 | refine below_set ?_ (IsS109.ge HI0.out)) | exact HB.out)⟩⟩
 case round =>
  clear H'
  try clear c1
  try clear c2
  try clear p2
  try clear p6
  obtain ⟨x3_1, x4_1, x1001_1, x1002_1, rfl, HA, HK1, HO_3, HI0, HK, HB⟩ := hrel
  cases gk with
  | zero => exact absurd HA.out (by simp [spec_l6Draw.l0])
  | succ k1 =>
   have H := HA.out
   clear HA
   simp only [spec_l6Draw.l0] at H
   by_cases c8 : x4_1 > 0
   ·
    rw [if_pos c8] at H
    have c8b0 : decide (0 < x4_1) = true := decide_eq_true c8
    clear c8
    obtain ⟨ji9, hji9⟩ : ∃ j_ : Int, (wrap64 ((x3_1.length : Int) - 1)) = j_ := ⟨_, rfl⟩
    replace H : (if 0 ≤ (ji9) then (if (ji9) < (x3_1.length : Int) then ((spec_l1Below.f s0_0 x1001_1 x1002_1 14).bind fun bt161 => ((spec_l1Below.f s0_0 bt161.2.1 bt161.2.2 4).bind fun bt164 => ((spec_Min.f 200 (wrap64 (((rd_T27 x3_1 (ji9)).f1) + bt164.1))).bind fun t167 => (if (bt161.1 == ((rd_T27 x3_1 (ji9)).f0) && (t167 == ((rd_T27 x3_1 (ji9)).f1))) = true then (if x3_1.length < 8796093022208 then (spec_l6Draw.l0 k1 (x3_1 ++ [(⟨wrap64 (bt161.1 + 1), t167⟩ : S27)]) (wrap64 (x4_1 - 1)) s0_0 bt164.2.1 bt164.2.2) else (none)) else (if x3_1.length < 8796093022208 then (spec_l6Draw.l0 k1 (x3_1 ++ [(⟨bt161.1, t167⟩ : S27)]) (wrap64 (x4_1 - 1)) s0_0 bt164.2.1 bt164.2.2) else (none)))))) else (none)) else (none)) = some (r1, r2, r3) := by first | (rw [hji9] at H; exact H) | (simp only [hji9] at H ⊢; exact H)
    have hji9w : (IntKind.i64.wrap ((x3_1.length : Int) - 1)) = ji9 := (i64_w _).trans hji9
    by_cases c10 : 0 ≤ (ji9)
    ·
     rw [if_pos c10] at H
     have c10b0 : decide (0 ≤ (ji9)) = true := decide_eq_true c10
     clear c10
     by_cases c11 : (ji9) < (x3_1.length : Int)
     ·
      rw [if_pos c11] at H
      have c11b0 : decide ((ji9) < (x3_1.length : Int)) = true := decide_eq_true c11
      clear c11
      replace H := Option.bind_eq_some_iff.mp H
      obtain ⟨⟨t161, t162, t163⟩, A120, H⟩ := H
      replace H : ((spec_l1Below.f s0_0 t162 t163 4).bind fun bt164 => ((spec_Min.f 200 (wrap64 (((rd_T27 x3_1 (ji9)).f1) + bt164.1))).bind fun t167 => (if (t161 == ((rd_T27 x3_1 (ji9)).f0) && (t167 == ((rd_T27 x3_1 (ji9)).f1))) = true then (if x3_1.length < 8796093022208 then (spec_l6Draw.l0 k1 (x3_1 ++ [(⟨wrap64 (t161 + 1), t167⟩ : S27)]) (wrap64 (x4_1 - 1)) s0_0 bt164.2.1 bt164.2.2) else (none)) else (if x3_1.length < 8796093022208 then (spec_l6Draw.l0 k1 (x3_1 ++ [(⟨t161, t167⟩ : S27)]) (wrap64 (x4_1 - 1)) s0_0 bt164.2.1 bt164.2.2) else (none))))) = some (r1, r2, r3) := H
      have A12 := Aside0.mk A120
      clear A120
      replace H := Option.bind_eq_some_iff.mp H
      obtain ⟨⟨t164, t165, t166⟩, A130, H⟩ := H
      replace H : ((spec_Min.f 200 (wrap64 (((rd_T27 x3_1 (ji9)).f1) + t164))).bind fun t167 => (if (t161 == ((rd_T27 x3_1 (ji9)).f0) && (t167 == ((rd_T27 x3_1 (ji9)).f1))) = true then (if x3_1.length < 8796093022208 then (spec_l6Draw.l0 k1 (x3_1 ++ [(⟨wrap64 (t161 + 1), t167⟩ : S27)]) (wrap64 (x4_1 - 1)) s0_0 t165 t166) else (none)) else (if x3_1.length < 8796093022208 then (spec_l6Draw.l0 k1 (x3_1 ++ [(⟨t161, t167⟩ : S27)]) (wrap64 (x4_1 - 1)) s0_0 t165 t166) else (none)))) = some (r1, r2, r3) := H
      have A13 := Aside0.mk A130
      clear A130
      replace H := Option.bind_eq_some_iff.mp H
      obtain ⟨t167, A140, H⟩ := H
      replace H : (if (t161 == ((rd_T27 x3_1 (ji9)).f0) && (t167 == ((rd_T27 x3_1 (ji9)).f1))) = true then (if x3_1.length < 8796093022208 then (spec_l6Draw.l0 k1 (x3_1 ++ [(⟨wrap64 (t161 + 1), t167⟩ : S27)]) (wrap64 (x4_1 - 1)) s0_0 t165 t166) else (none)) else (if x3_1.length < 8796093022208 then (spec_l6Draw.l0 k1 (x3_1 ++ [(⟨t161, t167⟩ : S27)]) (wrap64 (x4_1 - 1)) s0_0 t165 t166) else (none))) = some (r1, r2, r3) := H
      have A14 := Aside0.mk A140
      clear A140
      by_cases c15 : (t161 == ((rd_T27 x3_1 (ji9)).f0) && (t167 == ((rd_T27 x3_1 (ji9)).f1))) = true
      ·
       rw [if_pos c15] at H
       have c15b0 : (t161 == ((rd_T27 x3_1 (ji9)).f0) && (t167 == ((rd_T27 x3_1 (ji9)).f1))) = true := c15
       (try (have c15b1 : decide (t161 = ((rd_T27 x3_1 (ji9)).f0) && (t167 == ((rd_T27 x3_1 (ji9)).f1))) = true := by simpa using c15))
       (try (have c15b2 : (t161 == ((rd_T27 x3_1 (ji9)).f0) && (t167 == ((rd_T27 x3_1 (ji9)).f1))) = true := by simpa using c15))
       clear c15
       by_cases c16 : x3_1.length < 8796093022208
       ·
        rw [if_pos c16] at H
        have LMc16 := Aside0.mk c16
        clear c16
        obtain ⟨y169, hy169⟩ : ∃ y_ : List (S27), y_ = (x3_1 ++ [(⟨wrap64 (t161 + 1), t167⟩ : S27)]) := ⟨_, rfl⟩
        replace H : (spec_l6Draw.l0 k1 y169 (wrap64 (x4_1 - 1)) s0_0 t165 t166) = some (r1, r2, r3) := by first | (rw [hy169]; with_reducible exact H) | (have H2_ := (Option.bind_some _ _).symm.trans H; rw [hy169]; with_reducible exact H2_) | (have H2_ := (Option.bind_some _ _).symm.trans H; with_reducible exact H2_) | with_reducible exact H | (rw [hy169]; exact H) | exact H
        have Ny169 := Aside0.mk hy169
        clear hy169
        have H' := Aside0.mk H
        clear H
        obtain ⟨Ao17, co17, eo17⟩ := Kd.R_slice HO_3.out
        subst eo17
        have p159 : 0 ≤ ((ji9) : Int) := of_decide_eq_true Hd.a_
        have q159 : (ji9) < (x3_1.length : Int) := of_decide_eq_true Hd.a_
        obtain ⟨ad159, e159, hx159_0, hx159_1⟩ := at_T27 (Kd.R_reads' HO_3.out).2.2 (ji9) p159 q159
        cases e159
        replace p159 := eq_true p159
        replace q159 := eq_true q159
        try go_wp2_with (first | ((with_reducible refine gate_dst (N := 5) rfl ?_); refine Hd.box_ 5 (#[.int .i64 0, .int .i64 0]) 27 ?_; intro gb160 hg w18 hbox hb; replace HO_3 := Aside0.mk (Kd.R_below (Kd.R_elderB (Hd.r_ HO_3) gb160 (Nat.le_of_eq hg.symm)) hb); replace HB := Aside0.mk (below_step (by repeat (first | (with_reducible first | exact HB.out | apply below_alloc | apply pw_below_drewN | apply below_drew1 | refine below_set ?_ (IsS109.ge HI0.out)) | exact HB.out)) hb); have BK160 := Aside0.mk (hbox); have GW160 := Aside0.mk ((by rw [hg]; exact (keep_size (w := w) (g := g) (row := none) (by repeat (first | (with_reducible first | exact HK.out | apply KeepBut.set_ | apply keep_drewN | apply keep_drew | apply keep_alloc) | exact HK.out))) : w.heap.size ≤ gb160)); have GE160 := Aside0.mk ((Nat.le_trans HW0.out (by rw [hg]; exact (keep_size (w := w) (g := g) (row := none) (by repeat (first | (with_reducible first | exact HK.out | apply KeepBut.set_ | apply keep_drewN | apply keep_drew | apply keep_alloc) | exact HK.out))) : w.heap.size ≤ gb160) : w0.heap.size ≤ gb160)); replace HK := Aside0.mk (KeepBut.trans (by repeat (first | (with_reducible first | exact HK.out | apply KeepBut.set_ | apply keep_drewN | apply keep_drew | apply keep_alloc) | exact HK.out)) (KeepBut.of_below hb g none) (.inl rfl)); have NB0_160 := Aside0.mk ((by rw [hg]; exact Nat.ne_of_lt (IsS109.lt (show IsS109 w0 _ g s0_0 x1001_1 x1002_1 from by repeat (first | (with_reducible first | exact HI0.out | apply IsS109.alloc | apply IsS109.drewN | apply IsS109.drew | apply IsS109.set_1 | apply IsS109.set_2) | exact HI0.out))) : g ≠ gb160)); have NB160_0 := Aside0.mk ((by rw [hg]; exact Nat.ne_of_gt (IsS109.lt (show IsS109 w0 _ g s0_0 x1001_1 x1002_1 from by repeat (first | (with_reducible first | exact HI0.out | apply IsS109.alloc | apply IsS109.drewN | apply IsS109.drew | apply IsS109.set_1 | apply IsS109.set_2) | exact HI0.out))) : gb160 ≠ g)); replace HI0 := Aside0.mk (IsS109.below (by repeat (first | (with_reducible first | exact HI0.out | apply IsS109.alloc | apply IsS109.drewN | apply IsS109.drew | apply IsS109.set_1 | apply IsS109.set_2) | exact HI0.out)) hb); clear hb hbox hg; have hnb19 := NB160_0.out; have hnc19 := NB0_160.out; obtain ⟨hcz20_0, hcz20_1⟩ := Hd.c2_ BK160.out; obtain ⟨hfz20_0, hfz20_1⟩ := Hd.f2_ BK160.out))
        have n0_ : Aside0 (Kd.R k27 27 ((w18.setCell ⟨gb160, 0, none⟩ (.int .i64 ((rd_T27 x3_1 (ji9)).f0))).setCell ⟨gb160, 1, none⟩ (.int .i64 ((rd_T27 x3_1 (ji9)).f1))) w.heap.size (fun k_ => k_ ≠ gb160) (.slice (some ad159) x3_1.length co17) x3_1) := ⟨by (with_reducible repeat (first | apply Kd.R_alloc | apply Kd.R_drewN | apply Kd.R_drew)); exact Kd.R_mono (Kd.R_far (p := ⟨gb160, 1, none⟩) (Kd.R_far (p := ⟨gb160, 0, none⟩) (Kd.R_mono HO_3.out (fun k_ hk => (⟨hk, hk.2⟩ : _ ∧ k_ ≠ gb160))) (fun _ hk => hk.2) (.int .i64 ((rd_T27 x3_1 (ji9)).f0))) (fun _ hk => hk.2) (.int .i64 ((rd_T27 x3_1 (ji9)).f1))) (fun _ hk => hk.1.2)⟩
        have n1_ : Aside0 (((w18.setCell ⟨gb160, 0, none⟩ (.int .i64 ((rd_T27 x3_1 (ji9)).f0))).setCell ⟨gb160, 1, none⟩ (.int .i64 ((rd_T27 x3_1 (ji9)).f1))).heap[gb160]? = some (.cells #[.int .i64 ((rd_T27 x3_1 (ji9)).f0), .int .i64 ((rd_T27 x3_1 (ji9)).f1)] 27 (0, 0))) := ⟨by (with_reducible repeat (first | refine blk_drewN ?_ _ | refine blk_drew ?_ | refine blk_alloc ?_ _)); refine blk_put (cs := #[.int .i64 ((rd_T27 x3_1 (ji9)).f0), .int .i64 0]) ?_ 1 _ rfl; (with_reducible repeat (first | refine blk_drewN ?_ _ | refine blk_drew ?_ | refine blk_alloc ?_ _)); refine blk_put (cs := #[.int .i64 0, .int .i64 0]) ?_ 0 _ rfl; (with_reducible repeat (first | refine blk_drewN ?_ _ | refine blk_drew ?_ | refine blk_alloc ?_ _)); exact BK160.out⟩
        have n2_ : Aside0 (IsS109 w0 ((w18.setCell ⟨gb160, 0, none⟩ (.int .i64 ((rd_T27 x3_1 (ji9)).f0))).setCell ⟨gb160, 1, none⟩ (.int .i64 ((rd_T27 x3_1 (ji9)).f1))) g s0_0 x1001_1 x1002_1) := ⟨by repeat (first | (with_reducible first | exact HI0.out | apply IsS109.alloc | apply IsS109.drewN | apply IsS109.drew | apply IsS109.set_1 | apply IsS109.set_2 | refine IsS109.far ?_ NB0_160.out _) | exact HI0.out)⟩
        have n3_ : Aside0 (KeepBut w ((w18.setCell ⟨gb160, 0, none⟩ (.int .i64 ((rd_T27 x3_1 (ji9)).f0))).setCell ⟨gb160, 1, none⟩ (.int .i64 ((rd_T27 x3_1 (ji9)).f1))) g none) := ⟨by repeat (first | (with_reducible first | exact HK.out | apply KeepBut.set_ | apply keep_drewN | apply keep_drew | apply keep_alloc | refine keep_far ?_ GW160.out _) | exact HK.out)⟩
        have n4_ : Aside0 (Below w0.heap.size w0 ((w18.setCell ⟨gb160, 0, none⟩ (.int .i64 ((rd_T27 x3_1 (ji9)).f0))).setCell ⟨gb160, 1, none⟩ (.int .i64 ((rd_T27 x3_1 (ji9)).f1)))) := ⟨by repeat (first | (with_reducible first | exact HB.out | apply below_alloc | apply pw_below_drewN | apply below_drew1 | refine below_set ?_ (IsS109.ge HI0.out) | refine below_set ?_ GE160.out) | exact HB.out)⟩
        (try clear HO_3)
        (try clear BK160)
        (try clear HI0)
        (try clear HK)
        (try clear HB)
        generalize ((w18.setCell ⟨gb160, 0, none⟩ (.int .i64 ((rd_T27 x3_1 (ji9)).f0))).setCell ⟨gb160, 1, none⟩ (.int .i64 ((rd_T27 x3_1 (ji9)).f1))) = w21 at n0_ n1_ n2_ n3_ n4_ ⊢
        have HO_3 := n0_
        have BK160 := n1_
        have HI0 := n2_
        have HK := n3_
        have HB := n4_
        clear n0_ n1_ n2_ n3_ n4_
        replace HO_3 := Aside0.mk (Kd.R_drew HO_3.out)
        replace BK160 := Aside0.mk (blk_drew BK160.out)
        replace HI0 := Aside0.mk (IsS109.drew HI0.out)
        replace HK := Aside0.mk (keep_drew HK.out)
        replace HB := Aside0.mk (below_drew1 HB.out)
        refine start_ (n := 11) (S := fun w' => w'.cell? ⟨gb160, 0, none⟩ = some (.int .i64 ((rd_T27 x3_1 (ji9)).f0)) ∧ w'.cell? ⟨gb160, 1, none⟩ = some (.int .i64 ((rd_T27 x3_1 (ji9)).f1))) (ds := []) #[false, false, false, false, false, false, false, false, false, false, false] (by kernel_rfl) rfl rfl ⟨(blk_cell BK160.out 0).trans rfl, (blk_cell BK160.out 1).trans rfl⟩ (fun hHeld => ?_); refine with_tabW spec_l6Draw.tab6 spec_l6Draw.bits6 (fun HT_ HW_ => ?_)
        generalize w21.drew = w22 at HO_3 BK160 HI0 HK HB hHeld ⊢
        refine Hd.p_ HT_ 0 (some 23) #[true, false, false, false, false, false, false, false, false, false, false] ?_
        refine Hd.p_ HT_ 2 (some 25) #[true, false, true, false, false, false, false, false, false, false, false] ?_
        refine Hd.p_ HT_ 4 (some 27) #[true, false, true, false, true, false, false, false, false, false, false] ?_
        refine Hd.t_ HT_ HW_ hHeld 3 (some 26) #[true, false, true, true, true, false, false, false, false, false, false] ?_
        refine join_ (σ := Nat) 1 #[true, true, true, true, true, true, true, true, true, true, false] (fun s_ => [(24, .int .i64 t161), (28, .int .i64 t164), (30, .int .i64 t167), (6, .pointer (some ⟨s_, 0, none⟩)), (29, .int .i64 (wrap64 (((rd_T27 x3_1 (ji9)).f1) + t164))), (31, .agg #[.int .i64 t161, .int .i64 t167])]) (fun s_ w' => (w'.cell? ⟨gb160, 0, none⟩ = some (.int .i64 ((rd_T27 x3_1 (ji9)).f0)) ∧ w'.cell? ⟨gb160, 1, none⟩ = some (.int .i64 ((rd_T27 x3_1 (ji9)).f1))) ∧ (Kd.R k27 27 w' w.heap.size (fun k_ => k_ ≠ gb160 ∧ k_ ≠ s_) (.slice (some ad159) x3_1.length co17) x3_1) ∧ (w'.heap[gb160]? = some (.cells #[.int .i64 ((rd_T27 x3_1 (ji9)).f0), .int .i64 ((rd_T27 x3_1 (ji9)).f1)] 27 (0, 0))) ∧ (w'.heap[s_]? = some (.cells #[.int .i64 0, .int .i64 0] 27 (0, 0))) ∧ (w.heap.size ≤ s_) ∧ (w0.heap.size ≤ s_) ∧ (g ≠ s_) ∧ (s_ ≠ g) ∧ (gb160 ≠ s_) ∧ (s_ ≠ gb160) ∧ (IsS109 w0 w' g s0_0 t165 t166) ∧ (KeepBut w w' g none) ∧ (Below w0.heap.size w0 w')) ?_ ?_
        rotate_left
        ·
         intro hCont
         refine two_ (i := 1) (j := 9) (Ni := some 24) (Nj := some 6) #[true, true, true, true, true, false, false, false, false, false, false] #[true, false, true, true, true, false, false, false, false, true, false] rfl rfl rfl rfl (two_of HT_.out (by kernel_rfl)) (by decide) (by decide) (fun K hK => ?_) (fun K hK => ?_)
         ·
          skip
          refine goes_ Try.func89 (by kernel_rfl) rfl #[.pointer (some ⟨g, 0, none⟩), .int .i64 14] (by rfl) rfl rfl Hd.m_ ?_
          with_reducible refine (spec_l1Below.calls g s0_0 x1001_1 x1002_1 14 t161 t162 t163 w0 _ ?side1 ?side2 A12.out).mono ?_
          (case side1 => repeat (first | (with_reducible first | exact HI0.out | apply IsS109.alloc | apply IsS109.drewN | apply IsS109.drew | apply IsS109.set_1 | apply IsS109.set_2 | refine IsS109.far ?_ NB0_160.out _) | exact HI0.out))
          (case side2 => repeat (first | (with_reducible first | exact HB.out | apply below_alloc | apply pw_below_drewN | apply below_drew1 | refine below_set ?_ (IsS109.ge HI0.out) | refine below_set ?_ GE160.out) | exact HB.out))
          rintro e w23 ⟨rfl, hi, hb, hk⟩
          refine ⟨_, rfl, ?_⟩
          replace HO_3 := Aside0.mk (Kd.R_mono (Kd.R_keep (IsS109.apart (show IsS109 w0 _ g s0_0 x1001_1 x1002_1 from by repeat (first | (with_reducible first | exact HI0.out | apply IsS109.alloc | apply IsS109.drewN | apply IsS109.drew | apply IsS109.set_1 | apply IsS109.set_2 | refine IsS109.far ?_ NB0_160.out _) | exact HI0.out)) (Hd.r_ HO_3) (by decide)) hk (fun _ h => h.2)) (fun _ h => h.1))
          replace BK160 := Aside0.mk (KeepBut.blk hk (g' := gb160) (o := .cells #[.int .i64 ((rd_T27 x3_1 (ji9)).f0), .int .i64 ((rd_T27 x3_1 (ji9)).f1)] 27 (0, 0)) (Hd.k_ BK160) NB160_0.out (by simp))
          replace HK := Aside0.mk (KeepBut.trans (by repeat (first | (with_reducible first | exact HK.out | apply KeepBut.set_ | apply keep_drewN | apply keep_drew | apply keep_alloc | refine keep_far ?_ GW160.out _) | exact HK.out)) hk (.inl rfl))
          replace HB := Aside0.mk (hb)
          replace HI0 := Aside0.mk (hi)
          (try clear hb)
          (try clear hb2)
          (try clear hk)
          (try clear hi)
          refine hK.out _ _ ⟨(blk_cell BK160.out 0).trans rfl, (blk_cell BK160.out 1).trans rfl⟩ (fun hHeld => ?_)
          clear hK K
          refine Hd.n_ (some 24) ?_
          refine two_ (i := 5) (j := 9) (Ni := some 28) (Nj := some 6) #[true, true, true, true, true, true, false, false, false, false, false] #[true, true, true, true, true, false, false, false, false, true, false] rfl rfl rfl rfl (two_of HT_.out (by kernel_rfl)) (by decide) (by decide) (fun K hK => ?_) (fun K hK => ?_)
          ·
           skip
           refine goes_ Try.func89 (by kernel_rfl) rfl #[.pointer (some ⟨g, 0, none⟩), .int .i64 4] (by rfl) rfl rfl Hd.m_ ?_
           with_reducible refine (spec_l1Below.calls g s0_0 t162 t163 4 t164 t165 t166 w0 _ ?side1 ?side2 A13.out).mono ?_
           (case side1 => repeat (first | (with_reducible first | exact HI0.out | apply IsS109.alloc | apply IsS109.drewN | apply IsS109.drew | apply IsS109.set_1 | apply IsS109.set_2 | refine IsS109.far ?_ NB0_160.out _) | exact HI0.out))
           (case side2 => repeat (first | (with_reducible first | exact HB.out | apply below_alloc | apply pw_below_drewN | apply below_drew1 | refine below_set ?_ (IsS109.ge HI0.out) | refine below_set ?_ GE160.out) | exact HB.out))
           rintro e w24 ⟨rfl, hi, hb, hk⟩
           refine ⟨_, rfl, ?_⟩
           replace HO_3 := Aside0.mk (Kd.R_mono (Kd.R_keep (IsS109.apart (show IsS109 w0 _ g s0_0 t162 t163 from by repeat (first | (with_reducible first | exact HI0.out | apply IsS109.alloc | apply IsS109.drewN | apply IsS109.drew | apply IsS109.set_1 | apply IsS109.set_2 | refine IsS109.far ?_ NB0_160.out _) | exact HI0.out)) (Hd.r_ HO_3) (by decide)) hk (fun _ h => h.2)) (fun _ h => h.1))
           replace BK160 := Aside0.mk (KeepBut.blk hk (g' := gb160) (o := .cells #[.int .i64 ((rd_T27 x3_1 (ji9)).f0), .int .i64 ((rd_T27 x3_1 (ji9)).f1)] 27 (0, 0)) (Hd.k_ BK160) NB160_0.out (by simp))
           replace HK := Aside0.mk (KeepBut.trans (by repeat (first | (with_reducible first | exact HK.out | apply KeepBut.set_ | apply keep_drewN | apply keep_drew | apply keep_alloc | refine keep_far ?_ GW160.out _) | exact HK.out)) hk (.inl rfl))
           replace HB := Aside0.mk (hb)
           replace HI0 := Aside0.mk (hi)
           (try clear hb)
           (try clear hb2)
           (try clear hk)
           (try clear hi)
           refine hK.out _ _ ⟨(blk_cell BK160.out 0).trans rfl, (blk_cell BK160.out 1).trans rfl⟩ (fun hHeld => ?_)
           clear hK K
           refine Hd.n_ (some 28) ?_
           refine Hd.p_ HT_ 6 (some 29) #[true, true, true, true, true, true, true, false, false, false, false] ?_
           refine two_ (i := 7) (j := 9) (Ni := some 30) (Nj := some 6) #[true, true, true, true, true, true, true, true, false, false, false] #[true, true, true, true, true, true, true, false, false, true, false] rfl rfl rfl rfl (two_of HT_.out (by kernel_rfl)) (by decide) (by decide) (fun K hK => ?_) (fun K hK => ?_)
           ·
            skip
            refine goes_ Try.func119 (by kernel_rfl) rfl #[.int .i64 200, .int .i64 (wrap64 (((rd_T27 x3_1 (ji9)).f1) + t164))] (by rfl) rfl rfl (by (try simp only [List.map_toArray, List.map_cons, List.map_nil]); first | done | (simp only [hji9]; rfl) | rfl | (simp only [List.length_drop, List.length_take]; rfl)) ?_
            with_reducible refine (spec_Min.calls 200 (wrap64 (((rd_T27 x3_1 (ji9)).f1) + t164)) t167 _ A14.out).mono ?_
            rintro e w' ⟨rfl, ⟨nd, rfl⟩⟩
            refine ⟨_, rfl, ?_⟩
            replace HO_3 := Aside0.mk (Kd.R_drewN HO_3.out nd)
            replace BK160 := Aside0.mk (blk_drewN BK160.out nd)
            replace HB := Aside0.mk (pw_below_drewN HB.out nd)
            generalize w22.drewN nd = w22 at HO_3 BK160 HB ⊢
            refine hK.out _ _ ⟨(blk_cell BK160.out 0).trans rfl, (blk_cell BK160.out 1).trans rfl⟩ (fun hHeld => ?_)
            clear hK K
            refine Hd.n_ (some 30) ?_
            refine Hd.p_ HT_ 8 (some 31) #[true, true, true, true, true, true, true, true, true, false, false] ?_
            refine Hd.o_ HT_ 9 (some 6) #[true, true, true, true, true, true, true, true, true, true, false] (fun K hK => ?_)
            refine box_step ?hg (N := 6) ?hd (cs := #[.int .i64 0, .int .i64 0]) (t := 27) ?hr ?_; (case hd => rfl); (case hg => rfl); (case hr => first | (go_simp; done) | (go_simp; rfl))
            intro gb168 hg w25 hbox hb
            replace HO_3 := Aside0.mk (Kd.R_below (Kd.R_elderB (Hd.r_ HO_3) gb168 (Nat.le_of_eq hg.symm)) hb)
            replace HB := Aside0.mk (below_step (by repeat (first | (with_reducible first | exact HB.out | apply below_alloc | apply pw_below_drewN | apply below_drew1 | refine below_set ?_ (IsS109.ge HI0.out) | refine below_set ?_ GE160.out) | exact HB.out)) hb)
            have BK168 := Aside0.mk (hbox)
            have GW168 := Aside0.mk ((by rw [hg]; exact (keep_size (w := w) (g := g) (row := none) (by repeat (first | (with_reducible first | exact HK.out | apply KeepBut.set_ | apply keep_drewN | apply keep_drew | apply keep_alloc | refine keep_far ?_ GW160.out _) | exact HK.out))) : w.heap.size ≤ gb168))
            have GE168 := Aside0.mk ((Nat.le_trans HW0.out (by rw [hg]; exact (keep_size (w := w) (g := g) (row := none) (by repeat (first | (with_reducible first | exact HK.out | apply KeepBut.set_ | apply keep_drewN | apply keep_drew | apply keep_alloc | refine keep_far ?_ GW160.out _) | exact HK.out))) : w.heap.size ≤ gb168) : w0.heap.size ≤ gb168))
            replace HK := Aside0.mk (KeepBut.trans (by repeat (first | (with_reducible first | exact HK.out | apply KeepBut.set_ | apply keep_drewN | apply keep_drew | apply keep_alloc | refine keep_far ?_ GW160.out _) | exact HK.out)) (KeepBut.of_below hb g none) (.inl rfl))
            have NB160_168 := Aside0.mk ((Hd.lt_ BK160 hg))
            have NB168_160 := Aside0.mk ((Hd.gt_ BK160 hg))
            replace BK160 := Aside0.mk (Hd.kb_ BK160 hb)
            have NB0_168 := Aside0.mk ((by rw [hg]; exact Nat.ne_of_lt (IsS109.lt (show IsS109 w0 _ g s0_0 t165 t166 from by repeat (first | (with_reducible first | exact HI0.out | apply IsS109.alloc | apply IsS109.drewN | apply IsS109.drew | apply IsS109.set_1 | apply IsS109.set_2 | refine IsS109.far ?_ NB0_160.out _) | exact HI0.out))) : g ≠ gb168))
            have NB168_0 := Aside0.mk ((by rw [hg]; exact Nat.ne_of_gt (IsS109.lt (show IsS109 w0 _ g s0_0 t165 t166 from by repeat (first | (with_reducible first | exact HI0.out | apply IsS109.alloc | apply IsS109.drewN | apply IsS109.drew | apply IsS109.set_1 | apply IsS109.set_2 | refine IsS109.far ?_ NB0_160.out _) | exact HI0.out))) : gb168 ≠ g))
            replace HI0 := Aside0.mk (IsS109.below (by repeat (first | (with_reducible first | exact HI0.out | apply IsS109.alloc | apply IsS109.drewN | apply IsS109.drew | apply IsS109.set_1 | apply IsS109.set_2 | refine IsS109.far ?_ NB0_160.out _) | exact HI0.out)) hb)
            clear hb hbox hg
            refine hK.out _ _ ⟨(blk_cell BK160.out 0).trans rfl, (blk_cell BK160.out 1).trans rfl⟩ (fun hHeld => ?_)
            clear hK K
            refine Hd.n_ (some 6) ?_
            exact norm_ (by simp only [putAll, Act.put, List.setIfInBounds_toArray, List.set_cons_zero, List.set_cons_succ]) (hCont (gb168) _ ⟨hHeld, (Hd.r_ HO_3), (Hd.k_ BK160), (Hd.k_ BK168), GW168.out, GE168.out, NB0_168.out, NB168_0.out, NB160_168.out, NB168_160.out, (by repeat (first | (with_reducible first | exact HI0.out | apply IsS109.alloc | apply IsS109.drewN | apply IsS109.drew | apply IsS109.set_1 | apply IsS109.set_2 | refine IsS109.far ?_ NB0_160.out _ | refine IsS109.far ?_ NB0_168.out _) | exact HI0.out)), (by repeat (first | (with_reducible first | exact HK.out | apply KeepBut.set_ | apply keep_drewN | apply keep_drew | apply keep_alloc | refine keep_far ?_ GW160.out _ | refine keep_far ?_ GW168.out _) | exact HK.out)), (by repeat (first | (with_reducible first | exact HB.out | apply below_alloc | apply pw_below_drewN | apply below_drew1 | refine below_set ?_ (IsS109.ge HI0.out) | refine below_set ?_ GE160.out | refine below_set ?_ GE168.out) | exact HB.out))⟩)
           ·
            skip
            refine box_step ?hg (N := 6) ?hd (cs := #[.int .i64 0, .int .i64 0]) (t := 27) ?hr ?_; (case hd => rfl); (case hg => rfl); (case hr => first | (go_simp; done) | (go_simp; rfl))
            intro gb168 hg w25 hbox hb
            replace HO_3 := Aside0.mk (Kd.R_below (Kd.R_elderB (Hd.r_ HO_3) gb168 (Nat.le_of_eq hg.symm)) hb)
            replace HB := Aside0.mk (below_step (by repeat (first | (with_reducible first | exact HB.out | apply below_alloc | apply pw_below_drewN | apply below_drew1 | refine below_set ?_ (IsS109.ge HI0.out) | refine below_set ?_ GE160.out) | exact HB.out)) hb)
            have BK168 := Aside0.mk (hbox)
            have GW168 := Aside0.mk ((by rw [hg]; exact (keep_size (w := w) (g := g) (row := none) (by repeat (first | (with_reducible first | exact HK.out | apply KeepBut.set_ | apply keep_drewN | apply keep_drew | apply keep_alloc | refine keep_far ?_ GW160.out _) | exact HK.out))) : w.heap.size ≤ gb168))
            have GE168 := Aside0.mk ((Nat.le_trans HW0.out (by rw [hg]; exact (keep_size (w := w) (g := g) (row := none) (by repeat (first | (with_reducible first | exact HK.out | apply KeepBut.set_ | apply keep_drewN | apply keep_drew | apply keep_alloc | refine keep_far ?_ GW160.out _) | exact HK.out))) : w.heap.size ≤ gb168) : w0.heap.size ≤ gb168))
            replace HK := Aside0.mk (KeepBut.trans (by repeat (first | (with_reducible first | exact HK.out | apply KeepBut.set_ | apply keep_drewN | apply keep_drew | apply keep_alloc | refine keep_far ?_ GW160.out _) | exact HK.out)) (KeepBut.of_below hb g none) (.inl rfl))
            have NB160_168 := Aside0.mk ((Hd.lt_ BK160 hg))
            have NB168_160 := Aside0.mk ((Hd.gt_ BK160 hg))
            replace BK160 := Aside0.mk (Hd.kb_ BK160 hb)
            have NB0_168 := Aside0.mk ((by rw [hg]; exact Nat.ne_of_lt (IsS109.lt (show IsS109 w0 _ g s0_0 t165 t166 from by repeat (first | (with_reducible first | exact HI0.out | apply IsS109.alloc | apply IsS109.drewN | apply IsS109.drew | apply IsS109.set_1 | apply IsS109.set_2 | refine IsS109.far ?_ NB0_160.out _) | exact HI0.out))) : g ≠ gb168))
            have NB168_0 := Aside0.mk ((by rw [hg]; exact Nat.ne_of_gt (IsS109.lt (show IsS109 w0 _ g s0_0 t165 t166 from by repeat (first | (with_reducible first | exact HI0.out | apply IsS109.alloc | apply IsS109.drewN | apply IsS109.drew | apply IsS109.set_1 | apply IsS109.set_2 | refine IsS109.far ?_ NB0_160.out _) | exact HI0.out))) : gb168 ≠ g))
            replace HI0 := Aside0.mk (IsS109.below (by repeat (first | (with_reducible first | exact HI0.out | apply IsS109.alloc | apply IsS109.drewN | apply IsS109.drew | apply IsS109.set_1 | apply IsS109.set_2 | refine IsS109.far ?_ NB0_160.out _) | exact HI0.out)) hb)
            clear hb hbox hg
            refine hK.out _ _ ⟨(blk_cell BK160.out 0).trans rfl, (blk_cell BK160.out 1).trans rfl⟩ (fun hHeld => ?_)
            clear hK K
            refine Hd.n_ (some 6) ?_
            refine Hd.o_ HT_ 7 (some 30) #[true, true, true, true, true, true, true, true, false, true, false] (fun K hK => ?_)
            refine goes_ Try.func119 (by kernel_rfl) rfl #[.int .i64 200, .int .i64 (wrap64 (((rd_T27 x3_1 (ji9)).f1) + t164))] (by rfl) rfl rfl (by (try simp only [List.map_toArray, List.map_cons, List.map_nil]); first | done | (simp only [hji9]; rfl) | rfl | (simp only [List.length_drop, List.length_take]; rfl)) ?_
            with_reducible refine (spec_Min.calls 200 (wrap64 (((rd_T27 x3_1 (ji9)).f1) + t164)) t167 _ A14.out).mono ?_
            rintro e w' ⟨rfl, ⟨nd, rfl⟩⟩
            refine ⟨_, rfl, ?_⟩
            replace HO_3 := Aside0.mk (Kd.R_drewN HO_3.out nd)
            replace BK160 := Aside0.mk (blk_drewN BK160.out nd)
            replace HB := Aside0.mk (pw_below_drewN HB.out nd)
            generalize w22.drewN nd = w22 at HO_3 BK160 HB ⊢
            refine hK.out _ _ ⟨(blk_cell BK160.out 0).trans rfl, (blk_cell BK160.out 1).trans rfl⟩ (fun hHeld => ?_)
            clear hK K
            refine Hd.n_ (some 30) ?_
            refine Hd.p_ HT_ 8 (some 31) #[true, true, true, true, true, true, true, true, true, true, false] ?_
            exact norm_ (by simp only [putAll, Act.put, List.setIfInBounds_toArray, List.set_cons_zero, List.set_cons_succ]) (hCont (gb168) _ ⟨hHeld, (Hd.r_ HO_3), (Hd.k_ BK160), (Hd.k_ BK168), GW168.out, GE168.out, NB0_168.out, NB168_0.out, NB160_168.out, NB168_160.out, (by repeat (first | (with_reducible first | exact HI0.out | apply IsS109.alloc | apply IsS109.drewN | apply IsS109.drew | apply IsS109.set_1 | apply IsS109.set_2 | refine IsS109.far ?_ NB0_160.out _ | refine IsS109.far ?_ NB0_168.out _) | exact HI0.out)), (by repeat (first | (with_reducible first | exact HK.out | apply KeepBut.set_ | apply keep_drewN | apply keep_drew | apply keep_alloc | refine keep_far ?_ GW160.out _ | refine keep_far ?_ GW168.out _) | exact HK.out)), (by repeat (first | (with_reducible first | exact HB.out | apply below_alloc | apply pw_below_drewN | apply below_drew1 | refine below_set ?_ (IsS109.ge HI0.out) | refine below_set ?_ GE160.out | refine below_set ?_ GE168.out) | exact HB.out))⟩)
          ·
           skip
           refine box_step ?hg (N := 6) ?hd (cs := #[.int .i64 0, .int .i64 0]) (t := 27) ?hr ?_; (case hd => rfl); (case hg => rfl); (case hr => first | (go_simp; done) | (go_simp; rfl))
           intro gb168 hg w24 hbox hb
           replace HO_3 := Aside0.mk (Kd.R_below (Kd.R_elderB (Hd.r_ HO_3) gb168 (Nat.le_of_eq hg.symm)) hb)
           replace HB := Aside0.mk (below_step (by repeat (first | (with_reducible first | exact HB.out | apply below_alloc | apply pw_below_drewN | apply below_drew1 | refine below_set ?_ (IsS109.ge HI0.out) | refine below_set ?_ GE160.out) | exact HB.out)) hb)
           have BK168 := Aside0.mk (hbox)
           have GW168 := Aside0.mk ((by rw [hg]; exact (keep_size (w := w) (g := g) (row := none) (by repeat (first | (with_reducible first | exact HK.out | apply KeepBut.set_ | apply keep_drewN | apply keep_drew | apply keep_alloc | refine keep_far ?_ GW160.out _) | exact HK.out))) : w.heap.size ≤ gb168))
           have GE168 := Aside0.mk ((Nat.le_trans HW0.out (by rw [hg]; exact (keep_size (w := w) (g := g) (row := none) (by repeat (first | (with_reducible first | exact HK.out | apply KeepBut.set_ | apply keep_drewN | apply keep_drew | apply keep_alloc | refine keep_far ?_ GW160.out _) | exact HK.out))) : w.heap.size ≤ gb168) : w0.heap.size ≤ gb168))
           replace HK := Aside0.mk (KeepBut.trans (by repeat (first | (with_reducible first | exact HK.out | apply KeepBut.set_ | apply keep_drewN | apply keep_drew | apply keep_alloc | refine keep_far ?_ GW160.out _) | exact HK.out)) (KeepBut.of_below hb g none) (.inl rfl))
           have NB160_168 := Aside0.mk ((Hd.lt_ BK160 hg))
           have NB168_160 := Aside0.mk ((Hd.gt_ BK160 hg))
           replace BK160 := Aside0.mk (Hd.kb_ BK160 hb)
           have NB0_168 := Aside0.mk ((by rw [hg]; exact Nat.ne_of_lt (IsS109.lt (show IsS109 w0 _ g s0_0 t162 t163 from by repeat (first | (with_reducible first | exact HI0.out | apply IsS109.alloc | apply IsS109.drewN | apply IsS109.drew | apply IsS109.set_1 | apply IsS109.set_2 | refine IsS109.far ?_ NB0_160.out _) | exact HI0.out))) : g ≠ gb168))
           have NB168_0 := Aside0.mk ((by rw [hg]; exact Nat.ne_of_gt (IsS109.lt (show IsS109 w0 _ g s0_0 t162 t163 from by repeat (first | (with_reducible first | exact HI0.out | apply IsS109.alloc | apply IsS109.drewN | apply IsS109.drew | apply IsS109.set_1 | apply IsS109.set_2 | refine IsS109.far ?_ NB0_160.out _) | exact HI0.out))) : gb168 ≠ g))
           replace HI0 := Aside0.mk (IsS109.below (by repeat (first | (with_reducible first | exact HI0.out | apply IsS109.alloc | apply IsS109.drewN | apply IsS109.drew | apply IsS109.set_1 | apply IsS109.set_2 | refine IsS109.far ?_ NB0_160.out _) | exact HI0.out)) hb)
           clear hb hbox hg
           refine hK.out _ _ ⟨(blk_cell BK160.out 0).trans rfl, (blk_cell BK160.out 1).trans rfl⟩ (fun hHeld => ?_)
           clear hK K
           refine Hd.n_ (some 6) ?_
           refine Hd.o_ HT_ 5 (some 28) #[true, true, true, true, true, true, false, false, false, true, false] (fun K hK => ?_)
           refine goes_ Try.func89 (by kernel_rfl) rfl #[.pointer (some ⟨g, 0, none⟩), .int .i64 4] (by rfl) rfl rfl Hd.m_ ?_
           with_reducible refine (spec_l1Below.calls g s0_0 t162 t163 4 t164 t165 t166 w0 _ ?side1 ?side2 A13.out).mono ?_
           (case side1 => repeat (first | (with_reducible first | exact HI0.out | apply IsS109.alloc | apply IsS109.drewN | apply IsS109.drew | apply IsS109.set_1 | apply IsS109.set_2 | refine IsS109.far ?_ NB0_160.out _ | refine IsS109.far ?_ NB0_168.out _) | exact HI0.out))
           (case side2 => repeat (first | (with_reducible first | exact HB.out | apply below_alloc | apply pw_below_drewN | apply below_drew1 | refine below_set ?_ (IsS109.ge HI0.out) | refine below_set ?_ GE160.out | refine below_set ?_ GE168.out) | exact HB.out))
           rintro e w25 ⟨rfl, hi, hb, hk⟩
           refine ⟨_, rfl, ?_⟩
           replace HO_3 := Aside0.mk (Kd.R_mono (Kd.R_keep (IsS109.apart (show IsS109 w0 _ g s0_0 t162 t163 from by repeat (first | (with_reducible first | exact HI0.out | apply IsS109.alloc | apply IsS109.drewN | apply IsS109.drew | apply IsS109.set_1 | apply IsS109.set_2 | refine IsS109.far ?_ NB0_160.out _ | refine IsS109.far ?_ NB0_168.out _) | exact HI0.out)) (Hd.r_ HO_3) (by decide)) hk (fun _ h => h.2)) (fun _ h => h.1))
           replace BK160 := Aside0.mk (KeepBut.blk hk (g' := gb160) (o := .cells #[.int .i64 ((rd_T27 x3_1 (ji9)).f0), .int .i64 ((rd_T27 x3_1 (ji9)).f1)] 27 (0, 0)) (Hd.k_ BK160) NB160_0.out (by simp))
           replace BK168 := Aside0.mk (KeepBut.blk hk (g' := gb168) (o := .cells #[.int .i64 0, .int .i64 0] 27 (0, 0)) (Hd.k_ BK168) NB168_0.out (by simp))
           replace HK := Aside0.mk (KeepBut.trans (by repeat (first | (with_reducible first | exact HK.out | apply KeepBut.set_ | apply keep_drewN | apply keep_drew | apply keep_alloc | refine keep_far ?_ GW160.out _ | refine keep_far ?_ GW168.out _) | exact HK.out)) hk (.inl rfl))
           replace HB := Aside0.mk (hb)
           replace HI0 := Aside0.mk (hi)
           (try clear hb)
           (try clear hb2)
           (try clear hk)
           (try clear hi)
           refine hK.out _ _ ⟨(blk_cell BK160.out 0).trans rfl, (blk_cell BK160.out 1).trans rfl⟩ (fun hHeld => ?_)
           clear hK K
           refine Hd.n_ (some 28) ?_
           refine Hd.p_ HT_ 6 (some 29) #[true, true, true, true, true, true, true, false, false, true, false] ?_
           refine Hd.o_ HT_ 7 (some 30) #[true, true, true, true, true, true, true, true, false, true, false] (fun K hK => ?_)
           refine goes_ Try.func119 (by kernel_rfl) rfl #[.int .i64 200, .int .i64 (wrap64 (((rd_T27 x3_1 (ji9)).f1) + t164))] (by rfl) rfl rfl (by (try simp only [List.map_toArray, List.map_cons, List.map_nil]); first | done | (simp only [hji9]; rfl) | rfl | (simp only [List.length_drop, List.length_take]; rfl)) ?_
           with_reducible refine (spec_Min.calls 200 (wrap64 (((rd_T27 x3_1 (ji9)).f1) + t164)) t167 _ A14.out).mono ?_
           rintro e w' ⟨rfl, ⟨nd, rfl⟩⟩
           refine ⟨_, rfl, ?_⟩
           replace HO_3 := Aside0.mk (Kd.R_drewN HO_3.out nd)
           replace BK160 := Aside0.mk (blk_drewN BK160.out nd)
           replace HB := Aside0.mk (pw_below_drewN HB.out nd)
           generalize w22.drewN nd = w22 at HO_3 BK160 HB ⊢
           refine hK.out _ _ ⟨(blk_cell BK160.out 0).trans rfl, (blk_cell BK160.out 1).trans rfl⟩ (fun hHeld => ?_)
           clear hK K
           refine Hd.n_ (some 30) ?_
           refine Hd.p_ HT_ 8 (some 31) #[true, true, true, true, true, true, true, true, true, true, false] ?_
           exact norm_ (by simp only [putAll, Act.put, List.setIfInBounds_toArray, List.set_cons_zero, List.set_cons_succ]) (hCont (gb168) _ ⟨hHeld, (Hd.r_ HO_3), (Hd.k_ BK160), (Hd.k_ BK168), GW168.out, GE168.out, NB0_168.out, NB168_0.out, NB160_168.out, NB168_160.out, (by repeat (first | (with_reducible first | exact HI0.out | apply IsS109.alloc | apply IsS109.drewN | apply IsS109.drew | apply IsS109.set_1 | apply IsS109.set_2 | refine IsS109.far ?_ NB0_160.out _ | refine IsS109.far ?_ NB0_168.out _) | exact HI0.out)), (by repeat (first | (with_reducible first | exact HK.out | apply KeepBut.set_ | apply keep_drewN | apply keep_drew | apply keep_alloc | refine keep_far ?_ GW160.out _ | refine keep_far ?_ GW168.out _) | exact HK.out)), (by repeat (first | (with_reducible first | exact HB.out | apply below_alloc | apply pw_below_drewN | apply below_drew1 | refine below_set ?_ (IsS109.ge HI0.out) | refine below_set ?_ GE160.out | refine below_set ?_ GE168.out) | exact HB.out))⟩)
         ·
          skip
          refine box_step ?hg (N := 6) ?hd (cs := #[.int .i64 0, .int .i64 0]) (t := 27) ?hr ?_; (case hd => rfl); (case hg => rfl); (case hr => first | (go_simp; done) | (go_simp; rfl))
          intro gb168 hg w23 hbox hb
          replace HO_3 := Aside0.mk (Kd.R_below (Kd.R_elderB (Hd.r_ HO_3) gb168 (Nat.le_of_eq hg.symm)) hb)
          replace HB := Aside0.mk (below_step (by repeat (first | (with_reducible first | exact HB.out | apply below_alloc | apply pw_below_drewN | apply below_drew1 | refine below_set ?_ (IsS109.ge HI0.out) | refine below_set ?_ GE160.out) | exact HB.out)) hb)
          have BK168 := Aside0.mk (hbox)
          have GW168 := Aside0.mk ((by rw [hg]; exact (keep_size (w := w) (g := g) (row := none) (by repeat (first | (with_reducible first | exact HK.out | apply KeepBut.set_ | apply keep_drewN | apply keep_drew | apply keep_alloc | refine keep_far ?_ GW160.out _) | exact HK.out))) : w.heap.size ≤ gb168))
          have GE168 := Aside0.mk ((Nat.le_trans HW0.out (by rw [hg]; exact (keep_size (w := w) (g := g) (row := none) (by repeat (first | (with_reducible first | exact HK.out | apply KeepBut.set_ | apply keep_drewN | apply keep_drew | apply keep_alloc | refine keep_far ?_ GW160.out _) | exact HK.out))) : w.heap.size ≤ gb168) : w0.heap.size ≤ gb168))
          replace HK := Aside0.mk (KeepBut.trans (by repeat (first | (with_reducible first | exact HK.out | apply KeepBut.set_ | apply keep_drewN | apply keep_drew | apply keep_alloc | refine keep_far ?_ GW160.out _) | exact HK.out)) (KeepBut.of_below hb g none) (.inl rfl))
          have NB160_168 := Aside0.mk ((Hd.lt_ BK160 hg))
          have NB168_160 := Aside0.mk ((Hd.gt_ BK160 hg))
          replace BK160 := Aside0.mk (Hd.kb_ BK160 hb)
          have NB0_168 := Aside0.mk ((by rw [hg]; exact Nat.ne_of_lt (IsS109.lt (show IsS109 w0 _ g s0_0 x1001_1 x1002_1 from by repeat (first | (with_reducible first | exact HI0.out | apply IsS109.alloc | apply IsS109.drewN | apply IsS109.drew | apply IsS109.set_1 | apply IsS109.set_2 | refine IsS109.far ?_ NB0_160.out _) | exact HI0.out))) : g ≠ gb168))
          have NB168_0 := Aside0.mk ((by rw [hg]; exact Nat.ne_of_gt (IsS109.lt (show IsS109 w0 _ g s0_0 x1001_1 x1002_1 from by repeat (first | (with_reducible first | exact HI0.out | apply IsS109.alloc | apply IsS109.drewN | apply IsS109.drew | apply IsS109.set_1 | apply IsS109.set_2 | refine IsS109.far ?_ NB0_160.out _) | exact HI0.out))) : gb168 ≠ g))
          replace HI0 := Aside0.mk (IsS109.below (by repeat (first | (with_reducible first | exact HI0.out | apply IsS109.alloc | apply IsS109.drewN | apply IsS109.drew | apply IsS109.set_1 | apply IsS109.set_2 | refine IsS109.far ?_ NB0_160.out _) | exact HI0.out)) hb)
          clear hb hbox hg
          refine hK.out _ _ ⟨(blk_cell BK160.out 0).trans rfl, (blk_cell BK160.out 1).trans rfl⟩ (fun hHeld => ?_)
          clear hK K
          refine Hd.n_ (some 6) ?_
          refine Hd.o_ HT_ 1 (some 24) #[true, true, true, true, true, false, false, false, false, true, false] (fun K hK => ?_)
          refine goes_ Try.func89 (by kernel_rfl) rfl #[.pointer (some ⟨g, 0, none⟩), .int .i64 14] (by rfl) rfl rfl Hd.m_ ?_
          with_reducible refine (spec_l1Below.calls g s0_0 x1001_1 x1002_1 14 t161 t162 t163 w0 _ ?side1 ?side2 A12.out).mono ?_
          (case side1 => repeat (first | (with_reducible first | exact HI0.out | apply IsS109.alloc | apply IsS109.drewN | apply IsS109.drew | apply IsS109.set_1 | apply IsS109.set_2 | refine IsS109.far ?_ NB0_160.out _ | refine IsS109.far ?_ NB0_168.out _) | exact HI0.out))
          (case side2 => repeat (first | (with_reducible first | exact HB.out | apply below_alloc | apply pw_below_drewN | apply below_drew1 | refine below_set ?_ (IsS109.ge HI0.out) | refine below_set ?_ GE160.out | refine below_set ?_ GE168.out) | exact HB.out))
          rintro e w24 ⟨rfl, hi, hb, hk⟩
          refine ⟨_, rfl, ?_⟩
          replace HO_3 := Aside0.mk (Kd.R_mono (Kd.R_keep (IsS109.apart (show IsS109 w0 _ g s0_0 x1001_1 x1002_1 from by repeat (first | (with_reducible first | exact HI0.out | apply IsS109.alloc | apply IsS109.drewN | apply IsS109.drew | apply IsS109.set_1 | apply IsS109.set_2 | refine IsS109.far ?_ NB0_160.out _ | refine IsS109.far ?_ NB0_168.out _) | exact HI0.out)) (Hd.r_ HO_3) (by decide)) hk (fun _ h => h.2)) (fun _ h => h.1))
          replace BK160 := Aside0.mk (KeepBut.blk hk (g' := gb160) (o := .cells #[.int .i64 ((rd_T27 x3_1 (ji9)).f0), .int .i64 ((rd_T27 x3_1 (ji9)).f1)] 27 (0, 0)) (Hd.k_ BK160) NB160_0.out (by simp))
          replace BK168 := Aside0.mk (KeepBut.blk hk (g' := gb168) (o := .cells #[.int .i64 0, .int .i64 0] 27 (0, 0)) (Hd.k_ BK168) NB168_0.out (by simp))
          replace HK := Aside0.mk (KeepBut.trans (by repeat (first | (with_reducible first | exact HK.out | apply KeepBut.set_ | apply keep_drewN | apply keep_drew | apply keep_alloc | refine keep_far ?_ GW160.out _ | refine keep_far ?_ GW168.out _) | exact HK.out)) hk (.inl rfl))
          replace HB := Aside0.mk (hb)
          replace HI0 := Aside0.mk (hi)
          (try clear hb)
          (try clear hb2)
          (try clear hk)
          (try clear hi)
          refine hK.out _ _ ⟨(blk_cell BK160.out 0).trans rfl, (blk_cell BK160.out 1).trans rfl⟩ (fun hHeld => ?_)
          clear hK K
          refine Hd.n_ (some 24) ?_
          refine Hd.o_ HT_ 5 (some 28) #[true, true, true, true, true, true, false, false, false, true, false] (fun K hK => ?_)
          refine goes_ Try.func89 (by kernel_rfl) rfl #[.pointer (some ⟨g, 0, none⟩), .int .i64 4] (by rfl) rfl rfl Hd.m_ ?_
          with_reducible refine (spec_l1Below.calls g s0_0 t162 t163 4 t164 t165 t166 w0 _ ?side1 ?side2 A13.out).mono ?_
          (case side1 => repeat (first | (with_reducible first | exact HI0.out | apply IsS109.alloc | apply IsS109.drewN | apply IsS109.drew | apply IsS109.set_1 | apply IsS109.set_2 | refine IsS109.far ?_ NB0_160.out _ | refine IsS109.far ?_ NB0_168.out _) | exact HI0.out))
          (case side2 => repeat (first | (with_reducible first | exact HB.out | apply below_alloc | apply pw_below_drewN | apply below_drew1 | refine below_set ?_ (IsS109.ge HI0.out) | refine below_set ?_ GE160.out | refine below_set ?_ GE168.out) | exact HB.out))
          rintro e w25 ⟨rfl, hi, hb, hk⟩
          refine ⟨_, rfl, ?_⟩
          replace HO_3 := Aside0.mk (Kd.R_mono (Kd.R_keep (IsS109.apart (show IsS109 w0 _ g s0_0 t162 t163 from by repeat (first | (with_reducible first | exact HI0.out | apply IsS109.alloc | apply IsS109.drewN | apply IsS109.drew | apply IsS109.set_1 | apply IsS109.set_2 | refine IsS109.far ?_ NB0_160.out _ | refine IsS109.far ?_ NB0_168.out _) | exact HI0.out)) (Hd.r_ HO_3) (by decide)) hk (fun _ h => h.2)) (fun _ h => h.1))
          replace BK160 := Aside0.mk (KeepBut.blk hk (g' := gb160) (o := .cells #[.int .i64 ((rd_T27 x3_1 (ji9)).f0), .int .i64 ((rd_T27 x3_1 (ji9)).f1)] 27 (0, 0)) (Hd.k_ BK160) NB160_0.out (by simp))
          replace BK168 := Aside0.mk (KeepBut.blk hk (g' := gb168) (o := .cells #[.int .i64 0, .int .i64 0] 27 (0, 0)) (Hd.k_ BK168) NB168_0.out (by simp))
          replace HK := Aside0.mk (KeepBut.trans (by repeat (first | (with_reducible first | exact HK.out | apply KeepBut.set_ | apply keep_drewN | apply keep_drew | apply keep_alloc | refine keep_far ?_ GW160.out _ | refine keep_far ?_ GW168.out _) | exact HK.out)) hk (.inl rfl))
          replace HB := Aside0.mk (hb)
          replace HI0 := Aside0.mk (hi)
          (try clear hb)
          (try clear hb2)
          (try clear hk)
          (try clear hi)
          refine hK.out _ _ ⟨(blk_cell BK160.out 0).trans rfl, (blk_cell BK160.out 1).trans rfl⟩ (fun hHeld => ?_)
          clear hK K
          refine Hd.n_ (some 28) ?_
          refine Hd.p_ HT_ 6 (some 29) #[true, true, true, true, true, true, true, false, false, true, false] ?_
          refine Hd.o_ HT_ 7 (some 30) #[true, true, true, true, true, true, true, true, false, true, false] (fun K hK => ?_)
          refine goes_ Try.func119 (by kernel_rfl) rfl #[.int .i64 200, .int .i64 (wrap64 (((rd_T27 x3_1 (ji9)).f1) + t164))] (by rfl) rfl rfl (by (try simp only [List.map_toArray, List.map_cons, List.map_nil]); first | done | (simp only [hji9]; rfl) | rfl | (simp only [List.length_drop, List.length_take]; rfl)) ?_
          with_reducible refine (spec_Min.calls 200 (wrap64 (((rd_T27 x3_1 (ji9)).f1) + t164)) t167 _ A14.out).mono ?_
          rintro e w' ⟨rfl, ⟨nd, rfl⟩⟩
          refine ⟨_, rfl, ?_⟩
          replace HO_3 := Aside0.mk (Kd.R_drewN HO_3.out nd)
          replace BK160 := Aside0.mk (blk_drewN BK160.out nd)
          replace HB := Aside0.mk (pw_below_drewN HB.out nd)
          generalize w22.drewN nd = w22 at HO_3 BK160 HB ⊢
          refine hK.out _ _ ⟨(blk_cell BK160.out 0).trans rfl, (blk_cell BK160.out 1).trans rfl⟩ (fun hHeld => ?_)
          clear hK K
          refine Hd.n_ (some 30) ?_
          refine Hd.p_ HT_ 8 (some 31) #[true, true, true, true, true, true, true, true, true, true, false] ?_
          exact norm_ (by simp only [putAll, Act.put, List.setIfInBounds_toArray, List.set_cons_zero, List.set_cons_succ]) (hCont (gb168) _ ⟨hHeld, (Hd.r_ HO_3), (Hd.k_ BK160), (Hd.k_ BK168), GW168.out, GE168.out, NB0_168.out, NB168_0.out, NB160_168.out, NB168_160.out, (by repeat (first | (with_reducible first | exact HI0.out | apply IsS109.alloc | apply IsS109.drewN | apply IsS109.drew | apply IsS109.set_1 | apply IsS109.set_2 | refine IsS109.far ?_ NB0_160.out _ | refine IsS109.far ?_ NB0_168.out _) | exact HI0.out)), (by repeat (first | (with_reducible first | exact HK.out | apply KeepBut.set_ | apply keep_drewN | apply keep_drew | apply keep_alloc | refine keep_far ?_ GW160.out _ | refine keep_far ?_ GW168.out _) | exact HK.out)), (by repeat (first | (with_reducible first | exact HB.out | apply below_alloc | apply pw_below_drewN | apply below_drew1 | refine below_set ?_ (IsS109.ge HI0.out) | refine below_set ?_ GE160.out | refine below_set ?_ GE168.out) | exact HB.out))⟩)
        rintro gb168 w26 ⟨hS_, h0_, h1_, h2_, h3_, h4_, h5_, h6_, h7_, h8_, h9_, h10_, h11_⟩
        have n0_ : Aside0 (Kd.R k27 27 w26 w.heap.size (fun k_ => k_ ≠ gb160 ∧ k_ ≠ gb168) (.slice (some ad159) x3_1.length co17) x3_1) := ⟨h0_⟩
        have n1_ : Aside0 (w26.heap[gb160]? = some (.cells #[.int .i64 ((rd_T27 x3_1 (ji9)).f0), .int .i64 ((rd_T27 x3_1 (ji9)).f1)] 27 (0, 0))) := ⟨h1_⟩
        have n2_ : Aside0 (w26.heap[gb168]? = some (.cells #[.int .i64 0, .int .i64 0] 27 (0, 0))) := ⟨h2_⟩
        have n3_ : Aside0 (w.heap.size ≤ gb168) := ⟨h3_⟩
        have n4_ : Aside0 (w0.heap.size ≤ gb168) := ⟨h4_⟩
        have n5_ : Aside0 (g ≠ gb168) := ⟨h5_⟩
        have n6_ : Aside0 (gb168 ≠ g) := ⟨h6_⟩
        have n7_ : Aside0 (gb160 ≠ gb168) := ⟨h7_⟩
        have n8_ : Aside0 (gb168 ≠ gb160) := ⟨h8_⟩
        have n9_ : Aside0 (IsS109 w0 w26 g s0_0 t165 t166) := ⟨h9_⟩
        have n10_ : Aside0 (KeepBut w w26 g none) := ⟨h10_⟩
        have n11_ : Aside0 (Below w0.heap.size w0 w26) := ⟨h11_⟩
        clear HO_3
        clear BK160
        clear HI0
        clear HK
        clear HB
        clear h0_ h1_ h2_ h3_ h4_ h5_ h6_ h7_ h8_ h9_ h10_ h11_
        have HO_3 := n0_
        have BK160 := n1_
        have BK168 := n2_
        have GW168 := n3_
        have GE168 := n4_
        have NB0_168 := n5_
        have NB168_0 := n6_
        have NB160_168 := n7_
        have NB168_160 := n8_
        have HI0 := n9_
        have HK := n10_
        have HB := n11_
        clear n0_ n1_ n2_ n3_ n4_ n5_ n6_ n7_ n8_ n9_ n10_ n11_
        have hHeld : w26.cell? ⟨gb160, 0, none⟩ = some (.int .i64 ((rd_T27 x3_1 (ji9)).f0)) ∧ w26.cell? ⟨gb160, 1, none⟩ = some (.int .i64 ((rd_T27 x3_1 (ji9)).f1)) := hS_
        refine norm_ (a' := ?_) ?_ ?_
        rotate_left
        ·
         simp only [putAll, Act.put, List.setIfInBounds_toArray, List.set_cons_zero, List.set_cons_succ]
         rfl
        refine Hd.o_ HT_ 10 (none) #[true, true, true, true, true, true, true, true, true, true, true] (fun K hK => ?_)
        have hs27 : w26.cell? ⟨gb168, 0, none⟩ = some (.int .i64 0) := (blk_cell BK168.out 0).trans rfl
        have hfs27 := blk_frozen BK168.out 0
        have hns27_0 := NB160_168.out
        have hms27_0 := NB168_160.out
        have hs28 : w26.cell? ⟨gb168, 1, none⟩ = some (.int .i64 0) := (blk_cell BK168.out 1).trans rfl
        have hfs28 := blk_frozen BK168.out 1
        have hns28_0 := NB160_168.out
        have hms28_0 := NB168_160.out
        refine skip_ (w1 := ?_) (by rfl) rfl ?_ ?_
        rotate_left
        ·
         go_simp
         rfl
        refine hK.out _ _ ⟨((cell_far (p := ⟨gb168, _, none⟩) NB160_168.out _).trans (((cell_far (p := ⟨gb168, _, none⟩) NB160_168.out _).trans (hHeld.1)))), ((cell_far (p := ⟨gb168, _, none⟩) NB160_168.out _).trans (((cell_far (p := ⟨gb168, _, none⟩) NB160_168.out _).trans (hHeld.2))))⟩ (fun hHeld => ?_)
        clear hK K
        refine done_ (done_of HT_.out (by kernel_rfl)) ?_
        have hnb29 := NB168_160.out
        have hnc29 := NB160_168.out
        have hnb30 := NB168_0.out
        have hnc30 := NB0_168.out
        obtain ⟨hcz31_0, hcz31_1⟩ := Hd.c2_ BK168.out
        obtain ⟨hfz31_0, hfz31_1⟩ := Hd.f2_ BK168.out
        obtain ⟨hcz32_0, hcz32_1⟩ := Hd.c2_ BK160.out
        obtain ⟨hfz32_0, hfz32_1⟩ := Hd.f2_ BK160.out
        try go_wp2_with (first | ((with_reducible refine gate_builtin (b := .append) (xs := #[.tmp 39, .tmp 41]) rfl ?_); at_builtin; refine Kd.R_append k27 w.heap.size rfl (.tmp 39) (.tmp 41) 24 27 (.agg #[(.int .i64 0), (.int .i64 0)]) 16 rfl Try.underlying24 info27 rfl (by decide) (by omega) (.slice (some ad159) x3_1.length co17) x3_1 (⟨wrap64 (t161 + 1), t167⟩ : S27) [.int .i64 (wrap64 (t161 + 1)), .int .i64 t167] (fun k_ => k_ ≠ gb160 ∧ k_ ≠ gb168) (fun _ => False) rfl (by first | (go_simp; done) | (go_simp; rfl)) ?aP (fun _ hk => hk.elim) ?aF ?aO (Below.refl _ _) ?aS ?aL ?_; (case aP => exact k27_mkM _ _ _ (⟨wrap64 (t161 + 1), t167⟩ : S27)); (case aF => exact (fun k_ hk => ⟨Kd.freshB (g := gb160) (o := .cells #[.int .i64 ((rd_T27 x3_1 (ji9)).f0), .int .i64 ((rd_T27 x3_1 (ji9)).f1)] 27 (0, 0)) (by (with_reducible repeat (first | refine blk_drewN ?_ _ | refine blk_drew ?_ | refine blk_alloc ?_ _)); refine blk_far ?_ NB160_168.out _; (with_reducible repeat (first | refine blk_drewN ?_ _ | refine blk_drew ?_ | refine blk_alloc ?_ _)); refine blk_far ?_ NB160_168.out _; (with_reducible repeat (first | refine blk_drewN ?_ _ | refine blk_drew ?_ | refine blk_alloc ?_ _)); refine blk_far ?_ NB160_168.out _; (with_reducible repeat (first | refine blk_drewN ?_ _ | refine blk_drew ?_ | refine blk_alloc ?_ _)); exact BK160.out) k_ hk, Kd.freshB (g := gb168) (o := .cells #[.int .i64 (wrap64 (t161 + 1)), .int .i64 t167] 27 (0, 0)) (by (with_reducible repeat (first | refine blk_drewN ?_ _ | refine blk_drew ?_ | refine blk_alloc ?_ _)); refine blk_put (cs := #[.int .i64 t161, .int .i64 t167]) ?_ 0 _ rfl; (with_reducible repeat (first | refine blk_drewN ?_ _ | refine blk_drew ?_ | refine blk_alloc ?_ _)); refine blk_put (cs := #[.int .i64 t161, .int .i64 0]) ?_ 1 _ rfl; (with_reducible repeat (first | refine blk_drewN ?_ _ | refine blk_drew ?_ | refine blk_alloc ?_ _)); refine blk_put (cs := #[.int .i64 0, .int .i64 0]) ?_ 0 _ rfl; (with_reducible repeat (first | refine blk_drewN ?_ _ | refine blk_drew ?_ | refine blk_alloc ?_ _)); exact BK168.out) k_ hk⟩)); (case aO => exact (by (with_reducible repeat (first | apply Kd.R_alloc | apply Kd.R_drewN | apply Kd.R_drew)); exact Kd.R_mono (Kd.R_far (p := ⟨gb168, 0, none⟩) (Kd.R_far (p := ⟨gb168, 1, none⟩) (Kd.R_far (p := ⟨gb168, 0, none⟩) (Kd.R_mono HO_3.out (fun k_ hk => (⟨hk, hk.2⟩ : _ ∧ k_ ≠ gb168))) (fun _ hk => hk.2) (.int .i64 t161)) (fun _ hk => hk.2) (.int .i64 t167)) (fun _ hk => hk.2) (.int .i64 (wrap64 (t161 + 1)))) (fun _ hk => ⟨hk.1.1, hk.1.2⟩))); (case aS => exact (keep_size (w := w) (g := g) (row := none) (by repeat (first | (with_reducible first | exact HK.out | apply KeepBut.set_ | apply keep_drewN | apply keep_drew | apply keep_alloc | refine keep_far ?_ GW160.out _ | refine keep_far ?_ GW168.out _) | exact HK.out)))); (case aL => have := LMc16.out; omega); intro v170 w33 ho hb hg hat; rw [← Ny169.out] at ho; have n0_ := Aside0.mk (IsS109.grown (Hd.as_ (fun W_ => IsS109 _ W_ _ _ _ _) HI0.out (by repeat (first | (with_reducible first | exact HI0.out | apply IsS109.alloc | apply IsS109.drewN | apply IsS109.drew | apply IsS109.set_1 | apply IsS109.set_2 | refine IsS109.far ?_ NB0_160.out _ | refine IsS109.far ?_ NB0_168.out _) | exact HI0.out))) hg (IsS109.own_ne HI0.out HO_3.out (by decide))); have n1_ := Aside0.mk (blk_grown (g := gb160) (o := .cells #[.int .i64 ((rd_T27 x3_1 (ji9)).f0), .int .i64 ((rd_T27 x3_1 (ji9)).f1)] 27 (0, 0)) (by (with_reducible repeat (first | refine blk_drewN ?_ _ | refine blk_drew ?_ | refine blk_alloc ?_ _)); refine blk_far ?_ NB160_168.out _; (with_reducible repeat (first | refine blk_drewN ?_ _ | refine blk_drew ?_ | refine blk_alloc ?_ _)); refine blk_far ?_ NB160_168.out _; (with_reducible repeat (first | refine blk_drewN ?_ _ | refine blk_drew ?_ | refine blk_alloc ?_ _)); refine blk_far ?_ NB160_168.out _; (with_reducible repeat (first | refine blk_drewN ?_ _ | refine blk_drew ?_ | refine blk_alloc ?_ _)); exact BK160.out) hg (Kd.R_away HO_3.out (fun _ hk => hk.1))); have n2_ := Aside0.mk (blk_grown (g := gb168) (o := .cells #[.int .i64 (wrap64 (t161 + 1)), .int .i64 t167] 27 (0, 0)) (by (with_reducible repeat (first | refine blk_drewN ?_ _ | refine blk_drew ?_ | refine blk_alloc ?_ _)); refine blk_put (cs := #[.int .i64 t161, .int .i64 t167]) ?_ 0 _ rfl; (with_reducible repeat (first | refine blk_drewN ?_ _ | refine blk_drew ?_ | refine blk_alloc ?_ _)); refine blk_put (cs := #[.int .i64 t161, .int .i64 0]) ?_ 1 _ rfl; (with_reducible repeat (first | refine blk_drewN ?_ _ | refine blk_drew ?_ | refine blk_alloc ?_ _)); refine blk_put (cs := #[.int .i64 0, .int .i64 0]) ?_ 0 _ rfl; (with_reducible repeat (first | refine blk_drewN ?_ _ | refine blk_drew ?_ | refine blk_alloc ?_ _)); exact BK168.out) hg (Kd.R_away HO_3.out (fun _ hk => hk.2))); have n3_ := Aside0.mk (below_weaken (by repeat (first | (with_reducible first | exact HB.out | apply below_alloc | apply pw_below_drewN | apply below_drew1 | refine below_set ?_ (IsS109.ge HI0.out) | refine below_set ?_ GE160.out | refine below_set ?_ GE168.out) | exact HB.out)) HL.out hb); have n4_ := Aside0.mk (KeepBut.trans (by repeat (first | (with_reducible first | exact HK.out | apply KeepBut.set_ | apply keep_drewN | apply keep_drew | apply keep_alloc | refine keep_far ?_ GW160.out _ | refine keep_far ?_ GW168.out _) | exact HK.out)) (KeepBut.of_grown hg g) (Kd.R_base2 HO_3.out)); have n5_ := Aside0.mk (ho); clear HI0; clear BK160; clear BK168; clear HB; clear HK; clear HO_3; have HI0 := n0_; have BK160 := n1_; have BK168 := n2_; have HB := n3_; have HK := n4_; have HO171 := n5_; clear n0_ n1_ n2_ n3_ n4_ n5_; clear ho hb hg hat))
        go_roundg k1
        case measure => have := HK1.out; omega
        case rel => exact ⟨(y169), (wrap64 (x4_1 - 1)), (t165), (t166), (by first | rfl | (simp; done) | (simp [*]; done)), H', ⟨by have := HK1.out; omega⟩, ⟨by (with_reducible repeat (first | apply Kd.R_alloc | apply Kd.R_drewN | apply Kd.R_drew)); exact Kd.R_mono HO171.out (fun _ hk => trivial)⟩, ⟨by repeat (first | (with_reducible first | exact HI0.out | apply IsS109.alloc | apply IsS109.drewN | apply IsS109.drew | apply IsS109.set_1 | apply IsS109.set_2 | refine IsS109.far ?_ NB0_160.out _ | refine IsS109.far ?_ NB0_168.out _) | exact HI0.out)⟩, ⟨by repeat (first | (with_reducible first | exact HK.out | apply KeepBut.set_ | apply keep_drewN | apply keep_drew | apply keep_alloc | refine keep_far ?_ GW160.out _ | refine keep_far ?_ GW168.out _) | exact HK.out)⟩, ⟨by repeat (first | (with_reducible first | exact HB.out | apply below_alloc | apply pw_below_drewN | apply below_drew1 | refine below_set ?_ (IsS109.ge HI0.out) | refine below_set ?_ GE160.out | refine below_set ?_ GE168.out) | exact HB.out)⟩⟩
       ·
        rw [if_neg c16] at H
        exact absurd H (by simp)
      ·
       rw [if_neg c15] at H
       have c15b0 : (t161 == ((rd_T27 x3_1 (ji9)).f0) && (t167 == ((rd_T27 x3_1 (ji9)).f1))) = false := by simpa using c15
       (try (have c15b1 : decide (t161 = ((rd_T27 x3_1 (ji9)).f0) && (t167 == ((rd_T27 x3_1 (ji9)).f1))) = false := by simpa using c15))
       (try (have c15b2 : (t161 == ((rd_T27 x3_1 (ji9)).f0) && (t167 == ((rd_T27 x3_1 (ji9)).f1))) = false := by simpa using c15))
       (try (have c15b3 : ¬ (t161 = ((rd_T27 x3_1 (ji9)).f0) && (t167 == ((rd_T27 x3_1 (ji9)).f1))) := by simpa using c15))
       clear c15
       by_cases c34 : x3_1.length < 8796093022208
       ·
        rw [if_pos c34] at H
        have LMc34 := Aside0.mk c34
        clear c34
        obtain ⟨y172, hy172⟩ : ∃ y_ : List (S27), y_ = (x3_1 ++ [(⟨t161, t167⟩ : S27)]) := ⟨_, rfl⟩
        replace H : (spec_l6Draw.l0 k1 y172 (wrap64 (x4_1 - 1)) s0_0 t165 t166) = some (r1, r2, r3) := by first | (rw [hy172]; with_reducible exact H) | (have H2_ := (Option.bind_some _ _).symm.trans H; rw [hy172]; with_reducible exact H2_) | (have H2_ := (Option.bind_some _ _).symm.trans H; with_reducible exact H2_) | with_reducible exact H | (rw [hy172]; exact H) | exact H
        have Ny172 := Aside0.mk hy172
        clear hy172
        have H' := Aside0.mk H
        clear H
        obtain ⟨Ao35, co35, eo35⟩ := Kd.R_slice HO_3.out
        subst eo35
        have p159 : 0 ≤ ((ji9) : Int) := of_decide_eq_true Hd.a_
        have q159 : (ji9) < (x3_1.length : Int) := of_decide_eq_true Hd.a_
        obtain ⟨ad159, e159, hx159_0, hx159_1⟩ := at_T27 (Kd.R_reads' HO_3.out).2.2 (ji9) p159 q159
        cases e159
        replace p159 := eq_true p159
        replace q159 := eq_true q159
        try go_wp2_with (first | ((with_reducible refine gate_dst (N := 5) rfl ?_); refine Hd.box_ 5 (#[.int .i64 0, .int .i64 0]) 27 ?_; intro gb160 hg w36 hbox hb; replace HO_3 := Aside0.mk (Kd.R_below (Kd.R_elderB (Hd.r_ HO_3) gb160 (Nat.le_of_eq hg.symm)) hb); replace HB := Aside0.mk (below_step (by repeat (first | (with_reducible first | exact HB.out | apply below_alloc | apply pw_below_drewN | apply below_drew1 | refine below_set ?_ (IsS109.ge HI0.out)) | exact HB.out)) hb); have BK160 := Aside0.mk (hbox); have GW160 := Aside0.mk ((by rw [hg]; exact (keep_size (w := w) (g := g) (row := none) (by repeat (first | (with_reducible first | exact HK.out | apply KeepBut.set_ | apply keep_drewN | apply keep_drew | apply keep_alloc) | exact HK.out))) : w.heap.size ≤ gb160)); have GE160 := Aside0.mk ((Nat.le_trans HW0.out (by rw [hg]; exact (keep_size (w := w) (g := g) (row := none) (by repeat (first | (with_reducible first | exact HK.out | apply KeepBut.set_ | apply keep_drewN | apply keep_drew | apply keep_alloc) | exact HK.out))) : w.heap.size ≤ gb160) : w0.heap.size ≤ gb160)); replace HK := Aside0.mk (KeepBut.trans (by repeat (first | (with_reducible first | exact HK.out | apply KeepBut.set_ | apply keep_drewN | apply keep_drew | apply keep_alloc) | exact HK.out)) (KeepBut.of_below hb g none) (.inl rfl)); have NB0_160 := Aside0.mk ((by rw [hg]; exact Nat.ne_of_lt (IsS109.lt (show IsS109 w0 _ g s0_0 x1001_1 x1002_1 from by repeat (first | (with_reducible first | exact HI0.out | apply IsS109.alloc | apply IsS109.drewN | apply IsS109.drew | apply IsS109.set_1 | apply IsS109.set_2) | exact HI0.out))) : g ≠ gb160)); have NB160_0 := Aside0.mk ((by rw [hg]; exact Nat.ne_of_gt (IsS109.lt (show IsS109 w0 _ g s0_0 x1001_1 x1002_1 from by repeat (first | (with_reducible first | exact HI0.out | apply IsS109.alloc | apply IsS109.drewN | apply IsS109.drew | apply IsS109.set_1 | apply IsS109.set_2) | exact HI0.out))) : gb160 ≠ g)); replace HI0 := Aside0.mk (IsS109.below (by repeat (first | (with_reducible first | exact HI0.out | apply IsS109.alloc | apply IsS109.drewN | apply IsS109.drew | apply IsS109.set_1 | apply IsS109.set_2) | exact HI0.out)) hb); clear hb hbox hg; have hnb37 := NB160_0.out; have hnc37 := NB0_160.out; obtain ⟨hcz38_0, hcz38_1⟩ := Hd.c2_ BK160.out; obtain ⟨hfz38_0, hfz38_1⟩ := Hd.f2_ BK160.out))
        have n0_ : Aside0 (Kd.R k27 27 ((w36.setCell ⟨gb160, 0, none⟩ (.int .i64 ((rd_T27 x3_1 (ji9)).f0))).setCell ⟨gb160, 1, none⟩ (.int .i64 ((rd_T27 x3_1 (ji9)).f1))) w.heap.size (fun k_ => k_ ≠ gb160) (.slice (some ad159) x3_1.length co35) x3_1) := ⟨by (with_reducible repeat (first | apply Kd.R_alloc | apply Kd.R_drewN | apply Kd.R_drew)); exact Kd.R_mono (Kd.R_far (p := ⟨gb160, 1, none⟩) (Kd.R_far (p := ⟨gb160, 0, none⟩) (Kd.R_mono HO_3.out (fun k_ hk => (⟨hk, hk.2⟩ : _ ∧ k_ ≠ gb160))) (fun _ hk => hk.2) (.int .i64 ((rd_T27 x3_1 (ji9)).f0))) (fun _ hk => hk.2) (.int .i64 ((rd_T27 x3_1 (ji9)).f1))) (fun _ hk => hk.1.2)⟩
        have n1_ : Aside0 (((w36.setCell ⟨gb160, 0, none⟩ (.int .i64 ((rd_T27 x3_1 (ji9)).f0))).setCell ⟨gb160, 1, none⟩ (.int .i64 ((rd_T27 x3_1 (ji9)).f1))).heap[gb160]? = some (.cells #[.int .i64 ((rd_T27 x3_1 (ji9)).f0), .int .i64 ((rd_T27 x3_1 (ji9)).f1)] 27 (0, 0))) := ⟨by (with_reducible repeat (first | refine blk_drewN ?_ _ | refine blk_drew ?_ | refine blk_alloc ?_ _)); refine blk_put (cs := #[.int .i64 ((rd_T27 x3_1 (ji9)).f0), .int .i64 0]) ?_ 1 _ rfl; (with_reducible repeat (first | refine blk_drewN ?_ _ | refine blk_drew ?_ | refine blk_alloc ?_ _)); refine blk_put (cs := #[.int .i64 0, .int .i64 0]) ?_ 0 _ rfl; (with_reducible repeat (first | refine blk_drewN ?_ _ | refine blk_drew ?_ | refine blk_alloc ?_ _)); exact BK160.out⟩
        have n2_ : Aside0 (IsS109 w0 ((w36.setCell ⟨gb160, 0, none⟩ (.int .i64 ((rd_T27 x3_1 (ji9)).f0))).setCell ⟨gb160, 1, none⟩ (.int .i64 ((rd_T27 x3_1 (ji9)).f1))) g s0_0 x1001_1 x1002_1) := ⟨by repeat (first | (with_reducible first | exact HI0.out | apply IsS109.alloc | apply IsS109.drewN | apply IsS109.drew | apply IsS109.set_1 | apply IsS109.set_2 | refine IsS109.far ?_ NB0_160.out _) | exact HI0.out)⟩
        have n3_ : Aside0 (KeepBut w ((w36.setCell ⟨gb160, 0, none⟩ (.int .i64 ((rd_T27 x3_1 (ji9)).f0))).setCell ⟨gb160, 1, none⟩ (.int .i64 ((rd_T27 x3_1 (ji9)).f1))) g none) := ⟨by repeat (first | (with_reducible first | exact HK.out | apply KeepBut.set_ | apply keep_drewN | apply keep_drew | apply keep_alloc | refine keep_far ?_ GW160.out _) | exact HK.out)⟩
        have n4_ : Aside0 (Below w0.heap.size w0 ((w36.setCell ⟨gb160, 0, none⟩ (.int .i64 ((rd_T27 x3_1 (ji9)).f0))).setCell ⟨gb160, 1, none⟩ (.int .i64 ((rd_T27 x3_1 (ji9)).f1)))) := ⟨by repeat (first | (with_reducible first | exact HB.out | apply below_alloc | apply pw_below_drewN | apply below_drew1 | refine below_set ?_ (IsS109.ge HI0.out) | refine below_set ?_ GE160.out) | exact HB.out)⟩
        (try clear HO_3)
        (try clear BK160)
        (try clear HI0)
        (try clear HK)
        (try clear HB)
        generalize ((w36.setCell ⟨gb160, 0, none⟩ (.int .i64 ((rd_T27 x3_1 (ji9)).f0))).setCell ⟨gb160, 1, none⟩ (.int .i64 ((rd_T27 x3_1 (ji9)).f1))) = w39 at n0_ n1_ n2_ n3_ n4_ ⊢
        have HO_3 := n0_
        have BK160 := n1_
        have HI0 := n2_
        have HK := n3_
        have HB := n4_
        clear n0_ n1_ n2_ n3_ n4_
        replace HO_3 := Aside0.mk (Kd.R_drew HO_3.out)
        replace BK160 := Aside0.mk (blk_drew BK160.out)
        replace HI0 := Aside0.mk (IsS109.drew HI0.out)
        replace HK := Aside0.mk (keep_drew HK.out)
        replace HB := Aside0.mk (below_drew1 HB.out)
        refine start_ (n := 11) (S := fun w' => w'.cell? ⟨gb160, 0, none⟩ = some (.int .i64 ((rd_T27 x3_1 (ji9)).f0)) ∧ w'.cell? ⟨gb160, 1, none⟩ = some (.int .i64 ((rd_T27 x3_1 (ji9)).f1))) (ds := []) #[false, false, false, false, false, false, false, false, false, false, false] (by kernel_rfl) rfl rfl ⟨(blk_cell BK160.out 0).trans rfl, (blk_cell BK160.out 1).trans rfl⟩ (fun hHeld => ?_); refine with_tabW spec_l6Draw.tab6 spec_l6Draw.bits6 (fun HT_ HW_ => ?_)
        generalize w39.drew = w40 at HO_3 BK160 HI0 HK HB hHeld ⊢
        refine Hd.p_ HT_ 0 (some 23) #[true, false, false, false, false, false, false, false, false, false, false] ?_
        refine Hd.p_ HT_ 2 (some 25) #[true, false, true, false, false, false, false, false, false, false, false] ?_
        refine Hd.p_ HT_ 4 (some 27) #[true, false, true, false, true, false, false, false, false, false, false] ?_
        refine Hd.t_ HT_ HW_ hHeld 3 (some 26) #[true, false, true, true, true, false, false, false, false, false, false] ?_
        refine join_ (σ := Nat) 1 #[true, true, true, true, true, true, true, true, true, true, false] (fun s_ => [(24, .int .i64 t161), (28, .int .i64 t164), (30, .int .i64 t167), (6, .pointer (some ⟨s_, 0, none⟩)), (29, .int .i64 (wrap64 (((rd_T27 x3_1 (ji9)).f1) + t164))), (31, .agg #[.int .i64 t161, .int .i64 t167])]) (fun s_ w' => (w'.cell? ⟨gb160, 0, none⟩ = some (.int .i64 ((rd_T27 x3_1 (ji9)).f0)) ∧ w'.cell? ⟨gb160, 1, none⟩ = some (.int .i64 ((rd_T27 x3_1 (ji9)).f1))) ∧ (Kd.R k27 27 w' w.heap.size (fun k_ => k_ ≠ gb160 ∧ k_ ≠ s_) (.slice (some ad159) x3_1.length co35) x3_1) ∧ (w'.heap[gb160]? = some (.cells #[.int .i64 ((rd_T27 x3_1 (ji9)).f0), .int .i64 ((rd_T27 x3_1 (ji9)).f1)] 27 (0, 0))) ∧ (w'.heap[s_]? = some (.cells #[.int .i64 0, .int .i64 0] 27 (0, 0))) ∧ (w.heap.size ≤ s_) ∧ (w0.heap.size ≤ s_) ∧ (g ≠ s_) ∧ (s_ ≠ g) ∧ (gb160 ≠ s_) ∧ (s_ ≠ gb160) ∧ (IsS109 w0 w' g s0_0 t165 t166) ∧ (KeepBut w w' g none) ∧ (Below w0.heap.size w0 w')) ?_ ?_
        rotate_left
        ·
         intro hCont
         refine two_ (i := 1) (j := 9) (Ni := some 24) (Nj := some 6) #[true, true, true, true, true, false, false, false, false, false, false] #[true, false, true, true, true, false, false, false, false, true, false] rfl rfl rfl rfl (two_of HT_.out (by kernel_rfl)) (by decide) (by decide) (fun K hK => ?_) (fun K hK => ?_)
         ·
          skip
          refine goes_ Try.func89 (by kernel_rfl) rfl #[.pointer (some ⟨g, 0, none⟩), .int .i64 14] (by rfl) rfl rfl Hd.m_ ?_
          with_reducible refine (spec_l1Below.calls g s0_0 x1001_1 x1002_1 14 t161 t162 t163 w0 _ ?side1 ?side2 A12.out).mono ?_
          (case side1 => repeat (first | (with_reducible first | exact HI0.out | apply IsS109.alloc | apply IsS109.drewN | apply IsS109.drew | apply IsS109.set_1 | apply IsS109.set_2 | refine IsS109.far ?_ NB0_160.out _) | exact HI0.out))
          (case side2 => repeat (first | (with_reducible first | exact HB.out | apply below_alloc | apply pw_below_drewN | apply below_drew1 | refine below_set ?_ (IsS109.ge HI0.out) | refine below_set ?_ GE160.out) | exact HB.out))
          rintro e w41 ⟨rfl, hi, hb, hk⟩
          refine ⟨_, rfl, ?_⟩
          replace HO_3 := Aside0.mk (Kd.R_mono (Kd.R_keep (IsS109.apart (show IsS109 w0 _ g s0_0 x1001_1 x1002_1 from by repeat (first | (with_reducible first | exact HI0.out | apply IsS109.alloc | apply IsS109.drewN | apply IsS109.drew | apply IsS109.set_1 | apply IsS109.set_2 | refine IsS109.far ?_ NB0_160.out _) | exact HI0.out)) (Hd.r_ HO_3) (by decide)) hk (fun _ h => h.2)) (fun _ h => h.1))
          replace BK160 := Aside0.mk (KeepBut.blk hk (g' := gb160) (o := .cells #[.int .i64 ((rd_T27 x3_1 (ji9)).f0), .int .i64 ((rd_T27 x3_1 (ji9)).f1)] 27 (0, 0)) (Hd.k_ BK160) NB160_0.out (by simp))
          replace HK := Aside0.mk (KeepBut.trans (by repeat (first | (with_reducible first | exact HK.out | apply KeepBut.set_ | apply keep_drewN | apply keep_drew | apply keep_alloc | refine keep_far ?_ GW160.out _) | exact HK.out)) hk (.inl rfl))
          replace HB := Aside0.mk (hb)
          replace HI0 := Aside0.mk (hi)
          (try clear hb)
          (try clear hb2)
          (try clear hk)
          (try clear hi)
          refine hK.out _ _ ⟨(blk_cell BK160.out 0).trans rfl, (blk_cell BK160.out 1).trans rfl⟩ (fun hHeld => ?_)
          clear hK K
          refine Hd.n_ (some 24) ?_
          refine two_ (i := 5) (j := 9) (Ni := some 28) (Nj := some 6) #[true, true, true, true, true, true, false, false, false, false, false] #[true, true, true, true, true, false, false, false, false, true, false] rfl rfl rfl rfl (two_of HT_.out (by kernel_rfl)) (by decide) (by decide) (fun K hK => ?_) (fun K hK => ?_)
          ·
           skip
           refine goes_ Try.func89 (by kernel_rfl) rfl #[.pointer (some ⟨g, 0, none⟩), .int .i64 4] (by rfl) rfl rfl Hd.m_ ?_
           with_reducible refine (spec_l1Below.calls g s0_0 t162 t163 4 t164 t165 t166 w0 _ ?side1 ?side2 A13.out).mono ?_
           (case side1 => repeat (first | (with_reducible first | exact HI0.out | apply IsS109.alloc | apply IsS109.drewN | apply IsS109.drew | apply IsS109.set_1 | apply IsS109.set_2 | refine IsS109.far ?_ NB0_160.out _) | exact HI0.out))
           (case side2 => repeat (first | (with_reducible first | exact HB.out | apply below_alloc | apply pw_below_drewN | apply below_drew1 | refine below_set ?_ (IsS109.ge HI0.out) | refine below_set ?_ GE160.out) | exact HB.out))
           rintro e w42 ⟨rfl, hi, hb, hk⟩
           refine ⟨_, rfl, ?_⟩
           replace HO_3 := Aside0.mk (Kd.R_mono (Kd.R_keep (IsS109.apart (show IsS109 w0 _ g s0_0 t162 t163 from by repeat (first | (with_reducible first | exact HI0.out | apply IsS109.alloc | apply IsS109.drewN | apply IsS109.drew | apply IsS109.set_1 | apply IsS109.set_2 | refine IsS109.far ?_ NB0_160.out _) | exact HI0.out)) (Hd.r_ HO_3) (by decide)) hk (fun _ h => h.2)) (fun _ h => h.1))
           replace BK160 := Aside0.mk (KeepBut.blk hk (g' := gb160) (o := .cells #[.int .i64 ((rd_T27 x3_1 (ji9)).f0), .int .i64 ((rd_T27 x3_1 (ji9)).f1)] 27 (0, 0)) (Hd.k_ BK160) NB160_0.out (by simp))
           replace HK := Aside0.mk (KeepBut.trans (by repeat (first | (with_reducible first | exact HK.out | apply KeepBut.set_ | apply keep_drewN | apply keep_drew | apply keep_alloc | refine keep_far ?_ GW160.out _) | exact HK.out)) hk (.inl rfl))
           replace HB := Aside0.mk (hb)
           replace HI0 := Aside0.mk (hi)
           (try clear hb)
           (try clear hb2)
           (try clear hk)
           (try clear hi)
           refine hK.out _ _ ⟨(blk_cell BK160.out 0).trans rfl, (blk_cell BK160.out 1).trans rfl⟩ (fun hHeld => ?_)
           clear hK K
           refine Hd.n_ (some 28) ?_
           refine Hd.p_ HT_ 6 (some 29) #[true, true, true, true, true, true, true, false, false, false, false] ?_
           refine two_ (i := 7) (j := 9) (Ni := some 30) (Nj := some 6) #[true, true, true, true, true, true, true, true, false, false, false] #[true, true, true, true, true, true, true, false, false, true, false] rfl rfl rfl rfl (two_of HT_.out (by kernel_rfl)) (by decide) (by decide) (fun K hK => ?_) (fun K hK => ?_)
           ·
            skip
            refine goes_ Try.func119 (by kernel_rfl) rfl #[.int .i64 200, .int .i64 (wrap64 (((rd_T27 x3_1 (ji9)).f1) + t164))] (by rfl) rfl rfl (by (try simp only [List.map_toArray, List.map_cons, List.map_nil]); first | done | (simp only [hji9]; rfl) | rfl | (simp only [List.length_drop, List.length_take]; rfl)) ?_
            with_reducible refine (spec_Min.calls 200 (wrap64 (((rd_T27 x3_1 (ji9)).f1) + t164)) t167 _ A14.out).mono ?_
            rintro e w' ⟨rfl, ⟨nd, rfl⟩⟩
            refine ⟨_, rfl, ?_⟩
            replace HO_3 := Aside0.mk (Kd.R_drewN HO_3.out nd)
            replace BK160 := Aside0.mk (blk_drewN BK160.out nd)
            replace HB := Aside0.mk (pw_below_drewN HB.out nd)
            generalize w40.drewN nd = w40 at HO_3 BK160 HB ⊢
            refine hK.out _ _ ⟨(blk_cell BK160.out 0).trans rfl, (blk_cell BK160.out 1).trans rfl⟩ (fun hHeld => ?_)
            clear hK K
            refine Hd.n_ (some 30) ?_
            refine Hd.p_ HT_ 8 (some 31) #[true, true, true, true, true, true, true, true, true, false, false] ?_
            refine Hd.o_ HT_ 9 (some 6) #[true, true, true, true, true, true, true, true, true, true, false] (fun K hK => ?_)
            refine box_step ?hg (N := 6) ?hd (cs := #[.int .i64 0, .int .i64 0]) (t := 27) ?hr ?_; (case hd => rfl); (case hg => rfl); (case hr => first | (go_simp; done) | (go_simp; rfl))
            intro gb168 hg w43 hbox hb
            replace HO_3 := Aside0.mk (Kd.R_below (Kd.R_elderB (Hd.r_ HO_3) gb168 (Nat.le_of_eq hg.symm)) hb)
            replace HB := Aside0.mk (below_step (by repeat (first | (with_reducible first | exact HB.out | apply below_alloc | apply pw_below_drewN | apply below_drew1 | refine below_set ?_ (IsS109.ge HI0.out) | refine below_set ?_ GE160.out) | exact HB.out)) hb)
            have BK168 := Aside0.mk (hbox)
            have GW168 := Aside0.mk ((by rw [hg]; exact (keep_size (w := w) (g := g) (row := none) (by repeat (first | (with_reducible first | exact HK.out | apply KeepBut.set_ | apply keep_drewN | apply keep_drew | apply keep_alloc | refine keep_far ?_ GW160.out _) | exact HK.out))) : w.heap.size ≤ gb168))
            have GE168 := Aside0.mk ((Nat.le_trans HW0.out (by rw [hg]; exact (keep_size (w := w) (g := g) (row := none) (by repeat (first | (with_reducible first | exact HK.out | apply KeepBut.set_ | apply keep_drewN | apply keep_drew | apply keep_alloc | refine keep_far ?_ GW160.out _) | exact HK.out))) : w.heap.size ≤ gb168) : w0.heap.size ≤ gb168))
            replace HK := Aside0.mk (KeepBut.trans (by repeat (first | (with_reducible first | exact HK.out | apply KeepBut.set_ | apply keep_drewN | apply keep_drew | apply keep_alloc | refine keep_far ?_ GW160.out _) | exact HK.out)) (KeepBut.of_below hb g none) (.inl rfl))
            have NB160_168 := Aside0.mk ((Hd.lt_ BK160 hg))
            have NB168_160 := Aside0.mk ((Hd.gt_ BK160 hg))
            replace BK160 := Aside0.mk (Hd.kb_ BK160 hb)
            have NB0_168 := Aside0.mk ((by rw [hg]; exact Nat.ne_of_lt (IsS109.lt (show IsS109 w0 _ g s0_0 t165 t166 from by repeat (first | (with_reducible first | exact HI0.out | apply IsS109.alloc | apply IsS109.drewN | apply IsS109.drew | apply IsS109.set_1 | apply IsS109.set_2 | refine IsS109.far ?_ NB0_160.out _) | exact HI0.out))) : g ≠ gb168))
            have NB168_0 := Aside0.mk ((by rw [hg]; exact Nat.ne_of_gt (IsS109.lt (show IsS109 w0 _ g s0_0 t165 t166 from by repeat (first | (with_reducible first | exact HI0.out | apply IsS109.alloc | apply IsS109.drewN | apply IsS109.drew | apply IsS109.set_1 | apply IsS109.set_2 | refine IsS109.far ?_ NB0_160.out _) | exact HI0.out))) : gb168 ≠ g))
            replace HI0 := Aside0.mk (IsS109.below (by repeat (first | (with_reducible first | exact HI0.out | apply IsS109.alloc | apply IsS109.drewN | apply IsS109.drew | apply IsS109.set_1 | apply IsS109.set_2 | refine IsS109.far ?_ NB0_160.out _) | exact HI0.out)) hb)
            clear hb hbox hg
            refine hK.out _ _ ⟨(blk_cell BK160.out 0).trans rfl, (blk_cell BK160.out 1).trans rfl⟩ (fun hHeld => ?_)
            clear hK K
            refine Hd.n_ (some 6) ?_
            exact norm_ (by simp only [putAll, Act.put, List.setIfInBounds_toArray, List.set_cons_zero, List.set_cons_succ]) (hCont (gb168) _ ⟨hHeld, (Hd.r_ HO_3), (Hd.k_ BK160), (Hd.k_ BK168), GW168.out, GE168.out, NB0_168.out, NB168_0.out, NB160_168.out, NB168_160.out, (by repeat (first | (with_reducible first | exact HI0.out | apply IsS109.alloc | apply IsS109.drewN | apply IsS109.drew | apply IsS109.set_1 | apply IsS109.set_2 | refine IsS109.far ?_ NB0_160.out _ | refine IsS109.far ?_ NB0_168.out _) | exact HI0.out)), (by repeat (first | (with_reducible first | exact HK.out | apply KeepBut.set_ | apply keep_drewN | apply keep_drew | apply keep_alloc | refine keep_far ?_ GW160.out _ | refine keep_far ?_ GW168.out _) | exact HK.out)), (by repeat (first | (with_reducible first | exact HB.out | apply below_alloc | apply pw_below_drewN | apply below_drew1 | refine below_set ?_ (IsS109.ge HI0.out) | refine below_set ?_ GE160.out | refine below_set ?_ GE168.out) | exact HB.out))⟩)
           ·
            skip
            refine box_step ?hg (N := 6) ?hd (cs := #[.int .i64 0, .int .i64 0]) (t := 27) ?hr ?_; (case hd => rfl); (case hg => rfl); (case hr => first | (go_simp; done) | (go_simp; rfl))
            intro gb168 hg w43 hbox hb
            replace HO_3 := Aside0.mk (Kd.R_below (Kd.R_elderB (Hd.r_ HO_3) gb168 (Nat.le_of_eq hg.symm)) hb)
            replace HB := Aside0.mk (below_step (by repeat (first | (with_reducible first | exact HB.out | apply below_alloc | apply pw_below_drewN | apply below_drew1 | refine below_set ?_ (IsS109.ge HI0.out) | refine below_set ?_ GE160.out) | exact HB.out)) hb)
            have BK168 := Aside0.mk (hbox)
            have GW168 := Aside0.mk ((by rw [hg]; exact (keep_size (w := w) (g := g) (row := none) (by repeat (first | (with_reducible first | exact HK.out | apply KeepBut.set_ | apply keep_drewN | apply keep_drew | apply keep_alloc | refine keep_far ?_ GW160.out _) | exact HK.out))) : w.heap.size ≤ gb168))
            have GE168 := Aside0.mk ((Nat.le_trans HW0.out (by rw [hg]; exact (keep_size (w := w) (g := g) (row := none) (by repeat (first | (with_reducible first | exact HK.out | apply KeepBut.set_ | apply keep_drewN | apply keep_drew | apply keep_alloc | refine keep_far ?_ GW160.out _) | exact HK.out))) : w.heap.size ≤ gb168) : w0.heap.size ≤ gb168))
            replace HK := Aside0.mk (KeepBut.trans (by repeat (first | (with_reducible first | exact HK.out | apply KeepBut.set_ | apply keep_drewN | apply keep_drew | apply keep_alloc | refine keep_far ?_ GW160.out _) | exact HK.out)) (KeepBut.of_below hb g none) (.inl rfl))
            have NB160_168 := Aside0.mk ((Hd.lt_ BK160 hg))
            have NB168_160 := Aside0.mk ((Hd.gt_ BK160 hg))
            replace BK160 := Aside0.mk (Hd.kb_ BK160 hb)
            have NB0_168 := Aside0.mk ((by rw [hg]; exact Nat.ne_of_lt (IsS109.lt (show IsS109 w0 _ g s0_0 t165 t166 from by repeat (first | (with_reducible first | exact HI0.out | apply IsS109.alloc | apply IsS109.drewN | apply IsS109.drew | apply IsS109.set_1 | apply IsS109.set_2 | refine IsS109.far ?_ NB0_160.out _) | exact HI0.out))) : g ≠ gb168))
            have NB168_0 := Aside0.mk ((by rw [hg]; exact Nat.ne_of_gt (IsS109.lt (show IsS109 w0 _ g s0_0 t165 t166 from by repeat (first | (with_reducible first | exact HI0.out | apply IsS109.alloc | apply IsS109.drewN | apply IsS109.drew | apply IsS109.set_1 | apply IsS109.set_2 | refine IsS109.far ?_ NB0_160.out _) | exact HI0.out))) : gb168 ≠ g))
            replace HI0 := Aside0.mk (IsS109.below (by repeat (first | (with_reducible first | exact HI0.out | apply IsS109.alloc | apply IsS109.drewN | apply IsS109.drew | apply IsS109.set_1 | apply IsS109.set_2 | refine IsS109.far ?_ NB0_160.out _) | exact HI0.out)) hb)
            clear hb hbox hg
            refine hK.out _ _ ⟨(blk_cell BK160.out 0).trans rfl, (blk_cell BK160.out 1).trans rfl⟩ (fun hHeld => ?_)
            clear hK K
            refine Hd.n_ (some 6) ?_
            refine Hd.o_ HT_ 7 (some 30) #[true, true, true, true, true, true, true, true, false, true, false] (fun K hK => ?_)
            refine goes_ Try.func119 (by kernel_rfl) rfl #[.int .i64 200, .int .i64 (wrap64 (((rd_T27 x3_1 (ji9)).f1) + t164))] (by rfl) rfl rfl (by (try simp only [List.map_toArray, List.map_cons, List.map_nil]); first | done | (simp only [hji9]; rfl) | rfl | (simp only [List.length_drop, List.length_take]; rfl)) ?_
            with_reducible refine (spec_Min.calls 200 (wrap64 (((rd_T27 x3_1 (ji9)).f1) + t164)) t167 _ A14.out).mono ?_
            rintro e w' ⟨rfl, ⟨nd, rfl⟩⟩
            refine ⟨_, rfl, ?_⟩
            replace HO_3 := Aside0.mk (Kd.R_drewN HO_3.out nd)
            replace BK160 := Aside0.mk (blk_drewN BK160.out nd)
            replace HB := Aside0.mk (pw_below_drewN HB.out nd)
            generalize w40.drewN nd = w40 at HO_3 BK160 HB ⊢
            refine hK.out _ _ ⟨(blk_cell BK160.out 0).trans rfl, (blk_cell BK160.out 1).trans rfl⟩ (fun hHeld => ?_)
            clear hK K
            refine Hd.n_ (some 30) ?_
            refine Hd.p_ HT_ 8 (some 31) #[true, true, true, true, true, true, true, true, true, true, false] ?_
            exact norm_ (by simp only [putAll, Act.put, List.setIfInBounds_toArray, List.set_cons_zero, List.set_cons_succ]) (hCont (gb168) _ ⟨hHeld, (Hd.r_ HO_3), (Hd.k_ BK160), (Hd.k_ BK168), GW168.out, GE168.out, NB0_168.out, NB168_0.out, NB160_168.out, NB168_160.out, (by repeat (first | (with_reducible first | exact HI0.out | apply IsS109.alloc | apply IsS109.drewN | apply IsS109.drew | apply IsS109.set_1 | apply IsS109.set_2 | refine IsS109.far ?_ NB0_160.out _ | refine IsS109.far ?_ NB0_168.out _) | exact HI0.out)), (by repeat (first | (with_reducible first | exact HK.out | apply KeepBut.set_ | apply keep_drewN | apply keep_drew | apply keep_alloc | refine keep_far ?_ GW160.out _ | refine keep_far ?_ GW168.out _) | exact HK.out)), (by repeat (first | (with_reducible first | exact HB.out | apply below_alloc | apply pw_below_drewN | apply below_drew1 | refine below_set ?_ (IsS109.ge HI0.out) | refine below_set ?_ GE160.out | refine below_set ?_ GE168.out) | exact HB.out))⟩)
          ·
           skip
           refine box_step ?hg (N := 6) ?hd (cs := #[.int .i64 0, .int .i64 0]) (t := 27) ?hr ?_; (case hd => rfl); (case hg => rfl); (case hr => first | (go_simp; done) | (go_simp; rfl))
           intro gb168 hg w42 hbox hb
           replace HO_3 := Aside0.mk (Kd.R_below (Kd.R_elderB (Hd.r_ HO_3) gb168 (Nat.le_of_eq hg.symm)) hb)
           replace HB := Aside0.mk (below_step (by repeat (first | (with_reducible first | exact HB.out | apply below_alloc | apply pw_below_drewN | apply below_drew1 | refine below_set ?_ (IsS109.ge HI0.out) | refine below_set ?_ GE160.out) | exact HB.out)) hb)
           have BK168 := Aside0.mk (hbox)
           have GW168 := Aside0.mk ((by rw [hg]; exact (keep_size (w := w) (g := g) (row := none) (by repeat (first | (with_reducible first | exact HK.out | apply KeepBut.set_ | apply keep_drewN | apply keep_drew | apply keep_alloc | refine keep_far ?_ GW160.out _) | exact HK.out))) : w.heap.size ≤ gb168))
           have GE168 := Aside0.mk ((Nat.le_trans HW0.out (by rw [hg]; exact (keep_size (w := w) (g := g) (row := none) (by repeat (first | (with_reducible first | exact HK.out | apply KeepBut.set_ | apply keep_drewN | apply keep_drew | apply keep_alloc | refine keep_far ?_ GW160.out _) | exact HK.out))) : w.heap.size ≤ gb168) : w0.heap.size ≤ gb168))
           replace HK := Aside0.mk (KeepBut.trans (by repeat (first | (with_reducible first | exact HK.out | apply KeepBut.set_ | apply keep_drewN | apply keep_drew | apply keep_alloc | refine keep_far ?_ GW160.out _) | exact HK.out)) (KeepBut.of_below hb g none) (.inl rfl))
           have NB160_168 := Aside0.mk ((Hd.lt_ BK160 hg))
           have NB168_160 := Aside0.mk ((Hd.gt_ BK160 hg))
           replace BK160 := Aside0.mk (Hd.kb_ BK160 hb)
           have NB0_168 := Aside0.mk ((by rw [hg]; exact Nat.ne_of_lt (IsS109.lt (show IsS109 w0 _ g s0_0 t162 t163 from by repeat (first | (with_reducible first | exact HI0.out | apply IsS109.alloc | apply IsS109.drewN | apply IsS109.drew | apply IsS109.set_1 | apply IsS109.set_2 | refine IsS109.far ?_ NB0_160.out _) | exact HI0.out))) : g ≠ gb168))
           have NB168_0 := Aside0.mk ((by rw [hg]; exact Nat.ne_of_gt (IsS109.lt (show IsS109 w0 _ g s0_0 t162 t163 from by repeat (first | (with_reducible first | exact HI0.out | apply IsS109.alloc | apply IsS109.drewN | apply IsS109.drew | apply IsS109.set_1 | apply IsS109.set_2 | refine IsS109.far ?_ NB0_160.out _) | exact HI0.out))) : gb168 ≠ g))
           replace HI0 := Aside0.mk (IsS109.below (by repeat (first | (with_reducible first | exact HI0.out | apply IsS109.alloc | apply IsS109.drewN | apply IsS109.drew | apply IsS109.set_1 | apply IsS109.set_2 | refine IsS109.far ?_ NB0_160.out _) | exact HI0.out)) hb)
           clear hb hbox hg
           refine hK.out _ _ ⟨(blk_cell BK160.out 0).trans rfl, (blk_cell BK160.out 1).trans rfl⟩ (fun hHeld => ?_)
           clear hK K
           refine Hd.n_ (some 6) ?_
           refine Hd.o_ HT_ 5 (some 28) #[true, true, true, true, true, true, false, false, false, true, false] (fun K hK => ?_)
           refine goes_ Try.func89 (by kernel_rfl) rfl #[.pointer (some ⟨g, 0, none⟩), .int .i64 4] (by rfl) rfl rfl Hd.m_ ?_
           with_reducible refine (spec_l1Below.calls g s0_0 t162 t163 4 t164 t165 t166 w0 _ ?side1 ?side2 A13.out).mono ?_
           (case side1 => repeat (first | (with_reducible first | exact HI0.out | apply IsS109.alloc | apply IsS109.drewN | apply IsS109.drew | apply IsS109.set_1 | apply IsS109.set_2 | refine IsS109.far ?_ NB0_160.out _ | refine IsS109.far ?_ NB0_168.out _) | exact HI0.out))
           (case side2 => repeat (first | (with_reducible first | exact HB.out | apply below_alloc | apply pw_below_drewN | apply below_drew1 | refine below_set ?_ (IsS109.ge HI0.out) | refine below_set ?_ GE160.out | refine below_set ?_ GE168.out) | exact HB.out))
           rintro e w43 ⟨rfl, hi, hb, hk⟩
           refine ⟨_, rfl, ?_⟩
           replace HO_3 := Aside0.mk (Kd.R_mono (Kd.R_keep (IsS109.apart (show IsS109 w0 _ g s0_0 t162 t163 from by repeat (first | (with_reducible first | exact HI0.out | apply IsS109.alloc | apply IsS109.drewN | apply IsS109.drew | apply IsS109.set_1 | apply IsS109.set_2 | refine IsS109.far ?_ NB0_160.out _ | refine IsS109.far ?_ NB0_168.out _) | exact HI0.out)) (Hd.r_ HO_3) (by decide)) hk (fun _ h => h.2)) (fun _ h => h.1))
           replace BK160 := Aside0.mk (KeepBut.blk hk (g' := gb160) (o := .cells #[.int .i64 ((rd_T27 x3_1 (ji9)).f0), .int .i64 ((rd_T27 x3_1 (ji9)).f1)] 27 (0, 0)) (Hd.k_ BK160) NB160_0.out (by simp))
           replace BK168 := Aside0.mk (KeepBut.blk hk (g' := gb168) (o := .cells #[.int .i64 0, .int .i64 0] 27 (0, 0)) (Hd.k_ BK168) NB168_0.out (by simp))
           replace HK := Aside0.mk (KeepBut.trans (by repeat (first | (with_reducible first | exact HK.out | apply KeepBut.set_ | apply keep_drewN | apply keep_drew | apply keep_alloc | refine keep_far ?_ GW160.out _ | refine keep_far ?_ GW168.out _) | exact HK.out)) hk (.inl rfl))
           replace HB := Aside0.mk (hb)
           replace HI0 := Aside0.mk (hi)
           (try clear hb)
           (try clear hb2)
           (try clear hk)
           (try clear hi)
           refine hK.out _ _ ⟨(blk_cell BK160.out 0).trans rfl, (blk_cell BK160.out 1).trans rfl⟩ (fun hHeld => ?_)
           clear hK K
           refine Hd.n_ (some 28) ?_
           refine Hd.p_ HT_ 6 (some 29) #[true, true, true, true, true, true, true, false, false, true, false] ?_
           refine Hd.o_ HT_ 7 (some 30) #[true, true, true, true, true, true, true, true, false, true, false] (fun K hK => ?_)
           refine goes_ Try.func119 (by kernel_rfl) rfl #[.int .i64 200, .int .i64 (wrap64 (((rd_T27 x3_1 (ji9)).f1) + t164))] (by rfl) rfl rfl (by (try simp only [List.map_toArray, List.map_cons, List.map_nil]); first | done | (simp only [hji9]; rfl) | rfl | (simp only [List.length_drop, List.length_take]; rfl)) ?_
           with_reducible refine (spec_Min.calls 200 (wrap64 (((rd_T27 x3_1 (ji9)).f1) + t164)) t167 _ A14.out).mono ?_
           rintro e w' ⟨rfl, ⟨nd, rfl⟩⟩
           refine ⟨_, rfl, ?_⟩
           replace HO_3 := Aside0.mk (Kd.R_drewN HO_3.out nd)
           replace BK160 := Aside0.mk (blk_drewN BK160.out nd)
           replace HB := Aside0.mk (pw_below_drewN HB.out nd)
           generalize w40.drewN nd = w40 at HO_3 BK160 HB ⊢
           refine hK.out _ _ ⟨(blk_cell BK160.out 0).trans rfl, (blk_cell BK160.out 1).trans rfl⟩ (fun hHeld => ?_)
           clear hK K
           refine Hd.n_ (some 30) ?_
           refine Hd.p_ HT_ 8 (some 31) #[true, true, true, true, true, true, true, true, true, true, false] ?_
           exact norm_ (by simp only [putAll, Act.put, List.setIfInBounds_toArray, List.set_cons_zero, List.set_cons_succ]) (hCont (gb168) _ ⟨hHeld, (Hd.r_ HO_3), (Hd.k_ BK160), (Hd.k_ BK168), GW168.out, GE168.out, NB0_168.out, NB168_0.out, NB160_168.out, NB168_160.out, (by repeat (first | (with_reducible first | exact HI0.out | apply IsS109.alloc | apply IsS109.drewN | apply IsS109.drew | apply IsS109.set_1 | apply IsS109.set_2 | refine IsS109.far ?_ NB0_160.out _ | refine IsS109.far ?_ NB0_168.out _) | exact HI0.out)), (by repeat (first | (with_reducible first | exact HK.out | apply KeepBut.set_ | apply keep_drewN | apply keep_drew | apply keep_alloc | refine keep_far ?_ GW160.out _ | refine keep_far ?_ GW168.out _) | exact HK.out)), (by repeat (first | (with_reducible first | exact HB.out | apply below_alloc | apply pw_below_drewN | apply below_drew1 | refine below_set ?_ (IsS109.ge HI0.out) | refine below_set ?_ GE160.out | refine below_set ?_ GE168.out) | exact HB.out))⟩)
         ·
          skip
          refine box_step ?hg (N := 6) ?hd (cs := #[.int .i64 0, .int .i64 0]) (t := 27) ?hr ?_; (case hd => rfl); (case hg => rfl); (case hr => first | (go_simp; done) | (go_simp; rfl))
          intro gb168 hg w41 hbox hb
          replace HO_3 := Aside0.mk (Kd.R_below (Kd.R_elderB (Hd.r_ HO_3) gb168 (Nat.le_of_eq hg.symm)) hb)
          replace HB := Aside0.mk (below_step (by repeat (first | (with_reducible first | exact HB.out | apply below_alloc | apply pw_below_drewN | apply below_drew1 | refine below_set ?_ (IsS109.ge HI0.out) | refine below_set ?_ GE160.out) | exact HB.out)) hb)
          have BK168 := Aside0.mk (hbox)
          have GW168 := Aside0.mk ((by rw [hg]; exact (keep_size (w := w) (g := g) (row := none) (by repeat (first | (with_reducible first | exact HK.out | apply KeepBut.set_ | apply keep_drewN | apply keep_drew | apply keep_alloc | refine keep_far ?_ GW160.out _) | exact HK.out))) : w.heap.size ≤ gb168))
          have GE168 := Aside0.mk ((Nat.le_trans HW0.out (by rw [hg]; exact (keep_size (w := w) (g := g) (row := none) (by repeat (first | (with_reducible first | exact HK.out | apply KeepBut.set_ | apply keep_drewN | apply keep_drew | apply keep_alloc | refine keep_far ?_ GW160.out _) | exact HK.out))) : w.heap.size ≤ gb168) : w0.heap.size ≤ gb168))
          replace HK := Aside0.mk (KeepBut.trans (by repeat (first | (with_reducible first | exact HK.out | apply KeepBut.set_ | apply keep_drewN | apply keep_drew | apply keep_alloc | refine keep_far ?_ GW160.out _) | exact HK.out)) (KeepBut.of_below hb g none) (.inl rfl))
          have NB160_168 := Aside0.mk ((Hd.lt_ BK160 hg))
          have NB168_160 := Aside0.mk ((Hd.gt_ BK160 hg))
          replace BK160 := Aside0.mk (Hd.kb_ BK160 hb)
          have NB0_168 := Aside0.mk ((by rw [hg]; exact Nat.ne_of_lt (IsS109.lt (show IsS109 w0 _ g s0_0 x1001_1 x1002_1 from by repeat (first | (with_reducible first | exact HI0.out | apply IsS109.alloc | apply IsS109.drewN | apply IsS109.drew | apply IsS109.set_1 | apply IsS109.set_2 | refine IsS109.far ?_ NB0_160.out _) | exact HI0.out))) : g ≠ gb168))
          have NB168_0 := Aside0.mk ((by rw [hg]; exact Nat.ne_of_gt (IsS109.lt (show IsS109 w0 _ g s0_0 x1001_1 x1002_1 from by repeat (first | (with_reducible first | exact HI0.out | apply IsS109.alloc | apply IsS109.drewN | apply IsS109.drew | apply IsS109.set_1 | apply IsS109.set_2 | refine IsS109.far ?_ NB0_160.out _) | exact HI0.out))) : gb168 ≠ g))
          replace HI0 := Aside0.mk (IsS109.below (by repeat (first | (with_reducible first | exact HI0.out | apply IsS109.alloc | apply IsS109.drewN | apply IsS109.drew | apply IsS109.set_1 | apply IsS109.set_2 | refine IsS109.far ?_ NB0_160.out _) | exact HI0.out)) hb)
          clear hb hbox hg
          refine hK.out _ _ ⟨(blk_cell BK160.out 0).trans rfl, (blk_cell BK160.out 1).trans rfl⟩ (fun hHeld => ?_)
          clear hK K
          refine Hd.n_ (some 6) ?_
          refine Hd.o_ HT_ 1 (some 24) #[true, true, true, true, true, false, false, false, false, true, false] (fun K hK => ?_)
          refine goes_ Try.func89 (by kernel_rfl) rfl #[.pointer (some ⟨g, 0, none⟩), .int .i64 14] (by rfl) rfl rfl Hd.m_ ?_
          with_reducible refine (spec_l1Below.calls g s0_0 x1001_1 x1002_1 14 t161 t162 t163 w0 _ ?side1 ?side2 A12.out).mono ?_
          (case side1 => repeat (first | (with_reducible first | exact HI0.out | apply IsS109.alloc | apply IsS109.drewN | apply IsS109.drew | apply IsS109.set_1 | apply IsS109.set_2 | refine IsS109.far ?_ NB0_160.out _ | refine IsS109.far ?_ NB0_168.out _) | exact HI0.out))
          (case side2 => repeat (first | (with_reducible first | exact HB.out | apply below_alloc | apply pw_below_drewN | apply below_drew1 | refine below_set ?_ (IsS109.ge HI0.out) | refine below_set ?_ GE160.out | refine below_set ?_ GE168.out) | exact HB.out))
          rintro e w42 ⟨rfl, hi, hb, hk⟩
          refine ⟨_, rfl, ?_⟩
          replace HO_3 := Aside0.mk (Kd.R_mono (Kd.R_keep (IsS109.apart (show IsS109 w0 _ g s0_0 x1001_1 x1002_1 from by repeat (first | (with_reducible first | exact HI0.out | apply IsS109.alloc | apply IsS109.drewN | apply IsS109.drew | apply IsS109.set_1 | apply IsS109.set_2 | refine IsS109.far ?_ NB0_160.out _ | refine IsS109.far ?_ NB0_168.out _) | exact HI0.out)) (Hd.r_ HO_3) (by decide)) hk (fun _ h => h.2)) (fun _ h => h.1))
          replace BK160 := Aside0.mk (KeepBut.blk hk (g' := gb160) (o := .cells #[.int .i64 ((rd_T27 x3_1 (ji9)).f0), .int .i64 ((rd_T27 x3_1 (ji9)).f1)] 27 (0, 0)) (Hd.k_ BK160) NB160_0.out (by simp))
          replace BK168 := Aside0.mk (KeepBut.blk hk (g' := gb168) (o := .cells #[.int .i64 0, .int .i64 0] 27 (0, 0)) (Hd.k_ BK168) NB168_0.out (by simp))
          replace HK := Aside0.mk (KeepBut.trans (by repeat (first | (with_reducible first | exact HK.out | apply KeepBut.set_ | apply keep_drewN | apply keep_drew | apply keep_alloc | refine keep_far ?_ GW160.out _ | refine keep_far ?_ GW168.out _) | exact HK.out)) hk (.inl rfl))
          replace HB := Aside0.mk (hb)
          replace HI0 := Aside0.mk (hi)
          (try clear hb)
          (try clear hb2)
          (try clear hk)
          (try clear hi)
          refine hK.out _ _ ⟨(blk_cell BK160.out 0).trans rfl, (blk_cell BK160.out 1).trans rfl⟩ (fun hHeld => ?_)
          clear hK K
          refine Hd.n_ (some 24) ?_
          refine Hd.o_ HT_ 5 (some 28) #[true, true, true, true, true, true, false, false, false, true, false] (fun K hK => ?_)
          refine goes_ Try.func89 (by kernel_rfl) rfl #[.pointer (some ⟨g, 0, none⟩), .int .i64 4] (by rfl) rfl rfl Hd.m_ ?_
          with_reducible refine (spec_l1Below.calls g s0_0 t162 t163 4 t164 t165 t166 w0 _ ?side1 ?side2 A13.out).mono ?_
          (case side1 => repeat (first | (with_reducible first | exact HI0.out | apply IsS109.alloc | apply IsS109.drewN | apply IsS109.drew | apply IsS109.set_1 | apply IsS109.set_2 | refine IsS109.far ?_ NB0_160.out _ | refine IsS109.far ?_ NB0_168.out _) | exact HI0.out))
          (case side2 => repeat (first | (with_reducible first | exact HB.out | apply below_alloc | apply pw_below_drewN | apply below_drew1 | refine below_set ?_ (IsS109.ge HI0.out) | refine below_set ?_ GE160.out | refine below_set ?_ GE168.out) | exact HB.out))
          rintro e w43 ⟨rfl, hi, hb, hk⟩
          refine ⟨_, rfl, ?_⟩
          replace HO_3 := Aside0.mk (Kd.R_mono (Kd.R_keep (IsS109.apart (show IsS109 w0 _ g s0_0 t162 t163 from by repeat (first | (with_reducible first | exact HI0.out | apply IsS109.alloc | apply IsS109.drewN | apply IsS109.drew | apply IsS109.set_1 | apply IsS109.set_2 | refine IsS109.far ?_ NB0_160.out _ | refine IsS109.far ?_ NB0_168.out _) | exact HI0.out)) (Hd.r_ HO_3) (by decide)) hk (fun _ h => h.2)) (fun _ h => h.1))
          replace BK160 := Aside0.mk (KeepBut.blk hk (g' := gb160) (o := .cells #[.int .i64 ((rd_T27 x3_1 (ji9)).f0), .int .i64 ((rd_T27 x3_1 (ji9)).f1)] 27 (0, 0)) (Hd.k_ BK160) NB160_0.out (by simp))
          replace BK168 := Aside0.mk (KeepBut.blk hk (g' := gb168) (o := .cells #[.int .i64 0, .int .i64 0] 27 (0, 0)) (Hd.k_ BK168) NB168_0.out (by simp))
          replace HK := Aside0.mk (KeepBut.trans (by repeat (first | (with_reducible first | exact HK.out | apply KeepBut.set_ | apply keep_drewN | apply keep_drew | apply keep_alloc | refine keep_far ?_ GW160.out _ | refine keep_far ?_ GW168.out _) | exact HK.out)) hk (.inl rfl))
          replace HB := Aside0.mk (hb)
          replace HI0 := Aside0.mk (hi)
          (try clear hb)
          (try clear hb2)
          (try clear hk)
          (try clear hi)
          refine hK.out _ _ ⟨(blk_cell BK160.out 0).trans rfl, (blk_cell BK160.out 1).trans rfl⟩ (fun hHeld => ?_)
          clear hK K
          refine Hd.n_ (some 28) ?_
          refine Hd.p_ HT_ 6 (some 29) #[true, true, true, true, true, true, true, false, false, true, false] ?_
          refine Hd.o_ HT_ 7 (some 30) #[true, true, true, true, true, true, true, true, false, true, false] (fun K hK => ?_)
          refine goes_ Try.func119 (by kernel_rfl) rfl #[.int .i64 200, .int .i64 (wrap64 (((rd_T27 x3_1 (ji9)).f1) + t164))] (by rfl) rfl rfl (by (try simp only [List.map_toArray, List.map_cons, List.map_nil]); first | done | (simp only [hji9]; rfl) | rfl | (simp only [List.length_drop, List.length_take]; rfl)) ?_
          with_reducible refine (spec_Min.calls 200 (wrap64 (((rd_T27 x3_1 (ji9)).f1) + t164)) t167 _ A14.out).mono ?_
          rintro e w' ⟨rfl, ⟨nd, rfl⟩⟩
          refine ⟨_, rfl, ?_⟩
          replace HO_3 := Aside0.mk (Kd.R_drewN HO_3.out nd)
          replace BK160 := Aside0.mk (blk_drewN BK160.out nd)
          replace HB := Aside0.mk (pw_below_drewN HB.out nd)
          generalize w40.drewN nd = w40 at HO_3 BK160 HB ⊢
          refine hK.out _ _ ⟨(blk_cell BK160.out 0).trans rfl, (blk_cell BK160.out 1).trans rfl⟩ (fun hHeld => ?_)
          clear hK K
          refine Hd.n_ (some 30) ?_
          refine Hd.p_ HT_ 8 (some 31) #[true, true, true, true, true, true, true, true, true, true, false] ?_
          exact norm_ (by simp only [putAll, Act.put, List.setIfInBounds_toArray, List.set_cons_zero, List.set_cons_succ]) (hCont (gb168) _ ⟨hHeld, (Hd.r_ HO_3), (Hd.k_ BK160), (Hd.k_ BK168), GW168.out, GE168.out, NB0_168.out, NB168_0.out, NB160_168.out, NB168_160.out, (by repeat (first | (with_reducible first | exact HI0.out | apply IsS109.alloc | apply IsS109.drewN | apply IsS109.drew | apply IsS109.set_1 | apply IsS109.set_2 | refine IsS109.far ?_ NB0_160.out _ | refine IsS109.far ?_ NB0_168.out _) | exact HI0.out)), (by repeat (first | (with_reducible first | exact HK.out | apply KeepBut.set_ | apply keep_drewN | apply keep_drew | apply keep_alloc | refine keep_far ?_ GW160.out _ | refine keep_far ?_ GW168.out _) | exact HK.out)), (by repeat (first | (with_reducible first | exact HB.out | apply below_alloc | apply pw_below_drewN | apply below_drew1 | refine below_set ?_ (IsS109.ge HI0.out) | refine below_set ?_ GE160.out | refine below_set ?_ GE168.out) | exact HB.out))⟩)
        rintro gb168 w44 ⟨hS_, h0_, h1_, h2_, h3_, h4_, h5_, h6_, h7_, h8_, h9_, h10_, h11_⟩
        have n0_ : Aside0 (Kd.R k27 27 w44 w.heap.size (fun k_ => k_ ≠ gb160 ∧ k_ ≠ gb168) (.slice (some ad159) x3_1.length co35) x3_1) := ⟨h0_⟩
        have n1_ : Aside0 (w44.heap[gb160]? = some (.cells #[.int .i64 ((rd_T27 x3_1 (ji9)).f0), .int .i64 ((rd_T27 x3_1 (ji9)).f1)] 27 (0, 0))) := ⟨h1_⟩
        have n2_ : Aside0 (w44.heap[gb168]? = some (.cells #[.int .i64 0, .int .i64 0] 27 (0, 0))) := ⟨h2_⟩
        have n3_ : Aside0 (w.heap.size ≤ gb168) := ⟨h3_⟩
        have n4_ : Aside0 (w0.heap.size ≤ gb168) := ⟨h4_⟩
        have n5_ : Aside0 (g ≠ gb168) := ⟨h5_⟩
        have n6_ : Aside0 (gb168 ≠ g) := ⟨h6_⟩
        have n7_ : Aside0 (gb160 ≠ gb168) := ⟨h7_⟩
        have n8_ : Aside0 (gb168 ≠ gb160) := ⟨h8_⟩
        have n9_ : Aside0 (IsS109 w0 w44 g s0_0 t165 t166) := ⟨h9_⟩
        have n10_ : Aside0 (KeepBut w w44 g none) := ⟨h10_⟩
        have n11_ : Aside0 (Below w0.heap.size w0 w44) := ⟨h11_⟩
        clear HO_3
        clear BK160
        clear HI0
        clear HK
        clear HB
        clear h0_ h1_ h2_ h3_ h4_ h5_ h6_ h7_ h8_ h9_ h10_ h11_
        have HO_3 := n0_
        have BK160 := n1_
        have BK168 := n2_
        have GW168 := n3_
        have GE168 := n4_
        have NB0_168 := n5_
        have NB168_0 := n6_
        have NB160_168 := n7_
        have NB168_160 := n8_
        have HI0 := n9_
        have HK := n10_
        have HB := n11_
        clear n0_ n1_ n2_ n3_ n4_ n5_ n6_ n7_ n8_ n9_ n10_ n11_
        have hHeld : w44.cell? ⟨gb160, 0, none⟩ = some (.int .i64 ((rd_T27 x3_1 (ji9)).f0)) ∧ w44.cell? ⟨gb160, 1, none⟩ = some (.int .i64 ((rd_T27 x3_1 (ji9)).f1)) := hS_
        refine norm_ (a' := ?_) ?_ ?_
        rotate_left
        ·
         simp only [putAll, Act.put, List.setIfInBounds_toArray, List.set_cons_zero, List.set_cons_succ]
         rfl
        refine Hd.o_ HT_ 10 (none) #[true, true, true, true, true, true, true, true, true, true, true] (fun K hK => ?_)
        have hs45 : w44.cell? ⟨gb168, 0, none⟩ = some (.int .i64 0) := (blk_cell BK168.out 0).trans rfl
        have hfs45 := blk_frozen BK168.out 0
        have hns45_0 := NB160_168.out
        have hms45_0 := NB168_160.out
        have hs46 : w44.cell? ⟨gb168, 1, none⟩ = some (.int .i64 0) := (blk_cell BK168.out 1).trans rfl
        have hfs46 := blk_frozen BK168.out 1
        have hns46_0 := NB160_168.out
        have hms46_0 := NB168_160.out
        refine skip_ (w1 := ?_) (by rfl) rfl ?_ ?_
        rotate_left
        ·
         go_simp
         rfl
        refine hK.out _ _ ⟨((cell_far (p := ⟨gb168, _, none⟩) NB160_168.out _).trans (((cell_far (p := ⟨gb168, _, none⟩) NB160_168.out _).trans (hHeld.1)))), ((cell_far (p := ⟨gb168, _, none⟩) NB160_168.out _).trans (((cell_far (p := ⟨gb168, _, none⟩) NB160_168.out _).trans (hHeld.2))))⟩ (fun hHeld => ?_)
        clear hK K
        refine done_ (done_of HT_.out (by kernel_rfl)) ?_
        have hnb47 := NB168_160.out
        have hnc47 := NB160_168.out
        have hnb48 := NB168_0.out
        have hnc48 := NB0_168.out
        obtain ⟨hcz49_0, hcz49_1⟩ := Hd.c2_ BK168.out
        obtain ⟨hfz49_0, hfz49_1⟩ := Hd.f2_ BK168.out
        obtain ⟨hcz50_0, hcz50_1⟩ := Hd.c2_ BK160.out
        obtain ⟨hfz50_0, hfz50_1⟩ := Hd.f2_ BK160.out
        try go_wp2_with (first | ((with_reducible refine gate_builtin (b := .append) (xs := #[.tmp 39, .tmp 41]) rfl ?_); at_builtin; refine Kd.R_append k27 w.heap.size rfl (.tmp 39) (.tmp 41) 24 27 (.agg #[(.int .i64 0), (.int .i64 0)]) 16 rfl Try.underlying24 info27 rfl (by decide) (by omega) (.slice (some ad159) x3_1.length co35) x3_1 (⟨t161, t167⟩ : S27) [.int .i64 t161, .int .i64 t167] (fun k_ => k_ ≠ gb160 ∧ k_ ≠ gb168) (fun _ => False) rfl (by first | (go_simp; done) | (go_simp; rfl)) ?aP (fun _ hk => hk.elim) ?aF ?aO (Below.refl _ _) ?aS ?aL ?_; (case aP => exact k27_mkM _ _ _ (⟨t161, t167⟩ : S27)); (case aF => exact (fun k_ hk => ⟨Kd.freshB (g := gb160) (o := .cells #[.int .i64 ((rd_T27 x3_1 (ji9)).f0), .int .i64 ((rd_T27 x3_1 (ji9)).f1)] 27 (0, 0)) (by (with_reducible repeat (first | refine blk_drewN ?_ _ | refine blk_drew ?_ | refine blk_alloc ?_ _)); refine blk_far ?_ NB160_168.out _; (with_reducible repeat (first | refine blk_drewN ?_ _ | refine blk_drew ?_ | refine blk_alloc ?_ _)); refine blk_far ?_ NB160_168.out _; (with_reducible repeat (first | refine blk_drewN ?_ _ | refine blk_drew ?_ | refine blk_alloc ?_ _)); exact BK160.out) k_ hk, Kd.freshB (g := gb168) (o := .cells #[.int .i64 t161, .int .i64 t167] 27 (0, 0)) (by (with_reducible repeat (first | refine blk_drewN ?_ _ | refine blk_drew ?_ | refine blk_alloc ?_ _)); refine blk_put (cs := #[.int .i64 t161, .int .i64 0]) ?_ 1 _ rfl; (with_reducible repeat (first | refine blk_drewN ?_ _ | refine blk_drew ?_ | refine blk_alloc ?_ _)); refine blk_put (cs := #[.int .i64 0, .int .i64 0]) ?_ 0 _ rfl; (with_reducible repeat (first | refine blk_drewN ?_ _ | refine blk_drew ?_ | refine blk_alloc ?_ _)); exact BK168.out) k_ hk⟩)); (case aO => exact (by (with_reducible repeat (first | apply Kd.R_alloc | apply Kd.R_drewN | apply Kd.R_drew)); exact Kd.R_mono (Kd.R_far (p := ⟨gb168, 1, none⟩) (Kd.R_far (p := ⟨gb168, 0, none⟩) (Kd.R_mono HO_3.out (fun k_ hk => (⟨hk, hk.2⟩ : _ ∧ k_ ≠ gb168))) (fun _ hk => hk.2) (.int .i64 t161)) (fun _ hk => hk.2) (.int .i64 t167)) (fun _ hk => ⟨hk.1.1, hk.1.2⟩))); (case aS => exact (keep_size (w := w) (g := g) (row := none) (by repeat (first | (with_reducible first | exact HK.out | apply KeepBut.set_ | apply keep_drewN | apply keep_drew | apply keep_alloc | refine keep_far ?_ GW160.out _ | refine keep_far ?_ GW168.out _) | exact HK.out)))); (case aL => have := LMc34.out; omega); intro v173 w51 ho hb hg hat; rw [← Ny172.out] at ho; have n0_ := Aside0.mk (IsS109.grown (Hd.as_ (fun W_ => IsS109 _ W_ _ _ _ _) HI0.out (by repeat (first | (with_reducible first | exact HI0.out | apply IsS109.alloc | apply IsS109.drewN | apply IsS109.drew | apply IsS109.set_1 | apply IsS109.set_2 | refine IsS109.far ?_ NB0_160.out _ | refine IsS109.far ?_ NB0_168.out _) | exact HI0.out))) hg (IsS109.own_ne HI0.out HO_3.out (by decide))); have n1_ := Aside0.mk (blk_grown (g := gb160) (o := .cells #[.int .i64 ((rd_T27 x3_1 (ji9)).f0), .int .i64 ((rd_T27 x3_1 (ji9)).f1)] 27 (0, 0)) (by (with_reducible repeat (first | refine blk_drewN ?_ _ | refine blk_drew ?_ | refine blk_alloc ?_ _)); refine blk_far ?_ NB160_168.out _; (with_reducible repeat (first | refine blk_drewN ?_ _ | refine blk_drew ?_ | refine blk_alloc ?_ _)); refine blk_far ?_ NB160_168.out _; (with_reducible repeat (first | refine blk_drewN ?_ _ | refine blk_drew ?_ | refine blk_alloc ?_ _)); exact BK160.out) hg (Kd.R_away HO_3.out (fun _ hk => hk.1))); have n2_ := Aside0.mk (blk_grown (g := gb168) (o := .cells #[.int .i64 t161, .int .i64 t167] 27 (0, 0)) (by (with_reducible repeat (first | refine blk_drewN ?_ _ | refine blk_drew ?_ | refine blk_alloc ?_ _)); refine blk_put (cs := #[.int .i64 t161, .int .i64 0]) ?_ 1 _ rfl; (with_reducible repeat (first | refine blk_drewN ?_ _ | refine blk_drew ?_ | refine blk_alloc ?_ _)); refine blk_put (cs := #[.int .i64 0, .int .i64 0]) ?_ 0 _ rfl; (with_reducible repeat (first | refine blk_drewN ?_ _ | refine blk_drew ?_ | refine blk_alloc ?_ _)); exact BK168.out) hg (Kd.R_away HO_3.out (fun _ hk => hk.2))); have n3_ := Aside0.mk (below_weaken (by repeat (first | (with_reducible first | exact HB.out | apply below_alloc | apply pw_below_drewN | apply below_drew1 | refine below_set ?_ (IsS109.ge HI0.out) | refine below_set ?_ GE160.out | refine below_set ?_ GE168.out) | exact HB.out)) HL.out hb); have n4_ := Aside0.mk (KeepBut.trans (by repeat (first | (with_reducible first | exact HK.out | apply KeepBut.set_ | apply keep_drewN | apply keep_drew | apply keep_alloc | refine keep_far ?_ GW160.out _ | refine keep_far ?_ GW168.out _) | exact HK.out)) (KeepBut.of_grown hg g) (Kd.R_base2 HO_3.out)); have n5_ := Aside0.mk (ho); clear HI0; clear BK160; clear BK168; clear HB; clear HK; clear HO_3; have HI0 := n0_; have BK160 := n1_; have BK168 := n2_; have HB := n3_; have HK := n4_; have HO174 := n5_; clear n0_ n1_ n2_ n3_ n4_ n5_; clear ho hb hg hat))
        go_roundg k1
        case measure => have := HK1.out; omega
        case rel => exact ⟨(y172), (wrap64 (x4_1 - 1)), (t165), (t166), (by first | rfl | (simp; done) | (simp [*]; done)), H', ⟨by have := HK1.out; omega⟩, ⟨by (with_reducible repeat (first | apply Kd.R_alloc | apply Kd.R_drewN | apply Kd.R_drew)); exact Kd.R_mono HO174.out (fun _ hk => trivial)⟩, ⟨by repeat (first | (with_reducible first | exact HI0.out | apply IsS109.alloc | apply IsS109.drewN | apply IsS109.drew | apply IsS109.set_1 | apply IsS109.set_2 | refine IsS109.far ?_ NB0_160.out _ | refine IsS109.far ?_ NB0_168.out _) | exact HI0.out)⟩, ⟨by repeat (first | (with_reducible first | exact HK.out | apply KeepBut.set_ | apply keep_drewN | apply keep_drew | apply keep_alloc | refine keep_far ?_ GW160.out _ | refine keep_far ?_ GW168.out _) | exact HK.out)⟩, ⟨by repeat (first | (with_reducible first | exact HB.out | apply below_alloc | apply pw_below_drewN | apply below_drew1 | refine below_set ?_ (IsS109.ge HI0.out) | refine below_set ?_ GE160.out | refine below_set ?_ GE168.out) | exact HB.out)⟩⟩
       ·
        rw [if_neg c34] at H
        exact absurd H (by simp)
     ·
      rw [if_neg c11] at H
      exact absurd H (by simp)
    ·
     rw [if_neg c10] at H
     exact absurd H (by simp)
   ·
    rw [if_neg c8] at H
    have c8b0 : decide (0 < x4_1) = false := decide_eq_false c8
    clear c8
    simp only [Option.some.injEq, Prod.mk.injEq] at H
    obtain ⟨rfl, rfl, rfl⟩ := H
    go_wp2
    go_ret
    exact ⟨_, Hd.e_, by (with_reducible repeat (first | apply Kd.R_alloc | apply Kd.R_drewN | apply Kd.R_drew)); exact HO_3.out, by repeat (first | (with_reducible first | exact HI0.out | apply IsS109.alloc | apply IsS109.drewN | apply IsS109.drew | apply IsS109.set_1 | apply IsS109.set_2) | exact HI0.out), by repeat (first | (with_reducible first | exact HB.out | apply below_alloc | apply pw_below_drewN | apply below_drew1 | refine below_set ?_ (IsS109.ge HI0.out)) | exact HB.out), by repeat (first | (with_reducible first | exact HK.out | apply KeepBut.set_ | apply keep_drewN | apply keep_drew | apply keep_alloc) | exact HK.out)⟩
end Go.Proofs.Ytbackoeakepngaa.MFnBoxes
