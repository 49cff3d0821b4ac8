-- Laid by this session's program pp.py, after the kit's print and texts of the session's own. Not trusted: Lean checks it.
import Derived.Test.YtbackoeakepngaaZFnSafeMx0
import Derived.Test.YtbackoeakepngaaZFnSafeMx1
import Derived.Test.YtbackoeakepngaaZFnSafeMx2
namespace Go.Proofs.Ytbackoeakepngaa.MFnSafe
open Go.RowKit Go.Proofs.YtbackoeakepngaaW.PrintWords Go.Proofs.YtbackoeakepngaaW.PrintLast Go.Proofs.YtbackoeakepngaaW.PrintMore
attribute [local go_sem] max2_int min2_int max_two min_two max_three min_three max_four min_four   -- for this text's walks alone
set_option linter.unusedVariables false
set_option linter.unusedSimpArgs false
attribute [local go_sem high] eqA27
def spec_l6Draw.l0 : Nat → List (S27) → Int → List Int → Int → Int → Option ((List (S27)) × Int × Int)
 | 0, _, _, _, _, _ => none
 | k + 1, x3, x4, x1000, x1001, x1002 => if x4 > 0 then (if 0 ≤ (wrap64 ((x3.length : Int) - 1)) then (if (wrap64 ((x3.length : Int) - 1)) < (x3.length : Int) then ((spec_l1Below.f x1000 x1001 x1002 14).bind fun bt164 => ((spec_l1Below.f x1000 bt164.2.1 bt164.2.2 4).bind fun bt167 => ((spec_Min.f 200 (wrap64 (((rd_T27 x3 (wrap64 ((x3.length : Int) - 1))).f1) + bt167.1))).bind fun t170 => (if (bt164.1 == ((rd_T27 x3 (wrap64 ((x3.length : Int) - 1))).f0) && (t170 == ((rd_T27 x3 (wrap64 ((x3.length : Int) - 1))).f1))) = true then (if x3.length < 8796093022208 then (spec_l6Draw.l0 k (x3 ++ [(⟨wrap64 (bt164.1 + 1), t170⟩ : S27)]) (wrap64 (x4 - 1)) x1000 bt167.2.1 bt167.2.2) else (none)) else (if x3.length < 8796093022208 then (spec_l6Draw.l0 k (x3 ++ [(⟨bt164.1, t170⟩ : S27)]) (wrap64 (x4 - 1)) x1000 bt167.2.1 bt167.2.2) else (none)))))) else (none)) else (none)) else (some (x3, x1001, x1002))
def spec_l6Draw.f (k : Nat) (s0_0 : List Int) (s0_1 : Int) (s0_2 : Int) : Option ((List (S27)) × Int × Int) := (spec_l4Draw.f s0_0 s0_1 s0_2).bind fun bt152 => ((spec_l1Below.f s0_0 bt152.2.2.1 bt152.2.2.2 5).bind fun bt159 => (spec_l6Draw.l0 k (([(⟨bt152.1, bt152.2.1⟩ : S27)] : List (S27))) (wrap64 (1 + bt159.1)) s0_0 bt159.2.1 bt159.2.2))
def spec_l6Draw.T6 : Bool × List (List Nat × List Nat) := (true, [([], []), ([0], [0]), ([], []), ([2], [2]), ([], []), ([4, 1], [4]), ([3, 5], [3, 5]), ([6, 5], [6]), ([1, 7], [1, 7]), ([], []), ([9, 8, 7, 0, 1, 2, 3, 4, 5, 6, 7, 8, 9], [8, 9])])
def spec_l6Draw.B6 : List Nat := [0, 1, 0, 4, 0, 19, 63, 127, 255, 0, 1023]
theorem spec_l6Draw.tab6 : rtab .any (opsOf Try.f104 6) = spec_l6Draw.T6 := by kernel_rfl
theorem spec_l6Draw.bits6 : waitsOk spec_l6Draw.T6.2 spec_l6Draw.B6 = true := by kernel_rfl
set_option maxHeartbeats 8000000 in
set_option maxRecDepth 100000 in
theorem spec_l6Draw.calls (k : Nat) (g : Nat) (s0_0 : List Int) (s0_1 : Int) (s0_2 : Int) (r1 : List (S27)) (r2 : Int) (r3 : Int) (w0 w : World) (hI : IsS109 w0 w g s0_0 s0_1 s0_2) (hB : Below w0.heap.size w0 w) (h : spec_l6Draw.f k s0_0 s0_1 s0_2 = some (r1, r2, r3)) :
  Calls Try.prog 104 #[.pointer (some ⟨g, 0, none⟩)] w fun e w' => ∃ v0_ : Value, e = .returned (v0_) ∧ Kd.R k27 27 w' w.heap.size (fun _ => True) v0_ r1 ∧ IsS109 w0 w' g s0_0 r2 r3 ∧ Below w0.heap.size w0 w' ∧ KeepBut w w' g none := by
 have hu27 := Try.underlying27
 have HI0 := Aside0.mk hI
 have HK := Aside0.mk (KeepBut.refl w g none)
 have HL := Aside0.mk hB.size
 clear hI
 have HW0 := Aside0.mk hB.size
 have HB := Aside0.mk hB
 clear hB
 have H : ((spec_l4Draw.f s0_0 s0_1 s0_2).bind fun bt152 => ((spec_l1Below.f s0_0 bt152.2.2.1 bt152.2.2.2 5).bind fun bt159 => (spec_l6Draw.l0 k (([(⟨bt152.1, bt152.2.1⟩ : S27)] : List (S27))) (wrap64 (1 + bt159.1)) s0_0 bt159.2.1 bt159.2.2))) = some (r1, r2, r3) := h
 clear h
 replace H := Option.bind_eq_some_iff.mp H
 obtain ⟨⟨t152, t153, t154, t155⟩, A20, H⟩ := H
 replace H : ((spec_l1Below.f s0_0 t154 t155 5).bind fun bt159 => (spec_l6Draw.l0 k (([(⟨t152, t153⟩ : S27)] : List (S27))) (wrap64 (1 + bt159.1)) s0_0 bt159.2.1 bt159.2.2)) = some (r1, r2, r3) := H
 have A2 := Aside0.mk A20
 clear A20
 obtain ⟨y156, hy156⟩ : ∃ y_ : List (S27), y_ = (([(⟨t152, t153⟩ : S27)] : List (S27))) := ⟨_, rfl⟩
 replace H : ((spec_l1Below.f s0_0 t154 t155 5).bind fun bt159 => (spec_l6Draw.l0 k y156 (wrap64 (1 + bt159.1)) s0_0 bt159.2.1 bt159.2.2)) = some (r1, r2, r3) := by first | (rw [hy156]; with_reducible exact H) | (have H2_ := (Option.bind_some _ _).symm.trans H; rw [hy156]; with_reducible exact H2_) | (have H2_ := (Option.bind_some _ _).symm.trans H; with_reducible exact H2_) | with_reducible exact H | (rw [hy156]; exact H) | exact H
 have Ny156 := Aside0.mk hy156
 clear hy156
 replace H := Option.bind_eq_some_iff.mp H
 obtain ⟨⟨t159, t160, t161⟩, A30, H⟩ := H
 replace H : (spec_l6Draw.l0 k y156 (wrap64 (1 + t159)) s0_0 t160 t161) = some (r1, r2, r3) := H
 have A3 := Aside0.mk A30
 clear A30
 have H' := Aside0.mk H
 clear H
 go_enter Try.func104, Try.ntmps104
 go_wp2_with (first | ((with_reducible refine gate_callee (f := 106) rfl ?_); refine goesL_ (some 8) rfl rfl Try.func106 (by kernel_rfl) rfl #[.pointer (some ⟨g, 0, none⟩)] rfl Hd.m_ ?_; (with_reducible refine (spec_l4Draw.calls g s0_0 s0_1 s0_2 t152 t153 t154 t155 w0 _ ?side1 ?side2 A2.out).mono ?_); (case side1 => repeat (first | (with_reducible first | exact HI0.out | apply IsS109.alloc | apply IsS109.drewN | apply IsS109.drew | apply IsS109.set_1 | apply IsS109.set_2) | exact HI0.out)); (case side2 => repeat (first | (with_reducible first | exact HB.out | apply below_alloc | apply pw_below_drewN | apply below_drew1 | refine below_set ?_ (IsS109.ge HI0.out)) | exact HB.out)); rintro e w4 ⟨rfl, hi, hb, hk⟩; refine ⟨_, rfl, ?_⟩; replace HK := Aside0.mk (KeepBut.trans (by repeat (first | (with_reducible first | exact HK.out | apply KeepBut.set_ | apply keep_drewN | apply keep_drew | apply keep_alloc) | exact HK.out)) hk (.inl rfl)); replace HB := Aside0.mk (hb); replace HI0 := Aside0.mk (hi); (try clear hb); (try clear hb2); (try clear hk); (try clear hi)) | ((with_reducible refine gate_dst (N := 9) rfl ?_); refine Kd.R_lit k27 _ 27 ?hg (N := 9) ?hd (xs := ([(⟨t152, t153⟩ : S27)] : List (S27))) (inner := [.int .i64 t152, .int .i64 t153]) (ok := fun _ => True) (okp := fun _ => True) ?hr ?hp (fun _ hk => hk) trivial (Below.refl _ _) (Nat.le_refl _) (by simp) ?_; (case hd => rfl); (case hg => rfl); (case hr => first | (go_simp; done) | (go_simp; rfl)); (case hp => exact (Reps.c2 (show Kd.M k27 _ _ _ (⟨t152, t153⟩ : S27) [.int .i64 t152, .int .i64 t153] from (k27_mkM _ _ _ (⟨t152, t153⟩ : S27) )) (Reps.none _ _))); intro v157 w5 ho6 hb hg_ hnew_; clear hg_ hnew_; (first | rw [← Ny156.out] at ho6 | (simp only [Int.reduceToNat] at ho6; rw [← Ny156.out] at ho6)); have HO158 := Aside0.mk (Kd.R_lower ho6 (keep_size (w := w) (g := g) (row := none) (by repeat (first | (with_reducible first | exact HK.out | apply KeepBut.set_ | apply keep_drewN | apply keep_drew | apply keep_alloc) | exact HK.out)))); replace HK := Aside0.mk (KeepBut.trans (by repeat (first | (with_reducible first | exact HK.out | apply KeepBut.set_ | apply keep_drewN | apply keep_drew | apply keep_alloc) | exact HK.out)) (KeepBut.of_below hb g none) (.inl rfl)); replace HB := Aside0.mk (below_step (by repeat (first | (with_reducible first | exact HB.out | apply below_alloc | apply pw_below_drewN | apply below_drew1 | refine below_set ?_ (IsS109.ge HI0.out)) | exact HB.out)) hb); replace HI0 := Aside0.mk (IsS109.below (by repeat (first | (with_reducible first | exact HI0.out | apply IsS109.alloc | apply IsS109.drewN | apply IsS109.drew | apply IsS109.set_1 | apply IsS109.set_2) | exact HI0.out)) hb); clear hb ho6) | ((with_reducible refine gate_callee (f := 89) rfl ?_); refine goesL_ (some 11) rfl rfl Try.func89 (by kernel_rfl) rfl #[.pointer (some ⟨g, 0, none⟩), .int .i64 5] rfl Hd.m_ ?_; (with_reducible refine (spec_l1Below.calls g s0_0 t154 t155 5 t159 t160 t161 w0 _ ?side1 ?side2 A3.out).mono ?_); (case side1 => repeat (first | (with_reducible first | exact HI0.out | apply IsS109.alloc | apply IsS109.drewN | apply IsS109.drew | apply IsS109.set_1 | apply IsS109.set_2) | exact HI0.out)); (case side2 => repeat (first | (with_reducible first | exact HB.out | apply below_alloc | apply pw_below_drewN | apply below_drew1 | refine below_set ?_ (IsS109.ge HI0.out)) | exact HB.out)); rintro e w7 ⟨rfl, hi, hb, hk⟩; refine ⟨_, rfl, ?_⟩; replace HO158 := Aside0.mk (Kd.R_mono (Kd.R_keep (IsS109.apart (show IsS109 w0 _ g s0_0 t154 t155 from by repeat (first | (with_reducible first | exact HI0.out | apply IsS109.alloc | apply IsS109.drewN | apply IsS109.drew | apply IsS109.set_1 | apply IsS109.set_2) | exact HI0.out)) (Hd.r_ HO158) (by decide)) hk (fun _ h => h.2)) (fun _ h => h.1)); replace HK := Aside0.mk (KeepBut.trans (by repeat (first | (with_reducible first | exact HK.out | apply KeepBut.set_ | apply keep_drewN | apply keep_drew | apply keep_alloc) | exact HK.out)) hk (.inl rfl)); replace HB := Aside0.mk (hb); replace HI0 := Aside0.mk (hi); (try clear hb); (try clear hb2); (try clear hk); (try clear hi)))
 go_loopg [3, 4] k (fun kq v3 v4 w' => ∃ (x3_1 : List (S27)) (x4_1 : Int) (x1001_1 : Int) (x1002_1 : Int), v4 = .int .i64 x4_1 ∧ Aside0 (spec_l6Draw.l0 kq x3_1 x4_1 s0_0 x1001_1 x1002_1 = some (r1, r2, r3)) ∧ Aside0 (kq ≤ k) ∧ Aside0 (Kd.R k27 27 w' w.heap.size (fun _ => True) v3 x3_1) ∧ Aside0 (IsS109 w0 w' g s0_0 x1001_1 x1002_1) ∧ Aside0 (KeepBut w w' g none) ∧ Aside0 (Below w0.heap.size w0 w'))
 case atStart => exact ⟨(y156), (wrap64 (1 + t159)), (t160), (t161), (by first | rfl | (simp; done) | (simp [*]; done)), H', ⟨Nat.le_refl _⟩, ⟨by (with_reducible repeat (first | apply Kd.R_alloc | apply Kd.R_drewN | apply Kd.R_drew)); exact HO158.out⟩, ⟨by repeat (first | (with_reducible first | exact HI0.out | apply IsS109.alloc | apply IsS109.drewN | apply IsS109.drew | apply IsS109.set_1 | apply IsS109.set_2) | exact HI0.out)⟩, ⟨by repeat (first | (with_reducible first | exact HK.out | apply KeepBut.set_ | apply keep_drewN | apply keep_drew | apply keep_alloc) | exact HK.out)⟩, ⟨by repeat (first | (with_reducible first | exact HB.out | apply below_alloc | apply pw_below_drewN | apply below_drew1 | refine below_set ?_ (IsS109.ge HI0.out)) | exact HB.out)⟩⟩
 case round =>
  clear H'
  try clear c1
  try clear c2
  try clear p2
  try clear p6
  obtain ⟨x3_1, x4_1, x1001_1, x1002_1, rfl, HA, HK1, HO_3, HI0, HK, HB⟩ := hrel
  cases gk with
  | zero => exact absurd HA.out (by simp [spec_l6Draw.l0])
  | succ k1 =>
   have H := HA.out
   clear HA
   simp only [spec_l6Draw.l0] at H
   by_cases c8 : x4_1 > 0
   ·
    rw [if_pos c8] at H
    have c8b0 : decide (0 < x4_1) = true := decide_eq_true c8
    clear c8
    obtain ⟨ji9, hji9⟩ : ∃ j_ : Int, (wrap64 ((x3_1.length : Int) - 1)) = j_ := ⟨_, rfl⟩
    replace H : (if 0 ≤ (ji9) then (if (ji9) < (x3_1.length : Int) then ((spec_l1Below.f s0_0 x1001_1 x1002_1 14).bind fun bt164 => ((spec_l1Below.f s0_0 bt164.2.1 bt164.2.2 4).bind fun bt167 => ((spec_Min.f 200 (wrap64 (((rd_T27 x3_1 (ji9)).f1) + bt167.1))).bind fun t170 => (if (bt164.1 == ((rd_T27 x3_1 (ji9)).f0) && (t170 == ((rd_T27 x3_1 (ji9)).f1))) = true then (if x3_1.length < 8796093022208 then (spec_l6Draw.l0 k1 (x3_1 ++ [(⟨wrap64 (bt164.1 + 1), t170⟩ : S27)]) (wrap64 (x4_1 - 1)) s0_0 bt167.2.1 bt167.2.2) else (none)) else (if x3_1.length < 8796093022208 then (spec_l6Draw.l0 k1 (x3_1 ++ [(⟨bt164.1, t170⟩ : S27)]) (wrap64 (x4_1 - 1)) s0_0 bt167.2.1 bt167.2.2) else (none)))))) else (none)) else (none)) = some (r1, r2, r3) := by first | (rw [hji9] at H; exact H) | (simp only [hji9] at H ⊢; exact H)
    have hji9w : (IntKind.i64.wrap ((x3_1.length : Int) - 1)) = ji9 := (i64_w _).trans hji9
    by_cases c10 : 0 ≤ (ji9)
    ·
     rw [if_pos c10] at H
     have c10b0 : decide (0 ≤ (ji9)) = true := decide_eq_true c10
     clear c10
     by_cases c11 : (ji9) < (x3_1.length : Int)
     ·
      rw [if_pos c11] at H
      have c11b0 : decide ((ji9) < (x3_1.length : Int)) = true := decide_eq_true c11
      clear c11
      replace H := Option.bind_eq_some_iff.mp H
      obtain ⟨⟨t164, t165, t166⟩, A120, H⟩ := H
      replace H : ((spec_l1Below.f s0_0 t165 t166 4).bind fun bt167 => ((spec_Min.f 200 (wrap64 (((rd_T27 x3_1 (ji9)).f1) + bt167.1))).bind fun t170 => (if (t164 == ((rd_T27 x3_1 (ji9)).f0) && (t170 == ((rd_T27 x3_1 (ji9)).f1))) = true then (if x3_1.length < 8796093022208 then (spec_l6Draw.l0 k1 (x3_1 ++ [(⟨wrap64 (t164 + 1), t170⟩ : S27)]) (wrap64 (x4_1 - 1)) s0_0 bt167.2.1 bt167.2.2) else (none)) else (if x3_1.length < 8796093022208 then (spec_l6Draw.l0 k1 (x3_1 ++ [(⟨t164, t170⟩ : S27)]) (wrap64 (x4_1 - 1)) s0_0 bt167.2.1 bt167.2.2) else (none))))) = some (r1, r2, r3) := H
      have A12 := Aside0.mk A120
      clear A120
      replace H := Option.bind_eq_some_iff.mp H
      obtain ⟨⟨t167, t168, t169⟩, A130, H⟩ := H
      replace H : ((spec_Min.f 200 (wrap64 (((rd_T27 x3_1 (ji9)).f1) + t167))).bind fun t170 => (if (t164 == ((rd_T27 x3_1 (ji9)).f0) && (t170 == ((rd_T27 x3_1 (ji9)).f1))) = true then (if x3_1.length < 8796093022208 then (spec_l6Draw.l0 k1 (x3_1 ++ [(⟨wrap64 (t164 + 1), t170⟩ : S27)]) (wrap64 (x4_1 - 1)) s0_0 t168 t169) else (none)) else (if x3_1.length < 8796093022208 then (spec_l6Draw.l0 k1 (x3_1 ++ [(⟨t164, t170⟩ : S27)]) (wrap64 (x4_1 - 1)) s0_0 t168 t169) else (none)))) = some (r1, r2, r3) := H
      have A13 := Aside0.mk A130
      clear A130
      replace H := Option.bind_eq_some_iff.mp H
      obtain ⟨t170, A140, H⟩ := H
      replace H : (if (t164 == ((rd_T27 x3_1 (ji9)).f0) && (t170 == ((rd_T27 x3_1 (ji9)).f1))) = true then (if x3_1.length < 8796093022208 then (spec_l6Draw.l0 k1 (x3_1 ++ [(⟨wrap64 (t164 + 1), t170⟩ : S27)]) (wrap64 (x4_1 - 1)) s0_0 t168 t169) else (none)) else (if x3_1.length < 8796093022208 then (spec_l6Draw.l0 k1 (x3_1 ++ [(⟨t164, t170⟩ : S27)]) (wrap64 (x4_1 - 1)) s0_0 t168 t169) else (none))) = some (r1, r2, r3) := H
      have A14 := Aside0.mk A140
      clear A140
      by_cases c15 : (t164 == ((rd_T27 x3_1 (ji9)).f0) && (t170 == ((rd_T27 x3_1 (ji9)).f1))) = true
      ·
       rw [if_pos c15] at H
       have c15b0 : (t164 == ((rd_T27 x3_1 (ji9)).f0) && (t170 == ((rd_T27 x3_1 (ji9)).f1))) = true := c15
       (try (have c15b1 : decide (t164 = ((rd_T27 x3_1 (ji9)).f0) && (t170 == ((rd_T27 x3_1 (ji9)).f1))) = true := by simpa using c15))
       (try (have c15b2 : (t164 == ((rd_T27 x3_1 (ji9)).f0) && (t170 == ((rd_T27 x3_1 (ji9)).f1))) = true := by simpa using c15))
       clear c15
       by_cases c16 : x3_1.length < 8796093022208
       ·
        rw [if_pos c16] at H
        have LMc16 := Aside0.mk c16
        clear c16
        obtain ⟨y172, hy172⟩ : ∃ y_ : List (S27), y_ = (x3_1 ++ [(⟨wrap64 (t164 + 1), t170⟩ : S27)]) := ⟨_, rfl⟩
        replace H : (spec_l6Draw.l0 k1 y172 (wrap64 (x4_1 - 1)) s0_0 t168 t169) = some (r1, r2, r3) := by first | (rw [hy172]; with_reducible exact H) | (have H2_ := (Option.bind_some _ _).symm.trans H; rw [hy172]; with_reducible exact H2_) | (have H2_ := (Option.bind_some _ _).symm.trans H; with_reducible exact H2_) | with_reducible exact H | (rw [hy172]; exact H) | exact H
        have Ny172 := Aside0.mk hy172
        clear hy172
        have H' := Aside0.mk H
        clear H
        obtain ⟨Ao17, co17, eo17⟩ := Kd.R_slice HO_3.out
        subst eo17
        have p162 : 0 ≤ ((ji9) : Int) := of_decide_eq_true Hd.a_
        have q162 : (ji9) < (x3_1.length : Int) := of_decide_eq_true Hd.a_
        obtain ⟨ad162, e162, hx162_0, hx162_1⟩ := at_T27 (Kd.R_reads' HO_3.out).2.2 (ji9) p162 q162
        cases e162
        replace p162 := eq_true p162
        replace q162 := eq_true q162
        try go_wp2_with (first | ((with_reducible refine gate_dst (N := 5) rfl ?_); refine Hd.box_ 5 (#[.int .i64 0, .int .i64 0]) 27 ?_; intro gb163 hg w18 hbox hb; replace HO_3 := Aside0.mk (Kd.R_below (Kd.R_elderB (Hd.r_ HO_3) gb163 (Nat.le_of_eq hg.symm)) hb); replace HB := Aside0.mk (below_step (by repeat (first | (with_reducible first | exact HB.out | apply below_alloc | apply pw_below_drewN | apply below_drew1 | refine below_set ?_ (IsS109.ge HI0.out)) | exact HB.out)) hb); have BK163 := Aside0.mk (hbox); have GW163 := Aside0.mk ((by rw [hg]; exact (keep_size (w := w) (g := g) (row := none) (by repeat (first | (with_reducible first | exact HK.out | apply KeepBut.set_ | apply keep_drewN | apply keep_drew | apply keep_alloc) | exact HK.out))) : w.heap.size ≤ gb163)); have GE163 := Aside0.mk ((Nat.le_trans HW0.out (by rw [hg]; exact (keep_size (w := w) (g := g) (row := none) (by repeat (first | (with_reducible first | exact HK.out | apply KeepBut.set_ | apply keep_drewN | apply keep_drew | apply keep_alloc) | exact HK.out))) : w.heap.size ≤ gb163) : w0.heap.size ≤ gb163)); replace HK := Aside0.mk (KeepBut.trans (by repeat (first | (with_reducible first | exact HK.out | apply KeepBut.set_ | apply keep_drewN | apply keep_drew | apply keep_alloc) | exact HK.out)) (KeepBut.of_below hb g none) (.inl rfl)); have NB0_163 := Aside0.mk ((by rw [hg]; exact Nat.ne_of_lt (IsS109.lt (show IsS109 w0 _ g s0_0 x1001_1 x1002_1 from by repeat (first | (with_reducible first | exact HI0.out | apply IsS109.alloc | apply IsS109.drewN | apply IsS109.drew | apply IsS109.set_1 | apply IsS109.set_2) | exact HI0.out))) : g ≠ gb163)); have NB163_0 := Aside0.mk ((by rw [hg]; exact Nat.ne_of_gt (IsS109.lt (show IsS109 w0 _ g s0_0 x1001_1 x1002_1 from by repeat (first | (with_reducible first | exact HI0.out | apply IsS109.alloc | apply IsS109.drewN | apply IsS109.drew | apply IsS109.set_1 | apply IsS109.set_2) | exact HI0.out))) : gb163 ≠ g)); replace HI0 := Aside0.mk (IsS109.below (by repeat (first | (with_reducible first | exact HI0.out | apply IsS109.alloc | apply IsS109.drewN | apply IsS109.drew | apply IsS109.set_1 | apply IsS109.set_2) | exact HI0.out)) hb); clear hb hbox hg; have hnb19 := NB163_0.out; have hnc19 := NB0_163.out; obtain ⟨hcz20_0, hcz20_1⟩ := Hd.c2_ BK163.out; obtain ⟨hfz20_0, hfz20_1⟩ := Hd.f2_ BK163.out))
        have n0_ : Aside0 (Kd.R k27 27 ((w18.setCell ⟨gb163, 0, none⟩ (.int .i64 ((rd_T27 x3_1 (ji9)).f0))).setCell ⟨gb163, 1, none⟩ (.int .i64 ((rd_T27 x3_1 (ji9)).f1))) w.heap.size (fun k_ => k_ ≠ gb163) (.slice (some ad162) x3_1.length co17) x3_1) := ⟨by (with_reducible repeat (first | apply Kd.R_alloc | apply Kd.R_drewN | apply Kd.R_drew)); exact Kd.R_mono (Kd.R_far (p := ⟨gb163, 1, none⟩) (Kd.R_far (p := ⟨gb163, 0, none⟩) (Kd.R_mono HO_3.out (fun k_ hk => (⟨hk, hk.2⟩ : _ ∧ k_ ≠ gb163))) (fun _ hk => hk.2) (.int .i64 ((rd_T27 x3_1 (ji9)).f0))) (fun _ hk => hk.2) (.int .i64 ((rd_T27 x3_1 (ji9)).f1))) (fun _ hk => hk.1.2)⟩
        have n1_ : Aside0 (((w18.setCell ⟨gb163, 0, none⟩ (.int .i64 ((rd_T27 x3_1 (ji9)).f0))).setCell ⟨gb163, 1, none⟩ (.int .i64 ((rd_T27 x3_1 (ji9)).f1))).heap[gb163]? = some (.cells #[.int .i64 ((rd_T27 x3_1 (ji9)).f0), .int .i64 ((rd_T27 x3_1 (ji9)).f1)] 27 (0, 0))) := ⟨by (with_reducible repeat (first | refine blk_drewN ?_ _ | refine blk_drew ?_ | refine blk_alloc ?_ _)); refine blk_put (cs := #[.int .i64 ((rd_T27 x3_1 (ji9)).f0), .int .i64 0]) ?_ 1 _ rfl; (with_reducible repeat (first | refine blk_drewN ?_ _ | refine blk_drew ?_ | refine blk_alloc ?_ _)); refine blk_put (cs := #[.int .i64 0, .int .i64 0]) ?_ 0 _ rfl; (with_reducible repeat (first | refine blk_drewN ?_ _ | refine blk_drew ?_ | refine blk_alloc ?_ _)); exact BK163.out⟩
        have n2_ : Aside0 (IsS109 w0 ((w18.setCell ⟨gb163, 0, none⟩ (.int .i64 ((rd_T27 x3_1 (ji9)).f0))).setCell ⟨gb163, 1, none⟩ (.int .i64 ((rd_T27 x3_1 (ji9)).f1))) g s0_0 x1001_1 x1002_1) := ⟨by repeat (first | (with_reducible first | exact HI0.out | apply IsS109.alloc | apply IsS109.drewN | apply IsS109.drew | apply IsS109.set_1 | apply IsS109.set_2 | refine IsS109.far ?_ NB0_163.out _) | exact HI0.out)⟩
        have n3_ : Aside0 (KeepBut w ((w18.setCell ⟨gb163, 0, none⟩ (.int .i64 ((rd_T27 x3_1 (ji9)).f0))).setCell ⟨gb163, 1, none⟩ (.int .i64 ((rd_T27 x3_1 (ji9)).f1))) g none) := ⟨by repeat (first | (with_reducible first | exact HK.out | apply KeepBut.set_ | apply keep_drewN | apply keep_drew | apply keep_alloc | refine keep_far ?_ GW163.out _) | exact HK.out)⟩
        have n4_ : Aside0 (Below w0.heap.size w0 ((w18.setCell ⟨gb163, 0, none⟩ (.int .i64 ((rd_T27 x3_1 (ji9)).f0))).setCell ⟨gb163, 1, none⟩ (.int .i64 ((rd_T27 x3_1 (ji9)).f1)))) := ⟨by repeat (first | (with_reducible first | exact HB.out | apply below_alloc | apply pw_below_drewN | apply below_drew1 | refine below_set ?_ (IsS109.ge HI0.out) | refine below_set ?_ GE163.out) | exact HB.out)⟩
        (try clear HO_3)
        (try clear BK163)
        (try clear HI0)
        (try clear HK)
        (try clear HB)
        generalize ((w18.setCell ⟨gb163, 0, none⟩ (.int .i64 ((rd_T27 x3_1 (ji9)).f0))).setCell ⟨gb163, 1, none⟩ (.int .i64 ((rd_T27 x3_1 (ji9)).f1))) = w21 at n0_ n1_ n2_ n3_ n4_ ⊢
        have HO_3 := n0_
        have BK163 := n1_
        have HI0 := n2_
        have HK := n3_
        have HB := n4_
        clear n0_ n1_ n2_ n3_ n4_
        replace HO_3 := Aside0.mk (Kd.R_drew HO_3.out)
        replace BK163 := Aside0.mk (blk_drew BK163.out)
        replace HI0 := Aside0.mk (IsS109.drew HI0.out)
        replace HK := Aside0.mk (keep_drew HK.out)
        replace HB := Aside0.mk (below_drew1 HB.out)
        refine start_ (n := 11) (S := fun w' => w'.cell? ⟨gb163, 0, none⟩ = some (.int .i64 ((rd_T27 x3_1 (ji9)).f0)) ∧ w'.cell? ⟨gb163, 1, none⟩ = some (.int .i64 ((rd_T27 x3_1 (ji9)).f1))) (ds := []) #[false, false, false, false, false, false, false, false, false, false, false] (by kernel_rfl) rfl rfl ⟨(blk_cell BK163.out 0).trans rfl, (blk_cell BK163.out 1).trans rfl⟩ (fun hHeld => ?_); refine with_tabW spec_l6Draw.tab6 spec_l6Draw.bits6 (fun HT_ HW_ => ?_)
        generalize w21.drew = w22 at HO_3 BK163 HI0 HK HB hHeld ⊢
        refine Hd.p_ HT_ 0 (some 23) #[true, false, false, false, false, false, false, false, false, false, false] ?_
        refine Hd.p_ HT_ 2 (some 25) #[true, false, true, false, false, false, false, false, false, false, false] ?_
        refine Hd.p_ HT_ 4 (some 27) #[true, false, true, false, true, false, false, false, false, false, false] ?_
        refine Hd.t_ HT_ HW_ hHeld 3 (some 26) #[true, false, true, true, true, false, false, false, false, false, false] ?_
        refine join_ (σ := Nat) 1 #[true, true, true, true, true, true, true, true, true, true, false] (fun s_ => [(24, .int .i64 t164), (28, .int .i64 t167), (30, .int .i64 t170), (6, .pointer (some ⟨s_, 0, none⟩)), (29, .int .i64 (wrap64 (((rd_T27 x3_1 (ji9)).f1) + t167))), (31, .agg #[.int .i64 t164, .int .i64 t170])]) (fun s_ w' => (w'.cell? ⟨gb163, 0, none⟩ = some (.int .i64 ((rd_T27 x3_1 (ji9)).f0)) ∧ w'.cell? ⟨gb163, 1, none⟩ = some (.int .i64 ((rd_T27 x3_1 (ji9)).f1))) ∧ (Kd.R k27 27 w' w.heap.size (fun k_ => k_ ≠ gb163 ∧ k_ ≠ s_) (.slice (some ad162) x3_1.length co17) x3_1) ∧ (w'.heap[gb163]? = some (.cells #[.int .i64 ((rd_T27 x3_1 (ji9)).f0), .int .i64 ((rd_T27 x3_1 (ji9)).f1)] 27 (0, 0))) ∧ (w'.heap[s_]? = some (.cells #[.int .i64 0, .int .i64 0] 27 (0, 0))) ∧ (w.heap.size ≤ s_) ∧ (w0.heap.size ≤ s_) ∧ (g ≠ s_) ∧ (s_ ≠ g) ∧ (gb163 ≠ s_) ∧ (s_ ≠ gb163) ∧ (IsS109 w0 w' g s0_0 t168 t169) ∧ (KeepBut w w' g none) ∧ (Below w0.heap.size w0 w')) ?_ ?_
        rotate_left
        ·
         intro hCont
         refine two_ (i := 1) (j := 9) (Ni := some 24) (Nj := some 6) #[true, true, true, true, true, false, false, false, false, false, false] #[true, false, true, true, true, false, false, false, false, true, false] rfl rfl rfl rfl (two_of HT_.out (by kernel_rfl)) (by decide) (by decide) (fun K hK => ?_) (fun K hK => ?_)
         ·
          skip
          refine goes_ Try.func89 (by kernel_rfl) rfl #[.pointer (some ⟨g, 0, none⟩), .int .i64 14] (by rfl) rfl rfl Hd.m_ ?_
          with_reducible refine (spec_l1Below.calls g s0_0 x1001_1 x1002_1 14 t164 t165 t166 w0 _ ?side1 ?side2 A12.out).mono ?_
          (case side1 => repeat (first | (with_reducible first | exact HI0.out | apply IsS109.alloc | apply IsS109.drewN | apply IsS109.drew | apply IsS109.set_1 | apply IsS109.set_2 | refine IsS109.far ?_ NB0_163.out _) | exact HI0.out))
          (case side2 => repeat (first | (with_reducible first | exact HB.out | apply below_alloc | apply pw_below_drewN | apply below_drew1 | refine below_set ?_ (IsS109.ge HI0.out) | refine below_set ?_ GE163.out) | exact HB.out))
          rintro e w23 ⟨rfl, hi, hb, hk⟩
          refine ⟨_, rfl, ?_⟩
          replace HO_3 := Aside0.mk (Kd.R_mono (Kd.R_keep (IsS109.apart (show IsS109 w0 _ g s0_0 x1001_1 x1002_1 from by repeat (first | (with_reducible first | exact HI0.out | apply IsS109.alloc | apply IsS109.drewN | apply IsS109.drew | apply IsS109.set_1 | apply IsS109.set_2 | refine IsS109.far ?_ NB0_163.out _) | exact HI0.out)) (Hd.r_ HO_3) (by decide)) hk (fun _ h => h.2)) (fun _ h => h.1))
          replace BK163 := Aside0.mk (KeepBut.blk hk (g' := gb163) (o := .cells #[.int .i64 ((rd_T27 x3_1 (ji9)).f0), .int .i64 ((rd_T27 x3_1 (ji9)).f1)] 27 (0, 0)) (Hd.k_ BK163) NB163_0.out (by simp))
          replace HK := Aside0.mk (KeepBut.trans (by repeat (first | (with_reducible first | exact HK.out | apply KeepBut.set_ | apply keep_drewN | apply keep_drew | apply keep_alloc | refine keep_far ?_ GW163.out _) | exact HK.out)) hk (.inl rfl))
          replace HB := Aside0.mk (hb)
          replace HI0 := Aside0.mk (hi)
          (try clear hb)
          (try clear hb2)
          (try clear hk)
          (try clear hi)
          refine hK.out _ _ ⟨(blk_cell BK163.out 0).trans rfl, (blk_cell BK163.out 1).trans rfl⟩ (fun hHeld => ?_)
          clear hK K
          refine Hd.n_ (some 24) ?_
          refine two_ (i := 5) (j := 9) (Ni := some 28) (Nj := some 6) #[true, true, true, true, true, true, false, false, false, false, false] #[true, true, true, true, true, false, false, false, false, true, false] rfl rfl rfl rfl (two_of HT_.out (by kernel_rfl)) (by decide) (by decide) (fun K hK => ?_) (fun K hK => ?_)
          ·
           skip
           refine goes_ Try.func89 (by kernel_rfl) rfl #[.pointer (some ⟨g, 0, none⟩), .int .i64 4] (by rfl) rfl rfl Hd.m_ ?_
           with_reducible refine (spec_l1Below.calls g s0_0 t165 t166 4 t167 t168 t169 w0 _ ?side1 ?side2 A13.out).mono ?_
           (case side1 => repeat (first | (with_reducible first | exact HI0.out | apply IsS109.alloc | apply IsS109.drewN | apply IsS109.drew | apply IsS109.set_1 | apply IsS109.set_2 | refine IsS109.far ?_ NB0_163.out _) | exact HI0.out))
           (case side2 => repeat (first | (with_reducible first | exact HB.out | apply below_alloc | apply pw_below_drewN | apply below_drew1 | refine below_set ?_ (IsS109.ge HI0.out) | refine below_set ?_ GE163.out) | exact HB.out))
           rintro e w24 ⟨rfl, hi, hb, hk⟩
           refine ⟨_, rfl, ?_⟩
           replace HO_3 := Aside0.mk (Kd.R_mono (Kd.R_keep (IsS109.apart (show IsS109 w0 _ g s0_0 t165 t166 from by repeat (first | (with_reducible first | exact HI0.out | apply IsS109.alloc | apply IsS109.drewN | apply IsS109.drew | apply IsS109.set_1 | apply IsS109.set_2 | refine IsS109.far ?_ NB0_163.out _) | exact HI0.out)) (Hd.r_ HO_3) (by decide)) hk (fun _ h => h.2)) (fun _ h => h.1))
           replace BK163 := Aside0.mk (KeepBut.blk hk (g' := gb163) (o := .cells #[.int .i64 ((rd_T27 x3_1 (ji9)).f0), .int .i64 ((rd_T27 x3_1 (ji9)).f1)] 27 (0, 0)) (Hd.k_ BK163) NB163_0.out (by simp))
           replace HK := Aside0.mk (KeepBut.trans (by repeat (first | (with_reducible first | exact HK.out | apply KeepBut.set_ | apply keep_drewN | apply keep_drew | apply keep_alloc | refine keep_far ?_ GW163.out _) | exact HK.out)) hk (.inl rfl))
           replace HB := Aside0.mk (hb)
           replace HI0 := Aside0.mk (hi)
           (try clear hb)
           (try clear hb2)
           (try clear hk)
           (try clear hi)
           refine hK.out _ _ ⟨(blk_cell BK163.out 0).trans rfl, (blk_cell BK163.out 1).trans rfl⟩ (fun hHeld => ?_)
           clear hK K
           refine Hd.n_ (some 28) ?_
           refine Hd.p_ HT_ 6 (some 29) #[true, true, true, true, true, true, true, false, false, false, false] ?_
           refine two_ (i := 7) (j := 9) (Ni := some 30) (Nj := some 6) #[true, true, true, true, true, true, true, true, false, false, false] #[true, true, true, true, true, true, true, false, false, true, false] rfl rfl rfl rfl (two_of HT_.out (by kernel_rfl)) (by decide) (by decide) (fun K hK => ?_) (fun K hK => ?_)
           ·
            skip
            refine goes_ Try.func119 (by kernel_rfl) rfl #[.int .i64 200, .int .i64 (wrap64 (((rd_T27 x3_1 (ji9)).f1) + t167))] (by rfl) rfl rfl (by (try simp only [List.map_toArray, List.map_cons, List.map_nil]); first | done | (simp only [hji9]; rfl) | rfl | (simp only [List.length_drop, List.length_take]; rfl)) ?_
            with_reducible refine (spec_Min.calls 200 (wrap64 (((rd_T27 x3_1 (ji9)).f1) + t167)) t170 _ A14.out).mono ?_
            rintro e w' ⟨rfl, ⟨nd, rfl⟩⟩
            refine ⟨_, rfl, ?_⟩
            replace HO_3 := Aside0.mk (Kd.R_drewN HO_3.out nd)
            replace BK163 := Aside0.mk (blk_drewN BK163.out nd)
            replace HB := Aside0.mk (pw_below_drewN HB.out nd)
            generalize w22.drewN nd = w22 at HO_3 BK163 HB ⊢
            refine hK.out _ _ ⟨(blk_cell BK163.out 0).trans rfl, (blk_cell BK163.out 1).trans rfl⟩ (fun hHeld => ?_)
            clear hK K
            refine Hd.n_ (some 30) ?_
            refine Hd.p_ HT_ 8 (some 31) #[true, true, true, true, true, true, true, true, true, false, false] ?_
            refine Hd.o_ HT_ 9 (some 6) #[true, true, true, true, true, true, true, true, true, true, false] (fun K hK => ?_)
            refine box_step ?hg (N := 6) ?hd (cs := #[.int .i64 0, .int .i64 0]) (t := 27) ?hr ?_; (case hd => rfl); (case hg => rfl); (case hr => first | (go_simp; done) | (go_simp; rfl))
            intro gb171 hg w25 hbox hb
            replace HO_3 := Aside0.mk (Kd.R_below (Kd.R_elderB (Hd.r_ HO_3) gb171 (Nat.le_of_eq hg.symm)) hb)
            replace HB := Aside0.mk (below_step (by repeat (first | (with_reducible first | exact HB.out | apply below_alloc | apply pw_below_drewN | apply below_drew1 | refine below_set ?_ (IsS109.ge HI0.out) | refine below_set ?_ GE163.out) | exact HB.out)) hb)
            have BK171 := Aside0.mk (hbox)
            have GW171 := Aside0.mk ((by rw [hg]; exact (keep_size (w := w) (g := g) (row := none) (by repeat (first | (with_reducible first | exact HK.out | apply KeepBut.set_ | apply keep_drewN | apply keep_drew | apply keep_alloc | refine keep_far ?_ GW163.out _) | exact HK.out))) : w.heap.size ≤ gb171))
            have GE171 := Aside0.mk ((Nat.le_trans HW0.out (by rw [hg]; exact (keep_size (w := w) (g := g) (row := none) (by repeat (first | (with_reducible first | exact HK.out | apply KeepBut.set_ | apply keep_drewN | apply keep_drew | apply keep_alloc | refine keep_far ?_ GW163.out _) | exact HK.out))) : w.heap.size ≤ gb171) : w0.heap.size ≤ gb171))
            replace HK := Aside0.mk (KeepBut.trans (by repeat (first | (with_reducible first | exact HK.out | apply KeepBut.set_ | apply keep_drewN | apply keep_drew | apply keep_alloc | refine keep_far ?_ GW163.out _) | exact HK.out)) (KeepBut.of_below hb g none) (.inl rfl))
            have NB163_171 := Aside0.mk ((Hd.lt_ BK163 hg))
            have NB171_163 := Aside0.mk ((Hd.gt_ BK163 hg))
            replace BK163 := Aside0.mk (Hd.kb_ BK163 hb)
            have NB0_171 := Aside0.mk ((by rw [hg]; exact Nat.ne_of_lt (IsS109.lt (show IsS109 w0 _ g s0_0 t168 t169 from by repeat (first | (with_reducible first | exact HI0.out | apply IsS109.alloc | apply IsS109.drewN | apply IsS109.drew | apply IsS109.set_1 | apply IsS109.set_2 | refine IsS109.far ?_ NB0_163.out _) | exact HI0.out))) : g ≠ gb171))
            have NB171_0 := Aside0.mk ((by rw [hg]; exact Nat.ne_of_gt (IsS109.lt (show IsS109 w0 _ g s0_0 t168 t169 from by repeat (first | (with_reducible first | exact HI0.out | apply IsS109.alloc | apply IsS109.drewN | apply IsS109.drew | apply IsS109.set_1 | apply IsS109.set_2 | refine IsS109.far ?_ NB0_163.out _) | exact HI0.out))) : gb171 ≠ g))
            replace HI0 := Aside0.mk (IsS109.below (by repeat (first | (with_reducible first | exact HI0.out | apply IsS109.alloc | apply IsS109.drewN | apply IsS109.drew | apply IsS109.set_1 | apply IsS109.set_2 | refine IsS109.far ?_ NB0_163.out _) | exact HI0.out)) hb)
            clear hb hbox hg
            refine hK.out _ _ ⟨(blk_cell BK163.out 0).trans rfl, (blk_cell BK163.out 1).trans rfl⟩ (fun hHeld => ?_)
            clear hK K
            refine Hd.n_ (some 6) ?_
            exact norm_ (by simp only [putAll, Act.put, List.setIfInBounds_toArray, List.set_cons_zero, List.set_cons_succ]) (hCont (gb171) _ ⟨hHeld, (Hd.r_ HO_3), (Hd.k_ BK163), (Hd.k_ BK171), GW171.out, GE171.out, NB0_171.out, NB171_0.out, NB163_171.out, NB171_163.out, (by repeat (first | (with_reducible first | exact HI0.out | apply IsS109.alloc | apply IsS109.drewN | apply IsS109.drew | apply IsS109.set_1 | apply IsS109.set_2 | refine IsS109.far ?_ NB0_163.out _ | refine IsS109.far ?_ NB0_171.out _) | exact HI0.out)), (by repeat (first | (with_reducible first | exact HK.out | apply KeepBut.set_ | apply keep_drewN | apply keep_drew | apply keep_alloc | refine keep_far ?_ GW163.out _ | refine keep_far ?_ GW171.out _) | exact HK.out)), (by repeat (first | (with_reducible first | exact HB.out | apply below_alloc | apply pw_below_drewN | apply below_drew1 | refine below_set ?_ (IsS109.ge HI0.out) | refine below_set ?_ GE163.out | refine below_set ?_ GE171.out) | exact HB.out))⟩)
           ·
            skip
            refine box_step ?hg (N := 6) ?hd (cs := #[.int .i64 0, .int .i64 0]) (t := 27) ?hr ?_; (case hd => rfl); (case hg => rfl); (case hr => first | (go_simp; done) | (go_simp; rfl))
            intro gb171 hg w25 hbox hb
            replace HO_3 := Aside0.mk (Kd.R_below (Kd.R_elderB (Hd.r_ HO_3) gb171 (Nat.le_of_eq hg.symm)) hb)
            replace HB := Aside0.mk (below_step (by repeat (first | (with_reducible first | exact HB.out | apply below_alloc | apply pw_below_drewN | apply below_drew1 | refine below_set ?_ (IsS109.ge HI0.out) | refine below_set ?_ GE163.out) | exact HB.out)) hb)
            have BK171 := Aside0.mk (hbox)
            have GW171 := Aside0.mk ((by rw [hg]; exact (keep_size (w := w) (g := g) (row := none) (by repeat (first | (with_reducible first | exact HK.out | apply KeepBut.set_ | apply keep_drewN | apply keep_drew | apply keep_alloc | refine keep_far ?_ GW163.out _) | exact HK.out))) : w.heap.size ≤ gb171))
            have GE171 := Aside0.mk ((Nat.le_trans HW0.out (by rw [hg]; exact (keep_size (w := w) (g := g) (row := none) (by repeat (first | (with_reducible first | exact HK.out | apply KeepBut.set_ | apply keep_drewN | apply keep_drew | apply keep_alloc | refine keep_far ?_ GW163.out _) | exact HK.out))) : w.heap.size ≤ gb171) : w0.heap.size ≤ gb171))
            replace HK := Aside0.mk (KeepBut.trans (by repeat (first | (with_reducible first | exact HK.out | apply KeepBut.set_ | apply keep_drewN | apply keep_drew | apply keep_alloc | refine keep_far ?_ GW163.out _) | exact HK.out)) (KeepBut.of_below hb g none) (.inl rfl))
            have NB163_171 := Aside0.mk ((Hd.lt_ BK163 hg))
            have NB171_163 := Aside0.mk ((Hd.gt_ BK163 hg))
            replace BK163 := Aside0.mk (Hd.kb_ BK163 hb)
            have NB0_171 := Aside0.mk ((by rw [hg]; exact Nat.ne_of_lt (IsS109.lt (show IsS109 w0 _ g s0_0 t168 t169 from by repeat (first | (with_reducible first | exact HI0.out | apply IsS109.alloc | apply IsS109.drewN | apply IsS109.drew | apply IsS109.set_1 | apply IsS109.set_2 | refine IsS109.far ?_ NB0_163.out _) | exact HI0.out))) : g ≠ gb171))
            have NB171_0 := Aside0.mk ((by rw [hg]; exact Nat.ne_of_gt (IsS109.lt (show IsS109 w0 _ g s0_0 t168 t169 from by repeat (first | (with_reducible first | exact HI0.out | apply IsS109.alloc | apply IsS109.drewN | apply IsS109.drew | apply IsS109.set_1 | apply IsS109.set_2 | refine IsS109.far ?_ NB0_163.out _) | exact HI0.out))) : gb171 ≠ g))
            replace HI0 := Aside0.mk (IsS109.below (by repeat (first | (with_reducible first | exact HI0.out | apply IsS109.alloc | apply IsS109.drewN | apply IsS109.drew | apply IsS109.set_1 | apply IsS109.set_2 | refine IsS109.far ?_ NB0_163.out _) | exact HI0.out)) hb)
            clear hb hbox hg
            refine hK.out _ _ ⟨(blk_cell BK163.out 0).trans rfl, (blk_cell BK163.out 1).trans rfl⟩ (fun hHeld => ?_)
            clear hK K
            refine Hd.n_ (some 6) ?_
            refine Hd.o_ HT_ 7 (some 30) #[true, true, true, true, true, true, true, true, false, true, false] (fun K hK => ?_)
            refine goes_ Try.func119 (by kernel_rfl) rfl #[.int .i64 200, .int .i64 (wrap64 (((rd_T27 x3_1 (ji9)).f1) + t167))] (by rfl) rfl rfl (by (try simp only [List.map_toArray, List.map_cons, List.map_nil]); first | done | (simp only [hji9]; rfl) | rfl | (simp only [List.length_drop, List.length_take]; rfl)) ?_
            with_reducible refine (spec_Min.calls 200 (wrap64 (((rd_T27 x3_1 (ji9)).f1) + t167)) t170 _ A14.out).mono ?_
            rintro e w' ⟨rfl, ⟨nd, rfl⟩⟩
            refine ⟨_, rfl, ?_⟩
            replace HO_3 := Aside0.mk (Kd.R_drewN HO_3.out nd)
            replace BK163 := Aside0.mk (blk_drewN BK163.out nd)
            replace HB := Aside0.mk (pw_below_drewN HB.out nd)
            generalize w22.drewN nd = w22 at HO_3 BK163 HB ⊢
            refine hK.out _ _ ⟨(blk_cell BK163.out 0).trans rfl, (blk_cell BK163.out 1).trans rfl⟩ (fun hHeld => ?_)
            clear hK K
            refine Hd.n_ (some 30) ?_
            refine Hd.p_ HT_ 8 (some 31) #[true, true, true, true, true, true, true, true, true, true, false] ?_
            exact norm_ (by simp only [putAll, Act.put, List.setIfInBounds_toArray, List.set_cons_zero, List.set_cons_succ]) (hCont (gb171) _ ⟨hHeld, (Hd.r_ HO_3), (Hd.k_ BK163), (Hd.k_ BK171), GW171.out, GE171.out, NB0_171.out, NB171_0.out, NB163_171.out, NB171_163.out, (by repeat (first | (with_reducible first | exact HI0.out | apply IsS109.alloc | apply IsS109.drewN | apply IsS109.drew | apply IsS109.set_1 | apply IsS109.set_2 | refine IsS109.far ?_ NB0_163.out _ | refine IsS109.far ?_ NB0_171.out _) | exact HI0.out)), (by repeat (first | (with_reducible first | exact HK.out | apply KeepBut.set_ | apply keep_drewN | apply keep_drew | apply keep_alloc | refine keep_far ?_ GW163.out _ | refine keep_far ?_ GW171.out _) | exact HK.out)), (by repeat (first | (with_reducible first | exact HB.out | apply below_alloc | apply pw_below_drewN | apply below_drew1 | refine below_set ?_ (IsS109.ge HI0.out) | refine below_set ?_ GE163.out | refine below_set ?_ GE171.out) | exact HB.out))⟩)
          ·
           skip
           refine box_step ?hg (N := 6) ?hd (cs := #[.int .i64 0, .int .i64 0]) (t := 27) ?hr ?_; (case hd => rfl); (case hg => rfl); (case hr => first | (go_simp; done) | (go_simp; rfl))
           intro gb171 hg w24 hbox hb
           replace HO_3 := Aside0.mk (Kd.R_below (Kd.R_elderB (Hd.r_ HO_3) gb171 (Nat.le_of_eq hg.symm)) hb)
           replace HB := Aside0.mk (below_step (by repeat (first | (with_reducible first | exact HB.out | apply below_alloc | apply pw_below_drewN | apply below_drew1 | refine below_set ?_ (IsS109.ge HI0.out) | refine below_set ?_ GE163.out) | exact HB.out)) hb)
           have BK171 := Aside0.mk (hbox)
           have GW171 := Aside0.mk ((by rw [hg]; exact (keep_size (w := w) (g := g) (row := none) (by repeat (first | (with_reducible first | exact HK.out | apply KeepBut.set_ | apply keep_drewN | apply keep_drew | apply keep_alloc | refine keep_far ?_ GW163.out _) | exact HK.out))) : w.heap.size ≤ gb171))
           have GE171 := Aside0.mk ((Nat.le_trans HW0.out (by rw [hg]; exact (keep_size (w := w) (g := g) (row := none) (by repeat (first | (with_reducible first | exact HK.out | apply KeepBut.set_ | apply keep_drewN | apply keep_drew | apply keep_alloc | refine keep_far ?_ GW163.out _) | exact HK.out))) : w.heap.size ≤ gb171) : w0.heap.size ≤ gb171))
           replace HK := Aside0.mk (KeepBut.trans (by repeat (first | (with_reducible first | exact HK.out | apply KeepBut.set_ | apply keep_drewN | apply keep_drew | apply keep_alloc | refine keep_far ?_ GW163.out _) | exact HK.out)) (KeepBut.of_below hb g none) (.inl rfl))
           have NB163_171 := Aside0.mk ((Hd.lt_ BK163 hg))
           have NB171_163 := Aside0.mk ((Hd.gt_ BK163 hg))
           replace BK163 := Aside0.mk (Hd.kb_ BK163 hb)
           have NB0_171 := Aside0.mk ((by rw [hg]; exact Nat.ne_of_lt (IsS109.lt (show IsS109 w0 _ g s0_0 t165 t166 from by repeat (first | (with_reducible first | exact HI0.out | apply IsS109.alloc | apply IsS109.drewN | apply IsS109.drew | apply IsS109.set_1 | apply IsS109.set_2 | refine IsS109.far ?_ NB0_163.out _) | exact HI0.out))) : g ≠ gb171))
           have NB171_0 := Aside0.mk ((by rw [hg]; exact Nat.ne_of_gt (IsS109.lt (show IsS109 w0 _ g s0_0 t165 t166 from by repeat (first | (with_reducible first | exact HI0.out | apply IsS109.alloc | apply IsS109.drewN | apply IsS109.drew | apply IsS109.set_1 | apply IsS109.set_2 | refine IsS109.far ?_ NB0_163.out _) | exact HI0.out))) : gb171 ≠ g))
           replace HI0 := Aside0.mk (IsS109.below (by repeat (first | (with_reducible first | exact HI0.out | apply IsS109.alloc | apply IsS109.drewN | apply IsS109.drew | apply IsS109.set_1 | apply IsS109.set_2 | refine IsS109.far ?_ NB0_163.out _) | exact HI0.out)) hb)
           clear hb hbox hg
           refine hK.out _ _ ⟨(blk_cell BK163.out 0).trans rfl, (blk_cell BK163.out 1).trans rfl⟩ (fun hHeld => ?_)
           clear hK K
           refine Hd.n_ (some 6) ?_
           refine Hd.o_ HT_ 5 (some 28) #[true, true, true, true, true, true, false, false, false, true, false] (fun K hK => ?_)
           refine goes_ Try.func89 (by kernel_rfl) rfl #[.pointer (some ⟨g, 0, none⟩), .int .i64 4] (by rfl) rfl rfl Hd.m_ ?_
           with_reducible refine (spec_l1Below.calls g s0_0 t165 t166 4 t167 t168 t169 w0 _ ?side1 ?side2 A13.out).mono ?_
           (case side1 => repeat (first | (with_reducible first | exact HI0.out | apply IsS109.alloc | apply IsS109.drewN | apply IsS109.drew | apply IsS109.set_1 | apply IsS109.set_2 | refine IsS109.far ?_ NB0_163.out _ | refine IsS109.far ?_ NB0_171.out _) | exact HI0.out))
           (case side2 => repeat (first | (with_reducible first | exact HB.out | apply below_alloc | apply pw_below_drewN | apply below_drew1 | refine below_set ?_ (IsS109.ge HI0.out) | refine below_set ?_ GE163.out | refine below_set ?_ GE171.out) | exact HB.out))
           rintro e w25 ⟨rfl, hi, hb, hk⟩
           refine ⟨_, rfl, ?_⟩
           replace HO_3 := Aside0.mk (Kd.R_mono (Kd.R_keep (IsS109.apart (show IsS109 w0 _ g s0_0 t165 t166 from by repeat (first | (with_reducible first | exact HI0.out | apply IsS109.alloc | apply IsS109.drewN | apply IsS109.drew | apply IsS109.set_1 | apply IsS109.set_2 | refine IsS109.far ?_ NB0_163.out _ | refine IsS109.far ?_ NB0_171.out _) | exact HI0.out)) (Hd.r_ HO_3) (by decide)) hk (fun _ h => h.2)) (fun _ h => h.1))
           replace BK163 := Aside0.mk (KeepBut.blk hk (g' := gb163) (o := .cells #[.int .i64 ((rd_T27 x3_1 (ji9)).f0), .int .i64 ((rd_T27 x3_1 (ji9)).f1)] 27 (0, 0)) (Hd.k_ BK163) NB163_0.out (by simp))
           replace BK171 := Aside0.mk (KeepBut.blk hk (g' := gb171) (o := .cells #[.int .i64 0, .int .i64 0] 27 (0, 0)) (Hd.k_ BK171) NB171_0.out (by simp))
           replace HK := Aside0.mk (KeepBut.trans (by repeat (first | (with_reducible first | exact HK.out | apply KeepBut.set_ | apply keep_drewN | apply keep_drew | apply keep_alloc | refine keep_far ?_ GW163.out _ | refine keep_far ?_ GW171.out _) | exact HK.out)) hk (.inl rfl))
           replace HB := Aside0.mk (hb)
           replace HI0 := Aside0.mk (hi)
           (try clear hb)
           (try clear hb2)
           (try clear hk)
           (try clear hi)
           refine hK.out _ _ ⟨(blk_cell BK163.out 0).trans rfl, (blk_cell BK163.out 1).trans rfl⟩ (fun hHeld => ?_)
           clear hK K
           refine Hd.n_ (some 28) ?_
           refine Hd.p_ HT_ 6 (some 29) #[true, true, true, true, true, true, true, false, false, true, false] ?_
           refine Hd.o_ HT_ 7 (some 30) #[true, true, true, true, true, true, true, true, false, true, false] (fun K hK => ?_)
           refine goes_ Try.func119 (by kernel_rfl) rfl #[.int .i64 200, .int .i64 (wrap64 (((rd_T27 x3_1 (ji9)).f1) + t167))] (by rfl) rfl rfl (by (try simp only [List.map_toArray, List.map_cons, List.map_nil]); first | done | (simp only [hji9]; rfl) | rfl | (simp only [List.length_drop, List.length_take]; rfl)) ?_
           with_reducible refine (spec_Min.calls 200 (wrap64 (((rd_T27 x3_1 (ji9)).f1) + t167)) t170 _ A14.out).mono ?_
           rintro e w' ⟨rfl, ⟨nd, rfl⟩⟩
           refine ⟨_, rfl, ?_⟩
           replace HO_3 := Aside0.mk (Kd.R_drewN HO_3.out nd)
           replace BK163 := Aside0.mk (blk_drewN BK163.out nd)
           replace HB := Aside0.mk (pw_below_drewN HB.out nd)
           generalize w22.drewN nd = w22 at HO_3 BK163 HB ⊢
           refine hK.out _ _ ⟨(blk_cell BK163.out 0).trans rfl, (blk_cell BK163.out 1).trans rfl⟩ (fun hHeld => ?_)
           clear hK K
           refine Hd.n_ (some 30) ?_
           refine Hd.p_ HT_ 8 (some 31) #[true, true, true, true, true, true, true, true, true, true, false] ?_
           exact norm_ (by simp only [putAll, Act.put, List.setIfInBounds_toArray, List.set_cons_zero, List.set_cons_succ]) (hCont (gb171) _ ⟨hHeld, (Hd.r_ HO_3), (Hd.k_ BK163), (Hd.k_ BK171), GW171.out, GE171.out, NB0_171.out, NB171_0.out, NB163_171.out, NB171_163.out, (by repeat (first | (with_reducible first | exact HI0.out | apply IsS109.alloc | apply IsS109.drewN | apply IsS109.drew | apply IsS109.set_1 | apply IsS109.set_2 | refine IsS109.far ?_ NB0_163.out _ | refine IsS109.far ?_ NB0_171.out _) | exact HI0.out)), (by repeat (first | (with_reducible first | exact HK.out | apply KeepBut.set_ | apply keep_drewN | apply keep_drew | apply keep_alloc | refine keep_far ?_ GW163.out _ | refine keep_far ?_ GW171.out _) | exact HK.out)), (by repeat (first | (with_reducible first | exact HB.out | apply below_alloc | apply pw_below_drewN | apply below_drew1 | refine below_set ?_ (IsS109.ge HI0.out) | refine below_set ?_ GE163.out | refine below_set ?_ GE171.out) | exact HB.out))⟩)
         ·
          skip
          refine box_step ?hg (N := 6) ?hd (cs := #[.int .i64 0, .int .i64 0]) (t := 27) ?hr ?_; (case hd => rfl); (case hg => rfl); (case hr => first | (go_simp; done) | (go_simp; rfl))
          intro gb171 hg w23 hbox hb
          replace HO_3 := Aside0.mk (Kd.R_below (Kd.R_elderB (Hd.r_ HO_3) gb171 (Nat.le_of_eq hg.symm)) hb)
          replace HB := Aside0.mk (below_step (by repeat (first | (with_reducible first | exact HB.out | apply below_alloc | apply pw_below_drewN | apply below_drew1 | refine below_set ?_ (IsS109.ge HI0.out) | refine below_set ?_ GE163.out) | exact HB.out)) hb)
          have BK171 := Aside0.mk (hbox)
          have GW171 := Aside0.mk ((by rw [hg]; exact (keep_size (w := w) (g := g) (row := none) (by repeat (first | (with_reducible first | exact HK.out | apply KeepBut.set_ | apply keep_drewN | apply keep_drew | apply keep_alloc | refine keep_far ?_ GW163.out _) | exact HK.out))) : w.heap.size ≤ gb171))
          have GE171 := Aside0.mk ((Nat.le_trans HW0.out (by rw [hg]; exact (keep_size (w := w) (g := g) (row := none) (by repeat (first | (with_reducible first | exact HK.out | apply KeepBut.set_ | apply keep_drewN | apply keep_drew | apply keep_alloc | refine keep_far ?_ GW163.out _) | exact HK.out))) : w.heap.size ≤ gb171) : w0.heap.size ≤ gb171))
          replace HK := Aside0.mk (KeepBut.trans (by repeat (first | (with_reducible first | exact HK.out | apply KeepBut.set_ | apply keep_drewN | apply keep_drew | apply keep_alloc | refine keep_far ?_ GW163.out _) | exact HK.out)) (KeepBut.of_below hb g none) (.inl rfl))
          have NB163_171 := Aside0.mk ((Hd.lt_ BK163 hg))
          have NB171_163 := Aside0.mk ((Hd.gt_ BK163 hg))
          replace BK163 := Aside0.mk (Hd.kb_ BK163 hb)
          have NB0_171 := Aside0.mk ((by rw [hg]; exact Nat.ne_of_lt (IsS109.lt (show IsS109 w0 _ g s0_0 x1001_1 x1002_1 from by repeat (first | (with_reducible first | exact HI0.out | apply IsS109.alloc | apply IsS109.drewN | apply IsS109.drew | apply IsS109.set_1 | apply IsS109.set_2 | refine IsS109.far ?_ NB0_163.out _) | exact HI0.out))) : g ≠ gb171))
          have NB171_0 := Aside0.mk ((by rw [hg]; exact Nat.ne_of_gt (IsS109.lt (show IsS109 w0 _ g s0_0 x1001_1 x1002_1 from by repeat (first | (with_reducible first | exact HI0.out | apply IsS109.alloc | apply IsS109.drewN | apply IsS109.drew | apply IsS109.set_1 | apply IsS109.set_2 | refine IsS109.far ?_ NB0_163.out _) | exact HI0.out))) : gb171 ≠ g))
          replace HI0 := Aside0.mk (IsS109.below (by repeat (first | (with_reducible first | exact HI0.out | apply IsS109.alloc | apply IsS109.drewN | apply IsS109.drew | apply IsS109.set_1 | apply IsS109.set_2 | refine IsS109.far ?_ NB0_163.out _) | exact HI0.out)) hb)
          clear hb hbox hg
          refine hK.out _ _ ⟨(blk_cell BK163.out 0).trans rfl, (blk_cell BK163.out 1).trans rfl⟩ (fun hHeld => ?_)
          clear hK K
          refine Hd.n_ (some 6) ?_
          refine Hd.o_ HT_ 1 (some 24) #[true, true, true, true, true, false, false, false, false, true, false] (fun K hK => ?_)
          refine goes_ Try.func89 (by kernel_rfl) rfl #[.pointer (some ⟨g, 0, none⟩), .int .i64 14] (by rfl) rfl rfl Hd.m_ ?_
          with_reducible refine (spec_l1Below.calls g s0_0 x1001_1 x1002_1 14 t164 t165 t166 w0 _ ?side1 ?side2 A12.out).mono ?_
          (case side1 => repeat (first | (with_reducible first | exact HI0.out | apply IsS109.alloc | apply IsS109.drewN | apply IsS109.drew | apply IsS109.set_1 | apply IsS109.set_2 | refine IsS109.far ?_ NB0_163.out _ | refine IsS109.far ?_ NB0_171.out _) | exact HI0.out))
          (case side2 => repeat (first | (with_reducible first | exact HB.out | apply below_alloc | apply pw_below_drewN | apply below_drew1 | refine below_set ?_ (IsS109.ge HI0.out) | refine below_set ?_ GE163.out | refine below_set ?_ GE171.out) | exact HB.out))
          rintro e w24 ⟨rfl, hi, hb, hk⟩
          refine ⟨_, rfl, ?_⟩
          replace HO_3 := Aside0.mk (Kd.R_mono (Kd.R_keep (IsS109.apart (show IsS109 w0 _ g s0_0 x1001_1 x1002_1 from by repeat (first | (with_reducible first | exact HI0.out | apply IsS109.alloc | apply IsS109.drewN | apply IsS109.drew | apply IsS109.set_1 | apply IsS109.set_2 | refine IsS109.far ?_ NB0_163.out _ | refine IsS109.far ?_ NB0_171.out _) | exact HI0.out)) (Hd.r_ HO_3) (by decide)) hk (fun _ h => h.2)) (fun _ h => h.1))
          replace BK163 := Aside0.mk (KeepBut.blk hk (g' := gb163) (o := .cells #[.int .i64 ((rd_T27 x3_1 (ji9)).f0), .int .i64 ((rd_T27 x3_1 (ji9)).f1)] 27 (0, 0)) (Hd.k_ BK163) NB163_0.out (by simp))
          replace BK171 := Aside0.mk (KeepBut.blk hk (g' := gb171) (o := .cells #[.int .i64 0, .int .i64 0] 27 (0, 0)) (Hd.k_ BK171) NB171_0.out (by simp))
          replace HK := Aside0.mk (KeepBut.trans (by repeat (first | (with_reducible first | exact HK.out | apply KeepBut.set_ | apply keep_drewN | apply keep_drew | apply keep_alloc | refine keep_far ?_ GW163.out _ | refine keep_far ?_ GW171.out _) | exact HK.out)) hk (.inl rfl))
          replace HB := Aside0.mk (hb)
          replace HI0 := Aside0.mk (hi)
          (try clear hb)
          (try clear hb2)
          (try clear hk)
          (try clear hi)
          refine hK.out _ _ ⟨(blk_cell BK163.out 0).trans rfl, (blk_cell BK163.out 1).trans rfl⟩ (fun hHeld => ?_)
          clear hK K
          refine Hd.n_ (some 24) ?_
          refine Hd.o_ HT_ 5 (some 28) #[true, true, true, true, true, true, false, false, false, true, false] (fun K hK => ?_)
          refine goes_ Try.func89 (by kernel_rfl) rfl #[.pointer (some ⟨g, 0, none⟩), .int .i64 4] (by rfl) rfl rfl Hd.m_ ?_
          with_reducible refine (spec_l1Below.calls g s0_0 t165 t166 4 t167 t168 t169 w0 _ ?side1 ?side2 A13.out).mono ?_
          (case side1 => repeat (first | (with_reducible first | exact HI0.out | apply IsS109.alloc | apply IsS109.drewN | apply IsS109.drew | apply IsS109.set_1 | apply IsS109.set_2 | refine IsS109.far ?_ NB0_163.out _ | refine IsS109.far ?_ NB0_171.out _) | exact HI0.out))
          (case side2 => repeat (first | (with_reducible first | exact HB.out | apply below_alloc | apply pw_below_drewN | apply below_drew1 | refine below_set ?_ (IsS109.ge HI0.out) | refine below_set ?_ GE163.out | refine below_set ?_ GE171.out) | exact HB.out))
          rintro e w25 ⟨rfl, hi, hb, hk⟩
          refine ⟨_, rfl, ?_⟩
          replace HO_3 := Aside0.mk (Kd.R_mono (Kd.R_keep (IsS109.apart (show IsS109 w0 _ g s0_0 t165 t166 from by repeat (first | (with_reducible first | exact HI0.out | apply IsS109.alloc | apply IsS109.drewN | apply IsS109.drew | apply IsS109.set_1 | apply IsS109.set_2 | refine IsS109.far ?_ NB0_163.out _ | refine IsS109.far ?_ NB0_171.out _) | exact HI0.out)) (Hd.r_ HO_3) (by decide)) hk (fun _ h => h.2)) (fun _ h => h.1))
          replace BK163 := Aside0.mk (KeepBut.blk hk (g' := gb163) (o := .cells #[.int .i64 ((rd_T27 x3_1 (ji9)).f0), .int .i64 ((rd_T27 x3_1 (ji9)).f1)] 27 (0, 0)) (Hd.k_ BK163) NB163_0.out (by simp))
          replace BK171 := Aside0.mk (KeepBut.blk hk (g' := gb171) (o := .cells #[.int .i64 0, .int .i64 0] 27 (0, 0)) (Hd.k_ BK171) NB171_0.out (by simp))
          replace HK := Aside0.mk (KeepBut.trans (by repeat (first | (with_reducible first | exact HK.out | apply KeepBut.set_ | apply keep_drewN | apply keep_drew | apply keep_alloc | refine keep_far ?_ GW163.out _ | refine keep_far ?_ GW171.out _) | exact HK.out)) hk (.inl rfl))
          replace HB := Aside0.mk (hb)
          replace HI0 := Aside0.mk (hi)
          (try clear hb)
          (try clear hb2)
          (try clear hk)
          (try clear hi)
          refine hK.out _ _ ⟨(blk_cell BK163.out 0).trans rfl, (blk_cell BK163.out 1).trans rfl⟩ (fun hHeld => ?_)
          clear hK K
          refine Hd.n_ (some 28) ?_
          refine Hd.p_ HT_ 6 (some 29) #[true, true, true, true, true, true, true, false, false, true, false] ?_
          refine Hd.o_ HT_ 7 (some 30) #[true, true, true, true, true, true, true, true, false, true, false] (fun K hK => ?_)
          refine goes_ Try.func119 (by kernel_rfl) rfl #[.int .i64 200, .int .i64 (wrap64 (((rd_T27 x3_1 (ji9)).f1) + t167))] (by rfl) rfl rfl (by (try simp only [List.map_toArray, List.map_cons, List.map_nil]); first | done | (simp only [hji9]; rfl) | rfl | (simp only [List.length_drop, List.length_take]; rfl)) ?_
          with_reducible refine (spec_Min.calls 200 (wrap64 (((rd_T27 x3_1 (ji9)).f1) + t167)) t170 _ A14.out).mono ?_
          rintro e w' ⟨rfl, ⟨nd, rfl⟩⟩
          refine ⟨_, rfl, ?_⟩
          replace HO_3 := Aside0.mk (Kd.R_drewN HO_3.out nd)
          replace BK163 := Aside0.mk (blk_drewN BK163.out nd)
          replace HB := Aside0.mk (pw_below_drewN HB.out nd)
          generalize w22.drewN nd = w22 at HO_3 BK163 HB ⊢
          refine hK.out _ _ ⟨(blk_cell BK163.out 0).trans rfl, (blk_cell BK163.out 1).trans rfl⟩ (fun hHeld => ?_)
          clear hK K
          refine Hd.n_ (some 30) ?_
          refine Hd.p_ HT_ 8 (some 31) #[true, true, true, true, true, true, true, true, true, true, false] ?_
          exact norm_ (by simp only [putAll, Act.put, List.setIfInBounds_toArray, List.set_cons_zero, List.set_cons_succ]) (hCont (gb171) _ ⟨hHeld, (Hd.r_ HO_3), (Hd.k_ BK163), (Hd.k_ BK171), GW171.out, GE171.out, NB0_171.out, NB171_0.out, NB163_171.out, NB171_163.out, (by repeat (first | (with_reducible first | exact HI0.out | apply IsS109.alloc | apply IsS109.drewN | apply IsS109.drew | apply IsS109.set_1 | apply IsS109.set_2 | refine IsS109.far ?_ NB0_163.out _ | refine IsS109.far ?_ NB0_171.out _) | exact HI0.out)), (by repeat (first | (with_reducible first | exact HK.out | apply KeepBut.set_ | apply keep_drewN | apply keep_drew | apply keep_alloc | refine keep_far ?_ GW163.out _ | refine keep_far ?_ GW171.out _) | exact HK.out)), (by repeat (first | (with_reducible first | exact HB.out | apply below_alloc | apply pw_below_drewN | apply below_drew1 | refine below_set ?_ (IsS109.ge HI0.out) | refine below_set ?_ GE163.out | refine below_set ?_ GE171.out) | exact HB.out))⟩)
        rintro gb171 w26 ⟨hS_, h0_, h1_, h2_, h3_, h4_, h5_, h6_, h7_, h8_, h9_, h10_, h11_⟩
        have n0_ : Aside0 (Kd.R k27 27 w26 w.heap.size (fun k_ => k_ ≠ gb163 ∧ k_ ≠ gb171) (.slice (some ad162) x3_1.length co17) x3_1) := ⟨h0_⟩
        have n1_ : Aside0 (w26.heap[gb163]? = some (.cells #[.int .i64 ((rd_T27 x3_1 (ji9)).f0), .int .i64 ((rd_T27 x3_1 (ji9)).f1)] 27 (0, 0))) := ⟨h1_⟩
        have n2_ : Aside0 (w26.heap[gb171]? = some (.cells #[.int .i64 0, .int .i64 0] 27 (0, 0))) := ⟨h2_⟩
        have n3_ : Aside0 (w.heap.size ≤ gb171) := ⟨h3_⟩
        have n4_ : Aside0 (w0.heap.size ≤ gb171) := ⟨h4_⟩
        have n5_ : Aside0 (g ≠ gb171) := ⟨h5_⟩
        have n6_ : Aside0 (gb171 ≠ g) := ⟨h6_⟩
        have n7_ : Aside0 (gb163 ≠ gb171) := ⟨h7_⟩
        have n8_ : Aside0 (gb171 ≠ gb163) := ⟨h8_⟩
        have n9_ : Aside0 (IsS109 w0 w26 g s0_0 t168 t169) := ⟨h9_⟩
        have n10_ : Aside0 (KeepBut w w26 g none) := ⟨h10_⟩
        have n11_ : Aside0 (Below w0.heap.size w0 w26) := ⟨h11_⟩
        clear HO_3
        clear BK163
        clear HI0
        clear HK
        clear HB
        clear h0_ h1_ h2_ h3_ h4_ h5_ h6_ h7_ h8_ h9_ h10_ h11_
        have HO_3 := n0_
        have BK163 := n1_
        have BK171 := n2_
        have GW171 := n3_
        have GE171 := n4_
        have NB0_171 := n5_
        have NB171_0 := n6_
        have NB163_171 := n7_
        have NB171_163 := n8_
        have HI0 := n9_
        have HK := n10_
        have HB := n11_
        clear n0_ n1_ n2_ n3_ n4_ n5_ n6_ n7_ n8_ n9_ n10_ n11_
        have hHeld : w26.cell? ⟨gb163, 0, none⟩ = some (.int .i64 ((rd_T27 x3_1 (ji9)).f0)) ∧ w26.cell? ⟨gb163, 1, none⟩ = some (.int .i64 ((rd_T27 x3_1 (ji9)).f1)) := hS_
        refine norm_ (a' := ?_) ?_ ?_
        rotate_left
        ·
         simp only [putAll, Act.put, List.setIfInBounds_toArray, List.set_cons_zero, List.set_cons_succ]
         rfl
        refine Hd.o_ HT_ 10 (none) #[true, true, true, true, true, true, true, true, true, true, true] (fun K hK => ?_)
        have hs27 : w26.cell? ⟨gb171, 0, none⟩ = some (.int .i64 0) := (blk_cell BK171.out 0).trans rfl
        have hfs27 := blk_frozen BK171.out 0
        have hns27_0 := NB163_171.out
        have hms27_0 := NB171_163.out
        have hs28 : w26.cell? ⟨gb171, 1, none⟩ = some (.int .i64 0) := (blk_cell BK171.out 1).trans rfl
        have hfs28 := blk_frozen BK171.out 1
        have hns28_0 := NB163_171.out
        have hms28_0 := NB171_163.out
        refine skip_ (w1 := ?_) (by rfl) rfl ?_ ?_
        rotate_left
        ·
         go_simp
         rfl
        refine hK.out _ _ ⟨((cell_far (p := ⟨gb171, _, none⟩) NB163_171.out _).trans (((cell_far (p := ⟨gb171, _, none⟩) NB163_171.out _).trans (hHeld.1)))), ((cell_far (p := ⟨gb171, _, none⟩) NB163_171.out _).trans (((cell_far (p := ⟨gb171, _, none⟩) NB163_171.out _).trans (hHeld.2))))⟩ (fun hHeld => ?_)
        clear hK K
        refine done_ (done_of HT_.out (by kernel_rfl)) ?_
        have hnb29 := NB171_163.out
        have hnc29 := NB163_171.out
        have hnb30 := NB171_0.out
        have hnc30 := NB0_171.out
        obtain ⟨hcz31_0, hcz31_1⟩ := Hd.c2_ BK171.out
        obtain ⟨hfz31_0, hfz31_1⟩ := Hd.f2_ BK171.out
        obtain ⟨hcz32_0, hcz32_1⟩ := Hd.c2_ BK163.out
        obtain ⟨hfz32_0, hfz32_1⟩ := Hd.f2_ BK163.out
        try go_wp2_with (first | ((with_reducible refine gate_builtin (b := .append) (xs := #[.tmp 39, .tmp 41]) rfl ?_); at_builtin; refine Kd.R_append k27 w.heap.size rfl (.tmp 39) (.tmp 41) 24 27 (.agg #[(.int .i64 0), (.int .i64 0)]) 16 rfl Try.underlying24 info27 rfl (by decide) (by omega) (.slice (some ad162) x3_1.length co17) x3_1 (⟨wrap64 (t164 + 1), t170⟩ : S27) [.int .i64 (wrap64 (t164 + 1)), .int .i64 t170] (fun k_ => k_ ≠ gb163 ∧ k_ ≠ gb171) (fun _ => False) rfl (by first | (go_simp; done) | (go_simp; rfl)) ?aP (fun _ hk => hk.elim) ?aF ?aO (Below.refl _ _) ?aS ?aL ?_; (case aP => exact k27_mkM _ _ _ (⟨wrap64 (t164 + 1), t170⟩ : S27)); (case aF => exact (fun k_ hk => ⟨Kd.freshB (g := gb163) (o := .cells #[.int .i64 ((rd_T27 x3_1 (ji9)).f0), .int .i64 ((rd_T27 x3_1 (ji9)).f1)] 27 (0, 0)) (by (with_reducible repeat (first | refine blk_drewN ?_ _ | refine blk_drew ?_ | refine blk_alloc ?_ _)); refine blk_far ?_ NB163_171.out _; (with_reducible repeat (first | refine blk_drewN ?_ _ | refine blk_drew ?_ | refine blk_alloc ?_ _)); refine blk_far ?_ NB163_171.out _; (with_reducible repeat (first | refine blk_drewN ?_ _ | refine blk_drew ?_ | refine blk_alloc ?_ _)); refine blk_far ?_ NB163_171.out _; (with_reducible repeat (first | refine blk_drewN ?_ _ | refine blk_drew ?_ | refine blk_alloc ?_ _)); exact BK163.out) k_ hk, Kd.freshB (g := gb171) (o := .cells #[.int .i64 (wrap64 (t164 + 1)), .int .i64 t170] 27 (0, 0)) (by (with_reducible repeat (first | refine blk_drewN ?_ _ | refine blk_drew ?_ | refine blk_alloc ?_ _)); refine blk_put (cs := #[.int .i64 t164, .int .i64 t170]) ?_ 0 _ rfl; (with_reducible repeat (first | refine blk_drewN ?_ _ | refine blk_drew ?_ | refine blk_alloc ?_ _)); refine blk_put (cs := #[.int .i64 t164, .int .i64 0]) ?_ 1 _ rfl; (with_reducible repeat (first | refine blk_drewN ?_ _ | refine blk_drew ?_ | refine blk_alloc ?_ _)); refine blk_put (cs := #[.int .i64 0, .int .i64 0]) ?_ 0 _ rfl; (with_reducible repeat (first | refine blk_drewN ?_ _ | refine blk_drew ?_ | refine blk_alloc ?_ _)); exact BK171.out) k_ hk⟩)); (case aO => exact (by (with_reducible repeat (first | apply Kd.R_alloc | apply Kd.R_drewN | apply Kd.R_drew)); exact Kd.R_mono (Kd.R_far (p := ⟨gb171, 0, none⟩) (Kd.R_far (p := ⟨gb171, 1, none⟩) (Kd.R_far (p := ⟨gb171, 0, none⟩) (Kd.R_mono HO_3.out (fun k_ hk => (⟨hk, hk.2⟩ : _ ∧ k_ ≠ gb171))) (fun _ hk => hk.2) (.int .i64 t164)) (fun _ hk => hk.2) (.int .i64 t170)) (fun _ hk => hk.2) (.int .i64 (wrap64 (t164 + 1)))) (fun _ hk => ⟨hk.1.1, hk.1.2⟩))); (case aS => exact (keep_size (w := w) (g := g) (row := none) (by repeat (first | (with_reducible first | exact HK.out | apply KeepBut.set_ | apply keep_drewN | apply keep_drew | apply keep_alloc | refine keep_far ?_ GW163.out _ | refine keep_far ?_ GW171.out _) | exact HK.out)))); (case aL => have := LMc16.out; omega); intro v173 w33 ho hb hg hat; rw [← Ny172.out] at ho; have n0_ := Aside0.mk (IsS109.grown (Hd.as_ (fun W_ => IsS109 _ W_ _ _ _ _) HI0.out (by repeat (first | (with_reducible first | exact HI0.out | apply IsS109.alloc | apply IsS109.drewN | apply IsS109.drew | apply IsS109.set_1 | apply IsS109.set_2 | refine IsS109.far ?_ NB0_163.out _ | refine IsS109.far ?_ NB0_171.out _) | exact HI0.out))) hg (IsS109.own_ne HI0.out HO_3.out (by decide))); have n1_ := Aside0.mk (blk_grown (g := gb163) (o := .cells #[.int .i64 ((rd_T27 x3_1 (ji9)).f0), .int .i64 ((rd_T27 x3_1 (ji9)).f1)] 27 (0, 0)) (by (with_reducible repeat (first | refine blk_drewN ?_ _ | refine blk_drew ?_ | refine blk_alloc ?_ _)); refine blk_far ?_ NB163_171.out _; (with_reducible repeat (first | refine blk_drewN ?_ _ | refine blk_drew ?_ | refine blk_alloc ?_ _)); refine blk_far ?_ NB163_171.out _; (with_reducible repeat (first | refine blk_drewN ?_ _ | refine blk_drew ?_ | refine blk_alloc ?_ _)); refine blk_far ?_ NB163_171.out _; (with_reducible repeat (first | refine blk_drewN ?_ _ | refine blk_drew ?_ | refine blk_alloc ?_ _)); exact BK163.out) hg (Kd.R_away HO_3.out (fun _ hk => hk.1))); have n2_ := Aside0.mk (blk_grown (g := gb171) (o := .cells #[.int .i64 (wrap64 (t164 + 1)), .int .i64 t170] 27 (0, 0)) (by (with_reducible repeat (first | refine blk_drewN ?_ _ | refine blk_drew ?_ | refine blk_alloc ?_ _)); refine blk_put (cs := #[.int .i64 t164, .int .i64 t170]) ?_ 0 _ rfl; (with_reducible repeat (first | refine blk_drewN ?_ _ | refine blk_drew ?_ | refine blk_alloc ?_ _)); refine blk_put (cs := #[.int .i64 t164, .int .i64 0]) ?_ 1 _ rfl; (with_reducible repeat (first | refine blk_drewN ?_ _ | refine blk_drew ?_ | refine blk_alloc ?_ _)); refine blk_put (cs := #[.int .i64 0, .int .i64 0]) ?_ 0 _ rfl; (with_reducible repeat (first | refine blk_drewN ?_ _ | refine blk_drew ?_ | refine blk_alloc ?_ _)); exact BK171.out) hg (Kd.R_away HO_3.out (fun _ hk => hk.2))); have n3_ := Aside0.mk (below_weaken (by repeat (first | (with_reducible first | exact HB.out | apply below_alloc | apply pw_below_drewN | apply below_drew1 | refine below_set ?_ (IsS109.ge HI0.out) | refine below_set ?_ GE163.out | refine below_set ?_ GE171.out) | exact HB.out)) HL.out hb); have n4_ := Aside0.mk (KeepBut.trans (by repeat (first | (with_reducible first | exact HK.out | apply KeepBut.set_ | apply keep_drewN | apply keep_drew | apply keep_alloc | refine keep_far ?_ GW163.out _ | refine keep_far ?_ GW171.out _) | exact HK.out)) (KeepBut.of_grown hg g) (Kd.R_base2 HO_3.out)); have n5_ := Aside0.mk (ho); clear HI0; clear BK163; clear BK171; clear HB; clear HK; clear HO_3; have HI0 := n0_; have BK163 := n1_; have BK171 := n2_; have HB := n3_; have HK := n4_; have HO174 := n5_; clear n0_ n1_ n2_ n3_ n4_ n5_; clear ho hb hg hat))
        go_roundg k1
        case measure => have := HK1.out; omega
        case rel => exact ⟨(y172), (wrap64 (x4_1 - 1)), (t168), (t169), (by first | rfl | (simp; done) | (simp [*]; done)), H', ⟨by have := HK1.out; omega⟩, ⟨by (with_reducible repeat (first | apply Kd.R_alloc | apply Kd.R_drewN | apply Kd.R_drew)); exact Kd.R_mono HO174.out (fun _ hk => trivial)⟩, ⟨by repeat (first | (with_reducible first | exact HI0.out | apply IsS109.alloc | apply IsS109.drewN | apply IsS109.drew | apply IsS109.set_1 | apply IsS109.set_2 | refine IsS109.far ?_ NB0_163.out _ | refine IsS109.far ?_ NB0_171.out _) | exact HI0.out)⟩, ⟨by repeat (first | (with_reducible first | exact HK.out | apply KeepBut.set_ | apply keep_drewN | apply keep_drew | apply keep_alloc | refine keep_far ?_ GW163.out _ | refine keep_far ?_ GW171.out _) | exact HK.out)⟩, ⟨by repeat (first | (with_reducible first | exact HB.out | apply below_alloc | apply pw_below_drewN | apply below_drew1 | refine below_set ?_ (IsS109.ge HI0.out) | refine below_set ?_ GE163.out | refine below_set ?_ GE171.out) | exact HB.out)⟩⟩
       ·
        rw [if_neg c16] at H
        exact absurd H (by simp)
      ·
       rw [if_neg c15] at H
       have c15b0 : (t164 == ((rd_T27 x3_1 (ji9)).f0) && (t170 == ((rd_T27 x3_1 (ji9)).f1))) = false := by simpa using c15
       (try (have c15b1 : decide (t164 = ((rd_T27 x3_1 (ji9)).f0) && (t170 == ((rd_T27 x3_1 (ji9)).f1))) = false := by simpa using c15))
       (try (have c15b2 : (t164 == ((rd_T27 x3_1 (ji9)).f0) && (t170 == ((rd_T27 x3_1 (ji9)).f1))) = false := by simpa using c15))
       (try (have c15b3 : ¬ (t164 = ((rd_T27 x3_1 (ji9)).f0) && (t170 == ((rd_T27 x3_1 (ji9)).f1))) := by simpa using c15))
       clear c15
       by_cases c34 : x3_1.length < 8796093022208
       ·
        rw [if_pos c34] at H
        have LMc34 := Aside0.mk c34
        clear c34
        obtain ⟨y175, hy175⟩ : ∃ y_ : List (S27), y_ = (x3_1 ++ [(⟨t164, t170⟩ : S27)]) := ⟨_, rfl⟩
        replace H : (spec_l6Draw.l0 k1 y175 (wrap64 (x4_1 - 1)) s0_0 t168 t169) = some (r1, r2, r3) := by first | (rw [hy175]; with_reducible exact H) | (have H2_ := (Option.bind_some _ _).symm.trans H; rw [hy175]; with_reducible exact H2_) | (have H2_ := (Option.bind_some _ _).symm.trans H; with_reducible exact H2_) | with_reducible exact H | (rw [hy175]; exact H) | exact H
        have Ny175 := Aside0.mk hy175
        clear hy175
        have H' := Aside0.mk H
        clear H
        obtain ⟨Ao35, co35, eo35⟩ := Kd.R_slice HO_3.out
        subst eo35
        have p162 : 0 ≤ ((ji9) : Int) := of_decide_eq_true Hd.a_
        have q162 : (ji9) < (x3_1.length : Int) := of_decide_eq_true Hd.a_
        obtain ⟨ad162, e162, hx162_0, hx162_1⟩ := at_T27 (Kd.R_reads' HO_3.out).2.2 (ji9) p162 q162
        cases e162
        replace p162 := eq_true p162
        replace q162 := eq_true q162
        try go_wp2_with (first | ((with_reducible refine gate_dst (N := 5) rfl ?_); refine Hd.box_ 5 (#[.int .i64 0, .int .i64 0]) 27 ?_; intro gb163 hg w36 hbox hb; replace HO_3 := Aside0.mk (Kd.R_below (Kd.R_elderB (Hd.r_ HO_3) gb163 (Nat.le_of_eq hg.symm)) hb); replace HB := Aside0.mk (below_step (by repeat (first | (with_reducible first | exact HB.out | apply below_alloc | apply pw_below_drewN | apply below_drew1 | refine below_set ?_ (IsS109.ge HI0.out)) | exact HB.out)) hb); have BK163 := Aside0.mk (hbox); have GW163 := Aside0.mk ((by rw [hg]; exact (keep_size (w := w) (g := g) (row := none) (by repeat (first | (with_reducible first | exact HK.out | apply KeepBut.set_ | apply keep_drewN | apply keep_drew | apply keep_alloc) | exact HK.out))) : w.heap.size ≤ gb163)); have GE163 := Aside0.mk ((Nat.le_trans HW0.out (by rw [hg]; exact (keep_size (w := w) (g := g) (row := none) (by repeat (first | (with_reducible first | exact HK.out | apply KeepBut.set_ | apply keep_drewN | apply keep_drew | apply keep_alloc) | exact HK.out))) : w.heap.size ≤ gb163) : w0.heap.size ≤ gb163)); replace HK := Aside0.mk (KeepBut.trans (by repeat (first | (with_reducible first | exact HK.out | apply KeepBut.set_ | apply keep_drewN | apply keep_drew | apply keep_alloc) | exact HK.out)) (KeepBut.of_below hb g none) (.inl rfl)); have NB0_163 := Aside0.mk ((by rw [hg]; exact Nat.ne_of_lt (IsS109.lt (show IsS109 w0 _ g s0_0 x1001_1 x1002_1 from by repeat (first | (with_reducible first | exact HI0.out | apply IsS109.alloc | apply IsS109.drewN | apply IsS109.drew | apply IsS109.set_1 | apply IsS109.set_2) | exact HI0.out))) : g ≠ gb163)); have NB163_0 := Aside0.mk ((by rw [hg]; exact Nat.ne_of_gt (IsS109.lt (show IsS109 w0 _ g s0_0 x1001_1 x1002_1 from by repeat (first | (with_reducible first | exact HI0.out | apply IsS109.alloc | apply IsS109.drewN | apply IsS109.drew | apply IsS109.set_1 | apply IsS109.set_2) | exact HI0.out))) : gb163 ≠ g)); replace HI0 := Aside0.mk (IsS109.below (by repeat (first | (with_reducible first | exact HI0.out | apply IsS109.alloc | apply IsS109.drewN | apply IsS109.drew | apply IsS109.set_1 | apply IsS109.set_2) | exact HI0.out)) hb); clear hb hbox hg; have hnb37 := NB163_0.out; have hnc37 := NB0_163.out; obtain ⟨hcz38_0, hcz38_1⟩ := Hd.c2_ BK163.out; obtain ⟨hfz38_0, hfz38_1⟩ := Hd.f2_ BK163.out))
        have n0_ : Aside0 (Kd.R k27 27 ((w36.setCell ⟨gb163, 0, none⟩ (.int .i64 ((rd_T27 x3_1 (ji9)).f0))).setCell ⟨gb163, 1, none⟩ (.int .i64 ((rd_T27 x3_1 (ji9)).f1))) w.heap.size (fun k_ => k_ ≠ gb163) (.slice (some ad162) x3_1.length co35) x3_1) := ⟨by (with_reducible repeat (first | apply Kd.R_alloc | apply Kd.R_drewN | apply Kd.R_drew)); exact Kd.R_mono (Kd.R_far (p := ⟨gb163, 1, none⟩) (Kd.R_far (p := ⟨gb163, 0, none⟩) (Kd.R_mono HO_3.out (fun k_ hk => (⟨hk, hk.2⟩ : _ ∧ k_ ≠ gb163))) (fun _ hk => hk.2) (.int .i64 ((rd_T27 x3_1 (ji9)).f0))) (fun _ hk => hk.2) (.int .i64 ((rd_T27 x3_1 (ji9)).f1))) (fun _ hk => hk.1.2)⟩
        have n1_ : Aside0 (((w36.setCell ⟨gb163, 0, none⟩ (.int .i64 ((rd_T27 x3_1 (ji9)).f0))).setCell ⟨gb163, 1, none⟩ (.int .i64 ((rd_T27 x3_1 (ji9)).f1))).heap[gb163]? = some (.cells #[.int .i64 ((rd_T27 x3_1 (ji9)).f0), .int .i64 ((rd_T27 x3_1 (ji9)).f1)] 27 (0, 0))) := ⟨by (with_reducible repeat (first | refine blk_drewN ?_ _ | refine blk_drew ?_ | refine blk_alloc ?_ _)); refine blk_put (cs := #[.int .i64 ((rd_T27 x3_1 (ji9)).f0), .int .i64 0]) ?_ 1 _ rfl; (with_reducible repeat (first | refine blk_drewN ?_ _ | refine blk_drew ?_ | refine blk_alloc ?_ _)); refine blk_put (cs := #[.int .i64 0, .int .i64 0]) ?_ 0 _ rfl; (with_reducible repeat (first | refine blk_drewN ?_ _ | refine blk_drew ?_ | refine blk_alloc ?_ _)); exact BK163.out⟩
        have n2_ : Aside0 (IsS109 w0 ((w36.setCell ⟨gb163, 0, none⟩ (.int .i64 ((rd_T27 x3_1 (ji9)).f0))).setCell ⟨gb163, 1, none⟩ (.int .i64 ((rd_T27 x3_1 (ji9)).f1))) g s0_0 x1001_1 x1002_1) := ⟨by repeat (first | (with_reducible first | exact HI0.out | apply IsS109.alloc | apply IsS109.drewN | apply IsS109.drew | apply IsS109.set_1 | apply IsS109.set_2 | refine IsS109.far ?_ NB0_163.out _) | exact HI0.out)⟩
        have n3_ : Aside0 (KeepBut w ((w36.setCell ⟨gb163, 0, none⟩ (.int .i64 ((rd_T27 x3_1 (ji9)).f0))).setCell ⟨gb163, 1, none⟩ (.int .i64 ((rd_T27 x3_1 (ji9)).f1))) g none) := ⟨by repeat (first | (with_reducible first | exact HK.out | apply KeepBut.set_ | apply keep_drewN | apply keep_drew | apply keep_alloc | refine keep_far ?_ GW163.out _) | exact HK.out)⟩
        have n4_ : Aside0 (Below w0.heap.size w0 ((w36.setCell ⟨gb163, 0, none⟩ (.int .i64 ((rd_T27 x3_1 (ji9)).f0))).setCell ⟨gb163, 1, none⟩ (.int .i64 ((rd_T27 x3_1 (ji9)).f1)))) := ⟨by repeat (first | (with_reducible first | exact HB.out | apply below_alloc | apply pw_below_drewN | apply below_drew1 | refine below_set ?_ (IsS109.ge HI0.out) | refine below_set ?_ GE163.out) | exact HB.out)⟩
        (try clear HO_3)
        (try clear BK163)
        (try clear HI0)
        (try clear HK)
        (try clear HB)
        generalize ((w36.setCell ⟨gb163, 0, none⟩ (.int .i64 ((rd_T27 x3_1 (ji9)).f0))).setCell ⟨gb163, 1, none⟩ (.int .i64 ((rd_T27 x3_1 (ji9)).f1))) = w39 at n0_ n1_ n2_ n3_ n4_ ⊢
        have HO_3 := n0_
        have BK163 := n1_
        have HI0 := n2_
        have HK := n3_
        have HB := n4_
        clear n0_ n1_ n2_ n3_ n4_
        replace HO_3 := Aside0.mk (Kd.R_drew HO_3.out)
        replace BK163 := Aside0.mk (blk_drew BK163.out)
        replace HI0 := Aside0.mk (IsS109.drew HI0.out)
        replace HK := Aside0.mk (keep_drew HK.out)
        replace HB := Aside0.mk (below_drew1 HB.out)
        refine start_ (n := 11) (S := fun w' => w'.cell? ⟨gb163, 0, none⟩ = some (.int .i64 ((rd_T27 x3_1 (ji9)).f0)) ∧ w'.cell? ⟨gb163, 1, none⟩ = some (.int .i64 ((rd_T27 x3_1 (ji9)).f1))) (ds := []) #[false, false, false, false, false, false, false, false, false, false, false] (by kernel_rfl) rfl rfl ⟨(blk_cell BK163.out 0).trans rfl, (blk_cell BK163.out 1).trans rfl⟩ (fun hHeld => ?_); refine with_tabW spec_l6Draw.tab6 spec_l6Draw.bits6 (fun HT_ HW_ => ?_)
        generalize w39.drew = w40 at HO_3 BK163 HI0 HK HB hHeld ⊢
        refine Hd.p_ HT_ 0 (some 23) #[true, false, false, false, false, false, false, false, false, false, false] ?_
        refine Hd.p_ HT_ 2 (some 25) #[true, false, true, false, false, false, false, false, false, false, false] ?_
        refine Hd.p_ HT_ 4 (some 27) #[true, false, true, false, true, false, false, false, false, false, false] ?_
        refine Hd.t_ HT_ HW_ hHeld 3 (some 26) #[true, false, true, true, true, false, false, false, false, false, false] ?_
        refine join_ (σ := Nat) 1 #[true, true, true, true, true, true, true, true, true, true, false] (fun s_ => [(24, .int .i64 t164), (28, .int .i64 t167), (30, .int .i64 t170), (6, .pointer (some ⟨s_, 0, none⟩)), (29, .int .i64 (wrap64 (((rd_T27 x3_1 (ji9)).f1) + t167))), (31, .agg #[.int .i64 t164, .int .i64 t170])]) (fun s_ w' => (w'.cell? ⟨gb163, 0, none⟩ = some (.int .i64 ((rd_T27 x3_1 (ji9)).f0)) ∧ w'.cell? ⟨gb163, 1, none⟩ = some (.int .i64 ((rd_T27 x3_1 (ji9)).f1))) ∧ (Kd.R k27 27 w' w.heap.size (fun k_ => k_ ≠ gb163 ∧ k_ ≠ s_) (.slice (some ad162) x3_1.length co35) x3_1) ∧ (w'.heap[gb163]? = some (.cells #[.int .i64 ((rd_T27 x3_1 (ji9)).f0), .int .i64 ((rd_T27 x3_1 (ji9)).f1)] 27 (0, 0))) ∧ (w'.heap[s_]? = some (.cells #[.int .i64 0, .int .i64 0] 27 (0, 0))) ∧ (w.heap.size ≤ s_) ∧ (w0.heap.size ≤ s_) ∧ (g ≠ s_) ∧ (s_ ≠ g) ∧ (gb163 ≠ s_) ∧ (s_ ≠ gb163) ∧ (IsS109 w0 w' g s0_0 t168 t169) ∧ (KeepBut w w' g none) ∧ (Below w0.heap.size w0 w')) ?_ ?_
        rotate_left
        ·
         intro hCont
         refine two_ (i := 1) (j := 9) (Ni := some 24) (Nj := some 6) #[true, true, true, true, true, false, false, false, false, false, false] #[true, false, true, true, true, false, false, false, false, true, false] rfl rfl rfl rfl (two_of HT_.out (by kernel_rfl)) (by decide) (by decide) (fun K hK => ?_) (fun K hK => ?_)
         ·
          skip
          refine goes_ Try.func89 (by kernel_rfl) rfl #[.pointer (some ⟨g, 0, none⟩), .int .i64 14] (by rfl) rfl rfl Hd.m_ ?_
          with_reducible refine (spec_l1Below.calls g s0_0 x1001_1 x1002_1 14 t164 t165 t166 w0 _ ?side1 ?side2 A12.out).mono ?_
          (case side1 => repeat (first | (with_reducible first | exact HI0.out | apply IsS109.alloc | apply IsS109.drewN | apply IsS109.drew | apply IsS109.set_1 | apply IsS109.set_2 | refine IsS109.far ?_ NB0_163.out _) | exact HI0.out))
          (case side2 => repeat (first | (with_reducible first | exact HB.out | apply below_alloc | apply pw_below_drewN | apply below_drew1 | refine below_set ?_ (IsS109.ge HI0.out) | refine below_set ?_ GE163.out) | exact HB.out))
          rintro e w41 ⟨rfl, hi, hb, hk⟩
          refine ⟨_, rfl, ?_⟩
          replace HO_3 := Aside0.mk (Kd.R_mono (Kd.R_keep (IsS109.apart (show IsS109 w0 _ g s0_0 x1001_1 x1002_1 from by repeat (first | (with_reducible first | exact HI0.out | apply IsS109.alloc | apply IsS109.drewN | apply IsS109.drew | apply IsS109.set_1 | apply IsS109.set_2 | refine IsS109.far ?_ NB0_163.out _) | exact HI0.out)) (Hd.r_ HO_3) (by decide)) hk (fun _ h => h.2)) (fun _ h => h.1))
          replace BK163 := Aside0.mk (KeepBut.blk hk (g' := gb163) (o := .cells #[.int .i64 ((rd_T27 x3_1 (ji9)).f0), .int .i64 ((rd_T27 x3_1 (ji9)).f1)] 27 (0, 0)) (Hd.k_ BK163) NB163_0.out (by simp))
          replace HK := Aside0.mk (KeepBut.trans (by repeat (first | (with_reducible first | exact HK.out | apply KeepBut.set_ | apply keep_drewN | apply keep_drew | apply keep_alloc | refine keep_far ?_ GW163.out _) | exact HK.out)) hk (.inl rfl))
          replace HB := Aside0.mk (hb)
          replace HI0 := Aside0.mk (hi)
          (try clear hb)
          (try clear hb2)
          (try clear hk)
          (try clear hi)
          refine hK.out _ _ ⟨(blk_cell BK163.out 0).trans rfl, (blk_cell BK163.out 1).trans rfl⟩ (fun hHeld => ?_)
          clear hK K
          refine Hd.n_ (some 24) ?_
          refine two_ (i := 5) (j := 9) (Ni := some 28) (Nj := some 6) #[true, true, true, true, true, true, false, false, false, false, false] #[true, true, true, true, true, false, false, false, false, true, false] rfl rfl rfl rfl (two_of HT_.out (by kernel_rfl)) (by decide) (by decide) (fun K hK => ?_) (fun K hK => ?_)
          ·
           skip
           refine goes_ Try.func89 (by kernel_rfl) rfl #[.pointer (some ⟨g, 0, none⟩), .int .i64 4] (by rfl) rfl rfl Hd.m_ ?_
           with_reducible refine (spec_l1Below.calls g s0_0 t165 t166 4 t167 t168 t169 w0 _ ?side1 ?side2 A13.out).mono ?_
           (case side1 => repeat (first | (with_reducible first | exact HI0.out | apply IsS109.alloc | apply IsS109.drewN | apply IsS109.drew | apply IsS109.set_1 | apply IsS109.set_2 | refine IsS109.far ?_ NB0_163.out _) | exact HI0.out))
           (case side2 => repeat (first | (with_reducible first | exact HB.out | apply below_alloc | apply pw_below_drewN | apply below_drew1 | refine below_set ?_ (IsS109.ge HI0.out) | refine below_set ?_ GE163.out) | exact HB.out))
           rintro e w42 ⟨rfl, hi, hb, hk⟩
           refine ⟨_, rfl, ?_⟩
           replace HO_3 := Aside0.mk (Kd.R_mono (Kd.R_keep (IsS109.apart (show IsS109 w0 _ g s0_0 t165 t166 from by repeat (first | (with_reducible first | exact HI0.out | apply IsS109.alloc | apply IsS109.drewN | apply IsS109.drew | apply IsS109.set_1 | apply IsS109.set_2 | refine IsS109.far ?_ NB0_163.out _) | exact HI0.out)) (Hd.r_ HO_3) (by decide)) hk (fun _ h => h.2)) (fun _ h => h.1))
           replace BK163 := Aside0.mk (KeepBut.blk hk (g' := gb163) (o := .cells #[.int .i64 ((rd_T27 x3_1 (ji9)).f0), .int .i64 ((rd_T27 x3_1 (ji9)).f1)] 27 (0, 0)) (Hd.k_ BK163) NB163_0.out (by simp))
           replace HK := Aside0.mk (KeepBut.trans (by repeat (first | (with_reducible first | exact HK.out | apply KeepBut.set_ | apply keep_drewN | apply keep_drew | apply keep_alloc | refine keep_far ?_ GW163.out _) | exact HK.out)) hk (.inl rfl))
           replace HB := Aside0.mk (hb)
           replace HI0 := Aside0.mk (hi)
           (try clear hb)
           (try clear hb2)
           (try clear hk)
           (try clear hi)
           refine hK.out _ _ ⟨(blk_cell BK163.out 0).trans rfl, (blk_cell BK163.out 1).trans rfl⟩ (fun hHeld => ?_)
           clear hK K
           refine Hd.n_ (some 28) ?_
           refine Hd.p_ HT_ 6 (some 29) #[true, true, true, true, true, true, true, false, false, false, false] ?_
           refine two_ (i := 7) (j := 9) (Ni := some 30) (Nj := some 6) #[true, true, true, true, true, true, true, true, false, false, false] #[true, true, true, true, true, true, true, false, false, true, false] rfl rfl rfl rfl (two_of HT_.out (by kernel_rfl)) (by decide) (by decide) (fun K hK => ?_) (fun K hK => ?_)
           ·
            skip
            refine goes_ Try.func119 (by kernel_rfl) rfl #[.int .i64 200, .int .i64 (wrap64 (((rd_T27 x3_1 (ji9)).f1) + t167))] (by rfl) rfl rfl (by (try simp only [List.map_toArray, List.map_cons, List.map_nil]); first | done | (simp only [hji9]; rfl) | rfl | (simp only [List.length_drop, List.length_take]; rfl)) ?_
            with_reducible refine (spec_Min.calls 200 (wrap64 (((rd_T27 x3_1 (ji9)).f1) + t167)) t170 _ A14.out).mono ?_
            rintro e w' ⟨rfl, ⟨nd, rfl⟩⟩
            refine ⟨_, rfl, ?_⟩
            replace HO_3 := Aside0.mk (Kd.R_drewN HO_3.out nd)
            replace BK163 := Aside0.mk (blk_drewN BK163.out nd)
            replace HB := Aside0.mk (pw_below_drewN HB.out nd)
            generalize w40.drewN nd = w40 at HO_3 BK163 HB ⊢
            refine hK.out _ _ ⟨(blk_cell BK163.out 0).trans rfl, (blk_cell BK163.out 1).trans rfl⟩ (fun hHeld => ?_)
            clear hK K
            refine Hd.n_ (some 30) ?_
            refine Hd.p_ HT_ 8 (some 31) #[true, true, true, true, true, true, true, true, true, false, false] ?_
            refine Hd.o_ HT_ 9 (some 6) #[true, true, true, true, true, true, true, true, true, true, false] (fun K hK => ?_)
            refine box_step ?hg (N := 6) ?hd (cs := #[.int .i64 0, .int .i64 0]) (t := 27) ?hr ?_; (case hd => rfl); (case hg => rfl); (case hr => first | (go_simp; done) | (go_simp; rfl))
            intro gb171 hg w43 hbox hb
            replace HO_3 := Aside0.mk (Kd.R_below (Kd.R_elderB (Hd.r_ HO_3) gb171 (Nat.le_of_eq hg.symm)) hb)
            replace HB := Aside0.mk (below_step (by repeat (first | (with_reducible first | exact HB.out | apply below_alloc | apply pw_below_drewN | apply below_drew1 | refine below_set ?_ (IsS109.ge HI0.out) | refine below_set ?_ GE163.out) | exact HB.out)) hb)
            have BK171 := Aside0.mk (hbox)
            have GW171 := Aside0.mk ((by rw [hg]; exact (keep_size (w := w) (g := g) (row := none) (by repeat (first | (with_reducible first | exact HK.out | apply KeepBut.set_ | apply keep_drewN | apply keep_drew | apply keep_alloc | refine keep_far ?_ GW163.out _) | exact HK.out))) : w.heap.size ≤ gb171))
            have GE171 := Aside0.mk ((Nat.le_trans HW0.out (by rw [hg]; exact (keep_size (w := w) (g := g) (row := none) (by repeat (first | (with_reducible first | exact HK.out | apply KeepBut.set_ | apply keep_drewN | apply keep_drew | apply keep_alloc | refine keep_far ?_ GW163.out _) | exact HK.out))) : w.heap.size ≤ gb171) : w0.heap.size ≤ gb171))
            replace HK := Aside0.mk (KeepBut.trans (by repeat (first | (with_reducible first | exact HK.out | apply KeepBut.set_ | apply keep_drewN | apply keep_drew | apply keep_alloc | refine keep_far ?_ GW163.out _) | exact HK.out)) (KeepBut.of_below hb g none) (.inl rfl))
            have NB163_171 := Aside0.mk ((Hd.lt_ BK163 hg))
            have NB171_163 := Aside0.mk ((Hd.gt_ BK163 hg))
            replace BK163 := Aside0.mk (Hd.kb_ BK163 hb)
            have NB0_171 := Aside0.mk ((by rw [hg]; exact Nat.ne_of_lt (IsS109.lt (show IsS109 w0 _ g s0_0 t168 t169 from by repeat (first | (with_reducible first | exact HI0.out | apply IsS109.alloc | apply IsS109.drewN | apply IsS109.drew | apply IsS109.set_1 | apply IsS109.set_2 | refine IsS109.far ?_ NB0_163.out _) | exact HI0.out))) : g ≠ gb171))
            have NB171_0 := Aside0.mk ((by rw [hg]; exact Nat.ne_of_gt (IsS109.lt (show IsS109 w0 _ g s0_0 t168 t169 from by repeat (first | (with_reducible first | exact HI0.out | apply IsS109.alloc | apply IsS109.drewN | apply IsS109.drew | apply IsS109.set_1 | apply IsS109.set_2 | refine IsS109.far ?_ NB0_163.out _) | exact HI0.out))) : gb171 ≠ g))
            replace HI0 := Aside0.mk (IsS109.below (by repeat (first | (with_reducible first | exact HI0.out | apply IsS109.alloc | apply IsS109.drewN | apply IsS109.drew | apply IsS109.set_1 | apply IsS109.set_2 | refine IsS109.far ?_ NB0_163.out _) | exact HI0.out)) hb)
            clear hb hbox hg
            refine hK.out _ _ ⟨(blk_cell BK163.out 0).trans rfl, (blk_cell BK163.out 1).trans rfl⟩ (fun hHeld => ?_)
            clear hK K
            refine Hd.n_ (some 6) ?_
            exact norm_ (by simp only [putAll, Act.put, List.setIfInBounds_toArray, List.set_cons_zero, List.set_cons_succ]) (hCont (gb171) _ ⟨hHeld, (Hd.r_ HO_3), (Hd.k_ BK163), (Hd.k_ BK171), GW171.out, GE171.out, NB0_171.out, NB171_0.out, NB163_171.out, NB171_163.out, (by repeat (first | (with_reducible first | exact HI0.out | apply IsS109.alloc | apply IsS109.drewN | apply IsS109.drew | apply IsS109.set_1 | apply IsS109.set_2 | refine IsS109.far ?_ NB0_163.out _ | refine IsS109.far ?_ NB0_171.out _) | exact HI0.out)), (by repeat (first | (with_reducible first | exact HK.out | apply KeepBut.set_ | apply keep_drewN | apply keep_drew | apply keep_alloc | refine keep_far ?_ GW163.out _ | refine keep_far ?_ GW171.out _) | exact HK.out)), (by repeat (first | (with_reducible first | exact HB.out | apply below_alloc | apply pw_below_drewN | apply below_drew1 | refine below_set ?_ (IsS109.ge HI0.out) | refine below_set ?_ GE163.out | refine below_set ?_ GE171.out) | exact HB.out))⟩)
           ·
            skip
            refine box_step ?hg (N := 6) ?hd (cs := #[.int .i64 0, .int .i64 0]) (t := 27) ?hr ?_; (case hd => rfl); (case hg => rfl); (case hr => first | (go_simp; done) | (go_simp; rfl))
            intro gb171 hg w43 hbox hb
            replace HO_3 := Aside0.mk (Kd.R_below (Kd.R_elderB (Hd.r_ HO_3) gb171 (Nat.le_of_eq hg.symm)) hb)
            replace HB := Aside0.mk (below_step (by repeat (first | (with_reducible first | exact HB.out | apply below_alloc | apply pw_below_drewN | apply below_drew1 | refine below_set ?_ (IsS109.ge HI0.out) | refine below_set ?_ GE163.out) | exact HB.out)) hb)
            have BK171 := Aside0.mk (hbox)
            have GW171 := Aside0.mk ((by rw [hg]; exact (keep_size (w := w) (g := g) (row := none) (by repeat (first | (with_reducible first | exact HK.out | apply KeepBut.set_ | apply keep_drewN | apply keep_drew | apply keep_alloc | refine keep_far ?_ GW163.out _) | exact HK.out))) : w.heap.size ≤ gb171))
            have GE171 := Aside0.mk ((Nat.le_trans HW0.out (by rw [hg]; exact (keep_size (w := w) (g := g) (row := none) (by repeat (first | (with_reducible first | exact HK.out | apply KeepBut.set_ | apply keep_drewN | apply keep_drew | apply keep_alloc | refine keep_far ?_ GW163.out _) | exact HK.out))) : w.heap.size ≤ gb171) : w0.heap.size ≤ gb171))
            replace HK := Aside0.mk (KeepBut.trans (by repeat (first | (with_reducible first | exact HK.out | apply KeepBut.set_ | apply keep_drewN | apply keep_drew | apply keep_alloc | refine keep_far ?_ GW163.out _) | exact HK.out)) (KeepBut.of_below hb g none) (.inl rfl))
            have NB163_171 := Aside0.mk ((Hd.lt_ BK163 hg))
            have NB171_163 := Aside0.mk ((Hd.gt_ BK163 hg))
            replace BK163 := Aside0.mk (Hd.kb_ BK163 hb)
            have NB0_171 := Aside0.mk ((by rw [hg]; exact Nat.ne_of_lt (IsS109.lt (show IsS109 w0 _ g s0_0 t168 t169 from by repeat (first | (with_reducible first | exact HI0.out | apply IsS109.alloc | apply IsS109.drewN | apply IsS109.drew | apply IsS109.set_1 | apply IsS109.set_2 | refine IsS109.far ?_ NB0_163.out _) | exact HI0.out))) : g ≠ gb171))
            have NB171_0 := Aside0.mk ((by rw [hg]; exact Nat.ne_of_gt (IsS109.lt (show IsS109 w0 _ g s0_0 t168 t169 from by repeat (first | (with_reducible first | exact HI0.out | apply IsS109.alloc | apply IsS109.drewN | apply IsS109.drew | apply IsS109.set_1 | apply IsS109.set_2 | refine IsS109.far ?_ NB0_163.out _) | exact HI0.out))) : gb171 ≠ g))
            replace HI0 := Aside0.mk (IsS109.below (by repeat (first | (with_reducible first | exact HI0.out | apply IsS109.alloc | apply IsS109.drewN | apply IsS109.drew | apply IsS109.set_1 | apply IsS109.set_2 | refine IsS109.far ?_ NB0_163.out _) | exact HI0.out)) hb)
            clear hb hbox hg
            refine hK.out _ _ ⟨(blk_cell BK163.out 0).trans rfl, (blk_cell BK163.out 1).trans rfl⟩ (fun hHeld => ?_)
            clear hK K
            refine Hd.n_ (some 6) ?_
            refine Hd.o_ HT_ 7 (some 30) #[true, true, true, true, true, true, true, true, false, true, false] (fun K hK => ?_)
            refine goes_ Try.func119 (by kernel_rfl) rfl #[.int .i64 200, .int .i64 (wrap64 (((rd_T27 x3_1 (ji9)).f1) + t167))] (by rfl) rfl rfl (by (try simp only [List.map_toArray, List.map_cons, List.map_nil]); first | done | (simp only [hji9]; rfl) | rfl | (simp only [List.length_drop, List.length_take]; rfl)) ?_
            with_reducible refine (spec_Min.calls 200 (wrap64 (((rd_T27 x3_1 (ji9)).f1) + t167)) t170 _ A14.out).mono ?_
            rintro e w' ⟨rfl, ⟨nd, rfl⟩⟩
            refine ⟨_, rfl, ?_⟩
            replace HO_3 := Aside0.mk (Kd.R_drewN HO_3.out nd)
            replace BK163 := Aside0.mk (blk_drewN BK163.out nd)
            replace HB := Aside0.mk (pw_below_drewN HB.out nd)
            generalize w40.drewN nd = w40 at HO_3 BK163 HB ⊢
            refine hK.out _ _ ⟨(blk_cell BK163.out 0).trans rfl, (blk_cell BK163.out 1).trans rfl⟩ (fun hHeld => ?_)
            clear hK K
            refine Hd.n_ (some 30) ?_
            refine Hd.p_ HT_ 8 (some 31) #[true, true, true, true, true, true, true, true, true, true, false] ?_
            exact norm_ (by simp only [putAll, Act.put, List.setIfInBounds_toArray, List.set_cons_zero, List.set_cons_succ]) (hCont (gb171) _ ⟨hHeld, (Hd.r_ HO_3), (Hd.k_ BK163), (Hd.k_ BK171), GW171.out, GE171.out, NB0_171.out, NB171_0.out, NB163_171.out, NB171_163.out, (by repeat (first | (with_reducible first | exact HI0.out | apply IsS109.alloc | apply IsS109.drewN | apply IsS109.drew | apply IsS109.set_1 | apply IsS109.set_2 | refine IsS109.far ?_ NB0_163.out _ | refine IsS109.far ?_ NB0_171.out _) | exact HI0.out)), (by repeat (first | (with_reducible first | exact HK.out | apply KeepBut.set_ | apply keep_drewN | apply keep_drew | apply keep_alloc | refine keep_far ?_ GW163.out _ | refine keep_far ?_ GW171.out _) | exact HK.out)), (by repeat (first | (with_reducible first | exact HB.out | apply below_alloc | apply pw_below_drewN | apply below_drew1 | refine below_set ?_ (IsS109.ge HI0.out) | refine below_set ?_ GE163.out | refine below_set ?_ GE171.out) | exact HB.out))⟩)
          ·
           skip
           refine box_step ?hg (N := 6) ?hd (cs := #[.int .i64 0, .int .i64 0]) (t := 27) ?hr ?_; (case hd => rfl); (case hg => rfl); (case hr => first | (go_simp; done) | (go_simp; rfl))
           intro gb171 hg w42 hbox hb
           replace HO_3 := Aside0.mk (Kd.R_below (Kd.R_elderB (Hd.r_ HO_3) gb171 (Nat.le_of_eq hg.symm)) hb)
           replace HB := Aside0.mk (below_step (by repeat (first | (with_reducible first | exact HB.out | apply below_alloc | apply pw_below_drewN | apply below_drew1 | refine below_set ?_ (IsS109.ge HI0.out) | refine below_set ?_ GE163.out) | exact HB.out)) hb)
           have BK171 := Aside0.mk (hbox)
           have GW171 := Aside0.mk ((by rw [hg]; exact (keep_size (w := w) (g := g) (row := none) (by repeat (first | (with_reducible first | exact HK.out | apply KeepBut.set_ | apply keep_drewN | apply keep_drew | apply keep_alloc | refine keep_far ?_ GW163.out _) | exact HK.out))) : w.heap.size ≤ gb171))
           have GE171 := Aside0.mk ((Nat.le_trans HW0.out (by rw [hg]; exact (keep_size (w := w) (g := g) (row := none) (by repeat (first | (with_reducible first | exact HK.out | apply KeepBut.set_ | apply keep_drewN | apply keep_drew | apply keep_alloc | refine keep_far ?_ GW163.out _) | exact HK.out))) : w.heap.size ≤ gb171) : w0.heap.size ≤ gb171))
           replace HK := Aside0.mk (KeepBut.trans (by repeat (first | (with_reducible first | exact HK.out | apply KeepBut.set_ | apply keep_drewN | apply keep_drew | apply keep_alloc | refine keep_far ?_ GW163.out _) | exact HK.out)) (KeepBut.of_below hb g none) (.inl rfl))
           have NB163_171 := Aside0.mk ((Hd.lt_ BK163 hg))
           have NB171_163 := Aside0.mk ((Hd.gt_ BK163 hg))
           replace BK163 := Aside0.mk (Hd.kb_ BK163 hb)
           have NB0_171 := Aside0.mk ((by rw [hg]; exact Nat.ne_of_lt (IsS109.lt (show IsS109 w0 _ g s0_0 t165 t166 from by repeat (first | (with_reducible first | exact HI0.out | apply IsS109.alloc | apply IsS109.drewN | apply IsS109.drew | apply IsS109.set_1 | apply IsS109.set_2 | refine IsS109.far ?_ NB0_163.out _) | exact HI0.out))) : g ≠ gb171))
           have NB171_0 := Aside0.mk ((by rw [hg]; exact Nat.ne_of_gt (IsS109.lt (show IsS109 w0 _ g s0_0 t165 t166 from by repeat (first | (with_reducible first | exact HI0.out | apply IsS109.alloc | apply IsS109.drewN | apply IsS109.drew | apply IsS109.set_1 | apply IsS109.set_2 | refine IsS109.far ?_ NB0_163.out _) | exact HI0.out))) : gb171 ≠ g))
           replace HI0 := Aside0.mk (IsS109.below (by repeat (first | (with_reducible first | exact HI0.out | apply IsS109.alloc | apply IsS109.drewN | apply IsS109.drew | apply IsS109.set_1 | apply IsS109.set_2 | refine IsS109.far ?_ NB0_163.out _) | exact HI0.out)) hb)
           clear hb hbox hg
           refine hK.out _ _ ⟨(blk_cell BK163.out 0).trans rfl, (blk_cell BK163.out 1).trans rfl⟩ (fun hHeld => ?_)
           clear hK K
           refine Hd.n_ (some 6) ?_
           refine Hd.o_ HT_ 5 (some 28) #[true, true, true, true, true, true, false, false, false, true, false] (fun K hK => ?_)
           refine goes_ Try.func89 (by kernel_rfl) rfl #[.pointer (some ⟨g, 0, none⟩), .int .i64 4] (by rfl) rfl rfl Hd.m_ ?_
           with_reducible refine (spec_l1Below.calls g s0_0 t165 t166 4 t167 t168 t169 w0 _ ?side1 ?side2 A13.out).mono ?_
           (case side1 => repeat (first | (with_reducible first | exact HI0.out | apply IsS109.alloc | apply IsS109.drewN | apply IsS109.drew | apply IsS109.set_1 | apply IsS109.set_2 | refine IsS109.far ?_ NB0_163.out _ | refine IsS109.far ?_ NB0_171.out _) | exact HI0.out))
           (case side2 => repeat (first | (with_reducible first | exact HB.out | apply below_alloc | apply pw_below_drewN | apply below_drew1 | refine below_set ?_ (IsS109.ge HI0.out) | refine below_set ?_ GE163.out | refine below_set ?_ GE171.out) | exact HB.out))
           rintro e w43 ⟨rfl, hi, hb, hk⟩
           refine ⟨_, rfl, ?_⟩
           replace HO_3 := Aside0.mk (Kd.R_mono (Kd.R_keep (IsS109.apart (show IsS109 w0 _ g s0_0 t165 t166 from by repeat (first | (with_reducible first | exact HI0.out | apply IsS109.alloc | apply IsS109.drewN | apply IsS109.drew | apply IsS109.set_1 | apply IsS109.set_2 | refine IsS109.far ?_ NB0_163.out _ | refine IsS109.far ?_ NB0_171.out _) | exact HI0.out)) (Hd.r_ HO_3) (by decide)) hk (fun _ h => h.2)) (fun _ h => h.1))
           replace BK163 := Aside0.mk (KeepBut.blk hk (g' := gb163) (o := .cells #[.int .i64 ((rd_T27 x3_1 (ji9)).f0), .int .i64 ((rd_T27 x3_1 (ji9)).f1)] 27 (0, 0)) (Hd.k_ BK163) NB163_0.out (by simp))
           replace BK171 := Aside0.mk (KeepBut.blk hk (g' := gb171) (o := .cells #[.int .i64 0, .int .i64 0] 27 (0, 0)) (Hd.k_ BK171) NB171_0.out (by simp))
           replace HK := Aside0.mk (KeepBut.trans (by repeat (first | (with_reducible first | exact HK.out | apply KeepBut.set_ | apply keep_drewN | apply keep_drew | apply keep_alloc | refine keep_far ?_ GW163.out _ | refine keep_far ?_ GW171.out _) | exact HK.out)) hk (.inl rfl))
           replace HB := Aside0.mk (hb)
           replace HI0 := Aside0.mk (hi)
           (try clear hb)
           (try clear hb2)
           (try clear hk)
           (try clear hi)
           refine hK.out _ _ ⟨(blk_cell BK163.out 0).trans rfl, (blk_cell BK163.out 1).trans rfl⟩ (fun hHeld => ?_)
           clear hK K
           refine Hd.n_ (some 28) ?_
           refine Hd.p_ HT_ 6 (some 29) #[true, true, true, true, true, true, true, false, false, true, false] ?_
           refine Hd.o_ HT_ 7 (some 30) #[true, true, true, true, true, true, true, true, false, true, false] (fun K hK => ?_)
           refine goes_ Try.func119 (by kernel_rfl) rfl #[.int .i64 200, .int .i64 (wrap64 (((rd_T27 x3_1 (ji9)).f1) + t167))] (by rfl) rfl rfl (by (try simp only [List.map_toArray, List.map_cons, List.map_nil]); first | done | (simp only [hji9]; rfl) | rfl | (simp only [List.length_drop, List.length_take]; rfl)) ?_
           with_reducible refine (spec_Min.calls 200 (wrap64 (((rd_T27 x3_1 (ji9)).f1) + t167)) t170 _ A14.out).mono ?_
           rintro e w' ⟨rfl, ⟨nd, rfl⟩⟩
           refine ⟨_, rfl, ?_⟩
           replace HO_3 := Aside0.mk (Kd.R_drewN HO_3.out nd)
           replace BK163 := Aside0.mk (blk_drewN BK163.out nd)
           replace HB := Aside0.mk (pw_below_drewN HB.out nd)
           generalize w40.drewN nd = w40 at HO_3 BK163 HB ⊢
           refine hK.out _ _ ⟨(blk_cell BK163.out 0).trans rfl, (blk_cell BK163.out 1).trans rfl⟩ (fun hHeld => ?_)
           clear hK K
           refine Hd.n_ (some 30) ?_
           refine Hd.p_ HT_ 8 (some 31) #[true, true, true, true, true, true, true, true, true, true, false] ?_
           exact norm_ (by simp only [putAll, Act.put, List.setIfInBounds_toArray, List.set_cons_zero, List.set_cons_succ]) (hCont (gb171) _ ⟨hHeld, (Hd.r_ HO_3), (Hd.k_ BK163), (Hd.k_ BK171), GW171.out, GE171.out, NB0_171.out, NB171_0.out, NB163_171.out, NB171_163.out, (by repeat (first | (with_reducible first | exact HI0.out | apply IsS109.alloc | apply IsS109.drewN | apply IsS109.drew | apply IsS109.set_1 | apply IsS109.set_2 | refine IsS109.far ?_ NB0_163.out _ | refine IsS109.far ?_ NB0_171.out _) | exact HI0.out)), (by repeat (first | (with_reducible first | exact HK.out | apply KeepBut.set_ | apply keep_drewN | apply keep_drew | apply keep_alloc | refine keep_far ?_ GW163.out _ | refine keep_far ?_ GW171.out _) | exact HK.out)), (by repeat (first | (with_reducible first | exact HB.out | apply below_alloc | apply pw_below_drewN | apply below_drew1 | refine below_set ?_ (IsS109.ge HI0.out) | refine below_set ?_ GE163.out | refine below_set ?_ GE171.out) | exact HB.out))⟩)
         ·
          skip
          refine box_step ?hg (N := 6) ?hd (cs := #[.int .i64 0, .int .i64 0]) (t := 27) ?hr ?_; (case hd => rfl); (case hg => rfl); (case hr => first | (go_simp; done) | (go_simp; rfl))
          intro gb171 hg w41 hbox hb
          replace HO_3 := Aside0.mk (Kd.R_below (Kd.R_elderB (Hd.r_ HO_3) gb171 (Nat.le_of_eq hg.symm)) hb)
          replace HB := Aside0.mk (below_step (by repeat (first | (with_reducible first | exact HB.out | apply below_alloc | apply pw_below_drewN | apply below_drew1 | refine below_set ?_ (IsS109.ge HI0.out) | refine below_set ?_ GE163.out) | exact HB.out)) hb)
          have BK171 := Aside0.mk (hbox)
          have GW171 := Aside0.mk ((by rw [hg]; exact (keep_size (w := w) (g := g) (row := none) (by repeat (first | (with_reducible first | exact HK.out | apply KeepBut.set_ | apply keep_drewN | apply keep_drew | apply keep_alloc | refine keep_far ?_ GW163.out _) | exact HK.out))) : w.heap.size ≤ gb171))
          have GE171 := Aside0.mk ((Nat.le_trans HW0.out (by rw [hg]; exact (keep_size (w := w) (g := g) (row := none) (by repeat (first | (with_reducible first | exact HK.out | apply KeepBut.set_ | apply keep_drewN | apply keep_drew | apply keep_alloc | refine keep_far ?_ GW163.out _) | exact HK.out))) : w.heap.size ≤ gb171) : w0.heap.size ≤ gb171))
          replace HK := Aside0.mk (KeepBut.trans (by repeat (first | (with_reducible first | exact HK.out | apply KeepBut.set_ | apply keep_drewN | apply keep_drew | apply keep_alloc | refine keep_far ?_ GW163.out _) | exact HK.out)) (KeepBut.of_below hb g none) (.inl rfl))
          have NB163_171 := Aside0.mk ((Hd.lt_ BK163 hg))
          have NB171_163 := Aside0.mk ((Hd.gt_ BK163 hg))
          replace BK163 := Aside0.mk (Hd.kb_ BK163 hb)
          have NB0_171 := Aside0.mk ((by rw [hg]; exact Nat.ne_of_lt (IsS109.lt (show IsS109 w0 _ g s0_0 x1001_1 x1002_1 from by repeat (first | (with_reducible first | exact HI0.out | apply IsS109.alloc | apply IsS109.drewN | apply IsS109.drew | apply IsS109.set_1 | apply IsS109.set_2 | refine IsS109.far ?_ NB0_163.out _) | exact HI0.out))) : g ≠ gb171))
          have NB171_0 := Aside0.mk ((by rw [hg]; exact Nat.ne_of_gt (IsS109.lt (show IsS109 w0 _ g s0_0 x1001_1 x1002_1 from by repeat (first | (with_reducible first | exact HI0.out | apply IsS109.alloc | apply IsS109.drewN | apply IsS109.drew | apply IsS109.set_1 | apply IsS109.set_2 | refine IsS109.far ?_ NB0_163.out _) | exact HI0.out))) : gb171 ≠ g))
          replace HI0 := Aside0.mk (IsS109.below (by repeat (first | (with_reducible first | exact HI0.out | apply IsS109.alloc | apply IsS109.drewN | apply IsS109.drew | apply IsS109.set_1 | apply IsS109.set_2 | refine IsS109.far ?_ NB0_163.out _) | exact HI0.out)) hb)
          clear hb hbox hg
          refine hK.out _ _ ⟨(blk_cell BK163.out 0).trans rfl, (blk_cell BK163.out 1).trans rfl⟩ (fun hHeld => ?_)
          clear hK K
          refine Hd.n_ (some 6) ?_
          refine Hd.o_ HT_ 1 (some 24) #[true, true, true, true, true, false, false, false, false, true, false] (fun K hK => ?_)
          refine goes_ Try.func89 (by kernel_rfl) rfl #[.pointer (some ⟨g, 0, none⟩), .int .i64 14] (by rfl) rfl rfl Hd.m_ ?_
          with_reducible refine (spec_l1Below.calls g s0_0 x1001_1 x1002_1 14 t164 t165 t166 w0 _ ?side1 ?side2 A12.out).mono ?_
          (case side1 => repeat (first | (with_reducible first | exact HI0.out | apply IsS109.alloc | apply IsS109.drewN | apply IsS109.drew | apply IsS109.set_1 | apply IsS109.set_2 | refine IsS109.far ?_ NB0_163.out _ | refine IsS109.far ?_ NB0_171.out _) | exact HI0.out))
          (case side2 => repeat (first | (with_reducible first | exact HB.out | apply below_alloc | apply pw_below_drewN | apply below_drew1 | refine below_set ?_ (IsS109.ge HI0.out) | refine below_set ?_ GE163.out | refine below_set ?_ GE171.out) | exact HB.out))
          rintro e w42 ⟨rfl, hi, hb, hk⟩
          refine ⟨_, rfl, ?_⟩
          replace HO_3 := Aside0.mk (Kd.R_mono (Kd.R_keep (IsS109.apart (show IsS109 w0 _ g s0_0 x1001_1 x1002_1 from by repeat (first | (with_reducible first | exact HI0.out | apply IsS109.alloc | apply IsS109.drewN | apply IsS109.drew | apply IsS109.set_1 | apply IsS109.set_2 | refine IsS109.far ?_ NB0_163.out _ | refine IsS109.far ?_ NB0_171.out _) | exact HI0.out)) (Hd.r_ HO_3) (by decide)) hk (fun _ h => h.2)) (fun _ h => h.1))
          replace BK163 := Aside0.mk (KeepBut.blk hk (g' := gb163) (o := .cells #[.int .i64 ((rd_T27 x3_1 (ji9)).f0), .int .i64 ((rd_T27 x3_1 (ji9)).f1)] 27 (0, 0)) (Hd.k_ BK163) NB163_0.out (by simp))
          replace BK171 := Aside0.mk (KeepBut.blk hk (g' := gb171) (o := .cells #[.int .i64 0, .int .i64 0] 27 (0, 0)) (Hd.k_ BK171) NB171_0.out (by simp))
          replace HK := Aside0.mk (KeepBut.trans (by repeat (first | (with_reducible first | exact HK.out | apply KeepBut.set_ | apply keep_drewN | apply keep_drew | apply keep_alloc | refine keep_far ?_ GW163.out _ | refine keep_far ?_ GW171.out _) | exact HK.out)) hk (.inl rfl))
          replace HB := Aside0.mk (hb)
          replace HI0 := Aside0.mk (hi)
          (try clear hb)
          (try clear hb2)
          (try clear hk)
          (try clear hi)
          refine hK.out _ _ ⟨(blk_cell BK163.out 0).trans rfl, (blk_cell BK163.out 1).trans rfl⟩ (fun hHeld => ?_)
          clear hK K
          refine Hd.n_ (some 24) ?_
          refine Hd.o_ HT_ 5 (some 28) #[true, true, true, true, true, true, false, false, false, true, false] (fun K hK => ?_)
          refine goes_ Try.func89 (by kernel_rfl) rfl #[.pointer (some ⟨g, 0, none⟩), .int .i64 4] (by rfl) rfl rfl Hd.m_ ?_
          with_reducible refine (spec_l1Below.calls g s0_0 t165 t166 4 t167 t168 t169 w0 _ ?side1 ?side2 A13.out).mono ?_
          (case side1 => repeat (first | (with_reducible first | exact HI0.out | apply IsS109.alloc | apply IsS109.drewN | apply IsS109.drew | apply IsS109.set_1 | apply IsS109.set_2 | refine IsS109.far ?_ NB0_163.out _ | refine IsS109.far ?_ NB0_171.out _) | exact HI0.out))
          (case side2 => repeat (first | (with_reducible first | exact HB.out | apply below_alloc | apply pw_below_drewN | apply below_drew1 | refine below_set ?_ (IsS109.ge HI0.out) | refine below_set ?_ GE163.out | refine below_set ?_ GE171.out) | exact HB.out))
          rintro e w43 ⟨rfl, hi, hb, hk⟩
          refine ⟨_, rfl, ?_⟩
          replace HO_3 := Aside0.mk (Kd.R_mono (Kd.R_keep (IsS109.apart (show IsS109 w0 _ g s0_0 t165 t166 from by repeat (first | (with_reducible first | exact HI0.out | apply IsS109.alloc | apply IsS109.drewN | apply IsS109.drew | apply IsS109.set_1 | apply IsS109.set_2 | refine IsS109.far ?_ NB0_163.out _ | refine IsS109.far ?_ NB0_171.out _) | exact HI0.out)) (Hd.r_ HO_3) (by decide)) hk (fun _ h => h.2)) (fun _ h => h.1))
          replace BK163 := Aside0.mk (KeepBut.blk hk (g' := gb163) (o := .cells #[.int .i64 ((rd_T27 x3_1 (ji9)).f0), .int .i64 ((rd_T27 x3_1 (ji9)).f1)] 27 (0, 0)) (Hd.k_ BK163) NB163_0.out (by simp))
          replace BK171 := Aside0.mk (KeepBut.blk hk (g' := gb171) (o := .cells #[.int .i64 0, .int .i64 0] 27 (0, 0)) (Hd.k_ BK171) NB171_0.out (by simp))
          replace HK := Aside0.mk (KeepBut.trans (by repeat (first | (with_reducible first | exact HK.out | apply KeepBut.set_ | apply keep_drewN | apply keep_drew | apply keep_alloc | refine keep_far ?_ GW163.out _ | refine keep_far ?_ GW171.out _) | exact HK.out)) hk (.inl rfl))
          replace HB := Aside0.mk (hb)
          replace HI0 := Aside0.mk (hi)
          (try clear hb)
          (try clear hb2)
          (try clear hk)
          (try clear hi)
          refine hK.out _ _ ⟨(blk_cell BK163.out 0).trans rfl, (blk_cell BK163.out 1).trans rfl⟩ (fun hHeld => ?_)
          clear hK K
          refine Hd.n_ (some 28) ?_
          refine Hd.p_ HT_ 6 (some 29) #[true, true, true, true, true, true, true, false, false, true, false] ?_
          refine Hd.o_ HT_ 7 (some 30) #[true, true, true, true, true, true, true, true, false, true, false] (fun K hK => ?_)
          refine goes_ Try.func119 (by kernel_rfl) rfl #[.int .i64 200, .int .i64 (wrap64 (((rd_T27 x3_1 (ji9)).f1) + t167))] (by rfl) rfl rfl (by (try simp only [List.map_toArray, List.map_cons, List.map_nil]); first | done | (simp only [hji9]; rfl) | rfl | (simp only [List.length_drop, List.length_take]; rfl)) ?_
          with_reducible refine (spec_Min.calls 200 (wrap64 (((rd_T27 x3_1 (ji9)).f1) + t167)) t170 _ A14.out).mono ?_
          rintro e w' ⟨rfl, ⟨nd, rfl⟩⟩
          refine ⟨_, rfl, ?_⟩
          replace HO_3 := Aside0.mk (Kd.R_drewN HO_3.out nd)
          replace BK163 := Aside0.mk (blk_drewN BK163.out nd)
          replace HB := Aside0.mk (pw_below_drewN HB.out nd)
          generalize w40.drewN nd = w40 at HO_3 BK163 HB ⊢
          refine hK.out _ _ ⟨(blk_cell BK163.out 0).trans rfl, (blk_cell BK163.out 1).trans rfl⟩ (fun hHeld => ?_)
          clear hK K
          refine Hd.n_ (some 30) ?_
          refine Hd.p_ HT_ 8 (some 31) #[true, true, true, true, true, true, true, true, true, true, false] ?_
          exact norm_ (by simp only [putAll, Act.put, List.setIfInBounds_toArray, List.set_cons_zero, List.set_cons_succ]) (hCont (gb171) _ ⟨hHeld, (Hd.r_ HO_3), (Hd.k_ BK163), (Hd.k_ BK171), GW171.out, GE171.out, NB0_171.out, NB171_0.out, NB163_171.out, NB171_163.out, (by repeat (first | (with_reducible first | exact HI0.out | apply IsS109.alloc | apply IsS109.drewN | apply IsS109.drew | apply IsS109.set_1 | apply IsS109.set_2 | refine IsS109.far ?_ NB0_163.out _ | refine IsS109.far ?_ NB0_171.out _) | exact HI0.out)), (by repeat (first | (with_reducible first | exact HK.out | apply KeepBut.set_ | apply keep_drewN | apply keep_drew | apply keep_alloc | refine keep_far ?_ GW163.out _ | refine keep_far ?_ GW171.out _) | exact HK.out)), (by repeat (first | (with_reducible first | exact HB.out | apply below_alloc | apply pw_below_drewN | apply below_drew1 | refine below_set ?_ (IsS109.ge HI0.out) | refine below_set ?_ GE163.out | refine below_set ?_ GE171.out) | exact HB.out))⟩)
        rintro gb171 w44 ⟨hS_, h0_, h1_, h2_, h3_, h4_, h5_, h6_, h7_, h8_, h9_, h10_, h11_⟩
        have n0_ : Aside0 (Kd.R k27 27 w44 w.heap.size (fun k_ => k_ ≠ gb163 ∧ k_ ≠ gb171) (.slice (some ad162) x3_1.length co35) x3_1) := ⟨h0_⟩
        have n1_ : Aside0 (w44.heap[gb163]? = some (.cells #[.int .i64 ((rd_T27 x3_1 (ji9)).f0), .int .i64 ((rd_T27 x3_1 (ji9)).f1)] 27 (0, 0))) := ⟨h1_⟩
        have n2_ : Aside0 (w44.heap[gb171]? = some (.cells #[.int .i64 0, .int .i64 0] 27 (0, 0))) := ⟨h2_⟩
        have n3_ : Aside0 (w.heap.size ≤ gb171) := ⟨h3_⟩
        have n4_ : Aside0 (w0.heap.size ≤ gb171) := ⟨h4_⟩
        have n5_ : Aside0 (g ≠ gb171) := ⟨h5_⟩
        have n6_ : Aside0 (gb171 ≠ g) := ⟨h6_⟩
        have n7_ : Aside0 (gb163 ≠ gb171) := ⟨h7_⟩
        have n8_ : Aside0 (gb171 ≠ gb163) := ⟨h8_⟩
        have n9_ : Aside0 (IsS109 w0 w44 g s0_0 t168 t169) := ⟨h9_⟩
        have n10_ : Aside0 (KeepBut w w44 g none) := ⟨h10_⟩
        have n11_ : Aside0 (Below w0.heap.size w0 w44) := ⟨h11_⟩
        clear HO_3
        clear BK163
        clear HI0
        clear HK
        clear HB
        clear h0_ h1_ h2_ h3_ h4_ h5_ h6_ h7_ h8_ h9_ h10_ h11_
        have HO_3 := n0_
        have BK163 := n1_
        have BK171 := n2_
        have GW171 := n3_
        have GE171 := n4_
        have NB0_171 := n5_
        have NB171_0 := n6_
        have NB163_171 := n7_
        have NB171_163 := n8_
        have HI0 := n9_
        have HK := n10_
        have HB := n11_
        clear n0_ n1_ n2_ n3_ n4_ n5_ n6_ n7_ n8_ n9_ n10_ n11_
        have hHeld : w44.cell? ⟨gb163, 0, none⟩ = some (.int .i64 ((rd_T27 x3_1 (ji9)).f0)) ∧ w44.cell? ⟨gb163, 1, none⟩ = some (.int .i64 ((rd_T27 x3_1 (ji9)).f1)) := hS_
        refine norm_ (a' := ?_) ?_ ?_
        rotate_left
        ·
         simp only [putAll, Act.put, List.setIfInBounds_toArray, List.set_cons_zero, List.set_cons_succ]
         rfl
        refine Hd.o_ HT_ 10 (none) #[true, true, true, true, true, true, true, true, true, true, true] (fun K hK => ?_)
        have hs45 : w44.cell? ⟨gb171, 0, none⟩ = some (.int .i64 0) := (blk_cell BK171.out 0).trans rfl
        have hfs45 := blk_frozen BK171.out 0
        have hns45_0 := NB163_171.out
        have hms45_0 := NB171_163.out
        have hs46 : w44.cell? ⟨gb171, 1, none⟩ = some (.int .i64 0) := (blk_cell BK171.out 1).trans rfl
        have hfs46 := blk_frozen BK171.out 1
        have hns46_0 := NB163_171.out
        have hms46_0 := NB171_163.out
        refine skip_ (w1 := ?_) (by rfl) rfl ?_ ?_
        rotate_left
        ·
         go_simp
         rfl
        refine hK.out _ _ ⟨((cell_far (p := ⟨gb171, _, none⟩) NB163_171.out _).trans (((cell_far (p := ⟨gb171, _, none⟩) NB163_171.out _).trans (hHeld.1)))), ((cell_far (p := ⟨gb171, _, none⟩) NB163_171.out _).trans (((cell_far (p := ⟨gb171, _, none⟩) NB163_171.out _).trans (hHeld.2))))⟩ (fun hHeld => ?_)
        clear hK K
        refine done_ (done_of HT_.out (by kernel_rfl)) ?_
        have hnb47 := NB171_163.out
        have hnc47 := NB163_171.out
        have hnb48 := NB171_0.out
        have hnc48 := NB0_171.out
        obtain ⟨hcz49_0, hcz49_1⟩ := Hd.c2_ BK171.out
        obtain ⟨hfz49_0, hfz49_1⟩ := Hd.f2_ BK171.out
        obtain ⟨hcz50_0, hcz50_1⟩ := Hd.c2_ BK163.out
        obtain ⟨hfz50_0, hfz50_1⟩ := Hd.f2_ BK163.out
        try go_wp2_with (first | ((with_reducible refine gate_builtin (b := .append) (xs := #[.tmp 39, .tmp 41]) rfl ?_); at_builtin; refine Kd.R_append k27 w.heap.size rfl (.tmp 39) (.tmp 41) 24 27 (.agg #[(.int .i64 0), (.int .i64 0)]) 16 rfl Try.underlying24 info27 rfl (by decide) (by omega) (.slice (some ad162) x3_1.length co35) x3_1 (⟨t164, t170⟩ : S27) [.int .i64 t164, .int .i64 t170] (fun k_ => k_ ≠ gb163 ∧ k_ ≠ gb171) (fun _ => False) rfl (by first | (go_simp; done) | (go_simp; rfl)) ?aP (fun _ hk => hk.elim) ?aF ?aO (Below.refl _ _) ?aS ?aL ?_; (case aP => exact k27_mkM _ _ _ (⟨t164, t170⟩ : S27)); (case aF => exact (fun k_ hk => ⟨Kd.freshB (g := gb163) (o := .cells #[.int .i64 ((rd_T27 x3_1 (ji9)).f0), .int .i64 ((rd_T27 x3_1 (ji9)).f1)] 27 (0, 0)) (by (with_reducible repeat (first | refine blk_drewN ?_ _ | refine blk_drew ?_ | refine blk_alloc ?_ _)); refine blk_far ?_ NB163_171.out _; (with_reducible repeat (first | refine blk_drewN ?_ _ | refine blk_drew ?_ | refine blk_alloc ?_ _)); refine blk_far ?_ NB163_171.out _; (with_reducible repeat (first | refine blk_drewN ?_ _ | refine blk_drew ?_ | refine blk_alloc ?_ _)); exact BK163.out) k_ hk, Kd.freshB (g := gb171) (o := .cells #[.int .i64 t164, .int .i64 t170] 27 (0, 0)) (by (with_reducible repeat (first | refine blk_drewN ?_ _ | refine blk_drew ?_ | refine blk_alloc ?_ _)); refine blk_put (cs := #[.int .i64 t164, .int .i64 0]) ?_ 1 _ rfl; (with_reducible repeat (first | refine blk_drewN ?_ _ | refine blk_drew ?_ | refine blk_alloc ?_ _)); refine blk_put (cs := #[.int .i64 0, .int .i64 0]) ?_ 0 _ rfl; (with_reducible repeat (first | refine blk_drewN ?_ _ | refine blk_drew ?_ | refine blk_alloc ?_ _)); exact BK171.out) k_ hk⟩)); (case aO => exact (by (with_reducible repeat (first | apply Kd.R_alloc | apply Kd.R_drewN | apply Kd.R_drew)); exact Kd.R_mono (Kd.R_far (p := ⟨gb171, 1, none⟩) (Kd.R_far (p := ⟨gb171, 0, none⟩) (Kd.R_mono HO_3.out (fun k_ hk => (⟨hk, hk.2⟩ : _ ∧ k_ ≠ gb171))) (fun _ hk => hk.2) (.int .i64 t164)) (fun _ hk => hk.2) (.int .i64 t170)) (fun _ hk => ⟨hk.1.1, hk.1.2⟩))); (case aS => exact (keep_size (w := w) (g := g) (row := none) (by repeat (first | (with_reducible first | exact HK.out | apply KeepBut.set_ | apply keep_drewN | apply keep_drew | apply keep_alloc | refine keep_far ?_ GW163.out _ | refine keep_far ?_ GW171.out _) | exact HK.out)))); (case aL => have := LMc34.out; omega); intro v176 w51 ho hb hg hat; rw [← Ny175.out] at ho; have n0_ := Aside0.mk (IsS109.grown (Hd.as_ (fun W_ => IsS109 _ W_ _ _ _ _) HI0.out (by repeat (first | (with_reducible first | exact HI0.out | apply IsS109.alloc | apply IsS109.drewN | apply IsS109.drew | apply IsS109.set_1 | apply IsS109.set_2 | refine IsS109.far ?_ NB0_163.out _ | refine IsS109.far ?_ NB0_171.out _) | exact HI0.out))) hg (IsS109.own_ne HI0.out HO_3.out (by decide))); have n1_ := Aside0.mk (blk_grown (g := gb163) (o := .cells #[.int .i64 ((rd_T27 x3_1 (ji9)).f0), .int .i64 ((rd_T27 x3_1 (ji9)).f1)] 27 (0, 0)) (by (with_reducible repeat (first | refine blk_drewN ?_ _ | refine blk_drew ?_ | refine blk_alloc ?_ _)); refine blk_far ?_ NB163_171.out _; (with_reducible repeat (first | refine blk_drewN ?_ _ | refine blk_drew ?_ | refine blk_alloc ?_ _)); refine blk_far ?_ NB163_171.out _; (with_reducible repeat (first | refine blk_drewN ?_ _ | refine blk_drew ?_ | refine blk_alloc ?_ _)); exact BK163.out) hg (Kd.R_away HO_3.out (fun _ hk => hk.1))); have n2_ := Aside0.mk (blk_grown (g := gb171) (o := .cells #[.int .i64 t164, .int .i64 t170] 27 (0, 0)) (by (with_reducible repeat (first | refine blk_drewN ?_ _ | refine blk_drew ?_ | refine blk_alloc ?_ _)); refine blk_put (cs := #[.int .i64 t164, .int .i64 0]) ?_ 1 _ rfl; (with_reducible repeat (first | refine blk_drewN ?_ _ | refine blk_drew ?_ | refine blk_alloc ?_ _)); refine blk_put (cs := #[.int .i64 0, .int .i64 0]) ?_ 0 _ rfl; (with_reducible repeat (first | refine blk_drewN ?_ _ | refine blk_drew ?_ | refine blk_alloc ?_ _)); exact BK171.out) hg (Kd.R_away HO_3.out (fun _ hk => hk.2))); have n3_ := Aside0.mk (below_weaken (by repeat (first | (with_reducible first | exact HB.out | apply below_alloc | apply pw_below_drewN | apply below_drew1 | refine below_set ?_ (IsS109.ge HI0.out) | refine below_set ?_ GE163.out | refine below_set ?_ GE171.out) | exact HB.out)) HL.out hb); have n4_ := Aside0.mk (KeepBut.trans (by repeat (first | (with_reducible first | exact HK.out | apply KeepBut.set_ | apply keep_drewN | apply keep_drew | apply keep_alloc | refine keep_far ?_ GW163.out _ | refine keep_far ?_ GW171.out _) | exact HK.out)) (KeepBut.of_grown hg g) (Kd.R_base2 HO_3.out)); have n5_ := Aside0.mk (ho); clear HI0; clear BK163; clear BK171; clear HB; clear HK; clear HO_3; have HI0 := n0_; have BK163 := n1_; have BK171 := n2_; have HB := n3_; have HK := n4_; have HO177 := n5_; clear n0_ n1_ n2_ n3_ n4_ n5_; clear ho hb hg hat))
        go_roundg k1
        case measure => have := HK1.out; omega
        case rel => exact ⟨(y175), (wrap64 (x4_1 - 1)), (t168), (t169), (by first | rfl | (simp; done) | (simp [*]; done)), H', ⟨by have := HK1.out; omega⟩, ⟨by (with_reducible repeat (first | apply Kd.R_alloc | apply Kd.R_drewN | apply Kd.R_drew)); exact Kd.R_mono HO177.out (fun _ hk => trivial)⟩, ⟨by repeat (first | (with_reducible first | exact HI0.out | apply IsS109.alloc | apply IsS109.drewN | apply IsS109.drew | apply IsS109.set_1 | apply IsS109.set_2 | refine IsS109.far ?_ NB0_163.out _ | refine IsS109.far ?_ NB0_171.out _) | exact HI0.out)⟩, ⟨by repeat (first | (with_reducible first | exact HK.out | apply KeepBut.set_ | apply keep_drewN | apply keep_drew | apply keep_alloc | refine keep_far ?_ GW163.out _ | refine keep_far ?_ GW171.out _) | exact HK.out)⟩, ⟨by repeat (first | (with_reducible first | exact HB.out | apply below_alloc | apply pw_below_drewN | apply below_drew1 | refine below_set ?_ (IsS109.ge HI0.out) | refine below_set ?_ GE163.out | refine below_set ?_ GE171.out) | exact HB.out)⟩⟩
       ·
        rw [if_neg c34] at H
        exact absurd H (by simp)
     ·
      rw [if_neg c11] at H
      exact absurd H (by simp)
    ·
     rw [if_neg c10] at H
     exact absurd H (by simp)
   ·
    rw [if_neg c8] at H
    have c8b0 : decide (0 < x4_1) = false := decide_eq_false c8
    clear c8
    simp only [Option.some.injEq, Prod.mk.injEq] at H
    obtain ⟨rfl, rfl, rfl⟩ := H
    go_wp2
    go_ret
    exact ⟨_, Hd.e_, by (with_reducible repeat (first | apply Kd.R_alloc | apply Kd.R_drewN | apply Kd.R_drew)); exact HO_3.out, by repeat (first | (with_reducible first | exact HI0.out | apply IsS109.alloc | apply IsS109.drewN | apply IsS109.drew | apply IsS109.set_1 | apply IsS109.set_2) | exact HI0.out), by repeat (first | (with_reducible first | exact HB.out | apply below_alloc | apply pw_below_drewN | apply below_drew1 | refine below_set ?_ (IsS109.ge HI0.out)) | exact HB.out), by repeat (first | (with_reducible first | exact HK.out | apply KeepBut.set_ | apply keep_drewN | apply keep_drew | apply keep_alloc) | exact HK.out)⟩
end Go.Proofs.Ytbackoeakepngaa.MFnSafe
