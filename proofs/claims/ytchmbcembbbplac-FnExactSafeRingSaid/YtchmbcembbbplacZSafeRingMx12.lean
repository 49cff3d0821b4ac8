-- Laid by this session's program pp.py, after the kit's print and texts of the session's own. Not trusted: Lean checks it.
import Derived.Test.YtchmbcembbbplacZSafeRingMx0
import Derived.Test.YtchmbcembbbplacZSafeRingMx2
import Derived.Test.YtchmbcembbbplacZSafeRingMx7
import Derived.Test.YtchmbcembbbplacZSafeRingMx10
import Derived.Test.YtchmbcembbbplacZSafeRingMx11
namespace Go.Proofs.Ytchmbcembbbplac.MFnExactSafeRing
open Go.RowKit Go.Proofs.YtchmbcembbbplacW.PrintWords Go.Proofs.YtchmbcembbbplacW.PrintLast Go.Proofs.YtchmbcembbbplacW.PrintMore
attribute [local go_sem] max2_int min2_int max_two min_two max_three min_three max_four min_four   -- for this text's walks alone
set_option linter.unusedVariables false
set_option linter.unusedSimpArgs false
mutual
def spec_SafeRing.l0 : Nat → List (S49) → Int → List (S49) → Option ((List (S49)))
 | 0, _, _, _ => none
 | k + 1, x0, x1, x5 => (spec_IsRing.f k x0).bind fun t409 => (if t409 = true then (spec_SafeRing.l1 k x0 x1 x5 (-1) 0) else (some x5))
def spec_SafeRing.l1 : Nat → List (S49) → Int → List (S49) → Int → Int → Option ((List (S49)))
 | 0, _, _, _, _, _ => none
 | k + 1, x0, x1, x5, x6, x7 => if x7 < (x5.length : Int) then ((spec_CornerSize.f k x5 x7).bind fun t414 => ((spec_DropCorner.f k x5 x7).bind fun bt415 => (if t414 < x1 then (if bt415.2 = true then (if x6 < 0 then (spec_SafeRing.l1 k x0 x1 x5 x7 (wrap64 (x7 + 1))) else ((spec_CornerSize.f k x5 x6).bind fun t419 => (if t414 < t419 then (spec_SafeRing.l1 k x0 x1 x5 x7 (wrap64 (x7 + 1))) else (spec_SafeRing.l1 k x0 x1 x5 x6 (wrap64 (x7 + 1)))))) else (spec_SafeRing.l1 k x0 x1 x5 x6 (wrap64 (x7 + 1)))) else (spec_SafeRing.l1 k x0 x1 x5 x6 (wrap64 (x7 + 1)))))) else (if x6 < 0 then (some x5) else ((spec_DropCorner.f k x5 x6).bind fun bt410 => (spec_SafeRing.l0 k x0 x1 bt410.1)))
end
def spec_SafeRing.f (k : Nat) (l0 : List (S49)) (a1 : Int) : Option ((List (S49))) := (some (([] : List (S49)) : List (S49))).bind fun y403 => (if y403.length + l0.length < 8796093022208 then (spec_SafeRing.l0 k l0 a1 (y403 ++ l0)) else (none))
set_option maxHeartbeats 8000000 in
set_option maxRecDepth 100000 in
theorem spec_SafeRing.calls (k : Nat) (A0 : Option Addr) (c0 : Nat) (l0 : List (S49)) (a1 : Int) (r : List (S49)) (w : World) (hr0 : Kd.C k49 w A0 l0.length l0) (hc0 : l0.length ≤ c0) (h : spec_SafeRing.f k l0 a1 = some r) :
  Calls Try.prog 63 #[.slice A0 l0.length c0, .int .i64 a1] w fun e w' => ∃ v0_ : Value, e = .returned (v0_) ∧ Kd.R k49 49 w' w.heap.size (fun _ => True) v0_ r ∧ Below w.heap.size w w' := by
 have HR0 := Aside0.mk hr0
 have HC0 := Aside0.mk hc0
 clear hr0 hc0
 have HB := Aside0.mk (Below.refl w.heap.size w)
 have H : ((some (([] : List (S49)) : List (S49))).bind fun y403 => (if y403.length + l0.length < 8796093022208 then (spec_SafeRing.l0 k l0 a1 (y403 ++ l0)) else (none))) = some r := h
 clear h
 obtain ⟨y403, hy403⟩ : ∃ y_ : List (S49), y_ = (([] : List (S49))) := ⟨_, rfl⟩
 replace H : (if y403.length + l0.length < 8796093022208 then (spec_SafeRing.l0 k l0 a1 (y403 ++ l0)) else (none)) = some r := by first | (rw [hy403]; with_reducible exact H) | (have H2_ := (Option.bind_some _ _).symm.trans H; rw [hy403]; with_reducible exact H2_) | (have H2_ := (Option.bind_some _ _).symm.trans H; with_reducible exact H2_) | with_reducible exact H | (rw [hy403]; exact H) | exact H
 have Ny403 := Aside0.mk hy403
 clear hy403
 by_cases c3 : y403.length + l0.length < 8796093022208
 ·
  rw [if_pos c3] at H
  have LMc3 := Aside0.mk c3
  clear c3
  obtain ⟨y406, hy406⟩ : ∃ y_ : List (S49), y_ = (y403 ++ l0) := ⟨_, rfl⟩
  replace H : (spec_SafeRing.l0 k l0 a1 y406) = some r := by first | (rw [hy406]; with_reducible exact H) | (have H2_ := (Option.bind_some _ _).symm.trans H; rw [hy406]; with_reducible exact H2_) | (have H2_ := (Option.bind_some _ _).symm.trans H; with_reducible exact H2_) | with_reducible exact H | (rw [hy406]; exact H) | exact H
  have Ny406 := Aside0.mk hy406
  clear hy406
  have H' := Aside0.mk H
  clear H
  go_enter Try.func63, Try.ntmps63
  go_wp2_with (first | ((with_reducible refine gate_dst (N := 11) rfl ?_); refine Kd.R_lit k49 _ 49 ?hg (N := 11) ?hd (xs := ([] : List (S49))) (inner := []) (ok := fun _ => True) (okp := fun _ => True) ?hr ?hp (fun _ hk => hk) trivial (Below.refl _ _) (Nat.le_refl _) (by simp) ?_; (case hd => rfl); (case hg => rfl); (case hr => first | (go_simp; done) | (go_simp; rfl)); (case hp => exact (Reps.none _ _)); intro v404 w4 ho5 hb hg_ hnew_; clear hg_ hnew_; (first | rw [← Ny403.out] at ho5 | (simp only [Int.reduceToNat] at ho5; rw [← Ny403.out] at ho5)); have HO405 := Aside0.mk (Kd.R_lower ho5 (below_size Hd.b_)); replace HB := Aside0.mk (below_step Hd.b_ hb); clear hb ho5) | ((with_reducible refine gate_builtin (b := .append) (xs := #[.tmp 11, .tmp 12]) rfl ?_); at_builtin; refine Kd.R_append_rows k49 (w0 := w) w.heap.size rfl (.tmp 11) (.tmp 12) 28 49 (.agg #[(.int .i64 0), (.int .i64 0)]) 16 rfl Try.underlying28 info49 rfl (by decide) (by omega) v404 y403 l0 _ _ _ (fun _ => True) (fun _ => False) rfl rfl ?aO ?aR (fun _ _ h => h) (fun _ h => h.elim) ?aF ?aB ?aS ?aL ?_; (case aR => repeat (first | exact (Kd.C_below HR0.out HB.out) | (with_reducible refine Kd.C_alloc ?_ _) | (with_reducible refine Kd.C_drewN ?_ _) | (with_reducible refine Kd.C_drew ?_))); (case aB => exact Hd.b_); (case aF => exact (fun _ _ => trivial)); (case aO => exact (Hd.r_ HO405)); (case aS => exact (below_size Hd.b_)); (case aL => have := LMc3.out; omega); intro v407 w6 ho hb hg hat; rw [← Ny406.out] at ho; have n0_ := Aside0.mk (hb); have n1_ := Aside0.mk (ho); clear HB; clear HO405; have HB := n0_; have HO408 := n1_; clear n0_ n1_; clear ho hb hg hat))
  go_loopg [5] k (fun kq v5 w' => ∃ (x5_1 : List (S49)), Aside0 (spec_SafeRing.l0 kq l0 a1 x5_1 = some r) ∧ Aside0 (kq ≤ k) ∧ Aside0 (Kd.R k49 49 w' w.heap.size (fun _ => True) v5 x5_1) ∧ Aside0 (Below w.heap.size w w'))
  case atStart => exact ⟨(y406), H', ⟨Nat.le_refl _⟩, ⟨by (with_reducible repeat (first | apply Kd.R_alloc | apply Kd.R_drewN | apply Kd.R_drew)); exact HO408.out⟩, ⟨Hd.b_⟩⟩
  case round =>
   clear H'
   try clear p2
   try clear c3
   try clear c6
   obtain ⟨x5_1, HA, HK1, HO_5, HB⟩ := hrel
   cases gk with
   | zero => exact absurd HA.out (by simp [spec_SafeRing.l0])
   | succ k1 =>
    have H := HA.out
    clear HA
    simp only [spec_SafeRing.l0] at H
    replace H := Option.bind_eq_some_iff.mp H
    obtain ⟨t409, A70, H⟩ := H
    replace H : (if t409 = true then (spec_SafeRing.l1 k1 l0 a1 x5_1 (-1) 0) else (some x5_1)) = some r := H
    have A7 := Aside0.mk A70
    clear A70
    by_cases c8 : t409 = true
    ·
     subst c8
     have H1 : (spec_SafeRing.l1 k1 l0 a1 x5_1 (-1) 0) = some r := by rw [if_pos rfl] at H; exact H
     clear H
     have H := H1
     clear H1
     have H' := Aside0.mk H
     clear H
     go_wp2_with (first | ((with_reducible refine gate_callee (f := 82) rfl ?_); refine goesL_ (some 15) rfl rfl Try.func82 (by kernel_rfl) rfl #[.slice A0 l0.length c0] rfl Hd.m_ ?_; (with_reducible refine (spec_IsRing.calls k1 _ _ l0 true _ ?side1 ?side2 A7.out).mono ?_); (case side1 => repeat (first | exact (Kd.C_below HR0.out HB.out) | (with_reducible refine Kd.C_alloc ?_ _) | (with_reducible refine Kd.C_drewN ?_ _) | (with_reducible refine Kd.C_drew ?_))); (case side2 => exact HC0.out); rintro e w9 ⟨rfl, hb⟩; refine ⟨_, rfl, ?_⟩; replace HO_5 := Aside0.mk (Kd.R_below (Hd.r_ HO_5) hb); replace HB := Aside0.mk (below_step Hd.b_ hb); (try clear hb); (try clear hb2); (try clear hk); (try clear hi)))
     go_loopg [6, 7] k1 (fun kq v6 v7 w' => ∃ (x6_2 : Int) (x7_2 : Int), v6 = .int .i64 x6_2 ∧ v7 = .int .i64 x7_2 ∧ Aside0 (spec_SafeRing.l1 kq l0 a1 x5_1 x6_2 x7_2 = some r) ∧ Aside0 (kq ≤ k1) ∧ Aside0 (Kd.R k49 49 w' w.heap.size (fun _ => True) u5 x5_1) ∧ Aside0 (Below w.heap.size w w'))
     case atStart => exact ⟨((-1)), (0), (by first | rfl | (simp; done) | (simp [*]; done)), (by first | rfl | (simp; done) | (simp [*]; done)), H', ⟨Nat.le_refl _⟩, ⟨by (with_reducible repeat (first | apply Kd.R_alloc | apply Kd.R_drewN | apply Kd.R_drew)); exact HO_5.out⟩, ⟨Hd.b_⟩⟩
     case round =>
      clear H'
      try clear p2
      try clear c3
      try clear c6
      try clear c8
      try clear p2
      obtain ⟨x6_2, x7_2, rfl, rfl, HA, HK2, HO_5, HB⟩ := hrel
      cases gk with
      | zero => exact absurd HA.out (by simp [spec_SafeRing.l1])
      | succ k2 =>
       have H := HA.out
       clear HA
       simp only [spec_SafeRing.l1] at H
       by_cases c10 : x7_2 < (x5_1.length : Int)
       ·
        rw [if_pos c10] at H
        have c10b0 : decide (x7_2 < (x5_1.length : Int)) = true := decide_eq_true c10
        clear c10
        replace H := Option.bind_eq_some_iff.mp H
        obtain ⟨t414, A110, H⟩ := H
        replace H : ((spec_DropCorner.f k2 x5_1 x7_2).bind fun bt415 => (if t414 < a1 then (if bt415.2 = true then (if x6_2 < 0 then (spec_SafeRing.l1 k2 l0 a1 x5_1 x7_2 (wrap64 (x7_2 + 1))) else ((spec_CornerSize.f k2 x5_1 x6_2).bind fun t419 => (if t414 < t419 then (spec_SafeRing.l1 k2 l0 a1 x5_1 x7_2 (wrap64 (x7_2 + 1))) else (spec_SafeRing.l1 k2 l0 a1 x5_1 x6_2 (wrap64 (x7_2 + 1)))))) else (spec_SafeRing.l1 k2 l0 a1 x5_1 x6_2 (wrap64 (x7_2 + 1)))) else (spec_SafeRing.l1 k2 l0 a1 x5_1 x6_2 (wrap64 (x7_2 + 1))))) = some r := H
        have A11 := Aside0.mk A110
        clear A110
        replace H := Option.bind_eq_some_iff.mp H
        obtain ⟨⟨t415, t416⟩, A120, H⟩ := H
        replace H : (if t414 < a1 then (if t416 = true then (if x6_2 < 0 then (spec_SafeRing.l1 k2 l0 a1 x5_1 x7_2 (wrap64 (x7_2 + 1))) else ((spec_CornerSize.f k2 x5_1 x6_2).bind fun t419 => (if t414 < t419 then (spec_SafeRing.l1 k2 l0 a1 x5_1 x7_2 (wrap64 (x7_2 + 1))) else (spec_SafeRing.l1 k2 l0 a1 x5_1 x6_2 (wrap64 (x7_2 + 1)))))) else (spec_SafeRing.l1 k2 l0 a1 x5_1 x6_2 (wrap64 (x7_2 + 1)))) else (spec_SafeRing.l1 k2 l0 a1 x5_1 x6_2 (wrap64 (x7_2 + 1)))) = some r := H
        have A12 := Aside0.mk A120
        clear A120
        by_cases c13 : t414 < a1
        ·
         rw [if_pos c13] at H
         have c13b0 : decide (t414 < a1) = true := decide_eq_true c13
         clear c13
         by_cases c14 : t416 = true
         ·
          subst c14
          have H1 : (if x6_2 < 0 then (spec_SafeRing.l1 k2 l0 a1 x5_1 x7_2 (wrap64 (x7_2 + 1))) else ((spec_CornerSize.f k2 x5_1 x6_2).bind fun t419 => (if t414 < t419 then (spec_SafeRing.l1 k2 l0 a1 x5_1 x7_2 (wrap64 (x7_2 + 1))) else (spec_SafeRing.l1 k2 l0 a1 x5_1 x6_2 (wrap64 (x7_2 + 1)))))) = some r := by rw [if_pos rfl] at H; exact H
          clear H
          have H := H1
          clear H1
          by_cases c15 : x6_2 < 0
          ·
           rw [if_pos c15] at H
           have c15b0 : decide (x6_2 < 0) = true := decide_eq_true c15
           clear c15
           have H' := Aside0.mk H
           clear H
           obtain ⟨Ao16, co16, eo16⟩ := Kd.R_slice HO_5.out
           subst eo16
           go_wp2_with (first | ((with_reducible refine gate_callee (f := 127) rfl ?_); refine goesL_ (some 24) rfl rfl Try.func127 (by kernel_rfl) rfl #[.slice Ao16 x5_1.length co16, .int .i64 x7_2] rfl Hd.m_ ?_; (with_reducible refine (spec_CornerSize.calls k2 _ _ x5_1 x7_2 t414 _ ?side1 ?side2 A11.out).mono ?_); (case side1 => repeat (first | exact (Kd.R_reads' HO_5.out).2.2 | (with_reducible refine Kd.C_alloc ?_ _) | (with_reducible refine Kd.C_drewN ?_ _) | (with_reducible refine Kd.C_drew ?_))); (case side2 => exact (Kd.R_reads' HO_5.out).2.1); rintro e w17 ⟨rfl, hb⟩; refine ⟨_, rfl, ?_⟩; replace HO_5 := Aside0.mk (Kd.R_below (Hd.r_ HO_5) hb); replace HB := Aside0.mk (below_step Hd.b_ hb); (try clear hb); (try clear hb2); (try clear hk); (try clear hi)) | ((with_reducible refine gate_callee (f := 28) rfl ?_); refine goesL_ (some 28) rfl rfl Try.func28 (by kernel_rfl) rfl #[.slice Ao16 x5_1.length co16, .int .i64 x7_2] rfl Hd.m_ ?_; (with_reducible refine (spec_DropCorner.calls k2 _ _ x5_1 x7_2 t415 true _ ?side1 ?side2 A12.out).mono ?_); (case side1 => repeat (first | exact (Kd.R_reads' HO_5.out).2.2 | (with_reducible refine Kd.C_alloc ?_ _) | (with_reducible refine Kd.C_drewN ?_ _) | (with_reducible refine Kd.C_drew ?_))); (case side2 => exact (Kd.R_reads' HO_5.out).2.1); rintro e w18 ⟨v417, rfl, ho0, hb⟩; refine ⟨_, rfl, ?_⟩; have HO418 := Aside0.mk (Kd.R_lower (Kd.R_new' ho0 (Kd.R_lt (Hd.r_ HO_5))) (below_size Hd.b_)); replace HO_5 := Aside0.mk (Kd.R_elder' (Hd.r_ HO_5) (Kd.R_base ho0) hb); replace HB := Aside0.mk (below_step Hd.b_ hb); (try clear hb); (try clear hb2); (try clear hk); (try clear hi); (try clear ho0)))
           go_roundg k2
           case measure => have := HK1.out; have := HK2.out; omega
           case rel => exact ⟨(x7_2), (wrap64 (x7_2 + 1)), (by first | rfl | (simp; done) | (simp [*]; done)), (by first | rfl | (simp; done) | (simp [*]; done)), H', ⟨by have := HK1.out; have := HK2.out; omega⟩, ⟨by (with_reducible repeat (first | apply Kd.R_alloc | apply Kd.R_drewN | apply Kd.R_drew)); exact Kd.R_mono HO_5.out (fun _ hk => trivial)⟩, ⟨Hd.b_⟩⟩
          ·
           rw [if_neg c15] at H
           have c15b0 : decide (x6_2 < 0) = false := decide_eq_false c15
           clear c15
           replace H := Option.bind_eq_some_iff.mp H
           obtain ⟨t419, A190, H⟩ := H
           replace H : (if t414 < t419 then (spec_SafeRing.l1 k2 l0 a1 x5_1 x7_2 (wrap64 (x7_2 + 1))) else (spec_SafeRing.l1 k2 l0 a1 x5_1 x6_2 (wrap64 (x7_2 + 1)))) = some r := H
           have A19 := Aside0.mk A190
           clear A190
           by_cases c20 : t414 < t419
           ·
            rw [if_pos c20] at H
            have c20b0 : decide (t414 < t419) = true := decide_eq_true c20
            clear c20
            have H' := Aside0.mk H
            clear H
            obtain ⟨Ao21, co21, eo21⟩ := Kd.R_slice HO_5.out
            subst eo21
            go_wp2_with (first | ((with_reducible refine gate_callee (f := 127) rfl ?_); refine goesL_ (some 24) rfl rfl Try.func127 (by kernel_rfl) rfl #[.slice Ao21 x5_1.length co21, .int .i64 x7_2] rfl Hd.m_ ?_; (with_reducible refine (spec_CornerSize.calls k2 _ _ x5_1 x7_2 t414 _ ?side1 ?side2 A11.out).mono ?_); (case side1 => repeat (first | exact (Kd.R_reads' HO_5.out).2.2 | (with_reducible refine Kd.C_alloc ?_ _) | (with_reducible refine Kd.C_drewN ?_ _) | (with_reducible refine Kd.C_drew ?_))); (case side2 => exact (Kd.R_reads' HO_5.out).2.1); rintro e w22 ⟨rfl, hb⟩; refine ⟨_, rfl, ?_⟩; replace HO_5 := Aside0.mk (Kd.R_below (Hd.r_ HO_5) hb); replace HB := Aside0.mk (below_step Hd.b_ hb); (try clear hb); (try clear hb2); (try clear hk); (try clear hi)) | ((with_reducible refine gate_callee (f := 28) rfl ?_); refine goesL_ (some 28) rfl rfl Try.func28 (by kernel_rfl) rfl #[.slice Ao21 x5_1.length co21, .int .i64 x7_2] rfl Hd.m_ ?_; (with_reducible refine (spec_DropCorner.calls k2 _ _ x5_1 x7_2 t415 true _ ?side1 ?side2 A12.out).mono ?_); (case side1 => repeat (first | exact (Kd.R_reads' HO_5.out).2.2 | (with_reducible refine Kd.C_alloc ?_ _) | (with_reducible refine Kd.C_drewN ?_ _) | (with_reducible refine Kd.C_drew ?_))); (case side2 => exact (Kd.R_reads' HO_5.out).2.1); rintro e w23 ⟨v417, rfl, ho0, hb⟩; refine ⟨_, rfl, ?_⟩; have HO418 := Aside0.mk (Kd.R_lower (Kd.R_new' ho0 (Kd.R_lt (Hd.r_ HO_5))) (below_size Hd.b_)); replace HO_5 := Aside0.mk (Kd.R_elder' (Hd.r_ HO_5) (Kd.R_base ho0) hb); replace HB := Aside0.mk (below_step Hd.b_ hb); (try clear hb); (try clear hb2); (try clear hk); (try clear hi); (try clear ho0)) | (go_at_call 127; (with_reducible refine (spec_CornerSize.calls k2 _ _ x5_1 x6_2 t419 _ ?side1 ?side2 A19.out).mono ?_); (case side1 => repeat (first | exact (Kd.R_reads' HO_5.out).2.2 | (with_reducible refine Kd.C_alloc ?_ _) | (with_reducible refine Kd.C_drewN ?_ _) | (with_reducible refine Kd.C_drew ?_))); (case side2 => exact (Kd.R_reads' HO_5.out).2.1); rintro e w24 ⟨rfl, hb⟩; replace HO_5 := Aside0.mk (Kd.R_below (Hd.r_ HO_5) hb); replace HO418 := Aside0.mk (Kd.R_below (Hd.r_ HO418) hb); replace HB := Aside0.mk (below_step Hd.b_ hb); (try clear hb); (try clear hb2); (try clear hk); (try clear hi)))
            go_roundg k2
            case measure => have := HK1.out; have := HK2.out; omega
            case rel => exact ⟨(x7_2), (wrap64 (x7_2 + 1)), (by first | rfl | (simp; done) | (simp [*]; done)), (by first | rfl | (simp; done) | (simp [*]; done)), H', ⟨by have := HK1.out; have := HK2.out; omega⟩, ⟨by (with_reducible repeat (first | apply Kd.R_alloc | apply Kd.R_drewN | apply Kd.R_drew)); exact Kd.R_mono HO_5.out (fun _ hk => trivial)⟩, ⟨Hd.b_⟩⟩
           ·
            rw [if_neg c20] at H
            have c20b0 : decide (t414 < t419) = false := decide_eq_false c20
            clear c20
            have H' := Aside0.mk H
            clear H
            obtain ⟨Ao25, co25, eo25⟩ := Kd.R_slice HO_5.out
            subst eo25
            go_wp2_with (first | ((with_reducible refine gate_callee (f := 127) rfl ?_); refine goesL_ (some 24) rfl rfl Try.func127 (by kernel_rfl) rfl #[.slice Ao25 x5_1.length co25, .int .i64 x7_2] rfl Hd.m_ ?_; (with_reducible refine (spec_CornerSize.calls k2 _ _ x5_1 x7_2 t414 _ ?side1 ?side2 A11.out).mono ?_); (case side1 => repeat (first | exact (Kd.R_reads' HO_5.out).2.2 | (with_reducible refine Kd.C_alloc ?_ _) | (with_reducible refine Kd.C_drewN ?_ _) | (with_reducible refine Kd.C_drew ?_))); (case side2 => exact (Kd.R_reads' HO_5.out).2.1); rintro e w26 ⟨rfl, hb⟩; refine ⟨_, rfl, ?_⟩; replace HO_5 := Aside0.mk (Kd.R_below (Hd.r_ HO_5) hb); replace HB := Aside0.mk (below_step Hd.b_ hb); (try clear hb); (try clear hb2); (try clear hk); (try clear hi)) | ((with_reducible refine gate_callee (f := 28) rfl ?_); refine goesL_ (some 28) rfl rfl Try.func28 (by kernel_rfl) rfl #[.slice Ao25 x5_1.length co25, .int .i64 x7_2] rfl Hd.m_ ?_; (with_reducible refine (spec_DropCorner.calls k2 _ _ x5_1 x7_2 t415 true _ ?side1 ?side2 A12.out).mono ?_); (case side1 => repeat (first | exact (Kd.R_reads' HO_5.out).2.2 | (with_reducible refine Kd.C_alloc ?_ _) | (with_reducible refine Kd.C_drewN ?_ _) | (with_reducible refine Kd.C_drew ?_))); (case side2 => exact (Kd.R_reads' HO_5.out).2.1); rintro e w27 ⟨v417, rfl, ho0, hb⟩; refine ⟨_, rfl, ?_⟩; have HO418 := Aside0.mk (Kd.R_lower (Kd.R_new' ho0 (Kd.R_lt (Hd.r_ HO_5))) (below_size Hd.b_)); replace HO_5 := Aside0.mk (Kd.R_elder' (Hd.r_ HO_5) (Kd.R_base ho0) hb); replace HB := Aside0.mk (below_step Hd.b_ hb); (try clear hb); (try clear hb2); (try clear hk); (try clear hi); (try clear ho0)) | (go_at_call 127; (with_reducible refine (spec_CornerSize.calls k2 _ _ x5_1 x6_2 t419 _ ?side1 ?side2 A19.out).mono ?_); (case side1 => repeat (first | exact (Kd.R_reads' HO_5.out).2.2 | (with_reducible refine Kd.C_alloc ?_ _) | (with_reducible refine Kd.C_drewN ?_ _) | (with_reducible refine Kd.C_drew ?_))); (case side2 => exact (Kd.R_reads' HO_5.out).2.1); rintro e w28 ⟨rfl, hb⟩; replace HO_5 := Aside0.mk (Kd.R_below (Hd.r_ HO_5) hb); replace HO418 := Aside0.mk (Kd.R_below (Hd.r_ HO418) hb); replace HB := Aside0.mk (below_step Hd.b_ hb); (try clear hb); (try clear hb2); (try clear hk); (try clear hi)))
            go_roundg k2
            case measure => have := HK1.out; have := HK2.out; omega
            case rel => exact ⟨(x6_2), (wrap64 (x7_2 + 1)), (by first | rfl | (simp; done) | (simp [*]; done)), (by first | rfl | (simp; done) | (simp [*]; done)), H', ⟨by have := HK1.out; have := HK2.out; omega⟩, ⟨by (with_reducible repeat (first | apply Kd.R_alloc | apply Kd.R_drewN | apply Kd.R_drew)); exact Kd.R_mono HO_5.out (fun _ hk => trivial)⟩, ⟨Hd.b_⟩⟩
         ·
          replace c14 := Bool.eq_false_iff.mpr c14
          subst c14
          have H1 : (spec_SafeRing.l1 k2 l0 a1 x5_1 x6_2 (wrap64 (x7_2 + 1))) = some r := by rw [if_neg (show ¬ (false = true) by decide)] at H; exact H
          clear H
          have H := H1
          clear H1
          have H' := Aside0.mk H
          clear H
          obtain ⟨Ao29, co29, eo29⟩ := Kd.R_slice HO_5.out
          subst eo29
          go_wp2_with (first | ((with_reducible refine gate_callee (f := 127) rfl ?_); refine goesL_ (some 24) rfl rfl Try.func127 (by kernel_rfl) rfl #[.slice Ao29 x5_1.length co29, .int .i64 x7_2] rfl Hd.m_ ?_; (with_reducible refine (spec_CornerSize.calls k2 _ _ x5_1 x7_2 t414 _ ?side1 ?side2 A11.out).mono ?_); (case side1 => repeat (first | exact (Kd.R_reads' HO_5.out).2.2 | (with_reducible refine Kd.C_alloc ?_ _) | (with_reducible refine Kd.C_drewN ?_ _) | (with_reducible refine Kd.C_drew ?_))); (case side2 => exact (Kd.R_reads' HO_5.out).2.1); rintro e w30 ⟨rfl, hb⟩; refine ⟨_, rfl, ?_⟩; replace HO_5 := Aside0.mk (Kd.R_below (Hd.r_ HO_5) hb); replace HB := Aside0.mk (below_step Hd.b_ hb); (try clear hb); (try clear hb2); (try clear hk); (try clear hi)) | ((with_reducible refine gate_callee (f := 28) rfl ?_); refine goesL_ (some 28) rfl rfl Try.func28 (by kernel_rfl) rfl #[.slice Ao29 x5_1.length co29, .int .i64 x7_2] rfl Hd.m_ ?_; (with_reducible refine (spec_DropCorner.calls k2 _ _ x5_1 x7_2 t415 false _ ?side1 ?side2 A12.out).mono ?_); (case side1 => repeat (first | exact (Kd.R_reads' HO_5.out).2.2 | (with_reducible refine Kd.C_alloc ?_ _) | (with_reducible refine Kd.C_drewN ?_ _) | (with_reducible refine Kd.C_drew ?_))); (case side2 => exact (Kd.R_reads' HO_5.out).2.1); rintro e w31 ⟨v417, rfl, ho0, hb⟩; refine ⟨_, rfl, ?_⟩; have HO418 := Aside0.mk (Kd.R_lower (Kd.R_new' ho0 (Kd.R_lt (Hd.r_ HO_5))) (below_size Hd.b_)); replace HO_5 := Aside0.mk (Kd.R_elder' (Hd.r_ HO_5) (Kd.R_base ho0) hb); replace HB := Aside0.mk (below_step Hd.b_ hb); (try clear hb); (try clear hb2); (try clear hk); (try clear hi); (try clear ho0)))
          go_roundg k2
          case measure => have := HK1.out; have := HK2.out; omega
          case rel => exact ⟨(x6_2), (wrap64 (x7_2 + 1)), (by first | rfl | (simp; done) | (simp [*]; done)), (by first | rfl | (simp; done) | (simp [*]; done)), H', ⟨by have := HK1.out; have := HK2.out; omega⟩, ⟨by (with_reducible repeat (first | apply Kd.R_alloc | apply Kd.R_drewN | apply Kd.R_drew)); exact Kd.R_mono HO_5.out (fun _ hk => trivial)⟩, ⟨Hd.b_⟩⟩
        ·
         rw [if_neg c13] at H
         have c13b0 : decide (t414 < a1) = false := decide_eq_false c13
         clear c13
         have H' := Aside0.mk H
         clear H
         obtain ⟨Ao32, co32, eo32⟩ := Kd.R_slice HO_5.out
         subst eo32
         go_wp2_with (first | ((with_reducible refine gate_callee (f := 127) rfl ?_); refine goesL_ (some 24) rfl rfl Try.func127 (by kernel_rfl) rfl #[.slice Ao32 x5_1.length co32, .int .i64 x7_2] rfl Hd.m_ ?_; (with_reducible refine (spec_CornerSize.calls k2 _ _ x5_1 x7_2 t414 _ ?side1 ?side2 A11.out).mono ?_); (case side1 => repeat (first | exact (Kd.R_reads' HO_5.out).2.2 | (with_reducible refine Kd.C_alloc ?_ _) | (with_reducible refine Kd.C_drewN ?_ _) | (with_reducible refine Kd.C_drew ?_))); (case side2 => exact (Kd.R_reads' HO_5.out).2.1); rintro e w33 ⟨rfl, hb⟩; refine ⟨_, rfl, ?_⟩; replace HO_5 := Aside0.mk (Kd.R_below (Hd.r_ HO_5) hb); replace HB := Aside0.mk (below_step Hd.b_ hb); (try clear hb); (try clear hb2); (try clear hk); (try clear hi)) | ((with_reducible refine gate_callee (f := 28) rfl ?_); refine goesL_ (some 28) rfl rfl Try.func28 (by kernel_rfl) rfl #[.slice Ao32 x5_1.length co32, .int .i64 x7_2] rfl Hd.m_ ?_; (with_reducible refine (spec_DropCorner.calls k2 _ _ x5_1 x7_2 t415 t416 _ ?side1 ?side2 A12.out).mono ?_); (case side1 => repeat (first | exact (Kd.R_reads' HO_5.out).2.2 | (with_reducible refine Kd.C_alloc ?_ _) | (with_reducible refine Kd.C_drewN ?_ _) | (with_reducible refine Kd.C_drew ?_))); (case side2 => exact (Kd.R_reads' HO_5.out).2.1); rintro e w34 ⟨v417, rfl, ho0, hb⟩; refine ⟨_, rfl, ?_⟩; have HO418 := Aside0.mk (Kd.R_lower (Kd.R_new' ho0 (Kd.R_lt (Hd.r_ HO_5))) (below_size Hd.b_)); replace HO_5 := Aside0.mk (Kd.R_elder' (Hd.r_ HO_5) (Kd.R_base ho0) hb); replace HB := Aside0.mk (below_step Hd.b_ hb); (try clear hb); (try clear hb2); (try clear hk); (try clear hi); (try clear ho0)))
         go_roundg k2
         case measure => have := HK1.out; have := HK2.out; omega
         case rel => exact ⟨(x6_2), (wrap64 (x7_2 + 1)), (by first | rfl | (simp; done) | (simp [*]; done)), (by first | rfl | (simp; done) | (simp [*]; done)), H', ⟨by have := HK1.out; have := HK2.out; omega⟩, ⟨by (with_reducible repeat (first | apply Kd.R_alloc | apply Kd.R_drewN | apply Kd.R_drew)); exact Kd.R_mono HO_5.out (fun _ hk => trivial)⟩, ⟨Hd.b_⟩⟩
       ·
        rw [if_neg c10] at H
        have c10b0 : decide (x7_2 < (x5_1.length : Int)) = false := decide_eq_false c10
        clear c10
        by_cases c35 : x6_2 < 0
        ·
         rw [if_pos c35] at H
         have c35b0 : decide (x6_2 < 0) = true := decide_eq_true c35
         clear c35
         obtain rfl := Option.some.inj H
         obtain ⟨Ao36, co36, eo36⟩ := Kd.R_slice HO_5.out
         subst eo36
         go_wp2
         go_ret
         exact ⟨_, Hd.e_, by (with_reducible repeat (first | apply Kd.R_alloc | apply Kd.R_drewN | apply Kd.R_drew)); exact HO_5.out, Hd.b_⟩
        ·
         rw [if_neg c35] at H
         have c35b0 : decide (x6_2 < 0) = false := decide_eq_false c35
         clear c35
         replace H := Option.bind_eq_some_iff.mp H
         obtain ⟨⟨t410, t411⟩, A370, H⟩ := H
         replace H : (spec_SafeRing.l0 k2 l0 a1 t410) = some r := H
         have A37 := Aside0.mk A370
         clear A370
         have H' := Aside0.mk H
         clear H
         obtain ⟨Ao38, co38, eo38⟩ := Kd.R_slice HO_5.out
         subst eo38
         go_wp2_with (first | ((with_reducible refine gate_callee (f := 28) rfl ?_); refine goesL_ (some 55) rfl rfl Try.func28 (by kernel_rfl) rfl #[.slice Ao38 x5_1.length co38, .int .i64 x6_2] rfl Hd.m_ ?_; (with_reducible refine (spec_DropCorner.calls k2 _ _ x5_1 x6_2 t410 t411 _ ?side1 ?side2 A37.out).mono ?_); (case side1 => repeat (first | exact (Kd.R_reads' HO_5.out).2.2 | (with_reducible refine Kd.C_alloc ?_ _) | (with_reducible refine Kd.C_drewN ?_ _) | (with_reducible refine Kd.C_drew ?_))); (case side2 => exact (Kd.R_reads' HO_5.out).2.1); rintro e w39 ⟨v412, rfl, ho0, hb⟩; refine ⟨_, rfl, ?_⟩; have HO413 := Aside0.mk (Kd.R_lower (Kd.R_new' ho0 (Kd.R_lt (Hd.r_ HO_5))) (below_size Hd.b_)); replace HO_5 := Aside0.mk (Kd.R_elder' (Hd.r_ HO_5) (Kd.R_base ho0) hb); replace HB := Aside0.mk (below_step Hd.b_ hb); (try clear hb); (try clear hb2); (try clear hk); (try clear hi); (try clear ho0)))
         go_roundg k2
         case measure => have := HK1.out; have := HK2.out; omega
         case rel => exact ⟨(t410), H', ⟨by have := HK1.out; have := HK2.out; omega⟩, ⟨by (with_reducible repeat (first | apply Kd.R_alloc | apply Kd.R_drewN | apply Kd.R_drew)); exact Kd.R_mono HO413.out (fun _ hk => trivial)⟩, ⟨Hd.b_⟩⟩
    ·
     replace c8 := Bool.eq_false_iff.mpr c8
     subst c8
     have H1 : (some x5_1) = some r := by rw [if_neg (show ¬ (false = true) by decide)] at H; exact H
     clear H
     have H := H1
     clear H1
     obtain rfl := Option.some.inj H
     go_wp2_with (first | ((with_reducible refine gate_callee (f := 82) rfl ?_); refine goesL_ (some 15) rfl rfl Try.func82 (by kernel_rfl) rfl #[.slice A0 l0.length c0] rfl Hd.m_ ?_; (with_reducible refine (spec_IsRing.calls k1 _ _ l0 false _ ?side1 ?side2 A7.out).mono ?_); (case side1 => repeat (first | exact (Kd.C_below HR0.out HB.out) | (with_reducible refine Kd.C_alloc ?_ _) | (with_reducible refine Kd.C_drewN ?_ _) | (with_reducible refine Kd.C_drew ?_))); (case side2 => exact HC0.out); rintro e w40 ⟨rfl, hb⟩; refine ⟨_, rfl, ?_⟩; replace HO_5 := Aside0.mk (Kd.R_below (Hd.r_ HO_5) hb); replace HB := Aside0.mk (below_step Hd.b_ hb); (try clear hb); (try clear hb2); (try clear hk); (try clear hi)))
     go_ret
     exact ⟨_, Hd.e_, by (with_reducible repeat (first | apply Kd.R_alloc | apply Kd.R_drewN | apply Kd.R_drew)); exact HO_5.out, Hd.b_⟩
 ·
  rw [if_neg c3] at H
  exact absurd H (by simp)
def laws_FnExactSafeRing.j0 : Nat → List (S98) → Int → List (S49) → List (S49) → Bool → Option (Bool)
 | 0, _, _, _, _, _ => none
 | k + 1, x0, x1, x6, x8, x46 => if x46 = true then (some false) else ((laws_markPointS.f k x8 1).bind fun bt441 => ((laws_heldPointS.f k bt441.2 1).bind fun t443 => (if t443 < 0 then (some false) else (if t443 = bt441.1 then ((laws_toPointS.f k x0).bind fun t444 => ((impl_SafeRing.f k t444 x1).bind fun t447 => ((laws_eqPointS.f k t447 x6).bind fun t450 => (if t450 = true then ((laws_heldPointS.f k bt441.2 1).bind fun t451 => (if t451 < 0 then (some false) else (if t451 = bt441.1 then (some true) else (some false)))) else (some false))))) else (some false)))))
def laws_FnExactSafeRing.f (k : Nat) (l0 : List (S98)) (a1 : Int) : Option (Bool) := (laws_szPointS.f l0 1048576).bind fun t420 => (if t420 < 0 then (some true) else ((laws_toPointS.f k l0).bind fun t421 => ((spec_SafeRing.f k t421 a1).bind fun t424 => ((laws_toPointS.f k l0).bind fun t427 => ((impl_SafeRing.f k t427 a1).bind fun t430 => ((laws_eqPointS.f k t430 t424).bind fun t433 => (if t433 = true then ((laws_toPointS.f k l0).bind fun t434 => ((laws_eqPointS.f k t427 t434).bind fun t437 => (if t437 = true then ((laws_markPointS.f k t427 1).bind fun bt438 => (if bt438.1 < 0 then (laws_FnExactSafeRing.j0 k l0 a1 t424 t430 true) else ((laws_eqPointS.f k t430 t424).bind fun t440 => (laws_FnExactSafeRing.j0 k l0 a1 t424 t430 (!t440))))) else (some false)))) else (some false))))))))
set_option maxHeartbeats 8000000 in
set_option maxRecDepth 100000 in
theorem laws_FnExactSafeRing.calls (k : Nat) (A0 : Option Addr) (c0 : Nat) (l0 : List (S98)) (a1 : Int) (r : Bool) (w : World) (hr0 : Kd.C k98 w A0 l0.length l0) (hc0 : l0.length ≤ c0) (h : laws_FnExactSafeRing.f k l0 a1 = some r) :
  Calls Try.prog 10 #[.slice A0 l0.length c0, .int .i64 a1] w fun e w' => e = .returned (.bool r) ∧ Below w.heap.size w w' := by
 have HR0 := Aside0.mk hr0
 have HC0 := Aside0.mk hc0
 clear hr0 hc0
 have HB := Aside0.mk (Below.refl w.heap.size w)
 have H : ((laws_szPointS.f l0 1048576).bind fun t420 => (if t420 < 0 then (some true) else ((laws_toPointS.f k l0).bind fun t421 => ((spec_SafeRing.f k t421 a1).bind fun t424 => ((laws_toPointS.f k l0).bind fun t427 => ((impl_SafeRing.f k t427 a1).bind fun t430 => ((laws_eqPointS.f k t430 t424).bind fun t433 => (if t433 = true then ((laws_toPointS.f k l0).bind fun t434 => ((laws_eqPointS.f k t427 t434).bind fun t437 => (if t437 = true then ((laws_markPointS.f k t427 1).bind fun bt438 => (if bt438.1 < 0 then (laws_FnExactSafeRing.j0 k l0 a1 t424 t430 true) else ((laws_eqPointS.f k t430 t424).bind fun t440 => (laws_FnExactSafeRing.j0 k l0 a1 t424 t430 (!t440))))) else (some false)))) else (some false))))))))) = some r := h
 clear h
 replace H := Option.bind_eq_some_iff.mp H
 obtain ⟨t420, A30, H⟩ := H
 replace H : (if t420 < 0 then (some true) else ((laws_toPointS.f k l0).bind fun t421 => ((spec_SafeRing.f k t421 a1).bind fun t424 => ((laws_toPointS.f k l0).bind fun t427 => ((impl_SafeRing.f k t427 a1).bind fun t430 => ((laws_eqPointS.f k t430 t424).bind fun t433 => (if t433 = true then ((laws_toPointS.f k l0).bind fun t434 => ((laws_eqPointS.f k t427 t434).bind fun t437 => (if t437 = true then ((laws_markPointS.f k t427 1).bind fun bt438 => (if bt438.1 < 0 then (laws_FnExactSafeRing.j0 k l0 a1 t424 t430 true) else ((laws_eqPointS.f k t430 t424).bind fun t440 => (laws_FnExactSafeRing.j0 k l0 a1 t424 t430 (!t440))))) else (some false)))) else (some false)))))))) = some r := H
 have A3 := Aside0.mk A30
 clear A30
 by_cases c4 : t420 < 0
 ·
  rw [if_pos c4] at H
  have c4b0 : decide (t420 < 0) = true := decide_eq_true c4
  clear c4
  obtain rfl := Option.some.inj H
  go_enter Try.func10, Try.ntmps10
  go_wp2_with (first | ((with_reducible refine gate_callee (f := 15) rfl ?_); refine goesL_ (some 15) rfl rfl Try.func15 (by kernel_rfl) rfl #[.slice A0 l0.length c0, .int .i64 1048576] rfl Hd.m_ ?_; (with_reducible refine (laws_szPointS.calls _ _ l0 1048576 t420 _ ?side1 ?side2 A3.out).mono ?_); (case side1 => repeat (first | exact HR0.out | (with_reducible refine Kd.C_alloc ?_ _) | (with_reducible refine Kd.C_drewN ?_ _) | (with_reducible refine Kd.C_drew ?_))); (case side2 => exact HC0.out); rintro e w' ⟨rfl, ⟨nd, rfl⟩⟩; refine ⟨_, rfl, ?_⟩))
  go_ret
  exact ⟨Hd.e_, Hd.b_⟩
 ·
  rw [if_neg c4] at H
  have c4b0 : decide (t420 < 0) = false := decide_eq_false c4
  clear c4
  replace H := Option.bind_eq_some_iff.mp H
  obtain ⟨t421, A50, H⟩ := H
  replace H : ((spec_SafeRing.f k t421 a1).bind fun t424 => ((laws_toPointS.f k l0).bind fun t427 => ((impl_SafeRing.f k t427 a1).bind fun t430 => ((laws_eqPointS.f k t430 t424).bind fun t433 => (if t433 = true then ((laws_toPointS.f k l0).bind fun t434 => ((laws_eqPointS.f k t427 t434).bind fun t437 => (if t437 = true then ((laws_markPointS.f k t427 1).bind fun bt438 => (if bt438.1 < 0 then (laws_FnExactSafeRing.j0 k l0 a1 t424 t430 true) else ((laws_eqPointS.f k t430 t424).bind fun t440 => (laws_FnExactSafeRing.j0 k l0 a1 t424 t430 (!t440))))) else (some false)))) else (some false)))))) = some r := H
  have A5 := Aside0.mk A50
  clear A50
  replace H := Option.bind_eq_some_iff.mp H
  obtain ⟨t424, A60, H⟩ := H
  replace H : ((laws_toPointS.f k l0).bind fun t427 => ((impl_SafeRing.f k t427 a1).bind fun t430 => ((laws_eqPointS.f k t430 t424).bind fun t433 => (if t433 = true then ((laws_toPointS.f k l0).bind fun t434 => ((laws_eqPointS.f k t427 t434).bind fun t437 => (if t437 = true then ((laws_markPointS.f k t427 1).bind fun bt438 => (if bt438.1 < 0 then (laws_FnExactSafeRing.j0 k l0 a1 t424 t430 true) else ((laws_eqPointS.f k t430 t424).bind fun t440 => (laws_FnExactSafeRing.j0 k l0 a1 t424 t430 (!t440))))) else (some false)))) else (some false))))) = some r := H
  have A6 := Aside0.mk A60
  clear A60
  replace H := Option.bind_eq_some_iff.mp H
  obtain ⟨t427, A70, H⟩ := H
  replace H : ((impl_SafeRing.f k t427 a1).bind fun t430 => ((laws_eqPointS.f k t430 t424).bind fun t433 => (if t433 = true then ((laws_toPointS.f k l0).bind fun t434 => ((laws_eqPointS.f k t427 t434).bind fun t437 => (if t437 = true then ((laws_markPointS.f k t427 1).bind fun bt438 => (if bt438.1 < 0 then (laws_FnExactSafeRing.j0 k l0 a1 t424 t430 true) else ((laws_eqPointS.f k t430 t424).bind fun t440 => (laws_FnExactSafeRing.j0 k l0 a1 t424 t430 (!t440))))) else (some false)))) else (some false)))) = some r := H
  have A7 := Aside0.mk A70
  clear A70
  replace H := Option.bind_eq_some_iff.mp H
  obtain ⟨t430, A80, H⟩ := H
  replace H : ((laws_eqPointS.f k t430 t424).bind fun t433 => (if t433 = true then ((laws_toPointS.f k l0).bind fun t434 => ((laws_eqPointS.f k t427 t434).bind fun t437 => (if t437 = true then ((laws_markPointS.f k t427 1).bind fun bt438 => (if bt438.1 < 0 then (laws_FnExactSafeRing.j0 k l0 a1 t424 t430 true) else ((laws_eqPointS.f k t430 t424).bind fun t440 => (laws_FnExactSafeRing.j0 k l0 a1 t424 t430 (!t440))))) else (some false)))) else (some false))) = some r := H
  have A8 := Aside0.mk A80
  clear A80
  replace H := Option.bind_eq_some_iff.mp H
  obtain ⟨t433, A90, H⟩ := H
  replace H : (if t433 = true then ((laws_toPointS.f k l0).bind fun t434 => ((laws_eqPointS.f k t427 t434).bind fun t437 => (if t437 = true then ((laws_markPointS.f k t427 1).bind fun bt438 => (if bt438.1 < 0 then (laws_FnExactSafeRing.j0 k l0 a1 t424 t430 true) else ((laws_eqPointS.f k t430 t424).bind fun t440 => (laws_FnExactSafeRing.j0 k l0 a1 t424 t430 (!t440))))) else (some false)))) else (some false)) = some r := H
  have A9 := Aside0.mk A90
  clear A90
  by_cases c10 : t433 = true
  ·
   subst c10
   have H1 : ((laws_toPointS.f k l0).bind fun t434 => ((laws_eqPointS.f k t427 t434).bind fun t437 => (if t437 = true then ((laws_markPointS.f k t427 1).bind fun bt438 => (if bt438.1 < 0 then (laws_FnExactSafeRing.j0 k l0 a1 t424 t430 true) else ((laws_eqPointS.f k t430 t424).bind fun t440 => (laws_FnExactSafeRing.j0 k l0 a1 t424 t430 (!t440))))) else (some false)))) = some r := by rw [if_pos rfl] at H; exact H
   clear H
   have H := H1
   clear H1
   replace H := Option.bind_eq_some_iff.mp H
   obtain ⟨t434, A110, H⟩ := H
   replace H : ((laws_eqPointS.f k t427 t434).bind fun t437 => (if t437 = true then ((laws_markPointS.f k t427 1).bind fun bt438 => (if bt438.1 < 0 then (laws_FnExactSafeRing.j0 k l0 a1 t424 t430 true) else ((laws_eqPointS.f k t430 t424).bind fun t440 => (laws_FnExactSafeRing.j0 k l0 a1 t424 t430 (!t440))))) else (some false))) = some r := H
   have A11 := Aside0.mk A110
   clear A110
   replace H := Option.bind_eq_some_iff.mp H
   obtain ⟨t437, A120, H⟩ := H
   replace H : (if t437 = true then ((laws_markPointS.f k t427 1).bind fun bt438 => (if bt438.1 < 0 then (laws_FnExactSafeRing.j0 k l0 a1 t424 t430 true) else ((laws_eqPointS.f k t430 t424).bind fun t440 => (laws_FnExactSafeRing.j0 k l0 a1 t424 t430 (!t440))))) else (some false)) = some r := H
   have A12 := Aside0.mk A120
   clear A120
   by_cases c13 : t437 = true
   ·
    subst c13
    have H1 : ((laws_markPointS.f k t427 1).bind fun bt438 => (if bt438.1 < 0 then (laws_FnExactSafeRing.j0 k l0 a1 t424 t430 true) else ((laws_eqPointS.f k t430 t424).bind fun t440 => (laws_FnExactSafeRing.j0 k l0 a1 t424 t430 (!t440))))) = some r := by rw [if_pos rfl] at H; exact H
    clear H
    have H := H1
    clear H1
    replace H := Option.bind_eq_some_iff.mp H
    obtain ⟨⟨t438, t439⟩, A140, H⟩ := H
    replace H : (if t438 < 0 then (laws_FnExactSafeRing.j0 k l0 a1 t424 t430 true) else ((laws_eqPointS.f k t430 t424).bind fun t440 => (laws_FnExactSafeRing.j0 k l0 a1 t424 t430 (!t440)))) = some r := H
    have A14 := Aside0.mk A140
    clear A140
    have HC15 := Aside0.mk H
    clear H
    go_enter Try.func10, Try.ntmps10
    go_upto_region 14 with (first | ((with_reducible refine gate_callee (f := 15) rfl ?_); refine goesL_ (some 15) rfl rfl Try.func15 (by kernel_rfl) rfl #[.slice A0 l0.length c0, .int .i64 1048576] rfl Hd.m_ ?_; (with_reducible refine (laws_szPointS.calls _ _ l0 1048576 t420 _ ?side1 ?side2 A3.out).mono ?_); (case side1 => repeat (first | exact HR0.out | (with_reducible refine Kd.C_alloc ?_ _) | (with_reducible refine Kd.C_drewN ?_ _) | (with_reducible refine Kd.C_drew ?_))); (case side2 => exact HC0.out); rintro e w' ⟨rfl, ⟨nd, rfl⟩⟩; refine ⟨_, rfl, ?_⟩) | ((with_reducible refine gate_callee (f := 18) rfl ?_); refine goesL_ (some 19) rfl rfl Try.func18 (by kernel_rfl) rfl #[.slice A0 l0.length c0] rfl Hd.m_ ?_; (with_reducible refine (laws_toPointS.calls k _ _ l0 t421 _ ?side1 ?side2 A5.out).mono ?_); (case side1 => repeat (first | exact HR0.out | (with_reducible refine Kd.C_alloc ?_ _) | (with_reducible refine Kd.C_drewN ?_ _) | (with_reducible refine Kd.C_drew ?_))); (case side2 => exact HC0.out); rintro e w16 ⟨v422, rfl, ho0, hb⟩; refine ⟨_, rfl, ?_⟩; have HO423 := Aside0.mk (Kd.R_lower ho0 (below_size Hd.b_)); replace HB := Aside0.mk (below_step Hd.b_ hb); (try clear hb); (try clear hb2); (try clear hk); (try clear hi); (try clear ho0); obtain ⟨Ao17, co17, eo17⟩ := Kd.R_slice HO423.out; subst eo17) | ((with_reducible refine gate_callee (f := 63) rfl ?_); refine goesL_ (some 21) rfl rfl Try.func63 (by kernel_rfl) rfl #[.slice Ao17 t421.length co17, .int .i64 a1] rfl Hd.m_ ?_; (with_reducible refine (spec_SafeRing.calls k _ _ t421 a1 t424 _ ?side1 ?side2 A6.out).mono ?_); (case side1 => repeat (first | exact (Kd.R_reads' HO423.out).2.2 | (with_reducible refine Kd.C_alloc ?_ _) | (with_reducible refine Kd.C_drewN ?_ _) | (with_reducible refine Kd.C_drew ?_))); (case side2 => exact (Kd.R_reads' HO423.out).2.1); rintro e w18 ⟨v425, rfl, ho0, hb⟩; refine ⟨_, rfl, ?_⟩; have HO426 := Aside0.mk (Kd.R_lower (Kd.R_new' ho0 (Kd.R_lt (Hd.r_ HO423))) (below_size Hd.b_)); replace HO423 := Aside0.mk (Kd.R_elder' (Hd.r_ HO423) (Kd.R_base ho0) hb); replace HB := Aside0.mk (below_step Hd.b_ hb); (try clear hb); (try clear hb2); (try clear hk); (try clear hi); (try clear ho0)) | ((with_reducible refine gate_callee (f := 18) rfl ?_); refine goesL_ (some 23) rfl rfl Try.func18 (by kernel_rfl) rfl #[.slice A0 l0.length c0] rfl Hd.m_ ?_; (with_reducible refine (laws_toPointS.calls k _ _ l0 t427 _ ?side1 ?side2 A7.out).mono ?_); (case side1 => repeat (first | exact (Kd.C_below HR0.out HB.out) | (with_reducible refine Kd.C_alloc ?_ _) | (with_reducible refine Kd.C_drewN ?_ _) | (with_reducible refine Kd.C_drew ?_))); (case side2 => exact HC0.out); rintro e w19 ⟨v428, rfl, ho0, hb⟩; refine ⟨_, rfl, ?_⟩; have HO429 := Aside0.mk (Kd.R_lower (Kd.R_new' (Kd.R_new' ho0 (Kd.R_lt (Hd.r_ HO423))) (Kd.R_lt (Hd.r_ HO426))) (below_size Hd.b_)); replace HO423 := Aside0.mk (Kd.R_elder' (Hd.r_ HO423) (Kd.R_base ho0) hb); replace HO426 := Aside0.mk (Kd.R_elder' (Hd.r_ HO426) (Kd.R_base ho0) hb); replace HB := Aside0.mk (below_step Hd.b_ hb); (try clear hb); (try clear hb2); (try clear hk); (try clear hi); (try clear ho0); obtain ⟨Ao20, co20, eo20⟩ := Kd.R_slice HO429.out; subst eo20) | ((with_reducible refine gate_callee (f := 43) rfl ?_); refine goesL_ (some 26) rfl rfl Try.func43 (by kernel_rfl) rfl #[.slice Ao20 t427.length co20, .int .i64 a1] rfl Hd.m_ ?_; (with_reducible refine (impl_SafeRing.calls k _ _ t427 a1 t430 _ ?side1 ?side2 A8.out).mono ?_); (case side1 => repeat (first | exact (Kd.R_reads' HO429.out).2.2 | (with_reducible refine Kd.C_alloc ?_ _) | (with_reducible refine Kd.C_drewN ?_ _) | (with_reducible refine Kd.C_drew ?_))); (case side2 => exact (Kd.R_reads' HO429.out).2.1); rintro e w21 ⟨v431, rfl, ho0, hb⟩; refine ⟨_, rfl, ?_⟩; have HO432 := Aside0.mk (Kd.R_lower (Kd.R_new' (Kd.R_new' (Kd.R_new' ho0 (Kd.R_lt (Hd.r_ HO423))) (Kd.R_lt (Hd.r_ HO426))) (Kd.R_lt (Hd.r_ HO429))) (below_size Hd.b_)); replace HO423 := Aside0.mk (Kd.R_elder' (Hd.r_ HO423) (Kd.R_base ho0) hb); replace HO426 := Aside0.mk (Kd.R_elder' (Hd.r_ HO426) (Kd.R_base ho0) hb); replace HO429 := Aside0.mk (Kd.R_elder' (Hd.r_ HO429) (Kd.R_base ho0) hb); replace HB := Aside0.mk (below_step Hd.b_ hb); (try clear hb); (try clear hb2); (try clear hk); (try clear hi); (try clear ho0); obtain ⟨Ao22, co22, eo22⟩ := Kd.R_slice HO432.out; subst eo22; obtain ⟨Ao23, co23, eo23⟩ := Kd.R_slice HO426.out; subst eo23) | ((with_reducible refine gate_callee (f := 22) rfl ?_); refine goesL_ (some 29) rfl rfl Try.func22 (by kernel_rfl) rfl #[.slice Ao22 t430.length co22, .slice Ao23 t424.length co23] rfl Hd.m_ ?_; (with_reducible refine (laws_eqPointS.calls k _ _ t430 _ _ t424 true _ ?side1 ?side2 ?side3 ?side4 A9.out).mono ?_); (case side1 => repeat (first | exact (Kd.R_reads' HO432.out).2.2 | (with_reducible refine Kd.C_alloc ?_ _) | (with_reducible refine Kd.C_drewN ?_ _) | (with_reducible refine Kd.C_drew ?_))); (case side2 => exact (Kd.R_reads' HO432.out).2.1); (case side3 => repeat (first | exact (Kd.R_reads' HO426.out).2.2 | (with_reducible refine Kd.C_alloc ?_ _) | (with_reducible refine Kd.C_drewN ?_ _) | (with_reducible refine Kd.C_drew ?_))); (case side4 => exact (Kd.R_reads' HO426.out).2.1); rintro e w24 ⟨rfl, hb⟩; refine ⟨_, rfl, ?_⟩; replace HO423 := Aside0.mk (Kd.R_below (Hd.r_ HO423) hb); replace HO426 := Aside0.mk (Kd.R_below (Hd.r_ HO426) hb); replace HO429 := Aside0.mk (Kd.R_below (Hd.r_ HO429) hb); replace HO432 := Aside0.mk (Kd.R_below (Hd.r_ HO432) hb); replace HB := Aside0.mk (below_step Hd.b_ hb); (try clear hb); (try clear hb2); (try clear hk); (try clear hi)) | ((with_reducible refine gate_callee (f := 18) rfl ?_); refine goesL_ (some 33) rfl rfl Try.func18 (by kernel_rfl) rfl #[.slice A0 l0.length c0] rfl Hd.m_ ?_; (with_reducible refine (laws_toPointS.calls k _ _ l0 t434 _ ?side1 ?side2 A11.out).mono ?_); (case side1 => repeat (first | exact (Kd.C_below HR0.out HB.out) | (with_reducible refine Kd.C_alloc ?_ _) | (with_reducible refine Kd.C_drewN ?_ _) | (with_reducible refine Kd.C_drew ?_))); (case side2 => exact HC0.out); rintro e w25 ⟨v435, rfl, ho0, hb⟩; refine ⟨_, rfl, ?_⟩; have HO436 := Aside0.mk (Kd.R_lower (Kd.R_new' (Kd.R_new' (Kd.R_new' (Kd.R_new' ho0 (Kd.R_lt (Hd.r_ HO423))) (Kd.R_lt (Hd.r_ HO426))) (Kd.R_lt (Hd.r_ HO429))) (Kd.R_lt (Hd.r_ HO432))) (below_size Hd.b_)); replace HO423 := Aside0.mk (Kd.R_elder' (Hd.r_ HO423) (Kd.R_base ho0) hb); replace HO426 := Aside0.mk (Kd.R_elder' (Hd.r_ HO426) (Kd.R_base ho0) hb); replace HO429 := Aside0.mk (Kd.R_elder' (Hd.r_ HO429) (Kd.R_base ho0) hb); replace HO432 := Aside0.mk (Kd.R_elder' (Hd.r_ HO432) (Kd.R_base ho0) hb); replace HB := Aside0.mk (below_step Hd.b_ hb); (try clear hb); (try clear hb2); (try clear hk); (try clear hi); (try clear ho0); obtain ⟨Ao26, co26, eo26⟩ := Kd.R_slice HO436.out; subst eo26) | ((with_reducible refine gate_callee (f := 22) rfl ?_); refine goesL_ (some 34) rfl rfl Try.func22 (by kernel_rfl) rfl #[.slice Ao20 t427.length co20, .slice Ao26 t434.length co26] rfl Hd.m_ ?_; (with_reducible refine (laws_eqPointS.calls k _ _ t427 _ _ t434 true _ ?side1 ?side2 ?side3 ?side4 A12.out).mono ?_); (case side1 => repeat (first | exact (Kd.R_reads' HO429.out).2.2 | (with_reducible refine Kd.C_alloc ?_ _) | (with_reducible refine Kd.C_drewN ?_ _) | (with_reducible refine Kd.C_drew ?_))); (case side2 => exact (Kd.R_reads' HO429.out).2.1); (case side3 => repeat (first | exact (Kd.R_reads' HO436.out).2.2 | (with_reducible refine Kd.C_alloc ?_ _) | (with_reducible refine Kd.C_drewN ?_ _) | (with_reducible refine Kd.C_drew ?_))); (case side4 => exact (Kd.R_reads' HO436.out).2.1); rintro e w27 ⟨rfl, hb⟩; refine ⟨_, rfl, ?_⟩; replace HO423 := Aside0.mk (Kd.R_below (Hd.r_ HO423) hb); replace HO426 := Aside0.mk (Kd.R_below (Hd.r_ HO426) hb); replace HO429 := Aside0.mk (Kd.R_below (Hd.r_ HO429) hb); replace HO432 := Aside0.mk (Kd.R_below (Hd.r_ HO432) hb); replace HO436 := Aside0.mk (Kd.R_below (Hd.r_ HO436) hb); replace HB := Aside0.mk (below_step Hd.b_ hb); (try clear hb); (try clear hb2); (try clear hk); (try clear hi)) | ((with_reducible refine gate_callee (f := 24) rfl ?_); refine goesL_ (some 38) rfl rfl Try.func24 (by kernel_rfl) rfl #[.slice Ao20 t427.length co20, .int .i64 1] rfl Hd.m_ ?_; (with_reducible refine (laws_markPointS.calls k (fun k_ => some k_ = (.slice Ao20 t427.length co20 : Value).ownBlock) (.slice Ao20 t427.length co20) t427 1 t438 t439 w _ ?side1 ?side2 A14.out).mono ?_); (case side1 => repeat (first | (with_reducible first | exact HB.out | apply below_alloc | apply pw_below_drewN | apply below_drew1) | exact HB.out)); (case side2 => exact Kd.R_tight rfl HO429.out); rintro e w28 ⟨rfl, hy0, hb, hkp⟩; refine ⟨_, rfl, ?_⟩; replace HO423 := Aside0.mk (Kd.R_mono (ok' := fun k_ => some k_ ≠ (.slice Ao23 t424.length co23 : Value).ownBlock ∧ some k_ ≠ (.slice Ao20 t427.length co20 : Value).ownBlock ∧ some k_ ≠ (.slice Ao22 t430.length co22 : Value).ownBlock ∧ some k_ ≠ (.slice Ao26 t434.length co26 : Value).ownBlock) (Kd.R_keptB (HO423.out) hkp (fun k_ hk_ hs_ => (hk_.1.1.2) hs_)) (fun k_ hk_ => ⟨hk_.1.1.1.1.2, hk_.1.1.1.2, hk_.1.1.2, hk_.1.2⟩)); replace HO426 := Aside0.mk (Kd.R_mono (ok' := fun k_ => some k_ ≠ (.slice Ao17 t421.length co17 : Value).ownBlock ∧ some k_ ≠ (.slice Ao20 t427.length co20 : Value).ownBlock ∧ some k_ ≠ (.slice Ao22 t430.length co22 : Value).ownBlock ∧ some k_ ≠ (.slice Ao26 t434.length co26 : Value).ownBlock) (Kd.R_keptB (HO426.out) hkp (fun k_ hk_ hs_ => (hk_.1.1.2) hs_)) (fun k_ hk_ => ⟨hk_.1.1.1.1.2, hk_.1.1.1.2, hk_.1.1.2, hk_.1.2⟩)); replace HO429 := Aside0.mk (Kd.R_reok rfl hy0 (fun k_ e_ => HO429.out.1 k_ e_)); replace HO432 := Aside0.mk (Kd.R_mono (ok' := fun k_ => some k_ ≠ (.slice Ao17 t421.length co17 : Value).ownBlock ∧ some k_ ≠ (.slice Ao23 t424.length co23 : Value).ownBlock ∧ some k_ ≠ (.slice Ao20 t427.length co20 : Value).ownBlock ∧ some k_ ≠ (.slice Ao26 t434.length co26 : Value).ownBlock) (Kd.R_keptB (HO432.out) hkp (fun k_ hk_ hs_ => (hk_.1.2) hs_)) (fun k_ hk_ => ⟨hk_.1.1.1.1.2, hk_.1.1.1.2, hk_.1.1.2, hk_.1.2⟩)); replace HO436 := Aside0.mk (Kd.R_mono (ok' := fun k_ => some k_ ≠ (.slice Ao17 t421.length co17 : Value).ownBlock ∧ some k_ ≠ (.slice Ao23 t424.length co23 : Value).ownBlock ∧ some k_ ≠ (.slice Ao20 t427.length co20 : Value).ownBlock ∧ some k_ ≠ (.slice Ao22 t430.length co22 : Value).ownBlock) (Kd.R_keptB (HO436.out) hkp (fun k_ hk_ hs_ => (hk_.1.2) hs_)) (fun k_ hk_ => ⟨hk_.1.1.1.1.2, hk_.1.1.1.2, hk_.1.1.2, hk_.1.2⟩)); replace HB := Aside0.mk (hb); (try clear hb); (try clear hkp); (try clear hy0)))
    (try simp only [Act.put, List.setIfInBounds_toArray, List.set_cons_zero, List.set_cons_succ])
    go_cut [46] (fun v46 wc => ∃ (kq : Nat) (x46_14 : Bool), v46 = .bool x46_14 ∧ Aside0 (laws_FnExactSafeRing.j0 kq l0 a1 t424 t430 x46_14 = some r) ∧ Aside0 (kq ≤ k) ∧ Aside0 (Kd.R k49 49 wc w.heap.size (fun k_ => some k_ ≠ ((.slice Ao22 t430.length co22) : Value).ownBlock) (.slice Ao23 t424.length co23) t424) ∧ Aside0 (Kd.R k49 49 wc w.heap.size (fun k_ => some k_ ≠ ((.slice Ao23 t424.length co23) : Value).ownBlock) (.slice Ao22 t430.length co22) t430) ∧ Aside0 (Below w.heap.size w wc))
    case first =>
     have H := HC15.out
     clear HC15
     by_cases c29 : t438 < 0
     ·
      rw [if_pos c29] at H
      have c29b0 : decide (t438 < 0) = true := decide_eq_true c29
      clear c29
      (first | rw [c29b0] | (simp only [i64_w, i32_w]; rw [c29b0]) | skip)
      have H' := Aside0.mk H
      clear H
      go_wp2
      go_meet
      case rel => exact ⟨_, (true), (by first | rfl | (simp; done) | (simp [*]; done)), H', ⟨by first | omega | exact Nat.le_refl _⟩, ⟨by (with_reducible repeat (first | apply Kd.R_alloc | apply Kd.R_drewN | apply Kd.R_drew)); exact Kd.R_mono HO426.out (fun _ hk => hk.2.2.1)⟩, ⟨by (with_reducible repeat (first | apply Kd.R_alloc | apply Kd.R_drewN | apply Kd.R_drew)); exact Kd.R_mono HO432.out (fun _ hk => hk.2.1)⟩, ⟨Hd.b_⟩⟩
     ·
      rw [if_neg c29] at H
      have c29b0 : decide (t438 < 0) = false := decide_eq_false c29
      clear c29
      (first | rw [c29b0] | (simp only [i64_w, i32_w]; rw [c29b0]) | skip)
      replace H := Option.bind_eq_some_iff.mp H
      obtain ⟨t440, A300, H⟩ := H
      replace H : (laws_FnExactSafeRing.j0 k l0 a1 t424 t430 (!t440)) = some r := H
      have A30 := Aside0.mk A300
      clear A300
      have H' := Aside0.mk H
      clear H
      go_wp2_with (first | (go_at_call 22; (with_reducible refine (laws_eqPointS.calls k _ _ t430 _ _ t424 t440 _ ?side1 ?side2 ?side3 ?side4 A30.out).mono ?_); (case side1 => repeat (first | exact (Kd.R_reads' HO432.out).2.2 | (with_reducible refine Kd.C_alloc ?_ _) | (with_reducible refine Kd.C_drewN ?_ _) | (with_reducible refine Kd.C_drew ?_))); (case side2 => exact (Kd.R_reads' HO432.out).2.1); (case side3 => repeat (first | exact (Kd.R_reads' HO426.out).2.2 | (with_reducible refine Kd.C_alloc ?_ _) | (with_reducible refine Kd.C_drewN ?_ _) | (with_reducible refine Kd.C_drew ?_))); (case side4 => exact (Kd.R_reads' HO426.out).2.1); rintro e w31 ⟨rfl, hb⟩; replace HO423 := Aside0.mk (Kd.R_below (Hd.r_ HO423) hb); replace HO426 := Aside0.mk (Kd.R_below (Hd.r_ HO426) hb); replace HO429 := Aside0.mk (Kd.R_below (Hd.r_ HO429) hb); replace HO432 := Aside0.mk (Kd.R_below (Hd.r_ HO432) hb); replace HO436 := Aside0.mk (Kd.R_below (Hd.r_ HO436) hb); replace HB := Aside0.mk (below_step Hd.b_ hb); (try clear hb); (try clear hb2); (try clear hk); (try clear hi)))
      go_meet
      case rel => exact ⟨_, (!t440), (by first | rfl | (simp; done) | (simp [*]; done)), H', ⟨by first | omega | exact Nat.le_refl _⟩, ⟨by (with_reducible repeat (first | apply Kd.R_alloc | apply Kd.R_drewN | apply Kd.R_drew)); exact Kd.R_mono HO426.out (fun _ hk => hk.2.2.1)⟩, ⟨by (with_reducible repeat (first | apply Kd.R_alloc | apply Kd.R_drewN | apply Kd.R_drew)); exact Kd.R_mono HO432.out (fun _ hk => hk.2.1)⟩, ⟨Hd.b_⟩⟩
    case rest =>
     clear HC15
     try clear c1
     try clear c2
     try clear p2
     try clear c4
     try clear c4b0
     try clear c6
     try clear c10
     try clear c13
     try clear c15
     try clear c18
     try clear c22
     try clear c24
     try clear c29
     try clear c29b0
     obtain ⟨kq, x46_14, rfl, HA, HJ14, HO_6, HO_8, HB⟩ := hcut
     cases kq with
     | zero => exact absurd HA.out (by simp [laws_FnExactSafeRing.j0])
     | succ kj14 =>
      have H := HA.out
      clear HA
      simp only [laws_FnExactSafeRing.j0] at H
      by_cases c32 : x46_14 = true
      ·
       subst c32
       have H1 : (some false) = some r := by rw [if_pos rfl] at H; exact H
       clear H
       have H := H1
       clear H1
       obtain rfl := Option.some.inj H
       go_wp2
       go_ret
       exact ⟨Hd.e_, Hd.b_⟩
      ·
       replace c32 := Bool.eq_false_iff.mpr c32
       subst c32
       have H1 : ((laws_markPointS.f kj14 t430 1).bind fun bt441 => ((laws_heldPointS.f kj14 bt441.2 1).bind fun t443 => (if t443 < 0 then (some false) else (if t443 = bt441.1 then ((laws_toPointS.f kj14 l0).bind fun t444 => ((impl_SafeRing.f kj14 t444 a1).bind fun t447 => ((laws_eqPointS.f kj14 t447 t424).bind fun t450 => (if t450 = true then ((laws_heldPointS.f kj14 bt441.2 1).bind fun t451 => (if t451 < 0 then (some false) else (if t451 = bt441.1 then (some true) else (some false)))) else (some false))))) else (some false))))) = some r := by rw [if_neg (show ¬ (false = true) by decide)] at H; exact H
       clear H
       have H := H1
       clear H1
       replace H := Option.bind_eq_some_iff.mp H
       obtain ⟨⟨t441, t442⟩, A330, H⟩ := H
       replace H : ((laws_heldPointS.f kj14 t442 1).bind fun t443 => (if t443 < 0 then (some false) else (if t443 = t441 then ((laws_toPointS.f kj14 l0).bind fun t444 => ((impl_SafeRing.f kj14 t444 a1).bind fun t447 => ((laws_eqPointS.f kj14 t447 t424).bind fun t450 => (if t450 = true then ((laws_heldPointS.f kj14 t442 1).bind fun t451 => (if t451 < 0 then (some false) else (if t451 = t441 then (some true) else (some false)))) else (some false))))) else (some false)))) = some r := H
       have A33 := Aside0.mk A330
       clear A330
       replace H := Option.bind_eq_some_iff.mp H
       obtain ⟨t443, A340, H⟩ := H
       replace H : (if t443 < 0 then (some false) else (if t443 = t441 then ((laws_toPointS.f kj14 l0).bind fun t444 => ((impl_SafeRing.f kj14 t444 a1).bind fun t447 => ((laws_eqPointS.f kj14 t447 t424).bind fun t450 => (if t450 = true then ((laws_heldPointS.f kj14 t442 1).bind fun t451 => (if t451 < 0 then (some false) else (if t451 = t441 then (some true) else (some false)))) else (some false))))) else (some false))) = some r := H
       have A34 := Aside0.mk A340
       clear A340
       by_cases c35 : t443 < 0
       ·
        rw [if_pos c35] at H
        have c35b0 : decide (t443 < 0) = true := decide_eq_true c35
        clear c35
        obtain rfl := Option.some.inj H
        go_wp2_with (first | ((with_reducible refine gate_callee (f := 24) rfl ?_); refine goesL_ (some 49) rfl rfl Try.func24 (by kernel_rfl) rfl #[.slice Ao22 t430.length co22, .int .i64 1] rfl Hd.m_ ?_; (with_reducible refine (laws_markPointS.calls kj14 (fun k_ => some k_ = (.slice Ao22 t430.length co22 : Value).ownBlock) (.slice Ao22 t430.length co22) t430 1 t441 t442 w _ ?side1 ?side2 A33.out).mono ?_); (case side1 => repeat (first | (with_reducible first | exact HB.out | apply below_alloc | apply pw_below_drewN | apply below_drew1) | exact HB.out)); (case side2 => exact Kd.R_tight rfl HO_8.out); rintro e w36 ⟨rfl, hy0, hb, hkp⟩; refine ⟨_, rfl, ?_⟩; replace HO_6 := Aside0.mk (Kd.R_mono (ok' := fun k_ => some k_ ≠ (.slice Ao22 t430.length co22 : Value).ownBlock) (Kd.R_keptB (HO_6.out) hkp (fun k_ hk_ hs_ => (hk_) hs_)) (fun k_ hk_ => hk_.1)); replace HO_8 := Aside0.mk (Kd.R_reok rfl hy0 (fun k_ e_ => HO_8.out.1 k_ e_)); replace HB := Aside0.mk (hb); (try clear hb); (try clear hkp); (try clear hy0)) | ((with_reducible refine gate_callee (f := 30) rfl ?_); refine goesL_ (some 52) rfl rfl Try.func30 (by kernel_rfl) rfl #[.slice Ao22 t442.length co22, .int .i64 1] rfl (by (try simp only [List.map_toArray, List.map_cons, List.map_nil]); first | done | (rw [show t442.length = t430.length from (Kd.R_reads' HO_8.out).1.symm] <;> rfl) | rfl | (simp only [List.length_drop, List.length_take]; rfl)) ?_; (with_reducible refine (laws_heldPointS.calls kj14 _ _ t442 1 t443 _ ?side1 ?side2 A34.out).mono ?_); (case side1 => repeat (first | exact (Kd.R_reads' HO_8.out).2.2 | (with_reducible refine Kd.C_alloc ?_ _) | (with_reducible refine Kd.C_drewN ?_ _) | (with_reducible refine Kd.C_drew ?_))); (case side2 => rw [show t442.length = t430.length from (Kd.R_reads' HO_8.out).1.symm]; exact (Kd.R_reads' HO_8.out).2.1); rintro e w' ⟨rfl, ⟨nd, rfl⟩⟩; refine ⟨_, rfl, ?_⟩))
        go_ret
        exact ⟨Hd.e_, Hd.b_⟩
       ·
        rw [if_neg c35] at H
        have c35b0 : decide (t443 < 0) = false := decide_eq_false c35
        clear c35
        by_cases c37 : t443 = t441
        ·
         rw [if_pos c37] at H
         have c37b0 : (t443 == t441) = true := beq_iff_eq.mpr c37
         have c37b1 : (t443 != t441) = false := bne_eq_false_iff_eq.mpr c37
         clear c37
         replace H := Option.bind_eq_some_iff.mp H
         obtain ⟨t444, A380, H⟩ := H
         replace H : ((impl_SafeRing.f kj14 t444 a1).bind fun t447 => ((laws_eqPointS.f kj14 t447 t424).bind fun t450 => (if t450 = true then ((laws_heldPointS.f kj14 t442 1).bind fun t451 => (if t451 < 0 then (some false) else (if t451 = t441 then (some true) else (some false)))) else (some false)))) = some r := H
         have A38 := Aside0.mk A380
         clear A380
         replace H := Option.bind_eq_some_iff.mp H
         obtain ⟨t447, A390, H⟩ := H
         replace H : ((laws_eqPointS.f kj14 t447 t424).bind fun t450 => (if t450 = true then ((laws_heldPointS.f kj14 t442 1).bind fun t451 => (if t451 < 0 then (some false) else (if t451 = t441 then (some true) else (some false)))) else (some false))) = some r := H
         have A39 := Aside0.mk A390
         clear A390
         replace H := Option.bind_eq_some_iff.mp H
         obtain ⟨t450, A400, H⟩ := H
         replace H : (if t450 = true then ((laws_heldPointS.f kj14 t442 1).bind fun t451 => (if t451 < 0 then (some false) else (if t451 = t441 then (some true) else (some false)))) else (some false)) = some r := H
         have A40 := Aside0.mk A400
         clear A400
         by_cases c41 : t450 = true
         ·
          subst c41
          have H1 : ((laws_heldPointS.f kj14 t442 1).bind fun t451 => (if t451 < 0 then (some false) else (if t451 = t441 then (some true) else (some false)))) = some r := by rw [if_pos rfl] at H; exact H
          clear H
          have H := H1
          clear H1
          replace H := Option.bind_eq_some_iff.mp H
          obtain ⟨t451, A420, H⟩ := H
          replace H : (if t451 < 0 then (some false) else (if t451 = t441 then (some true) else (some false))) = some r := H
          have A42 := Aside0.mk A420
          clear A420
          by_cases c43 : t451 < 0
          ·
           rw [if_pos c43] at H
           have c43b0 : decide (t451 < 0) = true := decide_eq_true c43
           clear c43
           obtain rfl := Option.some.inj H
           go_wp2_with (first | ((with_reducible refine gate_callee (f := 24) rfl ?_); refine goesL_ (some 49) rfl rfl Try.func24 (by kernel_rfl) rfl #[.slice Ao22 t430.length co22, .int .i64 1] rfl Hd.m_ ?_; (with_reducible refine (laws_markPointS.calls kj14 (fun k_ => some k_ = (.slice Ao22 t430.length co22 : Value).ownBlock) (.slice Ao22 t430.length co22) t430 1 t441 t442 w _ ?side1 ?side2 A33.out).mono ?_); (case side1 => repeat (first | (with_reducible first | exact HB.out | apply below_alloc | apply pw_below_drewN | apply below_drew1) | exact HB.out)); (case side2 => exact Kd.R_tight rfl HO_8.out); rintro e w44 ⟨rfl, hy0, hb, hkp⟩; refine ⟨_, rfl, ?_⟩; replace HO_6 := Aside0.mk (Kd.R_mono (ok' := fun k_ => some k_ ≠ (.slice Ao22 t430.length co22 : Value).ownBlock) (Kd.R_keptB (HO_6.out) hkp (fun k_ hk_ hs_ => (hk_) hs_)) (fun k_ hk_ => hk_.1)); replace HO_8 := Aside0.mk (Kd.R_reok rfl hy0 (fun k_ e_ => HO_8.out.1 k_ e_)); replace HB := Aside0.mk (hb); (try clear hb); (try clear hkp); (try clear hy0)) | ((with_reducible refine gate_callee (f := 30) rfl ?_); refine goesL_ (some 52) rfl rfl Try.func30 (by kernel_rfl) rfl #[.slice Ao22 t442.length co22, .int .i64 1] rfl (by (try simp only [List.map_toArray, List.map_cons, List.map_nil]); first | done | (rw [show t442.length = t430.length from (Kd.R_reads' HO_8.out).1.symm] <;> rfl) | rfl | (simp only [List.length_drop, List.length_take]; rfl)) ?_; (with_reducible refine (laws_heldPointS.calls kj14 _ _ t442 1 t443 _ ?side1 ?side2 A34.out).mono ?_); (case side1 => repeat (first | exact (Kd.R_reads' HO_8.out).2.2 | (with_reducible refine Kd.C_alloc ?_ _) | (with_reducible refine Kd.C_drewN ?_ _) | (with_reducible refine Kd.C_drew ?_))); (case side2 => rw [show t442.length = t430.length from (Kd.R_reads' HO_8.out).1.symm]; exact (Kd.R_reads' HO_8.out).2.1); rintro e w' ⟨rfl, ⟨nd, rfl⟩⟩; refine ⟨_, rfl, ?_⟩) | ((with_reducible refine gate_callee (f := 18) rfl ?_); refine goesL_ (some 59) rfl rfl Try.func18 (by kernel_rfl) rfl #[.slice A0 l0.length c0] rfl Hd.m_ ?_; (with_reducible refine (laws_toPointS.calls kj14 _ _ l0 t444 _ ?side1 ?side2 A38.out).mono ?_); (case side1 => repeat (first | exact (Kd.C_below HR0.out Hd.b_) | (with_reducible refine Kd.C_alloc ?_ _) | (with_reducible refine Kd.C_drewN ?_ _) | (with_reducible refine Kd.C_drew ?_))); (case side2 => exact HC0.out); rintro e w45 ⟨v445, rfl, ho0, hb⟩; refine ⟨_, rfl, ?_⟩; have HO446 := Aside0.mk (Kd.R_lower (Kd.R_new' (Kd.R_new' ho0 (Kd.R_lt (Hd.r_ HO_6))) (Kd.R_lt (Hd.r_ HO_8))) (below_size Hd.b_)); replace HO_6 := Aside0.mk (Kd.R_elder' (Hd.r_ HO_6) (Kd.R_base ho0) hb); replace HO_8 := Aside0.mk (Kd.R_elder' (Hd.r_ HO_8) (Kd.R_base ho0) hb); replace HB := Aside0.mk (below_step Hd.b_ hb); (try clear hb); (try clear hb2); (try clear hk); (try clear hi); (try clear ho0); obtain ⟨Ao46, co46, eo46⟩ := Kd.R_slice HO446.out; subst eo46) | ((with_reducible refine gate_callee (f := 43) rfl ?_); refine goesL_ (some 61) rfl rfl Try.func43 (by kernel_rfl) rfl #[.slice Ao46 t444.length co46, .int .i64 a1] rfl Hd.m_ ?_; (with_reducible refine (impl_SafeRing.calls kj14 _ _ t444 a1 t447 _ ?side1 ?side2 A39.out).mono ?_); (case side1 => repeat (first | exact (Kd.R_reads' HO446.out).2.2 | (with_reducible refine Kd.C_alloc ?_ _) | (with_reducible refine Kd.C_drewN ?_ _) | (with_reducible refine Kd.C_drew ?_))); (case side2 => exact (Kd.R_reads' HO446.out).2.1); rintro e w47 ⟨v448, rfl, ho0, hb⟩; refine ⟨_, rfl, ?_⟩; have HO449 := Aside0.mk (Kd.R_lower (Kd.R_new' (Kd.R_new' (Kd.R_new' ho0 (Kd.R_lt (Hd.r_ HO_6))) (Kd.R_lt (Hd.r_ HO_8))) (Kd.R_lt (Hd.r_ HO446))) (below_size Hd.b_)); replace HO_6 := Aside0.mk (Kd.R_elder' (Hd.r_ HO_6) (Kd.R_base ho0) hb); replace HO_8 := Aside0.mk (Kd.R_elder' (Hd.r_ HO_8) (Kd.R_base ho0) hb); replace HO446 := Aside0.mk (Kd.R_elder' (Hd.r_ HO446) (Kd.R_base ho0) hb); replace HB := Aside0.mk (below_step Hd.b_ hb); (try clear hb); (try clear hb2); (try clear hk); (try clear hi); (try clear ho0); obtain ⟨Ao48, co48, eo48⟩ := Kd.R_slice HO449.out; subst eo48) | ((with_reducible refine gate_callee (f := 22) rfl ?_); refine goesL_ (some 64) rfl rfl Try.func22 (by kernel_rfl) rfl #[.slice Ao48 t447.length co48, .slice Ao23 t424.length co23] rfl Hd.m_ ?_; (with_reducible refine (laws_eqPointS.calls kj14 _ _ t447 _ _ t424 true _ ?side1 ?side2 ?side3 ?side4 A40.out).mono ?_); (case side1 => repeat (first | exact (Kd.R_reads' HO449.out).2.2 | (with_reducible refine Kd.C_alloc ?_ _) | (with_reducible refine Kd.C_drewN ?_ _) | (with_reducible refine Kd.C_drew ?_))); (case side2 => exact (Kd.R_reads' HO449.out).2.1); (case side3 => repeat (first | exact (Kd.R_reads' HO_6.out).2.2 | (with_reducible refine Kd.C_alloc ?_ _) | (with_reducible refine Kd.C_drewN ?_ _) | (with_reducible refine Kd.C_drew ?_))); (case side4 => exact (Kd.R_reads' HO_6.out).2.1); rintro e w49 ⟨rfl, hb⟩; refine ⟨_, rfl, ?_⟩; replace HO_6 := Aside0.mk (Kd.R_below (Hd.r_ HO_6) hb); replace HO_8 := Aside0.mk (Kd.R_below (Hd.r_ HO_8) hb); replace HO446 := Aside0.mk (Kd.R_below (Hd.r_ HO446) hb); replace HO449 := Aside0.mk (Kd.R_below (Hd.r_ HO449) hb); replace HB := Aside0.mk (below_step Hd.b_ hb); (try clear hb); (try clear hb2); (try clear hk); (try clear hi)) | ((with_reducible refine gate_callee (f := 30) rfl ?_); refine goesL_ (some 68) rfl rfl Try.func30 (by kernel_rfl) rfl #[.slice Ao22 t442.length co22, .int .i64 1] rfl (by (try simp only [List.map_toArray, List.map_cons, List.map_nil]); first | done | (rw [show t442.length = t430.length from (Kd.R_reads' HO_8.out).1.symm] <;> rfl) | rfl | (simp only [List.length_drop, List.length_take]; rfl)) ?_; (with_reducible refine (laws_heldPointS.calls kj14 _ _ t442 1 t451 _ ?side1 ?side2 A42.out).mono ?_); (case side1 => repeat (first | exact (Kd.R_reads' HO_8.out).2.2 | (with_reducible refine Kd.C_alloc ?_ _) | (with_reducible refine Kd.C_drewN ?_ _) | (with_reducible refine Kd.C_drew ?_))); (case side2 => rw [show t442.length = t430.length from (Kd.R_reads' HO_8.out).1.symm]; exact (Kd.R_reads' HO_8.out).2.1); rintro e w' ⟨rfl, ⟨nd, rfl⟩⟩; refine ⟨_, rfl, ?_⟩))
           go_ret
           exact ⟨Hd.e_, Hd.b_⟩
          ·
           rw [if_neg c43] at H
           have c43b0 : decide (t451 < 0) = false := decide_eq_false c43
           clear c43
           by_cases c50 : t451 = t441
           ·
            rw [if_pos c50] at H
            have c50b0 : (t451 == t441) = true := beq_iff_eq.mpr c50
            have c50b1 : (t451 != t441) = false := bne_eq_false_iff_eq.mpr c50
            clear c50
            obtain rfl := Option.some.inj H
            go_wp2_with (first | ((with_reducible refine gate_callee (f := 24) rfl ?_); refine goesL_ (some 49) rfl rfl Try.func24 (by kernel_rfl) rfl #[.slice Ao22 t430.length co22, .int .i64 1] rfl Hd.m_ ?_; (with_reducible refine (laws_markPointS.calls kj14 (fun k_ => some k_ = (.slice Ao22 t430.length co22 : Value).ownBlock) (.slice Ao22 t430.length co22) t430 1 t441 t442 w _ ?side1 ?side2 A33.out).mono ?_); (case side1 => repeat (first | (with_reducible first | exact HB.out | apply below_alloc | apply pw_below_drewN | apply below_drew1) | exact HB.out)); (case side2 => exact Kd.R_tight rfl HO_8.out); rintro e w51 ⟨rfl, hy0, hb, hkp⟩; refine ⟨_, rfl, ?_⟩; replace HO_6 := Aside0.mk (Kd.R_mono (ok' := fun k_ => some k_ ≠ (.slice Ao22 t430.length co22 : Value).ownBlock) (Kd.R_keptB (HO_6.out) hkp (fun k_ hk_ hs_ => (hk_) hs_)) (fun k_ hk_ => hk_.1)); replace HO_8 := Aside0.mk (Kd.R_reok rfl hy0 (fun k_ e_ => HO_8.out.1 k_ e_)); replace HB := Aside0.mk (hb); (try clear hb); (try clear hkp); (try clear hy0)) | ((with_reducible refine gate_callee (f := 30) rfl ?_); refine goesL_ (some 52) rfl rfl Try.func30 (by kernel_rfl) rfl #[.slice Ao22 t442.length co22, .int .i64 1] rfl (by (try simp only [List.map_toArray, List.map_cons, List.map_nil]); first | done | (rw [show t442.length = t430.length from (Kd.R_reads' HO_8.out).1.symm] <;> rfl) | rfl | (simp only [List.length_drop, List.length_take]; rfl)) ?_; (with_reducible refine (laws_heldPointS.calls kj14 _ _ t442 1 t443 _ ?side1 ?side2 A34.out).mono ?_); (case side1 => repeat (first | exact (Kd.R_reads' HO_8.out).2.2 | (with_reducible refine Kd.C_alloc ?_ _) | (with_reducible refine Kd.C_drewN ?_ _) | (with_reducible refine Kd.C_drew ?_))); (case side2 => rw [show t442.length = t430.length from (Kd.R_reads' HO_8.out).1.symm]; exact (Kd.R_reads' HO_8.out).2.1); rintro e w' ⟨rfl, ⟨nd, rfl⟩⟩; refine ⟨_, rfl, ?_⟩) | ((with_reducible refine gate_callee (f := 18) rfl ?_); refine goesL_ (some 59) rfl rfl Try.func18 (by kernel_rfl) rfl #[.slice A0 l0.length c0] rfl Hd.m_ ?_; (with_reducible refine (laws_toPointS.calls kj14 _ _ l0 t444 _ ?side1 ?side2 A38.out).mono ?_); (case side1 => repeat (first | exact (Kd.C_below HR0.out Hd.b_) | (with_reducible refine Kd.C_alloc ?_ _) | (with_reducible refine Kd.C_drewN ?_ _) | (with_reducible refine Kd.C_drew ?_))); (case side2 => exact HC0.out); rintro e w52 ⟨v445, rfl, ho0, hb⟩; refine ⟨_, rfl, ?_⟩; have HO446 := Aside0.mk (Kd.R_lower (Kd.R_new' (Kd.R_new' ho0 (Kd.R_lt (Hd.r_ HO_6))) (Kd.R_lt (Hd.r_ HO_8))) (below_size Hd.b_)); replace HO_6 := Aside0.mk (Kd.R_elder' (Hd.r_ HO_6) (Kd.R_base ho0) hb); replace HO_8 := Aside0.mk (Kd.R_elder' (Hd.r_ HO_8) (Kd.R_base ho0) hb); replace HB := Aside0.mk (below_step Hd.b_ hb); (try clear hb); (try clear hb2); (try clear hk); (try clear hi); (try clear ho0); obtain ⟨Ao53, co53, eo53⟩ := Kd.R_slice HO446.out; subst eo53) | ((with_reducible refine gate_callee (f := 43) rfl ?_); refine goesL_ (some 61) rfl rfl Try.func43 (by kernel_rfl) rfl #[.slice Ao53 t444.length co53, .int .i64 a1] rfl Hd.m_ ?_; (with_reducible refine (impl_SafeRing.calls kj14 _ _ t444 a1 t447 _ ?side1 ?side2 A39.out).mono ?_); (case side1 => repeat (first | exact (Kd.R_reads' HO446.out).2.2 | (with_reducible refine Kd.C_alloc ?_ _) | (with_reducible refine Kd.C_drewN ?_ _) | (with_reducible refine Kd.C_drew ?_))); (case side2 => exact (Kd.R_reads' HO446.out).2.1); rintro e w54 ⟨v448, rfl, ho0, hb⟩; refine ⟨_, rfl, ?_⟩; have HO449 := Aside0.mk (Kd.R_lower (Kd.R_new' (Kd.R_new' (Kd.R_new' ho0 (Kd.R_lt (Hd.r_ HO_6))) (Kd.R_lt (Hd.r_ HO_8))) (Kd.R_lt (Hd.r_ HO446))) (below_size Hd.b_)); replace HO_6 := Aside0.mk (Kd.R_elder' (Hd.r_ HO_6) (Kd.R_base ho0) hb); replace HO_8 := Aside0.mk (Kd.R_elder' (Hd.r_ HO_8) (Kd.R_base ho0) hb); replace HO446 := Aside0.mk (Kd.R_elder' (Hd.r_ HO446) (Kd.R_base ho0) hb); replace HB := Aside0.mk (below_step Hd.b_ hb); (try clear hb); (try clear hb2); (try clear hk); (try clear hi); (try clear ho0); obtain ⟨Ao55, co55, eo55⟩ := Kd.R_slice HO449.out; subst eo55) | ((with_reducible refine gate_callee (f := 22) rfl ?_); refine goesL_ (some 64) rfl rfl Try.func22 (by kernel_rfl) rfl #[.slice Ao55 t447.length co55, .slice Ao23 t424.length co23] rfl Hd.m_ ?_; (with_reducible refine (laws_eqPointS.calls kj14 _ _ t447 _ _ t424 true _ ?side1 ?side2 ?side3 ?side4 A40.out).mono ?_); (case side1 => repeat (first | exact (Kd.R_reads' HO449.out).2.2 | (with_reducible refine Kd.C_alloc ?_ _) | (with_reducible refine Kd.C_drewN ?_ _) | (with_reducible refine Kd.C_drew ?_))); (case side2 => exact (Kd.R_reads' HO449.out).2.1); (case side3 => repeat (first | exact (Kd.R_reads' HO_6.out).2.2 | (with_reducible refine Kd.C_alloc ?_ _) | (with_reducible refine Kd.C_drewN ?_ _) | (with_reducible refine Kd.C_drew ?_))); (case side4 => exact (Kd.R_reads' HO_6.out).2.1); rintro e w56 ⟨rfl, hb⟩; refine ⟨_, rfl, ?_⟩; replace HO_6 := Aside0.mk (Kd.R_below (Hd.r_ HO_6) hb); replace HO_8 := Aside0.mk (Kd.R_below (Hd.r_ HO_8) hb); replace HO446 := Aside0.mk (Kd.R_below (Hd.r_ HO446) hb); replace HO449 := Aside0.mk (Kd.R_below (Hd.r_ HO449) hb); replace HB := Aside0.mk (below_step Hd.b_ hb); (try clear hb); (try clear hb2); (try clear hk); (try clear hi)) | ((with_reducible refine gate_callee (f := 30) rfl ?_); refine goesL_ (some 68) rfl rfl Try.func30 (by kernel_rfl) rfl #[.slice Ao22 t442.length co22, .int .i64 1] rfl (by (try simp only [List.map_toArray, List.map_cons, List.map_nil]); first | done | (rw [show t442.length = t430.length from (Kd.R_reads' HO_8.out).1.symm] <;> rfl) | rfl | (simp only [List.length_drop, List.length_take]; rfl)) ?_; (with_reducible refine (laws_heldPointS.calls kj14 _ _ t442 1 t451 _ ?side1 ?side2 A42.out).mono ?_); (case side1 => repeat (first | exact (Kd.R_reads' HO_8.out).2.2 | (with_reducible refine Kd.C_alloc ?_ _) | (with_reducible refine Kd.C_drewN ?_ _) | (with_reducible refine Kd.C_drew ?_))); (case side2 => rw [show t442.length = t430.length from (Kd.R_reads' HO_8.out).1.symm]; exact (Kd.R_reads' HO_8.out).2.1); rintro e w' ⟨rfl, ⟨nd, rfl⟩⟩; refine ⟨_, rfl, ?_⟩))
            go_ret
            exact ⟨Hd.e_, Hd.b_⟩
           ·
            rw [if_neg c50] at H
            have c50b0 : (t451 == t441) = false := beq_eq_false_iff_ne.mpr c50
            have c50b1 : (t451 != t441) = true := bne_iff_ne.mpr c50
            obtain rfl := Option.some.inj H
            go_wp2_with (first | ((with_reducible refine gate_callee (f := 24) rfl ?_); refine goesL_ (some 49) rfl rfl Try.func24 (by kernel_rfl) rfl #[.slice Ao22 t430.length co22, .int .i64 1] rfl Hd.m_ ?_; (with_reducible refine (laws_markPointS.calls kj14 (fun k_ => some k_ = (.slice Ao22 t430.length co22 : Value).ownBlock) (.slice Ao22 t430.length co22) t430 1 t441 t442 w _ ?side1 ?side2 A33.out).mono ?_); (case side1 => repeat (first | (with_reducible first | exact HB.out | apply below_alloc | apply pw_below_drewN | apply below_drew1) | exact HB.out)); (case side2 => exact Kd.R_tight rfl HO_8.out); rintro e w57 ⟨rfl, hy0, hb, hkp⟩; refine ⟨_, rfl, ?_⟩; replace HO_6 := Aside0.mk (Kd.R_mono (ok' := fun k_ => some k_ ≠ (.slice Ao22 t430.length co22 : Value).ownBlock) (Kd.R_keptB (HO_6.out) hkp (fun k_ hk_ hs_ => (hk_) hs_)) (fun k_ hk_ => hk_.1)); replace HO_8 := Aside0.mk (Kd.R_reok rfl hy0 (fun k_ e_ => HO_8.out.1 k_ e_)); replace HB := Aside0.mk (hb); (try clear hb); (try clear hkp); (try clear hy0)) | ((with_reducible refine gate_callee (f := 30) rfl ?_); refine goesL_ (some 52) rfl rfl Try.func30 (by kernel_rfl) rfl #[.slice Ao22 t442.length co22, .int .i64 1] rfl (by (try simp only [List.map_toArray, List.map_cons, List.map_nil]); first | done | (rw [show t442.length = t430.length from (Kd.R_reads' HO_8.out).1.symm] <;> rfl) | rfl | (simp only [List.length_drop, List.length_take]; rfl)) ?_; (with_reducible refine (laws_heldPointS.calls kj14 _ _ t442 1 t443 _ ?side1 ?side2 A34.out).mono ?_); (case side1 => repeat (first | exact (Kd.R_reads' HO_8.out).2.2 | (with_reducible refine Kd.C_alloc ?_ _) | (with_reducible refine Kd.C_drewN ?_ _) | (with_reducible refine Kd.C_drew ?_))); (case side2 => rw [show t442.length = t430.length from (Kd.R_reads' HO_8.out).1.symm]; exact (Kd.R_reads' HO_8.out).2.1); rintro e w' ⟨rfl, ⟨nd, rfl⟩⟩; refine ⟨_, rfl, ?_⟩) | ((with_reducible refine gate_callee (f := 18) rfl ?_); refine goesL_ (some 59) rfl rfl Try.func18 (by kernel_rfl) rfl #[.slice A0 l0.length c0] rfl Hd.m_ ?_; (with_reducible refine (laws_toPointS.calls kj14 _ _ l0 t444 _ ?side1 ?side2 A38.out).mono ?_); (case side1 => repeat (first | exact (Kd.C_below HR0.out Hd.b_) | (with_reducible refine Kd.C_alloc ?_ _) | (with_reducible refine Kd.C_drewN ?_ _) | (with_reducible refine Kd.C_drew ?_))); (case side2 => exact HC0.out); rintro e w58 ⟨v445, rfl, ho0, hb⟩; refine ⟨_, rfl, ?_⟩; have HO446 := Aside0.mk (Kd.R_lower (Kd.R_new' (Kd.R_new' ho0 (Kd.R_lt (Hd.r_ HO_6))) (Kd.R_lt (Hd.r_ HO_8))) (below_size Hd.b_)); replace HO_6 := Aside0.mk (Kd.R_elder' (Hd.r_ HO_6) (Kd.R_base ho0) hb); replace HO_8 := Aside0.mk (Kd.R_elder' (Hd.r_ HO_8) (Kd.R_base ho0) hb); replace HB := Aside0.mk (below_step Hd.b_ hb); (try clear hb); (try clear hb2); (try clear hk); (try clear hi); (try clear ho0); obtain ⟨Ao59, co59, eo59⟩ := Kd.R_slice HO446.out; subst eo59) | ((with_reducible refine gate_callee (f := 43) rfl ?_); refine goesL_ (some 61) rfl rfl Try.func43 (by kernel_rfl) rfl #[.slice Ao59 t444.length co59, .int .i64 a1] rfl Hd.m_ ?_; (with_reducible refine (impl_SafeRing.calls kj14 _ _ t444 a1 t447 _ ?side1 ?side2 A39.out).mono ?_); (case side1 => repeat (first | exact (Kd.R_reads' HO446.out).2.2 | (with_reducible refine Kd.C_alloc ?_ _) | (with_reducible refine Kd.C_drewN ?_ _) | (with_reducible refine Kd.C_drew ?_))); (case side2 => exact (Kd.R_reads' HO446.out).2.1); rintro e w60 ⟨v448, rfl, ho0, hb⟩; refine ⟨_, rfl, ?_⟩; have HO449 := Aside0.mk (Kd.R_lower (Kd.R_new' (Kd.R_new' (Kd.R_new' ho0 (Kd.R_lt (Hd.r_ HO_6))) (Kd.R_lt (Hd.r_ HO_8))) (Kd.R_lt (Hd.r_ HO446))) (below_size Hd.b_)); replace HO_6 := Aside0.mk (Kd.R_elder' (Hd.r_ HO_6) (Kd.R_base ho0) hb); replace HO_8 := Aside0.mk (Kd.R_elder' (Hd.r_ HO_8) (Kd.R_base ho0) hb); replace HO446 := Aside0.mk (Kd.R_elder' (Hd.r_ HO446) (Kd.R_base ho0) hb); replace HB := Aside0.mk (below_step Hd.b_ hb); (try clear hb); (try clear hb2); (try clear hk); (try clear hi); (try clear ho0); obtain ⟨Ao61, co61, eo61⟩ := Kd.R_slice HO449.out; subst eo61) | ((with_reducible refine gate_callee (f := 22) rfl ?_); refine goesL_ (some 64) rfl rfl Try.func22 (by kernel_rfl) rfl #[.slice Ao61 t447.length co61, .slice Ao23 t424.length co23] rfl Hd.m_ ?_; (with_reducible refine (laws_eqPointS.calls kj14 _ _ t447 _ _ t424 true _ ?side1 ?side2 ?side3 ?side4 A40.out).mono ?_); (case side1 => repeat (first | exact (Kd.R_reads' HO449.out).2.2 | (with_reducible refine Kd.C_alloc ?_ _) | (with_reducible refine Kd.C_drewN ?_ _) | (with_reducible refine Kd.C_drew ?_))); (case side2 => exact (Kd.R_reads' HO449.out).2.1); (case side3 => repeat (first | exact (Kd.R_reads' HO_6.out).2.2 | (with_reducible refine Kd.C_alloc ?_ _) | (with_reducible refine Kd.C_drewN ?_ _) | (with_reducible refine Kd.C_drew ?_))); (case side4 => exact (Kd.R_reads' HO_6.out).2.1); rintro e w62 ⟨rfl, hb⟩; refine ⟨_, rfl, ?_⟩; replace HO_6 := Aside0.mk (Kd.R_below (Hd.r_ HO_6) hb); replace HO_8 := Aside0.mk (Kd.R_below (Hd.r_ HO_8) hb); replace HO446 := Aside0.mk (Kd.R_below (Hd.r_ HO446) hb); replace HO449 := Aside0.mk (Kd.R_below (Hd.r_ HO449) hb); replace HB := Aside0.mk (below_step Hd.b_ hb); (try clear hb); (try clear hb2); (try clear hk); (try clear hi)) | ((with_reducible refine gate_callee (f := 30) rfl ?_); refine goesL_ (some 68) rfl rfl Try.func30 (by kernel_rfl) rfl #[.slice Ao22 t442.length co22, .int .i64 1] rfl (by (try simp only [List.map_toArray, List.map_cons, List.map_nil]); first | done | (rw [show t442.length = t430.length from (Kd.R_reads' HO_8.out).1.symm] <;> rfl) | rfl | (simp only [List.length_drop, List.length_take]; rfl)) ?_; (with_reducible refine (laws_heldPointS.calls kj14 _ _ t442 1 t451 _ ?side1 ?side2 A42.out).mono ?_); (case side1 => repeat (first | exact (Kd.R_reads' HO_8.out).2.2 | (with_reducible refine Kd.C_alloc ?_ _) | (with_reducible refine Kd.C_drewN ?_ _) | (with_reducible refine Kd.C_drew ?_))); (case side2 => rw [show t442.length = t430.length from (Kd.R_reads' HO_8.out).1.symm]; exact (Kd.R_reads' HO_8.out).2.1); rintro e w' ⟨rfl, ⟨nd, rfl⟩⟩; refine ⟨_, rfl, ?_⟩))
            go_ret
            exact ⟨Hd.e_, Hd.b_⟩
         ·
          replace c41 := Bool.eq_false_iff.mpr c41
          subst c41
          have H1 : (some false) = some r := by rw [if_neg (show ¬ (false = true) by decide)] at H; exact H
          clear H
          have H := H1
          clear H1
          obtain rfl := Option.some.inj H
          go_wp2_with (first | ((with_reducible refine gate_callee (f := 24) rfl ?_); refine goesL_ (some 49) rfl rfl Try.func24 (by kernel_rfl) rfl #[.slice Ao22 t430.length co22, .int .i64 1] rfl Hd.m_ ?_; (with_reducible refine (laws_markPointS.calls kj14 (fun k_ => some k_ = (.slice Ao22 t430.length co22 : Value).ownBlock) (.slice Ao22 t430.length co22) t430 1 t441 t442 w _ ?side1 ?side2 A33.out).mono ?_); (case side1 => repeat (first | (with_reducible first | exact HB.out | apply below_alloc | apply pw_below_drewN | apply below_drew1) | exact HB.out)); (case side2 => exact Kd.R_tight rfl HO_8.out); rintro e w63 ⟨rfl, hy0, hb, hkp⟩; refine ⟨_, rfl, ?_⟩; replace HO_6 := Aside0.mk (Kd.R_mono (ok' := fun k_ => some k_ ≠ (.slice Ao22 t430.length co22 : Value).ownBlock) (Kd.R_keptB (HO_6.out) hkp (fun k_ hk_ hs_ => (hk_) hs_)) (fun k_ hk_ => hk_.1)); replace HO_8 := Aside0.mk (Kd.R_reok rfl hy0 (fun k_ e_ => HO_8.out.1 k_ e_)); replace HB := Aside0.mk (hb); (try clear hb); (try clear hkp); (try clear hy0)) | ((with_reducible refine gate_callee (f := 30) rfl ?_); refine goesL_ (some 52) rfl rfl Try.func30 (by kernel_rfl) rfl #[.slice Ao22 t442.length co22, .int .i64 1] rfl (by (try simp only [List.map_toArray, List.map_cons, List.map_nil]); first | done | (rw [show t442.length = t430.length from (Kd.R_reads' HO_8.out).1.symm] <;> rfl) | rfl | (simp only [List.length_drop, List.length_take]; rfl)) ?_; (with_reducible refine (laws_heldPointS.calls kj14 _ _ t442 1 t443 _ ?side1 ?side2 A34.out).mono ?_); (case side1 => repeat (first | exact (Kd.R_reads' HO_8.out).2.2 | (with_reducible refine Kd.C_alloc ?_ _) | (with_reducible refine Kd.C_drewN ?_ _) | (with_reducible refine Kd.C_drew ?_))); (case side2 => rw [show t442.length = t430.length from (Kd.R_reads' HO_8.out).1.symm]; exact (Kd.R_reads' HO_8.out).2.1); rintro e w' ⟨rfl, ⟨nd, rfl⟩⟩; refine ⟨_, rfl, ?_⟩) | ((with_reducible refine gate_callee (f := 18) rfl ?_); refine goesL_ (some 59) rfl rfl Try.func18 (by kernel_rfl) rfl #[.slice A0 l0.length c0] rfl Hd.m_ ?_; (with_reducible refine (laws_toPointS.calls kj14 _ _ l0 t444 _ ?side1 ?side2 A38.out).mono ?_); (case side1 => repeat (first | exact (Kd.C_below HR0.out Hd.b_) | (with_reducible refine Kd.C_alloc ?_ _) | (with_reducible refine Kd.C_drewN ?_ _) | (with_reducible refine Kd.C_drew ?_))); (case side2 => exact HC0.out); rintro e w64 ⟨v445, rfl, ho0, hb⟩; refine ⟨_, rfl, ?_⟩; have HO446 := Aside0.mk (Kd.R_lower (Kd.R_new' (Kd.R_new' ho0 (Kd.R_lt (Hd.r_ HO_6))) (Kd.R_lt (Hd.r_ HO_8))) (below_size Hd.b_)); replace HO_6 := Aside0.mk (Kd.R_elder' (Hd.r_ HO_6) (Kd.R_base ho0) hb); replace HO_8 := Aside0.mk (Kd.R_elder' (Hd.r_ HO_8) (Kd.R_base ho0) hb); replace HB := Aside0.mk (below_step Hd.b_ hb); (try clear hb); (try clear hb2); (try clear hk); (try clear hi); (try clear ho0); obtain ⟨Ao65, co65, eo65⟩ := Kd.R_slice HO446.out; subst eo65) | ((with_reducible refine gate_callee (f := 43) rfl ?_); refine goesL_ (some 61) rfl rfl Try.func43 (by kernel_rfl) rfl #[.slice Ao65 t444.length co65, .int .i64 a1] rfl Hd.m_ ?_; (with_reducible refine (impl_SafeRing.calls kj14 _ _ t444 a1 t447 _ ?side1 ?side2 A39.out).mono ?_); (case side1 => repeat (first | exact (Kd.R_reads' HO446.out).2.2 | (with_reducible refine Kd.C_alloc ?_ _) | (with_reducible refine Kd.C_drewN ?_ _) | (with_reducible refine Kd.C_drew ?_))); (case side2 => exact (Kd.R_reads' HO446.out).2.1); rintro e w66 ⟨v448, rfl, ho0, hb⟩; refine ⟨_, rfl, ?_⟩; have HO449 := Aside0.mk (Kd.R_lower (Kd.R_new' (Kd.R_new' (Kd.R_new' ho0 (Kd.R_lt (Hd.r_ HO_6))) (Kd.R_lt (Hd.r_ HO_8))) (Kd.R_lt (Hd.r_ HO446))) (below_size Hd.b_)); replace HO_6 := Aside0.mk (Kd.R_elder' (Hd.r_ HO_6) (Kd.R_base ho0) hb); replace HO_8 := Aside0.mk (Kd.R_elder' (Hd.r_ HO_8) (Kd.R_base ho0) hb); replace HO446 := Aside0.mk (Kd.R_elder' (Hd.r_ HO446) (Kd.R_base ho0) hb); replace HB := Aside0.mk (below_step Hd.b_ hb); (try clear hb); (try clear hb2); (try clear hk); (try clear hi); (try clear ho0); obtain ⟨Ao67, co67, eo67⟩ := Kd.R_slice HO449.out; subst eo67) | ((with_reducible refine gate_callee (f := 22) rfl ?_); refine goesL_ (some 64) rfl rfl Try.func22 (by kernel_rfl) rfl #[.slice Ao67 t447.length co67, .slice Ao23 t424.length co23] rfl Hd.m_ ?_; (with_reducible refine (laws_eqPointS.calls kj14 _ _ t447 _ _ t424 false _ ?side1 ?side2 ?side3 ?side4 A40.out).mono ?_); (case side1 => repeat (first | exact (Kd.R_reads' HO449.out).2.2 | (with_reducible refine Kd.C_alloc ?_ _) | (with_reducible refine Kd.C_drewN ?_ _) | (with_reducible refine Kd.C_drew ?_))); (case side2 => exact (Kd.R_reads' HO449.out).2.1); (case side3 => repeat (first | exact (Kd.R_reads' HO_6.out).2.2 | (with_reducible refine Kd.C_alloc ?_ _) | (with_reducible refine Kd.C_drewN ?_ _) | (with_reducible refine Kd.C_drew ?_))); (case side4 => exact (Kd.R_reads' HO_6.out).2.1); rintro e w68 ⟨rfl, hb⟩; refine ⟨_, rfl, ?_⟩; replace HO_6 := Aside0.mk (Kd.R_below (Hd.r_ HO_6) hb); replace HO_8 := Aside0.mk (Kd.R_below (Hd.r_ HO_8) hb); replace HO446 := Aside0.mk (Kd.R_below (Hd.r_ HO446) hb); replace HO449 := Aside0.mk (Kd.R_below (Hd.r_ HO449) hb); replace HB := Aside0.mk (below_step Hd.b_ hb); (try clear hb); (try clear hb2); (try clear hk); (try clear hi)))
          go_ret
          exact ⟨Hd.e_, Hd.b_⟩
        ·
         rw [if_neg c37] at H
         have c37b0 : (t443 == t441) = false := beq_eq_false_iff_ne.mpr c37
         have c37b1 : (t443 != t441) = true := bne_iff_ne.mpr c37
         obtain rfl := Option.some.inj H
         go_wp2_with (first | ((with_reducible refine gate_callee (f := 24) rfl ?_); refine goesL_ (some 49) rfl rfl Try.func24 (by kernel_rfl) rfl #[.slice Ao22 t430.length co22, .int .i64 1] rfl Hd.m_ ?_; (with_reducible refine (laws_markPointS.calls kj14 (fun k_ => some k_ = (.slice Ao22 t430.length co22 : Value).ownBlock) (.slice Ao22 t430.length co22) t430 1 t441 t442 w _ ?side1 ?side2 A33.out).mono ?_); (case side1 => repeat (first | (with_reducible first | exact HB.out | apply below_alloc | apply pw_below_drewN | apply below_drew1) | exact HB.out)); (case side2 => exact Kd.R_tight rfl HO_8.out); rintro e w69 ⟨rfl, hy0, hb, hkp⟩; refine ⟨_, rfl, ?_⟩; replace HO_6 := Aside0.mk (Kd.R_mono (ok' := fun k_ => some k_ ≠ (.slice Ao22 t430.length co22 : Value).ownBlock) (Kd.R_keptB (HO_6.out) hkp (fun k_ hk_ hs_ => (hk_) hs_)) (fun k_ hk_ => hk_.1)); replace HO_8 := Aside0.mk (Kd.R_reok rfl hy0 (fun k_ e_ => HO_8.out.1 k_ e_)); replace HB := Aside0.mk (hb); (try clear hb); (try clear hkp); (try clear hy0)) | ((with_reducible refine gate_callee (f := 30) rfl ?_); refine goesL_ (some 52) rfl rfl Try.func30 (by kernel_rfl) rfl #[.slice Ao22 t442.length co22, .int .i64 1] rfl (by (try simp only [List.map_toArray, List.map_cons, List.map_nil]); first | done | (rw [show t442.length = t430.length from (Kd.R_reads' HO_8.out).1.symm] <;> rfl) | rfl | (simp only [List.length_drop, List.length_take]; rfl)) ?_; (with_reducible refine (laws_heldPointS.calls kj14 _ _ t442 1 t443 _ ?side1 ?side2 A34.out).mono ?_); (case side1 => repeat (first | exact (Kd.R_reads' HO_8.out).2.2 | (with_reducible refine Kd.C_alloc ?_ _) | (with_reducible refine Kd.C_drewN ?_ _) | (with_reducible refine Kd.C_drew ?_))); (case side2 => rw [show t442.length = t430.length from (Kd.R_reads' HO_8.out).1.symm]; exact (Kd.R_reads' HO_8.out).2.1); rintro e w' ⟨rfl, ⟨nd, rfl⟩⟩; refine ⟨_, rfl, ?_⟩))
         go_ret
         exact ⟨Hd.e_, Hd.b_⟩
   ·
    replace c13 := Bool.eq_false_iff.mpr c13
    subst c13
    have H1 : (some false) = some r := by rw [if_neg (show ¬ (false = true) by decide)] at H; exact H
    clear H
    have H := H1
    clear H1
    obtain rfl := Option.some.inj H
    go_enter Try.func10, Try.ntmps10
    go_wp2_with (first | ((with_reducible refine gate_callee (f := 15) rfl ?_); refine goesL_ (some 15) rfl rfl Try.func15 (by kernel_rfl) rfl #[.slice A0 l0.length c0, .int .i64 1048576] rfl Hd.m_ ?_; (with_reducible refine (laws_szPointS.calls _ _ l0 1048576 t420 _ ?side1 ?side2 A3.out).mono ?_); (case side1 => repeat (first | exact HR0.out | (with_reducible refine Kd.C_alloc ?_ _) | (with_reducible refine Kd.C_drewN ?_ _) | (with_reducible refine Kd.C_drew ?_))); (case side2 => exact HC0.out); rintro e w' ⟨rfl, ⟨nd, rfl⟩⟩; refine ⟨_, rfl, ?_⟩) | ((with_reducible refine gate_callee (f := 18) rfl ?_); refine goesL_ (some 19) rfl rfl Try.func18 (by kernel_rfl) rfl #[.slice A0 l0.length c0] rfl Hd.m_ ?_; (with_reducible refine (laws_toPointS.calls k _ _ l0 t421 _ ?side1 ?side2 A5.out).mono ?_); (case side1 => repeat (first | exact HR0.out | (with_reducible refine Kd.C_alloc ?_ _) | (with_reducible refine Kd.C_drewN ?_ _) | (with_reducible refine Kd.C_drew ?_))); (case side2 => exact HC0.out); rintro e w70 ⟨v422, rfl, ho0, hb⟩; refine ⟨_, rfl, ?_⟩; have HO423 := Aside0.mk (Kd.R_lower ho0 (below_size Hd.b_)); replace HB := Aside0.mk (below_step Hd.b_ hb); (try clear hb); (try clear hb2); (try clear hk); (try clear hi); (try clear ho0); obtain ⟨Ao71, co71, eo71⟩ := Kd.R_slice HO423.out; subst eo71) | ((with_reducible refine gate_callee (f := 63) rfl ?_); refine goesL_ (some 21) rfl rfl Try.func63 (by kernel_rfl) rfl #[.slice Ao71 t421.length co71, .int .i64 a1] rfl Hd.m_ ?_; (with_reducible refine (spec_SafeRing.calls k _ _ t421 a1 t424 _ ?side1 ?side2 A6.out).mono ?_); (case side1 => repeat (first | exact (Kd.R_reads' HO423.out).2.2 | (with_reducible refine Kd.C_alloc ?_ _) | (with_reducible refine Kd.C_drewN ?_ _) | (with_reducible refine Kd.C_drew ?_))); (case side2 => exact (Kd.R_reads' HO423.out).2.1); rintro e w72 ⟨v425, rfl, ho0, hb⟩; refine ⟨_, rfl, ?_⟩; have HO426 := Aside0.mk (Kd.R_lower (Kd.R_new' ho0 (Kd.R_lt (Hd.r_ HO423))) (below_size Hd.b_)); replace HO423 := Aside0.mk (Kd.R_elder' (Hd.r_ HO423) (Kd.R_base ho0) hb); replace HB := Aside0.mk (below_step Hd.b_ hb); (try clear hb); (try clear hb2); (try clear hk); (try clear hi); (try clear ho0)) | ((with_reducible refine gate_callee (f := 18) rfl ?_); refine goesL_ (some 23) rfl rfl Try.func18 (by kernel_rfl) rfl #[.slice A0 l0.length c0] rfl Hd.m_ ?_; (with_reducible refine (laws_toPointS.calls k _ _ l0 t427 _ ?side1 ?side2 A7.out).mono ?_); (case side1 => repeat (first | exact (Kd.C_below HR0.out HB.out) | (with_reducible refine Kd.C_alloc ?_ _) | (with_reducible refine Kd.C_drewN ?_ _) | (with_reducible refine Kd.C_drew ?_))); (case side2 => exact HC0.out); rintro e w73 ⟨v428, rfl, ho0, hb⟩; refine ⟨_, rfl, ?_⟩; have HO429 := Aside0.mk (Kd.R_lower (Kd.R_new' (Kd.R_new' ho0 (Kd.R_lt (Hd.r_ HO423))) (Kd.R_lt (Hd.r_ HO426))) (below_size Hd.b_)); replace HO423 := Aside0.mk (Kd.R_elder' (Hd.r_ HO423) (Kd.R_base ho0) hb); replace HO426 := Aside0.mk (Kd.R_elder' (Hd.r_ HO426) (Kd.R_base ho0) hb); replace HB := Aside0.mk (below_step Hd.b_ hb); (try clear hb); (try clear hb2); (try clear hk); (try clear hi); (try clear ho0); obtain ⟨Ao74, co74, eo74⟩ := Kd.R_slice HO429.out; subst eo74) | ((with_reducible refine gate_callee (f := 43) rfl ?_); refine goesL_ (some 26) rfl rfl Try.func43 (by kernel_rfl) rfl #[.slice Ao74 t427.length co74, .int .i64 a1] rfl Hd.m_ ?_; (with_reducible refine (impl_SafeRing.calls k _ _ t427 a1 t430 _ ?side1 ?side2 A8.out).mono ?_); (case side1 => repeat (first | exact (Kd.R_reads' HO429.out).2.2 | (with_reducible refine Kd.C_alloc ?_ _) | (with_reducible refine Kd.C_drewN ?_ _) | (with_reducible refine Kd.C_drew ?_))); (case side2 => exact (Kd.R_reads' HO429.out).2.1); rintro e w75 ⟨v431, rfl, ho0, hb⟩; refine ⟨_, rfl, ?_⟩; have HO432 := Aside0.mk (Kd.R_lower (Kd.R_new' (Kd.R_new' (Kd.R_new' ho0 (Kd.R_lt (Hd.r_ HO423))) (Kd.R_lt (Hd.r_ HO426))) (Kd.R_lt (Hd.r_ HO429))) (below_size Hd.b_)); replace HO423 := Aside0.mk (Kd.R_elder' (Hd.r_ HO423) (Kd.R_base ho0) hb); replace HO426 := Aside0.mk (Kd.R_elder' (Hd.r_ HO426) (Kd.R_base ho0) hb); replace HO429 := Aside0.mk (Kd.R_elder' (Hd.r_ HO429) (Kd.R_base ho0) hb); replace HB := Aside0.mk (below_step Hd.b_ hb); (try clear hb); (try clear hb2); (try clear hk); (try clear hi); (try clear ho0); obtain ⟨Ao76, co76, eo76⟩ := Kd.R_slice HO432.out; subst eo76; obtain ⟨Ao77, co77, eo77⟩ := Kd.R_slice HO426.out; subst eo77) | ((with_reducible refine gate_callee (f := 22) rfl ?_); refine goesL_ (some 29) rfl rfl Try.func22 (by kernel_rfl) rfl #[.slice Ao76 t430.length co76, .slice Ao77 t424.length co77] rfl Hd.m_ ?_; (with_reducible refine (laws_eqPointS.calls k _ _ t430 _ _ t424 true _ ?side1 ?side2 ?side3 ?side4 A9.out).mono ?_); (case side1 => repeat (first | exact (Kd.R_reads' HO432.out).2.2 | (with_reducible refine Kd.C_alloc ?_ _) | (with_reducible refine Kd.C_drewN ?_ _) | (with_reducible refine Kd.C_drew ?_))); (case side2 => exact (Kd.R_reads' HO432.out).2.1); (case side3 => repeat (first | exact (Kd.R_reads' HO426.out).2.2 | (with_reducible refine Kd.C_alloc ?_ _) | (with_reducible refine Kd.C_drewN ?_ _) | (with_reducible refine Kd.C_drew ?_))); (case side4 => exact (Kd.R_reads' HO426.out).2.1); rintro e w78 ⟨rfl, hb⟩; refine ⟨_, rfl, ?_⟩; replace HO423 := Aside0.mk (Kd.R_below (Hd.r_ HO423) hb); replace HO426 := Aside0.mk (Kd.R_below (Hd.r_ HO426) hb); replace HO429 := Aside0.mk (Kd.R_below (Hd.r_ HO429) hb); replace HO432 := Aside0.mk (Kd.R_below (Hd.r_ HO432) hb); replace HB := Aside0.mk (below_step Hd.b_ hb); (try clear hb); (try clear hb2); (try clear hk); (try clear hi)) | ((with_reducible refine gate_callee (f := 18) rfl ?_); refine goesL_ (some 33) rfl rfl Try.func18 (by kernel_rfl) rfl #[.slice A0 l0.length c0] rfl Hd.m_ ?_; (with_reducible refine (laws_toPointS.calls k _ _ l0 t434 _ ?side1 ?side2 A11.out).mono ?_); (case side1 => repeat (first | exact (Kd.C_below HR0.out HB.out) | (with_reducible refine Kd.C_alloc ?_ _) | (with_reducible refine Kd.C_drewN ?_ _) | (with_reducible refine Kd.C_drew ?_))); (case side2 => exact HC0.out); rintro e w79 ⟨v435, rfl, ho0, hb⟩; refine ⟨_, rfl, ?_⟩; have HO436 := Aside0.mk (Kd.R_lower (Kd.R_new' (Kd.R_new' (Kd.R_new' (Kd.R_new' ho0 (Kd.R_lt (Hd.r_ HO423))) (Kd.R_lt (Hd.r_ HO426))) (Kd.R_lt (Hd.r_ HO429))) (Kd.R_lt (Hd.r_ HO432))) (below_size Hd.b_)); replace HO423 := Aside0.mk (Kd.R_elder' (Hd.r_ HO423) (Kd.R_base ho0) hb); replace HO426 := Aside0.mk (Kd.R_elder' (Hd.r_ HO426) (Kd.R_base ho0) hb); replace HO429 := Aside0.mk (Kd.R_elder' (Hd.r_ HO429) (Kd.R_base ho0) hb); replace HO432 := Aside0.mk (Kd.R_elder' (Hd.r_ HO432) (Kd.R_base ho0) hb); replace HB := Aside0.mk (below_step Hd.b_ hb); (try clear hb); (try clear hb2); (try clear hk); (try clear hi); (try clear ho0); obtain ⟨Ao80, co80, eo80⟩ := Kd.R_slice HO436.out; subst eo80) | ((with_reducible refine gate_callee (f := 22) rfl ?_); refine goesL_ (some 34) rfl rfl Try.func22 (by kernel_rfl) rfl #[.slice Ao74 t427.length co74, .slice Ao80 t434.length co80] rfl Hd.m_ ?_; (with_reducible refine (laws_eqPointS.calls k _ _ t427 _ _ t434 false _ ?side1 ?side2 ?side3 ?side4 A12.out).mono ?_); (case side1 => repeat (first | exact (Kd.R_reads' HO429.out).2.2 | (with_reducible refine Kd.C_alloc ?_ _) | (with_reducible refine Kd.C_drewN ?_ _) | (with_reducible refine Kd.C_drew ?_))); (case side2 => exact (Kd.R_reads' HO429.out).2.1); (case side3 => repeat (first | exact (Kd.R_reads' HO436.out).2.2 | (with_reducible refine Kd.C_alloc ?_ _) | (with_reducible refine Kd.C_drewN ?_ _) | (with_reducible refine Kd.C_drew ?_))); (case side4 => exact (Kd.R_reads' HO436.out).2.1); rintro e w81 ⟨rfl, hb⟩; refine ⟨_, rfl, ?_⟩; replace HO423 := Aside0.mk (Kd.R_below (Hd.r_ HO423) hb); replace HO426 := Aside0.mk (Kd.R_below (Hd.r_ HO426) hb); replace HO429 := Aside0.mk (Kd.R_below (Hd.r_ HO429) hb); replace HO432 := Aside0.mk (Kd.R_below (Hd.r_ HO432) hb); replace HO436 := Aside0.mk (Kd.R_below (Hd.r_ HO436) hb); replace HB := Aside0.mk (below_step Hd.b_ hb); (try clear hb); (try clear hb2); (try clear hk); (try clear hi)))
    go_ret
    exact ⟨Hd.e_, Hd.b_⟩
  ·
   replace c10 := Bool.eq_false_iff.mpr c10
   subst c10
   have H1 : (some false) = some r := by rw [if_neg (show ¬ (false = true) by decide)] at H; exact H
   clear H
   have H := H1
   clear H1
   obtain rfl := Option.some.inj H
   go_enter Try.func10, Try.ntmps10
   go_wp2_with (first | ((with_reducible refine gate_callee (f := 15) rfl ?_); refine goesL_ (some 15) rfl rfl Try.func15 (by kernel_rfl) rfl #[.slice A0 l0.length c0, .int .i64 1048576] rfl Hd.m_ ?_; (with_reducible refine (laws_szPointS.calls _ _ l0 1048576 t420 _ ?side1 ?side2 A3.out).mono ?_); (case side1 => repeat (first | exact HR0.out | (with_reducible refine Kd.C_alloc ?_ _) | (with_reducible refine Kd.C_drewN ?_ _) | (with_reducible refine Kd.C_drew ?_))); (case side2 => exact HC0.out); rintro e w' ⟨rfl, ⟨nd, rfl⟩⟩; refine ⟨_, rfl, ?_⟩) | ((with_reducible refine gate_callee (f := 18) rfl ?_); refine goesL_ (some 19) rfl rfl Try.func18 (by kernel_rfl) rfl #[.slice A0 l0.length c0] rfl Hd.m_ ?_; (with_reducible refine (laws_toPointS.calls k _ _ l0 t421 _ ?side1 ?side2 A5.out).mono ?_); (case side1 => repeat (first | exact HR0.out | (with_reducible refine Kd.C_alloc ?_ _) | (with_reducible refine Kd.C_drewN ?_ _) | (with_reducible refine Kd.C_drew ?_))); (case side2 => exact HC0.out); rintro e w82 ⟨v422, rfl, ho0, hb⟩; refine ⟨_, rfl, ?_⟩; have HO423 := Aside0.mk (Kd.R_lower ho0 (below_size Hd.b_)); replace HB := Aside0.mk (below_step Hd.b_ hb); (try clear hb); (try clear hb2); (try clear hk); (try clear hi); (try clear ho0); obtain ⟨Ao83, co83, eo83⟩ := Kd.R_slice HO423.out; subst eo83) | ((with_reducible refine gate_callee (f := 63) rfl ?_); refine goesL_ (some 21) rfl rfl Try.func63 (by kernel_rfl) rfl #[.slice Ao83 t421.length co83, .int .i64 a1] rfl Hd.m_ ?_; (with_reducible refine (spec_SafeRing.calls k _ _ t421 a1 t424 _ ?side1 ?side2 A6.out).mono ?_); (case side1 => repeat (first | exact (Kd.R_reads' HO423.out).2.2 | (with_reducible refine Kd.C_alloc ?_ _) | (with_reducible refine Kd.C_drewN ?_ _) | (with_reducible refine Kd.C_drew ?_))); (case side2 => exact (Kd.R_reads' HO423.out).2.1); rintro e w84 ⟨v425, rfl, ho0, hb⟩; refine ⟨_, rfl, ?_⟩; have HO426 := Aside0.mk (Kd.R_lower (Kd.R_new' ho0 (Kd.R_lt (Hd.r_ HO423))) (below_size Hd.b_)); replace HO423 := Aside0.mk (Kd.R_elder' (Hd.r_ HO423) (Kd.R_base ho0) hb); replace HB := Aside0.mk (below_step Hd.b_ hb); (try clear hb); (try clear hb2); (try clear hk); (try clear hi); (try clear ho0)) | ((with_reducible refine gate_callee (f := 18) rfl ?_); refine goesL_ (some 23) rfl rfl Try.func18 (by kernel_rfl) rfl #[.slice A0 l0.length c0] rfl Hd.m_ ?_; (with_reducible refine (laws_toPointS.calls k _ _ l0 t427 _ ?side1 ?side2 A7.out).mono ?_); (case side1 => repeat (first | exact (Kd.C_below HR0.out HB.out) | (with_reducible refine Kd.C_alloc ?_ _) | (with_reducible refine Kd.C_drewN ?_ _) | (with_reducible refine Kd.C_drew ?_))); (case side2 => exact HC0.out); rintro e w85 ⟨v428, rfl, ho0, hb⟩; refine ⟨_, rfl, ?_⟩; have HO429 := Aside0.mk (Kd.R_lower (Kd.R_new' (Kd.R_new' ho0 (Kd.R_lt (Hd.r_ HO423))) (Kd.R_lt (Hd.r_ HO426))) (below_size Hd.b_)); replace HO423 := Aside0.mk (Kd.R_elder' (Hd.r_ HO423) (Kd.R_base ho0) hb); replace HO426 := Aside0.mk (Kd.R_elder' (Hd.r_ HO426) (Kd.R_base ho0) hb); replace HB := Aside0.mk (below_step Hd.b_ hb); (try clear hb); (try clear hb2); (try clear hk); (try clear hi); (try clear ho0); obtain ⟨Ao86, co86, eo86⟩ := Kd.R_slice HO429.out; subst eo86) | ((with_reducible refine gate_callee (f := 43) rfl ?_); refine goesL_ (some 26) rfl rfl Try.func43 (by kernel_rfl) rfl #[.slice Ao86 t427.length co86, .int .i64 a1] rfl Hd.m_ ?_; (with_reducible refine (impl_SafeRing.calls k _ _ t427 a1 t430 _ ?side1 ?side2 A8.out).mono ?_); (case side1 => repeat (first | exact (Kd.R_reads' HO429.out).2.2 | (with_reducible refine Kd.C_alloc ?_ _) | (with_reducible refine Kd.C_drewN ?_ _) | (with_reducible refine Kd.C_drew ?_))); (case side2 => exact (Kd.R_reads' HO429.out).2.1); rintro e w87 ⟨v431, rfl, ho0, hb⟩; refine ⟨_, rfl, ?_⟩; have HO432 := Aside0.mk (Kd.R_lower (Kd.R_new' (Kd.R_new' (Kd.R_new' ho0 (Kd.R_lt (Hd.r_ HO423))) (Kd.R_lt (Hd.r_ HO426))) (Kd.R_lt (Hd.r_ HO429))) (below_size Hd.b_)); replace HO423 := Aside0.mk (Kd.R_elder' (Hd.r_ HO423) (Kd.R_base ho0) hb); replace HO426 := Aside0.mk (Kd.R_elder' (Hd.r_ HO426) (Kd.R_base ho0) hb); replace HO429 := Aside0.mk (Kd.R_elder' (Hd.r_ HO429) (Kd.R_base ho0) hb); replace HB := Aside0.mk (below_step Hd.b_ hb); (try clear hb); (try clear hb2); (try clear hk); (try clear hi); (try clear ho0); obtain ⟨Ao88, co88, eo88⟩ := Kd.R_slice HO432.out; subst eo88; obtain ⟨Ao89, co89, eo89⟩ := Kd.R_slice HO426.out; subst eo89) | ((with_reducible refine gate_callee (f := 22) rfl ?_); refine goesL_ (some 29) rfl rfl Try.func22 (by kernel_rfl) rfl #[.slice Ao88 t430.length co88, .slice Ao89 t424.length co89] rfl Hd.m_ ?_; (with_reducible refine (laws_eqPointS.calls k _ _ t430 _ _ t424 false _ ?side1 ?side2 ?side3 ?side4 A9.out).mono ?_); (case side1 => repeat (first | exact (Kd.R_reads' HO432.out).2.2 | (with_reducible refine Kd.C_alloc ?_ _) | (with_reducible refine Kd.C_drewN ?_ _) | (with_reducible refine Kd.C_drew ?_))); (case side2 => exact (Kd.R_reads' HO432.out).2.1); (case side3 => repeat (first | exact (Kd.R_reads' HO426.out).2.2 | (with_reducible refine Kd.C_alloc ?_ _) | (with_reducible refine Kd.C_drewN ?_ _) | (with_reducible refine Kd.C_drew ?_))); (case side4 => exact (Kd.R_reads' HO426.out).2.1); rintro e w90 ⟨rfl, hb⟩; refine ⟨_, rfl, ?_⟩; replace HO423 := Aside0.mk (Kd.R_below (Hd.r_ HO423) hb); replace HO426 := Aside0.mk (Kd.R_below (Hd.r_ HO426) hb); replace HO429 := Aside0.mk (Kd.R_below (Hd.r_ HO429) hb); replace HO432 := Aside0.mk (Kd.R_below (Hd.r_ HO432) hb); replace HB := Aside0.mk (below_step Hd.b_ hb); (try clear hb); (try clear hb2); (try clear hk); (try clear hi)))
   go_ret
   exact ⟨Hd.e_, Hd.b_⟩
end Go.Proofs.Ytchmbcembbbplac.MFnExactSafeRing
