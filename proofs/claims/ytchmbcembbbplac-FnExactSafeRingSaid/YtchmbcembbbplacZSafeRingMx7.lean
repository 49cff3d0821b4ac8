-- Laid by this session's program pp.py, after the kit's print and texts of the session's own. Not trusted: Lean checks it.
import Derived.Test.YtchmbcembbbplacZSafeRingMx0
import Derived.Test.YtchmbcembbbplacZSafeRingMx1
import Derived.Test.YtchmbcembbbplacZSafeRingMx5
import Derived.Test.YtchmbcembbbplacZSafeRingMx6
namespace Go.Proofs.Ytchmbcembbbplac.MFnExactSafeRing
open Go.RowKit Go.Proofs.YtchmbcembbbplacW.PrintWords Go.Proofs.YtchmbcembbbplacW.PrintLast Go.Proofs.YtchmbcembbbplacW.PrintMore
attribute [local go_sem] max2_int min2_int max_two min_two max_three min_three max_four min_four   -- for this text's walks alone
set_option linter.unusedVariables false
set_option linter.unusedSimpArgs false
attribute [local go_sem high] eqA49
mutual
def impl_SafeRing.l0 : Nat → Int → List (S49) → Option ((List (S49)))
 | 0, _, _ => none
 | k + 1, x1, x5 => impl_SafeRing.l1 k x1 x5 (-1) (([] : List (S49))) (x5.length : Int) 0
def impl_SafeRing.l1 : Nat → Int → List (S49) → Int → List (S49) → Int → Int → Option ((List (S49)))
 | 0, _, _, _, _, _, _ => none
 | k + 1, x1, x5, x6, x7, x20, x21 => if x21 < x20 then ((impl_CornerSize.f k x5 x21).bind fun t257 => (if t257 < x1 then (if x6 < 0 then (impl_SafeRing.j2 k x1 x5 x6 x7 x21 x20 x21 true) else ((impl_CornerSize.f k x5 x6).bind fun t258 => (impl_SafeRing.j2 k x1 x5 x6 x7 x21 x20 x21 (decide (t257 < t258))))) else (impl_SafeRing.j2 k x1 x5 x6 x7 x21 x20 x21 false))) else (if x6 < 0 then (some x5) else (impl_SafeRing.l0 k x1 x7))
def impl_SafeRing.j2 : Nat → Int → List (S49) → Int → List (S49) → Int → Int → Int → Bool → Option ((List (S49)))
 | 0, _, _, _, _, _, _, _, _ => none
 | k + 1, x1, x5, x6, x7, x8, x20, x21, x40 => if x40 = true then ((impl_DropCorner.f k x5 x8).bind fun bt259 => (if bt259.2 = true then (impl_SafeRing.l1 k x1 x5 x8 bt259.1 x20 (wrap64 (x21 + 1))) else (impl_SafeRing.l1 k x1 x5 x6 x7 x20 (wrap64 (x21 + 1))))) else (impl_SafeRing.l1 k x1 x5 x6 x7 x20 (wrap64 (x21 + 1)))
end
def impl_SafeRing.f (k : Nat) (l0 : List (S49)) (a1 : Int) : Option ((List (S49))) := (impl_Point_86.f l0).bind fun t250 => ((impl_IsRing.f k l0).bind fun t253 => (if t253 = true then (impl_SafeRing.l0 k a1 t250) else (some t250)))
set_option maxHeartbeats 8000000 in
set_option maxRecDepth 100000 in
theorem impl_SafeRing.calls (k : Nat) (A0 : Option Addr) (c0 : Nat) (l0 : List (S49)) (a1 : Int) (r : List (S49)) (w : World) (hr0 : Kd.C k49 w A0 l0.length l0) (hc0 : l0.length ≤ c0) (h : impl_SafeRing.f k l0 a1 = some r) :
  Calls Try.prog 43 #[.slice A0 l0.length c0, .int .i64 a1] w fun e w' => ∃ v0_ : Value, e = .returned (v0_) ∧ Kd.R k49 49 w' w.heap.size (fun _ => True) v0_ r ∧ Below w.heap.size w w' := by
 have HR0 := Aside0.mk hr0
 have HC0 := Aside0.mk hc0
 clear hr0 hc0
 have HB := Aside0.mk (Below.refl w.heap.size w)
 have H : ((impl_Point_86.f l0).bind fun t250 => ((impl_IsRing.f k l0).bind fun t253 => (if t253 = true then (impl_SafeRing.l0 k a1 t250) else (some t250)))) = some r := h
 clear h
 replace H := Option.bind_eq_some_iff.mp H
 obtain ⟨t250, A30, H⟩ := H
 replace H : ((impl_IsRing.f k l0).bind fun t253 => (if t253 = true then (impl_SafeRing.l0 k a1 t250) else (some t250))) = some r := H
 have A3 := Aside0.mk A30
 clear A30
 replace H := Option.bind_eq_some_iff.mp H
 obtain ⟨t253, A40, H⟩ := H
 replace H : (if t253 = true then (impl_SafeRing.l0 k a1 t250) else (some t250)) = some r := H
 have A4 := Aside0.mk A40
 clear A40
 by_cases c5 : t253 = true
 ·
  subst c5
  have H1 : (impl_SafeRing.l0 k a1 t250) = some r := by rw [if_pos rfl] at H; exact H
  clear H
  have H := H1
  clear H1
  have H' := Aside0.mk H
  clear H
  go_enter Try.func43, Try.ntmps43
  go_wp2_with (first | ((with_reducible refine gate_callee (f := 86) rfl ?_); refine goesL_ (some 13) rfl rfl Try.func86 (by kernel_rfl) rfl #[.slice A0 l0.length c0] rfl Hd.m_ ?_; (with_reducible refine (impl_Point_86.calls _ _ l0 t250 _ ?side1 ?side2 A3.out).mono ?_); (case side1 => repeat (first | exact HR0.out | (with_reducible refine Kd.C_alloc ?_ _) | (with_reducible refine Kd.C_drewN ?_ _) | (with_reducible refine Kd.C_drew ?_))); (case side2 => exact HC0.out); rintro e w6 ⟨v251, rfl, ho0, hb⟩; refine ⟨_, rfl, ?_⟩; have HO252 := Aside0.mk (Kd.R_lower ho0 (below_size Hd.b_)); replace HB := Aside0.mk (below_step Hd.b_ hb); (try clear hb); (try clear hb2); (try clear hk); (try clear hi); (try clear ho0)) | ((with_reducible refine gate_callee (f := 44) rfl ?_); refine goesL_ (some 15) rfl rfl Try.func44 (by kernel_rfl) rfl #[.slice A0 l0.length c0] rfl Hd.m_ ?_; (with_reducible refine (impl_IsRing.calls k _ _ l0 true _ ?side1 ?side2 A4.out).mono ?_); (case side1 => repeat (first | exact (Kd.C_below HR0.out HB.out) | (with_reducible refine Kd.C_alloc ?_ _) | (with_reducible refine Kd.C_drewN ?_ _) | (with_reducible refine Kd.C_drew ?_))); (case side2 => exact HC0.out); rintro e w7 ⟨rfl, hb⟩; refine ⟨_, rfl, ?_⟩; replace HO252 := Aside0.mk (Kd.R_below (Hd.r_ HO252) hb); replace HB := Aside0.mk (below_step Hd.b_ hb); (try clear hb); (try clear hb2); (try clear hk); (try clear hi)))
  go_loopg [5] k (fun kq v5 w' => ∃ (x5_1 : List (S49)), Aside0 (impl_SafeRing.l0 kq a1 x5_1 = some r) ∧ Aside0 (kq ≤ k) ∧ Aside0 (Kd.R k49 49 w' w.heap.size (fun _ => True) v5 x5_1) ∧ Aside0 (Below w.heap.size w w'))
  case atStart => exact ⟨(t250), H', ⟨Nat.le_refl _⟩, ⟨by (with_reducible repeat (first | apply Kd.R_alloc | apply Kd.R_drewN | apply Kd.R_drew)); exact HO252.out⟩, ⟨Hd.b_⟩⟩
  case round =>
   clear H'
   try clear p2
   try clear c4
   try clear c5
   obtain ⟨x5_1, HA, HK1, HO_5, HB⟩ := hrel
   cases gk with
   | zero => exact absurd HA.out (by simp [impl_SafeRing.l0])
   | succ k1 =>
    have H := HA.out
    clear HA
    simp only [impl_SafeRing.l0] at H
    obtain ⟨y254, hy254⟩ : ∃ y_ : List (S49), y_ = (([] : List (S49))) := ⟨_, rfl⟩
    replace H : (impl_SafeRing.l1 k1 a1 x5_1 (-1) y254 (x5_1.length : Int) 0) = some r := by first | (rw [hy254]; with_reducible exact H) | (have H2_ := (Option.bind_some _ _).symm.trans H; rw [hy254]; with_reducible exact H2_) | (have H2_ := (Option.bind_some _ _).symm.trans H; with_reducible exact H2_) | with_reducible exact H | (rw [hy254]; exact H) | exact H
    have Ny254 := Aside0.mk hy254
    clear hy254
    have H' := Aside0.mk H
    clear H
    go_wp2_with (first | ((with_reducible refine gate_dst (N := 18) rfl ?_); refine Kd.R_lit k49 _ 49 ?hg (N := 18) ?hd (xs := ([] : List (S49))) (inner := []) (ok := fun _ => True) (okp := fun _ => True) ?hr ?hp (fun _ hk => hk) trivial (Below.refl _ _) (Nat.le_refl _) (by simp) ?_; (case hd => rfl); (case hg => rfl); (case hr => first | (go_simp; done) | (go_simp; rfl)); (case hp => exact (Reps.none _ _)); intro v255 w8 ho9 hb hg_ hnew_; clear hg_ hnew_; (first | rw [← Ny254.out] at ho9 | (simp only [Int.reduceToNat] at ho9; rw [← Ny254.out] at ho9)); have HO256 := Aside0.mk (Kd.R_lower (Kd.R_new' ho9 (Kd.R_lt (Hd.r_ HO_5))) (below_size Hd.b_)); replace HO_5 := Aside0.mk (Kd.R_elder' (Hd.r_ HO_5) (Kd.R_base ho9) hb); replace HB := Aside0.mk (below_step Hd.b_ hb); clear hb ho9; obtain ⟨Ao10, co10, eo10⟩ := Kd.R_slice HO_5.out; subst eo10))
    go_loopg [6, 7, 21] k1 (fun kq v6 v7 v21 w' => ∃ (x6_2 : Int) (x7_2 : List (S49)) (x21_2 : Int), v6 = .int .i64 x6_2 ∧ v21 = .int .i64 x21_2 ∧ Aside0 (impl_SafeRing.l1 kq a1 x5_1 x6_2 x7_2 (x5_1.length : Int) x21_2 = some r) ∧ Aside0 (kq ≤ k1) ∧ Aside0 (Kd.R k49 49 w' w.heap.size (fun k_ => some k_ ≠ (v7 : Value).ownBlock) (.slice Ao10 x5_1.length co10) x5_1) ∧ Aside0 (Kd.R k49 49 w' w.heap.size (fun k_ => some k_ ≠ ((.slice Ao10 x5_1.length co10) : Value).ownBlock) v7 x7_2) ∧ Aside0 (Below w.heap.size w w'))
    case atStart => exact ⟨((-1)), (y254), (0), (by first | rfl | (simp; done) | (simp [*]; done)), (by first | rfl | (simp; done) | (simp [*]; done)), H', ⟨Nat.le_refl _⟩, ⟨by (with_reducible repeat (first | apply Kd.R_alloc | apply Kd.R_drewN | apply Kd.R_drew)); exact Kd.R_mono HO_5.out (fun _ hk => hk.2)⟩, ⟨by (with_reducible repeat (first | apply Kd.R_alloc | apply Kd.R_drewN | apply Kd.R_drew)); exact Kd.R_mono HO256.out (fun _ hk => hk.2)⟩, ⟨Hd.b_⟩⟩
    case round =>
     clear H'
     try clear p2
     try clear c4
     try clear c5
     try clear c8
     try clear p2
     obtain ⟨x6_2, x7_2, x21_2, rfl, rfl, HA, HK2, HO_5, HO_7, HB⟩ := hrel
     cases gk with
     | zero => exact absurd HA.out (by simp [impl_SafeRing.l1])
     | succ k2 =>
      have H := HA.out
      clear HA
      simp only [impl_SafeRing.l1] at H
      by_cases c11 : x21_2 < (x5_1.length : Int)
      ·
       rw [if_pos c11] at H
       have c11b0 : decide (x21_2 < (x5_1.length : Int)) = true := decide_eq_true c11
       clear c11
       replace H := Option.bind_eq_some_iff.mp H
       obtain ⟨t257, A120, H⟩ := H
       replace H : (if t257 < a1 then (if x6_2 < 0 then (impl_SafeRing.j2 k2 a1 x5_1 x6_2 x7_2 x21_2 (x5_1.length : Int) x21_2 true) else ((impl_CornerSize.f k2 x5_1 x6_2).bind fun t258 => (impl_SafeRing.j2 k2 a1 x5_1 x6_2 x7_2 x21_2 (x5_1.length : Int) x21_2 (decide (t257 < t258))))) else (impl_SafeRing.j2 k2 a1 x5_1 x6_2 x7_2 x21_2 (x5_1.length : Int) x21_2 false)) = some r := H
       have A12 := Aside0.mk A120
       clear A120
       have HC13 := Aside0.mk H
       clear H
       go_upto_region 10 with (first | ((with_reducible refine gate_callee (f := 46) rfl ?_); refine goesL_ (some 26) rfl rfl Try.func46 (by kernel_rfl) rfl #[.slice Ao10 x5_1.length co10, .int .i64 x21_2] rfl Hd.m_ ?_; (with_reducible refine (impl_CornerSize.calls k2 _ _ x5_1 x21_2 t257 _ ?side1 ?side2 A12.out).mono ?_); (case side1 => repeat (first | exact (Kd.R_reads' HO_5.out).2.2 | (with_reducible refine Kd.C_alloc ?_ _) | (with_reducible refine Kd.C_drewN ?_ _) | (with_reducible refine Kd.C_drew ?_))); (case side2 => exact (Kd.R_reads' HO_5.out).2.1); rintro e w14 ⟨rfl, hb⟩; refine ⟨_, rfl, ?_⟩; replace HO_5 := Aside0.mk (Kd.R_below (Hd.r_ HO_5) hb); replace HO_7 := Aside0.mk (Kd.R_below (Hd.r_ HO_7) hb); replace HB := Aside0.mk (below_step Hd.b_ hb); (try clear hb); (try clear hb2); (try clear hk); (try clear hi)))
       (try simp only [Act.put, List.setIfInBounds_toArray, List.set_cons_zero, List.set_cons_succ])
       go_cut [40] (fun v40 wc => ∃ (kq : Nat) (x40_12 : Bool), v40 = .bool x40_12 ∧ Aside0 (impl_SafeRing.j2 kq a1 x5_1 x6_2 x7_2 x21_2 (x5_1.length : Int) x21_2 x40_12 = some r) ∧ Aside0 (kq ≤ k2) ∧ Aside0 (Kd.R k49 49 wc w.heap.size (fun k_ => some k_ ≠ (u7 : Value).ownBlock) (.slice Ao10 x5_1.length co10) x5_1) ∧ Aside0 (Kd.R k49 49 wc w.heap.size (fun k_ => some k_ ≠ ((.slice Ao10 x5_1.length co10) : Value).ownBlock) u7 x7_2) ∧ Aside0 (Below w.heap.size w wc))
       case first =>
        have H := HC13.out
        clear HC13
        by_cases c15 : t257 < a1
        ·
         rw [if_pos c15] at H
         have c15b0 : decide (t257 < a1) = true := decide_eq_true c15
         clear c15
         (first | rw [c15b0] | (simp only [i64_w, i32_w]; rw [c15b0]) | skip)
         by_cases c16 : x6_2 < 0
         ·
          rw [if_pos c16] at H
          have c16b0 : decide (x6_2 < 0) = true := decide_eq_true c16
          clear c16
          have H' := Aside0.mk H
          clear H
          go_wp2
          go_meet
          case rel => exact ⟨_, (true), (by first | rfl | (simp; done) | (simp [*]; done)), H', ⟨by have := HK1.out; have := HK2.out; first | omega | exact Nat.le_refl _⟩, ⟨by (with_reducible repeat (first | apply Kd.R_alloc | apply Kd.R_drewN | apply Kd.R_drew)); exact HO_5.out⟩, ⟨by (with_reducible repeat (first | apply Kd.R_alloc | apply Kd.R_drewN | apply Kd.R_drew)); exact HO_7.out⟩, ⟨Hd.b_⟩⟩
         ·
          rw [if_neg c16] at H
          have c16b0 : decide (x6_2 < 0) = false := decide_eq_false c16
          clear c16
          replace H := Option.bind_eq_some_iff.mp H
          obtain ⟨t258, A170, H⟩ := H
          replace H : (impl_SafeRing.j2 k2 a1 x5_1 x6_2 x7_2 x21_2 (x5_1.length : Int) x21_2 (decide (t257 < t258))) = some r := H
          have A17 := Aside0.mk A170
          clear A170
          have H' := Aside0.mk H
          clear H
          go_wp2_with (first | (go_at_call 46; (with_reducible refine (impl_CornerSize.calls k2 _ _ x5_1 x6_2 t258 _ ?side1 ?side2 A17.out).mono ?_); (case side1 => repeat (first | exact (Kd.R_reads' HO_5.out).2.2 | (with_reducible refine Kd.C_alloc ?_ _) | (with_reducible refine Kd.C_drewN ?_ _) | (with_reducible refine Kd.C_drew ?_))); (case side2 => exact (Kd.R_reads' HO_5.out).2.1); rintro e w18 ⟨rfl, hb⟩; replace HO_5 := Aside0.mk (Kd.R_below (Hd.r_ HO_5) hb); replace HO_7 := Aside0.mk (Kd.R_below (Hd.r_ HO_7) hb); replace HB := Aside0.mk (below_step Hd.b_ hb); (try clear hb); (try clear hb2); (try clear hk); (try clear hi)))
          go_meet
          case rel => exact ⟨_, (decide (t257 < t258)), (by first | rfl | (simp; done) | (simp [*]; done)), H', ⟨by have := HK1.out; have := HK2.out; first | omega | exact Nat.le_refl _⟩, ⟨by (with_reducible repeat (first | apply Kd.R_alloc | apply Kd.R_drewN | apply Kd.R_drew)); exact HO_5.out⟩, ⟨by (with_reducible repeat (first | apply Kd.R_alloc | apply Kd.R_drewN | apply Kd.R_drew)); exact HO_7.out⟩, ⟨Hd.b_⟩⟩
        ·
         rw [if_neg c15] at H
         have c15b0 : decide (t257 < a1) = false := decide_eq_false c15
         clear c15
         (first | rw [c15b0] | (simp only [i64_w, i32_w]; rw [c15b0]) | skip)
         have H' := Aside0.mk H
         clear H
         go_wp2
         go_meet
         case rel => exact ⟨_, (false), (by first | rfl | (simp; done) | (simp [*]; done)), H', ⟨by have := HK1.out; have := HK2.out; first | omega | exact Nat.le_refl _⟩, ⟨by (with_reducible repeat (first | apply Kd.R_alloc | apply Kd.R_drewN | apply Kd.R_drew)); exact HO_5.out⟩, ⟨by (with_reducible repeat (first | apply Kd.R_alloc | apply Kd.R_drewN | apply Kd.R_drew)); exact HO_7.out⟩, ⟨Hd.b_⟩⟩
       case rest =>
        clear HC13
        try clear c1
        try clear p2
        try clear c4
        try clear c5
        try clear c8
        try clear c11
        try clear c11b0
        try clear c15
        try clear c15b0
        try clear c16
        try clear c16b0
        try clear p2
        obtain ⟨kq, x40_12, rfl, HA, HJ12, HO_5, HO_7, HB⟩ := hcut
        cases kq with
        | zero => exact absurd HA.out (by simp [impl_SafeRing.j2])
        | succ kj12 =>
         have H := HA.out
         clear HA
         simp only [impl_SafeRing.j2] at H
         by_cases c19 : x40_12 = true
         ·
          subst c19
          have H1 : ((impl_DropCorner.f kj12 x5_1 x21_2).bind fun bt259 => (if bt259.2 = true then (impl_SafeRing.l1 kj12 a1 x5_1 x21_2 bt259.1 (x5_1.length : Int) (wrap64 (x21_2 + 1))) else (impl_SafeRing.l1 kj12 a1 x5_1 x6_2 x7_2 (x5_1.length : Int) (wrap64 (x21_2 + 1))))) = some r := by rw [if_pos rfl] at H; exact H
          clear H
          have H := H1
          clear H1
          replace H := Option.bind_eq_some_iff.mp H
          obtain ⟨⟨t259, t260⟩, A200, H⟩ := H
          replace H : (if t260 = true then (impl_SafeRing.l1 kj12 a1 x5_1 x21_2 t259 (x5_1.length : Int) (wrap64 (x21_2 + 1))) else (impl_SafeRing.l1 kj12 a1 x5_1 x6_2 x7_2 (x5_1.length : Int) (wrap64 (x21_2 + 1)))) = some r := H
          have A20 := Aside0.mk A200
          clear A200
          by_cases c21 : t260 = true
          ·
           subst c21
           have H1 : (impl_SafeRing.l1 kj12 a1 x5_1 x21_2 t259 (x5_1.length : Int) (wrap64 (x21_2 + 1))) = some r := by rw [if_pos rfl] at H; exact H
           clear H
           have H := H1
           clear H1
           have H' := Aside0.mk H
           clear H
           go_wp2_with (first | ((with_reducible refine gate_callee (f := 29) rfl ?_); refine goesL_ (some 44) rfl rfl Try.func29 (by kernel_rfl) rfl #[.slice Ao10 x5_1.length co10, .int .i64 x21_2] rfl Hd.m_ ?_; (with_reducible refine (impl_DropCorner.calls kj12 _ _ x5_1 x21_2 t259 true _ ?side1 ?side2 A20.out).mono ?_); (case side1 => repeat (first | exact (Kd.R_reads' HO_5.out).2.2 | (with_reducible refine Kd.C_alloc ?_ _) | (with_reducible refine Kd.C_drewN ?_ _) | (with_reducible refine Kd.C_drew ?_))); (case side2 => exact (Kd.R_reads' HO_5.out).2.1); rintro e w22 ⟨v261, rfl, ho0, hb⟩; refine ⟨_, rfl, ?_⟩; have HO262 := Aside0.mk (Kd.R_lower (Kd.R_new' (Kd.R_new' ho0 (Kd.R_lt (Hd.r_ HO_5))) (Kd.R_lt (Hd.r_ HO_7))) (below_size Hd.b_)); replace HO_5 := Aside0.mk (Kd.R_elder' (Hd.r_ HO_5) (Kd.R_base ho0) hb); replace HO_7 := Aside0.mk (Kd.R_elder' (Hd.r_ HO_7) (Kd.R_base ho0) hb); replace HB := Aside0.mk (below_step Hd.b_ hb); (try clear hb); (try clear hb2); (try clear hk); (try clear hi); (try clear ho0)))
           go_roundg kj12
           case measure => have := HK1.out; have := HK2.out; have := HJ12.out; omega
           case rel => exact ⟨(x21_2), (t259), (wrap64 (x21_2 + 1)), (by first | rfl | (simp; done) | (simp [*]; done)), (by first | rfl | (simp; done) | (simp [*]; done)), H', ⟨by have := HK1.out; have := HK2.out; have := HJ12.out; omega⟩, ⟨by (with_reducible repeat (first | apply Kd.R_alloc | apply Kd.R_drewN | apply Kd.R_drew)); exact Kd.R_mono HO_5.out (fun _ hk => hk.2)⟩, ⟨by (with_reducible repeat (first | apply Kd.R_alloc | apply Kd.R_drewN | apply Kd.R_drew)); exact Kd.R_mono HO262.out (fun _ hk => hk.1.2)⟩, ⟨Hd.b_⟩⟩
          ·
           replace c21 := Bool.eq_false_iff.mpr c21
           subst c21
           have H1 : (impl_SafeRing.l1 kj12 a1 x5_1 x6_2 x7_2 (x5_1.length : Int) (wrap64 (x21_2 + 1))) = some r := by rw [if_neg (show ¬ (false = true) by decide)] at H; exact H
           clear H
           have H := H1
           clear H1
           have H' := Aside0.mk H
           clear H
           go_wp2_with (first | ((with_reducible refine gate_callee (f := 29) rfl ?_); refine goesL_ (some 44) rfl rfl Try.func29 (by kernel_rfl) rfl #[.slice Ao10 x5_1.length co10, .int .i64 x21_2] rfl Hd.m_ ?_; (with_reducible refine (impl_DropCorner.calls kj12 _ _ x5_1 x21_2 t259 false _ ?side1 ?side2 A20.out).mono ?_); (case side1 => repeat (first | exact (Kd.R_reads' HO_5.out).2.2 | (with_reducible refine Kd.C_alloc ?_ _) | (with_reducible refine Kd.C_drewN ?_ _) | (with_reducible refine Kd.C_drew ?_))); (case side2 => exact (Kd.R_reads' HO_5.out).2.1); rintro e w23 ⟨v261, rfl, ho0, hb⟩; refine ⟨_, rfl, ?_⟩; have HO262 := Aside0.mk (Kd.R_lower (Kd.R_new' (Kd.R_new' ho0 (Kd.R_lt (Hd.r_ HO_5))) (Kd.R_lt (Hd.r_ HO_7))) (below_size Hd.b_)); replace HO_5 := Aside0.mk (Kd.R_elder' (Hd.r_ HO_5) (Kd.R_base ho0) hb); replace HO_7 := Aside0.mk (Kd.R_elder' (Hd.r_ HO_7) (Kd.R_base ho0) hb); replace HB := Aside0.mk (below_step Hd.b_ hb); (try clear hb); (try clear hb2); (try clear hk); (try clear hi); (try clear ho0)))
           go_roundg kj12
           case measure => have := HK1.out; have := HK2.out; have := HJ12.out; omega
           case rel => exact ⟨(x6_2), (x7_2), (wrap64 (x21_2 + 1)), (by first | rfl | (simp; done) | (simp [*]; done)), (by first | rfl | (simp; done) | (simp [*]; done)), H', ⟨by have := HK1.out; have := HK2.out; have := HJ12.out; omega⟩, ⟨by (with_reducible repeat (first | apply Kd.R_alloc | apply Kd.R_drewN | apply Kd.R_drew)); exact Kd.R_mono HO_5.out (fun _ hk => hk.1)⟩, ⟨by (with_reducible repeat (first | apply Kd.R_alloc | apply Kd.R_drewN | apply Kd.R_drew)); exact Kd.R_mono HO_7.out (fun _ hk => hk.1)⟩, ⟨Hd.b_⟩⟩
         ·
          replace c19 := Bool.eq_false_iff.mpr c19
          subst c19
          have H1 : (impl_SafeRing.l1 kj12 a1 x5_1 x6_2 x7_2 (x5_1.length : Int) (wrap64 (x21_2 + 1))) = some r := by rw [if_neg (show ¬ (false = true) by decide)] at H; exact H
          clear H
          have H := H1
          clear H1
          have H' := Aside0.mk H
          clear H
          go_wp2
          go_roundg kj12
          case measure => have := HK1.out; have := HK2.out; have := HJ12.out; omega
          case rel => exact ⟨(x6_2), (x7_2), (wrap64 (x21_2 + 1)), (by first | rfl | (simp; done) | (simp [*]; done)), (by first | rfl | (simp; done) | (simp [*]; done)), H', ⟨by have := HK1.out; have := HK2.out; have := HJ12.out; omega⟩, ⟨by (with_reducible repeat (first | apply Kd.R_alloc | apply Kd.R_drewN | apply Kd.R_drew)); exact HO_5.out⟩, ⟨by (with_reducible repeat (first | apply Kd.R_alloc | apply Kd.R_drewN | apply Kd.R_drew)); exact HO_7.out⟩, ⟨Hd.b_⟩⟩
      ·
       rw [if_neg c11] at H
       have c11b0 : decide (x21_2 < (x5_1.length : Int)) = false := decide_eq_false c11
       clear c11
       by_cases c24 : x6_2 < 0
       ·
        rw [if_pos c24] at H
        have c24b0 : decide (x6_2 < 0) = true := decide_eq_true c24
        clear c24
        obtain rfl := Option.some.inj H
        go_wp2
        go_ret
        exact ⟨_, Hd.e_, by (with_reducible repeat (first | apply Kd.R_alloc | apply Kd.R_drewN | apply Kd.R_drew)); exact Kd.R_mono HO_5.out (fun _ hk => trivial), Hd.b_⟩
       ·
        rw [if_neg c24] at H
        have c24b0 : decide (x6_2 < 0) = false := decide_eq_false c24
        clear c24
        have H' := Aside0.mk H
        clear H
        go_wp2
        go_roundg k2
        case measure => have := HK1.out; have := HK2.out; omega
        case rel => exact ⟨(x7_2), H', ⟨by have := HK1.out; have := HK2.out; omega⟩, ⟨by (with_reducible repeat (first | apply Kd.R_alloc | apply Kd.R_drewN | apply Kd.R_drew)); exact Kd.R_mono HO_7.out (fun _ hk => trivial)⟩, ⟨Hd.b_⟩⟩
 ·
  replace c5 := Bool.eq_false_iff.mpr c5
  subst c5
  have H1 : (some t250) = some r := by rw [if_neg (show ¬ (false = true) by decide)] at H; exact H
  clear H
  have H := H1
  clear H1
  obtain rfl := Option.some.inj H
  go_enter Try.func43, Try.ntmps43
  go_wp2_with (first | ((with_reducible refine gate_callee (f := 86) rfl ?_); refine goesL_ (some 13) rfl rfl Try.func86 (by kernel_rfl) rfl #[.slice A0 l0.length c0] rfl Hd.m_ ?_; (with_reducible refine (impl_Point_86.calls _ _ l0 t250 _ ?side1 ?side2 A3.out).mono ?_); (case side1 => repeat (first | exact HR0.out | (with_reducible refine Kd.C_alloc ?_ _) | (with_reducible refine Kd.C_drewN ?_ _) | (with_reducible refine Kd.C_drew ?_))); (case side2 => exact HC0.out); rintro e w25 ⟨v251, rfl, ho0, hb⟩; refine ⟨_, rfl, ?_⟩; have HO252 := Aside0.mk (Kd.R_lower ho0 (below_size Hd.b_)); replace HB := Aside0.mk (below_step Hd.b_ hb); (try clear hb); (try clear hb2); (try clear hk); (try clear hi); (try clear ho0)) | ((with_reducible refine gate_callee (f := 44) rfl ?_); refine goesL_ (some 15) rfl rfl Try.func44 (by kernel_rfl) rfl #[.slice A0 l0.length c0] rfl Hd.m_ ?_; (with_reducible refine (impl_IsRing.calls k _ _ l0 false _ ?side1 ?side2 A4.out).mono ?_); (case side1 => repeat (first | exact (Kd.C_below HR0.out HB.out) | (with_reducible refine Kd.C_alloc ?_ _) | (with_reducible refine Kd.C_drewN ?_ _) | (with_reducible refine Kd.C_drew ?_))); (case side2 => exact HC0.out); rintro e w26 ⟨rfl, hb⟩; refine ⟨_, rfl, ?_⟩; replace HO252 := Aside0.mk (Kd.R_below (Hd.r_ HO252) hb); replace HB := Aside0.mk (below_step Hd.b_ hb); (try clear hb); (try clear hb2); (try clear hk); (try clear hi)))
  go_ret
  exact ⟨_, Hd.e_, by (with_reducible repeat (first | apply Kd.R_alloc | apply Kd.R_drewN | apply Kd.R_drew)); exact HO252.out, Hd.b_⟩
def spec_l1In.f (a0 : Int) (a1 : Int) (a2 : Int) : Option (Bool) := if a0 ≥ a1 then (some (decide (a0 ≤ a2))) else (some false)
set_option maxHeartbeats 8000000 in
set_option maxRecDepth 100000 in
theorem spec_l1In.calls (a0 : Int) (a1 : Int) (a2 : Int) (r : Bool) (w : World) (h : spec_l1In.f a0 a1 a2 = some r) :
  Calls Try.prog 83 #[.int .i64 a0, .int .i64 a1, .int .i64 a2] w fun e w' => e = .returned (.bool r) ∧ Drawn0 w w' := by
 have H : (if a0 ≥ a1 then (some (decide (a0 ≤ a2))) else (some false)) = some r := h
 clear h
 by_cases c4 : a0 ≥ a1
 ·
  rw [if_pos c4] at H
  have c4b0 : decide (a1 ≤ a0) = true := decide_eq_true c4
  clear c4
  obtain rfl := Option.some.inj H
  go_enter Try.func83, Try.ntmps83
  go_wp2
  go_ret
  exact ⟨by first | rfl | (simp; done) | (simp [*]; done), by repeat (first | exact Drawn0.refl _ | apply Drawn0.step)⟩
 ·
  rw [if_neg c4] at H
  have c4b0 : decide (a1 ≤ a0) = false := decide_eq_false c4
  clear c4
  obtain rfl := Option.some.inj H
  go_enter Try.func83, Try.ntmps83
  go_wp2
  go_ret
  exact ⟨by first | rfl | (simp; done) | (simp [*]; done), by repeat (first | exact Drawn0.refl _ | apply Drawn0.step)⟩
def spec_Max.f (a0 : Int) (a1 : Int) : Option (Int) := if a1 > a0 then (some a1) else (some a0)
set_option maxHeartbeats 8000000 in
set_option maxRecDepth 100000 in
theorem spec_Max.calls (a0 : Int) (a1 : Int) (r : Int) (w : World) (h : spec_Max.f a0 a1 = some r) :
  Calls Try.prog 128 #[.int .i64 a0, .int .i64 a1] w fun e w' => e = .returned (.int .i64 r) ∧ Drawn0 w w' := by
 have H : (if a1 > a0 then (some a1) else (some a0)) = some r := h
 clear h
 by_cases c3 : a1 > a0
 ·
  rw [if_pos c3] at H
  have c3b0 : decide (a0 < a1) = true := decide_eq_true c3
  clear c3
  obtain rfl := Option.some.inj H
  go_enter Try.func128, Try.ntmps128
  go_wp2
  go_ret
  exact ⟨by first | rfl | (simp; done) | (simp [*]; done), by repeat (first | exact Drawn0.refl _ | apply Drawn0.step)⟩
 ·
  rw [if_neg c3] at H
  have c3b0 : decide (a0 < a1) = false := decide_eq_false c3
  clear c3
  obtain rfl := Option.some.inj H
  go_enter Try.func128, Try.ntmps128
  go_wp2
  go_ret
  exact ⟨by first | rfl | (simp; done) | (simp [*]; done), by repeat (first | exact Drawn0.refl _ | apply Drawn0.step)⟩
def spec_IsPoint.f (a0_0 : Int) (a0_1 : Int) : Option (Bool) := (spec_l1In.f a0_0 0 200).bind fun t264 => (if t264 = true then ((spec_l1In.f a0_1 0 200).bind fun t265 => (some t265)) else (some false))
set_option maxHeartbeats 8000000 in
set_option maxRecDepth 100000 in
theorem spec_IsPoint.calls (a0_0 : Int) (a0_1 : Int) (r : Bool) (w : World) (h : spec_IsPoint.f a0_0 a0_1 = some r) :
  Calls Try.prog 125 #[.agg #[.int .i64 a0_0, .int .i64 a0_1]] w fun e w' => e = .returned (.bool r) ∧ Below w.heap.size w w' := by
 have hu49 := Try.underlying49
 have HB := Aside0.mk (Below.refl w.heap.size w)
 have H : ((spec_l1In.f a0_0 0 200).bind fun t264 => (if t264 = true then ((spec_l1In.f a0_1 0 200).bind fun t265 => (some t265)) else (some false))) = some r := h
 clear h
 replace H := Option.bind_eq_some_iff.mp H
 obtain ⟨t264, A20, H⟩ := H
 replace H : (if t264 = true then ((spec_l1In.f a0_1 0 200).bind fun t265 => (some t265)) else (some false)) = some r := H
 have A2 := Aside0.mk A20
 clear A20
 by_cases c3 : t264 = true
 ·
  subst c3
  have H1 : ((spec_l1In.f a0_1 0 200).bind fun t265 => (some t265)) = some r := by rw [if_pos rfl] at H; exact H
  clear H
  have H := H1
  clear H1
  replace H := Option.bind_eq_some_iff.mp H
  obtain ⟨t265, A40, H⟩ := H
  replace H : (some t265) = some r := H
  have A4 := Aside0.mk A40
  clear A40
  obtain rfl := Option.some.inj H
  go_enter Try.func125, Try.ntmps125
  go_wp2_with (first | ((with_reducible refine gate_dst (N := 1) rfl ?_); refine Hd.box_ 1 (#[.int .i64 a0_0, .int .i64 a0_1]) 49 ?_; intro gb263 hg w5 hbox hb; have BK263 := Aside0.mk (hbox); have GW263 := Aside0.mk ((Hd.g_ hg Hd.b_ : w.heap.size ≤ gb263)); have GE263 := Aside0.mk ((Hd.g_ hg Hd.b_ : w.heap.size ≤ gb263)); replace HB := Aside0.mk (below_step Hd.b_ hb); clear hb hbox hg; obtain ⟨hcz6_0, hcz6_1⟩ := Hd.c2_ BK263.out; obtain ⟨hfz6_0, hfz6_1⟩ := Hd.f2_ BK263.out) | ((with_reducible refine gate_callee (f := 83) rfl ?_); refine goesL_ (some 5) rfl rfl Try.func83 (by kernel_rfl) rfl #[.int .i64 a0_0, .int .i64 0, .int .i64 200] rfl Hd.m_ ?_; (with_reducible refine (spec_l1In.calls a0_0 0 200 true _ A2.out).mono ?_); rintro e w' ⟨rfl, ⟨nd, rfl⟩⟩; refine ⟨_, rfl, ?_⟩) | (go_at_call 83; (with_reducible refine (spec_l1In.calls a0_1 0 200 t265 _ A4.out).mono ?_); rintro e w' ⟨rfl, ⟨nd, rfl⟩⟩))
  go_ret
  exact ⟨Hd.e_, Hd.b_⟩
 ·
  replace c3 := Bool.eq_false_iff.mpr c3
  subst c3
  have H1 : (some false) = some r := by rw [if_neg (show ¬ (false = true) by decide)] at H; exact H
  clear H
  have H := H1
  clear H1
  obtain rfl := Option.some.inj H
  go_enter Try.func125, Try.ntmps125
  go_wp2_with (first | ((with_reducible refine gate_dst (N := 1) rfl ?_); refine Hd.box_ 1 (#[.int .i64 a0_0, .int .i64 a0_1]) 49 ?_; intro gb263 hg w7 hbox hb; have BK263 := Aside0.mk (hbox); have GW263 := Aside0.mk ((Hd.g_ hg Hd.b_ : w.heap.size ≤ gb263)); have GE263 := Aside0.mk ((Hd.g_ hg Hd.b_ : w.heap.size ≤ gb263)); replace HB := Aside0.mk (below_step Hd.b_ hb); clear hb hbox hg; obtain ⟨hcz8_0, hcz8_1⟩ := Hd.c2_ BK263.out; obtain ⟨hfz8_0, hfz8_1⟩ := Hd.f2_ BK263.out) | ((with_reducible refine gate_callee (f := 83) rfl ?_); refine goesL_ (some 5) rfl rfl Try.func83 (by kernel_rfl) rfl #[.int .i64 a0_0, .int .i64 0, .int .i64 200] rfl Hd.m_ ?_; (with_reducible refine (spec_l1In.calls a0_0 0 200 false _ A2.out).mono ?_); rintro e w' ⟨rfl, ⟨nd, rfl⟩⟩; refine ⟨_, rfl, ?_⟩))
  go_ret
  exact ⟨Hd.e_, Hd.b_⟩
def spec_IsSegment.f (a0_0 : Int) (a0_1 : Int) (a0_2 : Int) (a0_3 : Int) : Option (Bool) := (spec_IsPoint.f a0_0 a0_1).bind fun t267 => (if t267 = true then ((spec_IsPoint.f a0_2 a0_3).bind fun t268 => (if t268 = true then (some (!(a0_0 == a0_2) || (!(a0_1 == a0_3)))) else (some false))) else (some false))
set_option maxHeartbeats 8000000 in
set_option maxRecDepth 100000 in
theorem spec_IsSegment.calls (a0_0 : Int) (a0_1 : Int) (a0_2 : Int) (a0_3 : Int) (r : Bool) (w : World) (h : spec_IsSegment.f a0_0 a0_1 a0_2 a0_3 = some r) :
  Calls Try.prog 137 #[.agg #[.int .i64 a0_0, .int .i64 a0_1, .int .i64 a0_2, .int .i64 a0_3]] w fun e w' => e = .returned (.bool r) ∧ Below w.heap.size w w' := by
 have hu111 := Try.underlying111
 have hu49 := Try.underlying49
 have HB := Aside0.mk (Below.refl w.heap.size w)
 have H : ((spec_IsPoint.f a0_0 a0_1).bind fun t267 => (if t267 = true then ((spec_IsPoint.f a0_2 a0_3).bind fun t268 => (if t268 = true then (some (!(a0_0 == a0_2) || (!(a0_1 == a0_3)))) else (some false))) else (some false))) = some r := h
 clear h
 replace H := Option.bind_eq_some_iff.mp H
 obtain ⟨t267, A20, H⟩ := H
 replace H : (if t267 = true then ((spec_IsPoint.f a0_2 a0_3).bind fun t268 => (if t268 = true then (some (!(a0_0 == a0_2) || (!(a0_1 == a0_3)))) else (some false))) else (some false)) = some r := H
 have A2 := Aside0.mk A20
 clear A20
 by_cases c3 : t267 = true
 ·
  subst c3
  have H1 : ((spec_IsPoint.f a0_2 a0_3).bind fun t268 => (if t268 = true then (some (!(a0_0 == a0_2) || (!(a0_1 == a0_3)))) else (some false))) = some r := by rw [if_pos rfl] at H; exact H
  clear H
  have H := H1
  clear H1
  replace H := Option.bind_eq_some_iff.mp H
  obtain ⟨t268, A40, H⟩ := H
  replace H : (if t268 = true then (some (!(a0_0 == a0_2) || (!(a0_1 == a0_3)))) else (some false)) = some r := H
  have A4 := Aside0.mk A40
  clear A40
  by_cases c5 : t268 = true
  ·
   subst c5
   have H1 : (some (!(a0_0 == a0_2) || (!(a0_1 == a0_3)))) = some r := by rw [if_pos rfl] at H; exact H
   clear H
   have H := H1
   clear H1
   obtain rfl := Option.some.inj H
   go_enter Try.func137, Try.ntmps137
   go_wp2_with (first | ((with_reducible refine gate_dst (N := 1) rfl ?_); refine Hd.box_ 1 (#[.int .i64 a0_0, .int .i64 a0_1, .int .i64 a0_2, .int .i64 a0_3]) 111 ?_; intro gb266 hg w6 hbox hb; have BK266 := Aside0.mk (hbox); have GW266 := Aside0.mk ((Hd.g_ hg Hd.b_ : w.heap.size ≤ gb266)); have GE266 := Aside0.mk ((Hd.g_ hg Hd.b_ : w.heap.size ≤ gb266)); replace HB := Aside0.mk (below_step Hd.b_ hb); clear hb hbox hg; obtain ⟨hcz7_0, hcz7_1, hcz7_2, hcz7_3⟩ := Hd.c4_ BK266.out; obtain ⟨hfz7_0, hfz7_1, hfz7_2, hfz7_3⟩ := Hd.f4_ BK266.out) | ((with_reducible refine gate_callee (f := 125) rfl ?_); refine goesL_ (some 5) rfl rfl Try.func125 (by kernel_rfl) rfl #[.agg #[.int .i64 a0_0, .int .i64 a0_1]] rfl Hd.m_ ?_; (with_reducible refine (spec_IsPoint.calls a0_0 a0_1 true _ A2.out).mono ?_); rintro e w8 ⟨rfl, hb⟩; refine ⟨_, rfl, ?_⟩; replace BK266 := Aside0.mk (Hd.kb_ BK266 hb); replace HB := Aside0.mk (below_step Hd.b_ hb); (try clear hb); (try clear hb2); (try clear hk); (try clear hi); obtain ⟨hcz9_0, hcz9_1, hcz9_2, hcz9_3⟩ := Hd.c4_ BK266.out; obtain ⟨hfz9_0, hfz9_1, hfz9_2, hfz9_3⟩ := Hd.f4_ BK266.out) | (go_at_call 125; (with_reducible refine (spec_IsPoint.calls a0_2 a0_3 true _ A4.out).mono ?_); rintro e w10 ⟨rfl, hb⟩; replace BK266 := Aside0.mk (Hd.kb_ BK266 hb); replace HB := Aside0.mk (below_step Hd.b_ hb); (try clear hb); (try clear hb2); (try clear hk); (try clear hi); obtain ⟨hcz11_0, hcz11_1, hcz11_2, hcz11_3⟩ := Hd.c4_ BK266.out; obtain ⟨hfz11_0, hfz11_1, hfz11_2, hfz11_3⟩ := Hd.f4_ BK266.out))
   go_ret
   exact ⟨Hd.e_, Hd.b_⟩
  ·
   replace c5 := Bool.eq_false_iff.mpr c5
   subst c5
   have H1 : (some false) = some r := by rw [if_neg (show ¬ (false = true) by decide)] at H; exact H
   clear H
   have H := H1
   clear H1
   obtain rfl := Option.some.inj H
   go_enter Try.func137, Try.ntmps137
   go_wp2_with (first | ((with_reducible refine gate_dst (N := 1) rfl ?_); refine Hd.box_ 1 (#[.int .i64 a0_0, .int .i64 a0_1, .int .i64 a0_2, .int .i64 a0_3]) 111 ?_; intro gb266 hg w12 hbox hb; have BK266 := Aside0.mk (hbox); have GW266 := Aside0.mk ((Hd.g_ hg Hd.b_ : w.heap.size ≤ gb266)); have GE266 := Aside0.mk ((Hd.g_ hg Hd.b_ : w.heap.size ≤ gb266)); replace HB := Aside0.mk (below_step Hd.b_ hb); clear hb hbox hg; obtain ⟨hcz13_0, hcz13_1, hcz13_2, hcz13_3⟩ := Hd.c4_ BK266.out; obtain ⟨hfz13_0, hfz13_1, hfz13_2, hfz13_3⟩ := Hd.f4_ BK266.out) | ((with_reducible refine gate_callee (f := 125) rfl ?_); refine goesL_ (some 5) rfl rfl Try.func125 (by kernel_rfl) rfl #[.agg #[.int .i64 a0_0, .int .i64 a0_1]] rfl Hd.m_ ?_; (with_reducible refine (spec_IsPoint.calls a0_0 a0_1 true _ A2.out).mono ?_); rintro e w14 ⟨rfl, hb⟩; refine ⟨_, rfl, ?_⟩; replace BK266 := Aside0.mk (Hd.kb_ BK266 hb); replace HB := Aside0.mk (below_step Hd.b_ hb); (try clear hb); (try clear hb2); (try clear hk); (try clear hi); obtain ⟨hcz15_0, hcz15_1, hcz15_2, hcz15_3⟩ := Hd.c4_ BK266.out; obtain ⟨hfz15_0, hfz15_1, hfz15_2, hfz15_3⟩ := Hd.f4_ BK266.out) | (go_at_call 125; (with_reducible refine (spec_IsPoint.calls a0_2 a0_3 false _ A4.out).mono ?_); rintro e w16 ⟨rfl, hb⟩; replace BK266 := Aside0.mk (Hd.kb_ BK266 hb); replace HB := Aside0.mk (below_step Hd.b_ hb); (try clear hb); (try clear hb2); (try clear hk); (try clear hi)))
   go_ret
   exact ⟨Hd.e_, Hd.b_⟩
 ·
  replace c3 := Bool.eq_false_iff.mpr c3
  subst c3
  have H1 : (some false) = some r := by rw [if_neg (show ¬ (false = true) by decide)] at H; exact H
  clear H
  have H := H1
  clear H1
  obtain rfl := Option.some.inj H
  go_enter Try.func137, Try.ntmps137
  go_wp2_with (first | ((with_reducible refine gate_dst (N := 1) rfl ?_); refine Hd.box_ 1 (#[.int .i64 a0_0, .int .i64 a0_1, .int .i64 a0_2, .int .i64 a0_3]) 111 ?_; intro gb266 hg w17 hbox hb; have BK266 := Aside0.mk (hbox); have GW266 := Aside0.mk ((Hd.g_ hg Hd.b_ : w.heap.size ≤ gb266)); have GE266 := Aside0.mk ((Hd.g_ hg Hd.b_ : w.heap.size ≤ gb266)); replace HB := Aside0.mk (below_step Hd.b_ hb); clear hb hbox hg; obtain ⟨hcz18_0, hcz18_1, hcz18_2, hcz18_3⟩ := Hd.c4_ BK266.out; obtain ⟨hfz18_0, hfz18_1, hfz18_2, hfz18_3⟩ := Hd.f4_ BK266.out) | ((with_reducible refine gate_callee (f := 125) rfl ?_); refine goesL_ (some 5) rfl rfl Try.func125 (by kernel_rfl) rfl #[.agg #[.int .i64 a0_0, .int .i64 a0_1]] rfl Hd.m_ ?_; (with_reducible refine (spec_IsPoint.calls a0_0 a0_1 false _ A2.out).mono ?_); rintro e w19 ⟨rfl, hb⟩; refine ⟨_, rfl, ?_⟩; replace BK266 := Aside0.mk (Hd.kb_ BK266 hb); replace HB := Aside0.mk (below_step Hd.b_ hb); (try clear hb); (try clear hb2); (try clear hk); (try clear hi)))
  go_ret
  exact ⟨Hd.e_, Hd.b_⟩
def spec_Min.f (a0 : Int) (a1 : Int) : Option (Int) := if a1 < a0 then (some a1) else (some a0)
set_option maxHeartbeats 8000000 in
set_option maxRecDepth 100000 in
theorem spec_Min.calls (a0 : Int) (a1 : Int) (r : Int) (w : World) (h : spec_Min.f a0 a1 = some r) :
  Calls Try.prog 156 #[.int .i64 a0, .int .i64 a1] w fun e w' => e = .returned (.int .i64 r) ∧ Drawn0 w w' := by
 have H : (if a1 < a0 then (some a1) else (some a0)) = some r := h
 clear h
 by_cases c3 : a1 < a0
 ·
  rw [if_pos c3] at H
  have c3b0 : decide (a1 < a0) = true := decide_eq_true c3
  clear c3
  obtain rfl := Option.some.inj H
  go_enter Try.func156, Try.ntmps156
  go_wp2
  go_ret
  exact ⟨by first | rfl | (simp; done) | (simp [*]; done), by repeat (first | exact Drawn0.refl _ | apply Drawn0.step)⟩
 ·
  rw [if_neg c3] at H
  have c3b0 : decide (a1 < a0) = false := decide_eq_false c3
  clear c3
  obtain rfl := Option.some.inj H
  go_enter Try.func156, Try.ntmps156
  go_wp2
  go_ret
  exact ⟨by first | rfl | (simp; done) | (simp [*]; done), by repeat (first | exact Drawn0.refl _ | apply Drawn0.step)⟩
def spec_l4Cross.f (a0_0 : Int) (a0_1 : Int) (a1_0 : Int) (a1_1 : Int) (a2_0 : Int) (a2_1 : Int) : Option (Int) := some (wrap64 ((wrap64 ((wrap64 (a1_0 - a0_0)) * (wrap64 (a2_1 - a0_1)))) - (wrap64 ((wrap64 (a1_1 - a0_1)) * (wrap64 (a2_0 - a0_0))))))
set_option maxHeartbeats 8000000 in
set_option maxRecDepth 100000 in
theorem spec_l4Cross.calls (a0_0 : Int) (a0_1 : Int) (a1_0 : Int) (a1_1 : Int) (a2_0 : Int) (a2_1 : Int) (r : Int) (w : World) (h : spec_l4Cross.f a0_0 a0_1 a1_0 a1_1 a2_0 a2_1 = some r) :
  Calls Try.prog 155 #[.agg #[.int .i64 a0_0, .int .i64 a0_1], .agg #[.int .i64 a1_0, .int .i64 a1_1], .agg #[.int .i64 a2_0, .int .i64 a2_1]] w fun e w' => e = .returned (.int .i64 r) ∧ Below w.heap.size w w' := by
 have hu49 := Try.underlying49
 have HB := Aside0.mk (Below.refl w.heap.size w)
 have H : (some (wrap64 ((wrap64 ((wrap64 (a1_0 - a0_0)) * (wrap64 (a2_1 - a0_1)))) - (wrap64 ((wrap64 (a1_1 - a0_1)) * (wrap64 (a2_0 - a0_0))))))) = some r := h
 clear h
 obtain rfl := Option.some.inj H
 go_enter Try.func155, Try.ntmps155
 go_wp2_with (first | ((with_reducible refine gate_dst (N := 3) rfl ?_); refine Hd.box_ 3 (#[.int .i64 a0_0, .int .i64 a0_1]) 49 ?_; intro gb269 hg w4 hbox hb; have BK269 := Aside0.mk (hbox); have GW269 := Aside0.mk ((Hd.g_ hg Hd.b_ : w.heap.size ≤ gb269)); have GE269 := Aside0.mk ((Hd.g_ hg Hd.b_ : w.heap.size ≤ gb269)); replace HB := Aside0.mk (below_step Hd.b_ hb); clear hb hbox hg) | ((with_reducible refine gate_dst (N := 4) rfl ?_); refine Hd.box_ 4 (#[.int .i64 a1_0, .int .i64 a1_1]) 49 ?_; intro gb270 hg w5 hbox hb; have BK270 := Aside0.mk (hbox); have GW270 := Aside0.mk ((Hd.g_ hg Hd.b_ : w.heap.size ≤ gb270)); have GE270 := Aside0.mk ((Hd.g_ hg Hd.b_ : w.heap.size ≤ gb270)); replace HB := Aside0.mk (below_step Hd.b_ hb); have NB269_270 := Aside0.mk ((Hd.lt_ BK269 hg)); have NB270_269 := Aside0.mk ((Hd.gt_ BK269 hg)); replace BK269 := Aside0.mk (Hd.kb_ BK269 hb); clear hb hbox hg) | ((with_reducible refine gate_dst (N := 5) rfl ?_); refine Hd.box_ 5 (#[.int .i64 a2_0, .int .i64 a2_1]) 49 ?_; intro gb271 hg w6 hbox hb; have BK271 := Aside0.mk (hbox); have GW271 := Aside0.mk ((Hd.g_ hg Hd.b_ : w.heap.size ≤ gb271)); have GE271 := Aside0.mk ((Hd.g_ hg Hd.b_ : w.heap.size ≤ gb271)); replace HB := Aside0.mk (below_step Hd.b_ hb); have NB269_271 := Aside0.mk ((Hd.lt_ BK269 hg)); have NB271_269 := Aside0.mk ((Hd.gt_ BK269 hg)); replace BK269 := Aside0.mk (Hd.kb_ BK269 hb); have NB270_271 := Aside0.mk ((Hd.lt_ BK270 hg)); have NB271_270 := Aside0.mk ((Hd.gt_ BK270 hg)); replace BK270 := Aside0.mk (Hd.kb_ BK270 hb); clear hb hbox hg; have hnb7 := NB270_269.out; have hnc7 := NB269_270.out; have hnb8 := NB270_271.out; have hnc8 := NB271_270.out; obtain ⟨hcz9_0, hcz9_1⟩ := Hd.c2_ BK270.out; obtain ⟨hfz9_0, hfz9_1⟩ := Hd.f2_ BK270.out; have hnb10 := NB269_271.out; have hnc10 := NB271_269.out; obtain ⟨hcz11_0, hcz11_1⟩ := Hd.c2_ BK269.out; obtain ⟨hfz11_0, hfz11_1⟩ := Hd.f2_ BK269.out; obtain ⟨hcz12_0, hcz12_1⟩ := Hd.c2_ BK271.out; obtain ⟨hfz12_0, hfz12_1⟩ := Hd.f2_ BK271.out))
 go_ret
 exact ⟨Hd.e_, Hd.b_⟩
def spec_IsOn.f (a0_0 : Int) (a0_1 : Int) (a0_2 : Int) (a0_3 : Int) (a1_0 : Int) (a1_1 : Int) : Option (Bool) := (spec_IsSegment.f a0_0 a0_1 a0_2 a0_3).bind fun t274 => (if t274 = true then ((spec_IsPoint.f a1_0 a1_1).bind fun t275 => (if t275 = true then ((spec_l4Cross.f a0_0 a0_1 a0_2 a0_3 a1_0 a1_1).bind fun t276 => (if t276 = 0 then ((spec_Min.f a0_0 a0_2).bind fun t277 => ((spec_Max.f a0_0 a0_2).bind fun t278 => ((spec_l1In.f a1_0 t277 t278).bind fun t279 => (if t279 = true then ((spec_Min.f a0_1 a0_3).bind fun t280 => ((spec_Max.f a0_1 a0_3).bind fun t281 => ((spec_l1In.f a1_1 t280 t281).bind fun t282 => (some t282)))) else (some false))))) else (some false))) else (some false))) else (some false))
set_option maxHeartbeats 8000000 in
set_option maxRecDepth 100000 in
theorem spec_IsOn.calls (a0_0 : Int) (a0_1 : Int) (a0_2 : Int) (a0_3 : Int) (a1_0 : Int) (a1_1 : Int) (r : Bool) (w : World) (h : spec_IsOn.f a0_0 a0_1 a0_2 a0_3 a1_0 a1_1 = some r) :
  Calls Try.prog 167 #[.agg #[.int .i64 a0_0, .int .i64 a0_1, .int .i64 a0_2, .int .i64 a0_3], .agg #[.int .i64 a1_0, .int .i64 a1_1]] w fun e w' => e = .returned (.bool r) ∧ Below w.heap.size w w' := by
 have hu111 := Try.underlying111
 have hu49 := Try.underlying49
 have HB := Aside0.mk (Below.refl w.heap.size w)
 have H : ((spec_IsSegment.f a0_0 a0_1 a0_2 a0_3).bind fun t274 => (if t274 = true then ((spec_IsPoint.f a1_0 a1_1).bind fun t275 => (if t275 = true then ((spec_l4Cross.f a0_0 a0_1 a0_2 a0_3 a1_0 a1_1).bind fun t276 => (if t276 = 0 then ((spec_Min.f a0_0 a0_2).bind fun t277 => ((spec_Max.f a0_0 a0_2).bind fun t278 => ((spec_l1In.f a1_0 t277 t278).bind fun t279 => (if t279 = true then ((spec_Min.f a0_1 a0_3).bind fun t280 => ((spec_Max.f a0_1 a0_3).bind fun t281 => ((spec_l1In.f a1_1 t280 t281).bind fun t282 => (some t282)))) else (some false))))) else (some false))) else (some false))) else (some false))) = some r := h
 clear h
 replace H := Option.bind_eq_some_iff.mp H
 obtain ⟨t274, A30, H⟩ := H
 replace H : (if t274 = true then ((spec_IsPoint.f a1_0 a1_1).bind fun t275 => (if t275 = true then ((spec_l4Cross.f a0_0 a0_1 a0_2 a0_3 a1_0 a1_1).bind fun t276 => (if t276 = 0 then ((spec_Min.f a0_0 a0_2).bind fun t277 => ((spec_Max.f a0_0 a0_2).bind fun t278 => ((spec_l1In.f a1_0 t277 t278).bind fun t279 => (if t279 = true then ((spec_Min.f a0_1 a0_3).bind fun t280 => ((spec_Max.f a0_1 a0_3).bind fun t281 => ((spec_l1In.f a1_1 t280 t281).bind fun t282 => (some t282)))) else (some false))))) else (some false))) else (some false))) else (some false)) = some r := H
 have A3 := Aside0.mk A30
 clear A30
 by_cases c4 : t274 = true
 ·
  subst c4
  have H1 : ((spec_IsPoint.f a1_0 a1_1).bind fun t275 => (if t275 = true then ((spec_l4Cross.f a0_0 a0_1 a0_2 a0_3 a1_0 a1_1).bind fun t276 => (if t276 = 0 then ((spec_Min.f a0_0 a0_2).bind fun t277 => ((spec_Max.f a0_0 a0_2).bind fun t278 => ((spec_l1In.f a1_0 t277 t278).bind fun t279 => (if t279 = true then ((spec_Min.f a0_1 a0_3).bind fun t280 => ((spec_Max.f a0_1 a0_3).bind fun t281 => ((spec_l1In.f a1_1 t280 t281).bind fun t282 => (some t282)))) else (some false))))) else (some false))) else (some false))) = some r := by rw [if_pos rfl] at H; exact H
  clear H
  have H := H1
  clear H1
  replace H := Option.bind_eq_some_iff.mp H
  obtain ⟨t275, A50, H⟩ := H
  replace H : (if t275 = true then ((spec_l4Cross.f a0_0 a0_1 a0_2 a0_3 a1_0 a1_1).bind fun t276 => (if t276 = 0 then ((spec_Min.f a0_0 a0_2).bind fun t277 => ((spec_Max.f a0_0 a0_2).bind fun t278 => ((spec_l1In.f a1_0 t277 t278).bind fun t279 => (if t279 = true then ((spec_Min.f a0_1 a0_3).bind fun t280 => ((spec_Max.f a0_1 a0_3).bind fun t281 => ((spec_l1In.f a1_1 t280 t281).bind fun t282 => (some t282)))) else (some false))))) else (some false))) else (some false)) = some r := H
  have A5 := Aside0.mk A50
  clear A50
  by_cases c6 : t275 = true
  ·
   subst c6
   have H1 : ((spec_l4Cross.f a0_0 a0_1 a0_2 a0_3 a1_0 a1_1).bind fun t276 => (if t276 = 0 then ((spec_Min.f a0_0 a0_2).bind fun t277 => ((spec_Max.f a0_0 a0_2).bind fun t278 => ((spec_l1In.f a1_0 t277 t278).bind fun t279 => (if t279 = true then ((spec_Min.f a0_1 a0_3).bind fun t280 => ((spec_Max.f a0_1 a0_3).bind fun t281 => ((spec_l1In.f a1_1 t280 t281).bind fun t282 => (some t282)))) else (some false))))) else (some false))) = some r := by rw [if_pos rfl] at H; exact H
   clear H
   have H := H1
   clear H1
   replace H := Option.bind_eq_some_iff.mp H
   obtain ⟨t276, A70, H⟩ := H
   replace H : (if t276 = 0 then ((spec_Min.f a0_0 a0_2).bind fun t277 => ((spec_Max.f a0_0 a0_2).bind fun t278 => ((spec_l1In.f a1_0 t277 t278).bind fun t279 => (if t279 = true then ((spec_Min.f a0_1 a0_3).bind fun t280 => ((spec_Max.f a0_1 a0_3).bind fun t281 => ((spec_l1In.f a1_1 t280 t281).bind fun t282 => (some t282)))) else (some false))))) else (some false)) = some r := H
   have A7 := Aside0.mk A70
   clear A70
   by_cases c8 : t276 = 0
   ·
    rw [if_pos c8] at H
    have c8b0 : (t276 == 0) = true := beq_iff_eq.mpr c8
    have c8b1 : (t276 != 0) = false := bne_eq_false_iff_eq.mpr c8
    clear c8
    replace H := Option.bind_eq_some_iff.mp H
    obtain ⟨t277, A90, H⟩ := H
    replace H : ((spec_Max.f a0_0 a0_2).bind fun t278 => ((spec_l1In.f a1_0 t277 t278).bind fun t279 => (if t279 = true then ((spec_Min.f a0_1 a0_3).bind fun t280 => ((spec_Max.f a0_1 a0_3).bind fun t281 => ((spec_l1In.f a1_1 t280 t281).bind fun t282 => (some t282)))) else (some false)))) = some r := H
    have A9 := Aside0.mk A90
    clear A90
    replace H := Option.bind_eq_some_iff.mp H
    obtain ⟨t278, A100, H⟩ := H
    replace H : ((spec_l1In.f a1_0 t277 t278).bind fun t279 => (if t279 = true then ((spec_Min.f a0_1 a0_3).bind fun t280 => ((spec_Max.f a0_1 a0_3).bind fun t281 => ((spec_l1In.f a1_1 t280 t281).bind fun t282 => (some t282)))) else (some false))) = some r := H
    have A10 := Aside0.mk A100
    clear A100
    replace H := Option.bind_eq_some_iff.mp H
    obtain ⟨t279, A110, H⟩ := H
    replace H : (if t279 = true then ((spec_Min.f a0_1 a0_3).bind fun t280 => ((spec_Max.f a0_1 a0_3).bind fun t281 => ((spec_l1In.f a1_1 t280 t281).bind fun t282 => (some t282)))) else (some false)) = some r := H
    have A11 := Aside0.mk A110
    clear A110
    by_cases c12 : t279 = true
    ·
     subst c12
     have H1 : ((spec_Min.f a0_1 a0_3).bind fun t280 => ((spec_Max.f a0_1 a0_3).bind fun t281 => ((spec_l1In.f a1_1 t280 t281).bind fun t282 => (some t282)))) = some r := by rw [if_pos rfl] at H; exact H
     clear H
     have H := H1
     clear H1
     replace H := Option.bind_eq_some_iff.mp H
     obtain ⟨t280, A130, H⟩ := H
     replace H : ((spec_Max.f a0_1 a0_3).bind fun t281 => ((spec_l1In.f a1_1 t280 t281).bind fun t282 => (some t282))) = some r := H
     have A13 := Aside0.mk A130
     clear A130
     replace H := Option.bind_eq_some_iff.mp H
     obtain ⟨t281, A140, H⟩ := H
     replace H : ((spec_l1In.f a1_1 t280 t281).bind fun t282 => (some t282)) = some r := H
     have A14 := Aside0.mk A140
     clear A140
     replace H := Option.bind_eq_some_iff.mp H
     obtain ⟨t282, A150, H⟩ := H
     replace H : (some t282) = some r := H
     have A15 := Aside0.mk A150
     clear A150
     obtain rfl := Option.some.inj H
     go_enter Try.func167, Try.ntmps167
     try go_wp2_with (first | ((with_reducible refine gate_dst (N := 2) rfl ?_); refine Hd.box_ 2 (#[.int .i64 a0_0, .int .i64 a0_1, .int .i64 a0_2, .int .i64 a0_3]) 111 ?_; intro gb272 hg w16 hbox hb; have BK272 := Aside0.mk (hbox); have GW272 := Aside0.mk ((Hd.g_ hg Hd.b_ : w.heap.size ≤ gb272)); have GE272 := Aside0.mk ((Hd.g_ hg Hd.b_ : w.heap.size ≤ gb272)); replace HB := Aside0.mk (below_step Hd.b_ hb); clear hb hbox hg) | ((with_reducible refine gate_dst (N := 3) rfl ?_); refine Hd.box_ 3 (#[.int .i64 a1_0, .int .i64 a1_1]) 49 ?_; intro gb273 hg w17 hbox hb; have BK273 := Aside0.mk (hbox); have GW273 := Aside0.mk ((Hd.g_ hg Hd.b_ : w.heap.size ≤ gb273)); have GE273 := Aside0.mk ((Hd.g_ hg Hd.b_ : w.heap.size ≤ gb273)); replace HB := Aside0.mk (below_step Hd.b_ hb); have NB272_273 := Aside0.mk ((Hd.lt_ BK272 hg)); have NB273_272 := Aside0.mk ((Hd.gt_ BK272 hg)); replace BK272 := Aside0.mk (Hd.kb_ BK272 hb); clear hb hbox hg))
     replace BK272 := Aside0.mk (blk_drew BK272.out)
     replace BK273 := Aside0.mk (blk_drew BK273.out)
     replace HB := Aside0.mk (below_drew1 HB.out)
     obtain ⟨s0_, s1_, s2_, s3_⟩ := Hd.HW.k4 (W0 := w17.drew) BK272
     obtain ⟨s4_, s5_⟩ := Hd.HW.k2 (W0 := w17.drew) BK273
     refine Hd.HW.region (by kernel_rfl) (by kernel_rfl) ?_
     try dsimp only [List.append]
     repeat (go_big_quiet_step ((first | (go_at_call 137; with_reducible exact Hd.HW.c (spec_IsSegment.calls a0_0 a0_1 a0_2 a0_3 true _ A3.out)) | (go_at_call 125; with_reducible exact Hd.HW.c (spec_IsPoint.calls a1_0 a1_1 true _ A5.out)) | (go_at_call 155; with_reducible exact Hd.HW.c (spec_l4Cross.calls a0_0 a0_1 a0_2 a0_3 a1_0 a1_1 t276 _ A7.out)) | (go_at_call 156; with_reducible exact Hd.HW.d (spec_Min.calls a0_0 a0_2 t277 _ A9.out)) | (go_at_call 128; with_reducible exact Hd.HW.d (spec_Max.calls a0_0 a0_2 t278 _ A10.out)) | (go_at_call 83; with_reducible exact Hd.HW.d (spec_l1In.calls a1_0 t277 t278 true _ A11.out)) | (go_at_call 156; with_reducible exact Hd.HW.d (spec_Min.calls a0_1 a0_3 t280 _ A13.out)) | (go_at_call 128; with_reducible exact Hd.HW.d (spec_Max.calls a0_1 a0_3 t281 _ A14.out)) | (go_at_call 83; with_reducible exact Hd.HW.d (spec_l1In.calls a1_1 t280 t281 t282 _ A15.out)))))
     refine wpQuiet_nil ?_
     intro _ hq_
     obtain ⟨q_, rfl⟩ := hq_
     clear s0_ s1_ s2_ s3_ s4_ s5_
     replace BK272 := Aside0.mk (blk_below BK272.out q_.b)
     replace BK273 := Aside0.mk (blk_below BK273.out q_.b)
     replace HB := Aside0.mk (below_step HB.out q_.b)
     generalize q_.W = w21 at BK272 BK273 HB ⊢
     try simp only [i64_w, i32_w]
     try go_wp2
     go_ret
     exact ⟨Hd.e_, Hd.b_⟩
    ·
     replace c12 := Bool.eq_false_iff.mpr c12
     subst c12
     have H1 : (some false) = some r := by rw [if_neg (show ¬ (false = true) by decide)] at H; exact H
     clear H
     have H := H1
     clear H1
     obtain rfl := Option.some.inj H
     go_enter Try.func167, Try.ntmps167
     try go_wp2_with (first | ((with_reducible refine gate_dst (N := 2) rfl ?_); refine Hd.box_ 2 (#[.int .i64 a0_0, .int .i64 a0_1, .int .i64 a0_2, .int .i64 a0_3]) 111 ?_; intro gb272 hg w22 hbox hb; have BK272 := Aside0.mk (hbox); have GW272 := Aside0.mk ((Hd.g_ hg Hd.b_ : w.heap.size ≤ gb272)); have GE272 := Aside0.mk ((Hd.g_ hg Hd.b_ : w.heap.size ≤ gb272)); replace HB := Aside0.mk (below_step Hd.b_ hb); clear hb hbox hg) | ((with_reducible refine gate_dst (N := 3) rfl ?_); refine Hd.box_ 3 (#[.int .i64 a1_0, .int .i64 a1_1]) 49 ?_; intro gb273 hg w23 hbox hb; have BK273 := Aside0.mk (hbox); have GW273 := Aside0.mk ((Hd.g_ hg Hd.b_ : w.heap.size ≤ gb273)); have GE273 := Aside0.mk ((Hd.g_ hg Hd.b_ : w.heap.size ≤ gb273)); replace HB := Aside0.mk (below_step Hd.b_ hb); have NB272_273 := Aside0.mk ((Hd.lt_ BK272 hg)); have NB273_272 := Aside0.mk ((Hd.gt_ BK272 hg)); replace BK272 := Aside0.mk (Hd.kb_ BK272 hb); clear hb hbox hg))
     replace BK272 := Aside0.mk (blk_drew BK272.out)
     replace BK273 := Aside0.mk (blk_drew BK273.out)
     replace HB := Aside0.mk (below_drew1 HB.out)
     obtain ⟨s0_, s1_, s2_, s3_⟩ := Hd.HW.k4 (W0 := w23.drew) BK272
     obtain ⟨s4_, s5_⟩ := Hd.HW.k2 (W0 := w23.drew) BK273
     refine Hd.HW.region (by kernel_rfl) (by kernel_rfl) ?_
     try dsimp only [List.append]
     repeat (go_big_quiet_step ((first | (go_at_call 137; with_reducible exact Hd.HW.c (spec_IsSegment.calls a0_0 a0_1 a0_2 a0_3 true _ A3.out)) | (go_at_call 125; with_reducible exact Hd.HW.c (spec_IsPoint.calls a1_0 a1_1 true _ A5.out)) | (go_at_call 155; with_reducible exact Hd.HW.c (spec_l4Cross.calls a0_0 a0_1 a0_2 a0_3 a1_0 a1_1 t276 _ A7.out)) | (go_at_call 156; with_reducible exact Hd.HW.d (spec_Min.calls a0_0 a0_2 t277 _ A9.out)) | (go_at_call 128; with_reducible exact Hd.HW.d (spec_Max.calls a0_0 a0_2 t278 _ A10.out)) | (go_at_call 83; with_reducible exact Hd.HW.d (spec_l1In.calls a1_0 t277 t278 false _ A11.out)))))
     refine wpQuiet_nil ?_
     intro _ hq_
     obtain ⟨q_, rfl⟩ := hq_
     clear s0_ s1_ s2_ s3_ s4_ s5_
     replace BK272 := Aside0.mk (blk_below BK272.out q_.b)
     replace BK273 := Aside0.mk (blk_below BK273.out q_.b)
     replace HB := Aside0.mk (below_step HB.out q_.b)
     generalize q_.W = w27 at BK272 BK273 HB ⊢
     try simp only [i64_w, i32_w]
     try go_wp2
     go_ret
     exact ⟨Hd.e_, Hd.b_⟩
   ·
    rw [if_neg c8] at H
    have c8b0 : (t276 == 0) = false := beq_eq_false_iff_ne.mpr c8
    have c8b1 : (t276 != 0) = true := bne_iff_ne.mpr c8
    obtain rfl := Option.some.inj H
    go_enter Try.func167, Try.ntmps167
    try go_wp2_with (first | ((with_reducible refine gate_dst (N := 2) rfl ?_); refine Hd.box_ 2 (#[.int .i64 a0_0, .int .i64 a0_1, .int .i64 a0_2, .int .i64 a0_3]) 111 ?_; intro gb272 hg w28 hbox hb; have BK272 := Aside0.mk (hbox); have GW272 := Aside0.mk ((Hd.g_ hg Hd.b_ : w.heap.size ≤ gb272)); have GE272 := Aside0.mk ((Hd.g_ hg Hd.b_ : w.heap.size ≤ gb272)); replace HB := Aside0.mk (below_step Hd.b_ hb); clear hb hbox hg) | ((with_reducible refine gate_dst (N := 3) rfl ?_); refine Hd.box_ 3 (#[.int .i64 a1_0, .int .i64 a1_1]) 49 ?_; intro gb273 hg w29 hbox hb; have BK273 := Aside0.mk (hbox); have GW273 := Aside0.mk ((Hd.g_ hg Hd.b_ : w.heap.size ≤ gb273)); have GE273 := Aside0.mk ((Hd.g_ hg Hd.b_ : w.heap.size ≤ gb273)); replace HB := Aside0.mk (below_step Hd.b_ hb); have NB272_273 := Aside0.mk ((Hd.lt_ BK272 hg)); have NB273_272 := Aside0.mk ((Hd.gt_ BK272 hg)); replace BK272 := Aside0.mk (Hd.kb_ BK272 hb); clear hb hbox hg))
    replace BK272 := Aside0.mk (blk_drew BK272.out)
    replace BK273 := Aside0.mk (blk_drew BK273.out)
    replace HB := Aside0.mk (below_drew1 HB.out)
    obtain ⟨s0_, s1_, s2_, s3_⟩ := Hd.HW.k4 (W0 := w29.drew) BK272
    obtain ⟨s4_, s5_⟩ := Hd.HW.k2 (W0 := w29.drew) BK273
    refine Hd.HW.region (by kernel_rfl) (by kernel_rfl) ?_
    try dsimp only [List.append]
    repeat (go_big_quiet_step ((first | (go_at_call 137; with_reducible exact Hd.HW.c (spec_IsSegment.calls a0_0 a0_1 a0_2 a0_3 true _ A3.out)) | (go_at_call 125; with_reducible exact Hd.HW.c (spec_IsPoint.calls a1_0 a1_1 true _ A5.out)) | (go_at_call 155; with_reducible exact Hd.HW.c (spec_l4Cross.calls a0_0 a0_1 a0_2 a0_3 a1_0 a1_1 t276 _ A7.out)))))
    refine wpQuiet_nil ?_
    intro _ hq_
    obtain ⟨q_, rfl⟩ := hq_
    clear s0_ s1_ s2_ s3_ s4_ s5_
    replace BK272 := Aside0.mk (blk_below BK272.out q_.b)
    replace BK273 := Aside0.mk (blk_below BK273.out q_.b)
    replace HB := Aside0.mk (below_step HB.out q_.b)
    generalize q_.W = w33 at BK272 BK273 HB ⊢
    try simp only [i64_w, i32_w]
    try go_wp2
    go_ret
    exact ⟨Hd.e_, Hd.b_⟩
  ·
   replace c6 := Bool.eq_false_iff.mpr c6
   subst c6
   have H1 : (some false) = some r := by rw [if_neg (show ¬ (false = true) by decide)] at H; exact H
   clear H
   have H := H1
   clear H1
   obtain rfl := Option.some.inj H
   go_enter Try.func167, Try.ntmps167
   try go_wp2_with (first | ((with_reducible refine gate_dst (N := 2) rfl ?_); refine Hd.box_ 2 (#[.int .i64 a0_0, .int .i64 a0_1, .int .i64 a0_2, .int .i64 a0_3]) 111 ?_; intro gb272 hg w34 hbox hb; have BK272 := Aside0.mk (hbox); have GW272 := Aside0.mk ((Hd.g_ hg Hd.b_ : w.heap.size ≤ gb272)); have GE272 := Aside0.mk ((Hd.g_ hg Hd.b_ : w.heap.size ≤ gb272)); replace HB := Aside0.mk (below_step Hd.b_ hb); clear hb hbox hg) | ((with_reducible refine gate_dst (N := 3) rfl ?_); refine Hd.box_ 3 (#[.int .i64 a1_0, .int .i64 a1_1]) 49 ?_; intro gb273 hg w35 hbox hb; have BK273 := Aside0.mk (hbox); have GW273 := Aside0.mk ((Hd.g_ hg Hd.b_ : w.heap.size ≤ gb273)); have GE273 := Aside0.mk ((Hd.g_ hg Hd.b_ : w.heap.size ≤ gb273)); replace HB := Aside0.mk (below_step Hd.b_ hb); have NB272_273 := Aside0.mk ((Hd.lt_ BK272 hg)); have NB273_272 := Aside0.mk ((Hd.gt_ BK272 hg)); replace BK272 := Aside0.mk (Hd.kb_ BK272 hb); clear hb hbox hg))
   replace BK272 := Aside0.mk (blk_drew BK272.out)
   replace BK273 := Aside0.mk (blk_drew BK273.out)
   replace HB := Aside0.mk (below_drew1 HB.out)
   obtain ⟨s0_, s1_, s2_, s3_⟩ := Hd.HW.k4 (W0 := w35.drew) BK272
   obtain ⟨s4_, s5_⟩ := Hd.HW.k2 (W0 := w35.drew) BK273
   refine Hd.HW.region (by kernel_rfl) (by kernel_rfl) ?_
   try dsimp only [List.append]
   repeat (go_big_quiet_step ((first | (go_at_call 137; with_reducible exact Hd.HW.c (spec_IsSegment.calls a0_0 a0_1 a0_2 a0_3 true _ A3.out)) | (go_at_call 125; with_reducible exact Hd.HW.c (spec_IsPoint.calls a1_0 a1_1 false _ A5.out)))))
   refine wpQuiet_nil ?_
   intro _ hq_
   obtain ⟨q_, rfl⟩ := hq_
   clear s0_ s1_ s2_ s3_ s4_ s5_
   replace BK272 := Aside0.mk (blk_below BK272.out q_.b)
   replace BK273 := Aside0.mk (blk_below BK273.out q_.b)
   replace HB := Aside0.mk (below_step HB.out q_.b)
   generalize q_.W = w38 at BK272 BK273 HB ⊢
   try simp only [i64_w, i32_w]
   try go_wp2
   go_ret
   exact ⟨Hd.e_, Hd.b_⟩
 ·
  replace c4 := Bool.eq_false_iff.mpr c4
  subst c4
  have H1 : (some false) = some r := by rw [if_neg (show ¬ (false = true) by decide)] at H; exact H
  clear H
  have H := H1
  clear H1
  obtain rfl := Option.some.inj H
  go_enter Try.func167, Try.ntmps167
  try go_wp2_with (first | ((with_reducible refine gate_dst (N := 2) rfl ?_); refine Hd.box_ 2 (#[.int .i64 a0_0, .int .i64 a0_1, .int .i64 a0_2, .int .i64 a0_3]) 111 ?_; intro gb272 hg w39 hbox hb; have BK272 := Aside0.mk (hbox); have GW272 := Aside0.mk ((Hd.g_ hg Hd.b_ : w.heap.size ≤ gb272)); have GE272 := Aside0.mk ((Hd.g_ hg Hd.b_ : w.heap.size ≤ gb272)); replace HB := Aside0.mk (below_step Hd.b_ hb); clear hb hbox hg) | ((with_reducible refine gate_dst (N := 3) rfl ?_); refine Hd.box_ 3 (#[.int .i64 a1_0, .int .i64 a1_1]) 49 ?_; intro gb273 hg w40 hbox hb; have BK273 := Aside0.mk (hbox); have GW273 := Aside0.mk ((Hd.g_ hg Hd.b_ : w.heap.size ≤ gb273)); have GE273 := Aside0.mk ((Hd.g_ hg Hd.b_ : w.heap.size ≤ gb273)); replace HB := Aside0.mk (below_step Hd.b_ hb); have NB272_273 := Aside0.mk ((Hd.lt_ BK272 hg)); have NB273_272 := Aside0.mk ((Hd.gt_ BK272 hg)); replace BK272 := Aside0.mk (Hd.kb_ BK272 hb); clear hb hbox hg))
  replace BK272 := Aside0.mk (blk_drew BK272.out)
  replace BK273 := Aside0.mk (blk_drew BK273.out)
  replace HB := Aside0.mk (below_drew1 HB.out)
  obtain ⟨s0_, s1_, s2_, s3_⟩ := Hd.HW.k4 (W0 := w40.drew) BK272
  refine Hd.HW.region (by kernel_rfl) (by kernel_rfl) ?_
  try dsimp only [List.append]
  repeat (go_big_quiet_step ((first | (go_at_call 137; with_reducible exact Hd.HW.c (spec_IsSegment.calls a0_0 a0_1 a0_2 a0_3 false _ A3.out)))))
  refine wpQuiet_nil ?_
  intro _ hq_
  obtain ⟨q_, rfl⟩ := hq_
  clear s0_ s1_ s2_ s3_
  replace BK272 := Aside0.mk (blk_below BK272.out q_.b)
  replace BK273 := Aside0.mk (blk_below BK273.out q_.b)
  replace HB := Aside0.mk (below_step HB.out q_.b)
  generalize q_.W = w42 at BK272 BK273 HB ⊢
  try simp only [i64_w, i32_w]
  try go_wp2
  go_ret
  exact ⟨Hd.e_, Hd.b_⟩
end Go.Proofs.Ytchmbcembbbplac.MFnExactSafeRing
