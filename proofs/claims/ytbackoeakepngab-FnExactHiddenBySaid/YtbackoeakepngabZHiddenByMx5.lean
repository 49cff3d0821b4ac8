-- Laid by this session's program pp.py, after the kit's print and texts of the session's own. Not trusted: Lean checks it.
import Derived.Test.YtbackoeakepngabZHiddenByMx0
import Derived.Test.YtbackoeakepngabZHiddenByMx2
import Derived.Test.YtbackoeakepngabZHiddenByMx3
import Derived.Test.YtbackoeakepngabZHiddenByMx4
namespace Go.Proofs.Ytbackoeakepngab.MFnExactHiddenBy
open Go.RowKit Go.Proofs.YtbackoeakepngabW.PrintWords Go.Proofs.YtbackoeakepngabW.PrintLast Go.Proofs.YtbackoeakepngabW.PrintMore
attribute [local go_sem] max2_int min2_int max_two min_two max_three min_three max_four min_four   -- for this text's walks alone
set_option linter.unusedVariables false
set_option linter.unusedSimpArgs false
def spec_l14Has.l0 : Nat → List Int → Int → Int → Option (Bool)
 | 0, _, _, _ => none
 | k + 1, x0, x1, x5 => if x5 < (x0.length : Int) then (if 0 ≤ x5 then (if (rd x0 x5) = x1 then (some true) else (spec_l14Has.l0 k x0 x1 (wrap64 (x5 + 1)))) else (none)) else (some false)
def spec_l14Has.f (k : Nat) (l0 : List Int) (a1 : Int) : Option (Bool) := spec_l14Has.l0 k l0 a1 0
set_option maxHeartbeats 8000000 in
set_option maxRecDepth 100000 in
theorem spec_l14Has.calls (k : Nat) (A0 : Option Addr) (c0 : Nat) (l0 : List Int) (a1 : Int) (r : Bool) (w : World) (hr0 : Kd.C (Kd.int .i64) w A0 l0.length l0) (hc0 : l0.length ≤ c0) (h : spec_l14Has.f k l0 a1 = some r) :
  Calls Try.prog 83 #[.slice A0 l0.length c0, .int .i64 a1] w fun e w' => e = .returned (.bool r) ∧ Drawn0 w w' := by
 have HR0 := Aside0.mk hr0
 have HC0 := Aside0.mk hc0
 clear hr0 hc0
 have H : (spec_l14Has.l0 k l0 a1 0) = some r := h
 clear h
 have H' := Aside0.mk H
 clear H
 go_enter Try.func83, Try.ntmps83
 go_wp2
 go_loopg [5] k (fun kq v5 w' => ∃ (x5_1 : Int), v5 = .int .i64 x5_1 ∧ Aside0 (spec_l14Has.l0 kq l0 a1 x5_1 = some r) ∧ Aside0 (kq ≤ k) ∧ Drawn0 w w')
 case atStart => exact ⟨(0), (by first | rfl | (simp; done) | (simp [*]; done)), H', ⟨Nat.le_refl _⟩, by repeat (first | exact Drawn0.refl _ | apply Drawn0.step)⟩
 case round =>
  clear H'
  try clear p2
  obtain ⟨x5_1, rfl, HA, HK1, ⟨m1, rfl⟩⟩ := hrel
  cases gk with
  | zero => exact absurd HA.out (by simp [spec_l14Has.l0])
  | succ k1 =>
   have H := HA.out
   clear HA
   simp only [spec_l14Has.l0] at H
   by_cases c3 : x5_1 < (l0.length : Int)
   ·
    rw [if_pos c3] at H
    have c3b0 : decide (x5_1 < (l0.length : Int)) = true := decide_eq_true c3
    clear c3
    by_cases c4 : 0 ≤ x5_1
    ·
     rw [if_pos c4] at H
     have c4b0 : decide (0 ≤ x5_1) = true := decide_eq_true c4
     clear c4
     by_cases c5 : (rd l0 x5_1) = a1
     ·
      rw [if_pos c5] at H
      have c5b0 : ((rd l0 x5_1) == a1) = true := beq_iff_eq.mpr c5
      have c5b1 : ((rd l0 x5_1) != a1) = false := bne_eq_false_iff_eq.mpr c5
      clear c5
      obtain rfl := Option.some.inj H
      have p239 : 0 ≤ (x5_1 : Int) := of_decide_eq_true Hd.a_
      have q239 : x5_1 < (l0.length : Int) := of_decide_eq_true Hd.a_
      obtain ⟨ad239, e239, hx239_0⟩ := Kd.at_int HR0.out x5_1 p239 q239
      cases e239
      replace p239 := eq_true p239
      replace q239 := eq_true q239
      go_wp2
      go_ret
      exact ⟨by first | rfl | (simp; done) | (simp [*]; done), by repeat (first | exact Drawn0.refl _ | apply Drawn0.step)⟩
     ·
      rw [if_neg c5] at H
      have c5b0 : ((rd l0 x5_1) == a1) = false := beq_eq_false_iff_ne.mpr c5
      have c5b1 : ((rd l0 x5_1) != a1) = true := bne_iff_ne.mpr c5
      have H' := Aside0.mk H
      clear H
      have p239 : 0 ≤ (x5_1 : Int) := of_decide_eq_true Hd.a_
      have q239 : x5_1 < (l0.length : Int) := of_decide_eq_true Hd.a_
      obtain ⟨ad239, e239, hx239_0⟩ := Kd.at_int HR0.out x5_1 p239 q239
      cases e239
      replace p239 := eq_true p239
      replace q239 := eq_true q239
      go_wp2
      go_roundg k1
      case measure => have := HK1.out; omega
      case rel => exact ⟨(wrap64 (x5_1 + 1)), (by first | rfl | (simp; done) | (simp [*]; done)), H', ⟨by have := HK1.out; omega⟩, by repeat (first | exact Drawn0.refl _ | apply Drawn0.step)⟩
    ·
     rw [if_neg c4] at H
     exact absurd H (by simp)
   ·
    rw [if_neg c3] at H
    have c3b0 : decide (x5_1 < (l0.length : Int)) = false := decide_eq_false c3
    clear c3
    obtain rfl := Option.some.inj H
    go_wp2
    go_ret
    exact ⟨by first | rfl | (simp; done) | (simp [*]; done), by repeat (first | exact Drawn0.refl _ | apply Drawn0.step)⟩
mutual
def spec_HiddenBy.j0 : Nat → List (S77) → Int → Int → Bool → Option (Int)
 | 0, _, _, _, _ => none
 | k + 1, x0, x1, x2, x24 => if x24 = true then (some 0) else ((spec_l14Kept.f k x0 x1).bind fun t246 => (spec_HiddenBy.l0 k x0 x1 x2 t246 0))
def spec_HiddenBy.l0 : Nat → List (S77) → Int → Int → List (S77) → Int → Option (Int)
 | 0, _, _, _, _, _ => none
 | k + 1, x0, x1, x2, x7, x8 => if x8 < (x0.length : Int) then (spec_HiddenBy.l1 k x0 x1 x2 x7 x8 0) else (some 0)
def spec_HiddenBy.l1 : Nat → List (S77) → Int → Int → List (S77) → Int → Int → Option (Int)
 | 0, _, _, _, _, _, _ => none
 | k + 1, x0, x1, x2, x7, x8, x9 => if x9 < (x7.length : Int) then (if 0 ≤ x8 then (if x8 < (x0.length : Int) then (spec_HiddenBy.j3 k x0 x1 x2 x7 x8 x9 (((rd_T77 x0 x8).f0) == x2)) else (none)) else (none)) else (spec_HiddenBy.j3 k x0 x1 x2 x7 x8 x9 false)
def spec_HiddenBy.j3 : Nat → List (S77) → Int → Int → List (S77) → Int → Int → Bool → Option (Int)
 | 0, _, _, _, _, _, _, _ => none
 | k + 1, x0, x1, x2, x7, x8, x9, x46 => if x46 = true then (if 0 ≤ x9 then (if x9 < (x7.length : Int) then (if 0 ≤ x8 then (if x8 < (x0.length : Int) then ((spec_IsAbove.f ((rd_T77 x7 x9).f0) ((rd_T77 x7 x9).f1.f0) ((rd_T77 x7 x9).f1.f1) ((rd_T77 x7 x9).f2) ((rd_T77 x0 x8).f0) ((rd_T77 x0 x8).f1.f0) ((rd_T77 x0 x8).f1.f1) ((rd_T77 x0 x8).f2)).bind fun t252 => (if t252 = true then ((spec_FarSquared.f ((rd_T77 x7 x9).f1.f0) ((rd_T77 x7 x9).f1.f1) ((rd_T77 x0 x8).f1.f0) ((rd_T77 x0 x8).f1.f1)).bind fun t255 => (if t255 < (wrap64 (x1 * x1)) then (some ((rd_T77 x7 x9).f0)) else (spec_HiddenBy.l1 k x0 x1 x2 x7 x8 (wrap64 (x9 + 1))))) else (spec_HiddenBy.l1 k x0 x1 x2 x7 x8 (wrap64 (x9 + 1))))) else (none)) else (none)) else (none)) else (none)) else (spec_HiddenBy.l0 k x0 x1 x2 x7 (wrap64 (x8 + 1)))
end
def spec_HiddenBy.f (k : Nat) (l0 : List (S77)) (a1 : Int) (a2 : Int) : Option (Int) := (spec_ArePlaces.f k l0).bind fun t240 => (if t240 = true then ((spec_l1In.f a1 0 200).bind fun t241 => (if t241 = true then ((spec_ThinPlaces.f k l0 a1).bind fun t242 => ((spec_l14Has.f k t242 a2).bind fun t245 => (spec_HiddenBy.j0 k l0 a1 a2 t245))) else (spec_HiddenBy.j0 k l0 a1 a2 true))) else (spec_HiddenBy.j0 k l0 a1 a2 true))
set_option maxHeartbeats 8000000 in
set_option maxRecDepth 100000 in
theorem spec_HiddenBy.calls (k : Nat) (A0 : Option Addr) (c0 : Nat) (l0 : List (S77)) (a1 : Int) (a2 : Int) (r : Int) (w : World) (hr0 : Kd.C k77 w A0 l0.length l0) (hc0 : l0.length ≤ c0) (h : spec_HiddenBy.f k l0 a1 a2 = some r) :
  Calls Try.prog 37 #[.slice A0 l0.length c0, .int .i64 a1, .int .i64 a2] w fun e w' => e = .returned (.int .i64 r) ∧ Below w.heap.size w w' := by
 have hu77 := Try.underlying77
 have hu75 := Try.underlying75
 have HR0 := Aside0.mk hr0
 have HC0 := Aside0.mk hc0
 clear hr0 hc0
 have HB := Aside0.mk (Below.refl w.heap.size w)
 have H : ((spec_ArePlaces.f k l0).bind fun t240 => (if t240 = true then ((spec_l1In.f a1 0 200).bind fun t241 => (if t241 = true then ((spec_ThinPlaces.f k l0 a1).bind fun t242 => ((spec_l14Has.f k t242 a2).bind fun t245 => (spec_HiddenBy.j0 k l0 a1 a2 t245))) else (spec_HiddenBy.j0 k l0 a1 a2 true))) else (spec_HiddenBy.j0 k l0 a1 a2 true))) = some r := h
 clear h
 have HC4 := Aside0.mk H
 clear H
 go_enter Try.func37, Try.ntmps37
 go_upto_region 1 with (fail)
 go_cut [24] (fun v24 wc => ∃ (kq : Nat) (x24_3 : Bool), v24 = .bool x24_3 ∧ Aside0 (spec_HiddenBy.j0 kq l0 a1 a2 x24_3 = some r) ∧ Aside0 (kq ≤ k) ∧ Aside0 (Below w.heap.size w wc))
 case first =>
  have H := HC4.out
  clear HC4
  replace H := Option.bind_eq_some_iff.mp H
  obtain ⟨t240, A50, H⟩ := H
  replace H : (if t240 = true then ((spec_l1In.f a1 0 200).bind fun t241 => (if t241 = true then ((spec_ThinPlaces.f k l0 a1).bind fun t242 => ((spec_l14Has.f k t242 a2).bind fun t245 => (spec_HiddenBy.j0 k l0 a1 a2 t245))) else (spec_HiddenBy.j0 k l0 a1 a2 true))) else (spec_HiddenBy.j0 k l0 a1 a2 true)) = some r := H
  have A5 := Aside0.mk A50
  clear A50
  by_cases c6 : t240 = true
  ·
   subst c6
   have H1 : ((spec_l1In.f a1 0 200).bind fun t241 => (if t241 = true then ((spec_ThinPlaces.f k l0 a1).bind fun t242 => ((spec_l14Has.f k t242 a2).bind fun t245 => (spec_HiddenBy.j0 k l0 a1 a2 t245))) else (spec_HiddenBy.j0 k l0 a1 a2 true))) = some r := by rw [if_pos rfl] at H; exact H
   clear H
   have H := H1
   clear H1
   replace H := Option.bind_eq_some_iff.mp H
   obtain ⟨t241, A70, H⟩ := H
   replace H : (if t241 = true then ((spec_ThinPlaces.f k l0 a1).bind fun t242 => ((spec_l14Has.f k t242 a2).bind fun t245 => (spec_HiddenBy.j0 k l0 a1 a2 t245))) else (spec_HiddenBy.j0 k l0 a1 a2 true)) = some r := H
   have A7 := Aside0.mk A70
   clear A70
   by_cases c8 : t241 = true
   ·
    subst c8
    have H1 : ((spec_ThinPlaces.f k l0 a1).bind fun t242 => ((spec_l14Has.f k t242 a2).bind fun t245 => (spec_HiddenBy.j0 k l0 a1 a2 t245))) = some r := by rw [if_pos rfl] at H; exact H
    clear H
    have H := H1
    clear H1
    replace H := Option.bind_eq_some_iff.mp H
    obtain ⟨t242, A90, H⟩ := H
    replace H : ((spec_l14Has.f k t242 a2).bind fun t245 => (spec_HiddenBy.j0 k l0 a1 a2 t245)) = some r := H
    have A9 := Aside0.mk A90
    clear A90
    replace H := Option.bind_eq_some_iff.mp H
    obtain ⟨t245, A100, H⟩ := H
    replace H : (spec_HiddenBy.j0 k l0 a1 a2 t245) = some r := H
    have A10 := Aside0.mk A100
    clear A100
    have H' := Aside0.mk H
    clear H
    go_wp2_with (first | ((with_reducible refine gate_callee (f := 81) rfl ?_); refine goesL_ (some 11) rfl rfl Try.func81 (by kernel_rfl) rfl #[.slice A0 l0.length c0] rfl Hd.m_ ?_; (with_reducible refine (spec_ArePlaces.calls k _ _ l0 true _ ?side1 ?side2 A5.out).mono ?_); (case side1 => repeat (first | exact (Kd.C_below HR0.out HB.out) | (with_reducible refine Kd.C_alloc ?_ _) | (with_reducible refine Kd.C_drewN ?_ _) | (with_reducible refine Kd.C_drew ?_))); (case side2 => exact HC0.out); rintro e w11 ⟨rfl, hb⟩; refine ⟨_, rfl, ?_⟩; replace HB := Aside0.mk (below_step Hd.b_ hb); (try clear hb); (try clear hb2); (try clear hk); (try clear hi)) | (go_at_call 82; (with_reducible refine (spec_l1In.calls a1 0 200 true _ A7.out).mono ?_); rintro e w' ⟨rfl, ⟨nd, rfl⟩⟩) | (go_at_call 41; (with_reducible refine (spec_ThinPlaces.calls k _ _ l0 a1 t242 _ ?side1 ?side2 A9.out).mono ?_); (case side1 => repeat (first | exact (Kd.C_below HR0.out Hd.b_) | (with_reducible refine Kd.C_alloc ?_ _) | (with_reducible refine Kd.C_drewN ?_ _) | (with_reducible refine Kd.C_drew ?_))); (case side2 => exact HC0.out); rintro e w12 ⟨v243, rfl, ho0, hb⟩; have HO244 := Aside0.mk (Kd.R_lower ho0 (below_size Hd.b_)); replace HB := Aside0.mk (below_step Hd.b_ hb); (try clear hb); (try clear hb2); (try clear hk); (try clear hi); (try clear ho0); obtain ⟨Ao13, co13, eo13⟩ := Kd.R_slice HO244.out; subst eo13) | (go_at_call 83; (with_reducible refine (spec_l14Has.calls k _ _ t242 a2 t245 _ ?side1 ?side2 A10.out).mono ?_); (case side1 => repeat (first | exact (Kd.R_reads' HO244.out).2.2 | (with_reducible refine Kd.C_alloc ?_ _) | (with_reducible refine Kd.C_drewN ?_ _) | (with_reducible refine Kd.C_drew ?_))); (case side2 => exact (Kd.R_reads' HO244.out).2.1); rintro e w' ⟨rfl, ⟨nd, rfl⟩⟩))
    go_meet
    case rel => exact ⟨_, (t245), (by first | rfl | (simp; done) | (simp [*]; done)), H', ⟨by first | omega | exact Nat.le_refl _⟩, ⟨Hd.b_⟩⟩
   ·
    replace c8 := Bool.eq_false_iff.mpr c8
    subst c8
    have H1 : (spec_HiddenBy.j0 k l0 a1 a2 true) = some r := by rw [if_neg (show ¬ (false = true) by decide)] at H; exact H
    clear H
    have H := H1
    clear H1
    have H' := Aside0.mk H
    clear H
    go_wp2_with (first | ((with_reducible refine gate_callee (f := 81) rfl ?_); refine goesL_ (some 11) rfl rfl Try.func81 (by kernel_rfl) rfl #[.slice A0 l0.length c0] rfl Hd.m_ ?_; (with_reducible refine (spec_ArePlaces.calls k _ _ l0 true _ ?side1 ?side2 A5.out).mono ?_); (case side1 => repeat (first | exact (Kd.C_below HR0.out HB.out) | (with_reducible refine Kd.C_alloc ?_ _) | (with_reducible refine Kd.C_drewN ?_ _) | (with_reducible refine Kd.C_drew ?_))); (case side2 => exact HC0.out); rintro e w14 ⟨rfl, hb⟩; refine ⟨_, rfl, ?_⟩; replace HB := Aside0.mk (below_step Hd.b_ hb); (try clear hb); (try clear hb2); (try clear hk); (try clear hi)) | (go_at_call 82; (with_reducible refine (spec_l1In.calls a1 0 200 false _ A7.out).mono ?_); rintro e w' ⟨rfl, ⟨nd, rfl⟩⟩))
    go_meet
    case rel => exact ⟨_, (true), (by first | rfl | (simp; done) | (simp [*]; done)), H', ⟨by first | omega | exact Nat.le_refl _⟩, ⟨Hd.b_⟩⟩
  ·
   replace c6 := Bool.eq_false_iff.mpr c6
   subst c6
   have H1 : (spec_HiddenBy.j0 k l0 a1 a2 true) = some r := by rw [if_neg (show ¬ (false = true) by decide)] at H; exact H
   clear H
   have H := H1
   clear H1
   have H' := Aside0.mk H
   clear H
   go_wp2_with (first | ((with_reducible refine gate_callee (f := 81) rfl ?_); refine goesL_ (some 11) rfl rfl Try.func81 (by kernel_rfl) rfl #[.slice A0 l0.length c0] rfl Hd.m_ ?_; (with_reducible refine (spec_ArePlaces.calls k _ _ l0 false _ ?side1 ?side2 A5.out).mono ?_); (case side1 => repeat (first | exact (Kd.C_below HR0.out HB.out) | (with_reducible refine Kd.C_alloc ?_ _) | (with_reducible refine Kd.C_drewN ?_ _) | (with_reducible refine Kd.C_drew ?_))); (case side2 => exact HC0.out); rintro e w15 ⟨rfl, hb⟩; refine ⟨_, rfl, ?_⟩; replace HB := Aside0.mk (below_step Hd.b_ hb); (try clear hb); (try clear hb2); (try clear hk); (try clear hi)))
   go_meet
   case rel => exact ⟨_, (true), (by first | rfl | (simp; done) | (simp [*]; done)), H', ⟨by first | omega | exact Nat.le_refl _⟩, ⟨Hd.b_⟩⟩
 case rest =>
  clear HC4
  try clear p2
  try clear c3
  try clear c6
  try clear c8
  obtain ⟨kq, x24_3, rfl, HA, HJ3, HB⟩ := hcut
  cases kq with
  | zero => exact absurd HA.out (by simp [spec_HiddenBy.j0])
  | succ kj3 =>
   have H := HA.out
   clear HA
   simp only [spec_HiddenBy.j0] at H
   by_cases c16 : x24_3 = true
   ·
    subst c16
    have H1 : (some 0) = some r := by rw [if_pos rfl] at H; exact H
    clear H
    have H := H1
    clear H1
    obtain rfl := Option.some.inj H
    go_wp2
    go_ret
    exact ⟨Hd.e_, Hd.b_⟩
   ·
    replace c16 := Bool.eq_false_iff.mpr c16
    subst c16
    have H1 : ((spec_l14Kept.f kj3 l0 a1).bind fun t246 => (spec_HiddenBy.l0 kj3 l0 a1 a2 t246 0)) = some r := by rw [if_neg (show ¬ (false = true) by decide)] at H; exact H
    clear H
    have H := H1
    clear H1
    replace H := Option.bind_eq_some_iff.mp H
    obtain ⟨t246, A170, H⟩ := H
    replace H : (spec_HiddenBy.l0 kj3 l0 a1 a2 t246 0) = some r := H
    have A17 := Aside0.mk A170
    clear A170
    have H' := Aside0.mk H
    clear H
    go_wp2_with (first | ((with_reducible refine gate_callee (f := 84) rfl ?_); refine goesL_ (some 27) rfl rfl Try.func84 (by kernel_rfl) rfl #[.slice A0 l0.length c0, .int .i64 a1] rfl Hd.m_ ?_; (with_reducible refine (spec_l14Kept.calls kj3 _ _ l0 a1 t246 _ ?side1 ?side2 A17.out).mono ?_); (case side1 => repeat (first | exact (Kd.C_below HR0.out HB.out) | (with_reducible refine Kd.C_alloc ?_ _) | (with_reducible refine Kd.C_drewN ?_ _) | (with_reducible refine Kd.C_drew ?_))); (case side2 => exact HC0.out); rintro e w18 ⟨v247, rfl, ho0, hb⟩; refine ⟨_, rfl, ?_⟩; have HO248 := Aside0.mk (Kd.R_lower ho0 (below_size Hd.b_)); replace HB := Aside0.mk (below_step Hd.b_ hb); (try clear hb); (try clear hb2); (try clear hk); (try clear hi); (try clear ho0)))
    go_loopg [8] kj3 (fun kq v8 w' => ∃ (x8_2 : Int), v8 = .int .i64 x8_2 ∧ Aside0 (spec_HiddenBy.l0 kq l0 a1 a2 t246 x8_2 = some r) ∧ Aside0 (kq ≤ kj3) ∧ Aside0 (Kd.R k77 77 w' w.heap.size (fun _ => True) v247 t246) ∧ Aside0 (Below w.heap.size w w'))
    case atStart => exact ⟨(0), (by first | rfl | (simp; done) | (simp [*]; done)), H', ⟨Nat.le_refl _⟩, ⟨by (with_reducible repeat (first | apply Kd.R_alloc | apply Kd.R_drewN | apply Kd.R_drew)); exact HO248.out⟩, ⟨Hd.b_⟩⟩
    case round =>
     clear H'
     try clear c1
     try clear p2
     try clear c3
     try clear c6
     try clear c8
     try clear c16
     try clear p2
     obtain ⟨x8_2, rfl, HA, HK2, HO_7, HB⟩ := hrel
     cases gk with
     | zero => exact absurd HA.out (by simp [spec_HiddenBy.l0])
     | succ k2 =>
      have H := HA.out
      clear HA
      simp only [spec_HiddenBy.l0] at H
      by_cases c19 : x8_2 < (l0.length : Int)
      ·
       rw [if_pos c19] at H
       have c19b0 : decide (x8_2 < (l0.length : Int)) = true := decide_eq_true c19
       clear c19
       have H' := Aside0.mk H
       clear H
       go_wp2
       go_loopg [9] k2 (fun kq v9 w' => ∃ (x9_3 : Int), v9 = .int .i64 x9_3 ∧ Aside0 (spec_HiddenBy.l1 kq l0 a1 a2 t246 x8_2 x9_3 = some r) ∧ Aside0 (kq ≤ k2) ∧ Aside0 (Kd.R k77 77 w' w.heap.size (fun _ => True) v247 t246) ∧ Aside0 (Below w.heap.size w w'))
       case atStart => exact ⟨(0), (by first | rfl | (simp; done) | (simp [*]; done)), H', ⟨Nat.le_refl _⟩, ⟨by (with_reducible repeat (first | apply Kd.R_alloc | apply Kd.R_drewN | apply Kd.R_drew)); exact HO_7.out⟩, ⟨Hd.b_⟩⟩
       case round =>
        clear H'
        try clear c1
        try clear p2
        try clear c3
        try clear c6
        try clear c8
        try clear c16
        try clear c19
        try clear c19b0
        try clear p2
        obtain ⟨x9_3, rfl, HA, HK3, HO_7, HB⟩ := hrel
        cases gk with
        | zero => exact absurd HA.out (by simp [spec_HiddenBy.l1])
        | succ k3 =>
         have H := HA.out
         clear HA
         simp only [spec_HiddenBy.l1] at H
         have HC20 := Aside0.mk H
         clear H
         go_upto_region 8 with (fail)
         go_cut [46] (fun v46 wc => ∃ (kq : Nat) (x46_19 : Bool), v46 = .bool x46_19 ∧ Aside0 (spec_HiddenBy.j3 kq l0 a1 a2 t246 x8_2 x9_3 x46_19 = some r) ∧ Aside0 (kq ≤ k3) ∧ Aside0 (Kd.R k77 77 wc w.heap.size (fun _ => True) v247 t246) ∧ Aside0 (Below w.heap.size w wc))
         case first =>
          have H := HC20.out
          clear HC20
          by_cases c21 : x9_3 < (t246.length : Int)
          ·
           rw [if_pos c21] at H
           have c21b0 : decide (x9_3 < (t246.length : Int)) = true := decide_eq_true c21
           clear c21
           (first | rw [c21b0] | (simp only [i64_w, i32_w]; rw [c21b0]) | skip)
           by_cases c22 : 0 ≤ x8_2
           ·
            rw [if_pos c22] at H
            have c22b0 : decide (0 ≤ x8_2) = true := decide_eq_true c22
            clear c22
            by_cases c23 : x8_2 < (l0.length : Int)
            ·
             rw [if_pos c23] at H
             have c23b0 : decide (x8_2 < (l0.length : Int)) = true := decide_eq_true c23
             clear c23
             have H' := Aside0.mk H
             clear H
             obtain ⟨Ao24, co24, eo24⟩ := Kd.R_slice HO_7.out
             subst eo24
             have p249 : 0 ≤ (x8_2 : Int) := of_decide_eq_true Hd.a_
             have q249 : x8_2 < (l0.length : Int) := of_decide_eq_true Hd.a_
             obtain ⟨ad249, e249, hx249_0, hx249_1, hx249_2, hx249_3⟩ := at_T77 HR0.out x8_2 p249 q249
             cases e249
             replace hx249_0 := (HB.out.cell (World.block_lt_of_cell? w _ hx249_0)).trans hx249_0
             replace hx249_1 := (HB.out.cell (World.block_lt_of_cell? w _ hx249_1)).trans hx249_1
             replace hx249_2 := (HB.out.cell (World.block_lt_of_cell? w _ hx249_2)).trans hx249_2
             replace hx249_3 := (HB.out.cell (World.block_lt_of_cell? w _ hx249_3)).trans hx249_3
             replace p249 := eq_true p249
             replace q249 := eq_true q249
             go_wp2
             go_meet
             case rel => exact ⟨_, ((((rd_T77 l0 x8_2).f0) == a2)), (by first | rfl | (simp; done) | (simp [*]; done)), H', ⟨by have := HJ3.out; have := HK2.out; have := HK3.out; first | omega | exact Nat.le_refl _⟩, ⟨by (with_reducible repeat (first | apply Kd.R_alloc | apply Kd.R_drewN | apply Kd.R_drew)); exact HO_7.out⟩, ⟨Hd.b_⟩⟩
            ·
             rw [if_neg c23] at H
             exact absurd H (by simp)
           ·
            rw [if_neg c22] at H
            exact absurd H (by simp)
          ·
           rw [if_neg c21] at H
           have c21b0 : decide (x9_3 < (t246.length : Int)) = false := decide_eq_false c21
           clear c21
           (first | rw [c21b0] | (simp only [i64_w, i32_w]; rw [c21b0]) | skip)
           have H' := Aside0.mk H
           clear H
           obtain ⟨Ao25, co25, eo25⟩ := Kd.R_slice HO_7.out
           subst eo25
           go_wp2
           go_meet
           case rel => exact ⟨_, (false), (by first | rfl | (simp; done) | (simp [*]; done)), H', ⟨by have := HJ3.out; have := HK2.out; have := HK3.out; first | omega | exact Nat.le_refl _⟩, ⟨by (with_reducible repeat (first | apply Kd.R_alloc | apply Kd.R_drewN | apply Kd.R_drew)); exact HO_7.out⟩, ⟨Hd.b_⟩⟩
         case rest =>
          clear HC20
          try clear c1
          try clear c2
          try clear p2
          try clear q2
          try clear hx2
          try clear c3
          try clear c6
          try clear c8
          try clear c16
          try clear c19
          try clear c19b0
          try clear c21
          try clear c21b0
          try clear c22
          try clear c22b0
          try clear c23
          try clear c23b0
          try clear p24
          try clear q24
          try clear hx24
          try clear hx249_0
          try clear hx249_1
          try clear hx249_2
          try clear hx249_3
          try clear p2
          try clear p249
          try clear q249
          obtain ⟨kq, x46_19, rfl, HA, HJ19, HO_7, HB⟩ := hcut
          cases kq with
          | zero => exact absurd HA.out (by simp [spec_HiddenBy.j3])
          | succ kj19 =>
           have H := HA.out
           clear HA
           simp only [spec_HiddenBy.j3] at H
           by_cases c26 : x46_19 = true
           ·
            subst c26
            have H1 : (if 0 ≤ x9_3 then (if x9_3 < (t246.length : Int) then (if 0 ≤ x8_2 then (if x8_2 < (l0.length : Int) then ((spec_IsAbove.f ((rd_T77 t246 x9_3).f0) ((rd_T77 t246 x9_3).f1.f0) ((rd_T77 t246 x9_3).f1.f1) ((rd_T77 t246 x9_3).f2) ((rd_T77 l0 x8_2).f0) ((rd_T77 l0 x8_2).f1.f0) ((rd_T77 l0 x8_2).f1.f1) ((rd_T77 l0 x8_2).f2)).bind fun t252 => (if t252 = true then ((spec_FarSquared.f ((rd_T77 t246 x9_3).f1.f0) ((rd_T77 t246 x9_3).f1.f1) ((rd_T77 l0 x8_2).f1.f0) ((rd_T77 l0 x8_2).f1.f1)).bind fun t255 => (if t255 < (wrap64 (a1 * a1)) then (some ((rd_T77 t246 x9_3).f0)) else (spec_HiddenBy.l1 kj19 l0 a1 a2 t246 x8_2 (wrap64 (x9_3 + 1))))) else (spec_HiddenBy.l1 kj19 l0 a1 a2 t246 x8_2 (wrap64 (x9_3 + 1))))) else (none)) else (none)) else (none)) else (none)) = some r := by rw [if_pos rfl] at H; exact H
            clear H
            have H := H1
            clear H1
            by_cases c27 : 0 ≤ x9_3
            ·
             rw [if_pos c27] at H
             have c27b0 : decide (0 ≤ x9_3) = true := decide_eq_true c27
             clear c27
             by_cases c28 : x9_3 < (t246.length : Int)
             ·
              rw [if_pos c28] at H
              have c28b0 : decide (x9_3 < (t246.length : Int)) = true := decide_eq_true c28
              clear c28
              by_cases c29 : 0 ≤ x8_2
              ·
               rw [if_pos c29] at H
               have c29b0 : decide (0 ≤ x8_2) = true := decide_eq_true c29
               clear c29
               by_cases c30 : x8_2 < (l0.length : Int)
               ·
                rw [if_pos c30] at H
                have c30b0 : decide (x8_2 < (l0.length : Int)) = true := decide_eq_true c30
                clear c30
                replace H := Option.bind_eq_some_iff.mp H
                obtain ⟨t252, A310, H⟩ := H
                replace H : (if t252 = true then ((spec_FarSquared.f ((rd_T77 t246 x9_3).f1.f0) ((rd_T77 t246 x9_3).f1.f1) ((rd_T77 l0 x8_2).f1.f0) ((rd_T77 l0 x8_2).f1.f1)).bind fun t255 => (if t255 < (wrap64 (a1 * a1)) then (some ((rd_T77 t246 x9_3).f0)) else (spec_HiddenBy.l1 kj19 l0 a1 a2 t246 x8_2 (wrap64 (x9_3 + 1))))) else (spec_HiddenBy.l1 kj19 l0 a1 a2 t246 x8_2 (wrap64 (x9_3 + 1)))) = some r := H
                have A31 := Aside0.mk A310
                clear A310
                by_cases c32 : t252 = true
                ·
                 subst c32
                 have H1 : ((spec_FarSquared.f ((rd_T77 t246 x9_3).f1.f0) ((rd_T77 t246 x9_3).f1.f1) ((rd_T77 l0 x8_2).f1.f0) ((rd_T77 l0 x8_2).f1.f1)).bind fun t255 => (if t255 < (wrap64 (a1 * a1)) then (some ((rd_T77 t246 x9_3).f0)) else (spec_HiddenBy.l1 kj19 l0 a1 a2 t246 x8_2 (wrap64 (x9_3 + 1))))) = some r := by rw [if_pos rfl] at H; exact H
                 clear H
                 have H := H1
                 clear H1
                 replace H := Option.bind_eq_some_iff.mp H
                 obtain ⟨t255, A330, H⟩ := H
                 replace H : (if t255 < (wrap64 (a1 * a1)) then (some ((rd_T77 t246 x9_3).f0)) else (spec_HiddenBy.l1 kj19 l0 a1 a2 t246 x8_2 (wrap64 (x9_3 + 1)))) = some r := H
                 have A33 := Aside0.mk A330
                 clear A330
                 by_cases c34 : t255 < (wrap64 (a1 * a1))
                 ·
                  rw [if_pos c34] at H
                  have c34b0 : decide (t255 < (wrap64 (a1 * a1))) = true := decide_eq_true c34
                  clear c34
                  obtain rfl := Option.some.inj H
                  try go_wp2
                  replace HO_7 := Aside0.mk (Kd.R_drew HO_7.out)
                  replace HB := Aside0.mk (below_drew1 HB.out)
                  obtain ⟨Ao36, co36, eo36⟩ := Kd.R_slice HO_7.out
                  (first | subst eo36 | (injection eo36 with f1_ f2_ f3_; have f4_ := f1_.symm; have f5_ := f3_.symm; clear f1_ f2_ f3_; subst f4_; subst f5_))
                  have p250 : 0 ≤ (x9_3 : Int) := of_decide_eq_true Hd.a_
                  have q250 : x9_3 < (t246.length : Int) := of_decide_eq_true Hd.a_
                  obtain ⟨ad250, e250, hx250_0, hx250_1, hx250_2, hx250_3⟩ := at_T77 (Kd.R_reads' HO_7.out).2.2 x9_3 p250 q250
                  cases e250
                  replace p250 := eq_true p250
                  replace q250 := eq_true q250
                  have p251 : 0 ≤ (x8_2 : Int) := of_decide_eq_true Hd.a_
                  have q251 : x8_2 < (l0.length : Int) := of_decide_eq_true Hd.a_
                  obtain ⟨ad251, e251, hx251_0, hx251_1, hx251_2, hx251_3⟩ := at_T77 HR0.out x8_2 p251 q251
                  have hw251_3 := hx251_3
                  have hw251_2 := hx251_2
                  have hw251_1 := hx251_1
                  have hw251_0 := hx251_0
                  cases e251
                  replace hx251_0 := (HB.out.cell (World.block_lt_of_cell? w _ hx251_0)).trans hx251_0
                  replace hx251_1 := (HB.out.cell (World.block_lt_of_cell? w _ hx251_1)).trans hx251_1
                  replace hx251_2 := (HB.out.cell (World.block_lt_of_cell? w _ hx251_2)).trans hx251_2
                  replace hx251_3 := (HB.out.cell (World.block_lt_of_cell? w _ hx251_3)).trans hx251_3
                  replace p251 := eq_true p251
                  replace q251 := eq_true q251
                  have p253 : 0 ≤ (x9_3 : Int) := of_decide_eq_true Hd.a_
                  have q253 : x9_3 < (t246.length : Int) := of_decide_eq_true Hd.a_
                  obtain ⟨ad253, e253, hx253_0, hx253_1, hx253_2, hx253_3⟩ := at_T77 (Kd.R_reads' HO_7.out).2.2 x9_3 p253 q253
                  obtain rfl : ad250 = ad253 := (by injection e253)
                  replace p253 := eq_true p253
                  replace q253 := eq_true q253
                  have p254 : 0 ≤ (x8_2 : Int) := of_decide_eq_true Hd.a_
                  have q254 : x8_2 < (l0.length : Int) := of_decide_eq_true Hd.a_
                  obtain ⟨ad254, e254, hx254_0, hx254_1, hx254_2, hx254_3⟩ := at_T77 HR0.out x8_2 p254 q254
                  have hw254_3 := hx254_3
                  have hw254_2 := hx254_2
                  have hw254_1 := hx254_1
                  have hw254_0 := hx254_0
                  obtain rfl : ad251 = ad254 := (by injection e254)
                  replace hx254_0 := (HB.out.cell (World.block_lt_of_cell? w _ hx254_0)).trans hx254_0
                  replace hx254_1 := (HB.out.cell (World.block_lt_of_cell? w _ hx254_1)).trans hx254_1
                  replace hx254_2 := (HB.out.cell (World.block_lt_of_cell? w _ hx254_2)).trans hx254_2
                  replace hx254_3 := (HB.out.cell (World.block_lt_of_cell? w _ hx254_3)).trans hx254_3
                  replace p254 := eq_true p254
                  replace q254 := eq_true q254
                  have s0_ := Hd.HW.x (W0 := wc.drew) hx250_0
                  have s1_ := Hd.HW.x (W0 := wc.drew) hx250_1
                  have s2_ := Hd.HW.x (W0 := wc.drew) hx250_2
                  have s3_ := Hd.HW.x (W0 := wc.drew) hx250_3
                  have s4_ := Hd.HW.x (W0 := wc.drew) ((HB.out.cell (World.block_lt_of_cell? w _ hw251_0)).trans hw251_0)
                  have s5_ := Hd.HW.x (W0 := wc.drew) ((HB.out.cell (World.block_lt_of_cell? w _ hw251_1)).trans hw251_1)
                  have s6_ := Hd.HW.x (W0 := wc.drew) ((HB.out.cell (World.block_lt_of_cell? w _ hw251_2)).trans hw251_2)
                  have s7_ := Hd.HW.x (W0 := wc.drew) ((HB.out.cell (World.block_lt_of_cell? w _ hw251_3)).trans hw251_3)
                  have s8_ := Hd.HW.x (W0 := wc.drew) hx253_0
                  have s9_ := Hd.HW.x (W0 := wc.drew) hx253_1
                  have s10_ := Hd.HW.x (W0 := wc.drew) hx253_2
                  have s11_ := Hd.HW.x (W0 := wc.drew) hx253_3
                  have s12_ := Hd.HW.x (W0 := wc.drew) ((HB.out.cell (World.block_lt_of_cell? w _ hw254_0)).trans hw254_0)
                  have s13_ := Hd.HW.x (W0 := wc.drew) ((HB.out.cell (World.block_lt_of_cell? w _ hw254_1)).trans hw254_1)
                  have s14_ := Hd.HW.x (W0 := wc.drew) ((HB.out.cell (World.block_lt_of_cell? w _ hw254_2)).trans hw254_2)
                  have s15_ := Hd.HW.x (W0 := wc.drew) ((HB.out.cell (World.block_lt_of_cell? w _ hw254_3)).trans hw254_3)
                  refine Hd.HW.region (by kernel_rfl) (by kernel_rfl) ?_
                  repeat (go_big_quiet_step ((first | (go_at_call 85; with_reducible exact Hd.HW.c (spec_IsAbove.calls ((rd_T77 t246 x9_3).f0) ((rd_T77 t246 x9_3).f1.f0) ((rd_T77 t246 x9_3).f1.f1) ((rd_T77 t246 x9_3).f2) ((rd_T77 l0 x8_2).f0) ((rd_T77 l0 x8_2).f1.f0) ((rd_T77 l0 x8_2).f1.f1) ((rd_T77 l0 x8_2).f2) true _ A31.out)) | (go_at_call 86; with_reducible exact Hd.HW.c (spec_FarSquared.calls ((rd_T77 t246 x9_3).f1.f0) ((rd_T77 t246 x9_3).f1.f1) ((rd_T77 l0 x8_2).f1.f0) ((rd_T77 l0 x8_2).f1.f1) t255 _ A33.out)))))
                  refine wpQuiet_nil ?_
                  intro _ hq_
                  obtain ⟨q_, rfl⟩ := hq_
                  clear s0_ s1_ s2_ s3_ s4_ s5_ s6_ s7_ s8_ s9_ s10_ s11_ s12_ s13_ s14_ s15_
                  replace HO_7 := Aside0.mk (Kd.R_below HO_7.out q_.b)
                  replace HB := Aside0.mk (below_step HB.out q_.b)
                  replace hx250_0 := q_.cell hx250_0
                  replace hx250_1 := q_.cell hx250_1
                  replace hx250_2 := q_.cell hx250_2
                  replace hx250_3 := q_.cell hx250_3
                  replace hx251_0 := q_.cell hx251_0
                  replace hx251_1 := q_.cell hx251_1
                  replace hx251_2 := q_.cell hx251_2
                  replace hx251_3 := q_.cell hx251_3
                  replace hx253_0 := q_.cell hx253_0
                  replace hx253_1 := q_.cell hx253_1
                  replace hx253_2 := q_.cell hx253_2
                  replace hx253_3 := q_.cell hx253_3
                  replace hx254_0 := q_.cell hx254_0
                  replace hx254_1 := q_.cell hx254_1
                  replace hx254_2 := q_.cell hx254_2
                  replace hx254_3 := q_.cell hx254_3
                  generalize q_.W = w38 at HO_7 HB hx250_0 hx250_1 hx250_2 hx250_3 hx251_0 hx251_1 hx251_2 hx251_3 hx253_0 hx253_1 hx253_2 hx253_3 hx254_0 hx254_1 hx254_2 hx254_3 ⊢
                  try simp only [i64_w, i32_w]
                  have p256 : 0 ≤ (x9_3 : Int) := of_decide_eq_true Hd.a_
                  have q256 : x9_3 < (t246.length : Int) := of_decide_eq_true Hd.a_
                  obtain ⟨ad256, e256, hx256_0, hx256_1, hx256_2, hx256_3⟩ := at_T77 (Kd.R_reads' HO_7.out).2.2 x9_3 p256 q256
                  obtain rfl : ad250 = ad256 := (by injection e256)
                  replace p256 := eq_true p256
                  replace q256 := eq_true q256
                  try go_wp2
                  go_ret
                  exact ⟨Hd.e_, Hd.b_⟩
                 ·
                  rw [if_neg c34] at H
                  have c34b0 : decide (t255 < (wrap64 (a1 * a1))) = false := decide_eq_false c34
                  clear c34
                  have H' := Aside0.mk H
                  clear H
                  try go_wp2
                  replace HO_7 := Aside0.mk (Kd.R_drew HO_7.out)
                  replace HB := Aside0.mk (below_drew1 HB.out)
                  obtain ⟨Ao40, co40, eo40⟩ := Kd.R_slice HO_7.out
                  (first | subst eo40 | (injection eo40 with f1_ f2_ f3_; have f4_ := f1_.symm; have f5_ := f3_.symm; clear f1_ f2_ f3_; subst f4_; subst f5_))
                  have p250 : 0 ≤ (x9_3 : Int) := of_decide_eq_true Hd.a_
                  have q250 : x9_3 < (t246.length : Int) := of_decide_eq_true Hd.a_
                  obtain ⟨ad250, e250, hx250_0, hx250_1, hx250_2, hx250_3⟩ := at_T77 (Kd.R_reads' HO_7.out).2.2 x9_3 p250 q250
                  cases e250
                  replace p250 := eq_true p250
                  replace q250 := eq_true q250
                  have p251 : 0 ≤ (x8_2 : Int) := of_decide_eq_true Hd.a_
                  have q251 : x8_2 < (l0.length : Int) := of_decide_eq_true Hd.a_
                  obtain ⟨ad251, e251, hx251_0, hx251_1, hx251_2, hx251_3⟩ := at_T77 HR0.out x8_2 p251 q251
                  have hw251_3 := hx251_3
                  have hw251_2 := hx251_2
                  have hw251_1 := hx251_1
                  have hw251_0 := hx251_0
                  cases e251
                  replace hx251_0 := (HB.out.cell (World.block_lt_of_cell? w _ hx251_0)).trans hx251_0
                  replace hx251_1 := (HB.out.cell (World.block_lt_of_cell? w _ hx251_1)).trans hx251_1
                  replace hx251_2 := (HB.out.cell (World.block_lt_of_cell? w _ hx251_2)).trans hx251_2
                  replace hx251_3 := (HB.out.cell (World.block_lt_of_cell? w _ hx251_3)).trans hx251_3
                  replace p251 := eq_true p251
                  replace q251 := eq_true q251
                  have p253 : 0 ≤ (x9_3 : Int) := of_decide_eq_true Hd.a_
                  have q253 : x9_3 < (t246.length : Int) := of_decide_eq_true Hd.a_
                  obtain ⟨ad253, e253, hx253_0, hx253_1, hx253_2, hx253_3⟩ := at_T77 (Kd.R_reads' HO_7.out).2.2 x9_3 p253 q253
                  obtain rfl : ad250 = ad253 := (by injection e253)
                  replace p253 := eq_true p253
                  replace q253 := eq_true q253
                  have p254 : 0 ≤ (x8_2 : Int) := of_decide_eq_true Hd.a_
                  have q254 : x8_2 < (l0.length : Int) := of_decide_eq_true Hd.a_
                  obtain ⟨ad254, e254, hx254_0, hx254_1, hx254_2, hx254_3⟩ := at_T77 HR0.out x8_2 p254 q254
                  have hw254_3 := hx254_3
                  have hw254_2 := hx254_2
                  have hw254_1 := hx254_1
                  have hw254_0 := hx254_0
                  obtain rfl : ad251 = ad254 := (by injection e254)
                  replace hx254_0 := (HB.out.cell (World.block_lt_of_cell? w _ hx254_0)).trans hx254_0
                  replace hx254_1 := (HB.out.cell (World.block_lt_of_cell? w _ hx254_1)).trans hx254_1
                  replace hx254_2 := (HB.out.cell (World.block_lt_of_cell? w _ hx254_2)).trans hx254_2
                  replace hx254_3 := (HB.out.cell (World.block_lt_of_cell? w _ hx254_3)).trans hx254_3
                  replace p254 := eq_true p254
                  replace q254 := eq_true q254
                  have s0_ := Hd.HW.x (W0 := wc.drew) hx250_0
                  have s1_ := Hd.HW.x (W0 := wc.drew) hx250_1
                  have s2_ := Hd.HW.x (W0 := wc.drew) hx250_2
                  have s3_ := Hd.HW.x (W0 := wc.drew) hx250_3
                  have s4_ := Hd.HW.x (W0 := wc.drew) ((HB.out.cell (World.block_lt_of_cell? w _ hw251_0)).trans hw251_0)
                  have s5_ := Hd.HW.x (W0 := wc.drew) ((HB.out.cell (World.block_lt_of_cell? w _ hw251_1)).trans hw251_1)
                  have s6_ := Hd.HW.x (W0 := wc.drew) ((HB.out.cell (World.block_lt_of_cell? w _ hw251_2)).trans hw251_2)
                  have s7_ := Hd.HW.x (W0 := wc.drew) ((HB.out.cell (World.block_lt_of_cell? w _ hw251_3)).trans hw251_3)
                  have s8_ := Hd.HW.x (W0 := wc.drew) hx253_0
                  have s9_ := Hd.HW.x (W0 := wc.drew) hx253_1
                  have s10_ := Hd.HW.x (W0 := wc.drew) hx253_2
                  have s11_ := Hd.HW.x (W0 := wc.drew) hx253_3
                  have s12_ := Hd.HW.x (W0 := wc.drew) ((HB.out.cell (World.block_lt_of_cell? w _ hw254_0)).trans hw254_0)
                  have s13_ := Hd.HW.x (W0 := wc.drew) ((HB.out.cell (World.block_lt_of_cell? w _ hw254_1)).trans hw254_1)
                  have s14_ := Hd.HW.x (W0 := wc.drew) ((HB.out.cell (World.block_lt_of_cell? w _ hw254_2)).trans hw254_2)
                  have s15_ := Hd.HW.x (W0 := wc.drew) ((HB.out.cell (World.block_lt_of_cell? w _ hw254_3)).trans hw254_3)
                  refine Hd.HW.region (by kernel_rfl) (by kernel_rfl) ?_
                  repeat (go_big_quiet_step ((first | (go_at_call 85; with_reducible exact Hd.HW.c (spec_IsAbove.calls ((rd_T77 t246 x9_3).f0) ((rd_T77 t246 x9_3).f1.f0) ((rd_T77 t246 x9_3).f1.f1) ((rd_T77 t246 x9_3).f2) ((rd_T77 l0 x8_2).f0) ((rd_T77 l0 x8_2).f1.f0) ((rd_T77 l0 x8_2).f1.f1) ((rd_T77 l0 x8_2).f2) true _ A31.out)) | (go_at_call 86; with_reducible exact Hd.HW.c (spec_FarSquared.calls ((rd_T77 t246 x9_3).f1.f0) ((rd_T77 t246 x9_3).f1.f1) ((rd_T77 l0 x8_2).f1.f0) ((rd_T77 l0 x8_2).f1.f1) t255 _ A33.out)))))
                  refine wpQuiet_nil ?_
                  intro _ hq_
                  obtain ⟨q_, rfl⟩ := hq_
                  clear s0_ s1_ s2_ s3_ s4_ s5_ s6_ s7_ s8_ s9_ s10_ s11_ s12_ s13_ s14_ s15_
                  replace HO_7 := Aside0.mk (Kd.R_below HO_7.out q_.b)
                  replace HB := Aside0.mk (below_step HB.out q_.b)
                  replace hx250_0 := q_.cell hx250_0
                  replace hx250_1 := q_.cell hx250_1
                  replace hx250_2 := q_.cell hx250_2
                  replace hx250_3 := q_.cell hx250_3
                  replace hx251_0 := q_.cell hx251_0
                  replace hx251_1 := q_.cell hx251_1
                  replace hx251_2 := q_.cell hx251_2
                  replace hx251_3 := q_.cell hx251_3
                  replace hx253_0 := q_.cell hx253_0
                  replace hx253_1 := q_.cell hx253_1
                  replace hx253_2 := q_.cell hx253_2
                  replace hx253_3 := q_.cell hx253_3
                  replace hx254_0 := q_.cell hx254_0
                  replace hx254_1 := q_.cell hx254_1
                  replace hx254_2 := q_.cell hx254_2
                  replace hx254_3 := q_.cell hx254_3
                  generalize q_.W = w42 at HO_7 HB hx250_0 hx250_1 hx250_2 hx250_3 hx251_0 hx251_1 hx251_2 hx251_3 hx253_0 hx253_1 hx253_2 hx253_3 hx254_0 hx254_1 hx254_2 hx254_3 ⊢
                  try simp only [i64_w, i32_w]
                  try go_wp2
                  go_roundg kj19
                  case measure => have := HJ3.out; have := HK2.out; have := HK3.out; have := HJ19.out; omega
                  case rel => exact ⟨(wrap64 (x9_3 + 1)), (by first | rfl | (simp; done) | (simp [*]; done)), H', ⟨by have := HJ3.out; have := HK2.out; have := HK3.out; have := HJ19.out; omega⟩, ⟨by (with_reducible repeat (first | apply Kd.R_alloc | apply Kd.R_drewN | apply Kd.R_drew)); exact HO_7.out⟩, ⟨Hd.b_⟩⟩
                ·
                 replace c32 := Bool.eq_false_iff.mpr c32
                 subst c32
                 have H1 : (spec_HiddenBy.l1 kj19 l0 a1 a2 t246 x8_2 (wrap64 (x9_3 + 1))) = some r := by rw [if_neg (show ¬ (false = true) by decide)] at H; exact H
                 clear H
                 have H := H1
                 clear H1
                 have H' := Aside0.mk H
                 clear H
                 try go_wp2
                 replace HO_7 := Aside0.mk (Kd.R_drew HO_7.out)
                 replace HB := Aside0.mk (below_drew1 HB.out)
                 obtain ⟨Ao44, co44, eo44⟩ := Kd.R_slice HO_7.out
                 (first | subst eo44 | (injection eo44 with f1_ f2_ f3_; have f4_ := f1_.symm; have f5_ := f3_.symm; clear f1_ f2_ f3_; subst f4_; subst f5_))
                 have p250 : 0 ≤ (x9_3 : Int) := of_decide_eq_true Hd.a_
                 have q250 : x9_3 < (t246.length : Int) := of_decide_eq_true Hd.a_
                 obtain ⟨ad250, e250, hx250_0, hx250_1, hx250_2, hx250_3⟩ := at_T77 (Kd.R_reads' HO_7.out).2.2 x9_3 p250 q250
                 cases e250
                 replace p250 := eq_true p250
                 replace q250 := eq_true q250
                 have p251 : 0 ≤ (x8_2 : Int) := of_decide_eq_true Hd.a_
                 have q251 : x8_2 < (l0.length : Int) := of_decide_eq_true Hd.a_
                 obtain ⟨ad251, e251, hx251_0, hx251_1, hx251_2, hx251_3⟩ := at_T77 HR0.out x8_2 p251 q251
                 have hw251_3 := hx251_3
                 have hw251_2 := hx251_2
                 have hw251_1 := hx251_1
                 have hw251_0 := hx251_0
                 cases e251
                 replace hx251_0 := (HB.out.cell (World.block_lt_of_cell? w _ hx251_0)).trans hx251_0
                 replace hx251_1 := (HB.out.cell (World.block_lt_of_cell? w _ hx251_1)).trans hx251_1
                 replace hx251_2 := (HB.out.cell (World.block_lt_of_cell? w _ hx251_2)).trans hx251_2
                 replace hx251_3 := (HB.out.cell (World.block_lt_of_cell? w _ hx251_3)).trans hx251_3
                 replace p251 := eq_true p251
                 replace q251 := eq_true q251
                 have s0_ := Hd.HW.x (W0 := wc.drew) hx250_0
                 have s1_ := Hd.HW.x (W0 := wc.drew) hx250_1
                 have s2_ := Hd.HW.x (W0 := wc.drew) hx250_2
                 have s3_ := Hd.HW.x (W0 := wc.drew) hx250_3
                 have s4_ := Hd.HW.x (W0 := wc.drew) ((HB.out.cell (World.block_lt_of_cell? w _ hw251_0)).trans hw251_0)
                 have s5_ := Hd.HW.x (W0 := wc.drew) ((HB.out.cell (World.block_lt_of_cell? w _ hw251_1)).trans hw251_1)
                 have s6_ := Hd.HW.x (W0 := wc.drew) ((HB.out.cell (World.block_lt_of_cell? w _ hw251_2)).trans hw251_2)
                 have s7_ := Hd.HW.x (W0 := wc.drew) ((HB.out.cell (World.block_lt_of_cell? w _ hw251_3)).trans hw251_3)
                 refine Hd.HW.region (by kernel_rfl) (by kernel_rfl) ?_
                 repeat (go_big_quiet_step ((first | (go_at_call 85; with_reducible exact Hd.HW.c (spec_IsAbove.calls ((rd_T77 t246 x9_3).f0) ((rd_T77 t246 x9_3).f1.f0) ((rd_T77 t246 x9_3).f1.f1) ((rd_T77 t246 x9_3).f2) ((rd_T77 l0 x8_2).f0) ((rd_T77 l0 x8_2).f1.f0) ((rd_T77 l0 x8_2).f1.f1) ((rd_T77 l0 x8_2).f2) false _ A31.out)))))
                 refine wpQuiet_nil ?_
                 intro _ hq_
                 obtain ⟨q_, rfl⟩ := hq_
                 clear s0_ s1_ s2_ s3_ s4_ s5_ s6_ s7_
                 replace HO_7 := Aside0.mk (Kd.R_below HO_7.out q_.b)
                 replace HB := Aside0.mk (below_step HB.out q_.b)
                 replace hx250_0 := q_.cell hx250_0
                 replace hx250_1 := q_.cell hx250_1
                 replace hx250_2 := q_.cell hx250_2
                 replace hx250_3 := q_.cell hx250_3
                 replace hx251_0 := q_.cell hx251_0
                 replace hx251_1 := q_.cell hx251_1
                 replace hx251_2 := q_.cell hx251_2
                 replace hx251_3 := q_.cell hx251_3
                 generalize q_.W = w45 at HO_7 HB hx250_0 hx250_1 hx250_2 hx250_3 hx251_0 hx251_1 hx251_2 hx251_3 ⊢
                 try simp only [i64_w, i32_w]
                 try go_wp2
                 go_roundg kj19
                 case measure => have := HJ3.out; have := HK2.out; have := HK3.out; have := HJ19.out; omega
                 case rel => exact ⟨(wrap64 (x9_3 + 1)), (by first | rfl | (simp; done) | (simp [*]; done)), H', ⟨by have := HJ3.out; have := HK2.out; have := HK3.out; have := HJ19.out; omega⟩, ⟨by (with_reducible repeat (first | apply Kd.R_alloc | apply Kd.R_drewN | apply Kd.R_drew)); exact HO_7.out⟩, ⟨Hd.b_⟩⟩
               ·
                rw [if_neg c30] at H
                exact absurd H (by simp)
              ·
               rw [if_neg c29] at H
               exact absurd H (by simp)
             ·
              rw [if_neg c28] at H
              exact absurd H (by simp)
            ·
             rw [if_neg c27] at H
             exact absurd H (by simp)
           ·
            replace c26 := Bool.eq_false_iff.mpr c26
            subst c26
            have H1 : (spec_HiddenBy.l0 kj19 l0 a1 a2 t246 (wrap64 (x8_2 + 1))) = some r := by rw [if_neg (show ¬ (false = true) by decide)] at H; exact H
            clear H
            have H := H1
            clear H1
            have H' := Aside0.mk H
            clear H
            go_wp2
            go_roundg kj19
            case measure => have := HJ3.out; have := HK2.out; have := HK3.out; have := HJ19.out; omega
            case rel => exact ⟨(wrap64 (x8_2 + 1)), (by first | rfl | (simp; done) | (simp [*]; done)), H', ⟨by have := HJ3.out; have := HK2.out; have := HK3.out; have := HJ19.out; omega⟩, ⟨by (with_reducible repeat (first | apply Kd.R_alloc | apply Kd.R_drewN | apply Kd.R_drew)); exact HO_7.out⟩, ⟨Hd.b_⟩⟩
      ·
       rw [if_neg c19] at H
       have c19b0 : decide (x8_2 < (l0.length : Int)) = false := decide_eq_false c19
       clear c19
       obtain rfl := Option.some.inj H
       go_wp2
       go_ret
       exact ⟨Hd.e_, Hd.b_⟩
def laws_toPoint.f (a0_0 : Int) (a0_1 : Int) : Option (Int × Int) := some (a0_0, a0_1)
set_option maxHeartbeats 8000000 in
set_option maxRecDepth 100000 in
theorem laws_toPoint.calls (a0_0 : Int) (a0_1 : Int) (r1 : Int) (r2 : Int) (w : World) (h : laws_toPoint.f a0_0 a0_1 = some (r1, r2)) :
  Calls Try.prog 100 #[.agg #[.int .i64 a0_0, .int .i64 a0_1]] w fun e w' => e = .returned (.agg #[.int .i64 r1, .int .i64 r2]) ∧ Below w.heap.size w w' := by
 have hu110 := Try.underlying110
 have hu75 := Try.underlying75
 have HB := Aside0.mk (Below.refl w.heap.size w)
 have H : (some (a0_0, a0_1)) = some (r1, r2) := h
 clear h
 simp only [Option.some.injEq, Prod.mk.injEq] at H
 obtain ⟨rfl, rfl⟩ := H
 go_enter Try.func100, Try.ntmps100
 go_wp2_with (first | ((with_reducible refine gate_dst (N := 1) rfl ?_); refine Hd.box_ 1 (#[.int .i64 a0_0, .int .i64 a0_1]) 110 ?_; intro gb257 hg w2 hbox hb; have BK257 := Aside0.mk (hbox); have GW257 := Aside0.mk ((Hd.g_ hg Hd.b_ : w.heap.size ≤ gb257)); have GE257 := Aside0.mk ((Hd.g_ hg Hd.b_ : w.heap.size ≤ gb257)); replace HB := Aside0.mk (below_step Hd.b_ hb); clear hb hbox hg) | ((with_reducible refine gate_dst (N := 2) rfl ?_); refine Hd.box_ 2 (#[.int .i64 0, .int .i64 0]) 75 ?_; intro gb258 hg w3 hbox hb; have BK258 := Aside0.mk (hbox); have GW258 := Aside0.mk ((Hd.g_ hg Hd.b_ : w.heap.size ≤ gb258)); have GE258 := Aside0.mk ((Hd.g_ hg Hd.b_ : w.heap.size ≤ gb258)); replace HB := Aside0.mk (below_step Hd.b_ hb); have NB257_258 := Aside0.mk ((Hd.lt_ BK257 hg)); have NB258_257 := Aside0.mk ((Hd.gt_ BK257 hg)); replace BK257 := Aside0.mk (Hd.kb_ BK257 hb); clear hb hbox hg) | ((with_reducible refine gate_dst (N := 3) rfl ?_); refine Hd.box_ 3 (#[.int .i64 0, .int .i64 0]) 75 ?_; intro gb259 hg w4 hbox hb; have BK259 := Aside0.mk (hbox); have GW259 := Aside0.mk ((Hd.g_ hg Hd.b_ : w.heap.size ≤ gb259)); have GE259 := Aside0.mk ((Hd.g_ hg Hd.b_ : w.heap.size ≤ gb259)); replace HB := Aside0.mk (below_step Hd.b_ hb); have NB257_259 := Aside0.mk ((Hd.lt_ BK257 hg)); have NB259_257 := Aside0.mk ((Hd.gt_ BK257 hg)); replace BK257 := Aside0.mk (Hd.kb_ BK257 hb); have NB258_259 := Aside0.mk ((Hd.lt_ BK258 hg)); have NB259_258 := Aside0.mk ((Hd.gt_ BK258 hg)); replace BK258 := Aside0.mk (Hd.kb_ BK258 hb); clear hb hbox hg; have hnb5 := NB257_258.out; have hnc5 := NB258_257.out; have hnb6 := NB257_259.out; have hnc6 := NB259_257.out; obtain ⟨hcz7_0, hcz7_1⟩ := Hd.c2_ BK257.out; obtain ⟨hfz7_0, hfz7_1⟩ := Hd.f2_ BK257.out; have hnb8 := NB259_258.out; have hnc8 := NB258_259.out; obtain ⟨hcz9_0, hcz9_1⟩ := Hd.c2_ BK259.out; obtain ⟨hfz9_0, hfz9_1⟩ := Hd.f2_ BK259.out; obtain ⟨hcz10_0, hcz10_1⟩ := Hd.c2_ BK258.out; obtain ⟨hfz10_0, hfz10_1⟩ := Hd.f2_ BK258.out))
 refine bodyPost_ret (results_cell_row rfl _ _ gb258 75 #[.int .i64 a0_0, .int .i64 a0_1] (0, 0) _ rfl (by (with_reducible repeat (first | refine blk_drewN ?_ _ | refine blk_drew ?_ | refine blk_alloc ?_ _)); refine blk_put (cs := #[.int .i64 a0_0, .int .i64 0]) ?_ 1 _ rfl; (with_reducible repeat (first | refine blk_drewN ?_ _ | refine blk_drew ?_ | refine blk_alloc ?_ _)); refine blk_put (cs := #[.int .i64 0, .int .i64 0]) ?_ 0 _ rfl; (with_reducible repeat (first | refine blk_drewN ?_ _ | refine blk_drew ?_ | refine blk_alloc ?_ _)); refine blk_far ?_ NB258_259.out _; (with_reducible repeat (first | refine blk_drewN ?_ _ | refine blk_drew ?_ | refine blk_alloc ?_ _)); refine blk_far ?_ NB258_259.out _; (with_reducible repeat (first | refine blk_drewN ?_ _ | refine blk_drew ?_ | refine blk_alloc ?_ _)); exact BK258.out) Try.underlying75 rfl (by kernel_rfl)) rfl ?_
 exact ⟨Hd.e_, Hd.b_⟩
def laws_toPlace.f (a0_0 : Int) (a0_1 : Int) (a0_2 : Int) (a0_3 : Int) : Option (Int × Int × Int × Int) := (laws_toPoint.f a0_1 a0_2).bind fun bt263 => (some (a0_0, bt263.1, bt263.2, a0_3))
set_option maxHeartbeats 8000000 in
set_option maxRecDepth 100000 in
theorem laws_toPlace.calls (a0_0 : Int) (a0_1 : Int) (a0_2 : Int) (a0_3 : Int) (r1 : Int) (r2 : Int) (r3 : Int) (r4 : Int) (w : World) (h : laws_toPlace.f a0_0 a0_1 a0_2 a0_3 = some (r1, r2, r3, r4)) :
  Calls Try.prog 87 #[.agg #[.int .i64 a0_0, .int .i64 a0_1, .int .i64 a0_2, .int .i64 a0_3]] w fun e w' => e = .returned (.agg #[.int .i64 r1, .int .i64 r2, .int .i64 r3, .int .i64 r4]) ∧ Below w.heap.size w w' := by
 have hu112 := Try.underlying112
 have hu77 := Try.underlying77
 have hu110 := Try.underlying110
 have hu75 := Try.underlying75
 have HB := Aside0.mk (Below.refl w.heap.size w)
 have H : ((laws_toPoint.f a0_1 a0_2).bind fun bt263 => (some (a0_0, bt263.1, bt263.2, a0_3))) = some (r1, r2, r3, r4) := h
 clear h
 replace H := Option.bind_eq_some_iff.mp H
 obtain ⟨⟨t263, t264⟩, A20, H⟩ := H
 replace H : (some (a0_0, t263, t264, a0_3)) = some (r1, r2, r3, r4) := H
 have A2 := Aside0.mk A20
 clear A20
 simp only [Option.some.injEq, Prod.mk.injEq] at H
 obtain ⟨rfl, rfl, rfl, rfl⟩ := H
 go_enter Try.func87, Try.ntmps87
 go_wp2_with (first | ((with_reducible refine gate_dst (N := 1) rfl ?_); refine Hd.box_ 1 (#[.int .i64 a0_0, .int .i64 a0_1, .int .i64 a0_2, .int .i64 a0_3]) 112 ?_; intro gb260 hg w3 hbox hb; have BK260 := Aside0.mk (hbox); have GW260 := Aside0.mk ((Hd.g_ hg Hd.b_ : w.heap.size ≤ gb260)); have GE260 := Aside0.mk ((Hd.g_ hg Hd.b_ : w.heap.size ≤ gb260)); replace HB := Aside0.mk (below_step Hd.b_ hb); clear hb hbox hg) | ((with_reducible refine gate_dst (N := 2) rfl ?_); refine Hd.box_ 2 (#[.int .i64 0, .int .i64 0, .int .i64 0, .int .i64 0]) 77 ?_; intro gb261 hg w4 hbox hb; have BK261 := Aside0.mk (hbox); have GW261 := Aside0.mk ((Hd.g_ hg Hd.b_ : w.heap.size ≤ gb261)); have GE261 := Aside0.mk ((Hd.g_ hg Hd.b_ : w.heap.size ≤ gb261)); replace HB := Aside0.mk (below_step Hd.b_ hb); have NB260_261 := Aside0.mk ((Hd.lt_ BK260 hg)); have NB261_260 := Aside0.mk ((Hd.gt_ BK260 hg)); replace BK260 := Aside0.mk (Hd.kb_ BK260 hb); clear hb hbox hg) | ((with_reducible refine gate_dst (N := 3) rfl ?_); refine Hd.box_ 3 (#[.int .i64 0, .int .i64 0, .int .i64 0, .int .i64 0]) 77 ?_; intro gb262 hg w5 hbox hb; have BK262 := Aside0.mk (hbox); have GW262 := Aside0.mk ((Hd.g_ hg Hd.b_ : w.heap.size ≤ gb262)); have GE262 := Aside0.mk ((Hd.g_ hg Hd.b_ : w.heap.size ≤ gb262)); replace HB := Aside0.mk (below_step Hd.b_ hb); have NB260_262 := Aside0.mk ((Hd.lt_ BK260 hg)); have NB262_260 := Aside0.mk ((Hd.gt_ BK260 hg)); replace BK260 := Aside0.mk (Hd.kb_ BK260 hb); have NB261_262 := Aside0.mk ((Hd.lt_ BK261 hg)); have NB262_261 := Aside0.mk ((Hd.gt_ BK261 hg)); replace BK261 := Aside0.mk (Hd.kb_ BK261 hb); clear hb hbox hg; have hnb6 := NB260_261.out; have hnc6 := NB261_260.out; have hnb7 := NB260_262.out; have hnc7 := NB262_260.out; obtain ⟨hcz8_0, hcz8_1, hcz8_2, hcz8_3⟩ := Hd.c4_ BK260.out; obtain ⟨hfz8_0, hfz8_1, hfz8_2, hfz8_3⟩ := Hd.f4_ BK260.out; have hnb9 := NB262_261.out; have hnc9 := NB261_262.out; obtain ⟨hcz10_0, hcz10_1, hcz10_2, hcz10_3⟩ := Hd.c4_ BK262.out; obtain ⟨hfz10_0, hfz10_1, hfz10_2, hfz10_3⟩ := Hd.f4_ BK262.out) | ((with_reducible refine gate_callee (f := 100) rfl ?_); refine goesL_ (some 9) rfl rfl Try.func100 (by kernel_rfl) rfl #[.agg #[.int .i64 a0_1, .int .i64 a0_2]] rfl Hd.m_ ?_; (with_reducible refine (laws_toPoint.calls a0_1 a0_2 t263 t264 _ A2.out).mono ?_); rintro e w11 ⟨rfl, hb⟩; refine ⟨_, rfl, ?_⟩; replace BK260 := Aside0.mk (blk_below (g := gb260) (o := .cells #[.int .i64 a0_0, .int .i64 a0_1, .int .i64 a0_2, .int .i64 a0_3] 112 (0, 0)) (by (with_reducible repeat (first | refine blk_drewN ?_ _ | refine blk_drew ?_ | refine blk_alloc ?_ _)); refine blk_far ?_ NB260_262.out _; (with_reducible repeat (first | refine blk_drewN ?_ _ | refine blk_drew ?_ | refine blk_alloc ?_ _)); exact BK260.out) hb); replace BK261 := Aside0.mk (blk_below (g := gb261) (o := .cells #[.int .i64 0, .int .i64 0, .int .i64 0, .int .i64 0] 77 (0, 0)) (by (with_reducible repeat (first | refine blk_drewN ?_ _ | refine blk_drew ?_ | refine blk_alloc ?_ _)); refine blk_far ?_ NB261_262.out _; (with_reducible repeat (first | refine blk_drewN ?_ _ | refine blk_drew ?_ | refine blk_alloc ?_ _)); exact BK261.out) hb); replace BK262 := Aside0.mk (blk_below (g := gb262) (o := .cells #[.int .i64 a0_0, .int .i64 0, .int .i64 0, .int .i64 0] 77 (0, 0)) (by (with_reducible repeat (first | refine blk_drewN ?_ _ | refine blk_drew ?_ | refine blk_alloc ?_ _)); refine blk_put (cs := #[.int .i64 0, .int .i64 0, .int .i64 0, .int .i64 0]) ?_ 0 _ rfl; (with_reducible repeat (first | refine blk_drewN ?_ _ | refine blk_drew ?_ | refine blk_alloc ?_ _)); exact BK262.out) hb); replace HB := Aside0.mk (below_step Hd.b_ hb); (try clear hb); (try clear hb2); (try clear hk); (try clear hi); obtain ⟨hcz12_0, hcz12_1, hcz12_2, hcz12_3⟩ := Hd.c4_ BK262.out; obtain ⟨hfz12_0, hfz12_1, hfz12_2, hfz12_3⟩ := Hd.f4_ BK262.out; obtain ⟨hcz13_0, hcz13_1, hcz13_2, hcz13_3⟩ := Hd.c4_ BK260.out; obtain ⟨hfz13_0, hfz13_1, hfz13_2, hfz13_3⟩ := Hd.f4_ BK260.out; obtain ⟨hcz14_0, hcz14_1, hcz14_2, hcz14_3⟩ := Hd.c4_ BK261.out; obtain ⟨hfz14_0, hfz14_1, hfz14_2, hfz14_3⟩ := Hd.f4_ BK261.out))
 refine bodyPost_ret (results_cell_row rfl _ _ gb261 77 #[.int .i64 a0_0, .int .i64 t263, .int .i64 t264, .int .i64 a0_3] (0, 0) _ rfl (by (with_reducible repeat (first | refine blk_drewN ?_ _ | refine blk_drew ?_ | refine blk_alloc ?_ _)); refine blk_put (cs := #[.int .i64 a0_0, .int .i64 t263, .int .i64 t264, .int .i64 0]) ?_ 3 _ rfl; (with_reducible repeat (first | refine blk_drewN ?_ _ | refine blk_drew ?_ | refine blk_alloc ?_ _)); refine blk_put (cs := #[.int .i64 a0_0, .int .i64 t263, .int .i64 0, .int .i64 0]) ?_ 2 _ rfl; (with_reducible repeat (first | refine blk_drewN ?_ _ | refine blk_drew ?_ | refine blk_alloc ?_ _)); refine blk_put (cs := #[.int .i64 a0_0, .int .i64 0, .int .i64 0, .int .i64 0]) ?_ 1 _ rfl; (with_reducible repeat (first | refine blk_drewN ?_ _ | refine blk_drew ?_ | refine blk_alloc ?_ _)); refine blk_put (cs := #[.int .i64 0, .int .i64 0, .int .i64 0, .int .i64 0]) ?_ 0 _ rfl; (with_reducible repeat (first | refine blk_drewN ?_ _ | refine blk_drew ?_ | refine blk_alloc ?_ _)); refine blk_far ?_ NB261_262.out _; (with_reducible repeat (first | refine blk_drewN ?_ _ | refine blk_drew ?_ | refine blk_alloc ?_ _)); refine blk_far ?_ NB261_262.out _; (with_reducible repeat (first | refine blk_drewN ?_ _ | refine blk_drew ?_ | refine blk_alloc ?_ _)); refine blk_far ?_ NB261_262.out _; (with_reducible repeat (first | refine blk_drewN ?_ _ | refine blk_drew ?_ | refine blk_alloc ?_ _)); exact BK261.out) Try.underlying77 rfl (by kernel_rfl)) rfl ?_
 exact ⟨Hd.e_, Hd.b_⟩
def laws_toPlaceS.l0 : Nat → List (S112) → List (S77) → Int → Option ((List (S77)))
 | 0, _, _, _ => none
 | k + 1, x0, x3, x4 => if x4 < (x0.length : Int) then (if 0 ≤ x4 then ((laws_toPlace.f ((rd_T112 x0 x4).f0) ((rd_T112 x0 x4).f1.f0) ((rd_T112 x0 x4).f1.f1) ((rd_T112 x0 x4).f2)).bind fun bt269 => (if x4 < (x3.length : Int) then (laws_toPlaceS.l0 k x0 (x3.set (x4 : Int).toNat (⟨bt269.1, (⟨bt269.2.1, bt269.2.2.1⟩ : S75), bt269.2.2.2⟩ : S77)) (wrap64 (x4 + 1))) else (none))) else (none)) else (some x3)
def laws_toPlaceS.f (k : Nat) (l0 : List (S112)) : Option ((List (S77))) := if 0 ≤ (l0.length : Int) then (if ((l0.length : Int) : Int).toNat ≤ 8796093022208 then (laws_toPlaceS.l0 k l0 (List.replicate ((l0.length : Int) : Int).toNat z77) 0) else (none)) else (none)
set_option maxHeartbeats 8000000 in
set_option maxRecDepth 100000 in
theorem laws_toPlaceS.calls (k : Nat) (A0 : Option Addr) (c0 : Nat) (l0 : List (S112)) (r : List (S77)) (w : World) (hr0 : Kd.C k112 w A0 l0.length l0) (hc0 : l0.length ≤ c0) (h : laws_toPlaceS.f k l0 = some r) :
  Calls Try.prog 38 #[.slice A0 l0.length c0] w fun e w' => ∃ v0_ : Value, e = .returned (v0_) ∧ Kd.R k77 77 w' w.heap.size (fun _ => True) v0_ r ∧ Below w.heap.size w w' := by
 have hu112 := Try.underlying112
 have hu77 := Try.underlying77
 have HR0 := Aside0.mk hr0
 have HC0 := Aside0.mk hc0
 clear hr0 hc0
 have HB := Aside0.mk (Below.refl w.heap.size w)
 have H : (if 0 ≤ (l0.length : Int) then (if ((l0.length : Int) : Int).toNat ≤ 8796093022208 then (laws_toPlaceS.l0 k l0 (List.replicate ((l0.length : Int) : Int).toNat z77) 0) else (none)) else (none)) = some r := h
 clear h
 by_cases c2 : 0 ≤ (l0.length : Int)
 ·
  rw [if_pos c2] at H
  have c2b0 := eq_true c2
  have c2b1 : decide (0 ≤ (l0.length : Int)) = true := decide_eq_true c2
  clear c2
  by_cases c3 : ((l0.length : Int) : Int).toNat ≤ 8796093022208
  ·
   rw [if_pos c3] at H
   have c3b0 := eq_true c3
   have c3b1 : decide (((l0.length : Int) : Int).toNat ≤ 8796093022208) = true := decide_eq_true c3
   clear c3
   obtain ⟨y265, hy265⟩ : ∃ y_ : List (S77), y_ = (List.replicate ((l0.length : Int) : Int).toNat z77) := ⟨_, rfl⟩
   replace H : (laws_toPlaceS.l0 k l0 y265 0) = some r := by first | (rw [hy265]; with_reducible exact H) | (have H2_ := (Option.bind_some _ _).symm.trans H; rw [hy265]; with_reducible exact H2_) | (have H2_ := (Option.bind_some _ _).symm.trans H; with_reducible exact H2_) | with_reducible exact H | (rw [hy265]; exact H) | exact H
   have Ny265 := Aside0.mk hy265
   clear hy265
   have H' := Aside0.mk H
   clear H
   go_enter Try.func38, Try.ntmps38
   go_wp2_with (first | ((with_reducible refine gate_dst (N := 7) rfl ?_); refine Kd.R_make k77 _ 77 rfl (N := 7) rfl 61 _ _ rfl (l0.length : Int) rfl rfl Try.underlying61 (.agg #[(.int .i64 0), (.int .i64 0), (.int .i64 0), (.int .i64 0)]) 32 info77 rfl (by decide) (by omega) z77 (ok := fun _ => True) (okp := fun _ => True) (k77_mkM _ _ _ z77 ) (fun _ hk => hk) trivial (of_decide_eq_true Hd.a_) (Nat.le_trans (Nat.mul_le_mul_right _ (of_decide_eq_true Hd.a_ : (l0.length : Int).toNat ≤ 8796093022208)) (by omega)) (Below.refl _ _) (Nat.le_refl _) ?_; intro v266 w4 ho5 hb hg_ hnew_; clear hg_ hnew_; (first | rw [← Ny265.out] at ho5 | (simp only [Int.reduceToNat] at ho5; rw [← Ny265.out] at ho5)); have HO267 := Aside0.mk (Kd.R_lower ho5 (below_size Hd.b_)); replace HB := Aside0.mk (below_step Hd.b_ hb); clear hb ho5))
   go_loopg [4] k (fun kq v4 w' => ∃ (x3_1 : List (S77)) (x4_1 : Int), v4 = .int .i64 x4_1 ∧ Aside0 (laws_toPlaceS.l0 kq l0 x3_1 x4_1 = some r) ∧ Aside0 (kq ≤ k) ∧ Aside0 (Kd.R k77 77 w' w.heap.size (fun _ => True) v266 x3_1) ∧ Aside0 (Below w.heap.size w w'))
   case atStart => exact ⟨(y265), (0), (by first | rfl | (simp; done) | (simp [*]; done)), H', ⟨Nat.le_refl _⟩, ⟨by (with_reducible repeat (first | apply Kd.R_alloc | apply Kd.R_drewN | apply Kd.R_drew)); exact HO267.out⟩, ⟨Hd.b_⟩⟩
   case round =>
    clear H'
    try clear c2
    try clear c2b0
    try clear c2b1
    try clear p2
    try clear c3
    try clear c3b0
    try clear c3b1
    obtain ⟨x3_1, x4_1, rfl, HA, HK1, HO_3, HB⟩ := hrel
    cases gk with
    | zero => exact absurd HA.out (by simp [laws_toPlaceS.l0])
    | succ k1 =>
     have H := HA.out
     clear HA
     simp only [laws_toPlaceS.l0] at H
     by_cases c6 : x4_1 < (l0.length : Int)
     ·
      rw [if_pos c6] at H
      have c6b0 : decide (x4_1 < (l0.length : Int)) = true := decide_eq_true c6
      clear c6
      by_cases c7 : 0 ≤ x4_1
      ·
       rw [if_pos c7] at H
       have c7b0 : decide (0 ≤ x4_1) = true := decide_eq_true c7
       clear c7
       replace H := Option.bind_eq_some_iff.mp H
       obtain ⟨⟨t269, t270, t271, t272⟩, A80, H⟩ := H
       replace H : (if x4_1 < (x3_1.length : Int) then (laws_toPlaceS.l0 k1 l0 (x3_1.set (x4_1 : Int).toNat (⟨t269, (⟨t270, t271⟩ : S75), t272⟩ : S77)) (wrap64 (x4_1 + 1))) else (none)) = some r := H
       have A8 := Aside0.mk A80
       clear A80
       by_cases c9 : x4_1 < (x3_1.length : Int)
       ·
        rw [if_pos c9] at H
        have c9b0 : decide (x4_1 < (x3_1.length : Int)) = true := decide_eq_true c9
        clear c9
        obtain ⟨y273, hy273⟩ : ∃ y_ : List (S77), y_ = (x3_1.set (x4_1 : Int).toNat (⟨t269, (⟨t270, t271⟩ : S75), t272⟩ : S77)) := ⟨_, rfl⟩
        replace H : (laws_toPlaceS.l0 k1 l0 y273 (wrap64 (x4_1 + 1))) = some r := by first | (rw [hy273]; with_reducible exact H) | (have H2_ := (Option.bind_some _ _).symm.trans H; rw [hy273]; with_reducible exact H2_) | (have H2_ := (Option.bind_some _ _).symm.trans H; with_reducible exact H2_) | with_reducible exact H | (rw [hy273]; exact H) | exact H
        have Ny273 := Aside0.mk hy273
        clear hy273
        have H' := Aside0.mk H
        clear H
        have p268 : 0 ≤ (x4_1 : Int) := of_decide_eq_true Hd.a_
        have q268 : x4_1 < (l0.length : Int) := of_decide_eq_true Hd.a_
        obtain ⟨ad268, e268, hx268_0, hx268_1, hx268_2, hx268_3⟩ := at_T112 HR0.out x4_1 p268 q268
        cases e268
        replace hx268_0 := (HB.out.cell (World.block_lt_of_cell? w _ hx268_0)).trans hx268_0
        replace hx268_1 := (HB.out.cell (World.block_lt_of_cell? w _ hx268_1)).trans hx268_1
        replace hx268_2 := (HB.out.cell (World.block_lt_of_cell? w _ hx268_2)).trans hx268_2
        replace hx268_3 := (HB.out.cell (World.block_lt_of_cell? w _ hx268_3)).trans hx268_3
        replace p268 := eq_true p268
        replace q268 := eq_true q268
        go_wp2_with (first | ((with_reducible refine gate_callee (f := 87) rfl ?_); refine goesL_ (some 20) rfl rfl Try.func87 (by kernel_rfl) rfl #[.agg #[.int .i64 ((rd_T112 l0 x4_1).f0), .int .i64 ((rd_T112 l0 x4_1).f1.f0), .int .i64 ((rd_T112 l0 x4_1).f1.f1), .int .i64 ((rd_T112 l0 x4_1).f2)]] rfl Hd.m_ ?_; (with_reducible refine (laws_toPlace.calls ((rd_T112 l0 x4_1).f0) ((rd_T112 l0 x4_1).f1.f0) ((rd_T112 l0 x4_1).f1.f1) ((rd_T112 l0 x4_1).f2) t269 t270 t271 t272 _ A8.out).mono ?_); rintro e w11 ⟨rfl, hb⟩; refine ⟨_, rfl, ?_⟩; replace HO_3 := Aside0.mk (Kd.R_below (Hd.r_ HO_3) hb); replace HB := Aside0.mk (below_step Hd.b_ hb); (try clear hb); (try clear hb2); (try clear hk); (try clear hi); have p10 : 0 ≤ (x4_1 : Int) := of_decide_eq_true Hd.a_; have q10 : (x4_1 : Int) < ((x3_1.length : Int) : Int) := of_decide_eq_true Hd.a_; obtain ⟨go10, co10, eo10, gb10, gl10, cl10, HG10⟩ := Kd.R_form HO_3.out (by omega); (first | cases eo10 | (injection eo10 with ea_ en_ ec_; (first | subst ea_ | (injection ea_ with ea_; subst ea_)); subst ec_; clear en_)); have GB10 := Aside0.mk gb10; have GG10 := Aside0.mk HG10; clear gb10 gl10 HG10; obtain ⟨ce10, hcl10, hM10, hcc10, hfr10⟩ := Kd.R_elem HO_3.out z77 (x4_1 : Int) p10 q10; obtain rfl := k77_openM hM10; have hx10_0 : w11.cell? ⟨go10, (x4_1 : Int).toNat * 4, none⟩ = some (.int .i64 ((rd_T77 x3_1 x4_1).f0)) := hcc10 0 _ rfl; have hx10_1 : w11.cell? ⟨go10, (x4_1 : Int).toNat * 4 + 1, none⟩ = some (.int .i64 ((rd_T77 x3_1 x4_1).f1.f0)) := hcc10 1 _ rfl; have hx10_2 : w11.cell? ⟨go10, (x4_1 : Int).toNat * 4 + 2, none⟩ = some (.int .i64 ((rd_T77 x3_1 x4_1).f1.f1)) := hcc10 2 _ rfl; have hx10_3 : w11.cell? ⟨go10, (x4_1 : Int).toNat * 4 + 3, none⟩ = some (.int .i64 ((rd_T77 x3_1 x4_1).f2)) := hcc10 3 _ rfl; have hf10_0 : w11.frozen? ⟨go10, (x4_1 : Int).toNat * 4, none⟩ = false := hfr10 0; have hf10_1 : w11.frozen? ⟨go10, (x4_1 : Int).toNat * 4 + 1, none⟩ = false := hfr10 1; have hf10_2 : w11.frozen? ⟨go10, (x4_1 : Int).toNat * 4 + 2, none⟩ = false := hfr10 2; have hf10_3 : w11.frozen? ⟨go10, (x4_1 : Int).toNat * 4 + 3, none⟩ = false := hfr10 3; clear hcl10 hcc10 hfr10 hM10; replace p10 := eq_true p10; replace q10 := eq_true q10; have HX12 := Aside0.mk (show Kd.R k77 77 w11 w.heap.size (fun _ => True) (.slice (some ⟨go10, 0, none⟩) x3_1.length co10) x3_1 from (Hd.r_ HO_3)); obtain ⟨ce12, hcl12, hM12, hcc12, hfr12⟩ := Kd.R_elem HX12.out z77 (x4_1 : Int) (of_decide_eq_true Hd.a_) (by have h_ : (x4_1 : Int) < ((x3_1.length : Int) : Int) := of_decide_eq_true Hd.a_; first | exact h_ | (have e_ := (Kd.R_reads' HO_3.out).1; omega) | simpa using h_); obtain rfl := k77_openM hM12; have HP12 := Kd.R_seg HX12.out (x4_1 : Int) (of_decide_eq_true Hd.a_) (by have h_ : (x4_1 : Int) < ((x3_1.length : Int) : Int) := of_decide_eq_true Hd.a_; first | exact h_ | (have e_ := (Kd.R_reads' HO_3.out).1; omega) | simpa using h_) (seg := [.int .i64 t269, .int .i64 t270, .int .i64 t271, .int .i64 t272]) (j := 0) hcl12 hcc12 (show 4 ≤ 4 from by decide) (x' := (⟨t269, (⟨t270, t271⟩ : S75), t272⟩ : S77)) (k77_mkM _ _ _ (⟨t269, (⟨t270, t271⟩ : S75), t272⟩ : S77) ) (fun _ hk => hk); have hx12_0 := hcc12 0 _ rfl; (try simp only [show (k77).sz = 4 from rfl, Nat.mul_one, Nat.add_zero] at hx12_0); have hf12_0 := hfr12 0; (try simp only [show (k77).sz = 4 from rfl, Nat.mul_one, Nat.add_zero] at hf12_0); have hx12_1 := hcc12 1 _ rfl; (try simp only [show (k77).sz = 4 from rfl, Nat.mul_one, Nat.add_zero] at hx12_1); have hf12_1 := hfr12 1; (try simp only [show (k77).sz = 4 from rfl, Nat.mul_one, Nat.add_zero] at hf12_1); have hx12_2 := hcc12 2 _ rfl; (try simp only [show (k77).sz = 4 from rfl, Nat.mul_one, Nat.add_zero] at hx12_2); have hf12_2 := hfr12 2; (try simp only [show (k77).sz = 4 from rfl, Nat.mul_one, Nat.add_zero] at hf12_2); have hx12_3 := hcc12 3 _ rfl; (try simp only [show (k77).sz = 4 from rfl, Nat.mul_one, Nat.add_zero] at hx12_3); have hf12_3 := hfr12 3; (try simp only [show (k77).sz = 4 from rfl, Nat.mul_one, Nat.add_zero] at hf12_3); clear hcl12 hcc12 hfr12 hM12) | ((with_reducible refine gate_store (t := 77) (p := 21) rfl ?_); refine store_event (t := 77) (p := 21) (v := ?vo_w13) (w1 := ((((w11.setCell ⟨go10, (x4_1 : Int).toNat * 4, none⟩ (.int .i64 t269)).setCell ⟨go10, (x4_1 : Int).toNat * 4 + 1, none⟩ (.int .i64 t270)).setCell ⟨go10, (x4_1 : Int).toNat * 4 + 2, none⟩ (.int .i64 t271)).setCell ⟨go10, (x4_1 : Int).toNat * 4 + 3, none⟩ (.int .i64 t272))) ?hg ?ho ?hn ?hr ?_; (case ho => rfl); (case hg => rfl); (case hn => rfl); (case hr => first | (go_simp; done) | (go_simp; rfl)); intro w13 hw; have hg : w11.grownBy w13 (some go10) := (by rw [hw]; exact HP12.2); have hp_ : Kd.R k77 77 w13 w.heap.size (fun _ => True) (.slice (some ⟨go10, 0, none⟩) x3_1.length co10) y273 := (by rw [hw, Ny273.out]; exact HP12.1); clear HP12; replace HO_3 := Aside0.mk (hp_); replace HB := Aside0.mk ((by rw [hw]; exact below_set (below_set (below_set (below_set (HB.out) GB10.out) GB10.out) GB10.out) GB10.out : Below w.heap.size w w13)); clear hg hw hp_))
        go_roundg k1
        case measure => have := HK1.out; omega
        case rel => exact ⟨(y273), (wrap64 (x4_1 + 1)), (by first | rfl | (simp; done) | (simp [*]; done)), H', ⟨by have := HK1.out; omega⟩, ⟨by (with_reducible repeat (first | apply Kd.R_alloc | apply Kd.R_drewN | apply Kd.R_drew)); exact HO_3.out⟩, ⟨Hd.b_⟩⟩
       ·
        rw [if_neg c9] at H
        exact absurd H (by simp)
      ·
       rw [if_neg c7] at H
       exact absurd H (by simp)
     ·
      rw [if_neg c6] at H
      have c6b0 : decide (x4_1 < (l0.length : Int)) = false := decide_eq_false c6
      clear c6
      obtain rfl := Option.some.inj H
      go_wp2
      go_ret
      exact ⟨_, Hd.e_, by (with_reducible repeat (first | apply Kd.R_alloc | apply Kd.R_drewN | apply Kd.R_drew)); exact HO_3.out, Hd.b_⟩
  ·
   rw [if_neg c3] at H
   exact absurd H (by simp)
 ·
  rw [if_neg c2] at H
  exact absurd H (by simp)
end Go.Proofs.Ytbackoeakepngab.MFnExactHiddenBy
