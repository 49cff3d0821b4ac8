-- Laid by this session's program pp.py, after the kit's print and texts of the session's own. Not trusted: Lean checks it.
import Derived.Test.YtchmbcembbbplaaZDropPointMx0
import Derived.Test.YtchmbcembbbplaaZDropPointMx1
import Derived.Test.YtchmbcembbbplaaZDropPointMx2
namespace Go.Proofs.Ytchmbcembbbplaa.MFnExactDropPoint
open Go.RowKit Go.Proofs.YtchmbcembbbplaaW.PrintWords Go.Proofs.YtchmbcembbbplaaW.PrintLast Go.Proofs.YtchmbcembbbplaaW.PrintMore
attribute [local go_sem] max2_int min2_int max_two min_two max_three min_three max_four min_four   -- for this text's walks alone
set_option linter.unusedVariables false
set_option linter.unusedSimpArgs false
attribute [local go_sem high] eqA44
def spec_DropPoint.j0 : Nat → List (S44) → Int → Bool → Option ((List (S44)) × Bool)
 | 0, _, _, _ => none
 | k + 1, x0, x1, x17 => if x17 = true then ((some (([] : List (S44)) : List (S44))).bind fun y126 => (if y126.length + x0.length < 8796093022208 then (some ((y126 ++ x0), false)) else (none))) else ((some (([] : List (S44)) : List (S44))).bind fun y132 => (if 0 ≤ x1 then (if x1 ≤ (x0.length : Int) then ((some (x0.take (x1 : Int).toNat : List (S44))).bind fun y135 => (if y132.length + y135.length < 8796093022208 then ((some (y132 ++ y135 : List (S44))).bind fun y139 => (if 0 ≤ (wrap64 (x1 + 1)) then (if (wrap64 (x1 + 1)) ≤ (x0.length : Int) then ((some (x0.drop ((wrap64 (x1 + 1)) : Int).toNat : List (S44))).bind fun y142 => (if y139.length + y142.length < 8796093022208 then ((some (y139 ++ y142 : List (S44))).bind fun y146 => ((spec_IsLine.f k y146).bind fun t149 => (if t149 = true then (some (y146, true)) else ((some (([] : List (S44)) : List (S44))).bind fun y150 => (if y150.length + x0.length < 8796093022208 then (some ((y150 ++ x0), false)) else (none)))))) else (none))) else (none)) else (none))) else (none))) else (none)) else (none)))
def spec_DropPoint.f (k : Nat) (l0 : List (S44)) (a1 : Int) : Option ((List (S44)) × Bool) := (spec_IsLine.f k l0).bind fun t124 => (if t124 = true then ((spec_l1In.f a1 1 (wrap64 ((l0.length : Int) - 2))).bind fun t125 => (spec_DropPoint.j0 k l0 a1 (!t125))) else (spec_DropPoint.j0 k l0 a1 true))
def spec_DropPoint.T3 : Bool × List (List Nat × List Nat) := (true, [([], []), ([], []), ([], []), ([1, 2], [1, 2]), ([0, 3], [0, 3]), ([], []), ([], []), ([6], [6]), ([5, 7], [5, 7]), ([4, 8, 4], [4, 8]), ([9, 9, 0, 1, 2, 3, 4, 5, 6, 7, 8, 9], [9])])
def spec_DropPoint.B3 : List Nat := [0, 0, 0, 6, 15, 0, 0, 64, 224, 511, 1023]
theorem spec_DropPoint.tab3 : rtab .any (opsOf Try.f65 3) = spec_DropPoint.T3 := by kernel_rfl
theorem spec_DropPoint.bits3 : waitsOk spec_DropPoint.T3.2 spec_DropPoint.B3 = true := by kernel_rfl
set_option maxHeartbeats 8000000 in
set_option maxRecDepth 100000 in
theorem spec_DropPoint.calls (k : Nat) (A0 : Option Addr) (c0 : Nat) (l0 : List (S44)) (a1 : Int) (r1 : List (S44)) (r2 : Bool) (w : World) (hr0 : Kd.C k44 w A0 l0.length l0) (hc0 : l0.length ≤ c0) (h : spec_DropPoint.f k l0 a1 = some (r1, r2)) :
  Calls Try.prog 65 #[.slice A0 l0.length c0, .int .i64 a1] w fun e w' => ∃ v0_ : Value, e = .returned (.tuple #[v0_, .bool r2]) ∧ Kd.R k44 44 w' w.heap.size (fun _ => True) v0_ r1 ∧ Below w.heap.size w w' := by
 have HR0 := Aside0.mk hr0
 have HC0 := Aside0.mk hc0
 clear hr0 hc0
 have HB := Aside0.mk (Below.refl w.heap.size w)
 have H : ((spec_IsLine.f k l0).bind fun t124 => (if t124 = true then ((spec_l1In.f a1 1 (wrap64 ((l0.length : Int) - 2))).bind fun t125 => (spec_DropPoint.j0 k l0 a1 (!t125))) else (spec_DropPoint.j0 k l0 a1 true))) = some (r1, r2) := h
 clear h
 have HC3 := Aside0.mk H
 clear H
 go_enter Try.func65, Try.ntmps65
 go_upto_region 1 with (fail)
 go_cut [17] (fun v17 wc => ∃ (kq : Nat) (x17_2 : Bool), v17 = .bool x17_2 ∧ Aside0 (spec_DropPoint.j0 kq l0 a1 x17_2 = some (r1, r2)) ∧ Aside0 (kq ≤ k) ∧ Aside0 (Below w.heap.size w wc))
 case first =>
  have H := HC3.out
  clear HC3
  replace H := Option.bind_eq_some_iff.mp H
  obtain ⟨t124, A40, H⟩ := H
  replace H : (if t124 = true then ((spec_l1In.f a1 1 (wrap64 ((l0.length : Int) - 2))).bind fun t125 => (spec_DropPoint.j0 k l0 a1 (!t125))) else (spec_DropPoint.j0 k l0 a1 true)) = some (r1, r2) := H
  have A4 := Aside0.mk A40
  clear A40
  by_cases c5 : t124 = true
  ·
   subst c5
   have H1 : ((spec_l1In.f a1 1 (wrap64 ((l0.length : Int) - 2))).bind fun t125 => (spec_DropPoint.j0 k l0 a1 (!t125))) = some (r1, r2) := by rw [if_pos rfl] at H; exact H
   clear H
   have H := H1
   clear H1
   replace H := Option.bind_eq_some_iff.mp H
   obtain ⟨t125, A60, H⟩ := H
   replace H : (spec_DropPoint.j0 k l0 a1 (!t125)) = some (r1, r2) := H
   have A6 := Aside0.mk A60
   clear A60
   have H' := Aside0.mk H
   clear H
   go_wp2_with (first | ((with_reducible refine gate_callee (f := 96) rfl ?_); refine goesL_ (some 8) rfl rfl Try.func96 (by kernel_rfl) rfl #[.slice A0 l0.length c0] rfl Hd.m_ ?_; (with_reducible refine (spec_IsLine.calls k _ _ l0 true _ ?side1 ?side2 A4.out).mono ?_); (case side1 => repeat (first | exact (Kd.C_below HR0.out HB.out) | (with_reducible refine Kd.C_alloc ?_ _) | (with_reducible refine Kd.C_drewN ?_ _) | (with_reducible refine Kd.C_drew ?_))); (case side2 => exact HC0.out); rintro e w7 ⟨rfl, hb⟩; refine ⟨_, rfl, ?_⟩; replace HB := Aside0.mk (below_step Hd.b_ hb); (try clear hb); (try clear hb2); (try clear hk); (try clear hi)) | (go_at_call 88; (with_reducible refine (spec_l1In.calls a1 1 (wrap64 ((l0.length : Int) - 2)) t125 _ A6.out).mono ?_); rintro e w' ⟨rfl, ⟨nd, rfl⟩⟩))
   go_meet
   case rel => exact ⟨_, (!t125), (by first | rfl | (simp; done) | (simp [*]; done)), H', ⟨by first | omega | exact Nat.le_refl _⟩, ⟨Hd.b_⟩⟩
  ·
   replace c5 := Bool.eq_false_iff.mpr c5
   subst c5
   have H1 : (spec_DropPoint.j0 k l0 a1 true) = some (r1, r2) := by rw [if_neg (show ¬ (false = true) by decide)] at H; exact H
   clear H
   have H := H1
   clear H1
   have H' := Aside0.mk H
   clear H
   go_wp2_with (first | ((with_reducible refine gate_callee (f := 96) rfl ?_); refine goesL_ (some 8) rfl rfl Try.func96 (by kernel_rfl) rfl #[.slice A0 l0.length c0] rfl Hd.m_ ?_; (with_reducible refine (spec_IsLine.calls k _ _ l0 false _ ?side1 ?side2 A4.out).mono ?_); (case side1 => repeat (first | exact (Kd.C_below HR0.out HB.out) | (with_reducible refine Kd.C_alloc ?_ _) | (with_reducible refine Kd.C_drewN ?_ _) | (with_reducible refine Kd.C_drew ?_))); (case side2 => exact HC0.out); rintro e w8 ⟨rfl, hb⟩; refine ⟨_, rfl, ?_⟩; replace HB := Aside0.mk (below_step Hd.b_ hb); (try clear hb); (try clear hb2); (try clear hk); (try clear hi)))
   go_meet
   case rel => exact ⟨_, (true), (by first | rfl | (simp; done) | (simp [*]; done)), H', ⟨by first | omega | exact Nat.le_refl _⟩, ⟨Hd.b_⟩⟩
 case rest =>
  clear HC3
  try clear p2
  try clear c5
  try clear c6
  try clear p6
  obtain ⟨kq, x17_2, rfl, HA, HJ2, HB⟩ := hcut
  cases kq with
  | zero => exact absurd HA.out (by simp [spec_DropPoint.j0])
  | succ kj2 =>
   have H := HA.out
   clear HA
   simp only [spec_DropPoint.j0] at H
   by_cases c9 : x17_2 = true
   ·
    subst c9
    have H1 : ((some (([] : List (S44)) : List (S44))).bind fun y126 => (if y126.length + l0.length < 8796093022208 then (some ((y126 ++ l0), false)) else (none))) = some (r1, r2) := by rw [if_pos rfl] at H; exact H
    clear H
    have H := H1
    clear H1
    obtain ⟨y126, hy126⟩ : ∃ y_ : List (S44), y_ = (([] : List (S44))) := ⟨_, rfl⟩
    replace H : (if y126.length + l0.length < 8796093022208 then (some ((y126 ++ l0), false)) else (none)) = some (r1, r2) := by first | (rw [hy126]; with_reducible exact H) | (have H2_ := (Option.bind_some _ _).symm.trans H; rw [hy126]; with_reducible exact H2_) | (have H2_ := (Option.bind_some _ _).symm.trans H; with_reducible exact H2_) | with_reducible exact H | (rw [hy126]; exact H) | exact H
    have Ny126 := Aside0.mk hy126
    clear hy126
    by_cases c10 : y126.length + l0.length < 8796093022208
    ·
     rw [if_pos c10] at H
     have LMc10 := Aside0.mk c10
     clear c10
     obtain ⟨y129, hy129⟩ : ∃ y_ : List (S44), y_ = (y126 ++ l0) := ⟨_, rfl⟩
     replace H : (some (y129, false)) = some (r1, r2) := by first | (rw [hy129]; with_reducible exact H) | (have H2_ := (Option.bind_some _ _).symm.trans H; rw [hy129]; with_reducible exact H2_) | (have H2_ := (Option.bind_some _ _).symm.trans H; with_reducible exact H2_) | with_reducible exact H | (rw [hy129]; exact H) | exact H
     have Ny129 := Aside0.mk hy129
     clear hy129
     simp only [Option.some.injEq, Prod.mk.injEq] at H
     obtain ⟨rfl, rfl⟩ := H
     go_wp2_with (first | ((with_reducible refine gate_dst (N := 18) rfl ?_); (try (refine gate_guard (by rfl) ?_; dsimp only)); refine Kd.R_lit k44 _ 44 ?hg (N := 18) ?hd (xs := ([] : List (S44))) (inner := []) (ok := fun _ => True) (okp := fun _ => True) ?hr ?hp (fun _ hk => hk) trivial (Below.refl _ _) (Nat.le_refl _) (by simp) ?_; (case hd => rfl); (case hg => rfl); (case hr => first | (go_simp; done) | (go_simp; rfl)); (case hp => exact (Reps.none _ _)); intro v127 w11 ho12 hb hg_ hnew_; clear hg_ hnew_; (first | rw [← Ny126.out] at ho12 | (simp only [Int.reduceToNat] at ho12; rw [← Ny126.out] at ho12)); have HO128 := Aside0.mk (Kd.R_lower ho12 (below_size Hd.b_)); replace HB := Aside0.mk (below_step Hd.b_ hb); clear hb ho12) | ((with_reducible refine gate_builtin (b := .append) (xs := #[.tmp 18, .tmp 19]) rfl ?_); (try (refine gate_guard (by rfl) ?_; dsimp only)); at_builtin; refine Kd.R_append_rows k44 (w0 := w) w.heap.size rfl (.tmp 18) (.tmp 19) 25 44 (.agg #[(.int .i64 0), (.int .i64 0)]) 16 rfl Try.underlying25 info44 rfl (by decide) (by omega) v127 y126 l0 _ _ _ (fun _ => True) (fun _ => False) rfl rfl ?aO ?aR (fun _ _ h => h) (fun _ h => h.elim) ?aF ?aB ?aS ?aL ?_; (case aR => repeat (first | exact (Kd.C_below HR0.out HB.out) | (with_reducible refine Kd.C_alloc ?_ _) | (with_reducible refine Kd.C_drewN ?_ _) | (with_reducible refine Kd.C_drew ?_))); (case aB => exact Hd.b_); (case aF => exact (fun _ _ => trivial)); (case aO => exact (Hd.r_ HO128)); (case aS => exact (below_size Hd.b_)); (case aL => have := LMc10.out; omega); intro v130 w13 ho hb hg hat; rw [← Ny129.out] at ho; have n0_ := Aside0.mk (hb); have n1_ := Aside0.mk (ho); clear HB; clear HO128; have HB := n0_; have HO131 := n1_; clear n0_ n1_; clear ho hb hg hat))
     go_ret2
     exact ⟨_, Hd.e_, by (with_reducible repeat (first | apply Kd.R_alloc | apply Kd.R_drewN | apply Kd.R_drew)); exact HO131.out, Hd.b_⟩
    ·
     rw [if_neg c10] at H
     exact absurd H (by simp)
   ·
    replace c9 := Bool.eq_false_iff.mpr c9
    subst c9
    have H1 : ((some (([] : List (S44)) : List (S44))).bind fun y132 => (if 0 ≤ a1 then (if a1 ≤ (l0.length : Int) then ((some (l0.take (a1 : Int).toNat : List (S44))).bind fun y135 => (if y132.length + y135.length < 8796093022208 then ((some (y132 ++ y135 : List (S44))).bind fun y139 => (if 0 ≤ (wrap64 (a1 + 1)) then (if (wrap64 (a1 + 1)) ≤ (l0.length : Int) then ((some (l0.drop ((wrap64 (a1 + 1)) : Int).toNat : List (S44))).bind fun y142 => (if y139.length + y142.length < 8796093022208 then ((some (y139 ++ y142 : List (S44))).bind fun y146 => ((spec_IsLine.f kj2 y146).bind fun t149 => (if t149 = true then (some (y146, true)) else ((some (([] : List (S44)) : List (S44))).bind fun y150 => (if y150.length + l0.length < 8796093022208 then (some ((y150 ++ l0), false)) else (none)))))) else (none))) else (none)) else (none))) else (none))) else (none)) else (none))) = some (r1, r2) := by rw [if_neg (show ¬ (false = true) by decide)] at H; exact H
    clear H
    have H := H1
    clear H1
    obtain ⟨y132, hy132⟩ : ∃ y_ : List (S44), y_ = (([] : List (S44))) := ⟨_, rfl⟩
    replace H : (if 0 ≤ a1 then (if a1 ≤ (l0.length : Int) then ((some (l0.take (a1 : Int).toNat : List (S44))).bind fun y135 => (if y132.length + y135.length < 8796093022208 then ((some (y132 ++ y135 : List (S44))).bind fun y139 => (if 0 ≤ (wrap64 (a1 + 1)) then (if (wrap64 (a1 + 1)) ≤ (l0.length : Int) then ((some (l0.drop ((wrap64 (a1 + 1)) : Int).toNat : List (S44))).bind fun y142 => (if y139.length + y142.length < 8796093022208 then ((some (y139 ++ y142 : List (S44))).bind fun y146 => ((spec_IsLine.f kj2 y146).bind fun t149 => (if t149 = true then (some (y146, true)) else ((some (([] : List (S44)) : List (S44))).bind fun y150 => (if y150.length + l0.length < 8796093022208 then (some ((y150 ++ l0), false)) else (none)))))) else (none))) else (none)) else (none))) else (none))) else (none)) else (none)) = some (r1, r2) := by first | (rw [hy132]; with_reducible exact H) | (have H2_ := (Option.bind_some _ _).symm.trans H; rw [hy132]; with_reducible exact H2_) | (have H2_ := (Option.bind_some _ _).symm.trans H; with_reducible exact H2_) | with_reducible exact H | (rw [hy132]; exact H) | exact H
    have Ny132 := Aside0.mk hy132
    clear hy132
    by_cases c14 : 0 ≤ a1
    ·
     rw [if_pos c14] at H
     have c14b0 := eq_true c14
     have c14b1 : decide (0 ≤ a1) = true := decide_eq_true c14
     clear c14
     by_cases c15 : a1 ≤ (l0.length : Int)
     ·
      rw [if_pos c15] at H
      have c15b0 := eq_true c15
      have c15b1 : decide (a1 ≤ (l0.length : Int)) = true := decide_eq_true c15
      clear c15
      obtain ⟨y135, hy135⟩ : ∃ y_ : List (S44), y_ = (l0.take (a1 : Int).toNat) := ⟨_, rfl⟩
      replace H : (if y132.length + y135.length < 8796093022208 then ((some (y132 ++ y135 : List (S44))).bind fun y139 => (if 0 ≤ (wrap64 (a1 + 1)) then (if (wrap64 (a1 + 1)) ≤ (l0.length : Int) then ((some (l0.drop ((wrap64 (a1 + 1)) : Int).toNat : List (S44))).bind fun y142 => (if y139.length + y142.length < 8796093022208 then ((some (y139 ++ y142 : List (S44))).bind fun y146 => ((spec_IsLine.f kj2 y146).bind fun t149 => (if t149 = true then (some (y146, true)) else ((some (([] : List (S44)) : List (S44))).bind fun y150 => (if y150.length + l0.length < 8796093022208 then (some ((y150 ++ l0), false)) else (none)))))) else (none))) else (none)) else (none))) else (none)) = some (r1, r2) := by first | (rw [hy135]; with_reducible exact H) | (have H2_ := (Option.bind_some _ _).symm.trans H; rw [hy135]; with_reducible exact H2_) | (have H2_ := (Option.bind_some _ _).symm.trans H; with_reducible exact H2_) | with_reducible exact H | (rw [hy135]; exact H) | exact H
      have Ny135 := Aside0.mk hy135
      clear hy135
      by_cases c16 : y132.length + y135.length < 8796093022208
      ·
       rw [if_pos c16] at H
       have LMc16 := Aside0.mk c16
       clear c16
       obtain ⟨y139, hy139⟩ : ∃ y_ : List (S44), y_ = (y132 ++ y135) := ⟨_, rfl⟩
       replace H : (if 0 ≤ (wrap64 (a1 + 1)) then (if (wrap64 (a1 + 1)) ≤ (l0.length : Int) then ((some (l0.drop ((wrap64 (a1 + 1)) : Int).toNat : List (S44))).bind fun y142 => (if y139.length + y142.length < 8796093022208 then ((some (y139 ++ y142 : List (S44))).bind fun y146 => ((spec_IsLine.f kj2 y146).bind fun t149 => (if t149 = true then (some (y146, true)) else ((some (([] : List (S44)) : List (S44))).bind fun y150 => (if y150.length + l0.length < 8796093022208 then (some ((y150 ++ l0), false)) else (none)))))) else (none))) else (none)) else (none)) = some (r1, r2) := by first | (rw [hy139]; with_reducible exact H) | (have H2_ := (Option.bind_some _ _).symm.trans H; rw [hy139]; with_reducible exact H2_) | (have H2_ := (Option.bind_some _ _).symm.trans H; with_reducible exact H2_) | with_reducible exact H | (rw [hy139]; exact H) | exact H
       have Ny139 := Aside0.mk hy139
       clear hy139
       obtain ⟨ji17, hji17⟩ : ∃ j_ : Int, (wrap64 (a1 + 1)) = j_ := ⟨_, rfl⟩
       replace H : (if 0 ≤ (ji17) then (if (ji17) ≤ (l0.length : Int) then ((some (l0.drop ((ji17) : Int).toNat : List (S44))).bind fun y142 => (if y139.length + y142.length < 8796093022208 then ((some (y139 ++ y142 : List (S44))).bind fun y146 => ((spec_IsLine.f kj2 y146).bind fun t149 => (if t149 = true then (some (y146, true)) else ((some (([] : List (S44)) : List (S44))).bind fun y150 => (if y150.length + l0.length < 8796093022208 then (some ((y150 ++ l0), false)) else (none)))))) else (none))) else (none)) else (none)) = some (r1, r2) := by first | (rw [hji17] at H; exact H) | (simp only [hji17] at H ⊢; exact H)
       have hji17w : (IntKind.i64.wrap (a1 + 1)) = ji17 := (i64_w _).trans hji17
       by_cases c18 : 0 ≤ (ji17)
       ·
        rw [if_pos c18] at H
        have c18b0 := eq_true c18
        have c18b1 : decide (0 ≤ (ji17)) = true := decide_eq_true c18
        clear c18
        by_cases c19 : (ji17) ≤ (l0.length : Int)
        ·
         rw [if_pos c19] at H
         have c19b0 := eq_true c19
         have c19b1 : decide ((ji17) ≤ (l0.length : Int)) = true := decide_eq_true c19
         clear c19
         obtain ⟨y142, hy142⟩ : ∃ y_ : List (S44), y_ = (l0.drop ((ji17) : Int).toNat) := ⟨_, rfl⟩
         replace H : (if y139.length + y142.length < 8796093022208 then ((some (y139 ++ y142 : List (S44))).bind fun y146 => ((spec_IsLine.f kj2 y146).bind fun t149 => (if t149 = true then (some (y146, true)) else ((some (([] : List (S44)) : List (S44))).bind fun y150 => (if y150.length + l0.length < 8796093022208 then (some ((y150 ++ l0), false)) else (none)))))) else (none)) = some (r1, r2) := by first | (rw [hy142]; with_reducible exact H) | (have H2_ := (Option.bind_some _ _).symm.trans H; rw [hy142]; with_reducible exact H2_) | (have H2_ := (Option.bind_some _ _).symm.trans H; with_reducible exact H2_) | with_reducible exact H | (rw [hy142]; exact H) | exact H
         have Ny142 := Aside0.mk hy142
         clear hy142
         by_cases c20 : y139.length + y142.length < 8796093022208
         ·
          rw [if_pos c20] at H
          have LMc20 := Aside0.mk c20
          clear c20
          obtain ⟨y146, hy146⟩ : ∃ y_ : List (S44), y_ = (y139 ++ y142) := ⟨_, rfl⟩
          replace H : ((spec_IsLine.f kj2 y146).bind fun t149 => (if t149 = true then (some (y146, true)) else ((some (([] : List (S44)) : List (S44))).bind fun y150 => (if y150.length + l0.length < 8796093022208 then (some ((y150 ++ l0), false)) else (none))))) = some (r1, r2) := by first | (rw [hy146]; with_reducible exact H) | (have H2_ := (Option.bind_some _ _).symm.trans H; rw [hy146]; with_reducible exact H2_) | (have H2_ := (Option.bind_some _ _).symm.trans H; with_reducible exact H2_) | with_reducible exact H | (rw [hy146]; exact H) | exact H
          have Ny146 := Aside0.mk hy146
          clear hy146
          replace H := Option.bind_eq_some_iff.mp H
          obtain ⟨t149, A210, H⟩ := H
          replace H : (if t149 = true then (some (y146, true)) else ((some (([] : List (S44)) : List (S44))).bind fun y150 => (if y150.length + l0.length < 8796093022208 then (some ((y150 ++ l0), false)) else (none)))) = some (r1, r2) := H
          have A21 := Aside0.mk A210
          clear A210
          by_cases c22 : t149 = true
          ·
           subst c22
           have H1 : (some (y146, true)) = some (r1, r2) := by rw [if_pos rfl] at H; exact H
           clear H
           have H := H1
           clear H1
           simp only [Option.some.injEq, Prod.mk.injEq] at H
           obtain ⟨rfl, rfl⟩ := H
           try go_wp2
           replace HB := Aside0.mk (below_drew1 HB.out)
           have q24 : (a1 : Int) ≤ ((l0.length : Int) : Int) := of_decide_eq_true Hd.a_
           obtain ⟨i024, hi024, _, hsz24, _⟩ := info_parts info44
           have hroom24 : l0.length ≤ c0 := HC0.out
           have hC24 : Kd.C k44 _ A0 l0.length l0 := HR0.out
           have hcut24 := cut_to (P := Try.prog) 25 44 .i64 Try.underlying25 hi024 A0 l0.length c0 a1 (of_decide_eq_true Hd.a_) q24 hroom24
           have hr24 := Kd.C_take (m := (a1 : Int).toNat) hC24 (by omega)
           have hy24 : y135.length = (a1 : Int).toNat := (by rw [Ny135.out, List.length_take]; omega)
           rw [← Ny135.out] at hr24
           rw [← hy24] at hcut24
           have HR138 := Aside0.mk hr24
           have HC138 := Aside0.mk (show y135.length ≤ c0 from by omega)
           clear hr24 hC24 hroom24 hi024 hsz24
           have KY24 := Aside0.mk hy24
           clear hy24
           replace q24 := eq_true q24
           have q25 : ((ji17) : Int) ≤ ((l0.length : Int) : Int) := of_decide_eq_true Hd.a_
           obtain ⟨i025, hi025, _, hsz25, _⟩ := info_parts info44
           have hroom25 : l0.length ≤ c0 := HC0.out
           have hC25 : Kd.C k44 _ A0 l0.length l0 := HR0.out
           have q025 : (0 : Int) ≤ ((ji17) : Int) := of_decide_eq_true Hd.a_
           have hcut25 := cut_from (P := Try.prog) 25 44 .i64 Try.underlying25 hi025 2 hsz25 A0 l0.length c0 (ji17) q025 q25
           have hr25 := Kd.C_drop (m := ((ji17) : Int).toNat) (c := c0) hC25 (by omega) hroom25
           obtain ⟨A25, hA25⟩ : ∃ A1, A1 = (if c0 = ((ji17) : Int).toNat then A0 else (A0 : Option Addr).map (·.add (((ji17) : Int).toNat * 2))) := ⟨_, rfl⟩
           obtain ⟨c25, hc25⟩ : ∃ c1, c1 = c0 - ((ji17) : Int).toNat := ⟨_, rfl⟩
           have hy25 : y142.length = l0.length - ((ji17) : Int).toNat := (by rw [Ny142.out, List.length_drop] <;> omega)
           rw [show (l0).drop ((ji17) : Int).toNat = y142 from Ny142.out.symm] at hr25
           replace hr25 : Kd.C k44 _ A25 y142.length y142 := (by rw [hA25]; exact hr25)
           rw [← hy25, ← hA25, ← hc25] at hcut25
           have HR145 := Aside0.mk hr25
           have HC145 := Aside0.mk (show y142.length ≤ c25 from by rw [hy25, hc25]; exact Nat.sub_le_sub_right hroom25 _)
           clear hr25 hC25 hroom25 hi025 hsz25 hc25
           have KY25 := Aside0.mk hy25
           have KA25 := Aside0.mk hA25
           clear hy25 hA25
           replace q25 := eq_true q25
           refine start_ (n := 11) (S := fun w' => True) (ds := []) #[false, false, false, false, false, false, false, false, false, false, false] (by kernel_rfl) rfl rfl trivial (fun hHeld => ?_); refine with_tabW spec_DropPoint.tab3 spec_DropPoint.bits3 (fun HT_ HW_ => ?_)
           generalize wc.drew = w23 at HB HR138 HR145 hHeld ⊢
           refine Hd.p_ HT_ 1 (some 22) #[false, true, false, false, false, false, false, false, false, false, false] ?_
           refine Hd.p_ HT_ 2 (some 23) #[false, true, true, false, false, false, false, false, false, false, false] ?_
           refine Hd.p_ HT_ 3 (some 24) #[false, true, true, true, false, false, false, false, false, false, false] ?_
           refine Hd.p_ HT_ 5 (some 26) #[false, true, true, true, false, true, false, false, false, false, false] ?_
           refine Hd.p_ HT_ 6 (some 27) #[false, true, true, true, false, true, true, false, false, false, false] ?_
           refine Hd.p_ HT_ 7 (some 28) #[false, true, true, true, false, true, true, true, false, false, false] ?_
           refine Hd.p_ HT_ 8 (some 29) #[false, true, true, true, false, true, true, true, true, false, false] ?_
           refine Hd.o_ HT_ 0 (some 21) #[true, true, true, true, false, true, true, true, true, false, false] (fun K hK => ?_)
           refine Kd.R_lit_step k44 _ 44 ?hg (N := 21) ?hd (xs := ([] : List (S44))) (inner := []) (ok := fun _ => True) (okp := fun _ => True) ?hr ?hp (fun _ hk => hk) trivial (Below.refl _ _) (Nat.le_refl _) (by simp) ?_; (case hd => rfl); (case hg => rfl); (case hr => first | (go_simp; done) | (go_simp; rfl)); (case hp => exact (Reps.none _ _))
           intro v133 w26 ho27 hb hg_ hnew_
           clear hg_ hnew_
           (first | rw [← Ny132.out] at ho27 | (simp only [Int.reduceToNat] at ho27; rw [← Ny132.out] at ho27))
           have HO134 := Aside0.mk (Kd.R_lower ho27 (below_size Hd.b_))
           replace HB := Aside0.mk (below_step Hd.b_ hb)
           clear hb ho27
           refine hK.out _ _ trivial (fun hHeld => ?_)
           clear hK K
           refine Hd.n_ (some 21) ?_
           refine Hd.o_ HT_ 4 (some 25) #[true, true, true, true, true, true, true, true, true, false, false] (fun K hK => ?_)
           refine Kd.R_append_rows_step k44 (w0 := w) w.heap.size (by rfl) (.tmp 21) (.tmp 24) 25 44 (.agg #[(.int .i64 0), (.int .i64 0)]) 16 rfl Try.underlying25 info44 rfl (by decide) (by omega) v133 y132 y135 _ _ _ (fun _ => True) (fun _ => False) rfl rfl ?aO ?aR (fun _ _ h => h) (fun _ h => h.elim) ?aF ?aB ?aS ?aL ?_
           (case aR => repeat (first | exact (Kd.C_below HR138.out HB.out) | (with_reducible refine Kd.C_alloc ?_ _) | (with_reducible refine Kd.C_drewN ?_ _) | (with_reducible refine Kd.C_drew ?_)))
           (case aB => exact Hd.b_)
           (case aF => exact (fun _ _ => trivial))
           (case aO => exact (Hd.r_ HO134))
           (case aS => exact (below_size Hd.b_))
           (case aL => have := LMc16.out; omega)
           intro v140 w28 ho hb hg hat
           rw [← Ny139.out] at ho
           have n0_ := Aside0.mk (hb)
           have n1_ := Aside0.mk (ho)
           clear HB
           clear HO134
           have HB := n0_
           have HO141 := n1_
           clear n0_ n1_
           clear ho hb hg hat
           refine hK.out _ _ trivial (fun hHeld => ?_)
           clear hK K
           refine Hd.n_ (some 25) ?_
           refine Hd.o_ HT_ 9 (some 30) #[true, true, true, true, true, true, true, true, true, true, false] (fun K hK => ?_)
           refine Kd.R_append_rows_step k44 (w0 := w) w.heap.size (by rfl) (.tmp 25) (.tmp 29) 25 44 (.agg #[(.int .i64 0), (.int .i64 0)]) 16 rfl Try.underlying25 info44 rfl (by decide) (by omega) v140 y139 y142 _ _ _ (fun _ => True) (fun _ => False) rfl rfl ?aO ?aR (fun _ _ h => h) (fun _ h => h.elim) ?aF ?aB ?aS ?aL ?_
           (case aR => repeat (first | exact (Kd.C_below HR145.out HB.out) | (with_reducible refine Kd.C_alloc ?_ _) | (with_reducible refine Kd.C_drewN ?_ _) | (with_reducible refine Kd.C_drew ?_)))
           (case aB => exact Hd.b_)
           (case aF => exact (fun _ _ => trivial))
           (case aO => exact (Hd.r_ HO141))
           (case aS => exact (below_size Hd.b_))
           (case aL => have := LMc20.out; omega)
           intro v147 w29 ho hb hg hat
           rw [← Ny146.out] at ho
           have n0_ := Aside0.mk (hb)
           have n1_ := Aside0.mk (ho)
           clear HB
           clear HO141
           have HB := n0_
           have HO148 := n1_
           clear n0_ n1_
           clear ho hb hg hat
           refine hK.out _ _ trivial (fun hHeld => ?_)
           clear hK K
           refine Hd.n_ (some 30) ?_
           refine Hd.p_ HT_ 10 (some 6) #[true, true, true, true, true, true, true, true, true, true, true] ?_
           refine done_ (done_of HT_.out (by kernel_rfl)) ?_
           obtain ⟨Ao30, co30, eo30⟩ := Kd.R_slice HO148.out
           subst eo30
           try go_wp2_with (first | ((with_reducible refine gate_callee (f := 96) rfl ?_); refine goesL_ (some 32) rfl rfl Try.func96 (by kernel_rfl) rfl #[.slice Ao30 y146.length co30] rfl Hd.m_ ?_; (with_reducible refine (spec_IsLine.calls kj2 _ _ y146 true _ ?side1 ?side2 A21.out).mono ?_); (case side1 => repeat (first | exact (Kd.R_reads' HO148.out).2.2 | (with_reducible refine Kd.C_alloc ?_ _) | (with_reducible refine Kd.C_drewN ?_ _) | (with_reducible refine Kd.C_drew ?_))); (case side2 => exact (Kd.R_reads' HO148.out).2.1); rintro e w31 ⟨rfl, hb⟩; refine ⟨_, rfl, ?_⟩; replace HO148 := Aside0.mk (Kd.R_below (Hd.r_ HO148) hb); replace HB := Aside0.mk (below_step Hd.b_ hb); (try clear hb); (try clear hb2); (try clear hk); (try clear hi)))
           go_ret2
           exact ⟨_, by first | rfl | (simp [errW_none, errW_some] <;> rfl) | (simp only [← hji17]; first | rfl | (simp [errW_none, errW_some] <;> rfl)) | (simp [*, errW_none, errW_some] <;> rfl), by (with_reducible repeat (first | apply Kd.R_alloc | apply Kd.R_drewN | apply Kd.R_drew)); exact HO148.out, Hd.b_⟩
          ·
           replace c22 := Bool.eq_false_iff.mpr c22
           subst c22
           have H1 : ((some (([] : List (S44)) : List (S44))).bind fun y150 => (if y150.length + l0.length < 8796093022208 then (some ((y150 ++ l0), false)) else (none))) = some (r1, r2) := by rw [if_neg (show ¬ (false = true) by decide)] at H; exact H
           clear H
           have H := H1
           clear H1
           obtain ⟨y150, hy150⟩ : ∃ y_ : List (S44), y_ = (([] : List (S44))) := ⟨_, rfl⟩
           replace H : (if y150.length + l0.length < 8796093022208 then (some ((y150 ++ l0), false)) else (none)) = some (r1, r2) := by first | (rw [hy150]; with_reducible exact H) | (have H2_ := (Option.bind_some _ _).symm.trans H; rw [hy150]; with_reducible exact H2_) | (have H2_ := (Option.bind_some _ _).symm.trans H; with_reducible exact H2_) | with_reducible exact H | (rw [hy150]; exact H) | exact H
           have Ny150 := Aside0.mk hy150
           clear hy150
           by_cases c32 : y150.length + l0.length < 8796093022208
           ·
            rw [if_pos c32] at H
            have LMc32 := Aside0.mk c32
            clear c32
            obtain ⟨y153, hy153⟩ : ∃ y_ : List (S44), y_ = (y150 ++ l0) := ⟨_, rfl⟩
            replace H : (some (y153, false)) = some (r1, r2) := by first | (rw [hy153]; with_reducible exact H) | (have H2_ := (Option.bind_some _ _).symm.trans H; rw [hy153]; with_reducible exact H2_) | (have H2_ := (Option.bind_some _ _).symm.trans H; with_reducible exact H2_) | with_reducible exact H | (rw [hy153]; exact H) | exact H
            have Ny153 := Aside0.mk hy153
            clear hy153
            simp only [Option.some.injEq, Prod.mk.injEq] at H
            obtain ⟨rfl, rfl⟩ := H
            try go_wp2
            replace HB := Aside0.mk (below_drew1 HB.out)
            have q34 : (a1 : Int) ≤ ((l0.length : Int) : Int) := of_decide_eq_true Hd.a_
            obtain ⟨i034, hi034, _, hsz34, _⟩ := info_parts info44
            have hroom34 : l0.length ≤ c0 := HC0.out
            have hC34 : Kd.C k44 _ A0 l0.length l0 := HR0.out
            have hcut34 := cut_to (P := Try.prog) 25 44 .i64 Try.underlying25 hi034 A0 l0.length c0 a1 (of_decide_eq_true Hd.a_) q34 hroom34
            have hr34 := Kd.C_take (m := (a1 : Int).toNat) hC34 (by omega)
            have hy34 : y135.length = (a1 : Int).toNat := (by rw [Ny135.out, List.length_take]; omega)
            rw [← Ny135.out] at hr34
            rw [← hy34] at hcut34
            have HR138 := Aside0.mk hr34
            have HC138 := Aside0.mk (show y135.length ≤ c0 from by omega)
            clear hr34 hC34 hroom34 hi034 hsz34
            have KY34 := Aside0.mk hy34
            clear hy34
            replace q34 := eq_true q34
            have q35 : ((ji17) : Int) ≤ ((l0.length : Int) : Int) := of_decide_eq_true Hd.a_
            obtain ⟨i035, hi035, _, hsz35, _⟩ := info_parts info44
            have hroom35 : l0.length ≤ c0 := HC0.out
            have hC35 : Kd.C k44 _ A0 l0.length l0 := HR0.out
            have q035 : (0 : Int) ≤ ((ji17) : Int) := of_decide_eq_true Hd.a_
            have hcut35 := cut_from (P := Try.prog) 25 44 .i64 Try.underlying25 hi035 2 hsz35 A0 l0.length c0 (ji17) q035 q35
            have hr35 := Kd.C_drop (m := ((ji17) : Int).toNat) (c := c0) hC35 (by omega) hroom35
            obtain ⟨A35, hA35⟩ : ∃ A1, A1 = (if c0 = ((ji17) : Int).toNat then A0 else (A0 : Option Addr).map (·.add (((ji17) : Int).toNat * 2))) := ⟨_, rfl⟩
            obtain ⟨c35, hc35⟩ : ∃ c1, c1 = c0 - ((ji17) : Int).toNat := ⟨_, rfl⟩
            have hy35 : y142.length = l0.length - ((ji17) : Int).toNat := (by rw [Ny142.out, List.length_drop] <;> omega)
            rw [show (l0).drop ((ji17) : Int).toNat = y142 from Ny142.out.symm] at hr35
            replace hr35 : Kd.C k44 _ A35 y142.length y142 := (by rw [hA35]; exact hr35)
            rw [← hy35, ← hA35, ← hc35] at hcut35
            have HR145 := Aside0.mk hr35
            have HC145 := Aside0.mk (show y142.length ≤ c35 from by rw [hy35, hc35]; exact Nat.sub_le_sub_right hroom35 _)
            clear hr35 hC35 hroom35 hi035 hsz35 hc35
            have KY35 := Aside0.mk hy35
            have KA35 := Aside0.mk hA35
            clear hy35 hA35
            replace q35 := eq_true q35
            refine start_ (n := 11) (S := fun w' => True) (ds := []) #[false, false, false, false, false, false, false, false, false, false, false] (by kernel_rfl) rfl rfl trivial (fun hHeld => ?_); refine with_tabW spec_DropPoint.tab3 spec_DropPoint.bits3 (fun HT_ HW_ => ?_)
            generalize wc.drew = w33 at HB HR138 HR145 hHeld ⊢
            refine Hd.p_ HT_ 1 (some 22) #[false, true, false, false, false, false, false, false, false, false, false] ?_
            refine Hd.p_ HT_ 2 (some 23) #[false, true, true, false, false, false, false, false, false, false, false] ?_
            refine Hd.p_ HT_ 3 (some 24) #[false, true, true, true, false, false, false, false, false, false, false] ?_
            refine Hd.p_ HT_ 5 (some 26) #[false, true, true, true, false, true, false, false, false, false, false] ?_
            refine Hd.p_ HT_ 6 (some 27) #[false, true, true, true, false, true, true, false, false, false, false] ?_
            refine Hd.p_ HT_ 7 (some 28) #[false, true, true, true, false, true, true, true, false, false, false] ?_
            refine Hd.p_ HT_ 8 (some 29) #[false, true, true, true, false, true, true, true, true, false, false] ?_
            refine Hd.o_ HT_ 0 (some 21) #[true, true, true, true, false, true, true, true, true, false, false] (fun K hK => ?_)
            refine Kd.R_lit_step k44 _ 44 ?hg (N := 21) ?hd (xs := ([] : List (S44))) (inner := []) (ok := fun _ => True) (okp := fun _ => True) ?hr ?hp (fun _ hk => hk) trivial (Below.refl _ _) (Nat.le_refl _) (by simp) ?_; (case hd => rfl); (case hg => rfl); (case hr => first | (go_simp; done) | (go_simp; rfl)); (case hp => exact (Reps.none _ _))
            intro v133 w36 ho37 hb hg_ hnew_
            clear hg_ hnew_
            (first | rw [← Ny132.out] at ho37 | (simp only [Int.reduceToNat] at ho37; rw [← Ny132.out] at ho37))
            have HO134 := Aside0.mk (Kd.R_lower ho37 (below_size Hd.b_))
            replace HB := Aside0.mk (below_step Hd.b_ hb)
            clear hb ho37
            refine hK.out _ _ trivial (fun hHeld => ?_)
            clear hK K
            refine Hd.n_ (some 21) ?_
            refine Hd.o_ HT_ 4 (some 25) #[true, true, true, true, true, true, true, true, true, false, false] (fun K hK => ?_)
            refine Kd.R_append_rows_step k44 (w0 := w) w.heap.size (by rfl) (.tmp 21) (.tmp 24) 25 44 (.agg #[(.int .i64 0), (.int .i64 0)]) 16 rfl Try.underlying25 info44 rfl (by decide) (by omega) v133 y132 y135 _ _ _ (fun _ => True) (fun _ => False) rfl rfl ?aO ?aR (fun _ _ h => h) (fun _ h => h.elim) ?aF ?aB ?aS ?aL ?_
            (case aR => repeat (first | exact (Kd.C_below HR138.out HB.out) | (with_reducible refine Kd.C_alloc ?_ _) | (with_reducible refine Kd.C_drewN ?_ _) | (with_reducible refine Kd.C_drew ?_)))
            (case aB => exact Hd.b_)
            (case aF => exact (fun _ _ => trivial))
            (case aO => exact (Hd.r_ HO134))
            (case aS => exact (below_size Hd.b_))
            (case aL => have := LMc16.out; omega)
            intro v140 w38 ho hb hg hat
            rw [← Ny139.out] at ho
            have n0_ := Aside0.mk (hb)
            have n1_ := Aside0.mk (ho)
            clear HB
            clear HO134
            have HB := n0_
            have HO141 := n1_
            clear n0_ n1_
            clear ho hb hg hat
            refine hK.out _ _ trivial (fun hHeld => ?_)
            clear hK K
            refine Hd.n_ (some 25) ?_
            refine Hd.o_ HT_ 9 (some 30) #[true, true, true, true, true, true, true, true, true, true, false] (fun K hK => ?_)
            refine Kd.R_append_rows_step k44 (w0 := w) w.heap.size (by rfl) (.tmp 25) (.tmp 29) 25 44 (.agg #[(.int .i64 0), (.int .i64 0)]) 16 rfl Try.underlying25 info44 rfl (by decide) (by omega) v140 y139 y142 _ _ _ (fun _ => True) (fun _ => False) rfl rfl ?aO ?aR (fun _ _ h => h) (fun _ h => h.elim) ?aF ?aB ?aS ?aL ?_
            (case aR => repeat (first | exact (Kd.C_below HR145.out HB.out) | (with_reducible refine Kd.C_alloc ?_ _) | (with_reducible refine Kd.C_drewN ?_ _) | (with_reducible refine Kd.C_drew ?_)))
            (case aB => exact Hd.b_)
            (case aF => exact (fun _ _ => trivial))
            (case aO => exact (Hd.r_ HO141))
            (case aS => exact (below_size Hd.b_))
            (case aL => have := LMc20.out; omega)
            intro v147 w39 ho hb hg hat
            rw [← Ny146.out] at ho
            have n0_ := Aside0.mk (hb)
            have n1_ := Aside0.mk (ho)
            clear HB
            clear HO141
            have HB := n0_
            have HO148 := n1_
            clear n0_ n1_
            clear ho hb hg hat
            refine hK.out _ _ trivial (fun hHeld => ?_)
            clear hK K
            refine Hd.n_ (some 30) ?_
            refine Hd.p_ HT_ 10 (some 6) #[true, true, true, true, true, true, true, true, true, true, true] ?_
            refine done_ (done_of HT_.out (by kernel_rfl)) ?_
            obtain ⟨Ao40, co40, eo40⟩ := Kd.R_slice HO148.out
            subst eo40
            try go_wp2_with (first | ((with_reducible refine gate_callee (f := 96) rfl ?_); refine goesL_ (some 32) rfl rfl Try.func96 (by kernel_rfl) rfl #[.slice Ao40 y146.length co40] rfl Hd.m_ ?_; (with_reducible refine (spec_IsLine.calls kj2 _ _ y146 false _ ?side1 ?side2 A21.out).mono ?_); (case side1 => repeat (first | exact (Kd.R_reads' HO148.out).2.2 | (with_reducible refine Kd.C_alloc ?_ _) | (with_reducible refine Kd.C_drewN ?_ _) | (with_reducible refine Kd.C_drew ?_))); (case side2 => exact (Kd.R_reads' HO148.out).2.1); rintro e w41 ⟨rfl, hb⟩; refine ⟨_, rfl, ?_⟩; replace HO148 := Aside0.mk (Kd.R_below (Hd.r_ HO148) hb); replace HB := Aside0.mk (below_step Hd.b_ hb); (try clear hb); (try clear hb2); (try clear hk); (try clear hi)) | ((with_reducible refine gate_dst (N := 34) rfl ?_); (try (refine gate_guard (by rfl) ?_; dsimp only)); refine Kd.R_lit k44 _ 44 ?hg (N := 34) ?hd (xs := ([] : List (S44))) (inner := []) (ok := fun _ => True) (okp := fun _ => True) ?hr ?hp (fun _ hk => hk) trivial (Below.refl _ _) (Nat.le_refl _) (by simp) ?_; (case hd => rfl); (case hg => rfl); (case hr => first | (go_simp; done) | (go_simp; rfl)); (case hp => exact (Reps.none _ _)); intro v151 w42 ho43 hb hg_ hnew_; clear hg_ hnew_; (first | rw [← Ny150.out] at ho43 | (simp only [Int.reduceToNat] at ho43; rw [← Ny150.out] at ho43)); have HO152 := Aside0.mk (Kd.R_lower (Kd.R_new' ho43 (Kd.R_lt (Hd.r_ HO148))) (below_size Hd.b_)); replace HO148 := Aside0.mk (Kd.R_elder' (Hd.r_ HO148) (Kd.R_base ho43) hb); replace HB := Aside0.mk (below_step Hd.b_ hb); clear hb ho43) | ((with_reducible refine gate_builtin (b := .append) (xs := #[.tmp 34, .tmp 35]) rfl ?_); (try (refine gate_guard (by rfl) ?_; dsimp only)); at_builtin; refine Kd.R_append_rows k44 (w0 := w) w.heap.size rfl (.tmp 34) (.tmp 35) 25 44 (.agg #[(.int .i64 0), (.int .i64 0)]) 16 rfl Try.underlying25 info44 rfl (by decide) (by omega) v151 y150 l0 _ _ _ (fun k_ => some k_ ≠ (.slice Ao40 y146.length co40 : Value).ownBlock) (fun _ => False) rfl rfl ?aO ?aR (fun _ _ h => h) (fun _ h => h.elim) ?aF ?aB ?aS ?aL ?_; (case aR => repeat (first | exact (Kd.C_below HR0.out HB.out) | (with_reducible refine Kd.C_alloc ?_ _) | (with_reducible refine Kd.C_drewN ?_ _) | (with_reducible refine Kd.C_drew ?_))); (case aB => exact Hd.b_); (case aF => exact (fun k_ hk => Kd.fresh' (Kd.R_lt (Hd.r_ HO148)) k_ hk)); (case aO => exact (by (with_reducible repeat (first | apply Kd.R_alloc | apply Kd.R_drewN | apply Kd.R_drew)); exact Kd.R_mono HO152.out (fun _ hk => hk.2))); (case aS => exact (below_size Hd.b_)); (case aL => have := LMc32.out; omega); intro v154 w44 ho hb hg hat; rw [← Ny153.out] at ho; have n0_ := Aside0.mk (Kd.R_after (ok := (fun _ => True)) (Hd.r_ HO148) hg hat); have n1_ := Aside0.mk (hb); have n2_ := Aside0.mk (ho); clear HO148; clear HB; clear HO152; have HO148 := n0_; have HB := n1_; have HO155 := n2_; clear n0_ n1_ n2_; clear ho hb hg hat))
            go_ret2
            exact ⟨_, by first | rfl | (simp [errW_none, errW_some] <;> rfl) | (simp only [← hji17]; first | rfl | (simp [errW_none, errW_some] <;> rfl)) | (simp [*, errW_none, errW_some] <;> rfl), by (with_reducible repeat (first | apply Kd.R_alloc | apply Kd.R_drewN | apply Kd.R_drew)); exact Kd.R_mono HO155.out (fun _ hk => trivial), Hd.b_⟩
           ·
            rw [if_neg c32] at H
            exact absurd H (by simp)
         ·
          rw [if_neg c20] at H
          exact absurd H (by simp)
        ·
         rw [if_neg c19] at H
         exact absurd H (by simp)
       ·
        rw [if_neg c18] at H
        exact absurd H (by simp)
      ·
       rw [if_neg c16] at H
       exact absurd H (by simp)
     ·
      rw [if_neg c15] at H
      exact absurd H (by simp)
    ·
     rw [if_neg c14] at H
     exact absurd H (by simp)
def impl_InRange.f (a0 : Int) (a1 : Int) (a2 : Int) : Option (Bool) := if a1 ≤ a0 then (some (decide (a0 ≤ a2))) else (some false)
set_option maxHeartbeats 8000000 in
set_option maxRecDepth 100000 in
theorem impl_InRange.calls (a0 : Int) (a1 : Int) (a2 : Int) (r : Bool) (w : World) (h : impl_InRange.f a0 a1 a2 = some r) :
  Calls Try.prog 92 #[.int .i64 a0, .int .i64 a1, .int .i64 a2] w fun e w' => e = .returned (.bool r) ∧ Drawn0 w w' := by
 have H : (if a1 ≤ a0 then (some (decide (a0 ≤ a2))) else (some false)) = some r := h
 clear h
 by_cases c4 : a1 ≤ a0
 ·
  rw [if_pos c4] at H
  have c4b0 : decide (a1 ≤ a0) = true := decide_eq_true c4
  clear c4
  obtain rfl := Option.some.inj H
  go_enter Try.func92, Try.ntmps92
  go_wp2
  go_ret
  exact ⟨by first | rfl | (simp; done) | (simp [*]; done), by repeat (first | exact Drawn0.refl _ | apply Drawn0.step)⟩
 ·
  rw [if_neg c4] at H
  have c4b0 : decide (a1 ≤ a0) = false := decide_eq_false c4
  clear c4
  obtain rfl := Option.some.inj H
  go_enter Try.func92, Try.ntmps92
  go_wp2
  go_ret
  exact ⟨by first | rfl | (simp; done) | (simp [*]; done), by repeat (first | exact Drawn0.refl _ | apply Drawn0.step)⟩
def impl_IsPoint.f (a0_0 : Int) (a0_1 : Int) : Option (Bool) := (impl_InRange.f a0_0 0 200).bind fun t157 => (if t157 = true then ((impl_InRange.f a0_1 0 200).bind fun t158 => (some t158)) else (some false))
set_option maxHeartbeats 8000000 in
set_option maxRecDepth 100000 in
theorem impl_IsPoint.calls (a0_0 : Int) (a0_1 : Int) (r : Bool) (w : World) (h : impl_IsPoint.f a0_0 a0_1 = some r) :
  Calls Try.prog 91 #[.agg #[.int .i64 a0_0, .int .i64 a0_1]] w fun e w' => e = .returned (.bool r) ∧ Below w.heap.size w w' := by
 have hu44 := Try.underlying44
 have HB := Aside0.mk (Below.refl w.heap.size w)
 have H : ((impl_InRange.f a0_0 0 200).bind fun t157 => (if t157 = true then ((impl_InRange.f a0_1 0 200).bind fun t158 => (some t158)) else (some false))) = some r := h
 clear h
 replace H := Option.bind_eq_some_iff.mp H
 obtain ⟨t157, A20, H⟩ := H
 replace H : (if t157 = true then ((impl_InRange.f a0_1 0 200).bind fun t158 => (some t158)) else (some false)) = some r := H
 have A2 := Aside0.mk A20
 clear A20
 by_cases c3 : t157 = true
 ·
  subst c3
  have H1 : ((impl_InRange.f a0_1 0 200).bind fun t158 => (some t158)) = some r := by rw [if_pos rfl] at H; exact H
  clear H
  have H := H1
  clear H1
  replace H := Option.bind_eq_some_iff.mp H
  obtain ⟨t158, A40, H⟩ := H
  replace H : (some t158) = some r := H
  have A4 := Aside0.mk A40
  clear A40
  obtain rfl := Option.some.inj H
  go_enter Try.func91, Try.ntmps91
  go_wp2_with (first | ((with_reducible refine gate_dst (N := 1) rfl ?_); refine Hd.box_ 1 (#[.int .i64 a0_0, .int .i64 a0_1]) 44 ?_; intro gb156 hg w5 hbox hb; have BK156 := Aside0.mk (hbox); have GW156 := Aside0.mk ((Hd.g_ hg Hd.b_ : w.heap.size ≤ gb156)); have GE156 := Aside0.mk ((Hd.g_ hg Hd.b_ : w.heap.size ≤ gb156)); replace HB := Aside0.mk (below_step Hd.b_ hb); clear hb hbox hg; obtain ⟨hcz6_0, hcz6_1⟩ := Hd.c2_ BK156.out; obtain ⟨hfz6_0, hfz6_1⟩ := Hd.f2_ BK156.out) | ((with_reducible refine gate_callee (f := 92) rfl ?_); refine goesL_ (some 5) rfl rfl Try.func92 (by kernel_rfl) rfl #[.int .i64 a0_0, .int .i64 0, .int .i64 200] rfl Hd.m_ ?_; (with_reducible refine (impl_InRange.calls a0_0 0 200 true _ A2.out).mono ?_); rintro e w' ⟨rfl, ⟨nd, rfl⟩⟩; refine ⟨_, rfl, ?_⟩) | (go_at_call 92; (with_reducible refine (impl_InRange.calls a0_1 0 200 t158 _ A4.out).mono ?_); rintro e w' ⟨rfl, ⟨nd, rfl⟩⟩))
  go_ret
  exact ⟨Hd.e_, Hd.b_⟩
 ·
  replace c3 := Bool.eq_false_iff.mpr c3
  subst c3
  have H1 : (some false) = some r := by rw [if_neg (show ¬ (false = true) by decide)] at H; exact H
  clear H
  have H := H1
  clear H1
  obtain rfl := Option.some.inj H
  go_enter Try.func91, Try.ntmps91
  go_wp2_with (first | ((with_reducible refine gate_dst (N := 1) rfl ?_); refine Hd.box_ 1 (#[.int .i64 a0_0, .int .i64 a0_1]) 44 ?_; intro gb156 hg w7 hbox hb; have BK156 := Aside0.mk (hbox); have GW156 := Aside0.mk ((Hd.g_ hg Hd.b_ : w.heap.size ≤ gb156)); have GE156 := Aside0.mk ((Hd.g_ hg Hd.b_ : w.heap.size ≤ gb156)); replace HB := Aside0.mk (below_step Hd.b_ hb); clear hb hbox hg; obtain ⟨hcz8_0, hcz8_1⟩ := Hd.c2_ BK156.out; obtain ⟨hfz8_0, hfz8_1⟩ := Hd.f2_ BK156.out) | ((with_reducible refine gate_callee (f := 92) rfl ?_); refine goesL_ (some 5) rfl rfl Try.func92 (by kernel_rfl) rfl #[.int .i64 a0_0, .int .i64 0, .int .i64 200] rfl Hd.m_ ?_; (with_reducible refine (impl_InRange.calls a0_0 0 200 false _ A2.out).mono ?_); rintro e w' ⟨rfl, ⟨nd, rfl⟩⟩; refine ⟨_, rfl, ?_⟩))
  go_ret
  exact ⟨Hd.e_, Hd.b_⟩
mutual
def impl_IsLine.j0 : Nat → List (S44) → Bool → Option (Bool)
 | 0, _, _ => none
 | k + 1, x0, x12 => if x12 = true then (some false) else (impl_IsLine.l0 k x0 x0 (x0.length : Int) 0)
def impl_IsLine.l0 : Nat → List (S44) → List (S44) → Int → Int → Option (Bool)
 | 0, _, _, _, _ => none
 | k + 1, x0, x13, x14, x15 => if x15 < x14 then (if 0 ≤ x15 then (if x15 < (x13.length : Int) then ((impl_IsPoint.f ((rd_T44 x13 x15).f0) ((rd_T44 x13 x15).f1)).bind fun t161 => (if t161 = true then (if x15 > 0 then (if 0 ≤ (wrap64 (x15 - 1)) then (if (wrap64 (x15 - 1)) < (x0.length : Int) then (if (((rd_T44 x13 x15).f0) == ((rd_T44 x0 (wrap64 (x15 - 1))).f0) && (((rd_T44 x13 x15).f1) == ((rd_T44 x0 (wrap64 (x15 - 1))).f1))) = true then (some false) else (impl_IsLine.l0 k x0 x13 x14 (wrap64 (x15 + 1)))) else (none)) else (none)) else (impl_IsLine.l0 k x0 x13 x14 (wrap64 (x15 + 1)))) else (some false))) else (none)) else (none)) else (some true)
end
def impl_IsLine.f (k : Nat) (l0 : List (S44)) : Option (Bool) := if (l0.length : Int) < 2 then (impl_IsLine.j0 k l0 true) else (impl_IsLine.j0 k l0 (decide ((l0.length : Int) > 10)))
set_option maxHeartbeats 8000000 in
set_option maxRecDepth 100000 in
theorem impl_IsLine.calls (k : Nat) (A0 : Option Addr) (c0 : Nat) (l0 : List (S44)) (r : Bool) (w : World) (hr0 : Kd.C k44 w A0 l0.length l0) (hc0 : l0.length ≤ c0) (h : impl_IsLine.f k l0 = some r) :
  Calls Try.prog 99 #[.slice A0 l0.length c0] w fun e w' => e = .returned (.bool r) ∧ Below w.heap.size w w' := by
 have hu44 := Try.underlying44
 have HR0 := Aside0.mk hr0
 have HC0 := Aside0.mk hc0
 clear hr0 hc0
 have HB := Aside0.mk (Below.refl w.heap.size w)
 have H : (if (l0.length : Int) < 2 then (impl_IsLine.j0 k l0 true) else (impl_IsLine.j0 k l0 (decide ((l0.length : Int) > 10)))) = some r := h
 clear h
 have HC2 := Aside0.mk H
 clear H
 go_enter Try.func99, Try.ntmps99
 go_upto_region 1 with (fail)
 go_cut [12] (fun v12 wc => ∃ (kq : Nat) (x12_1 : Bool), v12 = .bool x12_1 ∧ Aside0 (impl_IsLine.j0 kq l0 x12_1 = some r) ∧ Aside0 (kq ≤ k) ∧ Aside0 (Below w.heap.size w wc))
 case first =>
  have H := HC2.out
  clear HC2
  by_cases c3 : (l0.length : Int) < 2
  ·
   rw [if_pos c3] at H
   have c3b0 : decide ((l0.length : Int) < 2) = true := decide_eq_true c3
   have c3b1 : decide (l0.length < 2) = true := decide_eq_true (by omega)
   clear c3
   (first | rw [c3b0] | (simp only [i64_w, i32_w]; rw [c3b0]) | skip)
   have H' := Aside0.mk H
   clear H
   go_wp2
   go_meet
   case rel => exact ⟨_, (true), (by first | rfl | (simp; done) | (simp [*]; done)), H', ⟨by first | omega | exact Nat.le_refl _⟩, ⟨Hd.b_⟩⟩
  ·
   rw [if_neg c3] at H
   have c3b0 : decide ((l0.length : Int) < 2) = false := decide_eq_false c3
   have c3b1 : decide (l0.length < 2) = false := decide_eq_false (by omega)
   clear c3
   (first | rw [c3b0] | (simp only [i64_w, i32_w]; rw [c3b0]) | skip)
   have H' := Aside0.mk H
   clear H
   go_wp2
   go_meet
   case rel => exact ⟨_, (decide ((l0.length : Int) > 10)), (by first | rfl | (simp; done) | (simp [*]; done)), H', ⟨by first | omega | exact Nat.le_refl _⟩, ⟨Hd.b_⟩⟩
 case rest =>
  clear HC2
  try clear p2
  try clear c3
  try clear c3b0
  try clear c3b1
  obtain ⟨kq, x12_1, rfl, HA, HJ1, HB⟩ := hcut
  cases kq with
  | zero => exact absurd HA.out (by simp [impl_IsLine.j0])
  | succ kj1 =>
   have H := HA.out
   clear HA
   simp only [impl_IsLine.j0] at H
   by_cases c4 : x12_1 = true
   ·
    subst c4
    have H1 : (some false) = some r := by rw [if_pos rfl] at H; exact H
    clear H
    have H := H1
    clear H1
    obtain rfl := Option.some.inj H
    go_wp2
    go_ret
    exact ⟨Hd.e_, Hd.b_⟩
   ·
    replace c4 := Bool.eq_false_iff.mpr c4
    subst c4
    have H1 : (impl_IsLine.l0 kj1 l0 l0 (l0.length : Int) 0) = some r := by rw [if_neg (show ¬ (false = true) by decide)] at H; exact H
    clear H
    have H := H1
    clear H1
    have H' := Aside0.mk H
    clear H
    go_wp2
    go_loopg [15] kj1 (fun kq v15 w' => ∃ (x15_2 : Int), v15 = .int .i64 x15_2 ∧ Aside0 (impl_IsLine.l0 kq l0 l0 (l0.length : Int) x15_2 = some r) ∧ Aside0 (kq ≤ kj1) ∧ Aside0 (Below w.heap.size w w'))
    case atStart => exact ⟨(0), (by first | rfl | (simp; done) | (simp [*]; done)), H', ⟨Nat.le_refl _⟩, ⟨Hd.b_⟩⟩
    case round =>
     clear H'
     try clear p2
     try clear c3
     try clear c3b0
     try clear c3b1
     try clear c4
     try clear p2
     obtain ⟨x15_2, rfl, HA, HK2, HB⟩ := hrel
     cases gk with
     | zero => exact absurd HA.out (by simp [impl_IsLine.l0])
     | succ k2 =>
      have H := HA.out
      clear HA
      simp only [impl_IsLine.l0] at H
      by_cases c5 : x15_2 < (l0.length : Int)
      ·
       rw [if_pos c5] at H
       have c5b0 : decide (x15_2 < (l0.length : Int)) = true := decide_eq_true c5
       clear c5
       by_cases c6 : 0 ≤ x15_2
       ·
        rw [if_pos c6] at H
        have c6b0 : decide (0 ≤ x15_2) = true := decide_eq_true c6
        clear c6
        by_cases c7 : x15_2 < (l0.length : Int)
        ·
         rw [if_pos c7] at H
         have c7b0 : decide (x15_2 < (l0.length : Int)) = true := decide_eq_true c7
         clear c7
         replace H := Option.bind_eq_some_iff.mp H
         obtain ⟨t161, A80, H⟩ := H
         replace H : (if t161 = true then (if x15_2 > 0 then (if 0 ≤ (wrap64 (x15_2 - 1)) then (if (wrap64 (x15_2 - 1)) < (l0.length : Int) then (if (((rd_T44 l0 x15_2).f0) == ((rd_T44 l0 (wrap64 (x15_2 - 1))).f0) && (((rd_T44 l0 x15_2).f1) == ((rd_T44 l0 (wrap64 (x15_2 - 1))).f1))) = true then (some false) else (impl_IsLine.l0 k2 l0 l0 (l0.length : Int) (wrap64 (x15_2 + 1)))) else (none)) else (none)) else (impl_IsLine.l0 k2 l0 l0 (l0.length : Int) (wrap64 (x15_2 + 1)))) else (some false)) = some r := H
         have A8 := Aside0.mk A80
         clear A80
         by_cases c9 : t161 = true
         ·
          subst c9
          have H1 : (if x15_2 > 0 then (if 0 ≤ (wrap64 (x15_2 - 1)) then (if (wrap64 (x15_2 - 1)) < (l0.length : Int) then (if (((rd_T44 l0 x15_2).f0) == ((rd_T44 l0 (wrap64 (x15_2 - 1))).f0) && (((rd_T44 l0 x15_2).f1) == ((rd_T44 l0 (wrap64 (x15_2 - 1))).f1))) = true then (some false) else (impl_IsLine.l0 k2 l0 l0 (l0.length : Int) (wrap64 (x15_2 + 1)))) else (none)) else (none)) else (impl_IsLine.l0 k2 l0 l0 (l0.length : Int) (wrap64 (x15_2 + 1)))) = some r := by rw [if_pos rfl] at H; exact H
          clear H
          have H := H1
          clear H1
          by_cases c10 : x15_2 > 0
          ·
           rw [if_pos c10] at H
           have c10b0 : decide (0 < x15_2) = true := decide_eq_true c10
           clear c10
           obtain ⟨ji11, hji11⟩ : ∃ j_ : Int, (wrap64 (x15_2 - 1)) = j_ := ⟨_, rfl⟩
           replace H : (if 0 ≤ (ji11) then (if (ji11) < (l0.length : Int) then (if (((rd_T44 l0 x15_2).f0) == ((rd_T44 l0 (ji11)).f0) && (((rd_T44 l0 x15_2).f1) == ((rd_T44 l0 (ji11)).f1))) = true then (some false) else (impl_IsLine.l0 k2 l0 l0 (l0.length : Int) (wrap64 (x15_2 + 1)))) else (none)) else (none)) = some r := by first | (rw [hji11] at H; exact H) | (simp only [hji11] at H ⊢; exact H)
           (try rw [hji11] at A8)
           have hji11w : (IntKind.i64.wrap (x15_2 - 1)) = ji11 := (i64_w _).trans hji11
           by_cases c12 : 0 ≤ (ji11)
           ·
            rw [if_pos c12] at H
            have c12b0 : decide (0 ≤ (ji11)) = true := decide_eq_true c12
            clear c12
            by_cases c13 : (ji11) < (l0.length : Int)
            ·
             rw [if_pos c13] at H
             have c13b0 : decide ((ji11) < (l0.length : Int)) = true := decide_eq_true c13
             clear c13
             by_cases c14 : (((rd_T44 l0 x15_2).f0) == ((rd_T44 l0 (ji11)).f0) && (((rd_T44 l0 x15_2).f1) == ((rd_T44 l0 (ji11)).f1))) = true
             ·
              rw [if_pos c14] at H
              have c14b0 : (((rd_T44 l0 x15_2).f0) == ((rd_T44 l0 (ji11)).f0) && (((rd_T44 l0 x15_2).f1) == ((rd_T44 l0 (ji11)).f1))) = true := c14
              (try (have c14b1 : decide (((rd_T44 l0 x15_2).f0) = ((rd_T44 l0 (ji11)).f0) && (((rd_T44 l0 x15_2).f1) == ((rd_T44 l0 (ji11)).f1))) = true := by simpa using c14))
              (try (have c14b2 : (((rd_T44 l0 x15_2).f0) == ((rd_T44 l0 (ji11)).f0) && (((rd_T44 l0 x15_2).f1) == ((rd_T44 l0 (ji11)).f1))) = true := by simpa using c14))
              clear c14
              obtain rfl := Option.some.inj H
              have p159 : 0 ≤ (x15_2 : Int) := of_decide_eq_true Hd.a_
              have q159 : x15_2 < (l0.length : Int) := of_decide_eq_true Hd.a_
              obtain ⟨ad159, e159, hx159_0, hx159_1⟩ := at_T44 HR0.out x15_2 p159 q159
              cases e159
              replace hx159_0 := (HB.out.cell (World.block_lt_of_cell? w _ hx159_0)).trans hx159_0
              replace hx159_1 := (HB.out.cell (World.block_lt_of_cell? w _ hx159_1)).trans hx159_1
              replace p159 := eq_true p159
              replace q159 := eq_true q159
              try go_wp2_with (first | ((with_reducible refine gate_dst (N := 4) rfl ?_); (try (refine gate_guard (by rfl) ?_; dsimp only)); refine Hd.box_ 4 (#[.int .i64 0, .int .i64 0]) 44 ?_; intro gb160 hg w15 hbox hb; have BK160 := Aside0.mk (hbox); have GW160 := Aside0.mk ((Hd.g_ hg Hd.b_ : w.heap.size ≤ gb160)); have GE160 := Aside0.mk ((Hd.g_ hg Hd.b_ : w.heap.size ≤ gb160)); replace HB := Aside0.mk (below_step Hd.b_ hb); clear hb hbox hg; obtain ⟨hcz16_0, hcz16_1⟩ := Hd.c2_ BK160.out; obtain ⟨hfz16_0, hfz16_1⟩ := Hd.f2_ BK160.out))
              have n0_ : Aside0 (((w15.setCell ⟨gb160, 0, none⟩ (.int .i64 ((rd_T44 l0 x15_2).f0))).setCell ⟨gb160, 1, none⟩ (.int .i64 ((rd_T44 l0 x15_2).f1))).heap[gb160]? = some (.cells #[.int .i64 ((rd_T44 l0 x15_2).f0), .int .i64 ((rd_T44 l0 x15_2).f1)] 44 (0, 0))) := ⟨by (with_reducible repeat (first | refine blk_drewN ?_ _ | refine blk_drew ?_ | refine blk_alloc ?_ _)); refine blk_put (cs := #[.int .i64 ((rd_T44 l0 x15_2).f0), .int .i64 0]) ?_ 1 _ rfl; (with_reducible repeat (first | refine blk_drewN ?_ _ | refine blk_drew ?_ | refine blk_alloc ?_ _)); refine blk_put (cs := #[.int .i64 0, .int .i64 0]) ?_ 0 _ rfl; (with_reducible repeat (first | refine blk_drewN ?_ _ | refine blk_drew ?_ | refine blk_alloc ?_ _)); exact BK160.out⟩
              have n1_ : Aside0 (Below w.heap.size w ((w15.setCell ⟨gb160, 0, none⟩ (.int .i64 ((rd_T44 l0 x15_2).f0))).setCell ⟨gb160, 1, none⟩ (.int .i64 ((rd_T44 l0 x15_2).f1)))) := ⟨Hd.b_⟩
              (try clear BK160)
              (try clear HB)
              generalize ((w15.setCell ⟨gb160, 0, none⟩ (.int .i64 ((rd_T44 l0 x15_2).f0))).setCell ⟨gb160, 1, none⟩ (.int .i64 ((rd_T44 l0 x15_2).f1))) = w17 at n0_ n1_ ⊢
              have BK160 := n0_
              have HB := n1_
              clear n0_ n1_
              replace BK160 := Aside0.mk (blk_drew BK160.out)
              replace HB := Aside0.mk (below_drew1 HB.out)
              have p162 : 0 ≤ ((ji11) : Int) := of_decide_eq_true Hd.a_
              have q162 : (ji11) < (l0.length : Int) := of_decide_eq_true Hd.a_
              obtain ⟨ad162, e162, hx162_0, hx162_1⟩ := at_T44 HR0.out (ji11) p162 q162
              have hw162_1 := hx162_1
              have hw162_0 := hx162_0
              obtain rfl : ad159 = ad162 := (by injection e162)
              replace hx162_0 := (HB.out.cell (World.block_lt_of_cell? w _ hx162_0)).trans hx162_0
              replace hx162_1 := (HB.out.cell (World.block_lt_of_cell? w _ hx162_1)).trans hx162_1
              replace p162 := eq_true p162
              replace q162 := eq_true q162
              obtain ⟨s0_, s1_⟩ := Hd.HW.k2 (W0 := w17.drew) BK160
              have s2_ := Hd.HW.x (W0 := w17.drew) ((HB.out.cell (World.block_lt_of_cell? w _ hw162_0)).trans hw162_0)
              have s3_ := Hd.HW.x (W0 := w17.drew) ((HB.out.cell (World.block_lt_of_cell? w _ hw162_1)).trans hw162_1)
              refine Hd.HW.region (by kernel_rfl) (by kernel_rfl) ?_
              repeat (go_big_quiet_step ((first | (go_at_call 91; with_reducible exact Hd.HW.c (impl_IsPoint.calls ((rd_T44 l0 x15_2).f0) ((rd_T44 l0 x15_2).f1) true _ A8.out)))))
              refine wpQuiet_nil ?_
              intro _ hq_
              obtain ⟨q_, rfl⟩ := hq_
              clear s0_ s1_ s2_ s3_
              replace BK160 := Aside0.mk (blk_below BK160.out q_.b)
              replace HB := Aside0.mk (below_step HB.out q_.b)
              replace hx162_0 := q_.cell hx162_0
              replace hx162_1 := q_.cell hx162_1
              generalize q_.W = w19 at BK160 HB hx162_0 hx162_1 ⊢
              try simp only [i64_w, i32_w]
              try go_wp2
              go_ret
              exact ⟨by first | rfl | (simp [errW_none, errW_some] <;> rfl) | (simp only [← hji11]; first | rfl | (simp [errW_none, errW_some] <;> rfl)) | (simp [*, errW_none, errW_some] <;> rfl), Hd.b_⟩
             ·
              rw [if_neg c14] at H
              have c14b0 : (((rd_T44 l0 x15_2).f0) == ((rd_T44 l0 (ji11)).f0) && (((rd_T44 l0 x15_2).f1) == ((rd_T44 l0 (ji11)).f1))) = false := by simpa using c14
              (try (have c14b1 : decide (((rd_T44 l0 x15_2).f0) = ((rd_T44 l0 (ji11)).f0) && (((rd_T44 l0 x15_2).f1) == ((rd_T44 l0 (ji11)).f1))) = false := by simpa using c14))
              (try (have c14b2 : (((rd_T44 l0 x15_2).f0) == ((rd_T44 l0 (ji11)).f0) && (((rd_T44 l0 x15_2).f1) == ((rd_T44 l0 (ji11)).f1))) = false := by simpa using c14))
              (try (have c14b3 : ¬ (((rd_T44 l0 x15_2).f0) = ((rd_T44 l0 (ji11)).f0) && (((rd_T44 l0 x15_2).f1) == ((rd_T44 l0 (ji11)).f1))) := by simpa using c14))
              clear c14
              have H' := Aside0.mk H
              clear H
              have p159 : 0 ≤ (x15_2 : Int) := of_decide_eq_true Hd.a_
              have q159 : x15_2 < (l0.length : Int) := of_decide_eq_true Hd.a_
              obtain ⟨ad159, e159, hx159_0, hx159_1⟩ := at_T44 HR0.out x15_2 p159 q159
              cases e159
              replace hx159_0 := (HB.out.cell (World.block_lt_of_cell? w _ hx159_0)).trans hx159_0
              replace hx159_1 := (HB.out.cell (World.block_lt_of_cell? w _ hx159_1)).trans hx159_1
              replace p159 := eq_true p159
              replace q159 := eq_true q159
              try go_wp2_with (first | ((with_reducible refine gate_dst (N := 4) rfl ?_); (try (refine gate_guard (by rfl) ?_; dsimp only)); refine Hd.box_ 4 (#[.int .i64 0, .int .i64 0]) 44 ?_; intro gb160 hg w20 hbox hb; have BK160 := Aside0.mk (hbox); have GW160 := Aside0.mk ((Hd.g_ hg Hd.b_ : w.heap.size ≤ gb160)); have GE160 := Aside0.mk ((Hd.g_ hg Hd.b_ : w.heap.size ≤ gb160)); replace HB := Aside0.mk (below_step Hd.b_ hb); clear hb hbox hg; obtain ⟨hcz21_0, hcz21_1⟩ := Hd.c2_ BK160.out; obtain ⟨hfz21_0, hfz21_1⟩ := Hd.f2_ BK160.out))
              have n0_ : Aside0 (((w20.setCell ⟨gb160, 0, none⟩ (.int .i64 ((rd_T44 l0 x15_2).f0))).setCell ⟨gb160, 1, none⟩ (.int .i64 ((rd_T44 l0 x15_2).f1))).heap[gb160]? = some (.cells #[.int .i64 ((rd_T44 l0 x15_2).f0), .int .i64 ((rd_T44 l0 x15_2).f1)] 44 (0, 0))) := ⟨by (with_reducible repeat (first | refine blk_drewN ?_ _ | refine blk_drew ?_ | refine blk_alloc ?_ _)); refine blk_put (cs := #[.int .i64 ((rd_T44 l0 x15_2).f0), .int .i64 0]) ?_ 1 _ rfl; (with_reducible repeat (first | refine blk_drewN ?_ _ | refine blk_drew ?_ | refine blk_alloc ?_ _)); refine blk_put (cs := #[.int .i64 0, .int .i64 0]) ?_ 0 _ rfl; (with_reducible repeat (first | refine blk_drewN ?_ _ | refine blk_drew ?_ | refine blk_alloc ?_ _)); exact BK160.out⟩
              have n1_ : Aside0 (Below w.heap.size w ((w20.setCell ⟨gb160, 0, none⟩ (.int .i64 ((rd_T44 l0 x15_2).f0))).setCell ⟨gb160, 1, none⟩ (.int .i64 ((rd_T44 l0 x15_2).f1)))) := ⟨Hd.b_⟩
              (try clear BK160)
              (try clear HB)
              generalize ((w20.setCell ⟨gb160, 0, none⟩ (.int .i64 ((rd_T44 l0 x15_2).f0))).setCell ⟨gb160, 1, none⟩ (.int .i64 ((rd_T44 l0 x15_2).f1))) = w22 at n0_ n1_ ⊢
              have BK160 := n0_
              have HB := n1_
              clear n0_ n1_
              replace BK160 := Aside0.mk (blk_drew BK160.out)
              replace HB := Aside0.mk (below_drew1 HB.out)
              have p162 : 0 ≤ ((ji11) : Int) := of_decide_eq_true Hd.a_
              have q162 : (ji11) < (l0.length : Int) := of_decide_eq_true Hd.a_
              obtain ⟨ad162, e162, hx162_0, hx162_1⟩ := at_T44 HR0.out (ji11) p162 q162
              have hw162_1 := hx162_1
              have hw162_0 := hx162_0
              obtain rfl : ad159 = ad162 := (by injection e162)
              replace hx162_0 := (HB.out.cell (World.block_lt_of_cell? w _ hx162_0)).trans hx162_0
              replace hx162_1 := (HB.out.cell (World.block_lt_of_cell? w _ hx162_1)).trans hx162_1
              replace p162 := eq_true p162
              replace q162 := eq_true q162
              obtain ⟨s0_, s1_⟩ := Hd.HW.k2 (W0 := w22.drew) BK160
              have s2_ := Hd.HW.x (W0 := w22.drew) ((HB.out.cell (World.block_lt_of_cell? w _ hw162_0)).trans hw162_0)
              have s3_ := Hd.HW.x (W0 := w22.drew) ((HB.out.cell (World.block_lt_of_cell? w _ hw162_1)).trans hw162_1)
              refine Hd.HW.region (by kernel_rfl) (by kernel_rfl) ?_
              repeat (go_big_quiet_step ((first | (go_at_call 91; with_reducible exact Hd.HW.c (impl_IsPoint.calls ((rd_T44 l0 x15_2).f0) ((rd_T44 l0 x15_2).f1) true _ A8.out)))))
              refine wpQuiet_nil ?_
              intro _ hq_
              obtain ⟨q_, rfl⟩ := hq_
              clear s0_ s1_ s2_ s3_
              replace BK160 := Aside0.mk (blk_below BK160.out q_.b)
              replace HB := Aside0.mk (below_step HB.out q_.b)
              replace hx162_0 := q_.cell hx162_0
              replace hx162_1 := q_.cell hx162_1
              generalize q_.W = w24 at BK160 HB hx162_0 hx162_1 ⊢
              try simp only [i64_w, i32_w]
              try go_wp2
              go_roundg k2
              case measure => have := HJ1.out; have := HK2.out; omega
              case rel => exact ⟨(wrap64 (x15_2 + 1)), (by first | rfl | (simp; done) | (simp [*]; done)), H', ⟨by have := HJ1.out; have := HK2.out; omega⟩, ⟨Hd.b_⟩⟩
            ·
             rw [if_neg c13] at H
             exact absurd H (by simp)
           ·
            rw [if_neg c12] at H
            exact absurd H (by simp)
          ·
           rw [if_neg c10] at H
           have c10b0 : decide (0 < x15_2) = false := decide_eq_false c10
           clear c10
           have H' := Aside0.mk H
           clear H
           have p159 : 0 ≤ (x15_2 : Int) := of_decide_eq_true Hd.a_
           have q159 : x15_2 < (l0.length : Int) := of_decide_eq_true Hd.a_
           obtain ⟨ad159, e159, hx159_0, hx159_1⟩ := at_T44 HR0.out x15_2 p159 q159
           cases e159
           replace hx159_0 := (HB.out.cell (World.block_lt_of_cell? w _ hx159_0)).trans hx159_0
           replace hx159_1 := (HB.out.cell (World.block_lt_of_cell? w _ hx159_1)).trans hx159_1
           replace p159 := eq_true p159
           replace q159 := eq_true q159
           try go_wp2_with (first | ((with_reducible refine gate_dst (N := 4) rfl ?_); (try (refine gate_guard (by rfl) ?_; dsimp only)); refine Hd.box_ 4 (#[.int .i64 0, .int .i64 0]) 44 ?_; intro gb160 hg w25 hbox hb; have BK160 := Aside0.mk (hbox); have GW160 := Aside0.mk ((Hd.g_ hg Hd.b_ : w.heap.size ≤ gb160)); have GE160 := Aside0.mk ((Hd.g_ hg Hd.b_ : w.heap.size ≤ gb160)); replace HB := Aside0.mk (below_step Hd.b_ hb); clear hb hbox hg; obtain ⟨hcz26_0, hcz26_1⟩ := Hd.c2_ BK160.out; obtain ⟨hfz26_0, hfz26_1⟩ := Hd.f2_ BK160.out))
           have n0_ : Aside0 (((w25.setCell ⟨gb160, 0, none⟩ (.int .i64 ((rd_T44 l0 x15_2).f0))).setCell ⟨gb160, 1, none⟩ (.int .i64 ((rd_T44 l0 x15_2).f1))).heap[gb160]? = some (.cells #[.int .i64 ((rd_T44 l0 x15_2).f0), .int .i64 ((rd_T44 l0 x15_2).f1)] 44 (0, 0))) := ⟨by (with_reducible repeat (first | refine blk_drewN ?_ _ | refine blk_drew ?_ | refine blk_alloc ?_ _)); refine blk_put (cs := #[.int .i64 ((rd_T44 l0 x15_2).f0), .int .i64 0]) ?_ 1 _ rfl; (with_reducible repeat (first | refine blk_drewN ?_ _ | refine blk_drew ?_ | refine blk_alloc ?_ _)); refine blk_put (cs := #[.int .i64 0, .int .i64 0]) ?_ 0 _ rfl; (with_reducible repeat (first | refine blk_drewN ?_ _ | refine blk_drew ?_ | refine blk_alloc ?_ _)); exact BK160.out⟩
           have n1_ : Aside0 (Below w.heap.size w ((w25.setCell ⟨gb160, 0, none⟩ (.int .i64 ((rd_T44 l0 x15_2).f0))).setCell ⟨gb160, 1, none⟩ (.int .i64 ((rd_T44 l0 x15_2).f1)))) := ⟨Hd.b_⟩
           (try clear BK160)
           (try clear HB)
           generalize ((w25.setCell ⟨gb160, 0, none⟩ (.int .i64 ((rd_T44 l0 x15_2).f0))).setCell ⟨gb160, 1, none⟩ (.int .i64 ((rd_T44 l0 x15_2).f1))) = w27 at n0_ n1_ ⊢
           have BK160 := n0_
           have HB := n1_
           clear n0_ n1_
           replace BK160 := Aside0.mk (blk_drew BK160.out)
           replace HB := Aside0.mk (below_drew1 HB.out)
           obtain ⟨s0_, s1_⟩ := Hd.HW.k2 (W0 := w27.drew) BK160
           refine Hd.HW.region (by kernel_rfl) (by kernel_rfl) ?_
           repeat (go_big_quiet_step ((first | (go_at_call 91; with_reducible exact Hd.HW.c (impl_IsPoint.calls ((rd_T44 l0 x15_2).f0) ((rd_T44 l0 x15_2).f1) true _ A8.out)))))
           refine wpQuiet_nil ?_
           intro _ hq_
           obtain ⟨q_, rfl⟩ := hq_
           clear s0_ s1_
           replace BK160 := Aside0.mk (blk_below BK160.out q_.b)
           replace HB := Aside0.mk (below_step HB.out q_.b)
           generalize q_.W = w29 at BK160 HB ⊢
           try simp only [i64_w, i32_w]
           try go_wp2
           go_roundg k2
           case measure => have := HJ1.out; have := HK2.out; omega
           case rel => exact ⟨(wrap64 (x15_2 + 1)), (by first | rfl | (simp; done) | (simp [*]; done)), H', ⟨by have := HJ1.out; have := HK2.out; omega⟩, ⟨Hd.b_⟩⟩
         ·
          replace c9 := Bool.eq_false_iff.mpr c9
          subst c9
          have H1 : (some false) = some r := by rw [if_neg (show ¬ (false = true) by decide)] at H; exact H
          clear H
          have H := H1
          clear H1
          obtain rfl := Option.some.inj H
          have p159 : 0 ≤ (x15_2 : Int) := of_decide_eq_true Hd.a_
          have q159 : x15_2 < (l0.length : Int) := of_decide_eq_true Hd.a_
          obtain ⟨ad159, e159, hx159_0, hx159_1⟩ := at_T44 HR0.out x15_2 p159 q159
          cases e159
          replace hx159_0 := (HB.out.cell (World.block_lt_of_cell? w _ hx159_0)).trans hx159_0
          replace hx159_1 := (HB.out.cell (World.block_lt_of_cell? w _ hx159_1)).trans hx159_1
          replace p159 := eq_true p159
          replace q159 := eq_true q159
          try go_wp2_with (first | ((with_reducible refine gate_dst (N := 4) rfl ?_); (try (refine gate_guard (by rfl) ?_; dsimp only)); refine Hd.box_ 4 (#[.int .i64 0, .int .i64 0]) 44 ?_; intro gb160 hg w30 hbox hb; have BK160 := Aside0.mk (hbox); have GW160 := Aside0.mk ((Hd.g_ hg Hd.b_ : w.heap.size ≤ gb160)); have GE160 := Aside0.mk ((Hd.g_ hg Hd.b_ : w.heap.size ≤ gb160)); replace HB := Aside0.mk (below_step Hd.b_ hb); clear hb hbox hg; obtain ⟨hcz31_0, hcz31_1⟩ := Hd.c2_ BK160.out; obtain ⟨hfz31_0, hfz31_1⟩ := Hd.f2_ BK160.out))
          have n0_ : Aside0 (((w30.setCell ⟨gb160, 0, none⟩ (.int .i64 ((rd_T44 l0 x15_2).f0))).setCell ⟨gb160, 1, none⟩ (.int .i64 ((rd_T44 l0 x15_2).f1))).heap[gb160]? = some (.cells #[.int .i64 ((rd_T44 l0 x15_2).f0), .int .i64 ((rd_T44 l0 x15_2).f1)] 44 (0, 0))) := ⟨by (with_reducible repeat (first | refine blk_drewN ?_ _ | refine blk_drew ?_ | refine blk_alloc ?_ _)); refine blk_put (cs := #[.int .i64 ((rd_T44 l0 x15_2).f0), .int .i64 0]) ?_ 1 _ rfl; (with_reducible repeat (first | refine blk_drewN ?_ _ | refine blk_drew ?_ | refine blk_alloc ?_ _)); refine blk_put (cs := #[.int .i64 0, .int .i64 0]) ?_ 0 _ rfl; (with_reducible repeat (first | refine blk_drewN ?_ _ | refine blk_drew ?_ | refine blk_alloc ?_ _)); exact BK160.out⟩
          have n1_ : Aside0 (Below w.heap.size w ((w30.setCell ⟨gb160, 0, none⟩ (.int .i64 ((rd_T44 l0 x15_2).f0))).setCell ⟨gb160, 1, none⟩ (.int .i64 ((rd_T44 l0 x15_2).f1)))) := ⟨Hd.b_⟩
          (try clear BK160)
          (try clear HB)
          generalize ((w30.setCell ⟨gb160, 0, none⟩ (.int .i64 ((rd_T44 l0 x15_2).f0))).setCell ⟨gb160, 1, none⟩ (.int .i64 ((rd_T44 l0 x15_2).f1))) = w32 at n0_ n1_ ⊢
          have BK160 := n0_
          have HB := n1_
          clear n0_ n1_
          replace BK160 := Aside0.mk (blk_drew BK160.out)
          replace HB := Aside0.mk (below_drew1 HB.out)
          obtain ⟨s0_, s1_⟩ := Hd.HW.k2 (W0 := w32.drew) BK160
          refine Hd.HW.region (by kernel_rfl) (by kernel_rfl) ?_
          repeat (go_big_quiet_step ((first | (go_at_call 91; with_reducible exact Hd.HW.c (impl_IsPoint.calls ((rd_T44 l0 x15_2).f0) ((rd_T44 l0 x15_2).f1) false _ A8.out)))))
          refine wpQuiet_nil ?_
          intro _ hq_
          obtain ⟨q_, rfl⟩ := hq_
          clear s0_ s1_
          replace BK160 := Aside0.mk (blk_below BK160.out q_.b)
          replace HB := Aside0.mk (below_step HB.out q_.b)
          generalize q_.W = w34 at BK160 HB ⊢
          try simp only [i64_w, i32_w]
          try go_wp2
          go_ret
          exact ⟨Hd.e_, Hd.b_⟩
        ·
         rw [if_neg c7] at H
         exact absurd H (by simp)
       ·
        rw [if_neg c6] at H
        exact absurd H (by simp)
      ·
       rw [if_neg c5] at H
       have c5b0 : decide (x15_2 < (l0.length : Int)) = false := decide_eq_false c5
       clear c5
       obtain rfl := Option.some.inj H
       go_wp2
       go_ret
       exact ⟨Hd.e_, Hd.b_⟩
end Go.Proofs.Ytchmbcembbbplaa.MFnExactDropPoint
