-- Laid by this session's program pp.py, after the kit's print and texts of the session's own. Not trusted: Lean checks it.
import Derived.Test.YtbackoeakepngabZHiddenByMx0
import Derived.Test.YtbackoeakepngabZHiddenByMx6
import Derived.Test.YtbackoeakepngabZHiddenByMx7
namespace Go.Proofs.Ytbackoeakepngab.MFnExactHiddenBy
open Go.RowKit Go.Proofs.YtbackoeakepngabW.PrintWords Go.Proofs.YtbackoeakepngabW.PrintLast Go.Proofs.YtbackoeakepngabW.PrintMore
attribute [local go_sem] max2_int min2_int max_two min_two max_three min_three max_four min_four   -- for this text's walks alone
set_option linter.unusedVariables false
set_option linter.unusedSimpArgs false
mutual
def impl_HiddenBy.j0 : Nat → List (S77) → Int → List (S77) → Int → Bool → Option (Int)
 | 0, _, _, _, _, _ => none
 | k + 1, x0, x1, x7, x8, x26 => if x26 = true then (some 0) else (impl_HiddenBy.l0 k x0 x1 x8 x7 (x7.length : Int) 0)
def impl_HiddenBy.l0 : Nat → List (S77) → Int → Int → List (S77) → Int → Int → Option (Int)
 | 0, _, _, _, _, _, _ => none
 | k + 1, x0, x1, x8, x27, x28, x29 => if x29 < x28 then (if 0 ≤ x29 then (if x29 < (x27.length : Int) then (if 0 ≤ x8 then (if x8 < (x0.length : Int) then ((impl_IsAbove.f ((rd_T77 x27 x29).f0) ((rd_T77 x27 x29).f1.f0) ((rd_T77 x27 x29).f1.f1) ((rd_T77 x27 x29).f2) ((rd_T77 x0 x8).f0) ((rd_T77 x0 x8).f1.f0) ((rd_T77 x0 x8).f1.f1) ((rd_T77 x0 x8).f2)).bind fun t324 => (if t324 = true then ((impl_FarSquared.f ((rd_T77 x27 x29).f1.f0) ((rd_T77 x27 x29).f1.f1) ((rd_T77 x0 x8).f1.f0) ((rd_T77 x0 x8).f1.f1)).bind fun t326 => (if t326 < (wrap64 (x1 * x1)) then (some ((rd_T77 x27 x29).f0)) else (impl_HiddenBy.l0 k x0 x1 x8 x27 x28 (wrap64 (x29 + 1))))) else (impl_HiddenBy.l0 k x0 x1 x8 x27 x28 (wrap64 (x29 + 1))))) else (none)) else (none)) else (none)) else (none)) else (some 0)
end
def impl_HiddenBy.f (k : Nat) (l0 : List (S77)) (a1 : Int) (a2 : Int) : Option (Int) := (impl_keptPlaces.f k l0 a1).bind fun t315 => ((impl_Place_89.f k l0 a2).bind fun t318 => (if t318 < 0 then (impl_HiddenBy.j0 k l0 a1 t315 t318 true) else (if 0 ≤ t318 then (if t318 < (l0.length : Int) then ((impl_Place_91.f k t315 ((rd_T77 l0 t318).f0) ((rd_T77 l0 t318).f1.f0) ((rd_T77 l0 t318).f1.f1) ((rd_T77 l0 t318).f2)).bind fun t320 => (impl_HiddenBy.j0 k l0 a1 t315 t318 t320)) else (none)) else (none))))
set_option maxHeartbeats 8000000 in
set_option maxRecDepth 100000 in
theorem impl_HiddenBy.calls (k : Nat) (A0 : Option Addr) (c0 : Nat) (l0 : List (S77)) (a1 : Int) (a2 : Int) (r : Int) (w : World) (hr0 : Kd.C k77 w A0 l0.length l0) (hc0 : l0.length ≤ c0) (h : impl_HiddenBy.f k l0 a1 a2 = some r) :
  Calls Try.prog 39 #[.slice A0 l0.length c0, .int .i64 a1, .int .i64 a2] w fun e w' => e = .returned (.int .i64 r) ∧ Below w.heap.size w w' := by
 have hmf : ∀ (fn : Fn) (first cap : Array Value) (w : World), (Instr.makeFunc fn first cap).run Try.prog w = .ok (.func fn first cap) w := fun _ _ _ _ => rfl
 have hu77 := Try.underlying77
 have hu75 := Try.underlying75
 have HR0 := Aside0.mk hr0
 have HC0 := Aside0.mk hc0
 clear hr0 hc0
 have HB := Aside0.mk (Below.refl w.heap.size w)
 have H : ((impl_keptPlaces.f k l0 a1).bind fun t315 => ((impl_Place_89.f k l0 a2).bind fun t318 => (if t318 < 0 then (impl_HiddenBy.j0 k l0 a1 t315 t318 true) else (if 0 ≤ t318 then (if t318 < (l0.length : Int) then ((impl_Place_91.f k t315 ((rd_T77 l0 t318).f0) ((rd_T77 l0 t318).f1.f0) ((rd_T77 l0 t318).f1.f1) ((rd_T77 l0 t318).f2)).bind fun t320 => (impl_HiddenBy.j0 k l0 a1 t315 t318 t320)) else (none)) else (none))))) = some r := h
 clear h
 replace H := Option.bind_eq_some_iff.mp H
 obtain ⟨t315, A40, H⟩ := H
 replace H : ((impl_Place_89.f k l0 a2).bind fun t318 => (if t318 < 0 then (impl_HiddenBy.j0 k l0 a1 t315 t318 true) else (if 0 ≤ t318 then (if t318 < (l0.length : Int) then ((impl_Place_91.f k t315 ((rd_T77 l0 t318).f0) ((rd_T77 l0 t318).f1.f0) ((rd_T77 l0 t318).f1.f1) ((rd_T77 l0 t318).f2)).bind fun t320 => (impl_HiddenBy.j0 k l0 a1 t315 t318 t320)) else (none)) else (none)))) = some r := H
 have A4 := Aside0.mk A40
 clear A40
 replace H := Option.bind_eq_some_iff.mp H
 obtain ⟨t318, A50, H⟩ := H
 replace H : (if t318 < 0 then (impl_HiddenBy.j0 k l0 a1 t315 t318 true) else (if 0 ≤ t318 then (if t318 < (l0.length : Int) then ((impl_Place_91.f k t315 ((rd_T77 l0 t318).f0) ((rd_T77 l0 t318).f1.f0) ((rd_T77 l0 t318).f1.f1) ((rd_T77 l0 t318).f2)).bind fun t320 => (impl_HiddenBy.j0 k l0 a1 t315 t318 t320)) else (none)) else (none))) = some r := H
 have A5 := Aside0.mk A50
 clear A50
 have HC6 := Aside0.mk H
 clear H
 go_enter Try.func39, Try.ntmps39
 go_upto_region 3 with (first | ((with_reducible refine gate_callee (f := 88) rfl ?_); refine goesL_ (some 13) rfl rfl Try.func88 (by kernel_rfl) rfl #[.slice A0 l0.length c0, .int .i64 a1] rfl Hd.m_ ?_; (with_reducible refine (impl_keptPlaces.calls k _ _ l0 a1 t315 _ ?side1 ?side2 A4.out).mono ?_); (case side1 => repeat (first | exact HR0.out | (with_reducible refine Kd.C_alloc ?_ _) | (with_reducible refine Kd.C_drewN ?_ _) | (with_reducible refine Kd.C_drew ?_))); (case side2 => exact HC0.out); rintro e w7 ⟨v316, rfl, ho0, hb⟩; have HCE := Aside0.mk (impl_Place_89.celb hb); refine ⟨_, rfl, ?_⟩; have HO317 := Aside0.mk (Kd.R_lower ho0 (below_size Hd.b_)); replace HB := Aside0.mk (below_step Hd.b_ hb); (try clear hb); (try clear hb2); (try clear hk); (try clear hi); (try clear ho0)) | ((with_reducible refine gate_callee (f := 89) rfl ?_); refine goesL_ (some 16) rfl rfl Try.func89 (by kernel_rfl) rfl #[.slice A0 l0.length c0, .func (.func 90) #[] #[.pointer (some ⟨w.heap.size, 0, none⟩)]] rfl Hd.m_ ?_; (refine (impl_Place_89.idx k _ _ l0 a2 t318 _ _ ?side1 HCE.out A5.out).mono ?_); (case side1 => repeat (first | exact (Kd.C_below HR0.out HB.out) | (with_reducible refine Kd.C_alloc ?_ _) | (with_reducible refine Kd.C_drewN ?_ _) | (with_reducible refine Kd.C_drew ?_))); rintro e w8 ⟨rfl, hb⟩; refine ⟨_, rfl, ?_⟩; replace HO317 := Aside0.mk (Kd.R_below (Hd.r_ HO317) hb); replace HB := Aside0.mk (below_step Hd.b_ hb); (try clear hb); (try clear hb2); (try clear hk); (try clear hi)))
 (try simp only [Act.put, List.setIfInBounds_toArray, List.set_cons_zero, List.set_cons_succ])
 go_cut [26] (fun v26 wc => ∃ (kq : Nat) (x26_5 : Bool), v26 = .bool x26_5 ∧ Aside0 (impl_HiddenBy.j0 kq l0 a1 t315 t318 x26_5 = some r) ∧ Aside0 (kq ≤ k) ∧ Aside0 (Kd.R k77 77 wc w.heap.size (fun _ => True) v316 t315) ∧ Aside0 (Below w.heap.size w wc))
 case first =>
  have H := HC6.out
  clear HC6
  by_cases c9 : t318 < 0
  ·
   rw [if_pos c9] at H
   have c9b0 : decide (t318 < 0) = true := decide_eq_true c9
   clear c9
   (first | rw [c9b0] | (simp only [i64_w, i32_w]; rw [c9b0]) | skip)
   have H' := Aside0.mk H
   clear H
   go_wp2
   go_meet
   case rel => exact ⟨_, (true), (by first | rfl | (simp; done) | (simp [*]; done)), H', ⟨by first | omega | exact Nat.le_refl _⟩, ⟨by (with_reducible repeat (first | apply Kd.R_alloc | apply Kd.R_drewN | apply Kd.R_drew)); exact HO317.out⟩, ⟨Hd.b_⟩⟩
  ·
   rw [if_neg c9] at H
   have c9b0 : decide (t318 < 0) = false := decide_eq_false c9
   clear c9
   (first | rw [c9b0] | (simp only [i64_w, i32_w]; rw [c9b0]) | skip)
   by_cases c10 : 0 ≤ t318
   ·
    rw [if_pos c10] at H
    have c10b0 : decide (0 ≤ t318) = true := decide_eq_true c10
    clear c10
    by_cases c11 : t318 < (l0.length : Int)
    ·
     rw [if_pos c11] at H
     have c11b0 : decide (t318 < (l0.length : Int)) = true := decide_eq_true c11
     clear c11
     replace H := Option.bind_eq_some_iff.mp H
     obtain ⟨t320, A120, H⟩ := H
     replace H : (impl_HiddenBy.j0 k l0 a1 t315 t318 t320) = some r := H
     have A12 := Aside0.mk A120
     clear A120
     have H' := Aside0.mk H
     clear H
     have p319 : 0 ≤ (t318 : Int) := of_decide_eq_true Hd.a_
     have q319 : t318 < (l0.length : Int) := of_decide_eq_true Hd.a_
     obtain ⟨ad319, e319, hx319_0, hx319_1, hx319_2, hx319_3⟩ := at_T77 HR0.out t318 p319 q319
     cases e319
     replace hx319_0 := (HB.out.cell (World.block_lt_of_cell? w _ hx319_0)).trans hx319_0
     replace hx319_1 := (HB.out.cell (World.block_lt_of_cell? w _ hx319_1)).trans hx319_1
     replace hx319_2 := (HB.out.cell (World.block_lt_of_cell? w _ hx319_2)).trans hx319_2
     replace hx319_3 := (HB.out.cell (World.block_lt_of_cell? w _ hx319_3)).trans hx319_3
     replace p319 := eq_true p319
     replace q319 := eq_true q319
     obtain ⟨Ao13, co13, eo13⟩ := Kd.R_slice HO317.out
     subst eo13
     go_wp2_with (first | (go_at_call 91; (with_reducible refine (impl_Place_91.calls k _ _ t315 ((rd_T77 l0 t318).f0) ((rd_T77 l0 t318).f1.f0) ((rd_T77 l0 t318).f1.f1) ((rd_T77 l0 t318).f2) t320 _ ?side1 ?side2 A12.out).mono ?_); (case side1 => repeat (first | exact (Kd.R_reads' HO317.out).2.2 | (with_reducible refine Kd.C_alloc ?_ _) | (with_reducible refine Kd.C_drewN ?_ _) | (with_reducible refine Kd.C_drew ?_))); (case side2 => exact (Kd.R_reads' HO317.out).2.1); rintro e w14 ⟨rfl, hb⟩; replace HO317 := Aside0.mk (Kd.R_below (Hd.r_ HO317) hb); replace HB := Aside0.mk (below_step Hd.b_ hb); (try clear hb); (try clear hb2); (try clear hk); (try clear hi)))
     go_meet
     case rel => exact ⟨_, (t320), (by first | rfl | (simp; done) | (simp [*]; done)), H', ⟨by first | omega | exact Nat.le_refl _⟩, ⟨by (with_reducible repeat (first | apply Kd.R_alloc | apply Kd.R_drewN | apply Kd.R_drew)); exact HO317.out⟩, ⟨Hd.b_⟩⟩
    ·
     rw [if_neg c11] at H
     exact absurd H (by simp)
   ·
    rw [if_neg c10] at H
    exact absurd H (by simp)
 case rest =>
  clear HC6
  try clear c1
  try clear p2
  try clear c3
  try clear p3
  try clear q3
  try clear hx3
  try clear c8
  try clear c9
  try clear c9b0
  try clear c10
  try clear c10b0
  try clear c11
  try clear c11b0
  try clear hx319_0
  try clear hx319_1
  try clear hx319_2
  try clear hx319_3
  try clear p319
  try clear q319
  obtain ⟨kq, x26_5, rfl, HA, HJ5, HO_7, HB⟩ := hcut
  cases kq with
  | zero => exact absurd HA.out (by simp [impl_HiddenBy.j0])
  | succ kj5 =>
   have H := HA.out
   clear HA
   simp only [impl_HiddenBy.j0] at H
   by_cases c15 : x26_5 = true
   ·
    subst c15
    have H1 : (some 0) = some r := by rw [if_pos rfl] at H; exact H
    clear H
    have H := H1
    clear H1
    obtain rfl := Option.some.inj H
    go_wp2
    go_ret
    exact ⟨Hd.e_, Hd.b_⟩
   ·
    replace c15 := Bool.eq_false_iff.mpr c15
    subst c15
    have H1 : (impl_HiddenBy.l0 kj5 l0 a1 t318 t315 (t315.length : Int) 0) = some r := by rw [if_neg (show ¬ (false = true) by decide)] at H; exact H
    clear H
    have H := H1
    clear H1
    have H' := Aside0.mk H
    clear H
    obtain ⟨Ao16, co16, eo16⟩ := Kd.R_slice HO_7.out
    subst eo16
    go_wp2
    go_loopg [29] kj5 (fun kq v29 w' => ∃ (x29_2 : Int), v29 = .int .i64 x29_2 ∧ Aside0 (impl_HiddenBy.l0 kq l0 a1 t318 t315 (t315.length : Int) x29_2 = some r) ∧ Aside0 (kq ≤ kj5) ∧ Aside0 (Kd.R k77 77 w' w.heap.size (fun _ => True) (.slice Ao16 t315.length co16) t315) ∧ Aside0 (Below w.heap.size w w'))
    case atStart => exact ⟨(0), (by first | rfl | (simp; done) | (simp [*]; done)), H', ⟨Nat.le_refl _⟩, ⟨by (with_reducible repeat (first | apply Kd.R_alloc | apply Kd.R_drewN | apply Kd.R_drew)); exact HO_7.out⟩, ⟨Hd.b_⟩⟩
    case round =>
     clear H'
     try clear c1
     try clear p2
     try clear c3
     try clear p3
     try clear q3
     try clear hx3
     try clear c8
     try clear c9
     try clear c9b0
     try clear c10
     try clear c10b0
     try clear c11
     try clear c11b0
     try clear c15
     try clear hx319_0
     try clear hx319_1
     try clear hx319_2
     try clear hx319_3
     try clear p2
     try clear p3
     try clear p319
     try clear q3
     try clear q319
     obtain ⟨x29_2, rfl, HA, HK2, HO_27, HB⟩ := hrel
     cases gk with
     | zero => exact absurd HA.out (by simp [impl_HiddenBy.l0])
     | succ k2 =>
      have H := HA.out
      clear HA
      simp only [impl_HiddenBy.l0] at H
      by_cases c17 : x29_2 < (t315.length : Int)
      ·
       rw [if_pos c17] at H
       have c17b0 : decide (x29_2 < (t315.length : Int)) = true := decide_eq_true c17
       clear c17
       by_cases c18 : 0 ≤ x29_2
       ·
        rw [if_pos c18] at H
        have c18b0 : decide (0 ≤ x29_2) = true := decide_eq_true c18
        clear c18
        by_cases c19 : x29_2 < (t315.length : Int)
        ·
         rw [if_pos c19] at H
         have c19b0 : decide (x29_2 < (t315.length : Int)) = true := decide_eq_true c19
         clear c19
         by_cases c20 : 0 ≤ t318
         ·
          rw [if_pos c20] at H
          have c20b0 : decide (0 ≤ t318) = true := decide_eq_true c20
          clear c20
          by_cases c21 : t318 < (l0.length : Int)
          ·
           rw [if_pos c21] at H
           have c21b0 : decide (t318 < (l0.length : Int)) = true := decide_eq_true c21
           clear c21
           replace H := Option.bind_eq_some_iff.mp H
           obtain ⟨t324, A220, H⟩ := H
           replace H : (if t324 = true then ((impl_FarSquared.f ((rd_T77 t315 x29_2).f1.f0) ((rd_T77 t315 x29_2).f1.f1) ((rd_T77 l0 t318).f1.f0) ((rd_T77 l0 t318).f1.f1)).bind fun t326 => (if t326 < (wrap64 (a1 * a1)) then (some ((rd_T77 t315 x29_2).f0)) else (impl_HiddenBy.l0 k2 l0 a1 t318 t315 (t315.length : Int) (wrap64 (x29_2 + 1))))) else (impl_HiddenBy.l0 k2 l0 a1 t318 t315 (t315.length : Int) (wrap64 (x29_2 + 1)))) = some r := H
           have A22 := Aside0.mk A220
           clear A220
           by_cases c23 : t324 = true
           ·
            subst c23
            have H1 : ((impl_FarSquared.f ((rd_T77 t315 x29_2).f1.f0) ((rd_T77 t315 x29_2).f1.f1) ((rd_T77 l0 t318).f1.f0) ((rd_T77 l0 t318).f1.f1)).bind fun t326 => (if t326 < (wrap64 (a1 * a1)) then (some ((rd_T77 t315 x29_2).f0)) else (impl_HiddenBy.l0 k2 l0 a1 t318 t315 (t315.length : Int) (wrap64 (x29_2 + 1))))) = some r := by rw [if_pos rfl] at H; exact H
            clear H
            have H := H1
            clear H1
            replace H := Option.bind_eq_some_iff.mp H
            obtain ⟨t326, A240, H⟩ := H
            replace H : (if t326 < (wrap64 (a1 * a1)) then (some ((rd_T77 t315 x29_2).f0)) else (impl_HiddenBy.l0 k2 l0 a1 t318 t315 (t315.length : Int) (wrap64 (x29_2 + 1)))) = some r := H
            have A24 := Aside0.mk A240
            clear A240
            by_cases c25 : t326 < (wrap64 (a1 * a1))
            ·
             rw [if_pos c25] at H
             have c25b0 : decide (t326 < (wrap64 (a1 * a1))) = true := decide_eq_true c25
             clear c25
             obtain rfl := Option.some.inj H
             have p321 : 0 ≤ (x29_2 : Int) := of_decide_eq_true Hd.a_
             have q321 : x29_2 < (t315.length : Int) := of_decide_eq_true Hd.a_
             obtain ⟨ad321, e321, hx321_0, hx321_1, hx321_2, hx321_3⟩ := at_T77 (Kd.R_reads' HO_27.out).2.2 x29_2 p321 q321
             cases e321
             replace p321 := eq_true p321
             replace q321 := eq_true q321
             try go_wp2_with (first | ((with_reducible refine gate_dst (N := 10) rfl ?_); refine Hd.box_ 10 (#[.int .i64 0, .int .i64 0, .int .i64 0, .int .i64 0]) 77 ?_; intro gb322 hg w26 hbox hb; replace HO_27 := Aside0.mk (Kd.R_below (Kd.R_elderB (Hd.r_ HO_27) gb322 (Nat.le_of_eq hg.symm)) hb); have BK322 := Aside0.mk (hbox); have GW322 := Aside0.mk ((Hd.g_ hg Hd.b_ : w.heap.size ≤ gb322)); have GE322 := Aside0.mk ((Hd.g_ hg Hd.b_ : w.heap.size ≤ gb322)); replace HB := Aside0.mk (below_step Hd.b_ hb); clear hb hbox hg; obtain ⟨hcz27_0, hcz27_1, hcz27_2, hcz27_3⟩ := Hd.c4_ BK322.out; obtain ⟨hfz27_0, hfz27_1, hfz27_2, hfz27_3⟩ := Hd.f4_ BK322.out))
             have n0_ : Aside0 (Kd.R k77 77 ((((w26.setCell ⟨gb322, 0, none⟩ (.int .i64 ((rd_T77 t315 x29_2).f0))).setCell ⟨gb322, 1, none⟩ (.int .i64 ((rd_T77 t315 x29_2).f1.f0))).setCell ⟨gb322, 2, none⟩ (.int .i64 ((rd_T77 t315 x29_2).f1.f1))).setCell ⟨gb322, 3, none⟩ (.int .i64 ((rd_T77 t315 x29_2).f2))) w.heap.size (fun k_ => k_ ≠ gb322) (.slice (some ad321) t315.length co16) t315) := ⟨by (with_reducible repeat (first | apply Kd.R_alloc | apply Kd.R_drewN | apply Kd.R_drew)); exact Kd.R_mono (Kd.R_far (p := ⟨gb322, 3, none⟩) (Kd.R_far (p := ⟨gb322, 2, none⟩) (Kd.R_far (p := ⟨gb322, 1, none⟩) (Kd.R_far (p := ⟨gb322, 0, none⟩) (Kd.R_mono HO_27.out (fun k_ hk => (⟨hk, hk.2⟩ : _ ∧ k_ ≠ gb322))) (fun _ hk => hk.2) (.int .i64 ((rd_T77 t315 x29_2).f0))) (fun _ hk => hk.2) (.int .i64 ((rd_T77 t315 x29_2).f1.f0))) (fun _ hk => hk.2) (.int .i64 ((rd_T77 t315 x29_2).f1.f1))) (fun _ hk => hk.2) (.int .i64 ((rd_T77 t315 x29_2).f2))) (fun _ hk => hk.1.2)⟩
             have n1_ : Aside0 (((((w26.setCell ⟨gb322, 0, none⟩ (.int .i64 ((rd_T77 t315 x29_2).f0))).setCell ⟨gb322, 1, none⟩ (.int .i64 ((rd_T77 t315 x29_2).f1.f0))).setCell ⟨gb322, 2, none⟩ (.int .i64 ((rd_T77 t315 x29_2).f1.f1))).setCell ⟨gb322, 3, none⟩ (.int .i64 ((rd_T77 t315 x29_2).f2))).heap[gb322]? = some (.cells #[.int .i64 ((rd_T77 t315 x29_2).f0), .int .i64 ((rd_T77 t315 x29_2).f1.f0), .int .i64 ((rd_T77 t315 x29_2).f1.f1), .int .i64 ((rd_T77 t315 x29_2).f2)] 77 (0, 0))) := ⟨by (with_reducible repeat (first | refine blk_drewN ?_ _ | refine blk_drew ?_ | refine blk_alloc ?_ _)); refine blk_put (cs := #[.int .i64 ((rd_T77 t315 x29_2).f0), .int .i64 ((rd_T77 t315 x29_2).f1.f0), .int .i64 ((rd_T77 t315 x29_2).f1.f1), .int .i64 0]) ?_ 3 _ rfl; (with_reducible repeat (first | refine blk_drewN ?_ _ | refine blk_drew ?_ | refine blk_alloc ?_ _)); refine blk_put (cs := #[.int .i64 ((rd_T77 t315 x29_2).f0), .int .i64 ((rd_T77 t315 x29_2).f1.f0), .int .i64 0, .int .i64 0]) ?_ 2 _ rfl; (with_reducible repeat (first | refine blk_drewN ?_ _ | refine blk_drew ?_ | refine blk_alloc ?_ _)); refine blk_put (cs := #[.int .i64 ((rd_T77 t315 x29_2).f0), .int .i64 0, .int .i64 0, .int .i64 0]) ?_ 1 _ rfl; (with_reducible repeat (first | refine blk_drewN ?_ _ | refine blk_drew ?_ | refine blk_alloc ?_ _)); refine blk_put (cs := #[.int .i64 0, .int .i64 0, .int .i64 0, .int .i64 0]) ?_ 0 _ rfl; (with_reducible repeat (first | refine blk_drewN ?_ _ | refine blk_drew ?_ | refine blk_alloc ?_ _)); exact BK322.out⟩
             have n2_ : Aside0 (Below w.heap.size w ((((w26.setCell ⟨gb322, 0, none⟩ (.int .i64 ((rd_T77 t315 x29_2).f0))).setCell ⟨gb322, 1, none⟩ (.int .i64 ((rd_T77 t315 x29_2).f1.f0))).setCell ⟨gb322, 2, none⟩ (.int .i64 ((rd_T77 t315 x29_2).f1.f1))).setCell ⟨gb322, 3, none⟩ (.int .i64 ((rd_T77 t315 x29_2).f2)))) := ⟨Hd.b_⟩
             (try clear HO_27)
             (try clear BK322)
             (try clear HB)
             generalize ((((w26.setCell ⟨gb322, 0, none⟩ (.int .i64 ((rd_T77 t315 x29_2).f0))).setCell ⟨gb322, 1, none⟩ (.int .i64 ((rd_T77 t315 x29_2).f1.f0))).setCell ⟨gb322, 2, none⟩ (.int .i64 ((rd_T77 t315 x29_2).f1.f1))).setCell ⟨gb322, 3, none⟩ (.int .i64 ((rd_T77 t315 x29_2).f2))) = w28 at n0_ n1_ n2_ ⊢
             have HO_27 := n0_
             have BK322 := n1_
             have HB := n2_
             clear n0_ n1_ n2_
             replace HO_27 := Aside0.mk (Kd.R_drew HO_27.out)
             replace BK322 := Aside0.mk (blk_drew BK322.out)
             replace HB := Aside0.mk (below_drew1 HB.out)
             have p323 : 0 ≤ (t318 : Int) := of_decide_eq_true Hd.a_
             have q323 : t318 < (l0.length : Int) := of_decide_eq_true Hd.a_
             obtain ⟨ad323, e323, hx323_0, hx323_1, hx323_2, hx323_3⟩ := at_T77 HR0.out t318 p323 q323
             have hw323_3 := hx323_3
             have hw323_2 := hx323_2
             have hw323_1 := hx323_1
             have hw323_0 := hx323_0
             cases e323
             replace hx323_0 := (HB.out.cell (World.block_lt_of_cell? w _ hx323_0)).trans hx323_0
             replace hx323_1 := (HB.out.cell (World.block_lt_of_cell? w _ hx323_1)).trans hx323_1
             replace hx323_2 := (HB.out.cell (World.block_lt_of_cell? w _ hx323_2)).trans hx323_2
             replace hx323_3 := (HB.out.cell (World.block_lt_of_cell? w _ hx323_3)).trans hx323_3
             replace p323 := eq_true p323
             replace q323 := eq_true q323
             have p325 : 0 ≤ (t318 : Int) := of_decide_eq_true Hd.a_
             have q325 : t318 < (l0.length : Int) := of_decide_eq_true Hd.a_
             obtain ⟨ad325, e325, hx325_0, hx325_1, hx325_2, hx325_3⟩ := at_T77 HR0.out t318 p325 q325
             have hw325_3 := hx325_3
             have hw325_2 := hx325_2
             have hw325_1 := hx325_1
             have hw325_0 := hx325_0
             obtain rfl : ad323 = ad325 := (by injection e325)
             replace hx325_0 := (HB.out.cell (World.block_lt_of_cell? w _ hx325_0)).trans hx325_0
             replace hx325_1 := (HB.out.cell (World.block_lt_of_cell? w _ hx325_1)).trans hx325_1
             replace hx325_2 := (HB.out.cell (World.block_lt_of_cell? w _ hx325_2)).trans hx325_2
             replace hx325_3 := (HB.out.cell (World.block_lt_of_cell? w _ hx325_3)).trans hx325_3
             replace p325 := eq_true p325
             replace q325 := eq_true q325
             obtain ⟨s0_, s1_, s2_, s3_⟩ := Hd.HW.k4 (W0 := w28.drew) BK322
             have s4_ := Hd.HW.x (W0 := w28.drew) ((HB.out.cell (World.block_lt_of_cell? w _ hw323_0)).trans hw323_0)
             have s5_ := Hd.HW.x (W0 := w28.drew) ((HB.out.cell (World.block_lt_of_cell? w _ hw323_1)).trans hw323_1)
             have s6_ := Hd.HW.x (W0 := w28.drew) ((HB.out.cell (World.block_lt_of_cell? w _ hw323_2)).trans hw323_2)
             have s7_ := Hd.HW.x (W0 := w28.drew) ((HB.out.cell (World.block_lt_of_cell? w _ hw323_3)).trans hw323_3)
             have s8_ := Hd.HW.x (W0 := w28.drew) ((HB.out.cell (World.block_lt_of_cell? w _ hw325_0)).trans hw325_0)
             have s9_ := Hd.HW.x (W0 := w28.drew) ((HB.out.cell (World.block_lt_of_cell? w _ hw325_1)).trans hw325_1)
             have s10_ := Hd.HW.x (W0 := w28.drew) ((HB.out.cell (World.block_lt_of_cell? w _ hw325_2)).trans hw325_2)
             have s11_ := Hd.HW.x (W0 := w28.drew) ((HB.out.cell (World.block_lt_of_cell? w _ hw325_3)).trans hw325_3)
             refine Hd.HW.region (by kernel_rfl) (by kernel_rfl) ?_
             repeat (go_big_quiet_step ((first | (go_at_call 50; with_reducible exact Hd.HW.c (impl_IsAbove.calls ((rd_T77 t315 x29_2).f0) ((rd_T77 t315 x29_2).f1.f0) ((rd_T77 t315 x29_2).f1.f1) ((rd_T77 t315 x29_2).f2) ((rd_T77 l0 t318).f0) ((rd_T77 l0 t318).f1.f0) ((rd_T77 l0 t318).f1.f1) ((rd_T77 l0 t318).f2) true _ A22.out)) | (go_at_call 51; with_reducible exact Hd.HW.c (impl_FarSquared.calls ((rd_T77 t315 x29_2).f1.f0) ((rd_T77 t315 x29_2).f1.f1) ((rd_T77 l0 t318).f1.f0) ((rd_T77 l0 t318).f1.f1) t326 _ A24.out)))))
             refine wpQuiet_nil ?_
             intro _ hq_
             obtain ⟨q_, rfl⟩ := hq_
             clear s0_ s1_ s2_ s3_ s4_ s5_ s6_ s7_ s8_ s9_ s10_ s11_
             replace HO_27 := Aside0.mk (Kd.R_below HO_27.out q_.b)
             replace BK322 := Aside0.mk (blk_below BK322.out q_.b)
             replace HB := Aside0.mk (below_step HB.out q_.b)
             replace hx323_0 := q_.cell hx323_0
             replace hx323_1 := q_.cell hx323_1
             replace hx323_2 := q_.cell hx323_2
             replace hx323_3 := q_.cell hx323_3
             replace hx325_0 := q_.cell hx325_0
             replace hx325_1 := q_.cell hx325_1
             replace hx325_2 := q_.cell hx325_2
             replace hx325_3 := q_.cell hx325_3
             generalize q_.W = w31 at HO_27 BK322 HB hx323_0 hx323_1 hx323_2 hx323_3 hx325_0 hx325_1 hx325_2 hx325_3 ⊢
             try simp only [i64_w, i32_w]
             obtain ⟨hcz32_0, hcz32_1, hcz32_2, hcz32_3⟩ := Hd.c4_ BK322.out
             obtain ⟨hfz32_0, hfz32_1, hfz32_2, hfz32_3⟩ := Hd.f4_ BK322.out
             try go_wp2
             go_ret
             exact ⟨Hd.e_, Hd.b_⟩
            ·
             rw [if_neg c25] at H
             have c25b0 : decide (t326 < (wrap64 (a1 * a1))) = false := decide_eq_false c25
             clear c25
             have H' := Aside0.mk H
             clear H
             have p321 : 0 ≤ (x29_2 : Int) := of_decide_eq_true Hd.a_
             have q321 : x29_2 < (t315.length : Int) := of_decide_eq_true Hd.a_
             obtain ⟨ad321, e321, hx321_0, hx321_1, hx321_2, hx321_3⟩ := at_T77 (Kd.R_reads' HO_27.out).2.2 x29_2 p321 q321
             cases e321
             replace p321 := eq_true p321
             replace q321 := eq_true q321
             try go_wp2_with (first | ((with_reducible refine gate_dst (N := 10) rfl ?_); refine Hd.box_ 10 (#[.int .i64 0, .int .i64 0, .int .i64 0, .int .i64 0]) 77 ?_; intro gb322 hg w33 hbox hb; replace HO_27 := Aside0.mk (Kd.R_below (Kd.R_elderB (Hd.r_ HO_27) gb322 (Nat.le_of_eq hg.symm)) hb); have BK322 := Aside0.mk (hbox); have GW322 := Aside0.mk ((Hd.g_ hg Hd.b_ : w.heap.size ≤ gb322)); have GE322 := Aside0.mk ((Hd.g_ hg Hd.b_ : w.heap.size ≤ gb322)); replace HB := Aside0.mk (below_step Hd.b_ hb); clear hb hbox hg; obtain ⟨hcz34_0, hcz34_1, hcz34_2, hcz34_3⟩ := Hd.c4_ BK322.out; obtain ⟨hfz34_0, hfz34_1, hfz34_2, hfz34_3⟩ := Hd.f4_ BK322.out))
             have n0_ : Aside0 (Kd.R k77 77 ((((w33.setCell ⟨gb322, 0, none⟩ (.int .i64 ((rd_T77 t315 x29_2).f0))).setCell ⟨gb322, 1, none⟩ (.int .i64 ((rd_T77 t315 x29_2).f1.f0))).setCell ⟨gb322, 2, none⟩ (.int .i64 ((rd_T77 t315 x29_2).f1.f1))).setCell ⟨gb322, 3, none⟩ (.int .i64 ((rd_T77 t315 x29_2).f2))) w.heap.size (fun k_ => k_ ≠ gb322) (.slice (some ad321) t315.length co16) t315) := ⟨by (with_reducible repeat (first | apply Kd.R_alloc | apply Kd.R_drewN | apply Kd.R_drew)); exact Kd.R_mono (Kd.R_far (p := ⟨gb322, 3, none⟩) (Kd.R_far (p := ⟨gb322, 2, none⟩) (Kd.R_far (p := ⟨gb322, 1, none⟩) (Kd.R_far (p := ⟨gb322, 0, none⟩) (Kd.R_mono HO_27.out (fun k_ hk => (⟨hk, hk.2⟩ : _ ∧ k_ ≠ gb322))) (fun _ hk => hk.2) (.int .i64 ((rd_T77 t315 x29_2).f0))) (fun _ hk => hk.2) (.int .i64 ((rd_T77 t315 x29_2).f1.f0))) (fun _ hk => hk.2) (.int .i64 ((rd_T77 t315 x29_2).f1.f1))) (fun _ hk => hk.2) (.int .i64 ((rd_T77 t315 x29_2).f2))) (fun _ hk => hk.1.2)⟩
             have n1_ : Aside0 (((((w33.setCell ⟨gb322, 0, none⟩ (.int .i64 ((rd_T77 t315 x29_2).f0))).setCell ⟨gb322, 1, none⟩ (.int .i64 ((rd_T77 t315 x29_2).f1.f0))).setCell ⟨gb322, 2, none⟩ (.int .i64 ((rd_T77 t315 x29_2).f1.f1))).setCell ⟨gb322, 3, none⟩ (.int .i64 ((rd_T77 t315 x29_2).f2))).heap[gb322]? = some (.cells #[.int .i64 ((rd_T77 t315 x29_2).f0), .int .i64 ((rd_T77 t315 x29_2).f1.f0), .int .i64 ((rd_T77 t315 x29_2).f1.f1), .int .i64 ((rd_T77 t315 x29_2).f2)] 77 (0, 0))) := ⟨by (with_reducible repeat (first | refine blk_drewN ?_ _ | refine blk_drew ?_ | refine blk_alloc ?_ _)); refine blk_put (cs := #[.int .i64 ((rd_T77 t315 x29_2).f0), .int .i64 ((rd_T77 t315 x29_2).f1.f0), .int .i64 ((rd_T77 t315 x29_2).f1.f1), .int .i64 0]) ?_ 3 _ rfl; (with_reducible repeat (first | refine blk_drewN ?_ _ | refine blk_drew ?_ | refine blk_alloc ?_ _)); refine blk_put (cs := #[.int .i64 ((rd_T77 t315 x29_2).f0), .int .i64 ((rd_T77 t315 x29_2).f1.f0), .int .i64 0, .int .i64 0]) ?_ 2 _ rfl; (with_reducible repeat (first | refine blk_drewN ?_ _ | refine blk_drew ?_ | refine blk_alloc ?_ _)); refine blk_put (cs := #[.int .i64 ((rd_T77 t315 x29_2).f0), .int .i64 0, .int .i64 0, .int .i64 0]) ?_ 1 _ rfl; (with_reducible repeat (first | refine blk_drewN ?_ _ | refine blk_drew ?_ | refine blk_alloc ?_ _)); refine blk_put (cs := #[.int .i64 0, .int .i64 0, .int .i64 0, .int .i64 0]) ?_ 0 _ rfl; (with_reducible repeat (first | refine blk_drewN ?_ _ | refine blk_drew ?_ | refine blk_alloc ?_ _)); exact BK322.out⟩
             have n2_ : Aside0 (Below w.heap.size w ((((w33.setCell ⟨gb322, 0, none⟩ (.int .i64 ((rd_T77 t315 x29_2).f0))).setCell ⟨gb322, 1, none⟩ (.int .i64 ((rd_T77 t315 x29_2).f1.f0))).setCell ⟨gb322, 2, none⟩ (.int .i64 ((rd_T77 t315 x29_2).f1.f1))).setCell ⟨gb322, 3, none⟩ (.int .i64 ((rd_T77 t315 x29_2).f2)))) := ⟨Hd.b_⟩
             (try clear HO_27)
             (try clear BK322)
             (try clear HB)
             generalize ((((w33.setCell ⟨gb322, 0, none⟩ (.int .i64 ((rd_T77 t315 x29_2).f0))).setCell ⟨gb322, 1, none⟩ (.int .i64 ((rd_T77 t315 x29_2).f1.f0))).setCell ⟨gb322, 2, none⟩ (.int .i64 ((rd_T77 t315 x29_2).f1.f1))).setCell ⟨gb322, 3, none⟩ (.int .i64 ((rd_T77 t315 x29_2).f2))) = w35 at n0_ n1_ n2_ ⊢
             have HO_27 := n0_
             have BK322 := n1_
             have HB := n2_
             clear n0_ n1_ n2_
             replace HO_27 := Aside0.mk (Kd.R_drew HO_27.out)
             replace BK322 := Aside0.mk (blk_drew BK322.out)
             replace HB := Aside0.mk (below_drew1 HB.out)
             have p323 : 0 ≤ (t318 : Int) := of_decide_eq_true Hd.a_
             have q323 : t318 < (l0.length : Int) := of_decide_eq_true Hd.a_
             obtain ⟨ad323, e323, hx323_0, hx323_1, hx323_2, hx323_3⟩ := at_T77 HR0.out t318 p323 q323
             have hw323_3 := hx323_3
             have hw323_2 := hx323_2
             have hw323_1 := hx323_1
             have hw323_0 := hx323_0
             cases e323
             replace hx323_0 := (HB.out.cell (World.block_lt_of_cell? w _ hx323_0)).trans hx323_0
             replace hx323_1 := (HB.out.cell (World.block_lt_of_cell? w _ hx323_1)).trans hx323_1
             replace hx323_2 := (HB.out.cell (World.block_lt_of_cell? w _ hx323_2)).trans hx323_2
             replace hx323_3 := (HB.out.cell (World.block_lt_of_cell? w _ hx323_3)).trans hx323_3
             replace p323 := eq_true p323
             replace q323 := eq_true q323
             have p325 : 0 ≤ (t318 : Int) := of_decide_eq_true Hd.a_
             have q325 : t318 < (l0.length : Int) := of_decide_eq_true Hd.a_
             obtain ⟨ad325, e325, hx325_0, hx325_1, hx325_2, hx325_3⟩ := at_T77 HR0.out t318 p325 q325
             have hw325_3 := hx325_3
             have hw325_2 := hx325_2
             have hw325_1 := hx325_1
             have hw325_0 := hx325_0
             obtain rfl : ad323 = ad325 := (by injection e325)
             replace hx325_0 := (HB.out.cell (World.block_lt_of_cell? w _ hx325_0)).trans hx325_0
             replace hx325_1 := (HB.out.cell (World.block_lt_of_cell? w _ hx325_1)).trans hx325_1
             replace hx325_2 := (HB.out.cell (World.block_lt_of_cell? w _ hx325_2)).trans hx325_2
             replace hx325_3 := (HB.out.cell (World.block_lt_of_cell? w _ hx325_3)).trans hx325_3
             replace p325 := eq_true p325
             replace q325 := eq_true q325
             obtain ⟨s0_, s1_, s2_, s3_⟩ := Hd.HW.k4 (W0 := w35.drew) BK322
             have s4_ := Hd.HW.x (W0 := w35.drew) ((HB.out.cell (World.block_lt_of_cell? w _ hw323_0)).trans hw323_0)
             have s5_ := Hd.HW.x (W0 := w35.drew) ((HB.out.cell (World.block_lt_of_cell? w _ hw323_1)).trans hw323_1)
             have s6_ := Hd.HW.x (W0 := w35.drew) ((HB.out.cell (World.block_lt_of_cell? w _ hw323_2)).trans hw323_2)
             have s7_ := Hd.HW.x (W0 := w35.drew) ((HB.out.cell (World.block_lt_of_cell? w _ hw323_3)).trans hw323_3)
             have s8_ := Hd.HW.x (W0 := w35.drew) ((HB.out.cell (World.block_lt_of_cell? w _ hw325_0)).trans hw325_0)
             have s9_ := Hd.HW.x (W0 := w35.drew) ((HB.out.cell (World.block_lt_of_cell? w _ hw325_1)).trans hw325_1)
             have s10_ := Hd.HW.x (W0 := w35.drew) ((HB.out.cell (World.block_lt_of_cell? w _ hw325_2)).trans hw325_2)
             have s11_ := Hd.HW.x (W0 := w35.drew) ((HB.out.cell (World.block_lt_of_cell? w _ hw325_3)).trans hw325_3)
             refine Hd.HW.region (by kernel_rfl) (by kernel_rfl) ?_
             repeat (go_big_quiet_step ((first | (go_at_call 50; with_reducible exact Hd.HW.c (impl_IsAbove.calls ((rd_T77 t315 x29_2).f0) ((rd_T77 t315 x29_2).f1.f0) ((rd_T77 t315 x29_2).f1.f1) ((rd_T77 t315 x29_2).f2) ((rd_T77 l0 t318).f0) ((rd_T77 l0 t318).f1.f0) ((rd_T77 l0 t318).f1.f1) ((rd_T77 l0 t318).f2) true _ A22.out)) | (go_at_call 51; with_reducible exact Hd.HW.c (impl_FarSquared.calls ((rd_T77 t315 x29_2).f1.f0) ((rd_T77 t315 x29_2).f1.f1) ((rd_T77 l0 t318).f1.f0) ((rd_T77 l0 t318).f1.f1) t326 _ A24.out)))))
             refine wpQuiet_nil ?_
             intro _ hq_
             obtain ⟨q_, rfl⟩ := hq_
             clear s0_ s1_ s2_ s3_ s4_ s5_ s6_ s7_ s8_ s9_ s10_ s11_
             replace HO_27 := Aside0.mk (Kd.R_below HO_27.out q_.b)
             replace BK322 := Aside0.mk (blk_below BK322.out q_.b)
             replace HB := Aside0.mk (below_step HB.out q_.b)
             replace hx323_0 := q_.cell hx323_0
             replace hx323_1 := q_.cell hx323_1
             replace hx323_2 := q_.cell hx323_2
             replace hx323_3 := q_.cell hx323_3
             replace hx325_0 := q_.cell hx325_0
             replace hx325_1 := q_.cell hx325_1
             replace hx325_2 := q_.cell hx325_2
             replace hx325_3 := q_.cell hx325_3
             generalize q_.W = w38 at HO_27 BK322 HB hx323_0 hx323_1 hx323_2 hx323_3 hx325_0 hx325_1 hx325_2 hx325_3 ⊢
             try simp only [i64_w, i32_w]
             try go_wp2
             go_roundg k2
             case measure => have := HJ5.out; have := HK2.out; omega
             case rel => exact ⟨(wrap64 (x29_2 + 1)), (by first | rfl | (simp; done) | (simp [*]; done)), H', ⟨by have := HJ5.out; have := HK2.out; omega⟩, ⟨by (with_reducible repeat (first | apply Kd.R_alloc | apply Kd.R_drewN | apply Kd.R_drew)); exact Kd.R_mono HO_27.out (fun _ hk => trivial)⟩, ⟨Hd.b_⟩⟩
           ·
            replace c23 := Bool.eq_false_iff.mpr c23
            subst c23
            have H1 : (impl_HiddenBy.l0 k2 l0 a1 t318 t315 (t315.length : Int) (wrap64 (x29_2 + 1))) = some r := by rw [if_neg (show ¬ (false = true) by decide)] at H; exact H
            clear H
            have H := H1
            clear H1
            have H' := Aside0.mk H
            clear H
            have p321 : 0 ≤ (x29_2 : Int) := of_decide_eq_true Hd.a_
            have q321 : x29_2 < (t315.length : Int) := of_decide_eq_true Hd.a_
            obtain ⟨ad321, e321, hx321_0, hx321_1, hx321_2, hx321_3⟩ := at_T77 (Kd.R_reads' HO_27.out).2.2 x29_2 p321 q321
            cases e321
            replace p321 := eq_true p321
            replace q321 := eq_true q321
            try go_wp2_with (first | ((with_reducible refine gate_dst (N := 10) rfl ?_); refine Hd.box_ 10 (#[.int .i64 0, .int .i64 0, .int .i64 0, .int .i64 0]) 77 ?_; intro gb322 hg w39 hbox hb; replace HO_27 := Aside0.mk (Kd.R_below (Kd.R_elderB (Hd.r_ HO_27) gb322 (Nat.le_of_eq hg.symm)) hb); have BK322 := Aside0.mk (hbox); have GW322 := Aside0.mk ((Hd.g_ hg Hd.b_ : w.heap.size ≤ gb322)); have GE322 := Aside0.mk ((Hd.g_ hg Hd.b_ : w.heap.size ≤ gb322)); replace HB := Aside0.mk (below_step Hd.b_ hb); clear hb hbox hg; obtain ⟨hcz40_0, hcz40_1, hcz40_2, hcz40_3⟩ := Hd.c4_ BK322.out; obtain ⟨hfz40_0, hfz40_1, hfz40_2, hfz40_3⟩ := Hd.f4_ BK322.out))
            have n0_ : Aside0 (Kd.R k77 77 ((((w39.setCell ⟨gb322, 0, none⟩ (.int .i64 ((rd_T77 t315 x29_2).f0))).setCell ⟨gb322, 1, none⟩ (.int .i64 ((rd_T77 t315 x29_2).f1.f0))).setCell ⟨gb322, 2, none⟩ (.int .i64 ((rd_T77 t315 x29_2).f1.f1))).setCell ⟨gb322, 3, none⟩ (.int .i64 ((rd_T77 t315 x29_2).f2))) w.heap.size (fun k_ => k_ ≠ gb322) (.slice (some ad321) t315.length co16) t315) := ⟨by (with_reducible repeat (first | apply Kd.R_alloc | apply Kd.R_drewN | apply Kd.R_drew)); exact Kd.R_mono (Kd.R_far (p := ⟨gb322, 3, none⟩) (Kd.R_far (p := ⟨gb322, 2, none⟩) (Kd.R_far (p := ⟨gb322, 1, none⟩) (Kd.R_far (p := ⟨gb322, 0, none⟩) (Kd.R_mono HO_27.out (fun k_ hk => (⟨hk, hk.2⟩ : _ ∧ k_ ≠ gb322))) (fun _ hk => hk.2) (.int .i64 ((rd_T77 t315 x29_2).f0))) (fun _ hk => hk.2) (.int .i64 ((rd_T77 t315 x29_2).f1.f0))) (fun _ hk => hk.2) (.int .i64 ((rd_T77 t315 x29_2).f1.f1))) (fun _ hk => hk.2) (.int .i64 ((rd_T77 t315 x29_2).f2))) (fun _ hk => hk.1.2)⟩
            have n1_ : Aside0 (((((w39.setCell ⟨gb322, 0, none⟩ (.int .i64 ((rd_T77 t315 x29_2).f0))).setCell ⟨gb322, 1, none⟩ (.int .i64 ((rd_T77 t315 x29_2).f1.f0))).setCell ⟨gb322, 2, none⟩ (.int .i64 ((rd_T77 t315 x29_2).f1.f1))).setCell ⟨gb322, 3, none⟩ (.int .i64 ((rd_T77 t315 x29_2).f2))).heap[gb322]? = some (.cells #[.int .i64 ((rd_T77 t315 x29_2).f0), .int .i64 ((rd_T77 t315 x29_2).f1.f0), .int .i64 ((rd_T77 t315 x29_2).f1.f1), .int .i64 ((rd_T77 t315 x29_2).f2)] 77 (0, 0))) := ⟨by (with_reducible repeat (first | refine blk_drewN ?_ _ | refine blk_drew ?_ | refine blk_alloc ?_ _)); refine blk_put (cs := #[.int .i64 ((rd_T77 t315 x29_2).f0), .int .i64 ((rd_T77 t315 x29_2).f1.f0), .int .i64 ((rd_T77 t315 x29_2).f1.f1), .int .i64 0]) ?_ 3 _ rfl; (with_reducible repeat (first | refine blk_drewN ?_ _ | refine blk_drew ?_ | refine blk_alloc ?_ _)); refine blk_put (cs := #[.int .i64 ((rd_T77 t315 x29_2).f0), .int .i64 ((rd_T77 t315 x29_2).f1.f0), .int .i64 0, .int .i64 0]) ?_ 2 _ rfl; (with_reducible repeat (first | refine blk_drewN ?_ _ | refine blk_drew ?_ | refine blk_alloc ?_ _)); refine blk_put (cs := #[.int .i64 ((rd_T77 t315 x29_2).f0), .int .i64 0, .int .i64 0, .int .i64 0]) ?_ 1 _ rfl; (with_reducible repeat (first | refine blk_drewN ?_ _ | refine blk_drew ?_ | refine blk_alloc ?_ _)); refine blk_put (cs := #[.int .i64 0, .int .i64 0, .int .i64 0, .int .i64 0]) ?_ 0 _ rfl; (with_reducible repeat (first | refine blk_drewN ?_ _ | refine blk_drew ?_ | refine blk_alloc ?_ _)); exact BK322.out⟩
            have n2_ : Aside0 (Below w.heap.size w ((((w39.setCell ⟨gb322, 0, none⟩ (.int .i64 ((rd_T77 t315 x29_2).f0))).setCell ⟨gb322, 1, none⟩ (.int .i64 ((rd_T77 t315 x29_2).f1.f0))).setCell ⟨gb322, 2, none⟩ (.int .i64 ((rd_T77 t315 x29_2).f1.f1))).setCell ⟨gb322, 3, none⟩ (.int .i64 ((rd_T77 t315 x29_2).f2)))) := ⟨Hd.b_⟩
            (try clear HO_27)
            (try clear BK322)
            (try clear HB)
            generalize ((((w39.setCell ⟨gb322, 0, none⟩ (.int .i64 ((rd_T77 t315 x29_2).f0))).setCell ⟨gb322, 1, none⟩ (.int .i64 ((rd_T77 t315 x29_2).f1.f0))).setCell ⟨gb322, 2, none⟩ (.int .i64 ((rd_T77 t315 x29_2).f1.f1))).setCell ⟨gb322, 3, none⟩ (.int .i64 ((rd_T77 t315 x29_2).f2))) = w41 at n0_ n1_ n2_ ⊢
            have HO_27 := n0_
            have BK322 := n1_
            have HB := n2_
            clear n0_ n1_ n2_
            replace HO_27 := Aside0.mk (Kd.R_drew HO_27.out)
            replace BK322 := Aside0.mk (blk_drew BK322.out)
            replace HB := Aside0.mk (below_drew1 HB.out)
            have p323 : 0 ≤ (t318 : Int) := of_decide_eq_true Hd.a_
            have q323 : t318 < (l0.length : Int) := of_decide_eq_true Hd.a_
            obtain ⟨ad323, e323, hx323_0, hx323_1, hx323_2, hx323_3⟩ := at_T77 HR0.out t318 p323 q323
            have hw323_3 := hx323_3
            have hw323_2 := hx323_2
            have hw323_1 := hx323_1
            have hw323_0 := hx323_0
            cases e323
            replace hx323_0 := (HB.out.cell (World.block_lt_of_cell? w _ hx323_0)).trans hx323_0
            replace hx323_1 := (HB.out.cell (World.block_lt_of_cell? w _ hx323_1)).trans hx323_1
            replace hx323_2 := (HB.out.cell (World.block_lt_of_cell? w _ hx323_2)).trans hx323_2
            replace hx323_3 := (HB.out.cell (World.block_lt_of_cell? w _ hx323_3)).trans hx323_3
            replace p323 := eq_true p323
            replace q323 := eq_true q323
            obtain ⟨s0_, s1_, s2_, s3_⟩ := Hd.HW.k4 (W0 := w41.drew) BK322
            have s4_ := Hd.HW.x (W0 := w41.drew) ((HB.out.cell (World.block_lt_of_cell? w _ hw323_0)).trans hw323_0)
            have s5_ := Hd.HW.x (W0 := w41.drew) ((HB.out.cell (World.block_lt_of_cell? w _ hw323_1)).trans hw323_1)
            have s6_ := Hd.HW.x (W0 := w41.drew) ((HB.out.cell (World.block_lt_of_cell? w _ hw323_2)).trans hw323_2)
            have s7_ := Hd.HW.x (W0 := w41.drew) ((HB.out.cell (World.block_lt_of_cell? w _ hw323_3)).trans hw323_3)
            refine Hd.HW.region (by kernel_rfl) (by kernel_rfl) ?_
            repeat (go_big_quiet_step ((first | (go_at_call 50; with_reducible exact Hd.HW.c (impl_IsAbove.calls ((rd_T77 t315 x29_2).f0) ((rd_T77 t315 x29_2).f1.f0) ((rd_T77 t315 x29_2).f1.f1) ((rd_T77 t315 x29_2).f2) ((rd_T77 l0 t318).f0) ((rd_T77 l0 t318).f1.f0) ((rd_T77 l0 t318).f1.f1) ((rd_T77 l0 t318).f2) false _ A22.out)))))
            refine wpQuiet_nil ?_
            intro _ hq_
            obtain ⟨q_, rfl⟩ := hq_
            clear s0_ s1_ s2_ s3_ s4_ s5_ s6_ s7_
            replace HO_27 := Aside0.mk (Kd.R_below HO_27.out q_.b)
            replace BK322 := Aside0.mk (blk_below BK322.out q_.b)
            replace HB := Aside0.mk (below_step HB.out q_.b)
            replace hx323_0 := q_.cell hx323_0
            replace hx323_1 := q_.cell hx323_1
            replace hx323_2 := q_.cell hx323_2
            replace hx323_3 := q_.cell hx323_3
            generalize q_.W = w43 at HO_27 BK322 HB hx323_0 hx323_1 hx323_2 hx323_3 ⊢
            try simp only [i64_w, i32_w]
            try go_wp2
            go_roundg k2
            case measure => have := HJ5.out; have := HK2.out; omega
            case rel => exact ⟨(wrap64 (x29_2 + 1)), (by first | rfl | (simp; done) | (simp [*]; done)), H', ⟨by have := HJ5.out; have := HK2.out; omega⟩, ⟨by (with_reducible repeat (first | apply Kd.R_alloc | apply Kd.R_drewN | apply Kd.R_drew)); exact Kd.R_mono HO_27.out (fun _ hk => trivial)⟩, ⟨Hd.b_⟩⟩
          ·
           rw [if_neg c21] at H
           exact absurd H (by simp)
         ·
          rw [if_neg c20] at H
          exact absurd H (by simp)
        ·
         rw [if_neg c19] at H
         exact absurd H (by simp)
       ·
        rw [if_neg c18] at H
        exact absurd H (by simp)
      ·
       rw [if_neg c17] at H
       have c17b0 : decide (x29_2 < (t315.length : Int)) = false := decide_eq_false c17
       clear c17
       obtain rfl := Option.some.inj H
       go_wp2
       go_ret
       exact ⟨Hd.e_, Hd.b_⟩
def laws_eqPoint.f (a0_0 : Int) (a0_1 : Int) (a1_0 : Int) (a1_1 : Int) : Option (Bool) := if a0_0 = a1_0 then (if a0_1 = a1_1 then (some true) else (some false)) else (some false)
set_option maxHeartbeats 8000000 in
set_option maxRecDepth 100000 in
theorem laws_eqPoint.calls (a0_0 : Int) (a0_1 : Int) (a1_0 : Int) (a1_1 : Int) (r : Bool) (w : World) (h : laws_eqPoint.f a0_0 a0_1 a1_0 a1_1 = some r) :
  Calls Try.prog 104 #[.agg #[.int .i64 a0_0, .int .i64 a0_1], .agg #[.int .i64 a1_0, .int .i64 a1_1]] w fun e w' => e = .returned (.bool r) ∧ Below w.heap.size w w' := by
 have hu75 := Try.underlying75
 have HB := Aside0.mk (Below.refl w.heap.size w)
 have H : (if a0_0 = a1_0 then (if a0_1 = a1_1 then (some true) else (some false)) else (some false)) = some r := h
 clear h
 by_cases c3 : a0_0 = a1_0
 ·
  rw [if_pos c3] at H
  have c3b0 : (a0_0 == a1_0) = true := beq_iff_eq.mpr c3
  have c3b1 : (a0_0 != a1_0) = false := bne_eq_false_iff_eq.mpr c3
  clear c3
  by_cases c4 : a0_1 = a1_1
  ·
   rw [if_pos c4] at H
   have c4b0 : (a0_1 == a1_1) = true := beq_iff_eq.mpr c4
   have c4b1 : (a0_1 != a1_1) = false := bne_eq_false_iff_eq.mpr c4
   clear c4
   obtain rfl := Option.some.inj H
   go_enter Try.func104, Try.ntmps104
   go_wp2_with (first | ((with_reducible refine gate_dst (N := 2) rfl ?_); refine Hd.box_ 2 (#[.int .i64 a0_0, .int .i64 a0_1]) 75 ?_; intro gb327 hg w5 hbox hb; have BK327 := Aside0.mk (hbox); have GW327 := Aside0.mk ((Hd.g_ hg Hd.b_ : w.heap.size ≤ gb327)); have GE327 := Aside0.mk ((Hd.g_ hg Hd.b_ : w.heap.size ≤ gb327)); replace HB := Aside0.mk (below_step Hd.b_ hb); clear hb hbox hg) | ((with_reducible refine gate_dst (N := 3) rfl ?_); refine Hd.box_ 3 (#[.int .i64 a1_0, .int .i64 a1_1]) 75 ?_; intro gb328 hg w6 hbox hb; have BK328 := Aside0.mk (hbox); have GW328 := Aside0.mk ((Hd.g_ hg Hd.b_ : w.heap.size ≤ gb328)); have GE328 := Aside0.mk ((Hd.g_ hg Hd.b_ : w.heap.size ≤ gb328)); replace HB := Aside0.mk (below_step Hd.b_ hb); have NB327_328 := Aside0.mk ((Hd.lt_ BK327 hg)); have NB328_327 := Aside0.mk ((Hd.gt_ BK327 hg)); replace BK327 := Aside0.mk (Hd.kb_ BK327 hb); clear hb hbox hg; have hnb7 := NB327_328.out; have hnc7 := NB328_327.out; obtain ⟨hcz8_0, hcz8_1⟩ := Hd.c2_ BK327.out; obtain ⟨hfz8_0, hfz8_1⟩ := Hd.f2_ BK327.out; obtain ⟨hcz9_0, hcz9_1⟩ := Hd.c2_ BK328.out; obtain ⟨hfz9_0, hfz9_1⟩ := Hd.f2_ BK328.out))
   go_ret
   exact ⟨Hd.e_, Hd.b_⟩
  ·
   rw [if_neg c4] at H
   have c4b0 : (a0_1 == a1_1) = false := beq_eq_false_iff_ne.mpr c4
   have c4b1 : (a0_1 != a1_1) = true := bne_iff_ne.mpr c4
   obtain rfl := Option.some.inj H
   go_enter Try.func104, Try.ntmps104
   go_wp2_with (first | ((with_reducible refine gate_dst (N := 2) rfl ?_); refine Hd.box_ 2 (#[.int .i64 a0_0, .int .i64 a0_1]) 75 ?_; intro gb327 hg w10 hbox hb; have BK327 := Aside0.mk (hbox); have GW327 := Aside0.mk ((Hd.g_ hg Hd.b_ : w.heap.size ≤ gb327)); have GE327 := Aside0.mk ((Hd.g_ hg Hd.b_ : w.heap.size ≤ gb327)); replace HB := Aside0.mk (below_step Hd.b_ hb); clear hb hbox hg) | ((with_reducible refine gate_dst (N := 3) rfl ?_); refine Hd.box_ 3 (#[.int .i64 a1_0, .int .i64 a1_1]) 75 ?_; intro gb328 hg w11 hbox hb; have BK328 := Aside0.mk (hbox); have GW328 := Aside0.mk ((Hd.g_ hg Hd.b_ : w.heap.size ≤ gb328)); have GE328 := Aside0.mk ((Hd.g_ hg Hd.b_ : w.heap.size ≤ gb328)); replace HB := Aside0.mk (below_step Hd.b_ hb); have NB327_328 := Aside0.mk ((Hd.lt_ BK327 hg)); have NB328_327 := Aside0.mk ((Hd.gt_ BK327 hg)); replace BK327 := Aside0.mk (Hd.kb_ BK327 hb); clear hb hbox hg; have hnb12 := NB327_328.out; have hnc12 := NB328_327.out; obtain ⟨hcz13_0, hcz13_1⟩ := Hd.c2_ BK327.out; obtain ⟨hfz13_0, hfz13_1⟩ := Hd.f2_ BK327.out; obtain ⟨hcz14_0, hcz14_1⟩ := Hd.c2_ BK328.out; obtain ⟨hfz14_0, hfz14_1⟩ := Hd.f2_ BK328.out))
   go_ret
   exact ⟨Hd.e_, Hd.b_⟩
 ·
  rw [if_neg c3] at H
  have c3b0 : (a0_0 == a1_0) = false := beq_eq_false_iff_ne.mpr c3
  have c3b1 : (a0_0 != a1_0) = true := bne_iff_ne.mpr c3
  obtain rfl := Option.some.inj H
  go_enter Try.func104, Try.ntmps104
  go_wp2_with (first | ((with_reducible refine gate_dst (N := 2) rfl ?_); refine Hd.box_ 2 (#[.int .i64 a0_0, .int .i64 a0_1]) 75 ?_; intro gb327 hg w15 hbox hb; have BK327 := Aside0.mk (hbox); have GW327 := Aside0.mk ((Hd.g_ hg Hd.b_ : w.heap.size ≤ gb327)); have GE327 := Aside0.mk ((Hd.g_ hg Hd.b_ : w.heap.size ≤ gb327)); replace HB := Aside0.mk (below_step Hd.b_ hb); clear hb hbox hg) | ((with_reducible refine gate_dst (N := 3) rfl ?_); refine Hd.box_ 3 (#[.int .i64 a1_0, .int .i64 a1_1]) 75 ?_; intro gb328 hg w16 hbox hb; have BK328 := Aside0.mk (hbox); have GW328 := Aside0.mk ((Hd.g_ hg Hd.b_ : w.heap.size ≤ gb328)); have GE328 := Aside0.mk ((Hd.g_ hg Hd.b_ : w.heap.size ≤ gb328)); replace HB := Aside0.mk (below_step Hd.b_ hb); have NB327_328 := Aside0.mk ((Hd.lt_ BK327 hg)); have NB328_327 := Aside0.mk ((Hd.gt_ BK327 hg)); replace BK327 := Aside0.mk (Hd.kb_ BK327 hb); clear hb hbox hg; have hnb17 := NB327_328.out; have hnc17 := NB328_327.out; obtain ⟨hcz18_0, hcz18_1⟩ := Hd.c2_ BK327.out; obtain ⟨hfz18_0, hfz18_1⟩ := Hd.f2_ BK327.out; obtain ⟨hcz19_0, hcz19_1⟩ := Hd.c2_ BK328.out; obtain ⟨hfz19_0, hfz19_1⟩ := Hd.f2_ BK328.out))
  go_ret
  exact ⟨Hd.e_, Hd.b_⟩
def laws_eqPlace.f (a0_0 : Int) (a0_1 : Int) (a0_2 : Int) (a0_3 : Int) (a1_0 : Int) (a1_1 : Int) (a1_2 : Int) (a1_3 : Int) : Option (Bool) := if a0_0 = a1_0 then ((laws_eqPoint.f a0_1 a0_2 a1_1 a1_2).bind fun t331 => (if t331 = true then (if a0_3 = a1_3 then (some true) else (some false)) else (some false))) else (some false)
set_option maxHeartbeats 8000000 in
set_option maxRecDepth 100000 in
theorem laws_eqPlace.calls (a0_0 : Int) (a0_1 : Int) (a0_2 : Int) (a0_3 : Int) (a1_0 : Int) (a1_1 : Int) (a1_2 : Int) (a1_3 : Int) (r : Bool) (w : World) (h : laws_eqPlace.f a0_0 a0_1 a0_2 a0_3 a1_0 a1_1 a1_2 a1_3 = some r) :
  Calls Try.prog 92 #[.agg #[.int .i64 a0_0, .int .i64 a0_1, .int .i64 a0_2, .int .i64 a0_3], .agg #[.int .i64 a1_0, .int .i64 a1_1, .int .i64 a1_2, .int .i64 a1_3]] w fun e w' => e = .returned (.bool r) ∧ Below w.heap.size w w' := by
 have hu77 := Try.underlying77
 have hu75 := Try.underlying75
 have HB := Aside0.mk (Below.refl w.heap.size w)
 have H : (if a0_0 = a1_0 then ((laws_eqPoint.f a0_1 a0_2 a1_1 a1_2).bind fun t331 => (if t331 = true then (if a0_3 = a1_3 then (some true) else (some false)) else (some false))) else (some false)) = some r := h
 clear h
 by_cases c3 : a0_0 = a1_0
 ·
  rw [if_pos c3] at H
  have c3b0 : (a0_0 == a1_0) = true := beq_iff_eq.mpr c3
  have c3b1 : (a0_0 != a1_0) = false := bne_eq_false_iff_eq.mpr c3
  clear c3
  replace H := Option.bind_eq_some_iff.mp H
  obtain ⟨t331, A40, H⟩ := H
  replace H : (if t331 = true then (if a0_3 = a1_3 then (some true) else (some false)) else (some false)) = some r := H
  have A4 := Aside0.mk A40
  clear A40
  by_cases c5 : t331 = true
  ·
   subst c5
   have H1 : (if a0_3 = a1_3 then (some true) else (some false)) = some r := by rw [if_pos rfl] at H; exact H
   clear H
   have H := H1
   clear H1
   by_cases c6 : a0_3 = a1_3
   ·
    rw [if_pos c6] at H
    have c6b0 : (a0_3 == a1_3) = true := beq_iff_eq.mpr c6
    have c6b1 : (a0_3 != a1_3) = false := bne_eq_false_iff_eq.mpr c6
    clear c6
    obtain rfl := Option.some.inj H
    go_enter Try.func92, Try.ntmps92
    go_wp2_with (first | ((with_reducible refine gate_dst (N := 2) rfl ?_); refine Hd.box_ 2 (#[.int .i64 a0_0, .int .i64 a0_1, .int .i64 a0_2, .int .i64 a0_3]) 77 ?_; intro gb329 hg w7 hbox hb; have BK329 := Aside0.mk (hbox); have GW329 := Aside0.mk ((Hd.g_ hg Hd.b_ : w.heap.size ≤ gb329)); have GE329 := Aside0.mk ((Hd.g_ hg Hd.b_ : w.heap.size ≤ gb329)); replace HB := Aside0.mk (below_step Hd.b_ hb); clear hb hbox hg) | ((with_reducible refine gate_dst (N := 3) rfl ?_); refine Hd.box_ 3 (#[.int .i64 a1_0, .int .i64 a1_1, .int .i64 a1_2, .int .i64 a1_3]) 77 ?_; intro gb330 hg w8 hbox hb; have BK330 := Aside0.mk (hbox); have GW330 := Aside0.mk ((Hd.g_ hg Hd.b_ : w.heap.size ≤ gb330)); have GE330 := Aside0.mk ((Hd.g_ hg Hd.b_ : w.heap.size ≤ gb330)); replace HB := Aside0.mk (below_step Hd.b_ hb); have NB329_330 := Aside0.mk ((Hd.lt_ BK329 hg)); have NB330_329 := Aside0.mk ((Hd.gt_ BK329 hg)); replace BK329 := Aside0.mk (Hd.kb_ BK329 hb); clear hb hbox hg; have hnb9 := NB329_330.out; have hnc9 := NB330_329.out; obtain ⟨hcz10_0, hcz10_1, hcz10_2, hcz10_3⟩ := Hd.c4_ BK329.out; obtain ⟨hfz10_0, hfz10_1, hfz10_2, hfz10_3⟩ := Hd.f4_ BK329.out; obtain ⟨hcz11_0, hcz11_1, hcz11_2, hcz11_3⟩ := Hd.c4_ BK330.out; obtain ⟨hfz11_0, hfz11_1, hfz11_2, hfz11_3⟩ := Hd.f4_ BK330.out) | ((with_reducible refine gate_callee (f := 104) rfl ?_); refine goesL_ (some 14) rfl rfl Try.func104 (by kernel_rfl) rfl #[.agg #[.int .i64 a0_1, .int .i64 a0_2], .agg #[.int .i64 a1_1, .int .i64 a1_2]] rfl Hd.m_ ?_; (with_reducible refine (laws_eqPoint.calls a0_1 a0_2 a1_1 a1_2 true _ A4.out).mono ?_); rintro e w12 ⟨rfl, hb⟩; refine ⟨_, rfl, ?_⟩; replace BK329 := Aside0.mk (Hd.kb_ BK329 hb); replace BK330 := Aside0.mk (Hd.kb_ BK330 hb); replace HB := Aside0.mk (below_step Hd.b_ hb); (try clear hb); (try clear hb2); (try clear hk); (try clear hi); obtain ⟨hcz13_0, hcz13_1, hcz13_2, hcz13_3⟩ := Hd.c4_ BK329.out; obtain ⟨hfz13_0, hfz13_1, hfz13_2, hfz13_3⟩ := Hd.f4_ BK329.out; obtain ⟨hcz14_0, hcz14_1, hcz14_2, hcz14_3⟩ := Hd.c4_ BK330.out; obtain ⟨hfz14_0, hfz14_1, hfz14_2, hfz14_3⟩ := Hd.f4_ BK330.out))
    go_ret
    exact ⟨Hd.e_, Hd.b_⟩
   ·
    rw [if_neg c6] at H
    have c6b0 : (a0_3 == a1_3) = false := beq_eq_false_iff_ne.mpr c6
    have c6b1 : (a0_3 != a1_3) = true := bne_iff_ne.mpr c6
    obtain rfl := Option.some.inj H
    go_enter Try.func92, Try.ntmps92
    go_wp2_with (first | ((with_reducible refine gate_dst (N := 2) rfl ?_); refine Hd.box_ 2 (#[.int .i64 a0_0, .int .i64 a0_1, .int .i64 a0_2, .int .i64 a0_3]) 77 ?_; intro gb329 hg w15 hbox hb; have BK329 := Aside0.mk (hbox); have GW329 := Aside0.mk ((Hd.g_ hg Hd.b_ : w.heap.size ≤ gb329)); have GE329 := Aside0.mk ((Hd.g_ hg Hd.b_ : w.heap.size ≤ gb329)); replace HB := Aside0.mk (below_step Hd.b_ hb); clear hb hbox hg) | ((with_reducible refine gate_dst (N := 3) rfl ?_); refine Hd.box_ 3 (#[.int .i64 a1_0, .int .i64 a1_1, .int .i64 a1_2, .int .i64 a1_3]) 77 ?_; intro gb330 hg w16 hbox hb; have BK330 := Aside0.mk (hbox); have GW330 := Aside0.mk ((Hd.g_ hg Hd.b_ : w.heap.size ≤ gb330)); have GE330 := Aside0.mk ((Hd.g_ hg Hd.b_ : w.heap.size ≤ gb330)); replace HB := Aside0.mk (below_step Hd.b_ hb); have NB329_330 := Aside0.mk ((Hd.lt_ BK329 hg)); have NB330_329 := Aside0.mk ((Hd.gt_ BK329 hg)); replace BK329 := Aside0.mk (Hd.kb_ BK329 hb); clear hb hbox hg; have hnb17 := NB329_330.out; have hnc17 := NB330_329.out; obtain ⟨hcz18_0, hcz18_1, hcz18_2, hcz18_3⟩ := Hd.c4_ BK329.out; obtain ⟨hfz18_0, hfz18_1, hfz18_2, hfz18_3⟩ := Hd.f4_ BK329.out; obtain ⟨hcz19_0, hcz19_1, hcz19_2, hcz19_3⟩ := Hd.c4_ BK330.out; obtain ⟨hfz19_0, hfz19_1, hfz19_2, hfz19_3⟩ := Hd.f4_ BK330.out) | ((with_reducible refine gate_callee (f := 104) rfl ?_); refine goesL_ (some 14) rfl rfl Try.func104 (by kernel_rfl) rfl #[.agg #[.int .i64 a0_1, .int .i64 a0_2], .agg #[.int .i64 a1_1, .int .i64 a1_2]] rfl Hd.m_ ?_; (with_reducible refine (laws_eqPoint.calls a0_1 a0_2 a1_1 a1_2 true _ A4.out).mono ?_); rintro e w20 ⟨rfl, hb⟩; refine ⟨_, rfl, ?_⟩; replace BK329 := Aside0.mk (Hd.kb_ BK329 hb); replace BK330 := Aside0.mk (Hd.kb_ BK330 hb); replace HB := Aside0.mk (below_step Hd.b_ hb); (try clear hb); (try clear hb2); (try clear hk); (try clear hi); obtain ⟨hcz21_0, hcz21_1, hcz21_2, hcz21_3⟩ := Hd.c4_ BK329.out; obtain ⟨hfz21_0, hfz21_1, hfz21_2, hfz21_3⟩ := Hd.f4_ BK329.out; obtain ⟨hcz22_0, hcz22_1, hcz22_2, hcz22_3⟩ := Hd.c4_ BK330.out; obtain ⟨hfz22_0, hfz22_1, hfz22_2, hfz22_3⟩ := Hd.f4_ BK330.out))
    go_ret
    exact ⟨Hd.e_, Hd.b_⟩
  ·
   replace c5 := Bool.eq_false_iff.mpr c5
   subst c5
   have H1 : (some false) = some r := by rw [if_neg (show ¬ (false = true) by decide)] at H; exact H
   clear H
   have H := H1
   clear H1
   obtain rfl := Option.some.inj H
   go_enter Try.func92, Try.ntmps92
   go_wp2_with (first | ((with_reducible refine gate_dst (N := 2) rfl ?_); refine Hd.box_ 2 (#[.int .i64 a0_0, .int .i64 a0_1, .int .i64 a0_2, .int .i64 a0_3]) 77 ?_; intro gb329 hg w23 hbox hb; have BK329 := Aside0.mk (hbox); have GW329 := Aside0.mk ((Hd.g_ hg Hd.b_ : w.heap.size ≤ gb329)); have GE329 := Aside0.mk ((Hd.g_ hg Hd.b_ : w.heap.size ≤ gb329)); replace HB := Aside0.mk (below_step Hd.b_ hb); clear hb hbox hg) | ((with_reducible refine gate_dst (N := 3) rfl ?_); refine Hd.box_ 3 (#[.int .i64 a1_0, .int .i64 a1_1, .int .i64 a1_2, .int .i64 a1_3]) 77 ?_; intro gb330 hg w24 hbox hb; have BK330 := Aside0.mk (hbox); have GW330 := Aside0.mk ((Hd.g_ hg Hd.b_ : w.heap.size ≤ gb330)); have GE330 := Aside0.mk ((Hd.g_ hg Hd.b_ : w.heap.size ≤ gb330)); replace HB := Aside0.mk (below_step Hd.b_ hb); have NB329_330 := Aside0.mk ((Hd.lt_ BK329 hg)); have NB330_329 := Aside0.mk ((Hd.gt_ BK329 hg)); replace BK329 := Aside0.mk (Hd.kb_ BK329 hb); clear hb hbox hg; have hnb25 := NB329_330.out; have hnc25 := NB330_329.out; obtain ⟨hcz26_0, hcz26_1, hcz26_2, hcz26_3⟩ := Hd.c4_ BK329.out; obtain ⟨hfz26_0, hfz26_1, hfz26_2, hfz26_3⟩ := Hd.f4_ BK329.out; obtain ⟨hcz27_0, hcz27_1, hcz27_2, hcz27_3⟩ := Hd.c4_ BK330.out; obtain ⟨hfz27_0, hfz27_1, hfz27_2, hfz27_3⟩ := Hd.f4_ BK330.out) | ((with_reducible refine gate_callee (f := 104) rfl ?_); refine goesL_ (some 14) rfl rfl Try.func104 (by kernel_rfl) rfl #[.agg #[.int .i64 a0_1, .int .i64 a0_2], .agg #[.int .i64 a1_1, .int .i64 a1_2]] rfl Hd.m_ ?_; (with_reducible refine (laws_eqPoint.calls a0_1 a0_2 a1_1 a1_2 false _ A4.out).mono ?_); rintro e w28 ⟨rfl, hb⟩; refine ⟨_, rfl, ?_⟩; replace BK329 := Aside0.mk (Hd.kb_ BK329 hb); replace BK330 := Aside0.mk (Hd.kb_ BK330 hb); replace HB := Aside0.mk (below_step Hd.b_ hb); (try clear hb); (try clear hb2); (try clear hk); (try clear hi)))
   go_ret
   exact ⟨Hd.e_, Hd.b_⟩
 ·
  rw [if_neg c3] at H
  have c3b0 : (a0_0 == a1_0) = false := beq_eq_false_iff_ne.mpr c3
  have c3b1 : (a0_0 != a1_0) = true := bne_iff_ne.mpr c3
  obtain rfl := Option.some.inj H
  go_enter Try.func92, Try.ntmps92
  go_wp2_with (first | ((with_reducible refine gate_dst (N := 2) rfl ?_); refine Hd.box_ 2 (#[.int .i64 a0_0, .int .i64 a0_1, .int .i64 a0_2, .int .i64 a0_3]) 77 ?_; intro gb329 hg w29 hbox hb; have BK329 := Aside0.mk (hbox); have GW329 := Aside0.mk ((Hd.g_ hg Hd.b_ : w.heap.size ≤ gb329)); have GE329 := Aside0.mk ((Hd.g_ hg Hd.b_ : w.heap.size ≤ gb329)); replace HB := Aside0.mk (below_step Hd.b_ hb); clear hb hbox hg) | ((with_reducible refine gate_dst (N := 3) rfl ?_); refine Hd.box_ 3 (#[.int .i64 a1_0, .int .i64 a1_1, .int .i64 a1_2, .int .i64 a1_3]) 77 ?_; intro gb330 hg w30 hbox hb; have BK330 := Aside0.mk (hbox); have GW330 := Aside0.mk ((Hd.g_ hg Hd.b_ : w.heap.size ≤ gb330)); have GE330 := Aside0.mk ((Hd.g_ hg Hd.b_ : w.heap.size ≤ gb330)); replace HB := Aside0.mk (below_step Hd.b_ hb); have NB329_330 := Aside0.mk ((Hd.lt_ BK329 hg)); have NB330_329 := Aside0.mk ((Hd.gt_ BK329 hg)); replace BK329 := Aside0.mk (Hd.kb_ BK329 hb); clear hb hbox hg; have hnb31 := NB329_330.out; have hnc31 := NB330_329.out; obtain ⟨hcz32_0, hcz32_1, hcz32_2, hcz32_3⟩ := Hd.c4_ BK329.out; obtain ⟨hfz32_0, hfz32_1, hfz32_2, hfz32_3⟩ := Hd.f4_ BK329.out; obtain ⟨hcz33_0, hcz33_1, hcz33_2, hcz33_3⟩ := Hd.c4_ BK330.out; obtain ⟨hfz33_0, hfz33_1, hfz33_2, hfz33_3⟩ := Hd.f4_ BK330.out))
  go_ret
  exact ⟨Hd.e_, Hd.b_⟩
def laws_eqPlaceS.l0 : Nat → List (S77) → List (S77) → Int → Option (Bool)
 | 0, _, _, _ => none
 | k + 1, x0, x1, x5 => if x5 < (x0.length : Int) then (if 0 ≤ x5 then (if x5 < (x1.length : Int) then ((laws_eqPlace.f ((rd_T77 x0 x5).f0) ((rd_T77 x0 x5).f1.f0) ((rd_T77 x0 x5).f1.f1) ((rd_T77 x0 x5).f2) ((rd_T77 x1 x5).f0) ((rd_T77 x1 x5).f1.f0) ((rd_T77 x1 x5).f1.f1) ((rd_T77 x1 x5).f2)).bind fun t334 => (if t334 = true then (laws_eqPlaceS.l0 k x0 x1 (wrap64 (x5 + 1))) else (some false))) else (none)) else (none)) else (some true)
def laws_eqPlaceS.f (k : Nat) (l0 : List (S77)) (l1 : List (S77)) : Option (Bool) := if (l0.length : Int) = (l1.length : Int) then (laws_eqPlaceS.l0 k l0 l1 0) else (some false)
set_option maxHeartbeats 8000000 in
set_option maxRecDepth 100000 in
theorem laws_eqPlaceS.calls (k : Nat) (A0 : Option Addr) (c0 : Nat) (l0 : List (S77)) (A1 : Option Addr) (c1 : Nat) (l1 : List (S77)) (r : Bool) (w : World) (hr0 : Kd.C k77 w A0 l0.length l0) (hc0 : l0.length ≤ c0) (hr1 : Kd.C k77 w A1 l1.length l1) (hc1 : l1.length ≤ c1) (h : laws_eqPlaceS.f k l0 l1 = some r) :
  Calls Try.prog 40 #[.slice A0 l0.length c0, .slice A1 l1.length c1] w fun e w' => e = .returned (.bool r) ∧ Below w.heap.size w w' := by
 have hu77 := Try.underlying77
 have HR0 := Aside0.mk hr0
 have HC0 := Aside0.mk hc0
 clear hr0 hc0
 have HR1 := Aside0.mk hr1
 have HC1 := Aside0.mk hc1
 clear hr1 hc1
 have HB := Aside0.mk (Below.refl w.heap.size w)
 have H : (if (l0.length : Int) = (l1.length : Int) then (laws_eqPlaceS.l0 k l0 l1 0) else (some false)) = some r := h
 clear h
 by_cases c3 : (l0.length : Int) = (l1.length : Int)
 ·
  rw [if_pos c3] at H
  have c3b0 : ((l0.length : Int) == (l1.length : Int)) = true := beq_iff_eq.mpr c3
  have c3b1 : ((l0.length : Int) != (l1.length : Int)) = false := bne_eq_false_iff_eq.mpr c3
  have c3b2 : (l0.length == l1.length) = true := by first | simpa using c3 | (simp at c3 ⊢; omega)
  clear c3
  have H' := Aside0.mk H
  clear H
  go_enter Try.func40, Try.ntmps40
  go_wp2
  go_loopg [5] k (fun kq v5 w' => ∃ (x5_1 : Int), v5 = .int .i64 x5_1 ∧ Aside0 (laws_eqPlaceS.l0 kq l0 l1 x5_1 = some r) ∧ Aside0 (kq ≤ k) ∧ Aside0 (Below w.heap.size w w'))
  case atStart => exact ⟨(0), (by first | rfl | (simp; done) | (simp [*]; done)), H', ⟨Nat.le_refl _⟩, ⟨Hd.b_⟩⟩
  case round =>
   clear H'
   try clear c1
   try clear p2
   try clear c3
   try clear c3b0
   try clear c3b1
   try clear c3b2
   obtain ⟨x5_1, rfl, HA, HK1, HB⟩ := hrel
   cases gk with
   | zero => exact absurd HA.out (by simp [laws_eqPlaceS.l0])
   | succ k1 =>
    have H := HA.out
    clear HA
    simp only [laws_eqPlaceS.l0] at H
    by_cases c4 : x5_1 < (l0.length : Int)
    ·
     rw [if_pos c4] at H
     have c4b0 : decide (x5_1 < (l0.length : Int)) = true := decide_eq_true c4
     clear c4
     by_cases c5 : 0 ≤ x5_1
     ·
      rw [if_pos c5] at H
      have c5b0 : decide (0 ≤ x5_1) = true := decide_eq_true c5
      clear c5
      by_cases c6 : x5_1 < (l1.length : Int)
      ·
       rw [if_pos c6] at H
       have c6b0 : decide (x5_1 < (l1.length : Int)) = true := decide_eq_true c6
       clear c6
       replace H := Option.bind_eq_some_iff.mp H
       obtain ⟨t334, A70, H⟩ := H
       replace H : (if t334 = true then (laws_eqPlaceS.l0 k1 l0 l1 (wrap64 (x5_1 + 1))) else (some false)) = some r := H
       have A7 := Aside0.mk A70
       clear A70
       by_cases c8 : t334 = true
       ·
        subst c8
        have H1 : (laws_eqPlaceS.l0 k1 l0 l1 (wrap64 (x5_1 + 1))) = some r := by rw [if_pos rfl] at H; exact H
        clear H
        have H := H1
        clear H1
        have H' := Aside0.mk H
        clear H
        try go_wp2
        replace HB := Aside0.mk (below_drew1 HB.out)
        have p332 : 0 ≤ (x5_1 : Int) := of_decide_eq_true Hd.a_
        have q332 : x5_1 < (l0.length : Int) := of_decide_eq_true Hd.a_
        obtain ⟨ad332, e332, hx332_0, hx332_1, hx332_2, hx332_3⟩ := at_T77 HR0.out x5_1 p332 q332
        have hw332_3 := hx332_3
        have hw332_2 := hx332_2
        have hw332_1 := hx332_1
        have hw332_0 := hx332_0
        cases e332
        replace hx332_0 := (HB.out.cell (World.block_lt_of_cell? w _ hx332_0)).trans hx332_0
        replace hx332_1 := (HB.out.cell (World.block_lt_of_cell? w _ hx332_1)).trans hx332_1
        replace hx332_2 := (HB.out.cell (World.block_lt_of_cell? w _ hx332_2)).trans hx332_2
        replace hx332_3 := (HB.out.cell (World.block_lt_of_cell? w _ hx332_3)).trans hx332_3
        replace p332 := eq_true p332
        replace q332 := eq_true q332
        have p333 : 0 ≤ (x5_1 : Int) := of_decide_eq_true Hd.a_
        have q333 : x5_1 < (l1.length : Int) := of_decide_eq_true Hd.a_
        obtain ⟨ad333, e333, hx333_0, hx333_1, hx333_2, hx333_3⟩ := at_T77 HR1.out x5_1 p333 q333
        have hw333_3 := hx333_3
        have hw333_2 := hx333_2
        have hw333_1 := hx333_1
        have hw333_0 := hx333_0
        cases e333
        replace hx333_0 := (HB.out.cell (World.block_lt_of_cell? w _ hx333_0)).trans hx333_0
        replace hx333_1 := (HB.out.cell (World.block_lt_of_cell? w _ hx333_1)).trans hx333_1
        replace hx333_2 := (HB.out.cell (World.block_lt_of_cell? w _ hx333_2)).trans hx333_2
        replace hx333_3 := (HB.out.cell (World.block_lt_of_cell? w _ hx333_3)).trans hx333_3
        replace p333 := eq_true p333
        replace q333 := eq_true q333
        have s0_ := Hd.HW.x (W0 := wr.drew) ((HB.out.cell (World.block_lt_of_cell? w _ hw332_0)).trans hw332_0)
        have s1_ := Hd.HW.x (W0 := wr.drew) ((HB.out.cell (World.block_lt_of_cell? w _ hw332_1)).trans hw332_1)
        have s2_ := Hd.HW.x (W0 := wr.drew) ((HB.out.cell (World.block_lt_of_cell? w _ hw332_2)).trans hw332_2)
        have s3_ := Hd.HW.x (W0 := wr.drew) ((HB.out.cell (World.block_lt_of_cell? w _ hw332_3)).trans hw332_3)
        have s4_ := Hd.HW.x (W0 := wr.drew) ((HB.out.cell (World.block_lt_of_cell? w _ hw333_0)).trans hw333_0)
        have s5_ := Hd.HW.x (W0 := wr.drew) ((HB.out.cell (World.block_lt_of_cell? w _ hw333_1)).trans hw333_1)
        have s6_ := Hd.HW.x (W0 := wr.drew) ((HB.out.cell (World.block_lt_of_cell? w _ hw333_2)).trans hw333_2)
        have s7_ := Hd.HW.x (W0 := wr.drew) ((HB.out.cell (World.block_lt_of_cell? w _ hw333_3)).trans hw333_3)
        refine Hd.HW.region (by kernel_rfl) (by kernel_rfl) ?_
        repeat (go_big_quiet_step ((first | (go_at_call 92; with_reducible exact Hd.HW.c (laws_eqPlace.calls ((rd_T77 l0 x5_1).f0) ((rd_T77 l0 x5_1).f1.f0) ((rd_T77 l0 x5_1).f1.f1) ((rd_T77 l0 x5_1).f2) ((rd_T77 l1 x5_1).f0) ((rd_T77 l1 x5_1).f1.f0) ((rd_T77 l1 x5_1).f1.f1) ((rd_T77 l1 x5_1).f2) true _ A7.out)))))
        refine wpQuiet_nil ?_
        intro _ hq_
        obtain ⟨q_, rfl⟩ := hq_
        clear s0_ s1_ s2_ s3_ s4_ s5_ s6_ s7_
        replace HB := Aside0.mk (below_step HB.out q_.b)
        replace hx332_0 := q_.cell hx332_0
        replace hx332_1 := q_.cell hx332_1
        replace hx332_2 := q_.cell hx332_2
        replace hx332_3 := q_.cell hx332_3
        replace hx333_0 := q_.cell hx333_0
        replace hx333_1 := q_.cell hx333_1
        replace hx333_2 := q_.cell hx333_2
        replace hx333_3 := q_.cell hx333_3
        generalize q_.W = w10 at HB hx332_0 hx332_1 hx332_2 hx332_3 hx333_0 hx333_1 hx333_2 hx333_3 ⊢
        try simp only [i64_w, i32_w]
        try go_wp2
        go_roundg k1
        case measure => have := HK1.out; omega
        case rel => exact ⟨(wrap64 (x5_1 + 1)), (by first | rfl | (simp; done) | (simp [*]; done)), H', ⟨by have := HK1.out; omega⟩, ⟨Hd.b_⟩⟩
       ·
        replace c8 := Bool.eq_false_iff.mpr c8
        subst c8
        have H1 : (some false) = some r := by rw [if_neg (show ¬ (false = true) by decide)] at H; exact H
        clear H
        have H := H1
        clear H1
        obtain rfl := Option.some.inj H
        try go_wp2
        replace HB := Aside0.mk (below_drew1 HB.out)
        have p332 : 0 ≤ (x5_1 : Int) := of_decide_eq_true Hd.a_
        have q332 : x5_1 < (l0.length : Int) := of_decide_eq_true Hd.a_
        obtain ⟨ad332, e332, hx332_0, hx332_1, hx332_2, hx332_3⟩ := at_T77 HR0.out x5_1 p332 q332
        have hw332_3 := hx332_3
        have hw332_2 := hx332_2
        have hw332_1 := hx332_1
        have hw332_0 := hx332_0
        cases e332
        replace hx332_0 := (HB.out.cell (World.block_lt_of_cell? w _ hx332_0)).trans hx332_0
        replace hx332_1 := (HB.out.cell (World.block_lt_of_cell? w _ hx332_1)).trans hx332_1
        replace hx332_2 := (HB.out.cell (World.block_lt_of_cell? w _ hx332_2)).trans hx332_2
        replace hx332_3 := (HB.out.cell (World.block_lt_of_cell? w _ hx332_3)).trans hx332_3
        replace p332 := eq_true p332
        replace q332 := eq_true q332
        have p333 : 0 ≤ (x5_1 : Int) := of_decide_eq_true Hd.a_
        have q333 : x5_1 < (l1.length : Int) := of_decide_eq_true Hd.a_
        obtain ⟨ad333, e333, hx333_0, hx333_1, hx333_2, hx333_3⟩ := at_T77 HR1.out x5_1 p333 q333
        have hw333_3 := hx333_3
        have hw333_2 := hx333_2
        have hw333_1 := hx333_1
        have hw333_0 := hx333_0
        cases e333
        replace hx333_0 := (HB.out.cell (World.block_lt_of_cell? w _ hx333_0)).trans hx333_0
        replace hx333_1 := (HB.out.cell (World.block_lt_of_cell? w _ hx333_1)).trans hx333_1
        replace hx333_2 := (HB.out.cell (World.block_lt_of_cell? w _ hx333_2)).trans hx333_2
        replace hx333_3 := (HB.out.cell (World.block_lt_of_cell? w _ hx333_3)).trans hx333_3
        replace p333 := eq_true p333
        replace q333 := eq_true q333
        have s0_ := Hd.HW.x (W0 := wr.drew) ((HB.out.cell (World.block_lt_of_cell? w _ hw332_0)).trans hw332_0)
        have s1_ := Hd.HW.x (W0 := wr.drew) ((HB.out.cell (World.block_lt_of_cell? w _ hw332_1)).trans hw332_1)
        have s2_ := Hd.HW.x (W0 := wr.drew) ((HB.out.cell (World.block_lt_of_cell? w _ hw332_2)).trans hw332_2)
        have s3_ := Hd.HW.x (W0 := wr.drew) ((HB.out.cell (World.block_lt_of_cell? w _ hw332_3)).trans hw332_3)
        have s4_ := Hd.HW.x (W0 := wr.drew) ((HB.out.cell (World.block_lt_of_cell? w _ hw333_0)).trans hw333_0)
        have s5_ := Hd.HW.x (W0 := wr.drew) ((HB.out.cell (World.block_lt_of_cell? w _ hw333_1)).trans hw333_1)
        have s6_ := Hd.HW.x (W0 := wr.drew) ((HB.out.cell (World.block_lt_of_cell? w _ hw333_2)).trans hw333_2)
        have s7_ := Hd.HW.x (W0 := wr.drew) ((HB.out.cell (World.block_lt_of_cell? w _ hw333_3)).trans hw333_3)
        refine Hd.HW.region (by kernel_rfl) (by kernel_rfl) ?_
        repeat (go_big_quiet_step ((first | (go_at_call 92; with_reducible exact Hd.HW.c (laws_eqPlace.calls ((rd_T77 l0 x5_1).f0) ((rd_T77 l0 x5_1).f1.f0) ((rd_T77 l0 x5_1).f1.f1) ((rd_T77 l0 x5_1).f2) ((rd_T77 l1 x5_1).f0) ((rd_T77 l1 x5_1).f1.f0) ((rd_T77 l1 x5_1).f1.f1) ((rd_T77 l1 x5_1).f2) false _ A7.out)))))
        refine wpQuiet_nil ?_
        intro _ hq_
        obtain ⟨q_, rfl⟩ := hq_
        clear s0_ s1_ s2_ s3_ s4_ s5_ s6_ s7_
        replace HB := Aside0.mk (below_step HB.out q_.b)
        replace hx332_0 := q_.cell hx332_0
        replace hx332_1 := q_.cell hx332_1
        replace hx332_2 := q_.cell hx332_2
        replace hx332_3 := q_.cell hx332_3
        replace hx333_0 := q_.cell hx333_0
        replace hx333_1 := q_.cell hx333_1
        replace hx333_2 := q_.cell hx333_2
        replace hx333_3 := q_.cell hx333_3
        generalize q_.W = w12 at HB hx332_0 hx332_1 hx332_2 hx332_3 hx333_0 hx333_1 hx333_2 hx333_3 ⊢
        try simp only [i64_w, i32_w]
        try go_wp2
        go_ret
        exact ⟨Hd.e_, Hd.b_⟩
      ·
       rw [if_neg c6] at H
       exact absurd H (by simp)
     ·
      rw [if_neg c5] at H
      exact absurd H (by simp)
    ·
     rw [if_neg c4] at H
     have c4b0 : decide (x5_1 < (l0.length : Int)) = false := decide_eq_false c4
     clear c4
     obtain rfl := Option.some.inj H
     go_wp2
     go_ret
     exact ⟨Hd.e_, Hd.b_⟩
 ·
  rw [if_neg c3] at H
  have c3b0 : ((l0.length : Int) == (l1.length : Int)) = false := beq_eq_false_iff_ne.mpr c3
  have c3b1 : ((l0.length : Int) != (l1.length : Int)) = true := bne_iff_ne.mpr c3
  have c3b2 : (l0.length == l1.length) = false := by first | simpa using c3 | (simp at c3 ⊢; omega)
  obtain rfl := Option.some.inj H
  go_enter Try.func40, Try.ntmps40
  go_wp2
  go_ret
  exact ⟨Hd.e_, Hd.b_⟩
end Go.Proofs.Ytbackoeakepngab.MFnExactHiddenBy
