-- Laid by this session's program pp.py, after the kit's print and texts of the session's own. Not trusted: Lean checks it.
import Derived.Test.YtbackoeakepngabZFnThinnedMx0
import Derived.Test.YtbackoeakepngabZFnThinnedMx2
import Derived.Test.YtbackoeakepngabZFnThinnedMx3
namespace Go.Proofs.Ytbackoeakepngab.MFnThinned
open Go.RowKit Go.Proofs.YtbackoeakepngabW.PrintWords Go.Proofs.YtbackoeakepngabW.PrintLast Go.Proofs.YtbackoeakepngabW.PrintMore
attribute [local go_sem] max2_int min2_int max_two min_two max_three min_three max_four min_four   -- for this text's walks alone
set_option linter.unusedVariables false
set_option linter.unusedSimpArgs false
mutual
def impl_HiddenBy.j0 : Nat → List (S77) → Int → List (S77) → Int → Bool → Option (Int)
 | 0, _, _, _, _, _ => none
 | k + 1, x0, x1, x7, x8, x26 => if x26 = true then (some 0) else (impl_HiddenBy.l0 k x0 x1 x8 x7 (x7.length : Int) 0)
def impl_HiddenBy.l0 : Nat → List (S77) → Int → Int → List (S77) → Int → Int → Option (Int)
 | 0, _, _, _, _, _, _ => none
 | k + 1, x0, x1, x8, x27, x28, x29 => if x29 < x28 then (if 0 ≤ x29 then (if x29 < (x27.length : Int) then (if 0 ≤ x8 then (if x8 < (x0.length : Int) then ((impl_IsAbove.f ((rd_T77 x27 x29).f0) ((rd_T77 x27 x29).f1.f0) ((rd_T77 x27 x29).f1.f1) ((rd_T77 x27 x29).f2) ((rd_T77 x0 x8).f0) ((rd_T77 x0 x8).f1.f0) ((rd_T77 x0 x8).f1.f1) ((rd_T77 x0 x8).f2)).bind fun t151 => (if t151 = true then ((impl_FarSquared.f ((rd_T77 x27 x29).f1.f0) ((rd_T77 x27 x29).f1.f1) ((rd_T77 x0 x8).f1.f0) ((rd_T77 x0 x8).f1.f1)).bind fun t153 => (if t153 < (wrap64 (x1 * x1)) then (some ((rd_T77 x27 x29).f0)) else (impl_HiddenBy.l0 k x0 x1 x8 x27 x28 (wrap64 (x29 + 1))))) else (impl_HiddenBy.l0 k x0 x1 x8 x27 x28 (wrap64 (x29 + 1))))) else (none)) else (none)) else (none)) else (none)) else (some 0)
end
def impl_HiddenBy.f (k : Nat) (l0 : List (S77)) (a1 : Int) (a2 : Int) : Option (Int) := (impl_keptPlaces.f k l0 a1).bind fun t142 => ((impl_Place_89.f k l0 a2).bind fun t145 => (if t145 < 0 then (impl_HiddenBy.j0 k l0 a1 t142 t145 true) else (if 0 ≤ t145 then (if t145 < (l0.length : Int) then ((impl_Place_91.f k t142 ((rd_T77 l0 t145).f0) ((rd_T77 l0 t145).f1.f0) ((rd_T77 l0 t145).f1.f1) ((rd_T77 l0 t145).f2)).bind fun t147 => (impl_HiddenBy.j0 k l0 a1 t142 t145 t147)) else (none)) else (none))))
set_option maxHeartbeats 8000000 in
set_option maxRecDepth 100000 in
theorem impl_HiddenBy.calls (k : Nat) (A0 : Option Addr) (c0 : Nat) (l0 : List (S77)) (a1 : Int) (a2 : Int) (r : Int) (w : World) (hr0 : Kd.C k77 w A0 l0.length l0) (hc0 : l0.length ≤ c0) (h : impl_HiddenBy.f k l0 a1 a2 = some r) :
  Calls Try.prog 39 #[.slice A0 l0.length c0, .int .i64 a1, .int .i64 a2] w fun e w' => e = .returned (.int .i64 r) ∧ Below w.heap.size w w' := by
 have hmf : ∀ (fn : Fn) (first cap : Array Value) (w : World), (Instr.makeFunc fn first cap).run Try.prog w = .ok (.func fn first cap) w := fun _ _ _ _ => rfl
 have hu77 := Try.underlying77
 have hu75 := Try.underlying75
 have HR0 := Aside0.mk hr0
 have HC0 := Aside0.mk hc0
 clear hr0 hc0
 have HB := Aside0.mk (Below.refl w.heap.size w)
 have H : ((impl_keptPlaces.f k l0 a1).bind fun t142 => ((impl_Place_89.f k l0 a2).bind fun t145 => (if t145 < 0 then (impl_HiddenBy.j0 k l0 a1 t142 t145 true) else (if 0 ≤ t145 then (if t145 < (l0.length : Int) then ((impl_Place_91.f k t142 ((rd_T77 l0 t145).f0) ((rd_T77 l0 t145).f1.f0) ((rd_T77 l0 t145).f1.f1) ((rd_T77 l0 t145).f2)).bind fun t147 => (impl_HiddenBy.j0 k l0 a1 t142 t145 t147)) else (none)) else (none))))) = some r := h
 clear h
 replace H := Option.bind_eq_some_iff.mp H
 obtain ⟨t142, A40, H⟩ := H
 replace H : ((impl_Place_89.f k l0 a2).bind fun t145 => (if t145 < 0 then (impl_HiddenBy.j0 k l0 a1 t142 t145 true) else (if 0 ≤ t145 then (if t145 < (l0.length : Int) then ((impl_Place_91.f k t142 ((rd_T77 l0 t145).f0) ((rd_T77 l0 t145).f1.f0) ((rd_T77 l0 t145).f1.f1) ((rd_T77 l0 t145).f2)).bind fun t147 => (impl_HiddenBy.j0 k l0 a1 t142 t145 t147)) else (none)) else (none)))) = some r := H
 have A4 := Aside0.mk A40
 clear A40
 replace H := Option.bind_eq_some_iff.mp H
 obtain ⟨t145, A50, H⟩ := H
 replace H : (if t145 < 0 then (impl_HiddenBy.j0 k l0 a1 t142 t145 true) else (if 0 ≤ t145 then (if t145 < (l0.length : Int) then ((impl_Place_91.f k t142 ((rd_T77 l0 t145).f0) ((rd_T77 l0 t145).f1.f0) ((rd_T77 l0 t145).f1.f1) ((rd_T77 l0 t145).f2)).bind fun t147 => (impl_HiddenBy.j0 k l0 a1 t142 t145 t147)) else (none)) else (none))) = some r := H
 have A5 := Aside0.mk A50
 clear A50
 have HC6 := Aside0.mk H
 clear H
 go_enter Try.func39, Try.ntmps39
 go_upto_region 3 with (first | ((with_reducible refine gate_callee (f := 88) rfl ?_); refine goesL_ (some 13) rfl rfl Try.func88 (by kernel_rfl) rfl #[.slice A0 l0.length c0, .int .i64 a1] rfl Hd.m_ ?_; (with_reducible refine (impl_keptPlaces.calls k _ _ l0 a1 t142 _ ?side1 ?side2 A4.out).mono ?_); (case side1 => repeat (first | exact HR0.out | (with_reducible refine Kd.C_alloc ?_ _) | (with_reducible refine Kd.C_drewN ?_ _) | (with_reducible refine Kd.C_drew ?_))); (case side2 => exact HC0.out); rintro e w7 ⟨v143, rfl, ho0, hb⟩; have HCE := Aside0.mk (impl_Place_89.celb hb); refine ⟨_, rfl, ?_⟩; have HO144 := Aside0.mk (Kd.R_lower ho0 (below_size Hd.b_)); replace HB := Aside0.mk (below_step Hd.b_ hb); (try clear hb); (try clear hb2); (try clear hk); (try clear hi); (try clear ho0)) | ((with_reducible refine gate_callee (f := 89) rfl ?_); refine goesL_ (some 16) rfl rfl Try.func89 (by kernel_rfl) rfl #[.slice A0 l0.length c0, .func (.func 90) #[] #[.pointer (some ⟨w.heap.size, 0, none⟩)]] rfl Hd.m_ ?_; (refine (impl_Place_89.idx k _ _ l0 a2 t145 _ _ ?side1 HCE.out A5.out).mono ?_); (case side1 => repeat (first | exact (Kd.C_below HR0.out HB.out) | (with_reducible refine Kd.C_alloc ?_ _) | (with_reducible refine Kd.C_drewN ?_ _) | (with_reducible refine Kd.C_drew ?_))); rintro e w8 ⟨rfl, hb⟩; refine ⟨_, rfl, ?_⟩; replace HO144 := Aside0.mk (Kd.R_below (Hd.r_ HO144) hb); replace HB := Aside0.mk (below_step Hd.b_ hb); (try clear hb); (try clear hb2); (try clear hk); (try clear hi)))
 (try simp only [Act.put, List.setIfInBounds_toArray, List.set_cons_zero, List.set_cons_succ])
 go_cut [26] (fun v26 wc => ∃ (kq : Nat) (x26_5 : Bool), v26 = .bool x26_5 ∧ Aside0 (impl_HiddenBy.j0 kq l0 a1 t142 t145 x26_5 = some r) ∧ Aside0 (kq ≤ k) ∧ Aside0 (Kd.R k77 77 wc w.heap.size (fun _ => True) v143 t142) ∧ Aside0 (Below w.heap.size w wc))
 case first =>
  have H := HC6.out
  clear HC6
  by_cases c9 : t145 < 0
  ·
   rw [if_pos c9] at H
   have c9b0 : decide (t145 < 0) = true := decide_eq_true c9
   clear c9
   (first | rw [c9b0] | (simp only [i64_w, i32_w]; rw [c9b0]) | skip)
   have H' := Aside0.mk H
   clear H
   go_wp2
   go_meet
   case rel => exact ⟨_, (true), (by first | rfl | (simp; done) | (simp [*]; done)), H', ⟨by first | omega | exact Nat.le_refl _⟩, ⟨by (with_reducible repeat (first | apply Kd.R_alloc | apply Kd.R_drewN | apply Kd.R_drew)); exact HO144.out⟩, ⟨Hd.b_⟩⟩
  ·
   rw [if_neg c9] at H
   have c9b0 : decide (t145 < 0) = false := decide_eq_false c9
   clear c9
   (first | rw [c9b0] | (simp only [i64_w, i32_w]; rw [c9b0]) | skip)
   by_cases c10 : 0 ≤ t145
   ·
    rw [if_pos c10] at H
    have c10b0 : decide (0 ≤ t145) = true := decide_eq_true c10
    clear c10
    by_cases c11 : t145 < (l0.length : Int)
    ·
     rw [if_pos c11] at H
     have c11b0 : decide (t145 < (l0.length : Int)) = true := decide_eq_true c11
     clear c11
     replace H := Option.bind_eq_some_iff.mp H
     obtain ⟨t147, A120, H⟩ := H
     replace H : (impl_HiddenBy.j0 k l0 a1 t142 t145 t147) = some r := H
     have A12 := Aside0.mk A120
     clear A120
     have H' := Aside0.mk H
     clear H
     have p146 : 0 ≤ (t145 : Int) := of_decide_eq_true Hd.a_
     have q146 : t145 < (l0.length : Int) := of_decide_eq_true Hd.a_
     obtain ⟨ad146, e146, hx146_0, hx146_1, hx146_2, hx146_3⟩ := at_T77 HR0.out t145 p146 q146
     cases e146
     replace hx146_0 := (HB.out.cell (World.block_lt_of_cell? w _ hx146_0)).trans hx146_0
     replace hx146_1 := (HB.out.cell (World.block_lt_of_cell? w _ hx146_1)).trans hx146_1
     replace hx146_2 := (HB.out.cell (World.block_lt_of_cell? w _ hx146_2)).trans hx146_2
     replace hx146_3 := (HB.out.cell (World.block_lt_of_cell? w _ hx146_3)).trans hx146_3
     replace p146 := eq_true p146
     replace q146 := eq_true q146
     obtain ⟨Ao13, co13, eo13⟩ := Kd.R_slice HO144.out
     subst eo13
     go_wp2_with (first | (go_at_call 91; (with_reducible refine (impl_Place_91.calls k _ _ t142 ((rd_T77 l0 t145).f0) ((rd_T77 l0 t145).f1.f0) ((rd_T77 l0 t145).f1.f1) ((rd_T77 l0 t145).f2) t147 _ ?side1 ?side2 A12.out).mono ?_); (case side1 => repeat (first | exact (Kd.R_reads' HO144.out).2.2 | (with_reducible refine Kd.C_alloc ?_ _) | (with_reducible refine Kd.C_drewN ?_ _) | (with_reducible refine Kd.C_drew ?_))); (case side2 => exact (Kd.R_reads' HO144.out).2.1); rintro e w14 ⟨rfl, hb⟩; replace HO144 := Aside0.mk (Kd.R_below (Hd.r_ HO144) hb); replace HB := Aside0.mk (below_step Hd.b_ hb); (try clear hb); (try clear hb2); (try clear hk); (try clear hi)))
     go_meet
     case rel => exact ⟨_, (t147), (by first | rfl | (simp; done) | (simp [*]; done)), H', ⟨by first | omega | exact Nat.le_refl _⟩, ⟨by (with_reducible repeat (first | apply Kd.R_alloc | apply Kd.R_drewN | apply Kd.R_drew)); exact HO144.out⟩, ⟨Hd.b_⟩⟩
    ·
     rw [if_neg c11] at H
     exact absurd H (by simp)
   ·
    rw [if_neg c10] at H
    exact absurd H (by simp)
 case rest =>
  clear HC6
  try clear c1
  try clear p1
  try clear q1
  try clear hx1
  try clear p2
  try clear c3
  try clear c8
  try clear c9
  try clear c9b0
  try clear c10
  try clear c10b0
  try clear c11
  try clear c11b0
  try clear p14
  try clear q14
  try clear hx14
  try clear hx146_0
  try clear hx146_1
  try clear hx146_2
  try clear hx146_3
  try clear p146
  try clear q146
  obtain ⟨kq, x26_5, rfl, HA, HJ5, HO_7, HB⟩ := hcut
  cases kq with
  | zero => exact absurd HA.out (by simp [impl_HiddenBy.j0])
  | succ kj5 =>
   have H := HA.out
   clear HA
   simp only [impl_HiddenBy.j0] at H
   by_cases c15 : x26_5 = true
   ·
    subst c15
    have H1 : (some 0) = some r := by rw [if_pos rfl] at H; exact H
    clear H
    have H := H1
    clear H1
    obtain rfl := Option.some.inj H
    go_wp2
    go_ret
    exact ⟨Hd.e_, Hd.b_⟩
   ·
    replace c15 := Bool.eq_false_iff.mpr c15
    subst c15
    have H1 : (impl_HiddenBy.l0 kj5 l0 a1 t145 t142 (t142.length : Int) 0) = some r := by rw [if_neg (show ¬ (false = true) by decide)] at H; exact H
    clear H
    have H := H1
    clear H1
    have H' := Aside0.mk H
    clear H
    obtain ⟨Ao16, co16, eo16⟩ := Kd.R_slice HO_7.out
    subst eo16
    go_wp2
    go_loopg [29] kj5 (fun kq v29 w' => ∃ (x29_2 : Int), v29 = .int .i64 x29_2 ∧ Aside0 (impl_HiddenBy.l0 kq l0 a1 t145 t142 (t142.length : Int) x29_2 = some r) ∧ Aside0 (kq ≤ kj5) ∧ Aside0 (Kd.R k77 77 w' w.heap.size (fun _ => True) (.slice Ao16 t142.length co16) t142) ∧ Aside0 (Below w.heap.size w w'))
    case atStart => exact ⟨(0), (by first | rfl | (simp; done) | (simp [*]; done)), H', ⟨Nat.le_refl _⟩, ⟨by (with_reducible repeat (first | apply Kd.R_alloc | apply Kd.R_drewN | apply Kd.R_drew)); exact HO_7.out⟩, ⟨Hd.b_⟩⟩
    case round =>
     clear H'
     try clear c1
     try clear p1
     try clear q1
     try clear hx1
     try clear p2
     try clear c3
     try clear c8
     try clear c9
     try clear c9b0
     try clear c10
     try clear c10b0
     try clear c11
     try clear c11b0
     try clear p14
     try clear q14
     try clear hx14
     try clear c15
     try clear hx146_0
     try clear hx146_1
     try clear hx146_2
     try clear hx146_3
     try clear p1
     try clear p14
     try clear p146
     try clear p2
     try clear q1
     try clear q14
     try clear q146
     obtain ⟨x29_2, rfl, HA, HK2, HO_27, HB⟩ := hrel
     cases gk with
     | zero => exact absurd HA.out (by simp [impl_HiddenBy.l0])
     | succ k2 =>
      have H := HA.out
      clear HA
      simp only [impl_HiddenBy.l0] at H
      by_cases c17 : x29_2 < (t142.length : Int)
      ·
       rw [if_pos c17] at H
       have c17b0 : decide (x29_2 < (t142.length : Int)) = true := decide_eq_true c17
       clear c17
       by_cases c18 : 0 ≤ x29_2
       ·
        rw [if_pos c18] at H
        have c18b0 : decide (0 ≤ x29_2) = true := decide_eq_true c18
        clear c18
        by_cases c19 : x29_2 < (t142.length : Int)
        ·
         rw [if_pos c19] at H
         have c19b0 : decide (x29_2 < (t142.length : Int)) = true := decide_eq_true c19
         clear c19
         by_cases c20 : 0 ≤ t145
         ·
          rw [if_pos c20] at H
          have c20b0 : decide (0 ≤ t145) = true := decide_eq_true c20
          clear c20
          by_cases c21 : t145 < (l0.length : Int)
          ·
           rw [if_pos c21] at H
           have c21b0 : decide (t145 < (l0.length : Int)) = true := decide_eq_true c21
           clear c21
           replace H := Option.bind_eq_some_iff.mp H
           obtain ⟨t151, A220, H⟩ := H
           replace H : (if t151 = true then ((impl_FarSquared.f ((rd_T77 t142 x29_2).f1.f0) ((rd_T77 t142 x29_2).f1.f1) ((rd_T77 l0 t145).f1.f0) ((rd_T77 l0 t145).f1.f1)).bind fun t153 => (if t153 < (wrap64 (a1 * a1)) then (some ((rd_T77 t142 x29_2).f0)) else (impl_HiddenBy.l0 k2 l0 a1 t145 t142 (t142.length : Int) (wrap64 (x29_2 + 1))))) else (impl_HiddenBy.l0 k2 l0 a1 t145 t142 (t142.length : Int) (wrap64 (x29_2 + 1)))) = some r := H
           have A22 := Aside0.mk A220
           clear A220
           by_cases c23 : t151 = true
           ·
            subst c23
            have H1 : ((impl_FarSquared.f ((rd_T77 t142 x29_2).f1.f0) ((rd_T77 t142 x29_2).f1.f1) ((rd_T77 l0 t145).f1.f0) ((rd_T77 l0 t145).f1.f1)).bind fun t153 => (if t153 < (wrap64 (a1 * a1)) then (some ((rd_T77 t142 x29_2).f0)) else (impl_HiddenBy.l0 k2 l0 a1 t145 t142 (t142.length : Int) (wrap64 (x29_2 + 1))))) = some r := by rw [if_pos rfl] at H; exact H
            clear H
            have H := H1
            clear H1
            replace H := Option.bind_eq_some_iff.mp H
            obtain ⟨t153, A240, H⟩ := H
            replace H : (if t153 < (wrap64 (a1 * a1)) then (some ((rd_T77 t142 x29_2).f0)) else (impl_HiddenBy.l0 k2 l0 a1 t145 t142 (t142.length : Int) (wrap64 (x29_2 + 1)))) = some r := H
            have A24 := Aside0.mk A240
            clear A240
            by_cases c25 : t153 < (wrap64 (a1 * a1))
            ·
             rw [if_pos c25] at H
             have c25b0 : decide (t153 < (wrap64 (a1 * a1))) = true := decide_eq_true c25
             clear c25
             obtain rfl := Option.some.inj H
             have p148 : 0 ≤ (x29_2 : Int) := of_decide_eq_true Hd.a_
             have q148 : x29_2 < (t142.length : Int) := of_decide_eq_true Hd.a_
             obtain ⟨ad148, e148, hx148_0, hx148_1, hx148_2, hx148_3⟩ := at_T77 (Kd.R_reads' HO_27.out).2.2 x29_2 p148 q148
             cases e148
             replace p148 := eq_true p148
             replace q148 := eq_true q148
             try go_wp2_with (first | ((with_reducible refine gate_dst (N := 10) rfl ?_); refine Hd.box_ 10 (#[.int .i64 0, .int .i64 0, .int .i64 0, .int .i64 0]) 77 ?_; intro gb149 hg w26 hbox hb; replace HO_27 := Aside0.mk (Kd.R_below (Kd.R_elderB (Hd.r_ HO_27) gb149 (Nat.le_of_eq hg.symm)) hb); have BK149 := Aside0.mk (hbox); have GW149 := Aside0.mk ((Hd.g_ hg Hd.b_ : w.heap.size ≤ gb149)); have GE149 := Aside0.mk ((Hd.g_ hg Hd.b_ : w.heap.size ≤ gb149)); replace HB := Aside0.mk (below_step Hd.b_ hb); clear hb hbox hg; obtain ⟨hcz27_0, hcz27_1, hcz27_2, hcz27_3⟩ := Hd.c4_ BK149.out; obtain ⟨hfz27_0, hfz27_1, hfz27_2, hfz27_3⟩ := Hd.f4_ BK149.out))
             have n0_ : Aside0 (Kd.R k77 77 ((((w26.setCell ⟨gb149, 0, none⟩ (.int .i64 ((rd_T77 t142 x29_2).f0))).setCell ⟨gb149, 1, none⟩ (.int .i64 ((rd_T77 t142 x29_2).f1.f0))).setCell ⟨gb149, 2, none⟩ (.int .i64 ((rd_T77 t142 x29_2).f1.f1))).setCell ⟨gb149, 3, none⟩ (.int .i64 ((rd_T77 t142 x29_2).f2))) w.heap.size (fun k_ => k_ ≠ gb149) (.slice (some ad148) t142.length co16) t142) := ⟨by (with_reducible repeat (first | apply Kd.R_alloc | apply Kd.R_drewN | apply Kd.R_drew)); exact Kd.R_mono (Kd.R_far (p := ⟨gb149, 3, none⟩) (Kd.R_far (p := ⟨gb149, 2, none⟩) (Kd.R_far (p := ⟨gb149, 1, none⟩) (Kd.R_far (p := ⟨gb149, 0, none⟩) (Kd.R_mono HO_27.out (fun k_ hk => (⟨hk, hk.2⟩ : _ ∧ k_ ≠ gb149))) (fun _ hk => hk.2) (.int .i64 ((rd_T77 t142 x29_2).f0))) (fun _ hk => hk.2) (.int .i64 ((rd_T77 t142 x29_2).f1.f0))) (fun _ hk => hk.2) (.int .i64 ((rd_T77 t142 x29_2).f1.f1))) (fun _ hk => hk.2) (.int .i64 ((rd_T77 t142 x29_2).f2))) (fun _ hk => hk.1.2)⟩
             have n1_ : Aside0 (((((w26.setCell ⟨gb149, 0, none⟩ (.int .i64 ((rd_T77 t142 x29_2).f0))).setCell ⟨gb149, 1, none⟩ (.int .i64 ((rd_T77 t142 x29_2).f1.f0))).setCell ⟨gb149, 2, none⟩ (.int .i64 ((rd_T77 t142 x29_2).f1.f1))).setCell ⟨gb149, 3, none⟩ (.int .i64 ((rd_T77 t142 x29_2).f2))).heap[gb149]? = some (.cells #[.int .i64 ((rd_T77 t142 x29_2).f0), .int .i64 ((rd_T77 t142 x29_2).f1.f0), .int .i64 ((rd_T77 t142 x29_2).f1.f1), .int .i64 ((rd_T77 t142 x29_2).f2)] 77 (0, 0))) := ⟨by (with_reducible repeat (first | refine blk_drewN ?_ _ | refine blk_drew ?_ | refine blk_alloc ?_ _)); refine blk_put (cs := #[.int .i64 ((rd_T77 t142 x29_2).f0), .int .i64 ((rd_T77 t142 x29_2).f1.f0), .int .i64 ((rd_T77 t142 x29_2).f1.f1), .int .i64 0]) ?_ 3 _ rfl; (with_reducible repeat (first | refine blk_drewN ?_ _ | refine blk_drew ?_ | refine blk_alloc ?_ _)); refine blk_put (cs := #[.int .i64 ((rd_T77 t142 x29_2).f0), .int .i64 ((rd_T77 t142 x29_2).f1.f0), .int .i64 0, .int .i64 0]) ?_ 2 _ rfl; (with_reducible repeat (first | refine blk_drewN ?_ _ | refine blk_drew ?_ | refine blk_alloc ?_ _)); refine blk_put (cs := #[.int .i64 ((rd_T77 t142 x29_2).f0), .int .i64 0, .int .i64 0, .int .i64 0]) ?_ 1 _ rfl; (with_reducible repeat (first | refine blk_drewN ?_ _ | refine blk_drew ?_ | refine blk_alloc ?_ _)); refine blk_put (cs := #[.int .i64 0, .int .i64 0, .int .i64 0, .int .i64 0]) ?_ 0 _ rfl; (with_reducible repeat (first | refine blk_drewN ?_ _ | refine blk_drew ?_ | refine blk_alloc ?_ _)); exact BK149.out⟩
             have n2_ : Aside0 (Below w.heap.size w ((((w26.setCell ⟨gb149, 0, none⟩ (.int .i64 ((rd_T77 t142 x29_2).f0))).setCell ⟨gb149, 1, none⟩ (.int .i64 ((rd_T77 t142 x29_2).f1.f0))).setCell ⟨gb149, 2, none⟩ (.int .i64 ((rd_T77 t142 x29_2).f1.f1))).setCell ⟨gb149, 3, none⟩ (.int .i64 ((rd_T77 t142 x29_2).f2)))) := ⟨Hd.b_⟩
             (try clear HO_27)
             (try clear BK149)
             (try clear HB)
             generalize ((((w26.setCell ⟨gb149, 0, none⟩ (.int .i64 ((rd_T77 t142 x29_2).f0))).setCell ⟨gb149, 1, none⟩ (.int .i64 ((rd_T77 t142 x29_2).f1.f0))).setCell ⟨gb149, 2, none⟩ (.int .i64 ((rd_T77 t142 x29_2).f1.f1))).setCell ⟨gb149, 3, none⟩ (.int .i64 ((rd_T77 t142 x29_2).f2))) = w28 at n0_ n1_ n2_ ⊢
             have HO_27 := n0_
             have BK149 := n1_
             have HB := n2_
             clear n0_ n1_ n2_
             replace HO_27 := Aside0.mk (Kd.R_drew HO_27.out)
             replace BK149 := Aside0.mk (blk_drew BK149.out)
             replace HB := Aside0.mk (below_drew1 HB.out)
             have p150 : 0 ≤ (t145 : Int) := of_decide_eq_true Hd.a_
             have q150 : t145 < (l0.length : Int) := of_decide_eq_true Hd.a_
             obtain ⟨ad150, e150, hx150_0, hx150_1, hx150_2, hx150_3⟩ := at_T77 HR0.out t145 p150 q150
             have hw150_3 := hx150_3
             have hw150_2 := hx150_2
             have hw150_1 := hx150_1
             have hw150_0 := hx150_0
             cases e150
             replace hx150_0 := (HB.out.cell (World.block_lt_of_cell? w _ hx150_0)).trans hx150_0
             replace hx150_1 := (HB.out.cell (World.block_lt_of_cell? w _ hx150_1)).trans hx150_1
             replace hx150_2 := (HB.out.cell (World.block_lt_of_cell? w _ hx150_2)).trans hx150_2
             replace hx150_3 := (HB.out.cell (World.block_lt_of_cell? w _ hx150_3)).trans hx150_3
             replace p150 := eq_true p150
             replace q150 := eq_true q150
             have p152 : 0 ≤ (t145 : Int) := of_decide_eq_true Hd.a_
             have q152 : t145 < (l0.length : Int) := of_decide_eq_true Hd.a_
             obtain ⟨ad152, e152, hx152_0, hx152_1, hx152_2, hx152_3⟩ := at_T77 HR0.out t145 p152 q152
             have hw152_3 := hx152_3
             have hw152_2 := hx152_2
             have hw152_1 := hx152_1
             have hw152_0 := hx152_0
             obtain rfl : ad150 = ad152 := (by injection e152)
             replace hx152_0 := (HB.out.cell (World.block_lt_of_cell? w _ hx152_0)).trans hx152_0
             replace hx152_1 := (HB.out.cell (World.block_lt_of_cell? w _ hx152_1)).trans hx152_1
             replace hx152_2 := (HB.out.cell (World.block_lt_of_cell? w _ hx152_2)).trans hx152_2
             replace hx152_3 := (HB.out.cell (World.block_lt_of_cell? w _ hx152_3)).trans hx152_3
             replace p152 := eq_true p152
             replace q152 := eq_true q152
             obtain ⟨s0_, s1_, s2_, s3_⟩ := Hd.HW.k4 (W0 := w28.drew) BK149
             have s4_ := Hd.HW.x (W0 := w28.drew) ((HB.out.cell (World.block_lt_of_cell? w _ hw150_0)).trans hw150_0)
             have s5_ := Hd.HW.x (W0 := w28.drew) ((HB.out.cell (World.block_lt_of_cell? w _ hw150_1)).trans hw150_1)
             have s6_ := Hd.HW.x (W0 := w28.drew) ((HB.out.cell (World.block_lt_of_cell? w _ hw150_2)).trans hw150_2)
             have s7_ := Hd.HW.x (W0 := w28.drew) ((HB.out.cell (World.block_lt_of_cell? w _ hw150_3)).trans hw150_3)
             have s8_ := Hd.HW.x (W0 := w28.drew) ((HB.out.cell (World.block_lt_of_cell? w _ hw152_0)).trans hw152_0)
             have s9_ := Hd.HW.x (W0 := w28.drew) ((HB.out.cell (World.block_lt_of_cell? w _ hw152_1)).trans hw152_1)
             have s10_ := Hd.HW.x (W0 := w28.drew) ((HB.out.cell (World.block_lt_of_cell? w _ hw152_2)).trans hw152_2)
             have s11_ := Hd.HW.x (W0 := w28.drew) ((HB.out.cell (World.block_lt_of_cell? w _ hw152_3)).trans hw152_3)
             refine Hd.HW.region (by kernel_rfl) (by kernel_rfl) ?_
             repeat (go_big_quiet_step ((first | (go_at_call 50; with_reducible exact Hd.HW.c (impl_IsAbove.calls ((rd_T77 t142 x29_2).f0) ((rd_T77 t142 x29_2).f1.f0) ((rd_T77 t142 x29_2).f1.f1) ((rd_T77 t142 x29_2).f2) ((rd_T77 l0 t145).f0) ((rd_T77 l0 t145).f1.f0) ((rd_T77 l0 t145).f1.f1) ((rd_T77 l0 t145).f2) true _ A22.out)) | (go_at_call 51; with_reducible exact Hd.HW.c (impl_FarSquared.calls ((rd_T77 t142 x29_2).f1.f0) ((rd_T77 t142 x29_2).f1.f1) ((rd_T77 l0 t145).f1.f0) ((rd_T77 l0 t145).f1.f1) t153 _ A24.out)))))
             refine wpQuiet_nil ?_
             intro _ hq_
             obtain ⟨q_, rfl⟩ := hq_
             clear s0_ s1_ s2_ s3_ s4_ s5_ s6_ s7_ s8_ s9_ s10_ s11_
             replace HO_27 := Aside0.mk (Kd.R_below HO_27.out q_.b)
             replace BK149 := Aside0.mk (blk_below BK149.out q_.b)
             replace HB := Aside0.mk (below_step HB.out q_.b)
             replace hx150_0 := q_.cell hx150_0
             replace hx150_1 := q_.cell hx150_1
             replace hx150_2 := q_.cell hx150_2
             replace hx150_3 := q_.cell hx150_3
             replace hx152_0 := q_.cell hx152_0
             replace hx152_1 := q_.cell hx152_1
             replace hx152_2 := q_.cell hx152_2
             replace hx152_3 := q_.cell hx152_3
             generalize q_.W = w31 at HO_27 BK149 HB hx150_0 hx150_1 hx150_2 hx150_3 hx152_0 hx152_1 hx152_2 hx152_3 ⊢
             try simp only [i64_w, i32_w]
             obtain ⟨hcz32_0, hcz32_1, hcz32_2, hcz32_3⟩ := Hd.c4_ BK149.out
             obtain ⟨hfz32_0, hfz32_1, hfz32_2, hfz32_3⟩ := Hd.f4_ BK149.out
             try go_wp2
             go_ret
             exact ⟨Hd.e_, Hd.b_⟩
            ·
             rw [if_neg c25] at H
             have c25b0 : decide (t153 < (wrap64 (a1 * a1))) = false := decide_eq_false c25
             clear c25
             have H' := Aside0.mk H
             clear H
             have p148 : 0 ≤ (x29_2 : Int) := of_decide_eq_true Hd.a_
             have q148 : x29_2 < (t142.length : Int) := of_decide_eq_true Hd.a_
             obtain ⟨ad148, e148, hx148_0, hx148_1, hx148_2, hx148_3⟩ := at_T77 (Kd.R_reads' HO_27.out).2.2 x29_2 p148 q148
             cases e148
             replace p148 := eq_true p148
             replace q148 := eq_true q148
             try go_wp2_with (first | ((with_reducible refine gate_dst (N := 10) rfl ?_); refine Hd.box_ 10 (#[.int .i64 0, .int .i64 0, .int .i64 0, .int .i64 0]) 77 ?_; intro gb149 hg w33 hbox hb; replace HO_27 := Aside0.mk (Kd.R_below (Kd.R_elderB (Hd.r_ HO_27) gb149 (Nat.le_of_eq hg.symm)) hb); have BK149 := Aside0.mk (hbox); have GW149 := Aside0.mk ((Hd.g_ hg Hd.b_ : w.heap.size ≤ gb149)); have GE149 := Aside0.mk ((Hd.g_ hg Hd.b_ : w.heap.size ≤ gb149)); replace HB := Aside0.mk (below_step Hd.b_ hb); clear hb hbox hg; obtain ⟨hcz34_0, hcz34_1, hcz34_2, hcz34_3⟩ := Hd.c4_ BK149.out; obtain ⟨hfz34_0, hfz34_1, hfz34_2, hfz34_3⟩ := Hd.f4_ BK149.out))
             have n0_ : Aside0 (Kd.R k77 77 ((((w33.setCell ⟨gb149, 0, none⟩ (.int .i64 ((rd_T77 t142 x29_2).f0))).setCell ⟨gb149, 1, none⟩ (.int .i64 ((rd_T77 t142 x29_2).f1.f0))).setCell ⟨gb149, 2, none⟩ (.int .i64 ((rd_T77 t142 x29_2).f1.f1))).setCell ⟨gb149, 3, none⟩ (.int .i64 ((rd_T77 t142 x29_2).f2))) w.heap.size (fun k_ => k_ ≠ gb149) (.slice (some ad148) t142.length co16) t142) := ⟨by (with_reducible repeat (first | apply Kd.R_alloc | apply Kd.R_drewN | apply Kd.R_drew)); exact Kd.R_mono (Kd.R_far (p := ⟨gb149, 3, none⟩) (Kd.R_far (p := ⟨gb149, 2, none⟩) (Kd.R_far (p := ⟨gb149, 1, none⟩) (Kd.R_far (p := ⟨gb149, 0, none⟩) (Kd.R_mono HO_27.out (fun k_ hk => (⟨hk, hk.2⟩ : _ ∧ k_ ≠ gb149))) (fun _ hk => hk.2) (.int .i64 ((rd_T77 t142 x29_2).f0))) (fun _ hk => hk.2) (.int .i64 ((rd_T77 t142 x29_2).f1.f0))) (fun _ hk => hk.2) (.int .i64 ((rd_T77 t142 x29_2).f1.f1))) (fun _ hk => hk.2) (.int .i64 ((rd_T77 t142 x29_2).f2))) (fun _ hk => hk.1.2)⟩
             have n1_ : Aside0 (((((w33.setCell ⟨gb149, 0, none⟩ (.int .i64 ((rd_T77 t142 x29_2).f0))).setCell ⟨gb149, 1, none⟩ (.int .i64 ((rd_T77 t142 x29_2).f1.f0))).setCell ⟨gb149, 2, none⟩ (.int .i64 ((rd_T77 t142 x29_2).f1.f1))).setCell ⟨gb149, 3, none⟩ (.int .i64 ((rd_T77 t142 x29_2).f2))).heap[gb149]? = some (.cells #[.int .i64 ((rd_T77 t142 x29_2).f0), .int .i64 ((rd_T77 t142 x29_2).f1.f0), .int .i64 ((rd_T77 t142 x29_2).f1.f1), .int .i64 ((rd_T77 t142 x29_2).f2)] 77 (0, 0))) := ⟨by (with_reducible repeat (first | refine blk_drewN ?_ _ | refine blk_drew ?_ | refine blk_alloc ?_ _)); refine blk_put (cs := #[.int .i64 ((rd_T77 t142 x29_2).f0), .int .i64 ((rd_T77 t142 x29_2).f1.f0), .int .i64 ((rd_T77 t142 x29_2).f1.f1), .int .i64 0]) ?_ 3 _ rfl; (with_reducible repeat (first | refine blk_drewN ?_ _ | refine blk_drew ?_ | refine blk_alloc ?_ _)); refine blk_put (cs := #[.int .i64 ((rd_T77 t142 x29_2).f0), .int .i64 ((rd_T77 t142 x29_2).f1.f0), .int .i64 0, .int .i64 0]) ?_ 2 _ rfl; (with_reducible repeat (first | refine blk_drewN ?_ _ | refine blk_drew ?_ | refine blk_alloc ?_ _)); refine blk_put (cs := #[.int .i64 ((rd_T77 t142 x29_2).f0), .int .i64 0, .int .i64 0, .int .i64 0]) ?_ 1 _ rfl; (with_reducible repeat (first | refine blk_drewN ?_ _ | refine blk_drew ?_ | refine blk_alloc ?_ _)); refine blk_put (cs := #[.int .i64 0, .int .i64 0, .int .i64 0, .int .i64 0]) ?_ 0 _ rfl; (with_reducible repeat (first | refine blk_drewN ?_ _ | refine blk_drew ?_ | refine blk_alloc ?_ _)); exact BK149.out⟩
             have n2_ : Aside0 (Below w.heap.size w ((((w33.setCell ⟨gb149, 0, none⟩ (.int .i64 ((rd_T77 t142 x29_2).f0))).setCell ⟨gb149, 1, none⟩ (.int .i64 ((rd_T77 t142 x29_2).f1.f0))).setCell ⟨gb149, 2, none⟩ (.int .i64 ((rd_T77 t142 x29_2).f1.f1))).setCell ⟨gb149, 3, none⟩ (.int .i64 ((rd_T77 t142 x29_2).f2)))) := ⟨Hd.b_⟩
             (try clear HO_27)
             (try clear BK149)
             (try clear HB)
             generalize ((((w33.setCell ⟨gb149, 0, none⟩ (.int .i64 ((rd_T77 t142 x29_2).f0))).setCell ⟨gb149, 1, none⟩ (.int .i64 ((rd_T77 t142 x29_2).f1.f0))).setCell ⟨gb149, 2, none⟩ (.int .i64 ((rd_T77 t142 x29_2).f1.f1))).setCell ⟨gb149, 3, none⟩ (.int .i64 ((rd_T77 t142 x29_2).f2))) = w35 at n0_ n1_ n2_ ⊢
             have HO_27 := n0_
             have BK149 := n1_
             have HB := n2_
             clear n0_ n1_ n2_
             replace HO_27 := Aside0.mk (Kd.R_drew HO_27.out)
             replace BK149 := Aside0.mk (blk_drew BK149.out)
             replace HB := Aside0.mk (below_drew1 HB.out)
             have p150 : 0 ≤ (t145 : Int) := of_decide_eq_true Hd.a_
             have q150 : t145 < (l0.length : Int) := of_decide_eq_true Hd.a_
             obtain ⟨ad150, e150, hx150_0, hx150_1, hx150_2, hx150_3⟩ := at_T77 HR0.out t145 p150 q150
             have hw150_3 := hx150_3
             have hw150_2 := hx150_2
             have hw150_1 := hx150_1
             have hw150_0 := hx150_0
             cases e150
             replace hx150_0 := (HB.out.cell (World.block_lt_of_cell? w _ hx150_0)).trans hx150_0
             replace hx150_1 := (HB.out.cell (World.block_lt_of_cell? w _ hx150_1)).trans hx150_1
             replace hx150_2 := (HB.out.cell (World.block_lt_of_cell? w _ hx150_2)).trans hx150_2
             replace hx150_3 := (HB.out.cell (World.block_lt_of_cell? w _ hx150_3)).trans hx150_3
             replace p150 := eq_true p150
             replace q150 := eq_true q150
             have p152 : 0 ≤ (t145 : Int) := of_decide_eq_true Hd.a_
             have q152 : t145 < (l0.length : Int) := of_decide_eq_true Hd.a_
             obtain ⟨ad152, e152, hx152_0, hx152_1, hx152_2, hx152_3⟩ := at_T77 HR0.out t145 p152 q152
             have hw152_3 := hx152_3
             have hw152_2 := hx152_2
             have hw152_1 := hx152_1
             have hw152_0 := hx152_0
             obtain rfl : ad150 = ad152 := (by injection e152)
             replace hx152_0 := (HB.out.cell (World.block_lt_of_cell? w _ hx152_0)).trans hx152_0
             replace hx152_1 := (HB.out.cell (World.block_lt_of_cell? w _ hx152_1)).trans hx152_1
             replace hx152_2 := (HB.out.cell (World.block_lt_of_cell? w _ hx152_2)).trans hx152_2
             replace hx152_3 := (HB.out.cell (World.block_lt_of_cell? w _ hx152_3)).trans hx152_3
             replace p152 := eq_true p152
             replace q152 := eq_true q152
             obtain ⟨s0_, s1_, s2_, s3_⟩ := Hd.HW.k4 (W0 := w35.drew) BK149
             have s4_ := Hd.HW.x (W0 := w35.drew) ((HB.out.cell (World.block_lt_of_cell? w _ hw150_0)).trans hw150_0)
             have s5_ := Hd.HW.x (W0 := w35.drew) ((HB.out.cell (World.block_lt_of_cell? w _ hw150_1)).trans hw150_1)
             have s6_ := Hd.HW.x (W0 := w35.drew) ((HB.out.cell (World.block_lt_of_cell? w _ hw150_2)).trans hw150_2)
             have s7_ := Hd.HW.x (W0 := w35.drew) ((HB.out.cell (World.block_lt_of_cell? w _ hw150_3)).trans hw150_3)
             have s8_ := Hd.HW.x (W0 := w35.drew) ((HB.out.cell (World.block_lt_of_cell? w _ hw152_0)).trans hw152_0)
             have s9_ := Hd.HW.x (W0 := w35.drew) ((HB.out.cell (World.block_lt_of_cell? w _ hw152_1)).trans hw152_1)
             have s10_ := Hd.HW.x (W0 := w35.drew) ((HB.out.cell (World.block_lt_of_cell? w _ hw152_2)).trans hw152_2)
             have s11_ := Hd.HW.x (W0 := w35.drew) ((HB.out.cell (World.block_lt_of_cell? w _ hw152_3)).trans hw152_3)
             refine Hd.HW.region (by kernel_rfl) (by kernel_rfl) ?_
             repeat (go_big_quiet_step ((first | (go_at_call 50; with_reducible exact Hd.HW.c (impl_IsAbove.calls ((rd_T77 t142 x29_2).f0) ((rd_T77 t142 x29_2).f1.f0) ((rd_T77 t142 x29_2).f1.f1) ((rd_T77 t142 x29_2).f2) ((rd_T77 l0 t145).f0) ((rd_T77 l0 t145).f1.f0) ((rd_T77 l0 t145).f1.f1) ((rd_T77 l0 t145).f2) true _ A22.out)) | (go_at_call 51; with_reducible exact Hd.HW.c (impl_FarSquared.calls ((rd_T77 t142 x29_2).f1.f0) ((rd_T77 t142 x29_2).f1.f1) ((rd_T77 l0 t145).f1.f0) ((rd_T77 l0 t145).f1.f1) t153 _ A24.out)))))
             refine wpQuiet_nil ?_
             intro _ hq_
             obtain ⟨q_, rfl⟩ := hq_
             clear s0_ s1_ s2_ s3_ s4_ s5_ s6_ s7_ s8_ s9_ s10_ s11_
             replace HO_27 := Aside0.mk (Kd.R_below HO_27.out q_.b)
             replace BK149 := Aside0.mk (blk_below BK149.out q_.b)
             replace HB := Aside0.mk (below_step HB.out q_.b)
             replace hx150_0 := q_.cell hx150_0
             replace hx150_1 := q_.cell hx150_1
             replace hx150_2 := q_.cell hx150_2
             replace hx150_3 := q_.cell hx150_3
             replace hx152_0 := q_.cell hx152_0
             replace hx152_1 := q_.cell hx152_1
             replace hx152_2 := q_.cell hx152_2
             replace hx152_3 := q_.cell hx152_3
             generalize q_.W = w38 at HO_27 BK149 HB hx150_0 hx150_1 hx150_2 hx150_3 hx152_0 hx152_1 hx152_2 hx152_3 ⊢
             try simp only [i64_w, i32_w]
             try go_wp2
             go_roundg k2
             case measure => have := HJ5.out; have := HK2.out; omega
             case rel => exact ⟨(wrap64 (x29_2 + 1)), (by first | rfl | (simp; done) | (simp [*]; done)), H', ⟨by have := HJ5.out; have := HK2.out; omega⟩, ⟨by (with_reducible repeat (first | apply Kd.R_alloc | apply Kd.R_drewN | apply Kd.R_drew)); exact Kd.R_mono HO_27.out (fun _ hk => trivial)⟩, ⟨Hd.b_⟩⟩
           ·
            replace c23 := Bool.eq_false_iff.mpr c23
            subst c23
            have H1 : (impl_HiddenBy.l0 k2 l0 a1 t145 t142 (t142.length : Int) (wrap64 (x29_2 + 1))) = some r := by rw [if_neg (show ¬ (false = true) by decide)] at H; exact H
            clear H
            have H := H1
            clear H1
            have H' := Aside0.mk H
            clear H
            have p148 : 0 ≤ (x29_2 : Int) := of_decide_eq_true Hd.a_
            have q148 : x29_2 < (t142.length : Int) := of_decide_eq_true Hd.a_
            obtain ⟨ad148, e148, hx148_0, hx148_1, hx148_2, hx148_3⟩ := at_T77 (Kd.R_reads' HO_27.out).2.2 x29_2 p148 q148
            cases e148
            replace p148 := eq_true p148
            replace q148 := eq_true q148
            try go_wp2_with (first | ((with_reducible refine gate_dst (N := 10) rfl ?_); refine Hd.box_ 10 (#[.int .i64 0, .int .i64 0, .int .i64 0, .int .i64 0]) 77 ?_; intro gb149 hg w39 hbox hb; replace HO_27 := Aside0.mk (Kd.R_below (Kd.R_elderB (Hd.r_ HO_27) gb149 (Nat.le_of_eq hg.symm)) hb); have BK149 := Aside0.mk (hbox); have GW149 := Aside0.mk ((Hd.g_ hg Hd.b_ : w.heap.size ≤ gb149)); have GE149 := Aside0.mk ((Hd.g_ hg Hd.b_ : w.heap.size ≤ gb149)); replace HB := Aside0.mk (below_step Hd.b_ hb); clear hb hbox hg; obtain ⟨hcz40_0, hcz40_1, hcz40_2, hcz40_3⟩ := Hd.c4_ BK149.out; obtain ⟨hfz40_0, hfz40_1, hfz40_2, hfz40_3⟩ := Hd.f4_ BK149.out))
            have n0_ : Aside0 (Kd.R k77 77 ((((w39.setCell ⟨gb149, 0, none⟩ (.int .i64 ((rd_T77 t142 x29_2).f0))).setCell ⟨gb149, 1, none⟩ (.int .i64 ((rd_T77 t142 x29_2).f1.f0))).setCell ⟨gb149, 2, none⟩ (.int .i64 ((rd_T77 t142 x29_2).f1.f1))).setCell ⟨gb149, 3, none⟩ (.int .i64 ((rd_T77 t142 x29_2).f2))) w.heap.size (fun k_ => k_ ≠ gb149) (.slice (some ad148) t142.length co16) t142) := ⟨by (with_reducible repeat (first | apply Kd.R_alloc | apply Kd.R_drewN | apply Kd.R_drew)); exact Kd.R_mono (Kd.R_far (p := ⟨gb149, 3, none⟩) (Kd.R_far (p := ⟨gb149, 2, none⟩) (Kd.R_far (p := ⟨gb149, 1, none⟩) (Kd.R_far (p := ⟨gb149, 0, none⟩) (Kd.R_mono HO_27.out (fun k_ hk => (⟨hk, hk.2⟩ : _ ∧ k_ ≠ gb149))) (fun _ hk => hk.2) (.int .i64 ((rd_T77 t142 x29_2).f0))) (fun _ hk => hk.2) (.int .i64 ((rd_T77 t142 x29_2).f1.f0))) (fun _ hk => hk.2) (.int .i64 ((rd_T77 t142 x29_2).f1.f1))) (fun _ hk => hk.2) (.int .i64 ((rd_T77 t142 x29_2).f2))) (fun _ hk => hk.1.2)⟩
            have n1_ : Aside0 (((((w39.setCell ⟨gb149, 0, none⟩ (.int .i64 ((rd_T77 t142 x29_2).f0))).setCell ⟨gb149, 1, none⟩ (.int .i64 ((rd_T77 t142 x29_2).f1.f0))).setCell ⟨gb149, 2, none⟩ (.int .i64 ((rd_T77 t142 x29_2).f1.f1))).setCell ⟨gb149, 3, none⟩ (.int .i64 ((rd_T77 t142 x29_2).f2))).heap[gb149]? = some (.cells #[.int .i64 ((rd_T77 t142 x29_2).f0), .int .i64 ((rd_T77 t142 x29_2).f1.f0), .int .i64 ((rd_T77 t142 x29_2).f1.f1), .int .i64 ((rd_T77 t142 x29_2).f2)] 77 (0, 0))) := ⟨by (with_reducible repeat (first | refine blk_drewN ?_ _ | refine blk_drew ?_ | refine blk_alloc ?_ _)); refine blk_put (cs := #[.int .i64 ((rd_T77 t142 x29_2).f0), .int .i64 ((rd_T77 t142 x29_2).f1.f0), .int .i64 ((rd_T77 t142 x29_2).f1.f1), .int .i64 0]) ?_ 3 _ rfl; (with_reducible repeat (first | refine blk_drewN ?_ _ | refine blk_drew ?_ | refine blk_alloc ?_ _)); refine blk_put (cs := #[.int .i64 ((rd_T77 t142 x29_2).f0), .int .i64 ((rd_T77 t142 x29_2).f1.f0), .int .i64 0, .int .i64 0]) ?_ 2 _ rfl; (with_reducible repeat (first | refine blk_drewN ?_ _ | refine blk_drew ?_ | refine blk_alloc ?_ _)); refine blk_put (cs := #[.int .i64 ((rd_T77 t142 x29_2).f0), .int .i64 0, .int .i64 0, .int .i64 0]) ?_ 1 _ rfl; (with_reducible repeat (first | refine blk_drewN ?_ _ | refine blk_drew ?_ | refine blk_alloc ?_ _)); refine blk_put (cs := #[.int .i64 0, .int .i64 0, .int .i64 0, .int .i64 0]) ?_ 0 _ rfl; (with_reducible repeat (first | refine blk_drewN ?_ _ | refine blk_drew ?_ | refine blk_alloc ?_ _)); exact BK149.out⟩
            have n2_ : Aside0 (Below w.heap.size w ((((w39.setCell ⟨gb149, 0, none⟩ (.int .i64 ((rd_T77 t142 x29_2).f0))).setCell ⟨gb149, 1, none⟩ (.int .i64 ((rd_T77 t142 x29_2).f1.f0))).setCell ⟨gb149, 2, none⟩ (.int .i64 ((rd_T77 t142 x29_2).f1.f1))).setCell ⟨gb149, 3, none⟩ (.int .i64 ((rd_T77 t142 x29_2).f2)))) := ⟨Hd.b_⟩
            (try clear HO_27)
            (try clear BK149)
            (try clear HB)
            generalize ((((w39.setCell ⟨gb149, 0, none⟩ (.int .i64 ((rd_T77 t142 x29_2).f0))).setCell ⟨gb149, 1, none⟩ (.int .i64 ((rd_T77 t142 x29_2).f1.f0))).setCell ⟨gb149, 2, none⟩ (.int .i64 ((rd_T77 t142 x29_2).f1.f1))).setCell ⟨gb149, 3, none⟩ (.int .i64 ((rd_T77 t142 x29_2).f2))) = w41 at n0_ n1_ n2_ ⊢
            have HO_27 := n0_
            have BK149 := n1_
            have HB := n2_
            clear n0_ n1_ n2_
            replace HO_27 := Aside0.mk (Kd.R_drew HO_27.out)
            replace BK149 := Aside0.mk (blk_drew BK149.out)
            replace HB := Aside0.mk (below_drew1 HB.out)
            have p150 : 0 ≤ (t145 : Int) := of_decide_eq_true Hd.a_
            have q150 : t145 < (l0.length : Int) := of_decide_eq_true Hd.a_
            obtain ⟨ad150, e150, hx150_0, hx150_1, hx150_2, hx150_3⟩ := at_T77 HR0.out t145 p150 q150
            have hw150_3 := hx150_3
            have hw150_2 := hx150_2
            have hw150_1 := hx150_1
            have hw150_0 := hx150_0
            cases e150
            replace hx150_0 := (HB.out.cell (World.block_lt_of_cell? w _ hx150_0)).trans hx150_0
            replace hx150_1 := (HB.out.cell (World.block_lt_of_cell? w _ hx150_1)).trans hx150_1
            replace hx150_2 := (HB.out.cell (World.block_lt_of_cell? w _ hx150_2)).trans hx150_2
            replace hx150_3 := (HB.out.cell (World.block_lt_of_cell? w _ hx150_3)).trans hx150_3
            replace p150 := eq_true p150
            replace q150 := eq_true q150
            obtain ⟨s0_, s1_, s2_, s3_⟩ := Hd.HW.k4 (W0 := w41.drew) BK149
            have s4_ := Hd.HW.x (W0 := w41.drew) ((HB.out.cell (World.block_lt_of_cell? w _ hw150_0)).trans hw150_0)
            have s5_ := Hd.HW.x (W0 := w41.drew) ((HB.out.cell (World.block_lt_of_cell? w _ hw150_1)).trans hw150_1)
            have s6_ := Hd.HW.x (W0 := w41.drew) ((HB.out.cell (World.block_lt_of_cell? w _ hw150_2)).trans hw150_2)
            have s7_ := Hd.HW.x (W0 := w41.drew) ((HB.out.cell (World.block_lt_of_cell? w _ hw150_3)).trans hw150_3)
            refine Hd.HW.region (by kernel_rfl) (by kernel_rfl) ?_
            repeat (go_big_quiet_step ((first | (go_at_call 50; with_reducible exact Hd.HW.c (impl_IsAbove.calls ((rd_T77 t142 x29_2).f0) ((rd_T77 t142 x29_2).f1.f0) ((rd_T77 t142 x29_2).f1.f1) ((rd_T77 t142 x29_2).f2) ((rd_T77 l0 t145).f0) ((rd_T77 l0 t145).f1.f0) ((rd_T77 l0 t145).f1.f1) ((rd_T77 l0 t145).f2) false _ A22.out)))))
            refine wpQuiet_nil ?_
            intro _ hq_
            obtain ⟨q_, rfl⟩ := hq_
            clear s0_ s1_ s2_ s3_ s4_ s5_ s6_ s7_
            replace HO_27 := Aside0.mk (Kd.R_below HO_27.out q_.b)
            replace BK149 := Aside0.mk (blk_below BK149.out q_.b)
            replace HB := Aside0.mk (below_step HB.out q_.b)
            replace hx150_0 := q_.cell hx150_0
            replace hx150_1 := q_.cell hx150_1
            replace hx150_2 := q_.cell hx150_2
            replace hx150_3 := q_.cell hx150_3
            generalize q_.W = w43 at HO_27 BK149 HB hx150_0 hx150_1 hx150_2 hx150_3 ⊢
            try simp only [i64_w, i32_w]
            try go_wp2
            go_roundg k2
            case measure => have := HJ5.out; have := HK2.out; omega
            case rel => exact ⟨(wrap64 (x29_2 + 1)), (by first | rfl | (simp; done) | (simp [*]; done)), H', ⟨by have := HJ5.out; have := HK2.out; omega⟩, ⟨by (with_reducible repeat (first | apply Kd.R_alloc | apply Kd.R_drewN | apply Kd.R_drew)); exact Kd.R_mono HO_27.out (fun _ hk => trivial)⟩, ⟨Hd.b_⟩⟩
          ·
           rw [if_neg c21] at H
           exact absurd H (by simp)
         ·
          rw [if_neg c20] at H
          exact absurd H (by simp)
        ·
         rw [if_neg c19] at H
         exact absurd H (by simp)
       ·
        rw [if_neg c18] at H
        exact absurd H (by simp)
      ·
       rw [if_neg c17] at H
       have c17b0 : decide (x29_2 < (t142.length : Int)) = false := decide_eq_false c17
       clear c17
       obtain rfl := Option.some.inj H
       go_wp2
       go_ret
       exact ⟨Hd.e_, Hd.b_⟩
def spec_l1In.f (a0 : Int) (a1 : Int) (a2 : Int) : Option (Bool) := if a0 ≥ a1 then (some (decide (a0 ≤ a2))) else (some false)
set_option maxHeartbeats 8000000 in
set_option maxRecDepth 100000 in
theorem spec_l1In.calls (a0 : Int) (a1 : Int) (a2 : Int) (r : Bool) (w : World) (h : spec_l1In.f a0 a1 a2 = some r) :
  Calls Try.prog 82 #[.int .i64 a0, .int .i64 a1, .int .i64 a2] w fun e w' => e = .returned (.bool r) ∧ Drawn0 w w' := by
 have H : (if a0 ≥ a1 then (some (decide (a0 ≤ a2))) else (some false)) = some r := h
 clear h
 by_cases c4 : a0 ≥ a1
 ·
  rw [if_pos c4] at H
  have c4b0 : decide (a1 ≤ a0) = true := decide_eq_true c4
  clear c4
  obtain rfl := Option.some.inj H
  go_enter Try.func82, Try.ntmps82
  go_wp2
  go_ret
  exact ⟨by first | rfl | (simp; done) | (simp [*]; done), by repeat (first | exact Drawn0.refl _ | apply Drawn0.step)⟩
 ·
  rw [if_neg c4] at H
  have c4b0 : decide (a1 ≤ a0) = false := decide_eq_false c4
  clear c4
  obtain rfl := Option.some.inj H
  go_enter Try.func82, Try.ntmps82
  go_wp2
  go_ret
  exact ⟨by first | rfl | (simp; done) | (simp [*]; done), by repeat (first | exact Drawn0.refl _ | apply Drawn0.step)⟩
def spec_IsPoint.f (a0_0 : Int) (a0_1 : Int) : Option (Bool) := (spec_l1In.f a0_0 0 200).bind fun t155 => (if t155 = true then ((spec_l1In.f a0_1 0 200).bind fun t156 => (some t156)) else (some false))
set_option maxHeartbeats 8000000 in
set_option maxRecDepth 100000 in
theorem spec_IsPoint.calls (a0_0 : Int) (a0_1 : Int) (r : Bool) (w : World) (h : spec_IsPoint.f a0_0 a0_1 = some r) :
  Calls Try.prog 115 #[.agg #[.int .i64 a0_0, .int .i64 a0_1]] w fun e w' => e = .returned (.bool r) ∧ Below w.heap.size w w' := by
 have hu75 := Try.underlying75
 have HB := Aside0.mk (Below.refl w.heap.size w)
 have H : ((spec_l1In.f a0_0 0 200).bind fun t155 => (if t155 = true then ((spec_l1In.f a0_1 0 200).bind fun t156 => (some t156)) else (some false))) = some r := h
 clear h
 replace H := Option.bind_eq_some_iff.mp H
 obtain ⟨t155, A20, H⟩ := H
 replace H : (if t155 = true then ((spec_l1In.f a0_1 0 200).bind fun t156 => (some t156)) else (some false)) = some r := H
 have A2 := Aside0.mk A20
 clear A20
 by_cases c3 : t155 = true
 ·
  subst c3
  have H1 : ((spec_l1In.f a0_1 0 200).bind fun t156 => (some t156)) = some r := by rw [if_pos rfl] at H; exact H
  clear H
  have H := H1
  clear H1
  replace H := Option.bind_eq_some_iff.mp H
  obtain ⟨t156, A40, H⟩ := H
  replace H : (some t156) = some r := H
  have A4 := Aside0.mk A40
  clear A40
  obtain rfl := Option.some.inj H
  go_enter Try.func115, Try.ntmps115
  go_wp2_with (first | ((with_reducible refine gate_dst (N := 1) rfl ?_); refine Hd.box_ 1 (#[.int .i64 a0_0, .int .i64 a0_1]) 75 ?_; intro gb154 hg w5 hbox hb; have BK154 := Aside0.mk (hbox); have GW154 := Aside0.mk ((Hd.g_ hg Hd.b_ : w.heap.size ≤ gb154)); have GE154 := Aside0.mk ((Hd.g_ hg Hd.b_ : w.heap.size ≤ gb154)); replace HB := Aside0.mk (below_step Hd.b_ hb); clear hb hbox hg; obtain ⟨hcz6_0, hcz6_1⟩ := Hd.c2_ BK154.out; obtain ⟨hfz6_0, hfz6_1⟩ := Hd.f2_ BK154.out) | ((with_reducible refine gate_callee (f := 82) rfl ?_); refine goesL_ (some 5) rfl rfl Try.func82 (by kernel_rfl) rfl #[.int .i64 a0_0, .int .i64 0, .int .i64 200] rfl Hd.m_ ?_; (with_reducible refine (spec_l1In.calls a0_0 0 200 true _ A2.out).mono ?_); rintro e w' ⟨rfl, ⟨nd, rfl⟩⟩; refine ⟨_, rfl, ?_⟩) | (go_at_call 82; (with_reducible refine (spec_l1In.calls a0_1 0 200 t156 _ A4.out).mono ?_); rintro e w' ⟨rfl, ⟨nd, rfl⟩⟩))
  go_ret
  exact ⟨Hd.e_, Hd.b_⟩
 ·
  replace c3 := Bool.eq_false_iff.mpr c3
  subst c3
  have H1 : (some false) = some r := by rw [if_neg (show ¬ (false = true) by decide)] at H; exact H
  clear H
  have H := H1
  clear H1
  obtain rfl := Option.some.inj H
  go_enter Try.func115, Try.ntmps115
  go_wp2_with (first | ((with_reducible refine gate_dst (N := 1) rfl ?_); refine Hd.box_ 1 (#[.int .i64 a0_0, .int .i64 a0_1]) 75 ?_; intro gb154 hg w7 hbox hb; have BK154 := Aside0.mk (hbox); have GW154 := Aside0.mk ((Hd.g_ hg Hd.b_ : w.heap.size ≤ gb154)); have GE154 := Aside0.mk ((Hd.g_ hg Hd.b_ : w.heap.size ≤ gb154)); replace HB := Aside0.mk (below_step Hd.b_ hb); clear hb hbox hg; obtain ⟨hcz8_0, hcz8_1⟩ := Hd.c2_ BK154.out; obtain ⟨hfz8_0, hfz8_1⟩ := Hd.f2_ BK154.out) | ((with_reducible refine gate_callee (f := 82) rfl ?_); refine goesL_ (some 5) rfl rfl Try.func82 (by kernel_rfl) rfl #[.int .i64 a0_0, .int .i64 0, .int .i64 200] rfl Hd.m_ ?_; (with_reducible refine (spec_l1In.calls a0_0 0 200 false _ A2.out).mono ?_); rintro e w' ⟨rfl, ⟨nd, rfl⟩⟩; refine ⟨_, rfl, ?_⟩))
  go_ret
  exact ⟨Hd.e_, Hd.b_⟩
end Go.Proofs.Ytbackoeakepngab.MFnThinned
