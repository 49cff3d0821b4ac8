-- Laid by this session's program pp.py, after the kit's print and texts of the session's own. Not trusted: Lean checks it.
import Derived.Test.YtbackoeakepngabZFnThinnedMx0
import Derived.Test.YtbackoeakepngabZFnThinnedMx4
namespace Go.Proofs.Ytbackoeakepngab.MFnThinned
open Go.RowKit Go.Proofs.YtbackoeakepngabW.PrintWords Go.Proofs.YtbackoeakepngabW.PrintLast Go.Proofs.YtbackoeakepngabW.PrintMore
attribute [local go_sem] max2_int min2_int max_two min_two max_three min_three max_four min_four   -- for this text's walks alone
set_option linter.unusedVariables false
set_option linter.unusedSimpArgs false
def spec_ArePlaces.l0 : Nat → List (S77) → Int → Option (Bool)
 | 0, _, _ => none
 | k + 1, x0, x3 => if x3 < (x0.length : Int) then (if 0 ≤ x3 then ((spec_l1In.f ((rd_T77 x0 x3).f0) 1 99).bind fun t158 => (if t158 = true then ((spec_IsPoint.f ((rd_T77 x0 x3).f1.f0) ((rd_T77 x0 x3).f1.f1)).bind fun t160 => (if t160 = true then ((spec_l1In.f ((rd_T77 x0 x3).f2) 0 9).bind fun t162 => (if t162 = true then (if x3 > 0 then (if 0 ≤ (wrap64 (x3 - 1)) then (if (wrap64 (x3 - 1)) < (x0.length : Int) then (if ((rd_T77 x0 (wrap64 (x3 - 1))).f0) ≥ ((rd_T77 x0 x3).f0) then (some false) else (spec_ArePlaces.l0 k x0 (wrap64 (x3 + 1)))) else (none)) else (none)) else (spec_ArePlaces.l0 k x0 (wrap64 (x3 + 1)))) else (some false))) else (some false))) else (some false))) else (none)) else (some (decide ((x0.length : Int) ≤ 16)))
def spec_ArePlaces.f (k : Nat) (l0 : List (S77)) : Option (Bool) := spec_ArePlaces.l0 k l0 0
set_option maxHeartbeats 8000000 in
set_option maxRecDepth 100000 in
theorem spec_ArePlaces.calls (k : Nat) (A0 : Option Addr) (c0 : Nat) (l0 : List (S77)) (r : Bool) (w : World) (hr0 : Kd.C k77 w A0 l0.length l0) (hc0 : l0.length ≤ c0) (h : spec_ArePlaces.f k l0 = some r) :
  Calls Try.prog 81 #[.slice A0 l0.length c0] w fun e w' => e = .returned (.bool r) ∧ Below w.heap.size w w' := by
 have hu75 := Try.underlying75
 have HR0 := Aside0.mk hr0
 have HC0 := Aside0.mk hc0
 clear hr0 hc0
 have HB := Aside0.mk (Below.refl w.heap.size w)
 have H : (spec_ArePlaces.l0 k l0 0) = some r := h
 clear h
 have H' := Aside0.mk H
 clear H
 go_enter Try.func81, Try.ntmps81
 go_wp2
 go_loopg [3] k (fun kq v3 w' => ∃ (x3_1 : Int), v3 = .int .i64 x3_1 ∧ Aside0 (spec_ArePlaces.l0 kq l0 x3_1 = some r) ∧ Aside0 (kq ≤ k) ∧ Aside0 (Below w.heap.size w w'))
 case atStart => exact ⟨(0), (by first | rfl | (simp; done) | (simp [*]; done)), H', ⟨Nat.le_refl _⟩, ⟨Hd.b_⟩⟩
 case round =>
  clear H'
  obtain ⟨x3_1, rfl, HA, HK1, HB⟩ := hrel
  cases gk with
  | zero => exact absurd HA.out (by simp [spec_ArePlaces.l0])
  | succ k1 =>
   have H := HA.out
   clear HA
   simp only [spec_ArePlaces.l0] at H
   by_cases c2 : x3_1 < (l0.length : Int)
   ·
    rw [if_pos c2] at H
    have c2b0 : decide (x3_1 < (l0.length : Int)) = true := decide_eq_true c2
    clear c2
    by_cases c3 : 0 ≤ x3_1
    ·
     rw [if_pos c3] at H
     have c3b0 : decide (0 ≤ x3_1) = true := decide_eq_true c3
     clear c3
     replace H := Option.bind_eq_some_iff.mp H
     obtain ⟨t158, A40, H⟩ := H
     replace H : (if t158 = true then ((spec_IsPoint.f ((rd_T77 l0 x3_1).f1.f0) ((rd_T77 l0 x3_1).f1.f1)).bind fun t160 => (if t160 = true then ((spec_l1In.f ((rd_T77 l0 x3_1).f2) 0 9).bind fun t162 => (if t162 = true then (if x3_1 > 0 then (if 0 ≤ (wrap64 (x3_1 - 1)) then (if (wrap64 (x3_1 - 1)) < (l0.length : Int) then (if ((rd_T77 l0 (wrap64 (x3_1 - 1))).f0) ≥ ((rd_T77 l0 x3_1).f0) then (some false) else (spec_ArePlaces.l0 k1 l0 (wrap64 (x3_1 + 1)))) else (none)) else (none)) else (spec_ArePlaces.l0 k1 l0 (wrap64 (x3_1 + 1)))) else (some false))) else (some false))) else (some false)) = some r := H
     have A4 := Aside0.mk A40
     clear A40
     by_cases c5 : t158 = true
     ·
      subst c5
      have H1 : ((spec_IsPoint.f ((rd_T77 l0 x3_1).f1.f0) ((rd_T77 l0 x3_1).f1.f1)).bind fun t160 => (if t160 = true then ((spec_l1In.f ((rd_T77 l0 x3_1).f2) 0 9).bind fun t162 => (if t162 = true then (if x3_1 > 0 then (if 0 ≤ (wrap64 (x3_1 - 1)) then (if (wrap64 (x3_1 - 1)) < (l0.length : Int) then (if ((rd_T77 l0 (wrap64 (x3_1 - 1))).f0) ≥ ((rd_T77 l0 x3_1).f0) then (some false) else (spec_ArePlaces.l0 k1 l0 (wrap64 (x3_1 + 1)))) else (none)) else (none)) else (spec_ArePlaces.l0 k1 l0 (wrap64 (x3_1 + 1)))) else (some false))) else (some false))) = some r := by rw [if_pos rfl] at H; exact H
      clear H
      have H := H1
      clear H1
      replace H := Option.bind_eq_some_iff.mp H
      obtain ⟨t160, A60, H⟩ := H
      replace H : (if t160 = true then ((spec_l1In.f ((rd_T77 l0 x3_1).f2) 0 9).bind fun t162 => (if t162 = true then (if x3_1 > 0 then (if 0 ≤ (wrap64 (x3_1 - 1)) then (if (wrap64 (x3_1 - 1)) < (l0.length : Int) then (if ((rd_T77 l0 (wrap64 (x3_1 - 1))).f0) ≥ ((rd_T77 l0 x3_1).f0) then (some false) else (spec_ArePlaces.l0 k1 l0 (wrap64 (x3_1 + 1)))) else (none)) else (none)) else (spec_ArePlaces.l0 k1 l0 (wrap64 (x3_1 + 1)))) else (some false))) else (some false)) = some r := H
      have A6 := Aside0.mk A60
      clear A60
      by_cases c7 : t160 = true
      ·
       subst c7
       have H1 : ((spec_l1In.f ((rd_T77 l0 x3_1).f2) 0 9).bind fun t162 => (if t162 = true then (if x3_1 > 0 then (if 0 ≤ (wrap64 (x3_1 - 1)) then (if (wrap64 (x3_1 - 1)) < (l0.length : Int) then (if ((rd_T77 l0 (wrap64 (x3_1 - 1))).f0) ≥ ((rd_T77 l0 x3_1).f0) then (some false) else (spec_ArePlaces.l0 k1 l0 (wrap64 (x3_1 + 1)))) else (none)) else (none)) else (spec_ArePlaces.l0 k1 l0 (wrap64 (x3_1 + 1)))) else (some false))) = some r := by rw [if_pos rfl] at H; exact H
       clear H
       have H := H1
       clear H1
       replace H := Option.bind_eq_some_iff.mp H
       obtain ⟨t162, A80, H⟩ := H
       replace H : (if t162 = true then (if x3_1 > 0 then (if 0 ≤ (wrap64 (x3_1 - 1)) then (if (wrap64 (x3_1 - 1)) < (l0.length : Int) then (if ((rd_T77 l0 (wrap64 (x3_1 - 1))).f0) ≥ ((rd_T77 l0 x3_1).f0) then (some false) else (spec_ArePlaces.l0 k1 l0 (wrap64 (x3_1 + 1)))) else (none)) else (none)) else (spec_ArePlaces.l0 k1 l0 (wrap64 (x3_1 + 1)))) else (some false)) = some r := H
       have A8 := Aside0.mk A80
       clear A80
       by_cases c9 : t162 = true
       ·
        subst c9
        have H1 : (if x3_1 > 0 then (if 0 ≤ (wrap64 (x3_1 - 1)) then (if (wrap64 (x3_1 - 1)) < (l0.length : Int) then (if ((rd_T77 l0 (wrap64 (x3_1 - 1))).f0) ≥ ((rd_T77 l0 x3_1).f0) then (some false) else (spec_ArePlaces.l0 k1 l0 (wrap64 (x3_1 + 1)))) else (none)) else (none)) else (spec_ArePlaces.l0 k1 l0 (wrap64 (x3_1 + 1)))) = some r := by rw [if_pos rfl] at H; exact H
        clear H
        have H := H1
        clear H1
        by_cases c10 : x3_1 > 0
        ·
         rw [if_pos c10] at H
         have c10b0 : decide (0 < x3_1) = true := decide_eq_true c10
         clear c10
         obtain ⟨ji11, hji11⟩ : ∃ j_ : Int, (wrap64 (x3_1 - 1)) = j_ := ⟨_, rfl⟩
         replace H : (if 0 ≤ (ji11) then (if (ji11) < (l0.length : Int) then (if ((rd_T77 l0 (ji11)).f0) ≥ ((rd_T77 l0 x3_1).f0) then (some false) else (spec_ArePlaces.l0 k1 l0 (wrap64 (x3_1 + 1)))) else (none)) else (none)) = some r := by first | (rw [hji11] at H; exact H) | (simp only [hji11] at H ⊢; exact H)
         (try rw [hji11] at A4)
         (try rw [hji11] at A6)
         (try rw [hji11] at A8)
         have hji11w : (IntKind.i64.wrap (x3_1 - 1)) = ji11 := (i64_w _).trans hji11
         by_cases c12 : 0 ≤ (ji11)
         ·
          rw [if_pos c12] at H
          have c12b0 : decide (0 ≤ (ji11)) = true := decide_eq_true c12
          clear c12
          by_cases c13 : (ji11) < (l0.length : Int)
          ·
           rw [if_pos c13] at H
           have c13b0 : decide ((ji11) < (l0.length : Int)) = true := decide_eq_true c13
           clear c13
           by_cases c14 : ((rd_T77 l0 (ji11)).f0) ≥ ((rd_T77 l0 x3_1).f0)
           ·
            rw [if_pos c14] at H
            have c14b0 : decide (((rd_T77 l0 x3_1).f0) ≤ ((rd_T77 l0 (ji11)).f0)) = true := decide_eq_true c14
            clear c14
            obtain rfl := Option.some.inj H
            try go_wp2
            replace HB := Aside0.mk (below_drew1 HB.out)
            have p157 : 0 ≤ (x3_1 : Int) := of_decide_eq_true Hd.a_
            have q157 : x3_1 < (l0.length : Int) := of_decide_eq_true Hd.a_
            obtain ⟨ad157, e157, hx157_0, hx157_1, hx157_2, hx157_3⟩ := at_T77 HR0.out x3_1 p157 q157
            have hw157_3 := hx157_3
            have hw157_2 := hx157_2
            have hw157_1 := hx157_1
            have hw157_0 := hx157_0
            cases e157
            replace hx157_0 := (HB.out.cell (World.block_lt_of_cell? w _ hx157_0)).trans hx157_0
            replace hx157_1 := (HB.out.cell (World.block_lt_of_cell? w _ hx157_1)).trans hx157_1
            replace hx157_2 := (HB.out.cell (World.block_lt_of_cell? w _ hx157_2)).trans hx157_2
            replace hx157_3 := (HB.out.cell (World.block_lt_of_cell? w _ hx157_3)).trans hx157_3
            replace p157 := eq_true p157
            replace q157 := eq_true q157
            have p159 : 0 ≤ (x3_1 : Int) := of_decide_eq_true Hd.a_
            have q159 : x3_1 < (l0.length : Int) := of_decide_eq_true Hd.a_
            obtain ⟨ad159, e159, hx159_0, hx159_1, hx159_2, hx159_3⟩ := at_T77 HR0.out x3_1 p159 q159
            have hw159_3 := hx159_3
            have hw159_2 := hx159_2
            have hw159_1 := hx159_1
            have hw159_0 := hx159_0
            obtain rfl : ad157 = ad159 := (by injection e159)
            replace hx159_0 := (HB.out.cell (World.block_lt_of_cell? w _ hx159_0)).trans hx159_0
            replace hx159_1 := (HB.out.cell (World.block_lt_of_cell? w _ hx159_1)).trans hx159_1
            replace hx159_2 := (HB.out.cell (World.block_lt_of_cell? w _ hx159_2)).trans hx159_2
            replace hx159_3 := (HB.out.cell (World.block_lt_of_cell? w _ hx159_3)).trans hx159_3
            replace p159 := eq_true p159
            replace q159 := eq_true q159
            have p161 : 0 ≤ (x3_1 : Int) := of_decide_eq_true Hd.a_
            have q161 : x3_1 < (l0.length : Int) := of_decide_eq_true Hd.a_
            obtain ⟨ad161, e161, hx161_0, hx161_1, hx161_2, hx161_3⟩ := at_T77 HR0.out x3_1 p161 q161
            have hw161_3 := hx161_3
            have hw161_2 := hx161_2
            have hw161_1 := hx161_1
            have hw161_0 := hx161_0
            obtain rfl : ad157 = ad161 := (by injection e161)
            replace hx161_0 := (HB.out.cell (World.block_lt_of_cell? w _ hx161_0)).trans hx161_0
            replace hx161_1 := (HB.out.cell (World.block_lt_of_cell? w _ hx161_1)).trans hx161_1
            replace hx161_2 := (HB.out.cell (World.block_lt_of_cell? w _ hx161_2)).trans hx161_2
            replace hx161_3 := (HB.out.cell (World.block_lt_of_cell? w _ hx161_3)).trans hx161_3
            replace p161 := eq_true p161
            replace q161 := eq_true q161
            have p163 : 0 ≤ ((ji11) : Int) := of_decide_eq_true Hd.a_
            have q163 : (ji11) < (l0.length : Int) := of_decide_eq_true Hd.a_
            obtain ⟨ad163, e163, hx163_0, hx163_1, hx163_2, hx163_3⟩ := at_T77 HR0.out (ji11) p163 q163
            have hw163_3 := hx163_3
            have hw163_2 := hx163_2
            have hw163_1 := hx163_1
            have hw163_0 := hx163_0
            obtain rfl : ad157 = ad163 := (by injection e163)
            replace hx163_0 := (HB.out.cell (World.block_lt_of_cell? w _ hx163_0)).trans hx163_0
            replace hx163_1 := (HB.out.cell (World.block_lt_of_cell? w _ hx163_1)).trans hx163_1
            replace hx163_2 := (HB.out.cell (World.block_lt_of_cell? w _ hx163_2)).trans hx163_2
            replace hx163_3 := (HB.out.cell (World.block_lt_of_cell? w _ hx163_3)).trans hx163_3
            replace p163 := eq_true p163
            replace q163 := eq_true q163
            have p164 : 0 ≤ (x3_1 : Int) := of_decide_eq_true Hd.a_
            have q164 : x3_1 < (l0.length : Int) := of_decide_eq_true Hd.a_
            obtain ⟨ad164, e164, hx164_0, hx164_1, hx164_2, hx164_3⟩ := at_T77 HR0.out x3_1 p164 q164
            have hw164_3 := hx164_3
            have hw164_2 := hx164_2
            have hw164_1 := hx164_1
            have hw164_0 := hx164_0
            obtain rfl : ad157 = ad164 := (by injection e164)
            replace hx164_0 := (HB.out.cell (World.block_lt_of_cell? w _ hx164_0)).trans hx164_0
            replace hx164_1 := (HB.out.cell (World.block_lt_of_cell? w _ hx164_1)).trans hx164_1
            replace hx164_2 := (HB.out.cell (World.block_lt_of_cell? w _ hx164_2)).trans hx164_2
            replace hx164_3 := (HB.out.cell (World.block_lt_of_cell? w _ hx164_3)).trans hx164_3
            replace p164 := eq_true p164
            replace q164 := eq_true q164
            have s0_ := Hd.HW.x (W0 := wr.drew) ((HB.out.cell (World.block_lt_of_cell? w _ hw157_0)).trans hw157_0)
            have s1_ := Hd.HW.x (W0 := wr.drew) ((HB.out.cell (World.block_lt_of_cell? w _ hw157_1)).trans hw157_1)
            have s2_ := Hd.HW.x (W0 := wr.drew) ((HB.out.cell (World.block_lt_of_cell? w _ hw157_2)).trans hw157_2)
            have s3_ := Hd.HW.x (W0 := wr.drew) ((HB.out.cell (World.block_lt_of_cell? w _ hw157_3)).trans hw157_3)
            have s4_ := Hd.HW.x (W0 := wr.drew) ((HB.out.cell (World.block_lt_of_cell? w _ hw159_0)).trans hw159_0)
            have s5_ := Hd.HW.x (W0 := wr.drew) ((HB.out.cell (World.block_lt_of_cell? w _ hw159_1)).trans hw159_1)
            have s6_ := Hd.HW.x (W0 := wr.drew) ((HB.out.cell (World.block_lt_of_cell? w _ hw159_2)).trans hw159_2)
            have s7_ := Hd.HW.x (W0 := wr.drew) ((HB.out.cell (World.block_lt_of_cell? w _ hw159_3)).trans hw159_3)
            have s8_ := Hd.HW.x (W0 := wr.drew) ((HB.out.cell (World.block_lt_of_cell? w _ hw161_0)).trans hw161_0)
            have s9_ := Hd.HW.x (W0 := wr.drew) ((HB.out.cell (World.block_lt_of_cell? w _ hw161_1)).trans hw161_1)
            have s10_ := Hd.HW.x (W0 := wr.drew) ((HB.out.cell (World.block_lt_of_cell? w _ hw161_2)).trans hw161_2)
            have s11_ := Hd.HW.x (W0 := wr.drew) ((HB.out.cell (World.block_lt_of_cell? w _ hw161_3)).trans hw161_3)
            have s12_ := Hd.HW.x (W0 := wr.drew) ((HB.out.cell (World.block_lt_of_cell? w _ hw163_0)).trans hw163_0)
            have s13_ := Hd.HW.x (W0 := wr.drew) ((HB.out.cell (World.block_lt_of_cell? w _ hw163_1)).trans hw163_1)
            have s14_ := Hd.HW.x (W0 := wr.drew) ((HB.out.cell (World.block_lt_of_cell? w _ hw163_2)).trans hw163_2)
            have s15_ := Hd.HW.x (W0 := wr.drew) ((HB.out.cell (World.block_lt_of_cell? w _ hw163_3)).trans hw163_3)
            have s16_ := Hd.HW.x (W0 := wr.drew) ((HB.out.cell (World.block_lt_of_cell? w _ hw164_0)).trans hw164_0)
            have s17_ := Hd.HW.x (W0 := wr.drew) ((HB.out.cell (World.block_lt_of_cell? w _ hw164_1)).trans hw164_1)
            have s18_ := Hd.HW.x (W0 := wr.drew) ((HB.out.cell (World.block_lt_of_cell? w _ hw164_2)).trans hw164_2)
            have s19_ := Hd.HW.x (W0 := wr.drew) ((HB.out.cell (World.block_lt_of_cell? w _ hw164_3)).trans hw164_3)
            refine Hd.HW.region (by kernel_rfl) (by kernel_rfl) ?_
            try dsimp only [List.append]
            repeat (go_big_quiet_step ((first | (go_at_call 82; with_reducible exact Hd.HW.d (spec_l1In.calls ((rd_T77 l0 x3_1).f0) 1 99 true _ A4.out)) | (go_at_call 115; with_reducible exact Hd.HW.c (spec_IsPoint.calls ((rd_T77 l0 x3_1).f1.f0) ((rd_T77 l0 x3_1).f1.f1) true _ A6.out)) | (go_at_call 82; with_reducible exact Hd.HW.d (spec_l1In.calls ((rd_T77 l0 x3_1).f2) 0 9 true _ A8.out)))))
            refine wpQuiet_nil ?_
            intro _ hq_
            obtain ⟨q_, rfl⟩ := hq_
            clear s0_ s1_ s2_ s3_ s4_ s5_ s6_ s7_ s8_ s9_ s10_ s11_ s12_ s13_ s14_ s15_ s16_ s17_ s18_ s19_
            replace HB := Aside0.mk (below_step HB.out q_.b)
            replace hx157_0 := q_.cell hx157_0
            replace hx157_1 := q_.cell hx157_1
            replace hx157_2 := q_.cell hx157_2
            replace hx157_3 := q_.cell hx157_3
            replace hx159_0 := q_.cell hx159_0
            replace hx159_1 := q_.cell hx159_1
            replace hx159_2 := q_.cell hx159_2
            replace hx159_3 := q_.cell hx159_3
            replace hx161_0 := q_.cell hx161_0
            replace hx161_1 := q_.cell hx161_1
            replace hx161_2 := q_.cell hx161_2
            replace hx161_3 := q_.cell hx161_3
            replace hx163_0 := q_.cell hx163_0
            replace hx163_1 := q_.cell hx163_1
            replace hx163_2 := q_.cell hx163_2
            replace hx163_3 := q_.cell hx163_3
            replace hx164_0 := q_.cell hx164_0
            replace hx164_1 := q_.cell hx164_1
            replace hx164_2 := q_.cell hx164_2
            replace hx164_3 := q_.cell hx164_3
            generalize q_.W = w16 at HB hx157_0 hx157_1 hx157_2 hx157_3 hx159_0 hx159_1 hx159_2 hx159_3 hx161_0 hx161_1 hx161_2 hx161_3 hx163_0 hx163_1 hx163_2 hx163_3 hx164_0 hx164_1 hx164_2 hx164_3 ⊢
            try simp only [i64_w, i32_w]
            try go_wp2
            go_ret
            exact ⟨by first | rfl | (simp [errW_none, errW_some] <;> rfl) | (simp only [← hji11]; first | rfl | (simp [errW_none, errW_some] <;> rfl)) | (simp [*, errW_none, errW_some] <;> rfl), Hd.b_⟩
           ·
            rw [if_neg c14] at H
            have c14b0 : decide (((rd_T77 l0 x3_1).f0) ≤ ((rd_T77 l0 (ji11)).f0)) = false := decide_eq_false c14
            clear c14
            have H' := Aside0.mk H
            clear H
            try go_wp2
            replace HB := Aside0.mk (below_drew1 HB.out)
            have p157 : 0 ≤ (x3_1 : Int) := of_decide_eq_true Hd.a_
            have q157 : x3_1 < (l0.length : Int) := of_decide_eq_true Hd.a_
            obtain ⟨ad157, e157, hx157_0, hx157_1, hx157_2, hx157_3⟩ := at_T77 HR0.out x3_1 p157 q157
            have hw157_3 := hx157_3
            have hw157_2 := hx157_2
            have hw157_1 := hx157_1
            have hw157_0 := hx157_0
            cases e157
            replace hx157_0 := (HB.out.cell (World.block_lt_of_cell? w _ hx157_0)).trans hx157_0
            replace hx157_1 := (HB.out.cell (World.block_lt_of_cell? w _ hx157_1)).trans hx157_1
            replace hx157_2 := (HB.out.cell (World.block_lt_of_cell? w _ hx157_2)).trans hx157_2
            replace hx157_3 := (HB.out.cell (World.block_lt_of_cell? w _ hx157_3)).trans hx157_3
            replace p157 := eq_true p157
            replace q157 := eq_true q157
            have p159 : 0 ≤ (x3_1 : Int) := of_decide_eq_true Hd.a_
            have q159 : x3_1 < (l0.length : Int) := of_decide_eq_true Hd.a_
            obtain ⟨ad159, e159, hx159_0, hx159_1, hx159_2, hx159_3⟩ := at_T77 HR0.out x3_1 p159 q159
            have hw159_3 := hx159_3
            have hw159_2 := hx159_2
            have hw159_1 := hx159_1
            have hw159_0 := hx159_0
            obtain rfl : ad157 = ad159 := (by injection e159)
            replace hx159_0 := (HB.out.cell (World.block_lt_of_cell? w _ hx159_0)).trans hx159_0
            replace hx159_1 := (HB.out.cell (World.block_lt_of_cell? w _ hx159_1)).trans hx159_1
            replace hx159_2 := (HB.out.cell (World.block_lt_of_cell? w _ hx159_2)).trans hx159_2
            replace hx159_3 := (HB.out.cell (World.block_lt_of_cell? w _ hx159_3)).trans hx159_3
            replace p159 := eq_true p159
            replace q159 := eq_true q159
            have p161 : 0 ≤ (x3_1 : Int) := of_decide_eq_true Hd.a_
            have q161 : x3_1 < (l0.length : Int) := of_decide_eq_true Hd.a_
            obtain ⟨ad161, e161, hx161_0, hx161_1, hx161_2, hx161_3⟩ := at_T77 HR0.out x3_1 p161 q161
            have hw161_3 := hx161_3
            have hw161_2 := hx161_2
            have hw161_1 := hx161_1
            have hw161_0 := hx161_0
            obtain rfl : ad157 = ad161 := (by injection e161)
            replace hx161_0 := (HB.out.cell (World.block_lt_of_cell? w _ hx161_0)).trans hx161_0
            replace hx161_1 := (HB.out.cell (World.block_lt_of_cell? w _ hx161_1)).trans hx161_1
            replace hx161_2 := (HB.out.cell (World.block_lt_of_cell? w _ hx161_2)).trans hx161_2
            replace hx161_3 := (HB.out.cell (World.block_lt_of_cell? w _ hx161_3)).trans hx161_3
            replace p161 := eq_true p161
            replace q161 := eq_true q161
            have p163 : 0 ≤ ((ji11) : Int) := of_decide_eq_true Hd.a_
            have q163 : (ji11) < (l0.length : Int) := of_decide_eq_true Hd.a_
            obtain ⟨ad163, e163, hx163_0, hx163_1, hx163_2, hx163_3⟩ := at_T77 HR0.out (ji11) p163 q163
            have hw163_3 := hx163_3
            have hw163_2 := hx163_2
            have hw163_1 := hx163_1
            have hw163_0 := hx163_0
            obtain rfl : ad157 = ad163 := (by injection e163)
            replace hx163_0 := (HB.out.cell (World.block_lt_of_cell? w _ hx163_0)).trans hx163_0
            replace hx163_1 := (HB.out.cell (World.block_lt_of_cell? w _ hx163_1)).trans hx163_1
            replace hx163_2 := (HB.out.cell (World.block_lt_of_cell? w _ hx163_2)).trans hx163_2
            replace hx163_3 := (HB.out.cell (World.block_lt_of_cell? w _ hx163_3)).trans hx163_3
            replace p163 := eq_true p163
            replace q163 := eq_true q163
            have p164 : 0 ≤ (x3_1 : Int) := of_decide_eq_true Hd.a_
            have q164 : x3_1 < (l0.length : Int) := of_decide_eq_true Hd.a_
            obtain ⟨ad164, e164, hx164_0, hx164_1, hx164_2, hx164_3⟩ := at_T77 HR0.out x3_1 p164 q164
            have hw164_3 := hx164_3
            have hw164_2 := hx164_2
            have hw164_1 := hx164_1
            have hw164_0 := hx164_0
            obtain rfl : ad157 = ad164 := (by injection e164)
            replace hx164_0 := (HB.out.cell (World.block_lt_of_cell? w _ hx164_0)).trans hx164_0
            replace hx164_1 := (HB.out.cell (World.block_lt_of_cell? w _ hx164_1)).trans hx164_1
            replace hx164_2 := (HB.out.cell (World.block_lt_of_cell? w _ hx164_2)).trans hx164_2
            replace hx164_3 := (HB.out.cell (World.block_lt_of_cell? w _ hx164_3)).trans hx164_3
            replace p164 := eq_true p164
            replace q164 := eq_true q164
            have s0_ := Hd.HW.x (W0 := wr.drew) ((HB.out.cell (World.block_lt_of_cell? w _ hw157_0)).trans hw157_0)
            have s1_ := Hd.HW.x (W0 := wr.drew) ((HB.out.cell (World.block_lt_of_cell? w _ hw157_1)).trans hw157_1)
            have s2_ := Hd.HW.x (W0 := wr.drew) ((HB.out.cell (World.block_lt_of_cell? w _ hw157_2)).trans hw157_2)
            have s3_ := Hd.HW.x (W0 := wr.drew) ((HB.out.cell (World.block_lt_of_cell? w _ hw157_3)).trans hw157_3)
            have s4_ := Hd.HW.x (W0 := wr.drew) ((HB.out.cell (World.block_lt_of_cell? w _ hw159_0)).trans hw159_0)
            have s5_ := Hd.HW.x (W0 := wr.drew) ((HB.out.cell (World.block_lt_of_cell? w _ hw159_1)).trans hw159_1)
            have s6_ := Hd.HW.x (W0 := wr.drew) ((HB.out.cell (World.block_lt_of_cell? w _ hw159_2)).trans hw159_2)
            have s7_ := Hd.HW.x (W0 := wr.drew) ((HB.out.cell (World.block_lt_of_cell? w _ hw159_3)).trans hw159_3)
            have s8_ := Hd.HW.x (W0 := wr.drew) ((HB.out.cell (World.block_lt_of_cell? w _ hw161_0)).trans hw161_0)
            have s9_ := Hd.HW.x (W0 := wr.drew) ((HB.out.cell (World.block_lt_of_cell? w _ hw161_1)).trans hw161_1)
            have s10_ := Hd.HW.x (W0 := wr.drew) ((HB.out.cell (World.block_lt_of_cell? w _ hw161_2)).trans hw161_2)
            have s11_ := Hd.HW.x (W0 := wr.drew) ((HB.out.cell (World.block_lt_of_cell? w _ hw161_3)).trans hw161_3)
            have s12_ := Hd.HW.x (W0 := wr.drew) ((HB.out.cell (World.block_lt_of_cell? w _ hw163_0)).trans hw163_0)
            have s13_ := Hd.HW.x (W0 := wr.drew) ((HB.out.cell (World.block_lt_of_cell? w _ hw163_1)).trans hw163_1)
            have s14_ := Hd.HW.x (W0 := wr.drew) ((HB.out.cell (World.block_lt_of_cell? w _ hw163_2)).trans hw163_2)
            have s15_ := Hd.HW.x (W0 := wr.drew) ((HB.out.cell (World.block_lt_of_cell? w _ hw163_3)).trans hw163_3)
            have s16_ := Hd.HW.x (W0 := wr.drew) ((HB.out.cell (World.block_lt_of_cell? w _ hw164_0)).trans hw164_0)
            have s17_ := Hd.HW.x (W0 := wr.drew) ((HB.out.cell (World.block_lt_of_cell? w _ hw164_1)).trans hw164_1)
            have s18_ := Hd.HW.x (W0 := wr.drew) ((HB.out.cell (World.block_lt_of_cell? w _ hw164_2)).trans hw164_2)
            have s19_ := Hd.HW.x (W0 := wr.drew) ((HB.out.cell (World.block_lt_of_cell? w _ hw164_3)).trans hw164_3)
            refine Hd.HW.region (by kernel_rfl) (by kernel_rfl) ?_
            try dsimp only [List.append]
            repeat (go_big_quiet_step ((first | (go_at_call 82; with_reducible exact Hd.HW.d (spec_l1In.calls ((rd_T77 l0 x3_1).f0) 1 99 true _ A4.out)) | (go_at_call 115; with_reducible exact Hd.HW.c (spec_IsPoint.calls ((rd_T77 l0 x3_1).f1.f0) ((rd_T77 l0 x3_1).f1.f1) true _ A6.out)) | (go_at_call 82; with_reducible exact Hd.HW.d (spec_l1In.calls ((rd_T77 l0 x3_1).f2) 0 9 true _ A8.out)))))
            refine wpQuiet_nil ?_
            intro _ hq_
            obtain ⟨q_, rfl⟩ := hq_
            clear s0_ s1_ s2_ s3_ s4_ s5_ s6_ s7_ s8_ s9_ s10_ s11_ s12_ s13_ s14_ s15_ s16_ s17_ s18_ s19_
            replace HB := Aside0.mk (below_step HB.out q_.b)
            replace hx157_0 := q_.cell hx157_0
            replace hx157_1 := q_.cell hx157_1
            replace hx157_2 := q_.cell hx157_2
            replace hx157_3 := q_.cell hx157_3
            replace hx159_0 := q_.cell hx159_0
            replace hx159_1 := q_.cell hx159_1
            replace hx159_2 := q_.cell hx159_2
            replace hx159_3 := q_.cell hx159_3
            replace hx161_0 := q_.cell hx161_0
            replace hx161_1 := q_.cell hx161_1
            replace hx161_2 := q_.cell hx161_2
            replace hx161_3 := q_.cell hx161_3
            replace hx163_0 := q_.cell hx163_0
            replace hx163_1 := q_.cell hx163_1
            replace hx163_2 := q_.cell hx163_2
            replace hx163_3 := q_.cell hx163_3
            replace hx164_0 := q_.cell hx164_0
            replace hx164_1 := q_.cell hx164_1
            replace hx164_2 := q_.cell hx164_2
            replace hx164_3 := q_.cell hx164_3
            generalize q_.W = w18 at HB hx157_0 hx157_1 hx157_2 hx157_3 hx159_0 hx159_1 hx159_2 hx159_3 hx161_0 hx161_1 hx161_2 hx161_3 hx163_0 hx163_1 hx163_2 hx163_3 hx164_0 hx164_1 hx164_2 hx164_3 ⊢
            try simp only [i64_w, i32_w]
            try go_wp2
            go_roundg k1
            case measure => have := HK1.out; omega
            case rel => exact ⟨(wrap64 (x3_1 + 1)), (by first | rfl | (simp; done) | (simp [*]; done)), H', ⟨by have := HK1.out; omega⟩, ⟨Hd.b_⟩⟩
          ·
           rw [if_neg c13] at H
           exact absurd H (by simp)
         ·
          rw [if_neg c12] at H
          exact absurd H (by simp)
        ·
         rw [if_neg c10] at H
         have c10b0 : decide (0 < x3_1) = false := decide_eq_false c10
         clear c10
         have H' := Aside0.mk H
         clear H
         try go_wp2
         replace HB := Aside0.mk (below_drew1 HB.out)
         have p157 : 0 ≤ (x3_1 : Int) := of_decide_eq_true Hd.a_
         have q157 : x3_1 < (l0.length : Int) := of_decide_eq_true Hd.a_
         obtain ⟨ad157, e157, hx157_0, hx157_1, hx157_2, hx157_3⟩ := at_T77 HR0.out x3_1 p157 q157
         have hw157_3 := hx157_3
         have hw157_2 := hx157_2
         have hw157_1 := hx157_1
         have hw157_0 := hx157_0
         cases e157
         replace hx157_0 := (HB.out.cell (World.block_lt_of_cell? w _ hx157_0)).trans hx157_0
         replace hx157_1 := (HB.out.cell (World.block_lt_of_cell? w _ hx157_1)).trans hx157_1
         replace hx157_2 := (HB.out.cell (World.block_lt_of_cell? w _ hx157_2)).trans hx157_2
         replace hx157_3 := (HB.out.cell (World.block_lt_of_cell? w _ hx157_3)).trans hx157_3
         replace p157 := eq_true p157
         replace q157 := eq_true q157
         have p159 : 0 ≤ (x3_1 : Int) := of_decide_eq_true Hd.a_
         have q159 : x3_1 < (l0.length : Int) := of_decide_eq_true Hd.a_
         obtain ⟨ad159, e159, hx159_0, hx159_1, hx159_2, hx159_3⟩ := at_T77 HR0.out x3_1 p159 q159
         have hw159_3 := hx159_3
         have hw159_2 := hx159_2
         have hw159_1 := hx159_1
         have hw159_0 := hx159_0
         obtain rfl : ad157 = ad159 := (by injection e159)
         replace hx159_0 := (HB.out.cell (World.block_lt_of_cell? w _ hx159_0)).trans hx159_0
         replace hx159_1 := (HB.out.cell (World.block_lt_of_cell? w _ hx159_1)).trans hx159_1
         replace hx159_2 := (HB.out.cell (World.block_lt_of_cell? w _ hx159_2)).trans hx159_2
         replace hx159_3 := (HB.out.cell (World.block_lt_of_cell? w _ hx159_3)).trans hx159_3
         replace p159 := eq_true p159
         replace q159 := eq_true q159
         have p161 : 0 ≤ (x3_1 : Int) := of_decide_eq_true Hd.a_
         have q161 : x3_1 < (l0.length : Int) := of_decide_eq_true Hd.a_
         obtain ⟨ad161, e161, hx161_0, hx161_1, hx161_2, hx161_3⟩ := at_T77 HR0.out x3_1 p161 q161
         have hw161_3 := hx161_3
         have hw161_2 := hx161_2
         have hw161_1 := hx161_1
         have hw161_0 := hx161_0
         obtain rfl : ad157 = ad161 := (by injection e161)
         replace hx161_0 := (HB.out.cell (World.block_lt_of_cell? w _ hx161_0)).trans hx161_0
         replace hx161_1 := (HB.out.cell (World.block_lt_of_cell? w _ hx161_1)).trans hx161_1
         replace hx161_2 := (HB.out.cell (World.block_lt_of_cell? w _ hx161_2)).trans hx161_2
         replace hx161_3 := (HB.out.cell (World.block_lt_of_cell? w _ hx161_3)).trans hx161_3
         replace p161 := eq_true p161
         replace q161 := eq_true q161
         have s0_ := Hd.HW.x (W0 := wr.drew) ((HB.out.cell (World.block_lt_of_cell? w _ hw157_0)).trans hw157_0)
         have s1_ := Hd.HW.x (W0 := wr.drew) ((HB.out.cell (World.block_lt_of_cell? w _ hw157_1)).trans hw157_1)
         have s2_ := Hd.HW.x (W0 := wr.drew) ((HB.out.cell (World.block_lt_of_cell? w _ hw157_2)).trans hw157_2)
         have s3_ := Hd.HW.x (W0 := wr.drew) ((HB.out.cell (World.block_lt_of_cell? w _ hw157_3)).trans hw157_3)
         have s4_ := Hd.HW.x (W0 := wr.drew) ((HB.out.cell (World.block_lt_of_cell? w _ hw159_0)).trans hw159_0)
         have s5_ := Hd.HW.x (W0 := wr.drew) ((HB.out.cell (World.block_lt_of_cell? w _ hw159_1)).trans hw159_1)
         have s6_ := Hd.HW.x (W0 := wr.drew) ((HB.out.cell (World.block_lt_of_cell? w _ hw159_2)).trans hw159_2)
         have s7_ := Hd.HW.x (W0 := wr.drew) ((HB.out.cell (World.block_lt_of_cell? w _ hw159_3)).trans hw159_3)
         have s8_ := Hd.HW.x (W0 := wr.drew) ((HB.out.cell (World.block_lt_of_cell? w _ hw161_0)).trans hw161_0)
         have s9_ := Hd.HW.x (W0 := wr.drew) ((HB.out.cell (World.block_lt_of_cell? w _ hw161_1)).trans hw161_1)
         have s10_ := Hd.HW.x (W0 := wr.drew) ((HB.out.cell (World.block_lt_of_cell? w _ hw161_2)).trans hw161_2)
         have s11_ := Hd.HW.x (W0 := wr.drew) ((HB.out.cell (World.block_lt_of_cell? w _ hw161_3)).trans hw161_3)
         refine Hd.HW.region (by kernel_rfl) (by kernel_rfl) ?_
         try dsimp only [List.append]
         repeat (go_big_quiet_step ((first | (go_at_call 82; with_reducible exact Hd.HW.d (spec_l1In.calls ((rd_T77 l0 x3_1).f0) 1 99 true _ A4.out)) | (go_at_call 115; with_reducible exact Hd.HW.c (spec_IsPoint.calls ((rd_T77 l0 x3_1).f1.f0) ((rd_T77 l0 x3_1).f1.f1) true _ A6.out)) | (go_at_call 82; with_reducible exact Hd.HW.d (spec_l1In.calls ((rd_T77 l0 x3_1).f2) 0 9 true _ A8.out)))))
         refine wpQuiet_nil ?_
         intro _ hq_
         obtain ⟨q_, rfl⟩ := hq_
         clear s0_ s1_ s2_ s3_ s4_ s5_ s6_ s7_ s8_ s9_ s10_ s11_
         replace HB := Aside0.mk (below_step HB.out q_.b)
         replace hx157_0 := q_.cell hx157_0
         replace hx157_1 := q_.cell hx157_1
         replace hx157_2 := q_.cell hx157_2
         replace hx157_3 := q_.cell hx157_3
         replace hx159_0 := q_.cell hx159_0
         replace hx159_1 := q_.cell hx159_1
         replace hx159_2 := q_.cell hx159_2
         replace hx159_3 := q_.cell hx159_3
         replace hx161_0 := q_.cell hx161_0
         replace hx161_1 := q_.cell hx161_1
         replace hx161_2 := q_.cell hx161_2
         replace hx161_3 := q_.cell hx161_3
         generalize q_.W = w20 at HB hx157_0 hx157_1 hx157_2 hx157_3 hx159_0 hx159_1 hx159_2 hx159_3 hx161_0 hx161_1 hx161_2 hx161_3 ⊢
         try simp only [i64_w, i32_w]
         try go_wp2
         go_roundg k1
         case measure => have := HK1.out; omega
         case rel => exact ⟨(wrap64 (x3_1 + 1)), (by first | rfl | (simp; done) | (simp [*]; done)), H', ⟨by have := HK1.out; omega⟩, ⟨Hd.b_⟩⟩
       ·
        replace c9 := Bool.eq_false_iff.mpr c9
        subst c9
        have H1 : (some false) = some r := by rw [if_neg (show ¬ (false = true) by decide)] at H; exact H
        clear H
        have H := H1
        clear H1
        obtain rfl := Option.some.inj H
        try go_wp2
        replace HB := Aside0.mk (below_drew1 HB.out)
        have p157 : 0 ≤ (x3_1 : Int) := of_decide_eq_true Hd.a_
        have q157 : x3_1 < (l0.length : Int) := of_decide_eq_true Hd.a_
        obtain ⟨ad157, e157, hx157_0, hx157_1, hx157_2, hx157_3⟩ := at_T77 HR0.out x3_1 p157 q157
        have hw157_3 := hx157_3
        have hw157_2 := hx157_2
        have hw157_1 := hx157_1
        have hw157_0 := hx157_0
        cases e157
        replace hx157_0 := (HB.out.cell (World.block_lt_of_cell? w _ hx157_0)).trans hx157_0
        replace hx157_1 := (HB.out.cell (World.block_lt_of_cell? w _ hx157_1)).trans hx157_1
        replace hx157_2 := (HB.out.cell (World.block_lt_of_cell? w _ hx157_2)).trans hx157_2
        replace hx157_3 := (HB.out.cell (World.block_lt_of_cell? w _ hx157_3)).trans hx157_3
        replace p157 := eq_true p157
        replace q157 := eq_true q157
        have p159 : 0 ≤ (x3_1 : Int) := of_decide_eq_true Hd.a_
        have q159 : x3_1 < (l0.length : Int) := of_decide_eq_true Hd.a_
        obtain ⟨ad159, e159, hx159_0, hx159_1, hx159_2, hx159_3⟩ := at_T77 HR0.out x3_1 p159 q159
        have hw159_3 := hx159_3
        have hw159_2 := hx159_2
        have hw159_1 := hx159_1
        have hw159_0 := hx159_0
        obtain rfl : ad157 = ad159 := (by injection e159)
        replace hx159_0 := (HB.out.cell (World.block_lt_of_cell? w _ hx159_0)).trans hx159_0
        replace hx159_1 := (HB.out.cell (World.block_lt_of_cell? w _ hx159_1)).trans hx159_1
        replace hx159_2 := (HB.out.cell (World.block_lt_of_cell? w _ hx159_2)).trans hx159_2
        replace hx159_3 := (HB.out.cell (World.block_lt_of_cell? w _ hx159_3)).trans hx159_3
        replace p159 := eq_true p159
        replace q159 := eq_true q159
        have p161 : 0 ≤ (x3_1 : Int) := of_decide_eq_true Hd.a_
        have q161 : x3_1 < (l0.length : Int) := of_decide_eq_true Hd.a_
        obtain ⟨ad161, e161, hx161_0, hx161_1, hx161_2, hx161_3⟩ := at_T77 HR0.out x3_1 p161 q161
        have hw161_3 := hx161_3
        have hw161_2 := hx161_2
        have hw161_1 := hx161_1
        have hw161_0 := hx161_0
        obtain rfl : ad157 = ad161 := (by injection e161)
        replace hx161_0 := (HB.out.cell (World.block_lt_of_cell? w _ hx161_0)).trans hx161_0
        replace hx161_1 := (HB.out.cell (World.block_lt_of_cell? w _ hx161_1)).trans hx161_1
        replace hx161_2 := (HB.out.cell (World.block_lt_of_cell? w _ hx161_2)).trans hx161_2
        replace hx161_3 := (HB.out.cell (World.block_lt_of_cell? w _ hx161_3)).trans hx161_3
        replace p161 := eq_true p161
        replace q161 := eq_true q161
        have s0_ := Hd.HW.x (W0 := wr.drew) ((HB.out.cell (World.block_lt_of_cell? w _ hw157_0)).trans hw157_0)
        have s1_ := Hd.HW.x (W0 := wr.drew) ((HB.out.cell (World.block_lt_of_cell? w _ hw157_1)).trans hw157_1)
        have s2_ := Hd.HW.x (W0 := wr.drew) ((HB.out.cell (World.block_lt_of_cell? w _ hw157_2)).trans hw157_2)
        have s3_ := Hd.HW.x (W0 := wr.drew) ((HB.out.cell (World.block_lt_of_cell? w _ hw157_3)).trans hw157_3)
        have s4_ := Hd.HW.x (W0 := wr.drew) ((HB.out.cell (World.block_lt_of_cell? w _ hw159_0)).trans hw159_0)
        have s5_ := Hd.HW.x (W0 := wr.drew) ((HB.out.cell (World.block_lt_of_cell? w _ hw159_1)).trans hw159_1)
        have s6_ := Hd.HW.x (W0 := wr.drew) ((HB.out.cell (World.block_lt_of_cell? w _ hw159_2)).trans hw159_2)
        have s7_ := Hd.HW.x (W0 := wr.drew) ((HB.out.cell (World.block_lt_of_cell? w _ hw159_3)).trans hw159_3)
        have s8_ := Hd.HW.x (W0 := wr.drew) ((HB.out.cell (World.block_lt_of_cell? w _ hw161_0)).trans hw161_0)
        have s9_ := Hd.HW.x (W0 := wr.drew) ((HB.out.cell (World.block_lt_of_cell? w _ hw161_1)).trans hw161_1)
        have s10_ := Hd.HW.x (W0 := wr.drew) ((HB.out.cell (World.block_lt_of_cell? w _ hw161_2)).trans hw161_2)
        have s11_ := Hd.HW.x (W0 := wr.drew) ((HB.out.cell (World.block_lt_of_cell? w _ hw161_3)).trans hw161_3)
        refine Hd.HW.region (by kernel_rfl) (by kernel_rfl) ?_
        try dsimp only [List.append]
        repeat (go_big_quiet_step ((first | (go_at_call 82; with_reducible exact Hd.HW.d (spec_l1In.calls ((rd_T77 l0 x3_1).f0) 1 99 true _ A4.out)) | (go_at_call 115; with_reducible exact Hd.HW.c (spec_IsPoint.calls ((rd_T77 l0 x3_1).f1.f0) ((rd_T77 l0 x3_1).f1.f1) true _ A6.out)) | (go_at_call 82; with_reducible exact Hd.HW.d (spec_l1In.calls ((rd_T77 l0 x3_1).f2) 0 9 false _ A8.out)))))
        refine wpQuiet_nil ?_
        intro _ hq_
        obtain ⟨q_, rfl⟩ := hq_
        clear s0_ s1_ s2_ s3_ s4_ s5_ s6_ s7_ s8_ s9_ s10_ s11_
        replace HB := Aside0.mk (below_step HB.out q_.b)
        replace hx157_0 := q_.cell hx157_0
        replace hx157_1 := q_.cell hx157_1
        replace hx157_2 := q_.cell hx157_2
        replace hx157_3 := q_.cell hx157_3
        replace hx159_0 := q_.cell hx159_0
        replace hx159_1 := q_.cell hx159_1
        replace hx159_2 := q_.cell hx159_2
        replace hx159_3 := q_.cell hx159_3
        replace hx161_0 := q_.cell hx161_0
        replace hx161_1 := q_.cell hx161_1
        replace hx161_2 := q_.cell hx161_2
        replace hx161_3 := q_.cell hx161_3
        generalize q_.W = w22 at HB hx157_0 hx157_1 hx157_2 hx157_3 hx159_0 hx159_1 hx159_2 hx159_3 hx161_0 hx161_1 hx161_2 hx161_3 ⊢
        try simp only [i64_w, i32_w]
        try go_wp2
        go_ret
        exact ⟨Hd.e_, Hd.b_⟩
      ·
       replace c7 := Bool.eq_false_iff.mpr c7
       subst c7
       have H1 : (some false) = some r := by rw [if_neg (show ¬ (false = true) by decide)] at H; exact H
       clear H
       have H := H1
       clear H1
       obtain rfl := Option.some.inj H
       try go_wp2
       replace HB := Aside0.mk (below_drew1 HB.out)
       have p157 : 0 ≤ (x3_1 : Int) := of_decide_eq_true Hd.a_
       have q157 : x3_1 < (l0.length : Int) := of_decide_eq_true Hd.a_
       obtain ⟨ad157, e157, hx157_0, hx157_1, hx157_2, hx157_3⟩ := at_T77 HR0.out x3_1 p157 q157
       have hw157_3 := hx157_3
       have hw157_2 := hx157_2
       have hw157_1 := hx157_1
       have hw157_0 := hx157_0
       cases e157
       replace hx157_0 := (HB.out.cell (World.block_lt_of_cell? w _ hx157_0)).trans hx157_0
       replace hx157_1 := (HB.out.cell (World.block_lt_of_cell? w _ hx157_1)).trans hx157_1
       replace hx157_2 := (HB.out.cell (World.block_lt_of_cell? w _ hx157_2)).trans hx157_2
       replace hx157_3 := (HB.out.cell (World.block_lt_of_cell? w _ hx157_3)).trans hx157_3
       replace p157 := eq_true p157
       replace q157 := eq_true q157
       have p159 : 0 ≤ (x3_1 : Int) := of_decide_eq_true Hd.a_
       have q159 : x3_1 < (l0.length : Int) := of_decide_eq_true Hd.a_
       obtain ⟨ad159, e159, hx159_0, hx159_1, hx159_2, hx159_3⟩ := at_T77 HR0.out x3_1 p159 q159
       have hw159_3 := hx159_3
       have hw159_2 := hx159_2
       have hw159_1 := hx159_1
       have hw159_0 := hx159_0
       obtain rfl : ad157 = ad159 := (by injection e159)
       replace hx159_0 := (HB.out.cell (World.block_lt_of_cell? w _ hx159_0)).trans hx159_0
       replace hx159_1 := (HB.out.cell (World.block_lt_of_cell? w _ hx159_1)).trans hx159_1
       replace hx159_2 := (HB.out.cell (World.block_lt_of_cell? w _ hx159_2)).trans hx159_2
       replace hx159_3 := (HB.out.cell (World.block_lt_of_cell? w _ hx159_3)).trans hx159_3
       replace p159 := eq_true p159
       replace q159 := eq_true q159
       have s0_ := Hd.HW.x (W0 := wr.drew) ((HB.out.cell (World.block_lt_of_cell? w _ hw157_0)).trans hw157_0)
       have s1_ := Hd.HW.x (W0 := wr.drew) ((HB.out.cell (World.block_lt_of_cell? w _ hw157_1)).trans hw157_1)
       have s2_ := Hd.HW.x (W0 := wr.drew) ((HB.out.cell (World.block_lt_of_cell? w _ hw157_2)).trans hw157_2)
       have s3_ := Hd.HW.x (W0 := wr.drew) ((HB.out.cell (World.block_lt_of_cell? w _ hw157_3)).trans hw157_3)
       have s4_ := Hd.HW.x (W0 := wr.drew) ((HB.out.cell (World.block_lt_of_cell? w _ hw159_0)).trans hw159_0)
       have s5_ := Hd.HW.x (W0 := wr.drew) ((HB.out.cell (World.block_lt_of_cell? w _ hw159_1)).trans hw159_1)
       have s6_ := Hd.HW.x (W0 := wr.drew) ((HB.out.cell (World.block_lt_of_cell? w _ hw159_2)).trans hw159_2)
       have s7_ := Hd.HW.x (W0 := wr.drew) ((HB.out.cell (World.block_lt_of_cell? w _ hw159_3)).trans hw159_3)
       refine Hd.HW.region (by kernel_rfl) (by kernel_rfl) ?_
       try dsimp only [List.append]
       repeat (go_big_quiet_step ((first | (go_at_call 82; with_reducible exact Hd.HW.d (spec_l1In.calls ((rd_T77 l0 x3_1).f0) 1 99 true _ A4.out)) | (go_at_call 115; with_reducible exact Hd.HW.c (spec_IsPoint.calls ((rd_T77 l0 x3_1).f1.f0) ((rd_T77 l0 x3_1).f1.f1) false _ A6.out)))))
       refine wpQuiet_nil ?_
       intro _ hq_
       obtain ⟨q_, rfl⟩ := hq_
       clear s0_ s1_ s2_ s3_ s4_ s5_ s6_ s7_
       replace HB := Aside0.mk (below_step HB.out q_.b)
       replace hx157_0 := q_.cell hx157_0
       replace hx157_1 := q_.cell hx157_1
       replace hx157_2 := q_.cell hx157_2
       replace hx157_3 := q_.cell hx157_3
       replace hx159_0 := q_.cell hx159_0
       replace hx159_1 := q_.cell hx159_1
       replace hx159_2 := q_.cell hx159_2
       replace hx159_3 := q_.cell hx159_3
       generalize q_.W = w24 at HB hx157_0 hx157_1 hx157_2 hx157_3 hx159_0 hx159_1 hx159_2 hx159_3 ⊢
       try simp only [i64_w, i32_w]
       try go_wp2
       go_ret
       exact ⟨Hd.e_, Hd.b_⟩
     ·
      replace c5 := Bool.eq_false_iff.mpr c5
      subst c5
      have H1 : (some false) = some r := by rw [if_neg (show ¬ (false = true) by decide)] at H; exact H
      clear H
      have H := H1
      clear H1
      obtain rfl := Option.some.inj H
      try go_wp2
      replace HB := Aside0.mk (below_drew1 HB.out)
      have p157 : 0 ≤ (x3_1 : Int) := of_decide_eq_true Hd.a_
      have q157 : x3_1 < (l0.length : Int) := of_decide_eq_true Hd.a_
      obtain ⟨ad157, e157, hx157_0, hx157_1, hx157_2, hx157_3⟩ := at_T77 HR0.out x3_1 p157 q157
      have hw157_3 := hx157_3
      have hw157_2 := hx157_2
      have hw157_1 := hx157_1
      have hw157_0 := hx157_0
      cases e157
      replace hx157_0 := (HB.out.cell (World.block_lt_of_cell? w _ hx157_0)).trans hx157_0
      replace hx157_1 := (HB.out.cell (World.block_lt_of_cell? w _ hx157_1)).trans hx157_1
      replace hx157_2 := (HB.out.cell (World.block_lt_of_cell? w _ hx157_2)).trans hx157_2
      replace hx157_3 := (HB.out.cell (World.block_lt_of_cell? w _ hx157_3)).trans hx157_3
      replace p157 := eq_true p157
      replace q157 := eq_true q157
      have s0_ := Hd.HW.x (W0 := wr.drew) ((HB.out.cell (World.block_lt_of_cell? w _ hw157_0)).trans hw157_0)
      have s1_ := Hd.HW.x (W0 := wr.drew) ((HB.out.cell (World.block_lt_of_cell? w _ hw157_1)).trans hw157_1)
      have s2_ := Hd.HW.x (W0 := wr.drew) ((HB.out.cell (World.block_lt_of_cell? w _ hw157_2)).trans hw157_2)
      have s3_ := Hd.HW.x (W0 := wr.drew) ((HB.out.cell (World.block_lt_of_cell? w _ hw157_3)).trans hw157_3)
      refine Hd.HW.region (by kernel_rfl) (by kernel_rfl) ?_
      try dsimp only [List.append]
      repeat (go_big_quiet_step ((first | (go_at_call 82; with_reducible exact Hd.HW.d (spec_l1In.calls ((rd_T77 l0 x3_1).f0) 1 99 false _ A4.out)))))
      refine wpQuiet_nil ?_
      intro _ hq_
      obtain ⟨q_, rfl⟩ := hq_
      clear s0_ s1_ s2_ s3_
      replace HB := Aside0.mk (below_step HB.out q_.b)
      replace hx157_0 := q_.cell hx157_0
      replace hx157_1 := q_.cell hx157_1
      replace hx157_2 := q_.cell hx157_2
      replace hx157_3 := q_.cell hx157_3
      generalize q_.W = w25 at HB hx157_0 hx157_1 hx157_2 hx157_3 ⊢
      try simp only [i64_w, i32_w]
      try go_wp2
      go_ret
      exact ⟨Hd.e_, Hd.b_⟩
    ·
     rw [if_neg c3] at H
     exact absurd H (by simp)
   ·
    rw [if_neg c2] at H
    have c2b0 : decide (x3_1 < (l0.length : Int)) = false := decide_eq_false c2
    clear c2
    obtain rfl := Option.some.inj H
    go_wp2
    go_ret
    exact ⟨Hd.e_, Hd.b_⟩
def spec_IsAbove.f (a0_0 : Int) (a0_1 : Int) (a0_2 : Int) (a0_3 : Int) (a1_0 : Int) (a1_1 : Int) (a1_2 : Int) (a1_3 : Int) : Option (Bool) := if a0_3 > a1_3 then (some true) else (if a0_3 = a1_3 then (some (decide (a0_0 < a1_0))) else (some false))
set_option maxHeartbeats 8000000 in
set_option maxRecDepth 100000 in
theorem spec_IsAbove.calls (a0_0 : Int) (a0_1 : Int) (a0_2 : Int) (a0_3 : Int) (a1_0 : Int) (a1_1 : Int) (a1_2 : Int) (a1_3 : Int) (r : Bool) (w : World) (h : spec_IsAbove.f a0_0 a0_1 a0_2 a0_3 a1_0 a1_1 a1_2 a1_3 = some r) :
  Calls Try.prog 85 #[.agg #[.int .i64 a0_0, .int .i64 a0_1, .int .i64 a0_2, .int .i64 a0_3], .agg #[.int .i64 a1_0, .int .i64 a1_1, .int .i64 a1_2, .int .i64 a1_3]] w fun e w' => e = .returned (.bool r) ∧ Below w.heap.size w w' := by
 have hu77 := Try.underlying77
 have HB := Aside0.mk (Below.refl w.heap.size w)
 have H : (if a0_3 > a1_3 then (some true) else (if a0_3 = a1_3 then (some (decide (a0_0 < a1_0))) else (some false))) = some r := h
 clear h
 by_cases c3 : a0_3 > a1_3
 ·
  rw [if_pos c3] at H
  have c3b0 : decide (a1_3 < a0_3) = true := decide_eq_true c3
  clear c3
  obtain rfl := Option.some.inj H
  go_enter Try.func85, Try.ntmps85
  go_wp2_with (first | ((with_reducible refine gate_dst (N := 2) rfl ?_); refine Hd.box_ 2 (#[.int .i64 a0_0, .int .i64 a0_1, .int .i64 a0_2, .int .i64 a0_3]) 77 ?_; intro gb165 hg w4 hbox hb; have BK165 := Aside0.mk (hbox); have GW165 := Aside0.mk ((Hd.g_ hg Hd.b_ : w.heap.size ≤ gb165)); have GE165 := Aside0.mk ((Hd.g_ hg Hd.b_ : w.heap.size ≤ gb165)); replace HB := Aside0.mk (below_step Hd.b_ hb); clear hb hbox hg) | ((with_reducible refine gate_dst (N := 3) rfl ?_); refine Hd.box_ 3 (#[.int .i64 a1_0, .int .i64 a1_1, .int .i64 a1_2, .int .i64 a1_3]) 77 ?_; intro gb166 hg w5 hbox hb; have BK166 := Aside0.mk (hbox); have GW166 := Aside0.mk ((Hd.g_ hg Hd.b_ : w.heap.size ≤ gb166)); have GE166 := Aside0.mk ((Hd.g_ hg Hd.b_ : w.heap.size ≤ gb166)); replace HB := Aside0.mk (below_step Hd.b_ hb); have NB165_166 := Aside0.mk ((Hd.lt_ BK165 hg)); have NB166_165 := Aside0.mk ((Hd.gt_ BK165 hg)); replace BK165 := Aside0.mk (Hd.kb_ BK165 hb); clear hb hbox hg; have hnb6 := NB165_166.out; have hnc6 := NB166_165.out; obtain ⟨hcz7_0, hcz7_1, hcz7_2, hcz7_3⟩ := Hd.c4_ BK165.out; obtain ⟨hfz7_0, hfz7_1, hfz7_2, hfz7_3⟩ := Hd.f4_ BK165.out; obtain ⟨hcz8_0, hcz8_1, hcz8_2, hcz8_3⟩ := Hd.c4_ BK166.out; obtain ⟨hfz8_0, hfz8_1, hfz8_2, hfz8_3⟩ := Hd.f4_ BK166.out))
  go_ret
  exact ⟨Hd.e_, Hd.b_⟩
 ·
  rw [if_neg c3] at H
  have c3b0 : decide (a1_3 < a0_3) = false := decide_eq_false c3
  clear c3
  by_cases c9 : a0_3 = a1_3
  ·
   rw [if_pos c9] at H
   have c9b0 : (a0_3 == a1_3) = true := beq_iff_eq.mpr c9
   have c9b1 : (a0_3 != a1_3) = false := bne_eq_false_iff_eq.mpr c9
   clear c9
   obtain rfl := Option.some.inj H
   go_enter Try.func85, Try.ntmps85
   go_wp2_with (first | ((with_reducible refine gate_dst (N := 2) rfl ?_); refine Hd.box_ 2 (#[.int .i64 a0_0, .int .i64 a0_1, .int .i64 a0_2, .int .i64 a0_3]) 77 ?_; intro gb165 hg w10 hbox hb; have BK165 := Aside0.mk (hbox); have GW165 := Aside0.mk ((Hd.g_ hg Hd.b_ : w.heap.size ≤ gb165)); have GE165 := Aside0.mk ((Hd.g_ hg Hd.b_ : w.heap.size ≤ gb165)); replace HB := Aside0.mk (below_step Hd.b_ hb); clear hb hbox hg) | ((with_reducible refine gate_dst (N := 3) rfl ?_); refine Hd.box_ 3 (#[.int .i64 a1_0, .int .i64 a1_1, .int .i64 a1_2, .int .i64 a1_3]) 77 ?_; intro gb166 hg w11 hbox hb; have BK166 := Aside0.mk (hbox); have GW166 := Aside0.mk ((Hd.g_ hg Hd.b_ : w.heap.size ≤ gb166)); have GE166 := Aside0.mk ((Hd.g_ hg Hd.b_ : w.heap.size ≤ gb166)); replace HB := Aside0.mk (below_step Hd.b_ hb); have NB165_166 := Aside0.mk ((Hd.lt_ BK165 hg)); have NB166_165 := Aside0.mk ((Hd.gt_ BK165 hg)); replace BK165 := Aside0.mk (Hd.kb_ BK165 hb); clear hb hbox hg; have hnb12 := NB165_166.out; have hnc12 := NB166_165.out; obtain ⟨hcz13_0, hcz13_1, hcz13_2, hcz13_3⟩ := Hd.c4_ BK165.out; obtain ⟨hfz13_0, hfz13_1, hfz13_2, hfz13_3⟩ := Hd.f4_ BK165.out; obtain ⟨hcz14_0, hcz14_1, hcz14_2, hcz14_3⟩ := Hd.c4_ BK166.out; obtain ⟨hfz14_0, hfz14_1, hfz14_2, hfz14_3⟩ := Hd.f4_ BK166.out))
   go_ret
   exact ⟨Hd.e_, Hd.b_⟩
  ·
   rw [if_neg c9] at H
   have c9b0 : (a0_3 == a1_3) = false := beq_eq_false_iff_ne.mpr c9
   have c9b1 : (a0_3 != a1_3) = true := bne_iff_ne.mpr c9
   obtain rfl := Option.some.inj H
   go_enter Try.func85, Try.ntmps85
   go_wp2_with (first | ((with_reducible refine gate_dst (N := 2) rfl ?_); refine Hd.box_ 2 (#[.int .i64 a0_0, .int .i64 a0_1, .int .i64 a0_2, .int .i64 a0_3]) 77 ?_; intro gb165 hg w15 hbox hb; have BK165 := Aside0.mk (hbox); have GW165 := Aside0.mk ((Hd.g_ hg Hd.b_ : w.heap.size ≤ gb165)); have GE165 := Aside0.mk ((Hd.g_ hg Hd.b_ : w.heap.size ≤ gb165)); replace HB := Aside0.mk (below_step Hd.b_ hb); clear hb hbox hg) | ((with_reducible refine gate_dst (N := 3) rfl ?_); refine Hd.box_ 3 (#[.int .i64 a1_0, .int .i64 a1_1, .int .i64 a1_2, .int .i64 a1_3]) 77 ?_; intro gb166 hg w16 hbox hb; have BK166 := Aside0.mk (hbox); have GW166 := Aside0.mk ((Hd.g_ hg Hd.b_ : w.heap.size ≤ gb166)); have GE166 := Aside0.mk ((Hd.g_ hg Hd.b_ : w.heap.size ≤ gb166)); replace HB := Aside0.mk (below_step Hd.b_ hb); have NB165_166 := Aside0.mk ((Hd.lt_ BK165 hg)); have NB166_165 := Aside0.mk ((Hd.gt_ BK165 hg)); replace BK165 := Aside0.mk (Hd.kb_ BK165 hb); clear hb hbox hg; have hnb17 := NB165_166.out; have hnc17 := NB166_165.out; obtain ⟨hcz18_0, hcz18_1, hcz18_2, hcz18_3⟩ := Hd.c4_ BK165.out; obtain ⟨hfz18_0, hfz18_1, hfz18_2, hfz18_3⟩ := Hd.f4_ BK165.out; obtain ⟨hcz19_0, hcz19_1, hcz19_2, hcz19_3⟩ := Hd.c4_ BK166.out; obtain ⟨hfz19_0, hfz19_1, hfz19_2, hfz19_3⟩ := Hd.f4_ BK166.out))
   go_ret
   exact ⟨Hd.e_, Hd.b_⟩
def spec_FarSquared.f (a0_0 : Int) (a0_1 : Int) (a1_0 : Int) (a1_1 : Int) : Option (Int) := (spec_IsPoint.f a0_0 a0_1).bind fun t169 => (if t169 = true then ((spec_IsPoint.f a1_0 a1_1).bind fun t170 => (if t170 = true then (some (wrap64 ((wrap64 ((wrap64 (a0_0 - a1_0)) * (wrap64 (a0_0 - a1_0)))) + (wrap64 ((wrap64 (a0_1 - a1_1)) * (wrap64 (a0_1 - a1_1))))))) else (some (-1)))) else (some (-1)))
set_option maxHeartbeats 8000000 in
set_option maxRecDepth 100000 in
theorem spec_FarSquared.calls (a0_0 : Int) (a0_1 : Int) (a1_0 : Int) (a1_1 : Int) (r : Int) (w : World) (h : spec_FarSquared.f a0_0 a0_1 a1_0 a1_1 = some r) :
  Calls Try.prog 86 #[.agg #[.int .i64 a0_0, .int .i64 a0_1], .agg #[.int .i64 a1_0, .int .i64 a1_1]] w fun e w' => e = .returned (.int .i64 r) ∧ Below w.heap.size w w' := by
 have hu75 := Try.underlying75
 have HB := Aside0.mk (Below.refl w.heap.size w)
 have H : ((spec_IsPoint.f a0_0 a0_1).bind fun t169 => (if t169 = true then ((spec_IsPoint.f a1_0 a1_1).bind fun t170 => (if t170 = true then (some (wrap64 ((wrap64 ((wrap64 (a0_0 - a1_0)) * (wrap64 (a0_0 - a1_0)))) + (wrap64 ((wrap64 (a0_1 - a1_1)) * (wrap64 (a0_1 - a1_1))))))) else (some (-1)))) else (some (-1)))) = some r := h
 clear h
 replace H := Option.bind_eq_some_iff.mp H
 obtain ⟨t169, A30, H⟩ := H
 replace H : (if t169 = true then ((spec_IsPoint.f a1_0 a1_1).bind fun t170 => (if t170 = true then (some (wrap64 ((wrap64 ((wrap64 (a0_0 - a1_0)) * (wrap64 (a0_0 - a1_0)))) + (wrap64 ((wrap64 (a0_1 - a1_1)) * (wrap64 (a0_1 - a1_1))))))) else (some (-1)))) else (some (-1))) = some r := H
 have A3 := Aside0.mk A30
 clear A30
 by_cases c4 : t169 = true
 ·
  subst c4
  have H1 : ((spec_IsPoint.f a1_0 a1_1).bind fun t170 => (if t170 = true then (some (wrap64 ((wrap64 ((wrap64 (a0_0 - a1_0)) * (wrap64 (a0_0 - a1_0)))) + (wrap64 ((wrap64 (a0_1 - a1_1)) * (wrap64 (a0_1 - a1_1))))))) else (some (-1)))) = some r := by rw [if_pos rfl] at H; exact H
  clear H
  have H := H1
  clear H1
  replace H := Option.bind_eq_some_iff.mp H
  obtain ⟨t170, A50, H⟩ := H
  replace H : (if t170 = true then (some (wrap64 ((wrap64 ((wrap64 (a0_0 - a1_0)) * (wrap64 (a0_0 - a1_0)))) + (wrap64 ((wrap64 (a0_1 - a1_1)) * (wrap64 (a0_1 - a1_1))))))) else (some (-1))) = some r := H
  have A5 := Aside0.mk A50
  clear A50
  by_cases c6 : t170 = true
  ·
   subst c6
   have H1 : (some (wrap64 ((wrap64 ((wrap64 (a0_0 - a1_0)) * (wrap64 (a0_0 - a1_0)))) + (wrap64 ((wrap64 (a0_1 - a1_1)) * (wrap64 (a0_1 - a1_1))))))) = some r := by rw [if_pos rfl] at H; exact H
   clear H
   have H := H1
   clear H1
   obtain rfl := Option.some.inj H
   go_enter Try.func86, Try.ntmps86
   go_wp2_with (first | ((with_reducible refine gate_dst (N := 2) rfl ?_); refine Hd.box_ 2 (#[.int .i64 a0_0, .int .i64 a0_1]) 75 ?_; intro gb167 hg w7 hbox hb; have BK167 := Aside0.mk (hbox); have GW167 := Aside0.mk ((Hd.g_ hg Hd.b_ : w.heap.size ≤ gb167)); have GE167 := Aside0.mk ((Hd.g_ hg Hd.b_ : w.heap.size ≤ gb167)); replace HB := Aside0.mk (below_step Hd.b_ hb); clear hb hbox hg) | ((with_reducible refine gate_dst (N := 3) rfl ?_); refine Hd.box_ 3 (#[.int .i64 a1_0, .int .i64 a1_1]) 75 ?_; intro gb168 hg w8 hbox hb; have BK168 := Aside0.mk (hbox); have GW168 := Aside0.mk ((Hd.g_ hg Hd.b_ : w.heap.size ≤ gb168)); have GE168 := Aside0.mk ((Hd.g_ hg Hd.b_ : w.heap.size ≤ gb168)); replace HB := Aside0.mk (below_step Hd.b_ hb); have NB167_168 := Aside0.mk ((Hd.lt_ BK167 hg)); have NB168_167 := Aside0.mk ((Hd.gt_ BK167 hg)); replace BK167 := Aside0.mk (Hd.kb_ BK167 hb); clear hb hbox hg; have hnb9 := NB167_168.out; have hnc9 := NB168_167.out; obtain ⟨hcz10_0, hcz10_1⟩ := Hd.c2_ BK167.out; obtain ⟨hfz10_0, hfz10_1⟩ := Hd.f2_ BK167.out) | ((with_reducible refine gate_callee (f := 115) rfl ?_); refine goesL_ (some 6) rfl rfl Try.func115 (by kernel_rfl) rfl #[.agg #[.int .i64 a0_0, .int .i64 a0_1]] rfl Hd.m_ ?_; (with_reducible refine (spec_IsPoint.calls a0_0 a0_1 true _ A3.out).mono ?_); rintro e w11 ⟨rfl, hb⟩; refine ⟨_, rfl, ?_⟩; replace BK167 := Aside0.mk (Hd.kb_ BK167 hb); replace BK168 := Aside0.mk (Hd.kb_ BK168 hb); replace HB := Aside0.mk (below_step Hd.b_ hb); (try clear hb); (try clear hb2); (try clear hk); (try clear hi); obtain ⟨hcz12_0, hcz12_1⟩ := Hd.c2_ BK168.out; obtain ⟨hfz12_0, hfz12_1⟩ := Hd.f2_ BK168.out) | (go_at_call 115; (with_reducible refine (spec_IsPoint.calls a1_0 a1_1 true _ A5.out).mono ?_); rintro e w13 ⟨rfl, hb⟩; replace BK167 := Aside0.mk (Hd.kb_ BK167 hb); replace BK168 := Aside0.mk (Hd.kb_ BK168 hb); replace HB := Aside0.mk (below_step Hd.b_ hb); (try clear hb); (try clear hb2); (try clear hk); (try clear hi); obtain ⟨hcz14_0, hcz14_1⟩ := Hd.c2_ BK167.out; obtain ⟨hfz14_0, hfz14_1⟩ := Hd.f2_ BK167.out; obtain ⟨hcz15_0, hcz15_1⟩ := Hd.c2_ BK168.out; obtain ⟨hfz15_0, hfz15_1⟩ := Hd.f2_ BK168.out))
   go_ret
   exact ⟨Hd.e_, Hd.b_⟩
  ·
   replace c6 := Bool.eq_false_iff.mpr c6
   subst c6
   have H1 : (some (-1)) = some r := by rw [if_neg (show ¬ (false = true) by decide)] at H; exact H
   clear H
   have H := H1
   clear H1
   obtain rfl := Option.some.inj H
   go_enter Try.func86, Try.ntmps86
   go_wp2_with (first | ((with_reducible refine gate_dst (N := 2) rfl ?_); refine Hd.box_ 2 (#[.int .i64 a0_0, .int .i64 a0_1]) 75 ?_; intro gb167 hg w16 hbox hb; have BK167 := Aside0.mk (hbox); have GW167 := Aside0.mk ((Hd.g_ hg Hd.b_ : w.heap.size ≤ gb167)); have GE167 := Aside0.mk ((Hd.g_ hg Hd.b_ : w.heap.size ≤ gb167)); replace HB := Aside0.mk (below_step Hd.b_ hb); clear hb hbox hg) | ((with_reducible refine gate_dst (N := 3) rfl ?_); refine Hd.box_ 3 (#[.int .i64 a1_0, .int .i64 a1_1]) 75 ?_; intro gb168 hg w17 hbox hb; have BK168 := Aside0.mk (hbox); have GW168 := Aside0.mk ((Hd.g_ hg Hd.b_ : w.heap.size ≤ gb168)); have GE168 := Aside0.mk ((Hd.g_ hg Hd.b_ : w.heap.size ≤ gb168)); replace HB := Aside0.mk (below_step Hd.b_ hb); have NB167_168 := Aside0.mk ((Hd.lt_ BK167 hg)); have NB168_167 := Aside0.mk ((Hd.gt_ BK167 hg)); replace BK167 := Aside0.mk (Hd.kb_ BK167 hb); clear hb hbox hg; have hnb18 := NB167_168.out; have hnc18 := NB168_167.out; obtain ⟨hcz19_0, hcz19_1⟩ := Hd.c2_ BK167.out; obtain ⟨hfz19_0, hfz19_1⟩ := Hd.f2_ BK167.out) | ((with_reducible refine gate_callee (f := 115) rfl ?_); refine goesL_ (some 6) rfl rfl Try.func115 (by kernel_rfl) rfl #[.agg #[.int .i64 a0_0, .int .i64 a0_1]] rfl Hd.m_ ?_; (with_reducible refine (spec_IsPoint.calls a0_0 a0_1 true _ A3.out).mono ?_); rintro e w20 ⟨rfl, hb⟩; refine ⟨_, rfl, ?_⟩; replace BK167 := Aside0.mk (Hd.kb_ BK167 hb); replace BK168 := Aside0.mk (Hd.kb_ BK168 hb); replace HB := Aside0.mk (below_step Hd.b_ hb); (try clear hb); (try clear hb2); (try clear hk); (try clear hi); obtain ⟨hcz21_0, hcz21_1⟩ := Hd.c2_ BK168.out; obtain ⟨hfz21_0, hfz21_1⟩ := Hd.f2_ BK168.out) | (go_at_call 115; (with_reducible refine (spec_IsPoint.calls a1_0 a1_1 false _ A5.out).mono ?_); rintro e w22 ⟨rfl, hb⟩; replace BK167 := Aside0.mk (Hd.kb_ BK167 hb); replace BK168 := Aside0.mk (Hd.kb_ BK168 hb); replace HB := Aside0.mk (below_step Hd.b_ hb); (try clear hb); (try clear hb2); (try clear hk); (try clear hi)))
   go_ret
   exact ⟨Hd.e_, Hd.b_⟩
 ·
  replace c4 := Bool.eq_false_iff.mpr c4
  subst c4
  have H1 : (some (-1)) = some r := by rw [if_neg (show ¬ (false = true) by decide)] at H; exact H
  clear H
  have H := H1
  clear H1
  obtain rfl := Option.some.inj H
  go_enter Try.func86, Try.ntmps86
  go_wp2_with (first | ((with_reducible refine gate_dst (N := 2) rfl ?_); refine Hd.box_ 2 (#[.int .i64 a0_0, .int .i64 a0_1]) 75 ?_; intro gb167 hg w23 hbox hb; have BK167 := Aside0.mk (hbox); have GW167 := Aside0.mk ((Hd.g_ hg Hd.b_ : w.heap.size ≤ gb167)); have GE167 := Aside0.mk ((Hd.g_ hg Hd.b_ : w.heap.size ≤ gb167)); replace HB := Aside0.mk (below_step Hd.b_ hb); clear hb hbox hg) | ((with_reducible refine gate_dst (N := 3) rfl ?_); refine Hd.box_ 3 (#[.int .i64 a1_0, .int .i64 a1_1]) 75 ?_; intro gb168 hg w24 hbox hb; have BK168 := Aside0.mk (hbox); have GW168 := Aside0.mk ((Hd.g_ hg Hd.b_ : w.heap.size ≤ gb168)); have GE168 := Aside0.mk ((Hd.g_ hg Hd.b_ : w.heap.size ≤ gb168)); replace HB := Aside0.mk (below_step Hd.b_ hb); have NB167_168 := Aside0.mk ((Hd.lt_ BK167 hg)); have NB168_167 := Aside0.mk ((Hd.gt_ BK167 hg)); replace BK167 := Aside0.mk (Hd.kb_ BK167 hb); clear hb hbox hg; have hnb25 := NB167_168.out; have hnc25 := NB168_167.out; obtain ⟨hcz26_0, hcz26_1⟩ := Hd.c2_ BK167.out; obtain ⟨hfz26_0, hfz26_1⟩ := Hd.f2_ BK167.out) | ((with_reducible refine gate_callee (f := 115) rfl ?_); refine goesL_ (some 6) rfl rfl Try.func115 (by kernel_rfl) rfl #[.agg #[.int .i64 a0_0, .int .i64 a0_1]] rfl Hd.m_ ?_; (with_reducible refine (spec_IsPoint.calls a0_0 a0_1 false _ A3.out).mono ?_); rintro e w27 ⟨rfl, hb⟩; refine ⟨_, rfl, ?_⟩; replace BK167 := Aside0.mk (Hd.kb_ BK167 hb); replace BK168 := Aside0.mk (Hd.kb_ BK168 hb); replace HB := Aside0.mk (below_step Hd.b_ hb); (try clear hb); (try clear hb2); (try clear hk); (try clear hi)))
  go_ret
  exact ⟨Hd.e_, Hd.b_⟩
end Go.Proofs.Ytbackoeakepngab.MFnThinned
