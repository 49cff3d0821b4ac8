-- Laid by this session's program pp.py, after the kit's print and texts of the session's own. Not trusted: Lean checks it.
import Derived.Test.YtbackoeakepngabZThinPlacesMx0
import Derived.Test.YtbackoeakepngabZThinPlacesMx1
namespace Go.Proofs.Ytbackoeakepngab.MFnExactThinPlaces
open Go.RowKit Go.Proofs.YtbackoeakepngabW.PrintWords Go.Proofs.YtbackoeakepngabW.PrintLast Go.Proofs.YtbackoeakepngabW.PrintMore
attribute [local go_sem] max2_int min2_int max_two min_two max_three min_three max_four min_four   -- for this text's walks alone
set_option linter.unusedVariables false
set_option linter.unusedSimpArgs false
def spec_ArePlaces.l0 : Nat → List (S77) → Int → Option (Bool)
 | 0, _, _ => none
 | k + 1, x0, x3 => if x3 < (x0.length : Int) then (if 0 ≤ x3 then ((spec_l1In.f ((rd_T77 x0 x3).f0) 1 99).bind fun t130 => (if t130 = true then ((spec_IsPoint.f ((rd_T77 x0 x3).f1.f0) ((rd_T77 x0 x3).f1.f1)).bind fun t132 => (if t132 = true then ((spec_l1In.f ((rd_T77 x0 x3).f2) 0 9).bind fun t134 => (if t134 = true then (if x3 > 0 then (if 0 ≤ (wrap64 (x3 - 1)) then (if (wrap64 (x3 - 1)) < (x0.length : Int) then (if ((rd_T77 x0 (wrap64 (x3 - 1))).f0) ≥ ((rd_T77 x0 x3).f0) then (some false) else (spec_ArePlaces.l0 k x0 (wrap64 (x3 + 1)))) else (none)) else (none)) else (spec_ArePlaces.l0 k x0 (wrap64 (x3 + 1)))) else (some false))) else (some false))) else (some false))) else (none)) else (some (decide ((x0.length : Int) ≤ 16)))
def spec_ArePlaces.f (k : Nat) (l0 : List (S77)) : Option (Bool) := spec_ArePlaces.l0 k l0 0
set_option maxHeartbeats 8000000 in
set_option maxRecDepth 100000 in
theorem spec_ArePlaces.calls (k : Nat) (A0 : Option Addr) (c0 : Nat) (l0 : List (S77)) (r : Bool) (w : World) (hr0 : Kd.C k77 w A0 l0.length l0) (hc0 : l0.length ≤ c0) (h : spec_ArePlaces.f k l0 = some r) :
  Calls Try.prog 81 #[.slice A0 l0.length c0] w fun e w' => e = .returned (.bool r) ∧ Below w.heap.size w w' := by
 have hu75 := Try.underlying75
 have HR0 := Aside0.mk hr0
 have HC0 := Aside0.mk hc0
 clear hr0 hc0
 have HB := Aside0.mk (Below.refl w.heap.size w)
 have H : (spec_ArePlaces.l0 k l0 0) = some r := h
 clear h
 have H' := Aside0.mk H
 clear H
 go_enter Try.func81, Try.ntmps81
 go_wp2
 go_loopg [3] k (fun kq v3 w' => ∃ (x3_1 : Int), v3 = .int .i64 x3_1 ∧ Aside0 (spec_ArePlaces.l0 kq l0 x3_1 = some r) ∧ Aside0 (kq ≤ k) ∧ Aside0 (Below w.heap.size w w'))
 case atStart => exact ⟨(0), (by first | rfl | (simp; done) | (simp [*]; done)), H', ⟨Nat.le_refl _⟩, ⟨Hd.b_⟩⟩
 case round =>
  clear H'
  obtain ⟨x3_1, rfl, HA, HK1, HB⟩ := hrel
  cases gk with
  | zero => exact absurd HA.out (by simp [spec_ArePlaces.l0])
  | succ k1 =>
   have H := HA.out
   clear HA
   simp only [spec_ArePlaces.l0] at H
   by_cases c2 : x3_1 < (l0.length : Int)
   ·
    rw [if_pos c2] at H
    have c2b0 : decide (x3_1 < (l0.length : Int)) = true := decide_eq_true c2
    clear c2
    by_cases c3 : 0 ≤ x3_1
    ·
     rw [if_pos c3] at H
     have c3b0 : decide (0 ≤ x3_1) = true := decide_eq_true c3
     clear c3
     replace H := Option.bind_eq_some_iff.mp H
     obtain ⟨t130, A40, H⟩ := H
     replace H : (if t130 = true then ((spec_IsPoint.f ((rd_T77 l0 x3_1).f1.f0) ((rd_T77 l0 x3_1).f1.f1)).bind fun t132 => (if t132 = true then ((spec_l1In.f ((rd_T77 l0 x3_1).f2) 0 9).bind fun t134 => (if t134 = true then (if x3_1 > 0 then (if 0 ≤ (wrap64 (x3_1 - 1)) then (if (wrap64 (x3_1 - 1)) < (l0.length : Int) then (if ((rd_T77 l0 (wrap64 (x3_1 - 1))).f0) ≥ ((rd_T77 l0 x3_1).f0) then (some false) else (spec_ArePlaces.l0 k1 l0 (wrap64 (x3_1 + 1)))) else (none)) else (none)) else (spec_ArePlaces.l0 k1 l0 (wrap64 (x3_1 + 1)))) else (some false))) else (some false))) else (some false)) = some r := H
     have A4 := Aside0.mk A40
     clear A40
     by_cases c5 : t130 = true
     ·
      subst c5
      have H1 : ((spec_IsPoint.f ((rd_T77 l0 x3_1).f1.f0) ((rd_T77 l0 x3_1).f1.f1)).bind fun t132 => (if t132 = true then ((spec_l1In.f ((rd_T77 l0 x3_1).f2) 0 9).bind fun t134 => (if t134 = true then (if x3_1 > 0 then (if 0 ≤ (wrap64 (x3_1 - 1)) then (if (wrap64 (x3_1 - 1)) < (l0.length : Int) then (if ((rd_T77 l0 (wrap64 (x3_1 - 1))).f0) ≥ ((rd_T77 l0 x3_1).f0) then (some false) else (spec_ArePlaces.l0 k1 l0 (wrap64 (x3_1 + 1)))) else (none)) else (none)) else (spec_ArePlaces.l0 k1 l0 (wrap64 (x3_1 + 1)))) else (some false))) else (some false))) = some r := by rw [if_pos rfl] at H; exact H
      clear H
      have H := H1
      clear H1
      replace H := Option.bind_eq_some_iff.mp H
      obtain ⟨t132, A60, H⟩ := H
      replace H : (if t132 = true then ((spec_l1In.f ((rd_T77 l0 x3_1).f2) 0 9).bind fun t134 => (if t134 = true then (if x3_1 > 0 then (if 0 ≤ (wrap64 (x3_1 - 1)) then (if (wrap64 (x3_1 - 1)) < (l0.length : Int) then (if ((rd_T77 l0 (wrap64 (x3_1 - 1))).f0) ≥ ((rd_T77 l0 x3_1).f0) then (some false) else (spec_ArePlaces.l0 k1 l0 (wrap64 (x3_1 + 1)))) else (none)) else (none)) else (spec_ArePlaces.l0 k1 l0 (wrap64 (x3_1 + 1)))) else (some false))) else (some false)) = some r := H
      have A6 := Aside0.mk A60
      clear A60
      by_cases c7 : t132 = true
      ·
       subst c7
       have H1 : ((spec_l1In.f ((rd_T77 l0 x3_1).f2) 0 9).bind fun t134 => (if t134 = true then (if x3_1 > 0 then (if 0 ≤ (wrap64 (x3_1 - 1)) then (if (wrap64 (x3_1 - 1)) < (l0.length : Int) then (if ((rd_T77 l0 (wrap64 (x3_1 - 1))).f0) ≥ ((rd_T77 l0 x3_1).f0) then (some false) else (spec_ArePlaces.l0 k1 l0 (wrap64 (x3_1 + 1)))) else (none)) else (none)) else (spec_ArePlaces.l0 k1 l0 (wrap64 (x3_1 + 1)))) else (some false))) = some r := by rw [if_pos rfl] at H; exact H
       clear H
       have H := H1
       clear H1
       replace H := Option.bind_eq_some_iff.mp H
       obtain ⟨t134, A80, H⟩ := H
       replace H : (if t134 = true then (if x3_1 > 0 then (if 0 ≤ (wrap64 (x3_1 - 1)) then (if (wrap64 (x3_1 - 1)) < (l0.length : Int) then (if ((rd_T77 l0 (wrap64 (x3_1 - 1))).f0) ≥ ((rd_T77 l0 x3_1).f0) then (some false) else (spec_ArePlaces.l0 k1 l0 (wrap64 (x3_1 + 1)))) else (none)) else (none)) else (spec_ArePlaces.l0 k1 l0 (wrap64 (x3_1 + 1)))) else (some false)) = some r := H
       have A8 := Aside0.mk A80
       clear A80
       by_cases c9 : t134 = true
       ·
        subst c9
        have H1 : (if x3_1 > 0 then (if 0 ≤ (wrap64 (x3_1 - 1)) then (if (wrap64 (x3_1 - 1)) < (l0.length : Int) then (if ((rd_T77 l0 (wrap64 (x3_1 - 1))).f0) ≥ ((rd_T77 l0 x3_1).f0) then (some false) else (spec_ArePlaces.l0 k1 l0 (wrap64 (x3_1 + 1)))) else (none)) else (none)) else (spec_ArePlaces.l0 k1 l0 (wrap64 (x3_1 + 1)))) = some r := by rw [if_pos rfl] at H; exact H
        clear H
        have H := H1
        clear H1
        by_cases c10 : x3_1 > 0
        ·
         rw [if_pos c10] at H
         have c10b0 : decide (0 < x3_1) = true := decide_eq_true c10
         clear c10
         obtain ⟨ji11, hji11⟩ : ∃ j_ : Int, (wrap64 (x3_1 - 1)) = j_ := ⟨_, rfl⟩
         replace H : (if 0 ≤ (ji11) then (if (ji11) < (l0.length : Int) then (if ((rd_T77 l0 (ji11)).f0) ≥ ((rd_T77 l0 x3_1).f0) then (some false) else (spec_ArePlaces.l0 k1 l0 (wrap64 (x3_1 + 1)))) else (none)) else (none)) = some r := by first | (rw [hji11] at H; exact H) | (simp only [hji11] at H ⊢; exact H)
         (try rw [hji11] at A4)
         (try rw [hji11] at A6)
         (try rw [hji11] at A8)
         have hji11w : (IntKind.i64.wrap (x3_1 - 1)) = ji11 := (i64_w _).trans hji11
         by_cases c12 : 0 ≤ (ji11)
         ·
          rw [if_pos c12] at H
          have c12b0 : decide (0 ≤ (ji11)) = true := decide_eq_true c12
          clear c12
          by_cases c13 : (ji11) < (l0.length : Int)
          ·
           rw [if_pos c13] at H
           have c13b0 : decide ((ji11) < (l0.length : Int)) = true := decide_eq_true c13
           clear c13
           by_cases c14 : ((rd_T77 l0 (ji11)).f0) ≥ ((rd_T77 l0 x3_1).f0)
           ·
            rw [if_pos c14] at H
            have c14b0 : decide (((rd_T77 l0 x3_1).f0) ≤ ((rd_T77 l0 (ji11)).f0)) = true := decide_eq_true c14
            clear c14
            obtain rfl := Option.some.inj H
            try go_wp2
            replace HB := Aside0.mk (below_drew1 HB.out)
            have p129 : 0 ≤ (x3_1 : Int) := of_decide_eq_true Hd.a_
            have q129 : x3_1 < (l0.length : Int) := of_decide_eq_true Hd.a_
            obtain ⟨ad129, e129, hx129_0, hx129_1, hx129_2, hx129_3⟩ := at_T77 HR0.out x3_1 p129 q129
            have hw129_3 := hx129_3
            have hw129_2 := hx129_2
            have hw129_1 := hx129_1
            have hw129_0 := hx129_0
            cases e129
            replace hx129_0 := (HB.out.cell (World.block_lt_of_cell? w _ hx129_0)).trans hx129_0
            replace hx129_1 := (HB.out.cell (World.block_lt_of_cell? w _ hx129_1)).trans hx129_1
            replace hx129_2 := (HB.out.cell (World.block_lt_of_cell? w _ hx129_2)).trans hx129_2
            replace hx129_3 := (HB.out.cell (World.block_lt_of_cell? w _ hx129_3)).trans hx129_3
            replace p129 := eq_true p129
            replace q129 := eq_true q129
            have p131 : 0 ≤ (x3_1 : Int) := of_decide_eq_true Hd.a_
            have q131 : x3_1 < (l0.length : Int) := of_decide_eq_true Hd.a_
            obtain ⟨ad131, e131, hx131_0, hx131_1, hx131_2, hx131_3⟩ := at_T77 HR0.out x3_1 p131 q131
            have hw131_3 := hx131_3
            have hw131_2 := hx131_2
            have hw131_1 := hx131_1
            have hw131_0 := hx131_0
            obtain rfl : ad129 = ad131 := (by injection e131)
            replace hx131_0 := (HB.out.cell (World.block_lt_of_cell? w _ hx131_0)).trans hx131_0
            replace hx131_1 := (HB.out.cell (World.block_lt_of_cell? w _ hx131_1)).trans hx131_1
            replace hx131_2 := (HB.out.cell (World.block_lt_of_cell? w _ hx131_2)).trans hx131_2
            replace hx131_3 := (HB.out.cell (World.block_lt_of_cell? w _ hx131_3)).trans hx131_3
            replace p131 := eq_true p131
            replace q131 := eq_true q131
            have p133 : 0 ≤ (x3_1 : Int) := of_decide_eq_true Hd.a_
            have q133 : x3_1 < (l0.length : Int) := of_decide_eq_true Hd.a_
            obtain ⟨ad133, e133, hx133_0, hx133_1, hx133_2, hx133_3⟩ := at_T77 HR0.out x3_1 p133 q133
            have hw133_3 := hx133_3
            have hw133_2 := hx133_2
            have hw133_1 := hx133_1
            have hw133_0 := hx133_0
            obtain rfl : ad129 = ad133 := (by injection e133)
            replace hx133_0 := (HB.out.cell (World.block_lt_of_cell? w _ hx133_0)).trans hx133_0
            replace hx133_1 := (HB.out.cell (World.block_lt_of_cell? w _ hx133_1)).trans hx133_1
            replace hx133_2 := (HB.out.cell (World.block_lt_of_cell? w _ hx133_2)).trans hx133_2
            replace hx133_3 := (HB.out.cell (World.block_lt_of_cell? w _ hx133_3)).trans hx133_3
            replace p133 := eq_true p133
            replace q133 := eq_true q133
            have p135 : 0 ≤ ((ji11) : Int) := of_decide_eq_true Hd.a_
            have q135 : (ji11) < (l0.length : Int) := of_decide_eq_true Hd.a_
            obtain ⟨ad135, e135, hx135_0, hx135_1, hx135_2, hx135_3⟩ := at_T77 HR0.out (ji11) p135 q135
            have hw135_3 := hx135_3
            have hw135_2 := hx135_2
            have hw135_1 := hx135_1
            have hw135_0 := hx135_0
            obtain rfl : ad129 = ad135 := (by injection e135)
            replace hx135_0 := (HB.out.cell (World.block_lt_of_cell? w _ hx135_0)).trans hx135_0
            replace hx135_1 := (HB.out.cell (World.block_lt_of_cell? w _ hx135_1)).trans hx135_1
            replace hx135_2 := (HB.out.cell (World.block_lt_of_cell? w _ hx135_2)).trans hx135_2
            replace hx135_3 := (HB.out.cell (World.block_lt_of_cell? w _ hx135_3)).trans hx135_3
            replace p135 := eq_true p135
            replace q135 := eq_true q135
            have p136 : 0 ≤ (x3_1 : Int) := of_decide_eq_true Hd.a_
            have q136 : x3_1 < (l0.length : Int) := of_decide_eq_true Hd.a_
            obtain ⟨ad136, e136, hx136_0, hx136_1, hx136_2, hx136_3⟩ := at_T77 HR0.out x3_1 p136 q136
            have hw136_3 := hx136_3
            have hw136_2 := hx136_2
            have hw136_1 := hx136_1
            have hw136_0 := hx136_0
            obtain rfl : ad129 = ad136 := (by injection e136)
            replace hx136_0 := (HB.out.cell (World.block_lt_of_cell? w _ hx136_0)).trans hx136_0
            replace hx136_1 := (HB.out.cell (World.block_lt_of_cell? w _ hx136_1)).trans hx136_1
            replace hx136_2 := (HB.out.cell (World.block_lt_of_cell? w _ hx136_2)).trans hx136_2
            replace hx136_3 := (HB.out.cell (World.block_lt_of_cell? w _ hx136_3)).trans hx136_3
            replace p136 := eq_true p136
            replace q136 := eq_true q136
            have s0_ := Hd.HW.x (W0 := wr.drew) ((HB.out.cell (World.block_lt_of_cell? w _ hw129_0)).trans hw129_0)
            have s1_ := Hd.HW.x (W0 := wr.drew) ((HB.out.cell (World.block_lt_of_cell? w _ hw129_1)).trans hw129_1)
            have s2_ := Hd.HW.x (W0 := wr.drew) ((HB.out.cell (World.block_lt_of_cell? w _ hw129_2)).trans hw129_2)
            have s3_ := Hd.HW.x (W0 := wr.drew) ((HB.out.cell (World.block_lt_of_cell? w _ hw129_3)).trans hw129_3)
            have s4_ := Hd.HW.x (W0 := wr.drew) ((HB.out.cell (World.block_lt_of_cell? w _ hw131_0)).trans hw131_0)
            have s5_ := Hd.HW.x (W0 := wr.drew) ((HB.out.cell (World.block_lt_of_cell? w _ hw131_1)).trans hw131_1)
            have s6_ := Hd.HW.x (W0 := wr.drew) ((HB.out.cell (World.block_lt_of_cell? w _ hw131_2)).trans hw131_2)
            have s7_ := Hd.HW.x (W0 := wr.drew) ((HB.out.cell (World.block_lt_of_cell? w _ hw131_3)).trans hw131_3)
            have s8_ := Hd.HW.x (W0 := wr.drew) ((HB.out.cell (World.block_lt_of_cell? w _ hw133_0)).trans hw133_0)
            have s9_ := Hd.HW.x (W0 := wr.drew) ((HB.out.cell (World.block_lt_of_cell? w _ hw133_1)).trans hw133_1)
            have s10_ := Hd.HW.x (W0 := wr.drew) ((HB.out.cell (World.block_lt_of_cell? w _ hw133_2)).trans hw133_2)
            have s11_ := Hd.HW.x (W0 := wr.drew) ((HB.out.cell (World.block_lt_of_cell? w _ hw133_3)).trans hw133_3)
            have s12_ := Hd.HW.x (W0 := wr.drew) ((HB.out.cell (World.block_lt_of_cell? w _ hw135_0)).trans hw135_0)
            have s13_ := Hd.HW.x (W0 := wr.drew) ((HB.out.cell (World.block_lt_of_cell? w _ hw135_1)).trans hw135_1)
            have s14_ := Hd.HW.x (W0 := wr.drew) ((HB.out.cell (World.block_lt_of_cell? w _ hw135_2)).trans hw135_2)
            have s15_ := Hd.HW.x (W0 := wr.drew) ((HB.out.cell (World.block_lt_of_cell? w _ hw135_3)).trans hw135_3)
            have s16_ := Hd.HW.x (W0 := wr.drew) ((HB.out.cell (World.block_lt_of_cell? w _ hw136_0)).trans hw136_0)
            have s17_ := Hd.HW.x (W0 := wr.drew) ((HB.out.cell (World.block_lt_of_cell? w _ hw136_1)).trans hw136_1)
            have s18_ := Hd.HW.x (W0 := wr.drew) ((HB.out.cell (World.block_lt_of_cell? w _ hw136_2)).trans hw136_2)
            have s19_ := Hd.HW.x (W0 := wr.drew) ((HB.out.cell (World.block_lt_of_cell? w _ hw136_3)).trans hw136_3)
            refine Hd.HW.region (by kernel_rfl) (by kernel_rfl) ?_
            try dsimp only [List.append]
            repeat (go_big_quiet_step ((first | (go_at_call 82; with_reducible exact Hd.HW.d (spec_l1In.calls ((rd_T77 l0 x3_1).f0) 1 99 true _ A4.out)) | (go_at_call 115; with_reducible exact Hd.HW.c (spec_IsPoint.calls ((rd_T77 l0 x3_1).f1.f0) ((rd_T77 l0 x3_1).f1.f1) true _ A6.out)) | (go_at_call 82; with_reducible exact Hd.HW.d (spec_l1In.calls ((rd_T77 l0 x3_1).f2) 0 9 true _ A8.out)))))
            refine wpQuiet_nil ?_
            intro _ hq_
            obtain ⟨q_, rfl⟩ := hq_
            clear s0_ s1_ s2_ s3_ s4_ s5_ s6_ s7_ s8_ s9_ s10_ s11_ s12_ s13_ s14_ s15_ s16_ s17_ s18_ s19_
            replace HB := Aside0.mk (below_step HB.out q_.b)
            replace hx129_0 := q_.cell hx129_0
            replace hx129_1 := q_.cell hx129_1
            replace hx129_2 := q_.cell hx129_2
            replace hx129_3 := q_.cell hx129_3
            replace hx131_0 := q_.cell hx131_0
            replace hx131_1 := q_.cell hx131_1
            replace hx131_2 := q_.cell hx131_2
            replace hx131_3 := q_.cell hx131_3
            replace hx133_0 := q_.cell hx133_0
            replace hx133_1 := q_.cell hx133_1
            replace hx133_2 := q_.cell hx133_2
            replace hx133_3 := q_.cell hx133_3
            replace hx135_0 := q_.cell hx135_0
            replace hx135_1 := q_.cell hx135_1
            replace hx135_2 := q_.cell hx135_2
            replace hx135_3 := q_.cell hx135_3
            replace hx136_0 := q_.cell hx136_0
            replace hx136_1 := q_.cell hx136_1
            replace hx136_2 := q_.cell hx136_2
            replace hx136_3 := q_.cell hx136_3
            generalize q_.W = w16 at HB hx129_0 hx129_1 hx129_2 hx129_3 hx131_0 hx131_1 hx131_2 hx131_3 hx133_0 hx133_1 hx133_2 hx133_3 hx135_0 hx135_1 hx135_2 hx135_3 hx136_0 hx136_1 hx136_2 hx136_3 ⊢
            try simp only [i64_w, i32_w]
            try go_wp2
            go_ret
            exact ⟨by first | rfl | (simp [errW_none, errW_some] <;> rfl) | (simp only [← hji11]; first | rfl | (simp [errW_none, errW_some] <;> rfl)) | (simp [*, errW_none, errW_some] <;> rfl), Hd.b_⟩
           ·
            rw [if_neg c14] at H
            have c14b0 : decide (((rd_T77 l0 x3_1).f0) ≤ ((rd_T77 l0 (ji11)).f0)) = false := decide_eq_false c14
            clear c14
            have H' := Aside0.mk H
            clear H
            try go_wp2
            replace HB := Aside0.mk (below_drew1 HB.out)
            have p129 : 0 ≤ (x3_1 : Int) := of_decide_eq_true Hd.a_
            have q129 : x3_1 < (l0.length : Int) := of_decide_eq_true Hd.a_
            obtain ⟨ad129, e129, hx129_0, hx129_1, hx129_2, hx129_3⟩ := at_T77 HR0.out x3_1 p129 q129
            have hw129_3 := hx129_3
            have hw129_2 := hx129_2
            have hw129_1 := hx129_1
            have hw129_0 := hx129_0
            cases e129
            replace hx129_0 := (HB.out.cell (World.block_lt_of_cell? w _ hx129_0)).trans hx129_0
            replace hx129_1 := (HB.out.cell (World.block_lt_of_cell? w _ hx129_1)).trans hx129_1
            replace hx129_2 := (HB.out.cell (World.block_lt_of_cell? w _ hx129_2)).trans hx129_2
            replace hx129_3 := (HB.out.cell (World.block_lt_of_cell? w _ hx129_3)).trans hx129_3
            replace p129 := eq_true p129
            replace q129 := eq_true q129
            have p131 : 0 ≤ (x3_1 : Int) := of_decide_eq_true Hd.a_
            have q131 : x3_1 < (l0.length : Int) := of_decide_eq_true Hd.a_
            obtain ⟨ad131, e131, hx131_0, hx131_1, hx131_2, hx131_3⟩ := at_T77 HR0.out x3_1 p131 q131
            have hw131_3 := hx131_3
            have hw131_2 := hx131_2
            have hw131_1 := hx131_1
            have hw131_0 := hx131_0
            obtain rfl : ad129 = ad131 := (by injection e131)
            replace hx131_0 := (HB.out.cell (World.block_lt_of_cell? w _ hx131_0)).trans hx131_0
            replace hx131_1 := (HB.out.cell (World.block_lt_of_cell? w _ hx131_1)).trans hx131_1
            replace hx131_2 := (HB.out.cell (World.block_lt_of_cell? w _ hx131_2)).trans hx131_2
            replace hx131_3 := (HB.out.cell (World.block_lt_of_cell? w _ hx131_3)).trans hx131_3
            replace p131 := eq_true p131
            replace q131 := eq_true q131
            have p133 : 0 ≤ (x3_1 : Int) := of_decide_eq_true Hd.a_
            have q133 : x3_1 < (l0.length : Int) := of_decide_eq_true Hd.a_
            obtain ⟨ad133, e133, hx133_0, hx133_1, hx133_2, hx133_3⟩ := at_T77 HR0.out x3_1 p133 q133
            have hw133_3 := hx133_3
            have hw133_2 := hx133_2
            have hw133_1 := hx133_1
            have hw133_0 := hx133_0
            obtain rfl : ad129 = ad133 := (by injection e133)
            replace hx133_0 := (HB.out.cell (World.block_lt_of_cell? w _ hx133_0)).trans hx133_0
            replace hx133_1 := (HB.out.cell (World.block_lt_of_cell? w _ hx133_1)).trans hx133_1
            replace hx133_2 := (HB.out.cell (World.block_lt_of_cell? w _ hx133_2)).trans hx133_2
            replace hx133_3 := (HB.out.cell (World.block_lt_of_cell? w _ hx133_3)).trans hx133_3
            replace p133 := eq_true p133
            replace q133 := eq_true q133
            have p135 : 0 ≤ ((ji11) : Int) := of_decide_eq_true Hd.a_
            have q135 : (ji11) < (l0.length : Int) := of_decide_eq_true Hd.a_
            obtain ⟨ad135, e135, hx135_0, hx135_1, hx135_2, hx135_3⟩ := at_T77 HR0.out (ji11) p135 q135
            have hw135_3 := hx135_3
            have hw135_2 := hx135_2
            have hw135_1 := hx135_1
            have hw135_0 := hx135_0
            obtain rfl : ad129 = ad135 := (by injection e135)
            replace hx135_0 := (HB.out.cell (World.block_lt_of_cell? w _ hx135_0)).trans hx135_0
            replace hx135_1 := (HB.out.cell (World.block_lt_of_cell? w _ hx135_1)).trans hx135_1
            replace hx135_2 := (HB.out.cell (World.block_lt_of_cell? w _ hx135_2)).trans hx135_2
            replace hx135_3 := (HB.out.cell (World.block_lt_of_cell? w _ hx135_3)).trans hx135_3
            replace p135 := eq_true p135
            replace q135 := eq_true q135
            have p136 : 0 ≤ (x3_1 : Int) := of_decide_eq_true Hd.a_
            have q136 : x3_1 < (l0.length : Int) := of_decide_eq_true Hd.a_
            obtain ⟨ad136, e136, hx136_0, hx136_1, hx136_2, hx136_3⟩ := at_T77 HR0.out x3_1 p136 q136
            have hw136_3 := hx136_3
            have hw136_2 := hx136_2
            have hw136_1 := hx136_1
            have hw136_0 := hx136_0
            obtain rfl : ad129 = ad136 := (by injection e136)
            replace hx136_0 := (HB.out.cell (World.block_lt_of_cell? w _ hx136_0)).trans hx136_0
            replace hx136_1 := (HB.out.cell (World.block_lt_of_cell? w _ hx136_1)).trans hx136_1
            replace hx136_2 := (HB.out.cell (World.block_lt_of_cell? w _ hx136_2)).trans hx136_2
            replace hx136_3 := (HB.out.cell (World.block_lt_of_cell? w _ hx136_3)).trans hx136_3
            replace p136 := eq_true p136
            replace q136 := eq_true q136
            have s0_ := Hd.HW.x (W0 := wr.drew) ((HB.out.cell (World.block_lt_of_cell? w _ hw129_0)).trans hw129_0)
            have s1_ := Hd.HW.x (W0 := wr.drew) ((HB.out.cell (World.block_lt_of_cell? w _ hw129_1)).trans hw129_1)
            have s2_ := Hd.HW.x (W0 := wr.drew) ((HB.out.cell (World.block_lt_of_cell? w _ hw129_2)).trans hw129_2)
            have s3_ := Hd.HW.x (W0 := wr.drew) ((HB.out.cell (World.block_lt_of_cell? w _ hw129_3)).trans hw129_3)
            have s4_ := Hd.HW.x (W0 := wr.drew) ((HB.out.cell (World.block_lt_of_cell? w _ hw131_0)).trans hw131_0)
            have s5_ := Hd.HW.x (W0 := wr.drew) ((HB.out.cell (World.block_lt_of_cell? w _ hw131_1)).trans hw131_1)
            have s6_ := Hd.HW.x (W0 := wr.drew) ((HB.out.cell (World.block_lt_of_cell? w _ hw131_2)).trans hw131_2)
            have s7_ := Hd.HW.x (W0 := wr.drew) ((HB.out.cell (World.block_lt_of_cell? w _ hw131_3)).trans hw131_3)
            have s8_ := Hd.HW.x (W0 := wr.drew) ((HB.out.cell (World.block_lt_of_cell? w _ hw133_0)).trans hw133_0)
            have s9_ := Hd.HW.x (W0 := wr.drew) ((HB.out.cell (World.block_lt_of_cell? w _ hw133_1)).trans hw133_1)
            have s10_ := Hd.HW.x (W0 := wr.drew) ((HB.out.cell (World.block_lt_of_cell? w _ hw133_2)).trans hw133_2)
            have s11_ := Hd.HW.x (W0 := wr.drew) ((HB.out.cell (World.block_lt_of_cell? w _ hw133_3)).trans hw133_3)
            have s12_ := Hd.HW.x (W0 := wr.drew) ((HB.out.cell (World.block_lt_of_cell? w _ hw135_0)).trans hw135_0)
            have s13_ := Hd.HW.x (W0 := wr.drew) ((HB.out.cell (World.block_lt_of_cell? w _ hw135_1)).trans hw135_1)
            have s14_ := Hd.HW.x (W0 := wr.drew) ((HB.out.cell (World.block_lt_of_cell? w _ hw135_2)).trans hw135_2)
            have s15_ := Hd.HW.x (W0 := wr.drew) ((HB.out.cell (World.block_lt_of_cell? w _ hw135_3)).trans hw135_3)
            have s16_ := Hd.HW.x (W0 := wr.drew) ((HB.out.cell (World.block_lt_of_cell? w _ hw136_0)).trans hw136_0)
            have s17_ := Hd.HW.x (W0 := wr.drew) ((HB.out.cell (World.block_lt_of_cell? w _ hw136_1)).trans hw136_1)
            have s18_ := Hd.HW.x (W0 := wr.drew) ((HB.out.cell (World.block_lt_of_cell? w _ hw136_2)).trans hw136_2)
            have s19_ := Hd.HW.x (W0 := wr.drew) ((HB.out.cell (World.block_lt_of_cell? w _ hw136_3)).trans hw136_3)
            refine Hd.HW.region (by kernel_rfl) (by kernel_rfl) ?_
            try dsimp only [List.append]
            repeat (go_big_quiet_step ((first | (go_at_call 82; with_reducible exact Hd.HW.d (spec_l1In.calls ((rd_T77 l0 x3_1).f0) 1 99 true _ A4.out)) | (go_at_call 115; with_reducible exact Hd.HW.c (spec_IsPoint.calls ((rd_T77 l0 x3_1).f1.f0) ((rd_T77 l0 x3_1).f1.f1) true _ A6.out)) | (go_at_call 82; with_reducible exact Hd.HW.d (spec_l1In.calls ((rd_T77 l0 x3_1).f2) 0 9 true _ A8.out)))))
            refine wpQuiet_nil ?_
            intro _ hq_
            obtain ⟨q_, rfl⟩ := hq_
            clear s0_ s1_ s2_ s3_ s4_ s5_ s6_ s7_ s8_ s9_ s10_ s11_ s12_ s13_ s14_ s15_ s16_ s17_ s18_ s19_
            replace HB := Aside0.mk (below_step HB.out q_.b)
            replace hx129_0 := q_.cell hx129_0
            replace hx129_1 := q_.cell hx129_1
            replace hx129_2 := q_.cell hx129_2
            replace hx129_3 := q_.cell hx129_3
            replace hx131_0 := q_.cell hx131_0
            replace hx131_1 := q_.cell hx131_1
            replace hx131_2 := q_.cell hx131_2
            replace hx131_3 := q_.cell hx131_3
            replace hx133_0 := q_.cell hx133_0
            replace hx133_1 := q_.cell hx133_1
            replace hx133_2 := q_.cell hx133_2
            replace hx133_3 := q_.cell hx133_3
            replace hx135_0 := q_.cell hx135_0
            replace hx135_1 := q_.cell hx135_1
            replace hx135_2 := q_.cell hx135_2
            replace hx135_3 := q_.cell hx135_3
            replace hx136_0 := q_.cell hx136_0
            replace hx136_1 := q_.cell hx136_1
            replace hx136_2 := q_.cell hx136_2
            replace hx136_3 := q_.cell hx136_3
            generalize q_.W = w18 at HB hx129_0 hx129_1 hx129_2 hx129_3 hx131_0 hx131_1 hx131_2 hx131_3 hx133_0 hx133_1 hx133_2 hx133_3 hx135_0 hx135_1 hx135_2 hx135_3 hx136_0 hx136_1 hx136_2 hx136_3 ⊢
            try simp only [i64_w, i32_w]
            try go_wp2
            go_roundg k1
            case measure => have := HK1.out; omega
            case rel => exact ⟨(wrap64 (x3_1 + 1)), (by first | rfl | (simp; done) | (simp [*]; done)), H', ⟨by have := HK1.out; omega⟩, ⟨Hd.b_⟩⟩
          ·
           rw [if_neg c13] at H
           exact absurd H (by simp)
         ·
          rw [if_neg c12] at H
          exact absurd H (by simp)
        ·
         rw [if_neg c10] at H
         have c10b0 : decide (0 < x3_1) = false := decide_eq_false c10
         clear c10
         have H' := Aside0.mk H
         clear H
         try go_wp2
         replace HB := Aside0.mk (below_drew1 HB.out)
         have p129 : 0 ≤ (x3_1 : Int) := of_decide_eq_true Hd.a_
         have q129 : x3_1 < (l0.length : Int) := of_decide_eq_true Hd.a_
         obtain ⟨ad129, e129, hx129_0, hx129_1, hx129_2, hx129_3⟩ := at_T77 HR0.out x3_1 p129 q129
         have hw129_3 := hx129_3
         have hw129_2 := hx129_2
         have hw129_1 := hx129_1
         have hw129_0 := hx129_0
         cases e129
         replace hx129_0 := (HB.out.cell (World.block_lt_of_cell? w _ hx129_0)).trans hx129_0
         replace hx129_1 := (HB.out.cell (World.block_lt_of_cell? w _ hx129_1)).trans hx129_1
         replace hx129_2 := (HB.out.cell (World.block_lt_of_cell? w _ hx129_2)).trans hx129_2
         replace hx129_3 := (HB.out.cell (World.block_lt_of_cell? w _ hx129_3)).trans hx129_3
         replace p129 := eq_true p129
         replace q129 := eq_true q129
         have p131 : 0 ≤ (x3_1 : Int) := of_decide_eq_true Hd.a_
         have q131 : x3_1 < (l0.length : Int) := of_decide_eq_true Hd.a_
         obtain ⟨ad131, e131, hx131_0, hx131_1, hx131_2, hx131_3⟩ := at_T77 HR0.out x3_1 p131 q131
         have hw131_3 := hx131_3
         have hw131_2 := hx131_2
         have hw131_1 := hx131_1
         have hw131_0 := hx131_0
         obtain rfl : ad129 = ad131 := (by injection e131)
         replace hx131_0 := (HB.out.cell (World.block_lt_of_cell? w _ hx131_0)).trans hx131_0
         replace hx131_1 := (HB.out.cell (World.block_lt_of_cell? w _ hx131_1)).trans hx131_1
         replace hx131_2 := (HB.out.cell (World.block_lt_of_cell? w _ hx131_2)).trans hx131_2
         replace hx131_3 := (HB.out.cell (World.block_lt_of_cell? w _ hx131_3)).trans hx131_3
         replace p131 := eq_true p131
         replace q131 := eq_true q131
         have p133 : 0 ≤ (x3_1 : Int) := of_decide_eq_true Hd.a_
         have q133 : x3_1 < (l0.length : Int) := of_decide_eq_true Hd.a_
         obtain ⟨ad133, e133, hx133_0, hx133_1, hx133_2, hx133_3⟩ := at_T77 HR0.out x3_1 p133 q133
         have hw133_3 := hx133_3
         have hw133_2 := hx133_2
         have hw133_1 := hx133_1
         have hw133_0 := hx133_0
         obtain rfl : ad129 = ad133 := (by injection e133)
         replace hx133_0 := (HB.out.cell (World.block_lt_of_cell? w _ hx133_0)).trans hx133_0
         replace hx133_1 := (HB.out.cell (World.block_lt_of_cell? w _ hx133_1)).trans hx133_1
         replace hx133_2 := (HB.out.cell (World.block_lt_of_cell? w _ hx133_2)).trans hx133_2
         replace hx133_3 := (HB.out.cell (World.block_lt_of_cell? w _ hx133_3)).trans hx133_3
         replace p133 := eq_true p133
         replace q133 := eq_true q133
         have s0_ := Hd.HW.x (W0 := wr.drew) ((HB.out.cell (World.block_lt_of_cell? w _ hw129_0)).trans hw129_0)
         have s1_ := Hd.HW.x (W0 := wr.drew) ((HB.out.cell (World.block_lt_of_cell? w _ hw129_1)).trans hw129_1)
         have s2_ := Hd.HW.x (W0 := wr.drew) ((HB.out.cell (World.block_lt_of_cell? w _ hw129_2)).trans hw129_2)
         have s3_ := Hd.HW.x (W0 := wr.drew) ((HB.out.cell (World.block_lt_of_cell? w _ hw129_3)).trans hw129_3)
         have s4_ := Hd.HW.x (W0 := wr.drew) ((HB.out.cell (World.block_lt_of_cell? w _ hw131_0)).trans hw131_0)
         have s5_ := Hd.HW.x (W0 := wr.drew) ((HB.out.cell (World.block_lt_of_cell? w _ hw131_1)).trans hw131_1)
         have s6_ := Hd.HW.x (W0 := wr.drew) ((HB.out.cell (World.block_lt_of_cell? w _ hw131_2)).trans hw131_2)
         have s7_ := Hd.HW.x (W0 := wr.drew) ((HB.out.cell (World.block_lt_of_cell? w _ hw131_3)).trans hw131_3)
         have s8_ := Hd.HW.x (W0 := wr.drew) ((HB.out.cell (World.block_lt_of_cell? w _ hw133_0)).trans hw133_0)
         have s9_ := Hd.HW.x (W0 := wr.drew) ((HB.out.cell (World.block_lt_of_cell? w _ hw133_1)).trans hw133_1)
         have s10_ := Hd.HW.x (W0 := wr.drew) ((HB.out.cell (World.block_lt_of_cell? w _ hw133_2)).trans hw133_2)
         have s11_ := Hd.HW.x (W0 := wr.drew) ((HB.out.cell (World.block_lt_of_cell? w _ hw133_3)).trans hw133_3)
         refine Hd.HW.region (by kernel_rfl) (by kernel_rfl) ?_
         try dsimp only [List.append]
         repeat (go_big_quiet_step ((first | (go_at_call 82; with_reducible exact Hd.HW.d (spec_l1In.calls ((rd_T77 l0 x3_1).f0) 1 99 true _ A4.out)) | (go_at_call 115; with_reducible exact Hd.HW.c (spec_IsPoint.calls ((rd_T77 l0 x3_1).f1.f0) ((rd_T77 l0 x3_1).f1.f1) true _ A6.out)) | (go_at_call 82; with_reducible exact Hd.HW.d (spec_l1In.calls ((rd_T77 l0 x3_1).f2) 0 9 true _ A8.out)))))
         refine wpQuiet_nil ?_
         intro _ hq_
         obtain ⟨q_, rfl⟩ := hq_
         clear s0_ s1_ s2_ s3_ s4_ s5_ s6_ s7_ s8_ s9_ s10_ s11_
         replace HB := Aside0.mk (below_step HB.out q_.b)
         replace hx129_0 := q_.cell hx129_0
         replace hx129_1 := q_.cell hx129_1
         replace hx129_2 := q_.cell hx129_2
         replace hx129_3 := q_.cell hx129_3
         replace hx131_0 := q_.cell hx131_0
         replace hx131_1 := q_.cell hx131_1
         replace hx131_2 := q_.cell hx131_2
         replace hx131_3 := q_.cell hx131_3
         replace hx133_0 := q_.cell hx133_0
         replace hx133_1 := q_.cell hx133_1
         replace hx133_2 := q_.cell hx133_2
         replace hx133_3 := q_.cell hx133_3
         generalize q_.W = w20 at HB hx129_0 hx129_1 hx129_2 hx129_3 hx131_0 hx131_1 hx131_2 hx131_3 hx133_0 hx133_1 hx133_2 hx133_3 ⊢
         try simp only [i64_w, i32_w]
         try go_wp2
         go_roundg k1
         case measure => have := HK1.out; omega
         case rel => exact ⟨(wrap64 (x3_1 + 1)), (by first | rfl | (simp; done) | (simp [*]; done)), H', ⟨by have := HK1.out; omega⟩, ⟨Hd.b_⟩⟩
       ·
        replace c9 := Bool.eq_false_iff.mpr c9
        subst c9
        have H1 : (some false) = some r := by rw [if_neg (show ¬ (false = true) by decide)] at H; exact H
        clear H
        have H := H1
        clear H1
        obtain rfl := Option.some.inj H
        try go_wp2
        replace HB := Aside0.mk (below_drew1 HB.out)
        have p129 : 0 ≤ (x3_1 : Int) := of_decide_eq_true Hd.a_
        have q129 : x3_1 < (l0.length : Int) := of_decide_eq_true Hd.a_
        obtain ⟨ad129, e129, hx129_0, hx129_1, hx129_2, hx129_3⟩ := at_T77 HR0.out x3_1 p129 q129
        have hw129_3 := hx129_3
        have hw129_2 := hx129_2
        have hw129_1 := hx129_1
        have hw129_0 := hx129_0
        cases e129
        replace hx129_0 := (HB.out.cell (World.block_lt_of_cell? w _ hx129_0)).trans hx129_0
        replace hx129_1 := (HB.out.cell (World.block_lt_of_cell? w _ hx129_1)).trans hx129_1
        replace hx129_2 := (HB.out.cell (World.block_lt_of_cell? w _ hx129_2)).trans hx129_2
        replace hx129_3 := (HB.out.cell (World.block_lt_of_cell? w _ hx129_3)).trans hx129_3
        replace p129 := eq_true p129
        replace q129 := eq_true q129
        have p131 : 0 ≤ (x3_1 : Int) := of_decide_eq_true Hd.a_
        have q131 : x3_1 < (l0.length : Int) := of_decide_eq_true Hd.a_
        obtain ⟨ad131, e131, hx131_0, hx131_1, hx131_2, hx131_3⟩ := at_T77 HR0.out x3_1 p131 q131
        have hw131_3 := hx131_3
        have hw131_2 := hx131_2
        have hw131_1 := hx131_1
        have hw131_0 := hx131_0
        obtain rfl : ad129 = ad131 := (by injection e131)
        replace hx131_0 := (HB.out.cell (World.block_lt_of_cell? w _ hx131_0)).trans hx131_0
        replace hx131_1 := (HB.out.cell (World.block_lt_of_cell? w _ hx131_1)).trans hx131_1
        replace hx131_2 := (HB.out.cell (World.block_lt_of_cell? w _ hx131_2)).trans hx131_2
        replace hx131_3 := (HB.out.cell (World.block_lt_of_cell? w _ hx131_3)).trans hx131_3
        replace p131 := eq_true p131
        replace q131 := eq_true q131
        have p133 : 0 ≤ (x3_1 : Int) := of_decide_eq_true Hd.a_
        have q133 : x3_1 < (l0.length : Int) := of_decide_eq_true Hd.a_
        obtain ⟨ad133, e133, hx133_0, hx133_1, hx133_2, hx133_3⟩ := at_T77 HR0.out x3_1 p133 q133
        have hw133_3 := hx133_3
        have hw133_2 := hx133_2
        have hw133_1 := hx133_1
        have hw133_0 := hx133_0
        obtain rfl : ad129 = ad133 := (by injection e133)
        replace hx133_0 := (HB.out.cell (World.block_lt_of_cell? w _ hx133_0)).trans hx133_0
        replace hx133_1 := (HB.out.cell (World.block_lt_of_cell? w _ hx133_1)).trans hx133_1
        replace hx133_2 := (HB.out.cell (World.block_lt_of_cell? w _ hx133_2)).trans hx133_2
        replace hx133_3 := (HB.out.cell (World.block_lt_of_cell? w _ hx133_3)).trans hx133_3
        replace p133 := eq_true p133
        replace q133 := eq_true q133
        have s0_ := Hd.HW.x (W0 := wr.drew) ((HB.out.cell (World.block_lt_of_cell? w _ hw129_0)).trans hw129_0)
        have s1_ := Hd.HW.x (W0 := wr.drew) ((HB.out.cell (World.block_lt_of_cell? w _ hw129_1)).trans hw129_1)
        have s2_ := Hd.HW.x (W0 := wr.drew) ((HB.out.cell (World.block_lt_of_cell? w _ hw129_2)).trans hw129_2)
        have s3_ := Hd.HW.x (W0 := wr.drew) ((HB.out.cell (World.block_lt_of_cell? w _ hw129_3)).trans hw129_3)
        have s4_ := Hd.HW.x (W0 := wr.drew) ((HB.out.cell (World.block_lt_of_cell? w _ hw131_0)).trans hw131_0)
        have s5_ := Hd.HW.x (W0 := wr.drew) ((HB.out.cell (World.block_lt_of_cell? w _ hw131_1)).trans hw131_1)
        have s6_ := Hd.HW.x (W0 := wr.drew) ((HB.out.cell (World.block_lt_of_cell? w _ hw131_2)).trans hw131_2)
        have s7_ := Hd.HW.x (W0 := wr.drew) ((HB.out.cell (World.block_lt_of_cell? w _ hw131_3)).trans hw131_3)
        have s8_ := Hd.HW.x (W0 := wr.drew) ((HB.out.cell (World.block_lt_of_cell? w _ hw133_0)).trans hw133_0)
        have s9_ := Hd.HW.x (W0 := wr.drew) ((HB.out.cell (World.block_lt_of_cell? w _ hw133_1)).trans hw133_1)
        have s10_ := Hd.HW.x (W0 := wr.drew) ((HB.out.cell (World.block_lt_of_cell? w _ hw133_2)).trans hw133_2)
        have s11_ := Hd.HW.x (W0 := wr.drew) ((HB.out.cell (World.block_lt_of_cell? w _ hw133_3)).trans hw133_3)
        refine Hd.HW.region (by kernel_rfl) (by kernel_rfl) ?_
        try dsimp only [List.append]
        repeat (go_big_quiet_step ((first | (go_at_call 82; with_reducible exact Hd.HW.d (spec_l1In.calls ((rd_T77 l0 x3_1).f0) 1 99 true _ A4.out)) | (go_at_call 115; with_reducible exact Hd.HW.c (spec_IsPoint.calls ((rd_T77 l0 x3_1).f1.f0) ((rd_T77 l0 x3_1).f1.f1) true _ A6.out)) | (go_at_call 82; with_reducible exact Hd.HW.d (spec_l1In.calls ((rd_T77 l0 x3_1).f2) 0 9 false _ A8.out)))))
        refine wpQuiet_nil ?_
        intro _ hq_
        obtain ⟨q_, rfl⟩ := hq_
        clear s0_ s1_ s2_ s3_ s4_ s5_ s6_ s7_ s8_ s9_ s10_ s11_
        replace HB := Aside0.mk (below_step HB.out q_.b)
        replace hx129_0 := q_.cell hx129_0
        replace hx129_1 := q_.cell hx129_1
        replace hx129_2 := q_.cell hx129_2
        replace hx129_3 := q_.cell hx129_3
        replace hx131_0 := q_.cell hx131_0
        replace hx131_1 := q_.cell hx131_1
        replace hx131_2 := q_.cell hx131_2
        replace hx131_3 := q_.cell hx131_3
        replace hx133_0 := q_.cell hx133_0
        replace hx133_1 := q_.cell hx133_1
        replace hx133_2 := q_.cell hx133_2
        replace hx133_3 := q_.cell hx133_3
        generalize q_.W = w22 at HB hx129_0 hx129_1 hx129_2 hx129_3 hx131_0 hx131_1 hx131_2 hx131_3 hx133_0 hx133_1 hx133_2 hx133_3 ⊢
        try simp only [i64_w, i32_w]
        try go_wp2
        go_ret
        exact ⟨Hd.e_, Hd.b_⟩
      ·
       replace c7 := Bool.eq_false_iff.mpr c7
       subst c7
       have H1 : (some false) = some r := by rw [if_neg (show ¬ (false = true) by decide)] at H; exact H
       clear H
       have H := H1
       clear H1
       obtain rfl := Option.some.inj H
       try go_wp2
       replace HB := Aside0.mk (below_drew1 HB.out)
       have p129 : 0 ≤ (x3_1 : Int) := of_decide_eq_true Hd.a_
       have q129 : x3_1 < (l0.length : Int) := of_decide_eq_true Hd.a_
       obtain ⟨ad129, e129, hx129_0, hx129_1, hx129_2, hx129_3⟩ := at_T77 HR0.out x3_1 p129 q129
       have hw129_3 := hx129_3
       have hw129_2 := hx129_2
       have hw129_1 := hx129_1
       have hw129_0 := hx129_0
       cases e129
       replace hx129_0 := (HB.out.cell (World.block_lt_of_cell? w _ hx129_0)).trans hx129_0
       replace hx129_1 := (HB.out.cell (World.block_lt_of_cell? w _ hx129_1)).trans hx129_1
       replace hx129_2 := (HB.out.cell (World.block_lt_of_cell? w _ hx129_2)).trans hx129_2
       replace hx129_3 := (HB.out.cell (World.block_lt_of_cell? w _ hx129_3)).trans hx129_3
       replace p129 := eq_true p129
       replace q129 := eq_true q129
       have p131 : 0 ≤ (x3_1 : Int) := of_decide_eq_true Hd.a_
       have q131 : x3_1 < (l0.length : Int) := of_decide_eq_true Hd.a_
       obtain ⟨ad131, e131, hx131_0, hx131_1, hx131_2, hx131_3⟩ := at_T77 HR0.out x3_1 p131 q131
       have hw131_3 := hx131_3
       have hw131_2 := hx131_2
       have hw131_1 := hx131_1
       have hw131_0 := hx131_0
       obtain rfl : ad129 = ad131 := (by injection e131)
       replace hx131_0 := (HB.out.cell (World.block_lt_of_cell? w _ hx131_0)).trans hx131_0
       replace hx131_1 := (HB.out.cell (World.block_lt_of_cell? w _ hx131_1)).trans hx131_1
       replace hx131_2 := (HB.out.cell (World.block_lt_of_cell? w _ hx131_2)).trans hx131_2
       replace hx131_3 := (HB.out.cell (World.block_lt_of_cell? w _ hx131_3)).trans hx131_3
       replace p131 := eq_true p131
       replace q131 := eq_true q131
       have s0_ := Hd.HW.x (W0 := wr.drew) ((HB.out.cell (World.block_lt_of_cell? w _ hw129_0)).trans hw129_0)
       have s1_ := Hd.HW.x (W0 := wr.drew) ((HB.out.cell (World.block_lt_of_cell? w _ hw129_1)).trans hw129_1)
       have s2_ := Hd.HW.x (W0 := wr.drew) ((HB.out.cell (World.block_lt_of_cell? w _ hw129_2)).trans hw129_2)
       have s3_ := Hd.HW.x (W0 := wr.drew) ((HB.out.cell (World.block_lt_of_cell? w _ hw129_3)).trans hw129_3)
       have s4_ := Hd.HW.x (W0 := wr.drew) ((HB.out.cell (World.block_lt_of_cell? w _ hw131_0)).trans hw131_0)
       have s5_ := Hd.HW.x (W0 := wr.drew) ((HB.out.cell (World.block_lt_of_cell? w _ hw131_1)).trans hw131_1)
       have s6_ := Hd.HW.x (W0 := wr.drew) ((HB.out.cell (World.block_lt_of_cell? w _ hw131_2)).trans hw131_2)
       have s7_ := Hd.HW.x (W0 := wr.drew) ((HB.out.cell (World.block_lt_of_cell? w _ hw131_3)).trans hw131_3)
       refine Hd.HW.region (by kernel_rfl) (by kernel_rfl) ?_
       try dsimp only [List.append]
       repeat (go_big_quiet_step ((first | (go_at_call 82; with_reducible exact Hd.HW.d (spec_l1In.calls ((rd_T77 l0 x3_1).f0) 1 99 true _ A4.out)) | (go_at_call 115; with_reducible exact Hd.HW.c (spec_IsPoint.calls ((rd_T77 l0 x3_1).f1.f0) ((rd_T77 l0 x3_1).f1.f1) false _ A6.out)))))
       refine wpQuiet_nil ?_
       intro _ hq_
       obtain ⟨q_, rfl⟩ := hq_
       clear s0_ s1_ s2_ s3_ s4_ s5_ s6_ s7_
       replace HB := Aside0.mk (below_step HB.out q_.b)
       replace hx129_0 := q_.cell hx129_0
       replace hx129_1 := q_.cell hx129_1
       replace hx129_2 := q_.cell hx129_2
       replace hx129_3 := q_.cell hx129_3
       replace hx131_0 := q_.cell hx131_0
       replace hx131_1 := q_.cell hx131_1
       replace hx131_2 := q_.cell hx131_2
       replace hx131_3 := q_.cell hx131_3
       generalize q_.W = w24 at HB hx129_0 hx129_1 hx129_2 hx129_3 hx131_0 hx131_1 hx131_2 hx131_3 ⊢
       try simp only [i64_w, i32_w]
       try go_wp2
       go_ret
       exact ⟨Hd.e_, Hd.b_⟩
     ·
      replace c5 := Bool.eq_false_iff.mpr c5
      subst c5
      have H1 : (some false) = some r := by rw [if_neg (show ¬ (false = true) by decide)] at H; exact H
      clear H
      have H := H1
      clear H1
      obtain rfl := Option.some.inj H
      try go_wp2
      replace HB := Aside0.mk (below_drew1 HB.out)
      have p129 : 0 ≤ (x3_1 : Int) := of_decide_eq_true Hd.a_
      have q129 : x3_1 < (l0.length : Int) := of_decide_eq_true Hd.a_
      obtain ⟨ad129, e129, hx129_0, hx129_1, hx129_2, hx129_3⟩ := at_T77 HR0.out x3_1 p129 q129
      have hw129_3 := hx129_3
      have hw129_2 := hx129_2
      have hw129_1 := hx129_1
      have hw129_0 := hx129_0
      cases e129
      replace hx129_0 := (HB.out.cell (World.block_lt_of_cell? w _ hx129_0)).trans hx129_0
      replace hx129_1 := (HB.out.cell (World.block_lt_of_cell? w _ hx129_1)).trans hx129_1
      replace hx129_2 := (HB.out.cell (World.block_lt_of_cell? w _ hx129_2)).trans hx129_2
      replace hx129_3 := (HB.out.cell (World.block_lt_of_cell? w _ hx129_3)).trans hx129_3
      replace p129 := eq_true p129
      replace q129 := eq_true q129
      have s0_ := Hd.HW.x (W0 := wr.drew) ((HB.out.cell (World.block_lt_of_cell? w _ hw129_0)).trans hw129_0)
      have s1_ := Hd.HW.x (W0 := wr.drew) ((HB.out.cell (World.block_lt_of_cell? w _ hw129_1)).trans hw129_1)
      have s2_ := Hd.HW.x (W0 := wr.drew) ((HB.out.cell (World.block_lt_of_cell? w _ hw129_2)).trans hw129_2)
      have s3_ := Hd.HW.x (W0 := wr.drew) ((HB.out.cell (World.block_lt_of_cell? w _ hw129_3)).trans hw129_3)
      refine Hd.HW.region (by kernel_rfl) (by kernel_rfl) ?_
      try dsimp only [List.append]
      repeat (go_big_quiet_step ((first | (go_at_call 82; with_reducible exact Hd.HW.d (spec_l1In.calls ((rd_T77 l0 x3_1).f0) 1 99 false _ A4.out)))))
      refine wpQuiet_nil ?_
      intro _ hq_
      obtain ⟨q_, rfl⟩ := hq_
      clear s0_ s1_ s2_ s3_
      replace HB := Aside0.mk (below_step HB.out q_.b)
      replace hx129_0 := q_.cell hx129_0
      replace hx129_1 := q_.cell hx129_1
      replace hx129_2 := q_.cell hx129_2
      replace hx129_3 := q_.cell hx129_3
      generalize q_.W = w25 at HB hx129_0 hx129_1 hx129_2 hx129_3 ⊢
      try simp only [i64_w, i32_w]
      try go_wp2
      go_ret
      exact ⟨Hd.e_, Hd.b_⟩
    ·
     rw [if_neg c3] at H
     exact absurd H (by simp)
   ·
    rw [if_neg c2] at H
    have c2b0 : decide (x3_1 < (l0.length : Int)) = false := decide_eq_false c2
    clear c2
    obtain rfl := Option.some.inj H
    go_wp2
    go_ret
    exact ⟨Hd.e_, Hd.b_⟩
def spec_IsAbove.f (a0_0 : Int) (a0_1 : Int) (a0_2 : Int) (a0_3 : Int) (a1_0 : Int) (a1_1 : Int) (a1_2 : Int) (a1_3 : Int) : Option (Bool) := if a0_3 > a1_3 then (some true) else (if a0_3 = a1_3 then (some (decide (a0_0 < a1_0))) else (some false))
set_option maxHeartbeats 8000000 in
set_option maxRecDepth 100000 in
theorem spec_IsAbove.calls (a0_0 : Int) (a0_1 : Int) (a0_2 : Int) (a0_3 : Int) (a1_0 : Int) (a1_1 : Int) (a1_2 : Int) (a1_3 : Int) (r : Bool) (w : World) (h : spec_IsAbove.f a0_0 a0_1 a0_2 a0_3 a1_0 a1_1 a1_2 a1_3 = some r) :
  Calls Try.prog 85 #[.agg #[.int .i64 a0_0, .int .i64 a0_1, .int .i64 a0_2, .int .i64 a0_3], .agg #[.int .i64 a1_0, .int .i64 a1_1, .int .i64 a1_2, .int .i64 a1_3]] w fun e w' => e = .returned (.bool r) ∧ Below w.heap.size w w' := by
 have hu77 := Try.underlying77
 have HB := Aside0.mk (Below.refl w.heap.size w)
 have H : (if a0_3 > a1_3 then (some true) else (if a0_3 = a1_3 then (some (decide (a0_0 < a1_0))) else (some false))) = some r := h
 clear h
 by_cases c3 : a0_3 > a1_3
 ·
  rw [if_pos c3] at H
  have c3b0 : decide (a1_3 < a0_3) = true := decide_eq_true c3
  clear c3
  obtain rfl := Option.some.inj H
  go_enter Try.func85, Try.ntmps85
  go_wp2_with (first | ((with_reducible refine gate_dst (N := 2) rfl ?_); refine Hd.box_ 2 (#[.int .i64 a0_0, .int .i64 a0_1, .int .i64 a0_2, .int .i64 a0_3]) 77 ?_; intro gb137 hg w4 hbox hb; have BK137 := Aside0.mk (hbox); have GW137 := Aside0.mk ((Hd.g_ hg Hd.b_ : w.heap.size ≤ gb137)); have GE137 := Aside0.mk ((Hd.g_ hg Hd.b_ : w.heap.size ≤ gb137)); replace HB := Aside0.mk (below_step Hd.b_ hb); clear hb hbox hg) | ((with_reducible refine gate_dst (N := 3) rfl ?_); refine Hd.box_ 3 (#[.int .i64 a1_0, .int .i64 a1_1, .int .i64 a1_2, .int .i64 a1_3]) 77 ?_; intro gb138 hg w5 hbox hb; have BK138 := Aside0.mk (hbox); have GW138 := Aside0.mk ((Hd.g_ hg Hd.b_ : w.heap.size ≤ gb138)); have GE138 := Aside0.mk ((Hd.g_ hg Hd.b_ : w.heap.size ≤ gb138)); replace HB := Aside0.mk (below_step Hd.b_ hb); have NB137_138 := Aside0.mk ((Hd.lt_ BK137 hg)); have NB138_137 := Aside0.mk ((Hd.gt_ BK137 hg)); replace BK137 := Aside0.mk (Hd.kb_ BK137 hb); clear hb hbox hg; have hnb6 := NB137_138.out; have hnc6 := NB138_137.out; obtain ⟨hcz7_0, hcz7_1, hcz7_2, hcz7_3⟩ := Hd.c4_ BK137.out; obtain ⟨hfz7_0, hfz7_1, hfz7_2, hfz7_3⟩ := Hd.f4_ BK137.out; obtain ⟨hcz8_0, hcz8_1, hcz8_2, hcz8_3⟩ := Hd.c4_ BK138.out; obtain ⟨hfz8_0, hfz8_1, hfz8_2, hfz8_3⟩ := Hd.f4_ BK138.out))
  go_ret
  exact ⟨Hd.e_, Hd.b_⟩
 ·
  rw [if_neg c3] at H
  have c3b0 : decide (a1_3 < a0_3) = false := decide_eq_false c3
  clear c3
  by_cases c9 : a0_3 = a1_3
  ·
   rw [if_pos c9] at H
   have c9b0 : (a0_3 == a1_3) = true := beq_iff_eq.mpr c9
   have c9b1 : (a0_3 != a1_3) = false := bne_eq_false_iff_eq.mpr c9
   clear c9
   obtain rfl := Option.some.inj H
   go_enter Try.func85, Try.ntmps85
   go_wp2_with (first | ((with_reducible refine gate_dst (N := 2) rfl ?_); refine Hd.box_ 2 (#[.int .i64 a0_0, .int .i64 a0_1, .int .i64 a0_2, .int .i64 a0_3]) 77 ?_; intro gb137 hg w10 hbox hb; have BK137 := Aside0.mk (hbox); have GW137 := Aside0.mk ((Hd.g_ hg Hd.b_ : w.heap.size ≤ gb137)); have GE137 := Aside0.mk ((Hd.g_ hg Hd.b_ : w.heap.size ≤ gb137)); replace HB := Aside0.mk (below_step Hd.b_ hb); clear hb hbox hg) | ((with_reducible refine gate_dst (N := 3) rfl ?_); refine Hd.box_ 3 (#[.int .i64 a1_0, .int .i64 a1_1, .int .i64 a1_2, .int .i64 a1_3]) 77 ?_; intro gb138 hg w11 hbox hb; have BK138 := Aside0.mk (hbox); have GW138 := Aside0.mk ((Hd.g_ hg Hd.b_ : w.heap.size ≤ gb138)); have GE138 := Aside0.mk ((Hd.g_ hg Hd.b_ : w.heap.size ≤ gb138)); replace HB := Aside0.mk (below_step Hd.b_ hb); have NB137_138 := Aside0.mk ((Hd.lt_ BK137 hg)); have NB138_137 := Aside0.mk ((Hd.gt_ BK137 hg)); replace BK137 := Aside0.mk (Hd.kb_ BK137 hb); clear hb hbox hg; have hnb12 := NB137_138.out; have hnc12 := NB138_137.out; obtain ⟨hcz13_0, hcz13_1, hcz13_2, hcz13_3⟩ := Hd.c4_ BK137.out; obtain ⟨hfz13_0, hfz13_1, hfz13_2, hfz13_3⟩ := Hd.f4_ BK137.out; obtain ⟨hcz14_0, hcz14_1, hcz14_2, hcz14_3⟩ := Hd.c4_ BK138.out; obtain ⟨hfz14_0, hfz14_1, hfz14_2, hfz14_3⟩ := Hd.f4_ BK138.out))
   go_ret
   exact ⟨Hd.e_, Hd.b_⟩
  ·
   rw [if_neg c9] at H
   have c9b0 : (a0_3 == a1_3) = false := beq_eq_false_iff_ne.mpr c9
   have c9b1 : (a0_3 != a1_3) = true := bne_iff_ne.mpr c9
   obtain rfl := Option.some.inj H
   go_enter Try.func85, Try.ntmps85
   go_wp2_with (first | ((with_reducible refine gate_dst (N := 2) rfl ?_); refine Hd.box_ 2 (#[.int .i64 a0_0, .int .i64 a0_1, .int .i64 a0_2, .int .i64 a0_3]) 77 ?_; intro gb137 hg w15 hbox hb; have BK137 := Aside0.mk (hbox); have GW137 := Aside0.mk ((Hd.g_ hg Hd.b_ : w.heap.size ≤ gb137)); have GE137 := Aside0.mk ((Hd.g_ hg Hd.b_ : w.heap.size ≤ gb137)); replace HB := Aside0.mk (below_step Hd.b_ hb); clear hb hbox hg) | ((with_reducible refine gate_dst (N := 3) rfl ?_); refine Hd.box_ 3 (#[.int .i64 a1_0, .int .i64 a1_1, .int .i64 a1_2, .int .i64 a1_3]) 77 ?_; intro gb138 hg w16 hbox hb; have BK138 := Aside0.mk (hbox); have GW138 := Aside0.mk ((Hd.g_ hg Hd.b_ : w.heap.size ≤ gb138)); have GE138 := Aside0.mk ((Hd.g_ hg Hd.b_ : w.heap.size ≤ gb138)); replace HB := Aside0.mk (below_step Hd.b_ hb); have NB137_138 := Aside0.mk ((Hd.lt_ BK137 hg)); have NB138_137 := Aside0.mk ((Hd.gt_ BK137 hg)); replace BK137 := Aside0.mk (Hd.kb_ BK137 hb); clear hb hbox hg; have hnb17 := NB137_138.out; have hnc17 := NB138_137.out; obtain ⟨hcz18_0, hcz18_1, hcz18_2, hcz18_3⟩ := Hd.c4_ BK137.out; obtain ⟨hfz18_0, hfz18_1, hfz18_2, hfz18_3⟩ := Hd.f4_ BK137.out; obtain ⟨hcz19_0, hcz19_1, hcz19_2, hcz19_3⟩ := Hd.c4_ BK138.out; obtain ⟨hfz19_0, hfz19_1, hfz19_2, hfz19_3⟩ := Hd.f4_ BK138.out))
   go_ret
   exact ⟨Hd.e_, Hd.b_⟩
def spec_FarSquared.f (a0_0 : Int) (a0_1 : Int) (a1_0 : Int) (a1_1 : Int) : Option (Int) := (spec_IsPoint.f a0_0 a0_1).bind fun t141 => (if t141 = true then ((spec_IsPoint.f a1_0 a1_1).bind fun t142 => (if t142 = true then (some (wrap64 ((wrap64 ((wrap64 (a0_0 - a1_0)) * (wrap64 (a0_0 - a1_0)))) + (wrap64 ((wrap64 (a0_1 - a1_1)) * (wrap64 (a0_1 - a1_1))))))) else (some (-1)))) else (some (-1)))
set_option maxHeartbeats 8000000 in
set_option maxRecDepth 100000 in
theorem spec_FarSquared.calls (a0_0 : Int) (a0_1 : Int) (a1_0 : Int) (a1_1 : Int) (r : Int) (w : World) (h : spec_FarSquared.f a0_0 a0_1 a1_0 a1_1 = some r) :
  Calls Try.prog 86 #[.agg #[.int .i64 a0_0, .int .i64 a0_1], .agg #[.int .i64 a1_0, .int .i64 a1_1]] w fun e w' => e = .returned (.int .i64 r) ∧ Below w.heap.size w w' := by
 have hu75 := Try.underlying75
 have HB := Aside0.mk (Below.refl w.heap.size w)
 have H : ((spec_IsPoint.f a0_0 a0_1).bind fun t141 => (if t141 = true then ((spec_IsPoint.f a1_0 a1_1).bind fun t142 => (if t142 = true then (some (wrap64 ((wrap64 ((wrap64 (a0_0 - a1_0)) * (wrap64 (a0_0 - a1_0)))) + (wrap64 ((wrap64 (a0_1 - a1_1)) * (wrap64 (a0_1 - a1_1))))))) else (some (-1)))) else (some (-1)))) = some r := h
 clear h
 replace H := Option.bind_eq_some_iff.mp H
 obtain ⟨t141, A30, H⟩ := H
 replace H : (if t141 = true then ((spec_IsPoint.f a1_0 a1_1).bind fun t142 => (if t142 = true then (some (wrap64 ((wrap64 ((wrap64 (a0_0 - a1_0)) * (wrap64 (a0_0 - a1_0)))) + (wrap64 ((wrap64 (a0_1 - a1_1)) * (wrap64 (a0_1 - a1_1))))))) else (some (-1)))) else (some (-1))) = some r := H
 have A3 := Aside0.mk A30
 clear A30
 by_cases c4 : t141 = true
 ·
  subst c4
  have H1 : ((spec_IsPoint.f a1_0 a1_1).bind fun t142 => (if t142 = true then (some (wrap64 ((wrap64 ((wrap64 (a0_0 - a1_0)) * (wrap64 (a0_0 - a1_0)))) + (wrap64 ((wrap64 (a0_1 - a1_1)) * (wrap64 (a0_1 - a1_1))))))) else (some (-1)))) = some r := by rw [if_pos rfl] at H; exact H
  clear H
  have H := H1
  clear H1
  replace H := Option.bind_eq_some_iff.mp H
  obtain ⟨t142, A50, H⟩ := H
  replace H : (if t142 = true then (some (wrap64 ((wrap64 ((wrap64 (a0_0 - a1_0)) * (wrap64 (a0_0 - a1_0)))) + (wrap64 ((wrap64 (a0_1 - a1_1)) * (wrap64 (a0_1 - a1_1))))))) else (some (-1))) = some r := H
  have A5 := Aside0.mk A50
  clear A50
  by_cases c6 : t142 = true
  ·
   subst c6
   have H1 : (some (wrap64 ((wrap64 ((wrap64 (a0_0 - a1_0)) * (wrap64 (a0_0 - a1_0)))) + (wrap64 ((wrap64 (a0_1 - a1_1)) * (wrap64 (a0_1 - a1_1))))))) = some r := by rw [if_pos rfl] at H; exact H
   clear H
   have H := H1
   clear H1
   obtain rfl := Option.some.inj H
   go_enter Try.func86, Try.ntmps86
   go_wp2_with (first | ((with_reducible refine gate_dst (N := 2) rfl ?_); refine Hd.box_ 2 (#[.int .i64 a0_0, .int .i64 a0_1]) 75 ?_; intro gb139 hg w7 hbox hb; have BK139 := Aside0.mk (hbox); have GW139 := Aside0.mk ((Hd.g_ hg Hd.b_ : w.heap.size ≤ gb139)); have GE139 := Aside0.mk ((Hd.g_ hg Hd.b_ : w.heap.size ≤ gb139)); replace HB := Aside0.mk (below_step Hd.b_ hb); clear hb hbox hg) | ((with_reducible refine gate_dst (N := 3) rfl ?_); refine Hd.box_ 3 (#[.int .i64 a1_0, .int .i64 a1_1]) 75 ?_; intro gb140 hg w8 hbox hb; have BK140 := Aside0.mk (hbox); have GW140 := Aside0.mk ((Hd.g_ hg Hd.b_ : w.heap.size ≤ gb140)); have GE140 := Aside0.mk ((Hd.g_ hg Hd.b_ : w.heap.size ≤ gb140)); replace HB := Aside0.mk (below_step Hd.b_ hb); have NB139_140 := Aside0.mk ((Hd.lt_ BK139 hg)); have NB140_139 := Aside0.mk ((Hd.gt_ BK139 hg)); replace BK139 := Aside0.mk (Hd.kb_ BK139 hb); clear hb hbox hg; have hnb9 := NB139_140.out; have hnc9 := NB140_139.out; obtain ⟨hcz10_0, hcz10_1⟩ := Hd.c2_ BK139.out; obtain ⟨hfz10_0, hfz10_1⟩ := Hd.f2_ BK139.out) | ((with_reducible refine gate_callee (f := 115) rfl ?_); refine goesL_ (some 6) rfl rfl Try.func115 (by kernel_rfl) rfl #[.agg #[.int .i64 a0_0, .int .i64 a0_1]] rfl Hd.m_ ?_; (with_reducible refine (spec_IsPoint.calls a0_0 a0_1 true _ A3.out).mono ?_); rintro e w11 ⟨rfl, hb⟩; refine ⟨_, rfl, ?_⟩; replace BK139 := Aside0.mk (Hd.kb_ BK139 hb); replace BK140 := Aside0.mk (Hd.kb_ BK140 hb); replace HB := Aside0.mk (below_step Hd.b_ hb); (try clear hb); (try clear hb2); (try clear hk); (try clear hi); obtain ⟨hcz12_0, hcz12_1⟩ := Hd.c2_ BK140.out; obtain ⟨hfz12_0, hfz12_1⟩ := Hd.f2_ BK140.out) | (go_at_call 115; (with_reducible refine (spec_IsPoint.calls a1_0 a1_1 true _ A5.out).mono ?_); rintro e w13 ⟨rfl, hb⟩; replace BK139 := Aside0.mk (Hd.kb_ BK139 hb); replace BK140 := Aside0.mk (Hd.kb_ BK140 hb); replace HB := Aside0.mk (below_step Hd.b_ hb); (try clear hb); (try clear hb2); (try clear hk); (try clear hi); obtain ⟨hcz14_0, hcz14_1⟩ := Hd.c2_ BK139.out; obtain ⟨hfz14_0, hfz14_1⟩ := Hd.f2_ BK139.out; obtain ⟨hcz15_0, hcz15_1⟩ := Hd.c2_ BK140.out; obtain ⟨hfz15_0, hfz15_1⟩ := Hd.f2_ BK140.out))
   go_ret
   exact ⟨Hd.e_, Hd.b_⟩
  ·
   replace c6 := Bool.eq_false_iff.mpr c6
   subst c6
   have H1 : (some (-1)) = some r := by rw [if_neg (show ¬ (false = true) by decide)] at H; exact H
   clear H
   have H := H1
   clear H1
   obtain rfl := Option.some.inj H
   go_enter Try.func86, Try.ntmps86
   go_wp2_with (first | ((with_reducible refine gate_dst (N := 2) rfl ?_); refine Hd.box_ 2 (#[.int .i64 a0_0, .int .i64 a0_1]) 75 ?_; intro gb139 hg w16 hbox hb; have BK139 := Aside0.mk (hbox); have GW139 := Aside0.mk ((Hd.g_ hg Hd.b_ : w.heap.size ≤ gb139)); have GE139 := Aside0.mk ((Hd.g_ hg Hd.b_ : w.heap.size ≤ gb139)); replace HB := Aside0.mk (below_step Hd.b_ hb); clear hb hbox hg) | ((with_reducible refine gate_dst (N := 3) rfl ?_); refine Hd.box_ 3 (#[.int .i64 a1_0, .int .i64 a1_1]) 75 ?_; intro gb140 hg w17 hbox hb; have BK140 := Aside0.mk (hbox); have GW140 := Aside0.mk ((Hd.g_ hg Hd.b_ : w.heap.size ≤ gb140)); have GE140 := Aside0.mk ((Hd.g_ hg Hd.b_ : w.heap.size ≤ gb140)); replace HB := Aside0.mk (below_step Hd.b_ hb); have NB139_140 := Aside0.mk ((Hd.lt_ BK139 hg)); have NB140_139 := Aside0.mk ((Hd.gt_ BK139 hg)); replace BK139 := Aside0.mk (Hd.kb_ BK139 hb); clear hb hbox hg; have hnb18 := NB139_140.out; have hnc18 := NB140_139.out; obtain ⟨hcz19_0, hcz19_1⟩ := Hd.c2_ BK139.out; obtain ⟨hfz19_0, hfz19_1⟩ := Hd.f2_ BK139.out) | ((with_reducible refine gate_callee (f := 115) rfl ?_); refine goesL_ (some 6) rfl rfl Try.func115 (by kernel_rfl) rfl #[.agg #[.int .i64 a0_0, .int .i64 a0_1]] rfl Hd.m_ ?_; (with_reducible refine (spec_IsPoint.calls a0_0 a0_1 true _ A3.out).mono ?_); rintro e w20 ⟨rfl, hb⟩; refine ⟨_, rfl, ?_⟩; replace BK139 := Aside0.mk (Hd.kb_ BK139 hb); replace BK140 := Aside0.mk (Hd.kb_ BK140 hb); replace HB := Aside0.mk (below_step Hd.b_ hb); (try clear hb); (try clear hb2); (try clear hk); (try clear hi); obtain ⟨hcz21_0, hcz21_1⟩ := Hd.c2_ BK140.out; obtain ⟨hfz21_0, hfz21_1⟩ := Hd.f2_ BK140.out) | (go_at_call 115; (with_reducible refine (spec_IsPoint.calls a1_0 a1_1 false _ A5.out).mono ?_); rintro e w22 ⟨rfl, hb⟩; replace BK139 := Aside0.mk (Hd.kb_ BK139 hb); replace BK140 := Aside0.mk (Hd.kb_ BK140 hb); replace HB := Aside0.mk (below_step Hd.b_ hb); (try clear hb); (try clear hb2); (try clear hk); (try clear hi)))
   go_ret
   exact ⟨Hd.e_, Hd.b_⟩
 ·
  replace c4 := Bool.eq_false_iff.mpr c4
  subst c4
  have H1 : (some (-1)) = some r := by rw [if_neg (show ¬ (false = true) by decide)] at H; exact H
  clear H
  have H := H1
  clear H1
  obtain rfl := Option.some.inj H
  go_enter Try.func86, Try.ntmps86
  go_wp2_with (first | ((with_reducible refine gate_dst (N := 2) rfl ?_); refine Hd.box_ 2 (#[.int .i64 a0_0, .int .i64 a0_1]) 75 ?_; intro gb139 hg w23 hbox hb; have BK139 := Aside0.mk (hbox); have GW139 := Aside0.mk ((Hd.g_ hg Hd.b_ : w.heap.size ≤ gb139)); have GE139 := Aside0.mk ((Hd.g_ hg Hd.b_ : w.heap.size ≤ gb139)); replace HB := Aside0.mk (below_step Hd.b_ hb); clear hb hbox hg) | ((with_reducible refine gate_dst (N := 3) rfl ?_); refine Hd.box_ 3 (#[.int .i64 a1_0, .int .i64 a1_1]) 75 ?_; intro gb140 hg w24 hbox hb; have BK140 := Aside0.mk (hbox); have GW140 := Aside0.mk ((Hd.g_ hg Hd.b_ : w.heap.size ≤ gb140)); have GE140 := Aside0.mk ((Hd.g_ hg Hd.b_ : w.heap.size ≤ gb140)); replace HB := Aside0.mk (below_step Hd.b_ hb); have NB139_140 := Aside0.mk ((Hd.lt_ BK139 hg)); have NB140_139 := Aside0.mk ((Hd.gt_ BK139 hg)); replace BK139 := Aside0.mk (Hd.kb_ BK139 hb); clear hb hbox hg; have hnb25 := NB139_140.out; have hnc25 := NB140_139.out; obtain ⟨hcz26_0, hcz26_1⟩ := Hd.c2_ BK139.out; obtain ⟨hfz26_0, hfz26_1⟩ := Hd.f2_ BK139.out) | ((with_reducible refine gate_callee (f := 115) rfl ?_); refine goesL_ (some 6) rfl rfl Try.func115 (by kernel_rfl) rfl #[.agg #[.int .i64 a0_0, .int .i64 a0_1]] rfl Hd.m_ ?_; (with_reducible refine (spec_IsPoint.calls a0_0 a0_1 false _ A3.out).mono ?_); rintro e w27 ⟨rfl, hb⟩; refine ⟨_, rfl, ?_⟩; replace BK139 := Aside0.mk (Hd.kb_ BK139 hb); replace BK140 := Aside0.mk (Hd.kb_ BK140 hb); replace HB := Aside0.mk (below_step Hd.b_ hb); (try clear hb); (try clear hb2); (try clear hk); (try clear hi)))
  go_ret
  exact ⟨Hd.e_, Hd.b_⟩
end Go.Proofs.Ytbackoeakepngab.MFnExactThinPlaces
