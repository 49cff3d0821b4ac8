-- Laid by this session's program pp.py, after the kit's print and texts of the session's own. Not trusted: Lean checks it.
import Derived.Test.YtbackoeakepngaaZCountLeftOutMx0
import Derived.Test.YtbackoeakepngaaZCountLeftOutMx1
namespace Go.Proofs.Ytbackoeakepngaa.MFnExactCountLeftOut
open Go.RowKit Go.Proofs.YtbackoeakepngaaW.PrintWords Go.Proofs.YtbackoeakepngaaW.PrintLast Go.Proofs.YtbackoeakepngaaW.PrintMore
attribute [local go_sem] max2_int min2_int max_two min_two max_three min_three max_four min_four   -- for this text's walks alone
set_option linter.unusedVariables false
set_option linter.unusedSimpArgs false
attribute [local go_sem high] eqA27
def laws_szPointS.f (l0 : List (S87)) (a1 : Int) : Option (Int) := if (wrap64 (a1 - (l0.length : Int))) < 0 then (some (-1)) else (some (wrap64 (a1 - (l0.length : Int))))
set_option maxHeartbeats 8000000 in
set_option maxRecDepth 100000 in
theorem laws_szPointS.calls (A0 : Option Addr) (c0 : Nat) (l0 : List (S87)) (a1 : Int) (r : Int) (w : World) (hr0 : Kd.C k87 w A0 l0.length l0) (hc0 : l0.length ≤ c0) (h : laws_szPointS.f l0 a1 = some r) :
  Calls Try.prog 22 #[.slice A0 l0.length c0, .int .i64 a1] w fun e w' => e = .returned (.int .i64 r) ∧ Drawn0 w w' := by
 have HR0 := Aside0.mk hr0
 have HC0 := Aside0.mk hc0
 clear hr0 hc0
 have H : (if (wrap64 (a1 - (l0.length : Int))) < 0 then (some (-1)) else (some (wrap64 (a1 - (l0.length : Int))))) = some r := h
 clear h
 by_cases c3 : (wrap64 (a1 - (l0.length : Int))) < 0
 ·
  rw [if_pos c3] at H
  have c3b0 : decide ((wrap64 (a1 - (l0.length : Int))) < 0) = true := decide_eq_true c3
  clear c3
  obtain rfl := Option.some.inj H
  go_enter Try.func22, Try.ntmps22
  go_wp2
  go_ret
  exact ⟨by first | rfl | (simp; done) | (simp [*]; done), by repeat (first | exact Drawn0.refl _ | apply Drawn0.step)⟩
 ·
  rw [if_neg c3] at H
  have c3b0 : decide ((wrap64 (a1 - (l0.length : Int))) < 0) = false := decide_eq_false c3
  clear c3
  obtain rfl := Option.some.inj H
  go_enter Try.func22, Try.ntmps22
  go_wp2
  go_ret
  exact ⟨by first | rfl | (simp; done) | (simp [*]; done), by repeat (first | exact Drawn0.refl _ | apply Drawn0.step)⟩
def spec_l1In.f (a0 : Int) (a1 : Int) (a2 : Int) : Option (Bool) := if a0 ≥ a1 then (some (decide (a0 ≤ a2))) else (some false)
set_option maxHeartbeats 8000000 in
set_option maxRecDepth 100000 in
theorem spec_l1In.calls (a0 : Int) (a1 : Int) (a2 : Int) (r : Bool) (w : World) (h : spec_l1In.f a0 a1 a2 = some r) :
  Calls Try.prog 74 #[.int .i64 a0, .int .i64 a1, .int .i64 a2] w fun e w' => e = .returned (.bool r) ∧ Drawn0 w w' := by
 have H : (if a0 ≥ a1 then (some (decide (a0 ≤ a2))) else (some false)) = some r := h
 clear h
 by_cases c4 : a0 ≥ a1
 ·
  rw [if_pos c4] at H
  have c4b0 : decide (a1 ≤ a0) = true := decide_eq_true c4
  clear c4
  obtain rfl := Option.some.inj H
  go_enter Try.func74, Try.ntmps74
  go_wp2
  go_ret
  exact ⟨by first | rfl | (simp; done) | (simp [*]; done), by repeat (first | exact Drawn0.refl _ | apply Drawn0.step)⟩
 ·
  rw [if_neg c4] at H
  have c4b0 : decide (a1 ≤ a0) = false := decide_eq_false c4
  clear c4
  obtain rfl := Option.some.inj H
  go_enter Try.func74, Try.ntmps74
  go_wp2
  go_ret
  exact ⟨by first | rfl | (simp; done) | (simp [*]; done), by repeat (first | exact Drawn0.refl _ | apply Drawn0.step)⟩
def spec_IsPoint.f (a0_0 : Int) (a0_1 : Int) : Option (Bool) := (spec_l1In.f a0_0 0 200).bind fun t102 => (if t102 = true then ((spec_l1In.f a0_1 0 200).bind fun t103 => (some t103)) else (some false))
set_option maxHeartbeats 8000000 in
set_option maxRecDepth 100000 in
theorem spec_IsPoint.calls (a0_0 : Int) (a0_1 : Int) (r : Bool) (w : World) (h : spec_IsPoint.f a0_0 a0_1 = some r) :
  Calls Try.prog 102 #[.agg #[.int .i64 a0_0, .int .i64 a0_1]] w fun e w' => e = .returned (.bool r) ∧ Below w.heap.size w w' := by
 have hu27 := Try.underlying27
 have HB := Aside0.mk (Below.refl w.heap.size w)
 have H : ((spec_l1In.f a0_0 0 200).bind fun t102 => (if t102 = true then ((spec_l1In.f a0_1 0 200).bind fun t103 => (some t103)) else (some false))) = some r := h
 clear h
 replace H := Option.bind_eq_some_iff.mp H
 obtain ⟨t102, A20, H⟩ := H
 replace H : (if t102 = true then ((spec_l1In.f a0_1 0 200).bind fun t103 => (some t103)) else (some false)) = some r := H
 have A2 := Aside0.mk A20
 clear A20
 by_cases c3 : t102 = true
 ·
  subst c3
  have H1 : ((spec_l1In.f a0_1 0 200).bind fun t103 => (some t103)) = some r := by rw [if_pos rfl] at H; exact H
  clear H
  have H := H1
  clear H1
  replace H := Option.bind_eq_some_iff.mp H
  obtain ⟨t103, A40, H⟩ := H
  replace H : (some t103) = some r := H
  have A4 := Aside0.mk A40
  clear A40
  obtain rfl := Option.some.inj H
  go_enter Try.func102, Try.ntmps102
  go_wp2_with (first | ((with_reducible refine gate_dst (N := 1) rfl ?_); refine Hd.box_ 1 (#[.int .i64 a0_0, .int .i64 a0_1]) 27 ?_; intro gb101 hg w5 hbox hb; have BK101 := Aside0.mk (hbox); have GW101 := Aside0.mk ((Hd.g_ hg Hd.b_ : w.heap.size ≤ gb101)); have GE101 := Aside0.mk ((Hd.g_ hg Hd.b_ : w.heap.size ≤ gb101)); replace HB := Aside0.mk (below_step Hd.b_ hb); clear hb hbox hg; obtain ⟨hcz6_0, hcz6_1⟩ := Hd.c2_ BK101.out; obtain ⟨hfz6_0, hfz6_1⟩ := Hd.f2_ BK101.out) | ((with_reducible refine gate_callee (f := 74) rfl ?_); refine goesL_ (some 5) rfl rfl Try.func74 (by kernel_rfl) rfl #[.int .i64 a0_0, .int .i64 0, .int .i64 200] rfl Hd.m_ ?_; (with_reducible refine (spec_l1In.calls a0_0 0 200 true _ A2.out).mono ?_); rintro e w' ⟨rfl, ⟨nd, rfl⟩⟩; refine ⟨_, rfl, ?_⟩) | (go_at_call 74; (with_reducible refine (spec_l1In.calls a0_1 0 200 t103 _ A4.out).mono ?_); rintro e w' ⟨rfl, ⟨nd, rfl⟩⟩))
  go_ret
  exact ⟨Hd.e_, Hd.b_⟩
 ·
  replace c3 := Bool.eq_false_iff.mpr c3
  subst c3
  have H1 : (some false) = some r := by rw [if_neg (show ¬ (false = true) by decide)] at H; exact H
  clear H
  have H := H1
  clear H1
  obtain rfl := Option.some.inj H
  go_enter Try.func102, Try.ntmps102
  go_wp2_with (first | ((with_reducible refine gate_dst (N := 1) rfl ?_); refine Hd.box_ 1 (#[.int .i64 a0_0, .int .i64 a0_1]) 27 ?_; intro gb101 hg w7 hbox hb; have BK101 := Aside0.mk (hbox); have GW101 := Aside0.mk ((Hd.g_ hg Hd.b_ : w.heap.size ≤ gb101)); have GE101 := Aside0.mk ((Hd.g_ hg Hd.b_ : w.heap.size ≤ gb101)); replace HB := Aside0.mk (below_step Hd.b_ hb); clear hb hbox hg; obtain ⟨hcz8_0, hcz8_1⟩ := Hd.c2_ BK101.out; obtain ⟨hfz8_0, hfz8_1⟩ := Hd.f2_ BK101.out) | ((with_reducible refine gate_callee (f := 74) rfl ?_); refine goesL_ (some 5) rfl rfl Try.func74 (by kernel_rfl) rfl #[.int .i64 a0_0, .int .i64 0, .int .i64 200] rfl Hd.m_ ?_; (with_reducible refine (spec_l1In.calls a0_0 0 200 false _ A2.out).mono ?_); rintro e w' ⟨rfl, ⟨nd, rfl⟩⟩; refine ⟨_, rfl, ?_⟩))
  go_ret
  exact ⟨Hd.e_, Hd.b_⟩
def spec_IsLine.l0 : Nat → List (S27) → Int → Option (Bool)
 | 0, _, _ => none
 | k + 1, x0, x3 => if x3 < (x0.length : Int) then (if 0 ≤ x3 then ((spec_IsPoint.f ((rd_T27 x0 x3).f0) ((rd_T27 x0 x3).f1)).bind fun t105 => (if t105 = true then (if x3 > 0 then (if 0 ≤ (wrap64 (x3 - 1)) then (if (wrap64 (x3 - 1)) < (x0.length : Int) then (if (((rd_T27 x0 (wrap64 (x3 - 1))).f0) == ((rd_T27 x0 x3).f0) && (((rd_T27 x0 (wrap64 (x3 - 1))).f1) == ((rd_T27 x0 x3).f1))) = true then (some false) else (spec_IsLine.l0 k x0 (wrap64 (x3 + 1)))) else (none)) else (none)) else (spec_IsLine.l0 k x0 (wrap64 (x3 + 1)))) else (some false))) else (none)) else ((spec_l1In.f (x0.length : Int) 2 10).bind fun t108 => (some t108))
def spec_IsLine.f (k : Nat) (l0 : List (S27)) : Option (Bool) := spec_IsLine.l0 k l0 0
set_option maxHeartbeats 8000000 in
set_option maxRecDepth 100000 in
theorem spec_IsLine.calls (k : Nat) (A0 : Option Addr) (c0 : Nat) (l0 : List (S27)) (r : Bool) (w : World) (hr0 : Kd.C k27 w A0 l0.length l0) (hc0 : l0.length ≤ c0) (h : spec_IsLine.f k l0 = some r) :
  Calls Try.prog 73 #[.slice A0 l0.length c0] w fun e w' => e = .returned (.bool r) ∧ Below w.heap.size w w' := by
 have hu27 := Try.underlying27
 have HR0 := Aside0.mk hr0
 have HC0 := Aside0.mk hc0
 clear hr0 hc0
 have HB := Aside0.mk (Below.refl w.heap.size w)
 have H : (spec_IsLine.l0 k l0 0) = some r := h
 clear h
 have H' := Aside0.mk H
 clear H
 go_enter Try.func73, Try.ntmps73
 go_wp2
 go_loopg [3] k (fun kq v3 w' => ∃ (x3_1 : Int), v3 = .int .i64 x3_1 ∧ Aside0 (spec_IsLine.l0 kq l0 x3_1 = some r) ∧ Aside0 (kq ≤ k) ∧ Aside0 (Below w.heap.size w w'))
 case atStart => exact ⟨(0), (by first | rfl | (simp; done) | (simp [*]; done)), H', ⟨Nat.le_refl _⟩, ⟨Hd.b_⟩⟩
 case round =>
  clear H'
  obtain ⟨x3_1, rfl, HA, HK1, HB⟩ := hrel
  cases gk with
  | zero => exact absurd HA.out (by simp [spec_IsLine.l0])
  | succ k1 =>
   have H := HA.out
   clear HA
   simp only [spec_IsLine.l0] at H
   by_cases c2 : x3_1 < (l0.length : Int)
   ·
    rw [if_pos c2] at H
    have c2b0 : decide (x3_1 < (l0.length : Int)) = true := decide_eq_true c2
    clear c2
    by_cases c3 : 0 ≤ x3_1
    ·
     rw [if_pos c3] at H
     have c3b0 : decide (0 ≤ x3_1) = true := decide_eq_true c3
     clear c3
     replace H := Option.bind_eq_some_iff.mp H
     obtain ⟨t105, A40, H⟩ := H
     replace H : (if t105 = true then (if x3_1 > 0 then (if 0 ≤ (wrap64 (x3_1 - 1)) then (if (wrap64 (x3_1 - 1)) < (l0.length : Int) then (if (((rd_T27 l0 (wrap64 (x3_1 - 1))).f0) == ((rd_T27 l0 x3_1).f0) && (((rd_T27 l0 (wrap64 (x3_1 - 1))).f1) == ((rd_T27 l0 x3_1).f1))) = true then (some false) else (spec_IsLine.l0 k1 l0 (wrap64 (x3_1 + 1)))) else (none)) else (none)) else (spec_IsLine.l0 k1 l0 (wrap64 (x3_1 + 1)))) else (some false)) = some r := H
     have A4 := Aside0.mk A40
     clear A40
     by_cases c5 : t105 = true
     ·
      subst c5
      have H1 : (if x3_1 > 0 then (if 0 ≤ (wrap64 (x3_1 - 1)) then (if (wrap64 (x3_1 - 1)) < (l0.length : Int) then (if (((rd_T27 l0 (wrap64 (x3_1 - 1))).f0) == ((rd_T27 l0 x3_1).f0) && (((rd_T27 l0 (wrap64 (x3_1 - 1))).f1) == ((rd_T27 l0 x3_1).f1))) = true then (some false) else (spec_IsLine.l0 k1 l0 (wrap64 (x3_1 + 1)))) else (none)) else (none)) else (spec_IsLine.l0 k1 l0 (wrap64 (x3_1 + 1)))) = some r := by rw [if_pos rfl] at H; exact H
      clear H
      have H := H1
      clear H1
      by_cases c6 : x3_1 > 0
      ·
       rw [if_pos c6] at H
       have c6b0 : decide (0 < x3_1) = true := decide_eq_true c6
       clear c6
       obtain ⟨ji7, hji7⟩ : ∃ j_ : Int, (wrap64 (x3_1 - 1)) = j_ := ⟨_, rfl⟩
       replace H : (if 0 ≤ (ji7) then (if (ji7) < (l0.length : Int) then (if (((rd_T27 l0 (ji7)).f0) == ((rd_T27 l0 x3_1).f0) && (((rd_T27 l0 (ji7)).f1) == ((rd_T27 l0 x3_1).f1))) = true then (some false) else (spec_IsLine.l0 k1 l0 (wrap64 (x3_1 + 1)))) else (none)) else (none)) = some r := by first | (rw [hji7] at H; exact H) | (simp only [hji7] at H ⊢; exact H)
       (try rw [hji7] at A4)
       have hji7w : (IntKind.i64.wrap (x3_1 - 1)) = ji7 := (i64_w _).trans hji7
       by_cases c8 : 0 ≤ (ji7)
       ·
        rw [if_pos c8] at H
        have c8b0 : decide (0 ≤ (ji7)) = true := decide_eq_true c8
        clear c8
        by_cases c9 : (ji7) < (l0.length : Int)
        ·
         rw [if_pos c9] at H
         have c9b0 : decide ((ji7) < (l0.length : Int)) = true := decide_eq_true c9
         clear c9
         by_cases c10 : (((rd_T27 l0 (ji7)).f0) == ((rd_T27 l0 x3_1).f0) && (((rd_T27 l0 (ji7)).f1) == ((rd_T27 l0 x3_1).f1))) = true
         ·
          rw [if_pos c10] at H
          have c10b0 : (((rd_T27 l0 (ji7)).f0) == ((rd_T27 l0 x3_1).f0) && (((rd_T27 l0 (ji7)).f1) == ((rd_T27 l0 x3_1).f1))) = true := c10
          (try (have c10b1 : decide (((rd_T27 l0 (ji7)).f0) = ((rd_T27 l0 x3_1).f0) && (((rd_T27 l0 (ji7)).f1) == ((rd_T27 l0 x3_1).f1))) = true := by simpa using c10))
          (try (have c10b2 : (((rd_T27 l0 (ji7)).f0) == ((rd_T27 l0 x3_1).f0) && (((rd_T27 l0 (ji7)).f1) == ((rd_T27 l0 x3_1).f1))) = true := by simpa using c10))
          clear c10
          obtain rfl := Option.some.inj H
          try go_wp2
          replace HB := Aside0.mk (below_drew1 HB.out)
          have p104 : 0 ≤ (x3_1 : Int) := of_decide_eq_true Hd.a_
          have q104 : x3_1 < (l0.length : Int) := of_decide_eq_true Hd.a_
          obtain ⟨ad104, e104, hx104_0, hx104_1⟩ := at_T27 HR0.out x3_1 p104 q104
          have hw104_1 := hx104_1
          have hw104_0 := hx104_0
          cases e104
          replace hx104_0 := (HB.out.cell (World.block_lt_of_cell? w _ hx104_0)).trans hx104_0
          replace hx104_1 := (HB.out.cell (World.block_lt_of_cell? w _ hx104_1)).trans hx104_1
          replace p104 := eq_true p104
          replace q104 := eq_true q104
          have p106 : 0 ≤ ((ji7) : Int) := of_decide_eq_true Hd.a_
          have q106 : (ji7) < (l0.length : Int) := of_decide_eq_true Hd.a_
          obtain ⟨ad106, e106, hx106_0, hx106_1⟩ := at_T27 HR0.out (ji7) p106 q106
          have hw106_1 := hx106_1
          have hw106_0 := hx106_0
          obtain rfl : ad104 = ad106 := (by injection e106)
          replace hx106_0 := (HB.out.cell (World.block_lt_of_cell? w _ hx106_0)).trans hx106_0
          replace hx106_1 := (HB.out.cell (World.block_lt_of_cell? w _ hx106_1)).trans hx106_1
          replace p106 := eq_true p106
          replace q106 := eq_true q106
          have p107 : 0 ≤ (x3_1 : Int) := of_decide_eq_true Hd.a_
          have q107 : x3_1 < (l0.length : Int) := of_decide_eq_true Hd.a_
          obtain ⟨ad107, e107, hx107_0, hx107_1⟩ := at_T27 HR0.out x3_1 p107 q107
          have hw107_1 := hx107_1
          have hw107_0 := hx107_0
          obtain rfl : ad104 = ad107 := (by injection e107)
          replace hx107_0 := (HB.out.cell (World.block_lt_of_cell? w _ hx107_0)).trans hx107_0
          replace hx107_1 := (HB.out.cell (World.block_lt_of_cell? w _ hx107_1)).trans hx107_1
          replace p107 := eq_true p107
          replace q107 := eq_true q107
          have s0_ := Hd.HW.x (W0 := wr.drew) ((HB.out.cell (World.block_lt_of_cell? w _ hw104_0)).trans hw104_0)
          have s1_ := Hd.HW.x (W0 := wr.drew) ((HB.out.cell (World.block_lt_of_cell? w _ hw104_1)).trans hw104_1)
          have s2_ := Hd.HW.x (W0 := wr.drew) ((HB.out.cell (World.block_lt_of_cell? w _ hw106_0)).trans hw106_0)
          have s3_ := Hd.HW.x (W0 := wr.drew) ((HB.out.cell (World.block_lt_of_cell? w _ hw106_1)).trans hw106_1)
          have s4_ := Hd.HW.x (W0 := wr.drew) ((HB.out.cell (World.block_lt_of_cell? w _ hw107_0)).trans hw107_0)
          have s5_ := Hd.HW.x (W0 := wr.drew) ((HB.out.cell (World.block_lt_of_cell? w _ hw107_1)).trans hw107_1)
          refine Hd.HW.region (by kernel_rfl) (by kernel_rfl) ?_
          repeat (go_big_quiet_step ((first | (go_at_call 102; with_reducible exact Hd.HW.c (spec_IsPoint.calls ((rd_T27 l0 x3_1).f0) ((rd_T27 l0 x3_1).f1) true _ A4.out)))))
          refine wpQuiet_nil ?_
          intro _ hq_
          obtain ⟨q_, rfl⟩ := hq_
          clear s0_ s1_ s2_ s3_ s4_ s5_
          replace HB := Aside0.mk (below_step HB.out q_.b)
          replace hx104_0 := q_.cell hx104_0
          replace hx104_1 := q_.cell hx104_1
          replace hx106_0 := q_.cell hx106_0
          replace hx106_1 := q_.cell hx106_1
          replace hx107_0 := q_.cell hx107_0
          replace hx107_1 := q_.cell hx107_1
          generalize q_.W = w12 at HB hx104_0 hx104_1 hx106_0 hx106_1 hx107_0 hx107_1 ⊢
          try simp only [i64_w, i32_w]
          try go_wp2
          go_ret
          exact ⟨by first | rfl | (simp [errW_none, errW_some] <;> rfl) | (simp only [← hji7]; first | rfl | (simp [errW_none, errW_some] <;> rfl)) | (simp [*, errW_none, errW_some] <;> rfl), Hd.b_⟩
         ·
          rw [if_neg c10] at H
          have c10b0 : (((rd_T27 l0 (ji7)).f0) == ((rd_T27 l0 x3_1).f0) && (((rd_T27 l0 (ji7)).f1) == ((rd_T27 l0 x3_1).f1))) = false := by simpa using c10
          (try (have c10b1 : decide (((rd_T27 l0 (ji7)).f0) = ((rd_T27 l0 x3_1).f0) && (((rd_T27 l0 (ji7)).f1) == ((rd_T27 l0 x3_1).f1))) = false := by simpa using c10))
          (try (have c10b2 : (((rd_T27 l0 (ji7)).f0) == ((rd_T27 l0 x3_1).f0) && (((rd_T27 l0 (ji7)).f1) == ((rd_T27 l0 x3_1).f1))) = false := by simpa using c10))
          (try (have c10b3 : ¬ (((rd_T27 l0 (ji7)).f0) = ((rd_T27 l0 x3_1).f0) && (((rd_T27 l0 (ji7)).f1) == ((rd_T27 l0 x3_1).f1))) := by simpa using c10))
          clear c10
          have H' := Aside0.mk H
          clear H
          try go_wp2
          replace HB := Aside0.mk (below_drew1 HB.out)
          have p104 : 0 ≤ (x3_1 : Int) := of_decide_eq_true Hd.a_
          have q104 : x3_1 < (l0.length : Int) := of_decide_eq_true Hd.a_
          obtain ⟨ad104, e104, hx104_0, hx104_1⟩ := at_T27 HR0.out x3_1 p104 q104
          have hw104_1 := hx104_1
          have hw104_0 := hx104_0
          cases e104
          replace hx104_0 := (HB.out.cell (World.block_lt_of_cell? w _ hx104_0)).trans hx104_0
          replace hx104_1 := (HB.out.cell (World.block_lt_of_cell? w _ hx104_1)).trans hx104_1
          replace p104 := eq_true p104
          replace q104 := eq_true q104
          have p106 : 0 ≤ ((ji7) : Int) := of_decide_eq_true Hd.a_
          have q106 : (ji7) < (l0.length : Int) := of_decide_eq_true Hd.a_
          obtain ⟨ad106, e106, hx106_0, hx106_1⟩ := at_T27 HR0.out (ji7) p106 q106
          have hw106_1 := hx106_1
          have hw106_0 := hx106_0
          obtain rfl : ad104 = ad106 := (by injection e106)
          replace hx106_0 := (HB.out.cell (World.block_lt_of_cell? w _ hx106_0)).trans hx106_0
          replace hx106_1 := (HB.out.cell (World.block_lt_of_cell? w _ hx106_1)).trans hx106_1
          replace p106 := eq_true p106
          replace q106 := eq_true q106
          have p107 : 0 ≤ (x3_1 : Int) := of_decide_eq_true Hd.a_
          have q107 : x3_1 < (l0.length : Int) := of_decide_eq_true Hd.a_
          obtain ⟨ad107, e107, hx107_0, hx107_1⟩ := at_T27 HR0.out x3_1 p107 q107
          have hw107_1 := hx107_1
          have hw107_0 := hx107_0
          obtain rfl : ad104 = ad107 := (by injection e107)
          replace hx107_0 := (HB.out.cell (World.block_lt_of_cell? w _ hx107_0)).trans hx107_0
          replace hx107_1 := (HB.out.cell (World.block_lt_of_cell? w _ hx107_1)).trans hx107_1
          replace p107 := eq_true p107
          replace q107 := eq_true q107
          have s0_ := Hd.HW.x (W0 := wr.drew) ((HB.out.cell (World.block_lt_of_cell? w _ hw104_0)).trans hw104_0)
          have s1_ := Hd.HW.x (W0 := wr.drew) ((HB.out.cell (World.block_lt_of_cell? w _ hw104_1)).trans hw104_1)
          have s2_ := Hd.HW.x (W0 := wr.drew) ((HB.out.cell (World.block_lt_of_cell? w _ hw106_0)).trans hw106_0)
          have s3_ := Hd.HW.x (W0 := wr.drew) ((HB.out.cell (World.block_lt_of_cell? w _ hw106_1)).trans hw106_1)
          have s4_ := Hd.HW.x (W0 := wr.drew) ((HB.out.cell (World.block_lt_of_cell? w _ hw107_0)).trans hw107_0)
          have s5_ := Hd.HW.x (W0 := wr.drew) ((HB.out.cell (World.block_lt_of_cell? w _ hw107_1)).trans hw107_1)
          refine Hd.HW.region (by kernel_rfl) (by kernel_rfl) ?_
          repeat (go_big_quiet_step ((first | (go_at_call 102; with_reducible exact Hd.HW.c (spec_IsPoint.calls ((rd_T27 l0 x3_1).f0) ((rd_T27 l0 x3_1).f1) true _ A4.out)))))
          refine wpQuiet_nil ?_
          intro _ hq_
          obtain ⟨q_, rfl⟩ := hq_
          clear s0_ s1_ s2_ s3_ s4_ s5_
          replace HB := Aside0.mk (below_step HB.out q_.b)
          replace hx104_0 := q_.cell hx104_0
          replace hx104_1 := q_.cell hx104_1
          replace hx106_0 := q_.cell hx106_0
          replace hx106_1 := q_.cell hx106_1
          replace hx107_0 := q_.cell hx107_0
          replace hx107_1 := q_.cell hx107_1
          generalize q_.W = w14 at HB hx104_0 hx104_1 hx106_0 hx106_1 hx107_0 hx107_1 ⊢
          try simp only [i64_w, i32_w]
          try go_wp2
          go_roundg k1
          case measure => have := HK1.out; omega
          case rel => exact ⟨(wrap64 (x3_1 + 1)), (by first | rfl | (simp; done) | (simp [*]; done)), H', ⟨by have := HK1.out; omega⟩, ⟨Hd.b_⟩⟩
        ·
         rw [if_neg c9] at H
         exact absurd H (by simp)
       ·
        rw [if_neg c8] at H
        exact absurd H (by simp)
      ·
       rw [if_neg c6] at H
       have c6b0 : decide (0 < x3_1) = false := decide_eq_false c6
       clear c6
       have H' := Aside0.mk H
       clear H
       try go_wp2
       replace HB := Aside0.mk (below_drew1 HB.out)
       have p104 : 0 ≤ (x3_1 : Int) := of_decide_eq_true Hd.a_
       have q104 : x3_1 < (l0.length : Int) := of_decide_eq_true Hd.a_
       obtain ⟨ad104, e104, hx104_0, hx104_1⟩ := at_T27 HR0.out x3_1 p104 q104
       have hw104_1 := hx104_1
       have hw104_0 := hx104_0
       cases e104
       replace hx104_0 := (HB.out.cell (World.block_lt_of_cell? w _ hx104_0)).trans hx104_0
       replace hx104_1 := (HB.out.cell (World.block_lt_of_cell? w _ hx104_1)).trans hx104_1
       replace p104 := eq_true p104
       replace q104 := eq_true q104
       have s0_ := Hd.HW.x (W0 := wr.drew) ((HB.out.cell (World.block_lt_of_cell? w _ hw104_0)).trans hw104_0)
       have s1_ := Hd.HW.x (W0 := wr.drew) ((HB.out.cell (World.block_lt_of_cell? w _ hw104_1)).trans hw104_1)
       refine Hd.HW.region (by kernel_rfl) (by kernel_rfl) ?_
       repeat (go_big_quiet_step ((first | (go_at_call 102; with_reducible exact Hd.HW.c (spec_IsPoint.calls ((rd_T27 l0 x3_1).f0) ((rd_T27 l0 x3_1).f1) true _ A4.out)))))
       refine wpQuiet_nil ?_
       intro _ hq_
       obtain ⟨q_, rfl⟩ := hq_
       clear s0_ s1_
       replace HB := Aside0.mk (below_step HB.out q_.b)
       replace hx104_0 := q_.cell hx104_0
       replace hx104_1 := q_.cell hx104_1
       generalize q_.W = w16 at HB hx104_0 hx104_1 ⊢
       try simp only [i64_w, i32_w]
       try go_wp2
       go_roundg k1
       case measure => have := HK1.out; omega
       case rel => exact ⟨(wrap64 (x3_1 + 1)), (by first | rfl | (simp; done) | (simp [*]; done)), H', ⟨by have := HK1.out; omega⟩, ⟨Hd.b_⟩⟩
     ·
      replace c5 := Bool.eq_false_iff.mpr c5
      subst c5
      have H1 : (some false) = some r := by rw [if_neg (show ¬ (false = true) by decide)] at H; exact H
      clear H
      have H := H1
      clear H1
      obtain rfl := Option.some.inj H
      try go_wp2
      replace HB := Aside0.mk (below_drew1 HB.out)
      have p104 : 0 ≤ (x3_1 : Int) := of_decide_eq_true Hd.a_
      have q104 : x3_1 < (l0.length : Int) := of_decide_eq_true Hd.a_
      obtain ⟨ad104, e104, hx104_0, hx104_1⟩ := at_T27 HR0.out x3_1 p104 q104
      have hw104_1 := hx104_1
      have hw104_0 := hx104_0
      cases e104
      replace hx104_0 := (HB.out.cell (World.block_lt_of_cell? w _ hx104_0)).trans hx104_0
      replace hx104_1 := (HB.out.cell (World.block_lt_of_cell? w _ hx104_1)).trans hx104_1
      replace p104 := eq_true p104
      replace q104 := eq_true q104
      have s0_ := Hd.HW.x (W0 := wr.drew) ((HB.out.cell (World.block_lt_of_cell? w _ hw104_0)).trans hw104_0)
      have s1_ := Hd.HW.x (W0 := wr.drew) ((HB.out.cell (World.block_lt_of_cell? w _ hw104_1)).trans hw104_1)
      refine Hd.HW.region (by kernel_rfl) (by kernel_rfl) ?_
      repeat (go_big_quiet_step ((first | (go_at_call 102; with_reducible exact Hd.HW.c (spec_IsPoint.calls ((rd_T27 l0 x3_1).f0) ((rd_T27 l0 x3_1).f1) false _ A4.out)))))
      refine wpQuiet_nil ?_
      intro _ hq_
      obtain ⟨q_, rfl⟩ := hq_
      clear s0_ s1_
      replace HB := Aside0.mk (below_step HB.out q_.b)
      replace hx104_0 := q_.cell hx104_0
      replace hx104_1 := q_.cell hx104_1
      generalize q_.W = w18 at HB hx104_0 hx104_1 ⊢
      try simp only [i64_w, i32_w]
      try go_wp2
      go_ret
      exact ⟨Hd.e_, Hd.b_⟩
    ·
     rw [if_neg c3] at H
     exact absurd H (by simp)
   ·
    rw [if_neg c2] at H
    have c2b0 : decide (x3_1 < (l0.length : Int)) = false := decide_eq_false c2
    clear c2
    replace H := Option.bind_eq_some_iff.mp H
    obtain ⟨t108, A190, H⟩ := H
    replace H : (some t108) = some r := H
    have A19 := Aside0.mk A190
    clear A190
    obtain rfl := Option.some.inj H
    go_wp2_with (first | ((with_reducible refine gate_callee (f := 74) rfl ?_); refine goesL_ (some 34) rfl rfl Try.func74 (by kernel_rfl) rfl #[.int .i64 (l0.length : Int), .int .i64 2, .int .i64 10] rfl Hd.m_ ?_; (with_reducible refine (spec_l1In.calls (l0.length : Int) 2 10 t108 _ A19.out).mono ?_); rintro e w' ⟨rfl, ⟨nd, rfl⟩⟩; refine ⟨_, rfl, ?_⟩))
    go_ret
    exact ⟨Hd.e_, Hd.b_⟩
def spec_FarSquared.f (a0_0 : Int) (a0_1 : Int) (a1_0 : Int) (a1_1 : Int) : Option (Int) := (spec_IsPoint.f a0_0 a0_1).bind fun t111 => (if t111 = true then ((spec_IsPoint.f a1_0 a1_1).bind fun t112 => (if t112 = true then (some (wrap64 ((wrap64 ((wrap64 (a0_0 - a1_0)) * (wrap64 (a0_0 - a1_0)))) + (wrap64 ((wrap64 (a0_1 - a1_1)) * (wrap64 (a0_1 - a1_1))))))) else (some (-1)))) else (some (-1)))
set_option maxHeartbeats 8000000 in
set_option maxRecDepth 100000 in
theorem spec_FarSquared.calls (a0_0 : Int) (a0_1 : Int) (a1_0 : Int) (a1_1 : Int) (r : Int) (w : World) (h : spec_FarSquared.f a0_0 a0_1 a1_0 a1_1 = some r) :
  Calls Try.prog 117 #[.agg #[.int .i64 a0_0, .int .i64 a0_1], .agg #[.int .i64 a1_0, .int .i64 a1_1]] w fun e w' => e = .returned (.int .i64 r) ∧ Below w.heap.size w w' := by
 have hu27 := Try.underlying27
 have HB := Aside0.mk (Below.refl w.heap.size w)
 have H : ((spec_IsPoint.f a0_0 a0_1).bind fun t111 => (if t111 = true then ((spec_IsPoint.f a1_0 a1_1).bind fun t112 => (if t112 = true then (some (wrap64 ((wrap64 ((wrap64 (a0_0 - a1_0)) * (wrap64 (a0_0 - a1_0)))) + (wrap64 ((wrap64 (a0_1 - a1_1)) * (wrap64 (a0_1 - a1_1))))))) else (some (-1)))) else (some (-1)))) = some r := h
 clear h
 replace H := Option.bind_eq_some_iff.mp H
 obtain ⟨t111, A30, H⟩ := H
 replace H : (if t111 = true then ((spec_IsPoint.f a1_0 a1_1).bind fun t112 => (if t112 = true then (some (wrap64 ((wrap64 ((wrap64 (a0_0 - a1_0)) * (wrap64 (a0_0 - a1_0)))) + (wrap64 ((wrap64 (a0_1 - a1_1)) * (wrap64 (a0_1 - a1_1))))))) else (some (-1)))) else (some (-1))) = some r := H
 have A3 := Aside0.mk A30
 clear A30
 by_cases c4 : t111 = true
 ·
  subst c4
  have H1 : ((spec_IsPoint.f a1_0 a1_1).bind fun t112 => (if t112 = true then (some (wrap64 ((wrap64 ((wrap64 (a0_0 - a1_0)) * (wrap64 (a0_0 - a1_0)))) + (wrap64 ((wrap64 (a0_1 - a1_1)) * (wrap64 (a0_1 - a1_1))))))) else (some (-1)))) = some r := by rw [if_pos rfl] at H; exact H
  clear H
  have H := H1
  clear H1
  replace H := Option.bind_eq_some_iff.mp H
  obtain ⟨t112, A50, H⟩ := H
  replace H : (if t112 = true then (some (wrap64 ((wrap64 ((wrap64 (a0_0 - a1_0)) * (wrap64 (a0_0 - a1_0)))) + (wrap64 ((wrap64 (a0_1 - a1_1)) * (wrap64 (a0_1 - a1_1))))))) else (some (-1))) = some r := H
  have A5 := Aside0.mk A50
  clear A50
  by_cases c6 : t112 = true
  ·
   subst c6
   have H1 : (some (wrap64 ((wrap64 ((wrap64 (a0_0 - a1_0)) * (wrap64 (a0_0 - a1_0)))) + (wrap64 ((wrap64 (a0_1 - a1_1)) * (wrap64 (a0_1 - a1_1))))))) = some r := by rw [if_pos rfl] at H; exact H
   clear H
   have H := H1
   clear H1
   obtain rfl := Option.some.inj H
   go_enter Try.func117, Try.ntmps117
   go_wp2_with (first | ((with_reducible refine gate_dst (N := 2) rfl ?_); refine Hd.box_ 2 (#[.int .i64 a0_0, .int .i64 a0_1]) 27 ?_; intro gb109 hg w7 hbox hb; have BK109 := Aside0.mk (hbox); have GW109 := Aside0.mk ((Hd.g_ hg Hd.b_ : w.heap.size ≤ gb109)); have GE109 := Aside0.mk ((Hd.g_ hg Hd.b_ : w.heap.size ≤ gb109)); replace HB := Aside0.mk (below_step Hd.b_ hb); clear hb hbox hg) | ((with_reducible refine gate_dst (N := 3) rfl ?_); refine Hd.box_ 3 (#[.int .i64 a1_0, .int .i64 a1_1]) 27 ?_; intro gb110 hg w8 hbox hb; have BK110 := Aside0.mk (hbox); have GW110 := Aside0.mk ((Hd.g_ hg Hd.b_ : w.heap.size ≤ gb110)); have GE110 := Aside0.mk ((Hd.g_ hg Hd.b_ : w.heap.size ≤ gb110)); replace HB := Aside0.mk (below_step Hd.b_ hb); have NB109_110 := Aside0.mk ((Hd.lt_ BK109 hg)); have NB110_109 := Aside0.mk ((Hd.gt_ BK109 hg)); replace BK109 := Aside0.mk (Hd.kb_ BK109 hb); clear hb hbox hg; have hnb9 := NB109_110.out; have hnc9 := NB110_109.out; obtain ⟨hcz10_0, hcz10_1⟩ := Hd.c2_ BK109.out; obtain ⟨hfz10_0, hfz10_1⟩ := Hd.f2_ BK109.out) | ((with_reducible refine gate_callee (f := 102) rfl ?_); refine goesL_ (some 6) rfl rfl Try.func102 (by kernel_rfl) rfl #[.agg #[.int .i64 a0_0, .int .i64 a0_1]] rfl Hd.m_ ?_; (with_reducible refine (spec_IsPoint.calls a0_0 a0_1 true _ A3.out).mono ?_); rintro e w11 ⟨rfl, hb⟩; refine ⟨_, rfl, ?_⟩; replace BK109 := Aside0.mk (Hd.kb_ BK109 hb); replace BK110 := Aside0.mk (Hd.kb_ BK110 hb); replace HB := Aside0.mk (below_step Hd.b_ hb); (try clear hb); (try clear hb2); (try clear hk); (try clear hi); obtain ⟨hcz12_0, hcz12_1⟩ := Hd.c2_ BK110.out; obtain ⟨hfz12_0, hfz12_1⟩ := Hd.f2_ BK110.out) | (go_at_call 102; (with_reducible refine (spec_IsPoint.calls a1_0 a1_1 true _ A5.out).mono ?_); rintro e w13 ⟨rfl, hb⟩; replace BK109 := Aside0.mk (Hd.kb_ BK109 hb); replace BK110 := Aside0.mk (Hd.kb_ BK110 hb); replace HB := Aside0.mk (below_step Hd.b_ hb); (try clear hb); (try clear hb2); (try clear hk); (try clear hi); obtain ⟨hcz14_0, hcz14_1⟩ := Hd.c2_ BK109.out; obtain ⟨hfz14_0, hfz14_1⟩ := Hd.f2_ BK109.out; obtain ⟨hcz15_0, hcz15_1⟩ := Hd.c2_ BK110.out; obtain ⟨hfz15_0, hfz15_1⟩ := Hd.f2_ BK110.out))
   go_ret
   exact ⟨Hd.e_, Hd.b_⟩
  ·
   replace c6 := Bool.eq_false_iff.mpr c6
   subst c6
   have H1 : (some (-1)) = some r := by rw [if_neg (show ¬ (false = true) by decide)] at H; exact H
   clear H
   have H := H1
   clear H1
   obtain rfl := Option.some.inj H
   go_enter Try.func117, Try.ntmps117
   go_wp2_with (first | ((with_reducible refine gate_dst (N := 2) rfl ?_); refine Hd.box_ 2 (#[.int .i64 a0_0, .int .i64 a0_1]) 27 ?_; intro gb109 hg w16 hbox hb; have BK109 := Aside0.mk (hbox); have GW109 := Aside0.mk ((Hd.g_ hg Hd.b_ : w.heap.size ≤ gb109)); have GE109 := Aside0.mk ((Hd.g_ hg Hd.b_ : w.heap.size ≤ gb109)); replace HB := Aside0.mk (below_step Hd.b_ hb); clear hb hbox hg) | ((with_reducible refine gate_dst (N := 3) rfl ?_); refine Hd.box_ 3 (#[.int .i64 a1_0, .int .i64 a1_1]) 27 ?_; intro gb110 hg w17 hbox hb; have BK110 := Aside0.mk (hbox); have GW110 := Aside0.mk ((Hd.g_ hg Hd.b_ : w.heap.size ≤ gb110)); have GE110 := Aside0.mk ((Hd.g_ hg Hd.b_ : w.heap.size ≤ gb110)); replace HB := Aside0.mk (below_step Hd.b_ hb); have NB109_110 := Aside0.mk ((Hd.lt_ BK109 hg)); have NB110_109 := Aside0.mk ((Hd.gt_ BK109 hg)); replace BK109 := Aside0.mk (Hd.kb_ BK109 hb); clear hb hbox hg; have hnb18 := NB109_110.out; have hnc18 := NB110_109.out; obtain ⟨hcz19_0, hcz19_1⟩ := Hd.c2_ BK109.out; obtain ⟨hfz19_0, hfz19_1⟩ := Hd.f2_ BK109.out) | ((with_reducible refine gate_callee (f := 102) rfl ?_); refine goesL_ (some 6) rfl rfl Try.func102 (by kernel_rfl) rfl #[.agg #[.int .i64 a0_0, .int .i64 a0_1]] rfl Hd.m_ ?_; (with_reducible refine (spec_IsPoint.calls a0_0 a0_1 true _ A3.out).mono ?_); rintro e w20 ⟨rfl, hb⟩; refine ⟨_, rfl, ?_⟩; replace BK109 := Aside0.mk (Hd.kb_ BK109 hb); replace BK110 := Aside0.mk (Hd.kb_ BK110 hb); replace HB := Aside0.mk (below_step Hd.b_ hb); (try clear hb); (try clear hb2); (try clear hk); (try clear hi); obtain ⟨hcz21_0, hcz21_1⟩ := Hd.c2_ BK110.out; obtain ⟨hfz21_0, hfz21_1⟩ := Hd.f2_ BK110.out) | (go_at_call 102; (with_reducible refine (spec_IsPoint.calls a1_0 a1_1 false _ A5.out).mono ?_); rintro e w22 ⟨rfl, hb⟩; replace BK109 := Aside0.mk (Hd.kb_ BK109 hb); replace BK110 := Aside0.mk (Hd.kb_ BK110 hb); replace HB := Aside0.mk (below_step Hd.b_ hb); (try clear hb); (try clear hb2); (try clear hk); (try clear hi)))
   go_ret
   exact ⟨Hd.e_, Hd.b_⟩
 ·
  replace c4 := Bool.eq_false_iff.mpr c4
  subst c4
  have H1 : (some (-1)) = some r := by rw [if_neg (show ¬ (false = true) by decide)] at H; exact H
  clear H
  have H := H1
  clear H1
  obtain rfl := Option.some.inj H
  go_enter Try.func117, Try.ntmps117
  go_wp2_with (first | ((with_reducible refine gate_dst (N := 2) rfl ?_); refine Hd.box_ 2 (#[.int .i64 a0_0, .int .i64 a0_1]) 27 ?_; intro gb109 hg w23 hbox hb; have BK109 := Aside0.mk (hbox); have GW109 := Aside0.mk ((Hd.g_ hg Hd.b_ : w.heap.size ≤ gb109)); have GE109 := Aside0.mk ((Hd.g_ hg Hd.b_ : w.heap.size ≤ gb109)); replace HB := Aside0.mk (below_step Hd.b_ hb); clear hb hbox hg) | ((with_reducible refine gate_dst (N := 3) rfl ?_); refine Hd.box_ 3 (#[.int .i64 a1_0, .int .i64 a1_1]) 27 ?_; intro gb110 hg w24 hbox hb; have BK110 := Aside0.mk (hbox); have GW110 := Aside0.mk ((Hd.g_ hg Hd.b_ : w.heap.size ≤ gb110)); have GE110 := Aside0.mk ((Hd.g_ hg Hd.b_ : w.heap.size ≤ gb110)); replace HB := Aside0.mk (below_step Hd.b_ hb); have NB109_110 := Aside0.mk ((Hd.lt_ BK109 hg)); have NB110_109 := Aside0.mk ((Hd.gt_ BK109 hg)); replace BK109 := Aside0.mk (Hd.kb_ BK109 hb); clear hb hbox hg; have hnb25 := NB109_110.out; have hnc25 := NB110_109.out; obtain ⟨hcz26_0, hcz26_1⟩ := Hd.c2_ BK109.out; obtain ⟨hfz26_0, hfz26_1⟩ := Hd.f2_ BK109.out) | ((with_reducible refine gate_callee (f := 102) rfl ?_); refine goesL_ (some 6) rfl rfl Try.func102 (by kernel_rfl) rfl #[.agg #[.int .i64 a0_0, .int .i64 a0_1]] rfl Hd.m_ ?_; (with_reducible refine (spec_IsPoint.calls a0_0 a0_1 false _ A3.out).mono ?_); rintro e w27 ⟨rfl, hb⟩; refine ⟨_, rfl, ?_⟩; replace BK109 := Aside0.mk (Hd.kb_ BK109 hb); replace BK110 := Aside0.mk (Hd.kb_ BK110 hb); replace HB := Aside0.mk (below_step Hd.b_ hb); (try clear hb); (try clear hb2); (try clear hk); (try clear hi)))
  go_ret
  exact ⟨Hd.e_, Hd.b_⟩
def spec_l4Cross.f (a0_0 : Int) (a0_1 : Int) (a1_0 : Int) (a1_1 : Int) (a2_0 : Int) (a2_1 : Int) : Option (Int) := some (wrap64 ((wrap64 ((wrap64 (a1_0 - a0_0)) * (wrap64 (a2_1 - a0_1)))) - (wrap64 ((wrap64 (a1_1 - a0_1)) * (wrap64 (a2_0 - a0_0))))))
set_option maxHeartbeats 8000000 in
set_option maxRecDepth 100000 in
theorem spec_l4Cross.calls (a0_0 : Int) (a0_1 : Int) (a1_0 : Int) (a1_1 : Int) (a2_0 : Int) (a2_1 : Int) (r : Int) (w : World) (h : spec_l4Cross.f a0_0 a0_1 a1_0 a1_1 a2_0 a2_1 = some r) :
  Calls Try.prog 118 #[.agg #[.int .i64 a0_0, .int .i64 a0_1], .agg #[.int .i64 a1_0, .int .i64 a1_1], .agg #[.int .i64 a2_0, .int .i64 a2_1]] w fun e w' => e = .returned (.int .i64 r) ∧ Below w.heap.size w w' := by
 have hu27 := Try.underlying27
 have HB := Aside0.mk (Below.refl w.heap.size w)
 have H : (some (wrap64 ((wrap64 ((wrap64 (a1_0 - a0_0)) * (wrap64 (a2_1 - a0_1)))) - (wrap64 ((wrap64 (a1_1 - a0_1)) * (wrap64 (a2_0 - a0_0))))))) = some r := h
 clear h
 obtain rfl := Option.some.inj H
 go_enter Try.func118, Try.ntmps118
 go_wp2_with (first | ((with_reducible refine gate_dst (N := 3) rfl ?_); refine Hd.box_ 3 (#[.int .i64 a0_0, .int .i64 a0_1]) 27 ?_; intro gb113 hg w4 hbox hb; have BK113 := Aside0.mk (hbox); have GW113 := Aside0.mk ((Hd.g_ hg Hd.b_ : w.heap.size ≤ gb113)); have GE113 := Aside0.mk ((Hd.g_ hg Hd.b_ : w.heap.size ≤ gb113)); replace HB := Aside0.mk (below_step Hd.b_ hb); clear hb hbox hg) | ((with_reducible refine gate_dst (N := 4) rfl ?_); refine Hd.box_ 4 (#[.int .i64 a1_0, .int .i64 a1_1]) 27 ?_; intro gb114 hg w5 hbox hb; have BK114 := Aside0.mk (hbox); have GW114 := Aside0.mk ((Hd.g_ hg Hd.b_ : w.heap.size ≤ gb114)); have GE114 := Aside0.mk ((Hd.g_ hg Hd.b_ : w.heap.size ≤ gb114)); replace HB := Aside0.mk (below_step Hd.b_ hb); have NB113_114 := Aside0.mk ((Hd.lt_ BK113 hg)); have NB114_113 := Aside0.mk ((Hd.gt_ BK113 hg)); replace BK113 := Aside0.mk (Hd.kb_ BK113 hb); clear hb hbox hg) | ((with_reducible refine gate_dst (N := 5) rfl ?_); refine Hd.box_ 5 (#[.int .i64 a2_0, .int .i64 a2_1]) 27 ?_; intro gb115 hg w6 hbox hb; have BK115 := Aside0.mk (hbox); have GW115 := Aside0.mk ((Hd.g_ hg Hd.b_ : w.heap.size ≤ gb115)); have GE115 := Aside0.mk ((Hd.g_ hg Hd.b_ : w.heap.size ≤ gb115)); replace HB := Aside0.mk (below_step Hd.b_ hb); have NB113_115 := Aside0.mk ((Hd.lt_ BK113 hg)); have NB115_113 := Aside0.mk ((Hd.gt_ BK113 hg)); replace BK113 := Aside0.mk (Hd.kb_ BK113 hb); have NB114_115 := Aside0.mk ((Hd.lt_ BK114 hg)); have NB115_114 := Aside0.mk ((Hd.gt_ BK114 hg)); replace BK114 := Aside0.mk (Hd.kb_ BK114 hb); clear hb hbox hg; have hnb7 := NB114_113.out; have hnc7 := NB113_114.out; have hnb8 := NB114_115.out; have hnc8 := NB115_114.out; obtain ⟨hcz9_0, hcz9_1⟩ := Hd.c2_ BK114.out; obtain ⟨hfz9_0, hfz9_1⟩ := Hd.f2_ BK114.out; have hnb10 := NB113_115.out; have hnc10 := NB115_113.out; obtain ⟨hcz11_0, hcz11_1⟩ := Hd.c2_ BK113.out; obtain ⟨hfz11_0, hfz11_1⟩ := Hd.f2_ BK113.out; obtain ⟨hcz12_0, hcz12_1⟩ := Hd.c2_ BK115.out; obtain ⟨hfz12_0, hfz12_1⟩ := Hd.f2_ BK115.out))
 go_ret
 exact ⟨Hd.e_, Hd.b_⟩
def spec_l11Far.f (a0_0 : Int) (a0_1 : Int) (a1_0 : Int) (a1_1 : Int) (a2_0 : Int) (a2_1 : Int) : Option (Int × Int) := if (wrap64 ((wrap64 ((wrap64 (a2_0 - a0_0)) * (wrap64 (a1_0 - a0_0)))) + (wrap64 ((wrap64 (a2_1 - a0_1)) * (wrap64 (a1_1 - a0_1)))))) ≤ 0 then ((spec_FarSquared.f a0_0 a0_1 a2_0 a2_1).bind fun t119 => (some (t119, 1))) else (if (wrap64 ((wrap64 ((wrap64 (a2_0 - a0_0)) * (wrap64 (a1_0 - a0_0)))) + (wrap64 ((wrap64 (a2_1 - a0_1)) * (wrap64 (a1_1 - a0_1)))))) ≥ (wrap64 ((wrap64 ((wrap64 (a1_0 - a0_0)) * (wrap64 (a1_0 - a0_0)))) + (wrap64 ((wrap64 (a1_1 - a0_1)) * (wrap64 (a1_1 - a0_1)))))) then ((spec_FarSquared.f a1_0 a1_1 a2_0 a2_1).bind fun t120 => (some (t120, 1))) else ((spec_l4Cross.f a0_0 a0_1 a1_0 a1_1 a2_0 a2_1).bind fun t121 => (some (wrap64 (t121 * t121), wrap64 ((wrap64 ((wrap64 (a1_0 - a0_0)) * (wrap64 (a1_0 - a0_0)))) + (wrap64 ((wrap64 (a1_1 - a0_1)) * (wrap64 (a1_1 - a0_1)))))))))
set_option maxHeartbeats 8000000 in
set_option maxRecDepth 100000 in
theorem spec_l11Far.calls (a0_0 : Int) (a0_1 : Int) (a1_0 : Int) (a1_1 : Int) (a2_0 : Int) (a2_1 : Int) (r1 : Int) (r2 : Int) (w : World) (h : spec_l11Far.f a0_0 a0_1 a1_0 a1_1 a2_0 a2_1 = some (r1, r2)) :
  Calls Try.prog 103 #[.agg #[.int .i64 a0_0, .int .i64 a0_1], .agg #[.int .i64 a1_0, .int .i64 a1_1], .agg #[.int .i64 a2_0, .int .i64 a2_1]] w fun e w' => e = .returned (.tuple #[.int .i64 r1, .int .i64 r2]) ∧ Below w.heap.size w w' := by
 have hu27 := Try.underlying27
 have HB := Aside0.mk (Below.refl w.heap.size w)
 have H : (if (wrap64 ((wrap64 ((wrap64 (a2_0 - a0_0)) * (wrap64 (a1_0 - a0_0)))) + (wrap64 ((wrap64 (a2_1 - a0_1)) * (wrap64 (a1_1 - a0_1)))))) ≤ 0 then ((spec_FarSquared.f a0_0 a0_1 a2_0 a2_1).bind fun t119 => (some (t119, 1))) else (if (wrap64 ((wrap64 ((wrap64 (a2_0 - a0_0)) * (wrap64 (a1_0 - a0_0)))) + (wrap64 ((wrap64 (a2_1 - a0_1)) * (wrap64 (a1_1 - a0_1)))))) ≥ (wrap64 ((wrap64 ((wrap64 (a1_0 - a0_0)) * (wrap64 (a1_0 - a0_0)))) + (wrap64 ((wrap64 (a1_1 - a0_1)) * (wrap64 (a1_1 - a0_1)))))) then ((spec_FarSquared.f a1_0 a1_1 a2_0 a2_1).bind fun t120 => (some (t120, 1))) else ((spec_l4Cross.f a0_0 a0_1 a1_0 a1_1 a2_0 a2_1).bind fun t121 => (some (wrap64 (t121 * t121), wrap64 ((wrap64 ((wrap64 (a1_0 - a0_0)) * (wrap64 (a1_0 - a0_0)))) + (wrap64 ((wrap64 (a1_1 - a0_1)) * (wrap64 (a1_1 - a0_1)))))))))) = some (r1, r2) := h
 clear h
 by_cases c4 : (wrap64 ((wrap64 ((wrap64 (a2_0 - a0_0)) * (wrap64 (a1_0 - a0_0)))) + (wrap64 ((wrap64 (a2_1 - a0_1)) * (wrap64 (a1_1 - a0_1)))))) ≤ 0
 ·
  rw [if_pos c4] at H
  have c4b0 : decide ((wrap64 ((wrap64 ((wrap64 (a2_0 - a0_0)) * (wrap64 (a1_0 - a0_0)))) + (wrap64 ((wrap64 (a2_1 - a0_1)) * (wrap64 (a1_1 - a0_1)))))) ≤ 0) = true := decide_eq_true c4
  clear c4
  replace H := Option.bind_eq_some_iff.mp H
  obtain ⟨t119, A50, H⟩ := H
  replace H : (some (t119, 1)) = some (r1, r2) := H
  have A5 := Aside0.mk A50
  clear A50
  simp only [Option.some.injEq, Prod.mk.injEq] at H
  obtain ⟨rfl, rfl⟩ := H
  go_enter Try.func103, Try.ntmps103
  go_wp2_with (first | ((with_reducible refine gate_dst (N := 3) rfl ?_); refine Hd.box_ 3 (#[.int .i64 a0_0, .int .i64 a0_1]) 27 ?_; intro gb116 hg w6 hbox hb; have BK116 := Aside0.mk (hbox); have GW116 := Aside0.mk ((Hd.g_ hg Hd.b_ : w.heap.size ≤ gb116)); have GE116 := Aside0.mk ((Hd.g_ hg Hd.b_ : w.heap.size ≤ gb116)); replace HB := Aside0.mk (below_step Hd.b_ hb); clear hb hbox hg) | ((with_reducible refine gate_dst (N := 4) rfl ?_); refine Hd.box_ 4 (#[.int .i64 a1_0, .int .i64 a1_1]) 27 ?_; intro gb117 hg w7 hbox hb; have BK117 := Aside0.mk (hbox); have GW117 := Aside0.mk ((Hd.g_ hg Hd.b_ : w.heap.size ≤ gb117)); have GE117 := Aside0.mk ((Hd.g_ hg Hd.b_ : w.heap.size ≤ gb117)); replace HB := Aside0.mk (below_step Hd.b_ hb); have NB116_117 := Aside0.mk ((Hd.lt_ BK116 hg)); have NB117_116 := Aside0.mk ((Hd.gt_ BK116 hg)); replace BK116 := Aside0.mk (Hd.kb_ BK116 hb); clear hb hbox hg) | ((with_reducible refine gate_dst (N := 5) rfl ?_); refine Hd.box_ 5 (#[.int .i64 a2_0, .int .i64 a2_1]) 27 ?_; intro gb118 hg w8 hbox hb; have BK118 := Aside0.mk (hbox); have GW118 := Aside0.mk ((Hd.g_ hg Hd.b_ : w.heap.size ≤ gb118)); have GE118 := Aside0.mk ((Hd.g_ hg Hd.b_ : w.heap.size ≤ gb118)); replace HB := Aside0.mk (below_step Hd.b_ hb); have NB116_118 := Aside0.mk ((Hd.lt_ BK116 hg)); have NB118_116 := Aside0.mk ((Hd.gt_ BK116 hg)); replace BK116 := Aside0.mk (Hd.kb_ BK116 hb); have NB117_118 := Aside0.mk ((Hd.lt_ BK117 hg)); have NB118_117 := Aside0.mk ((Hd.gt_ BK117 hg)); replace BK117 := Aside0.mk (Hd.kb_ BK117 hb); clear hb hbox hg; have hnb9 := NB117_116.out; have hnc9 := NB116_117.out; have hnb10 := NB117_118.out; have hnc10 := NB118_117.out; obtain ⟨hcz11_0, hcz11_1⟩ := Hd.c2_ BK117.out; obtain ⟨hfz11_0, hfz11_1⟩ := Hd.f2_ BK117.out; have hnb12 := NB116_118.out; have hnc12 := NB118_116.out; obtain ⟨hcz13_0, hcz13_1⟩ := Hd.c2_ BK116.out; obtain ⟨hfz13_0, hfz13_1⟩ := Hd.f2_ BK116.out; obtain ⟨hcz14_0, hcz14_1⟩ := Hd.c2_ BK118.out; obtain ⟨hfz14_0, hfz14_1⟩ := Hd.f2_ BK118.out) | ((with_reducible refine gate_callee (f := 117) rfl ?_); refine goesL_ (some 61) rfl rfl Try.func117 (by kernel_rfl) rfl #[.agg #[.int .i64 a0_0, .int .i64 a0_1], .agg #[.int .i64 a2_0, .int .i64 a2_1]] rfl Hd.m_ ?_; (with_reducible refine (spec_FarSquared.calls a0_0 a0_1 a2_0 a2_1 t119 _ A5.out).mono ?_); rintro e w15 ⟨rfl, hb⟩; refine ⟨_, rfl, ?_⟩; replace BK116 := Aside0.mk (Hd.kb_ BK116 hb); replace BK117 := Aside0.mk (Hd.kb_ BK117 hb); replace BK118 := Aside0.mk (Hd.kb_ BK118 hb); replace HB := Aside0.mk (below_step Hd.b_ hb); (try clear hb); (try clear hb2); (try clear hk); (try clear hi)))
  go_ret2
  exact ⟨Hd.e_, Hd.b_⟩
 ·
  rw [if_neg c4] at H
  have c4b0 : decide ((wrap64 ((wrap64 ((wrap64 (a2_0 - a0_0)) * (wrap64 (a1_0 - a0_0)))) + (wrap64 ((wrap64 (a2_1 - a0_1)) * (wrap64 (a1_1 - a0_1)))))) ≤ 0) = false := decide_eq_false c4
  clear c4
  by_cases c16 : (wrap64 ((wrap64 ((wrap64 (a2_0 - a0_0)) * (wrap64 (a1_0 - a0_0)))) + (wrap64 ((wrap64 (a2_1 - a0_1)) * (wrap64 (a1_1 - a0_1)))))) ≥ (wrap64 ((wrap64 ((wrap64 (a1_0 - a0_0)) * (wrap64 (a1_0 - a0_0)))) + (wrap64 ((wrap64 (a1_1 - a0_1)) * (wrap64 (a1_1 - a0_1))))))
  ·
   rw [if_pos c16] at H
   have c16b0 : decide ((wrap64 ((wrap64 ((wrap64 (a1_0 - a0_0)) * (wrap64 (a1_0 - a0_0)))) + (wrap64 ((wrap64 (a1_1 - a0_1)) * (wrap64 (a1_1 - a0_1)))))) ≤ (wrap64 ((wrap64 ((wrap64 (a2_0 - a0_0)) * (wrap64 (a1_0 - a0_0)))) + (wrap64 ((wrap64 (a2_1 - a0_1)) * (wrap64 (a1_1 - a0_1))))))) = true := decide_eq_true c16
   clear c16
   replace H := Option.bind_eq_some_iff.mp H
   obtain ⟨t120, A170, H⟩ := H
   replace H : (some (t120, 1)) = some (r1, r2) := H
   have A17 := Aside0.mk A170
   clear A170
   simp only [Option.some.injEq, Prod.mk.injEq] at H
   obtain ⟨rfl, rfl⟩ := H
   go_enter Try.func103, Try.ntmps103
   go_wp2_with (first | ((with_reducible refine gate_dst (N := 3) rfl ?_); refine Hd.box_ 3 (#[.int .i64 a0_0, .int .i64 a0_1]) 27 ?_; intro gb116 hg w18 hbox hb; have BK116 := Aside0.mk (hbox); have GW116 := Aside0.mk ((Hd.g_ hg Hd.b_ : w.heap.size ≤ gb116)); have GE116 := Aside0.mk ((Hd.g_ hg Hd.b_ : w.heap.size ≤ gb116)); replace HB := Aside0.mk (below_step Hd.b_ hb); clear hb hbox hg) | ((with_reducible refine gate_dst (N := 4) rfl ?_); refine Hd.box_ 4 (#[.int .i64 a1_0, .int .i64 a1_1]) 27 ?_; intro gb117 hg w19 hbox hb; have BK117 := Aside0.mk (hbox); have GW117 := Aside0.mk ((Hd.g_ hg Hd.b_ : w.heap.size ≤ gb117)); have GE117 := Aside0.mk ((Hd.g_ hg Hd.b_ : w.heap.size ≤ gb117)); replace HB := Aside0.mk (below_step Hd.b_ hb); have NB116_117 := Aside0.mk ((Hd.lt_ BK116 hg)); have NB117_116 := Aside0.mk ((Hd.gt_ BK116 hg)); replace BK116 := Aside0.mk (Hd.kb_ BK116 hb); clear hb hbox hg) | ((with_reducible refine gate_dst (N := 5) rfl ?_); refine Hd.box_ 5 (#[.int .i64 a2_0, .int .i64 a2_1]) 27 ?_; intro gb118 hg w20 hbox hb; have BK118 := Aside0.mk (hbox); have GW118 := Aside0.mk ((Hd.g_ hg Hd.b_ : w.heap.size ≤ gb118)); have GE118 := Aside0.mk ((Hd.g_ hg Hd.b_ : w.heap.size ≤ gb118)); replace HB := Aside0.mk (below_step Hd.b_ hb); have NB116_118 := Aside0.mk ((Hd.lt_ BK116 hg)); have NB118_116 := Aside0.mk ((Hd.gt_ BK116 hg)); replace BK116 := Aside0.mk (Hd.kb_ BK116 hb); have NB117_118 := Aside0.mk ((Hd.lt_ BK117 hg)); have NB118_117 := Aside0.mk ((Hd.gt_ BK117 hg)); replace BK117 := Aside0.mk (Hd.kb_ BK117 hb); clear hb hbox hg; have hnb21 := NB117_116.out; have hnc21 := NB116_117.out; have hnb22 := NB117_118.out; have hnc22 := NB118_117.out; obtain ⟨hcz23_0, hcz23_1⟩ := Hd.c2_ BK117.out; obtain ⟨hfz23_0, hfz23_1⟩ := Hd.f2_ BK117.out; have hnb24 := NB116_118.out; have hnc24 := NB118_116.out; obtain ⟨hcz25_0, hcz25_1⟩ := Hd.c2_ BK116.out; obtain ⟨hfz25_0, hfz25_1⟩ := Hd.f2_ BK116.out; obtain ⟨hcz26_0, hcz26_1⟩ := Hd.c2_ BK118.out; obtain ⟨hfz26_0, hfz26_1⟩ := Hd.f2_ BK118.out) | ((with_reducible refine gate_callee (f := 117) rfl ?_); refine goesL_ (some 67) rfl rfl Try.func117 (by kernel_rfl) rfl #[.agg #[.int .i64 a1_0, .int .i64 a1_1], .agg #[.int .i64 a2_0, .int .i64 a2_1]] rfl Hd.m_ ?_; (with_reducible refine (spec_FarSquared.calls a1_0 a1_1 a2_0 a2_1 t120 _ A17.out).mono ?_); rintro e w27 ⟨rfl, hb⟩; refine ⟨_, rfl, ?_⟩; replace BK116 := Aside0.mk (Hd.kb_ BK116 hb); replace BK117 := Aside0.mk (Hd.kb_ BK117 hb); replace BK118 := Aside0.mk (Hd.kb_ BK118 hb); replace HB := Aside0.mk (below_step Hd.b_ hb); (try clear hb); (try clear hb2); (try clear hk); (try clear hi)))
   go_ret2
   exact ⟨Hd.e_, Hd.b_⟩
  ·
   rw [if_neg c16] at H
   have c16b0 : decide ((wrap64 ((wrap64 ((wrap64 (a1_0 - a0_0)) * (wrap64 (a1_0 - a0_0)))) + (wrap64 ((wrap64 (a1_1 - a0_1)) * (wrap64 (a1_1 - a0_1)))))) ≤ (wrap64 ((wrap64 ((wrap64 (a2_0 - a0_0)) * (wrap64 (a1_0 - a0_0)))) + (wrap64 ((wrap64 (a2_1 - a0_1)) * (wrap64 (a1_1 - a0_1))))))) = false := decide_eq_false c16
   clear c16
   replace H := Option.bind_eq_some_iff.mp H
   obtain ⟨t121, A280, H⟩ := H
   replace H : (some (wrap64 (t121 * t121), wrap64 ((wrap64 ((wrap64 (a1_0 - a0_0)) * (wrap64 (a1_0 - a0_0)))) + (wrap64 ((wrap64 (a1_1 - a0_1)) * (wrap64 (a1_1 - a0_1))))))) = some (r1, r2) := H
   have A28 := Aside0.mk A280
   clear A280
   simp only [Option.some.injEq, Prod.mk.injEq] at H
   obtain ⟨rfl, rfl⟩ := H
   go_enter Try.func103, Try.ntmps103
   go_wp2_with (first | ((with_reducible refine gate_dst (N := 3) rfl ?_); refine Hd.box_ 3 (#[.int .i64 a0_0, .int .i64 a0_1]) 27 ?_; intro gb116 hg w29 hbox hb; have BK116 := Aside0.mk (hbox); have GW116 := Aside0.mk ((Hd.g_ hg Hd.b_ : w.heap.size ≤ gb116)); have GE116 := Aside0.mk ((Hd.g_ hg Hd.b_ : w.heap.size ≤ gb116)); replace HB := Aside0.mk (below_step Hd.b_ hb); clear hb hbox hg) | ((with_reducible refine gate_dst (N := 4) rfl ?_); refine Hd.box_ 4 (#[.int .i64 a1_0, .int .i64 a1_1]) 27 ?_; intro gb117 hg w30 hbox hb; have BK117 := Aside0.mk (hbox); have GW117 := Aside0.mk ((Hd.g_ hg Hd.b_ : w.heap.size ≤ gb117)); have GE117 := Aside0.mk ((Hd.g_ hg Hd.b_ : w.heap.size ≤ gb117)); replace HB := Aside0.mk (below_step Hd.b_ hb); have NB116_117 := Aside0.mk ((Hd.lt_ BK116 hg)); have NB117_116 := Aside0.mk ((Hd.gt_ BK116 hg)); replace BK116 := Aside0.mk (Hd.kb_ BK116 hb); clear hb hbox hg) | ((with_reducible refine gate_dst (N := 5) rfl ?_); refine Hd.box_ 5 (#[.int .i64 a2_0, .int .i64 a2_1]) 27 ?_; intro gb118 hg w31 hbox hb; have BK118 := Aside0.mk (hbox); have GW118 := Aside0.mk ((Hd.g_ hg Hd.b_ : w.heap.size ≤ gb118)); have GE118 := Aside0.mk ((Hd.g_ hg Hd.b_ : w.heap.size ≤ gb118)); replace HB := Aside0.mk (below_step Hd.b_ hb); have NB116_118 := Aside0.mk ((Hd.lt_ BK116 hg)); have NB118_116 := Aside0.mk ((Hd.gt_ BK116 hg)); replace BK116 := Aside0.mk (Hd.kb_ BK116 hb); have NB117_118 := Aside0.mk ((Hd.lt_ BK117 hg)); have NB118_117 := Aside0.mk ((Hd.gt_ BK117 hg)); replace BK117 := Aside0.mk (Hd.kb_ BK117 hb); clear hb hbox hg; have hnb32 := NB117_116.out; have hnc32 := NB116_117.out; have hnb33 := NB117_118.out; have hnc33 := NB118_117.out; obtain ⟨hcz34_0, hcz34_1⟩ := Hd.c2_ BK117.out; obtain ⟨hfz34_0, hfz34_1⟩ := Hd.f2_ BK117.out; have hnb35 := NB116_118.out; have hnc35 := NB118_116.out; obtain ⟨hcz36_0, hcz36_1⟩ := Hd.c2_ BK116.out; obtain ⟨hfz36_0, hfz36_1⟩ := Hd.f2_ BK116.out; obtain ⟨hcz37_0, hcz37_1⟩ := Hd.c2_ BK118.out; obtain ⟨hfz37_0, hfz37_1⟩ := Hd.f2_ BK118.out) | ((with_reducible refine gate_callee (f := 118) rfl ?_); refine goesL_ (some 71) rfl rfl Try.func118 (by kernel_rfl) rfl #[.agg #[.int .i64 a0_0, .int .i64 a0_1], .agg #[.int .i64 a1_0, .int .i64 a1_1], .agg #[.int .i64 a2_0, .int .i64 a2_1]] rfl Hd.m_ ?_; (with_reducible refine (spec_l4Cross.calls a0_0 a0_1 a1_0 a1_1 a2_0 a2_1 t121 _ A28.out).mono ?_); rintro e w38 ⟨rfl, hb⟩; refine ⟨_, rfl, ?_⟩; replace BK116 := Aside0.mk (Hd.kb_ BK116 hb); replace BK117 := Aside0.mk (Hd.kb_ BK117 hb); replace BK118 := Aside0.mk (Hd.kb_ BK118 hb); replace HB := Aside0.mk (below_step Hd.b_ hb); (try clear hb); (try clear hb2); (try clear hk); (try clear hi)))
   go_ret2
   exact ⟨Hd.e_, Hd.b_⟩
end Go.Proofs.Ytbackoeakepngaa.MFnExactCountLeftOut
