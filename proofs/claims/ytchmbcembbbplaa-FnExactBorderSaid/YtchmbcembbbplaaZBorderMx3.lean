-- Laid by this session's program pp.py, after the kit's print and texts of the session's own. Not trusted: Lean checks it.
import Derived.Test.YtchmbcembbbplaaZBorderMx0
import Derived.Test.YtchmbcembbbplaaZBorderMx1
import Derived.Test.YtchmbcembbbplaaZBorderMx2
namespace Go.Proofs.Ytchmbcembbbplaa.MFnExactBorder
open Go.RowKit Go.Proofs.YtchmbcembbbplaaW.PrintWords Go.Proofs.YtchmbcembbbplaaW.PrintLast Go.Proofs.YtchmbcembbbplaaW.PrintMore
attribute [local go_sem] max2_int min2_int max_two min_two max_three min_three max_four min_four   -- for this text's walks alone
set_option linter.unusedVariables false
set_option linter.unusedSimpArgs false
mutual
def spec_Border.l0 : Nat → Int → Int → List Int → List Int → Int → Int → Int → Int → ByteArray → Option (Int)
 | 0, _, _, _, _, _, _, _, _, _ => none
 | k + 1, x1, x2, x7, x8, x9, x10, x134000, x134001, x134002 => if x10 < (x7.length : Int) then (spec_Border.j1 k x1 x2 x7 x8 x9 x10 (x1 != x2) x134000 x134001 x134002) else (spec_Border.j1 k x1 x2 x7 x8 x9 x10 false x134000 x134001 x134002)
def spec_Border.j1 : Nat → Int → Int → List Int → List Int → Int → Int → Bool → Int → Int → ByteArray → Option (Int)
 | 0, _, _, _, _, _, _, _, _, _, _ => none
 | k + 1, x1, x2, x7, x8, x9, x10, x26, x134000, x134001, x134002 => if x26 = true then (spec_Border.l1 k x1 x2 x7 x8 x9 x10 0 x134000 x134001 x134002) else (some x9)
def spec_Border.l1 : Nat → Int → Int → List Int → List Int → Int → Int → Int → Int → Int → ByteArray → Option (Int)
 | 0, _, _, _, _, _, _, _, _, _, _ => none
 | k + 1, x1, x2, x7, x8, x9, x10, x11, x134000, x134001, x134002 => if x11 < (x8.length : Int) then (if 0 ≤ x10 then (if x10 < (x7.length : Int) then (if 0 ≤ x11 then ((spec_l15Next.f x134000 x134001 x134002 (rd x7 x10) (rd x8 x11)).bind fun t142 => (if t142 = true then (spec_Border.l1 k x1 x2 x7 x8 (wrap64 (x9 + 1)) x10 (wrap64 (x11 + 1)) x134000 x134001 x134002) else (spec_Border.l1 k x1 x2 x7 x8 x9 x10 (wrap64 (x11 + 1)) x134000 x134001 x134002))) else (none)) else (none)) else (none)) else (spec_Border.l0 k x1 x2 x7 x8 x9 (wrap64 (x10 + 1)) x134000 x134001 x134002)
end
def spec_Border.f (k : Nat) (a0_0 : Int) (a0_1 : Int) (a0_2 : ByteArray) (a1 : Int) (a2 : Int) : Option (Int) := (spec_RegionCells.f k a0_0 a0_1 a0_2 a1).bind fun t134 => ((spec_RegionCells.f k a0_0 a0_1 a0_2 a2).bind fun t137 => (spec_Border.l0 k a1 a2 t134 t137 0 0 a0_0 a0_1 a0_2))
set_option maxHeartbeats 8000000 in
set_option maxRecDepth 100000 in
theorem spec_Border.calls (k : Nat) (a0_0 : Int) (a0_1 : Int) (a0_2 : ByteArray) (a1 : Int) (a2 : Int) (r : Int) (w : World) (h : spec_Border.f k a0_0 a0_1 a0_2 a1 a2 = some r) :
  Calls Try.prog 69 #[.agg #[.int .i64 a0_0, .int .i64 a0_1, .string a0_2], .int .i64 a1, .int .i64 a2] w fun e w' => e = .returned (.int .i64 r) ∧ Below w.heap.size w w' := by
 have hu96 := Try.underlying96
 have HB := Aside0.mk (Below.refl w.heap.size w)
 have H : ((spec_RegionCells.f k a0_0 a0_1 a0_2 a1).bind fun t134 => ((spec_RegionCells.f k a0_0 a0_1 a0_2 a2).bind fun t137 => (spec_Border.l0 k a1 a2 t134 t137 0 0 a0_0 a0_1 a0_2))) = some r := h
 clear h
 replace H := Option.bind_eq_some_iff.mp H
 obtain ⟨t134, A40, H⟩ := H
 replace H : ((spec_RegionCells.f k a0_0 a0_1 a0_2 a2).bind fun t137 => (spec_Border.l0 k a1 a2 t134 t137 0 0 a0_0 a0_1 a0_2)) = some r := H
 have A4 := Aside0.mk A40
 clear A40
 replace H := Option.bind_eq_some_iff.mp H
 obtain ⟨t137, A50, H⟩ := H
 replace H : (spec_Border.l0 k a1 a2 t134 t137 0 0 a0_0 a0_1 a0_2) = some r := H
 have A5 := Aside0.mk A50
 clear A50
 have H' := Aside0.mk H
 clear H
 go_enter Try.func69, Try.ntmps69
 go_wp2_with (first | ((with_reducible refine gate_dst (N := 3) rfl ?_); refine Hd.box_ 3 (#[.int .i64 a0_0, .int .i64 a0_1, .string a0_2]) 96 ?_; intro gb133 hg w6 hbox hb; have BK133 := Aside0.mk (hbox); have GW133 := Aside0.mk ((Hd.g_ hg Hd.b_ : w.heap.size ≤ gb133)); have GE133 := Aside0.mk ((Hd.g_ hg Hd.b_ : w.heap.size ≤ gb133)); replace HB := Aside0.mk (below_step Hd.b_ hb); clear hb hbox hg; obtain ⟨hcz7_0, hcz7_1, hcz7_2⟩ := Hd.c3_ BK133.out; obtain ⟨hfz7_0, hfz7_1, hfz7_2⟩ := Hd.f3_ BK133.out) | ((with_reducible refine gate_callee (f := 120) rfl ?_); refine goesL_ (some 14) rfl rfl Try.func120 (by kernel_rfl) rfl #[.agg #[.int .i64 a0_0, .int .i64 a0_1, .string a0_2], .int .i64 a1] rfl Hd.m_ ?_; (with_reducible refine (spec_RegionCells.calls k a0_0 a0_1 a0_2 a1 t134 _ A4.out).mono ?_); rintro e w8 ⟨v135, rfl, ho0, hb⟩; refine ⟨_, rfl, ?_⟩; have HO136 := Aside0.mk (Kd.R_lower ho0 (below_size Hd.b_)); replace BK133 := Aside0.mk (Hd.kb_ BK133 hb); replace HB := Aside0.mk (below_step Hd.b_ hb); (try clear hb); (try clear hb2); (try clear hk); (try clear hi); (try clear ho0); obtain ⟨hcz9_0, hcz9_1, hcz9_2⟩ := Hd.c3_ BK133.out; obtain ⟨hfz9_0, hfz9_1, hfz9_2⟩ := Hd.f3_ BK133.out) | ((with_reducible refine gate_callee (f := 120) rfl ?_); refine goesL_ (some 17) rfl rfl Try.func120 (by kernel_rfl) rfl #[.agg #[.int .i64 a0_0, .int .i64 a0_1, .string a0_2], .int .i64 a2] rfl Hd.m_ ?_; (with_reducible refine (spec_RegionCells.calls k a0_0 a0_1 a0_2 a2 t137 _ A5.out).mono ?_); rintro e w10 ⟨v138, rfl, ho0, hb⟩; refine ⟨_, rfl, ?_⟩; have HO139 := Aside0.mk (Kd.R_lower (Kd.R_new' ho0 (Kd.R_lt (Hd.r_ HO136))) (below_size Hd.b_)); replace HO136 := Aside0.mk (Kd.R_elder' (Hd.r_ HO136) (Kd.R_base ho0) hb); replace BK133 := Aside0.mk (Hd.kb_ BK133 hb); replace HB := Aside0.mk (below_step Hd.b_ hb); (try clear hb); (try clear hb2); (try clear hk); (try clear hi); (try clear ho0)))
 go_loopg [9, 10] k (fun kq v9 v10 w' => ∃ (x9_1 : Int) (x10_1 : Int), v9 = .int .i64 x9_1 ∧ v10 = .int .i64 x10_1 ∧ Aside0 (spec_Border.l0 kq a1 a2 t134 t137 x9_1 x10_1 a0_0 a0_1 a0_2 = some r) ∧ Aside0 (kq ≤ k) ∧ Aside0 (Kd.R (Kd.int .i64) 3 w' w.heap.size (fun k_ => some k_ ≠ (v138 : Value).ownBlock) v135 t134) ∧ Aside0 (Kd.R (Kd.int .i64) 3 w' w.heap.size (fun k_ => some k_ ≠ (v135 : Value).ownBlock) v138 t137) ∧ Aside0 (w'.heap[gb133]? = some (.cells #[.int .i64 a0_0, .int .i64 a0_1, .string a0_2] 96 (0, 0))) ∧ Aside0 (Below w.heap.size w w'))
 case atStart => exact ⟨(0), (0), (by first | rfl | (simp; done) | (simp [*]; done)), (by first | rfl | (simp; done) | (simp [*]; done)), H', ⟨Nat.le_refl _⟩, ⟨by (with_reducible repeat (first | apply Kd.R_alloc | apply Kd.R_drewN | apply Kd.R_drew)); exact Kd.R_mono HO136.out (fun _ hk => hk.2)⟩, ⟨by (with_reducible repeat (first | apply Kd.R_alloc | apply Kd.R_drewN | apply Kd.R_drew)); exact Kd.R_mono HO139.out (fun _ hk => hk.2)⟩, ⟨by (with_reducible repeat (first | refine blk_drewN ?_ _ | refine blk_drew ?_ | refine blk_alloc ?_ _)); exact BK133.out⟩, ⟨Hd.b_⟩⟩
 case round =>
  clear H'
  try clear c1
  try clear p2
  try clear c6
  try clear hcz7_0
  try clear hcz7_1
  try clear hcz7_2
  try clear hcz9_0
  try clear hcz9_1
  try clear hcz9_2
  try clear hfz7_0
  try clear hfz7_1
  try clear hfz7_2
  try clear hfz9_0
  try clear hfz9_1
  try clear hfz9_2
  obtain ⟨x9_1, x10_1, rfl, rfl, HA, HK1, HO_7, HO_8, BK133, HB⟩ := hrel
  cases gk with
  | zero => exact absurd HA.out (by simp [spec_Border.l0])
  | succ k1 =>
   have H := HA.out
   clear HA
   simp only [spec_Border.l0] at H
   have HC11 := Aside0.mk H
   clear H
   go_upto_region 5 with (fail)
   go_cut [26] (fun v26 wc => ∃ (kq : Nat) (x26_10 : Bool), v26 = .bool x26_10 ∧ Aside0 (spec_Border.j1 kq a1 a2 t134 t137 x9_1 x10_1 x26_10 a0_0 a0_1 a0_2 = some r) ∧ Aside0 (kq ≤ k1) ∧ Aside0 (Kd.R (Kd.int .i64) 3 wc w.heap.size (fun k_ => some k_ ≠ (v138 : Value).ownBlock) v135 t134) ∧ Aside0 (Kd.R (Kd.int .i64) 3 wc w.heap.size (fun k_ => some k_ ≠ (v135 : Value).ownBlock) v138 t137) ∧ Aside0 (wc.heap[gb133]? = some (.cells #[.int .i64 a0_0, .int .i64 a0_1, .string a0_2] 96 (0, 0))) ∧ Aside0 (Below w.heap.size w wc))
   case first =>
    have H := HC11.out
    clear HC11
    by_cases c12 : x10_1 < (t134.length : Int)
    ·
     rw [if_pos c12] at H
     have c12b0 : decide (x10_1 < (t134.length : Int)) = true := decide_eq_true c12
     clear c12
     (first | rw [c12b0] | (simp only [i64_w, i32_w]; rw [c12b0]) | skip)
     have H' := Aside0.mk H
     clear H
     obtain ⟨Ao13, co13, eo13⟩ := Kd.R_slice HO_7.out
     subst eo13
     go_wp2
     go_meet
     case rel => exact ⟨_, ((a1 != a2)), (by first | rfl | (simp; done) | (simp [*]; done)), H', ⟨by have := HK1.out; first | omega | exact Nat.le_refl _⟩, ⟨by (with_reducible repeat (first | apply Kd.R_alloc | apply Kd.R_drewN | apply Kd.R_drew)); exact HO_7.out⟩, ⟨by (with_reducible repeat (first | apply Kd.R_alloc | apply Kd.R_drewN | apply Kd.R_drew)); exact HO_8.out⟩, ⟨by (with_reducible repeat (first | refine blk_drewN ?_ _ | refine blk_drew ?_ | refine blk_alloc ?_ _)); exact BK133.out⟩, ⟨Hd.b_⟩⟩
    ·
     rw [if_neg c12] at H
     have c12b0 : decide (x10_1 < (t134.length : Int)) = false := decide_eq_false c12
     clear c12
     (first | rw [c12b0] | (simp only [i64_w, i32_w]; rw [c12b0]) | skip)
     have H' := Aside0.mk H
     clear H
     obtain ⟨Ao14, co14, eo14⟩ := Kd.R_slice HO_7.out
     subst eo14
     go_wp2
     go_meet
     case rel => exact ⟨_, (false), (by first | rfl | (simp; done) | (simp [*]; done)), H', ⟨by have := HK1.out; first | omega | exact Nat.le_refl _⟩, ⟨by (with_reducible repeat (first | apply Kd.R_alloc | apply Kd.R_drewN | apply Kd.R_drew)); exact HO_7.out⟩, ⟨by (with_reducible repeat (first | apply Kd.R_alloc | apply Kd.R_drewN | apply Kd.R_drew)); exact HO_8.out⟩, ⟨by (with_reducible repeat (first | refine blk_drewN ?_ _ | refine blk_drew ?_ | refine blk_alloc ?_ _)); exact BK133.out⟩, ⟨Hd.b_⟩⟩
   case rest =>
    clear HC11
    try clear c1
    try clear p2
    try clear c6
    try clear c12
    try clear c12b0
    try clear hcz7_0
    try clear hcz7_1
    try clear hcz7_2
    try clear hcz9_0
    try clear hcz9_1
    try clear hcz9_2
    try clear hfz7_0
    try clear hfz7_1
    try clear hfz7_2
    try clear hfz9_0
    try clear hfz9_1
    try clear hfz9_2
    try clear p2
    obtain ⟨kq, x26_10, rfl, HA, HJ10, HO_7, HO_8, BK133, HB⟩ := hcut
    cases kq with
    | zero => exact absurd HA.out (by simp [spec_Border.j1])
    | succ kj10 =>
     have H := HA.out
     clear HA
     simp only [spec_Border.j1] at H
     by_cases c15 : x26_10 = true
     ·
      subst c15
      have H1 : (spec_Border.l1 kj10 a1 a2 t134 t137 x9_1 x10_1 0 a0_0 a0_1 a0_2) = some r := by rw [if_pos rfl] at H; exact H
      clear H
      have H := H1
      clear H1
      have H' := Aside0.mk H
      clear H
      go_wp2
      go_loopg [9, 11] kj10 (fun kq v9 v11 w' => ∃ (x9_3 : Int) (x11_3 : Int), v9 = .int .i64 x9_3 ∧ v11 = .int .i64 x11_3 ∧ Aside0 (spec_Border.l1 kq a1 a2 t134 t137 x9_3 x10_1 x11_3 a0_0 a0_1 a0_2 = some r) ∧ Aside0 (kq ≤ kj10) ∧ Aside0 (Kd.R (Kd.int .i64) 3 w' w.heap.size (fun k_ => some k_ ≠ (v138 : Value).ownBlock) v135 t134) ∧ Aside0 (Kd.R (Kd.int .i64) 3 w' w.heap.size (fun k_ => some k_ ≠ (v135 : Value).ownBlock) v138 t137) ∧ Aside0 (w'.heap[gb133]? = some (.cells #[.int .i64 a0_0, .int .i64 a0_1, .string a0_2] 96 (0, 0))) ∧ Aside0 (Below w.heap.size w w'))
      case atStart => exact ⟨(x9_1), (0), (by first | rfl | (simp; done) | (simp [*]; done)), (by first | rfl | (simp; done) | (simp [*]; done)), H', ⟨Nat.le_refl _⟩, ⟨by (with_reducible repeat (first | apply Kd.R_alloc | apply Kd.R_drewN | apply Kd.R_drew)); exact HO_7.out⟩, ⟨by (with_reducible repeat (first | apply Kd.R_alloc | apply Kd.R_drewN | apply Kd.R_drew)); exact HO_8.out⟩, ⟨by (with_reducible repeat (first | refine blk_drewN ?_ _ | refine blk_drew ?_ | refine blk_alloc ?_ _)); exact BK133.out⟩, ⟨Hd.b_⟩⟩
      case round =>
       clear H'
       try clear c1
       try clear p2
       try clear c6
       try clear c12
       try clear c12b0
       try clear c15
       try clear hcz7_0
       try clear hcz7_1
       try clear hcz7_2
       try clear hcz9_0
       try clear hcz9_1
       try clear hcz9_2
       try clear hfz7_0
       try clear hfz7_1
       try clear hfz7_2
       try clear hfz9_0
       try clear hfz9_1
       try clear hfz9_2
       try clear p2
       obtain ⟨x9_3, x11_3, rfl, rfl, HA, HK3, HO_7, HO_8, BK133, HB⟩ := hrel
       cases gk with
       | zero => exact absurd HA.out (by simp [spec_Border.l1])
       | succ k3 =>
        have H := HA.out
        clear HA
        simp only [spec_Border.l1] at H
        by_cases c16 : x11_3 < (t137.length : Int)
        ·
         rw [if_pos c16] at H
         have c16b0 : decide (x11_3 < (t137.length : Int)) = true := decide_eq_true c16
         clear c16
         by_cases c17 : 0 ≤ x10_1
         ·
          rw [if_pos c17] at H
          have c17b0 : decide (0 ≤ x10_1) = true := decide_eq_true c17
          clear c17
          by_cases c18 : x10_1 < (t134.length : Int)
          ·
           rw [if_pos c18] at H
           have c18b0 : decide (x10_1 < (t134.length : Int)) = true := decide_eq_true c18
           clear c18
           by_cases c19 : 0 ≤ x11_3
           ·
            rw [if_pos c19] at H
            have c19b0 : decide (0 ≤ x11_3) = true := decide_eq_true c19
            clear c19
            replace H := Option.bind_eq_some_iff.mp H
            obtain ⟨t142, A200, H⟩ := H
            replace H : (if t142 = true then (spec_Border.l1 k3 a1 a2 t134 t137 (wrap64 (x9_3 + 1)) x10_1 (wrap64 (x11_3 + 1)) a0_0 a0_1 a0_2) else (spec_Border.l1 k3 a1 a2 t134 t137 x9_3 x10_1 (wrap64 (x11_3 + 1)) a0_0 a0_1 a0_2)) = some r := H
            have A20 := Aside0.mk A200
            clear A200
            by_cases c21 : t142 = true
            ·
             subst c21
             have H1 : (spec_Border.l1 k3 a1 a2 t134 t137 (wrap64 (x9_3 + 1)) x10_1 (wrap64 (x11_3 + 1)) a0_0 a0_1 a0_2) = some r := by rw [if_pos rfl] at H; exact H
             clear H
             have H := H1
             clear H1
             have H' := Aside0.mk H
             clear H
             obtain ⟨Ao22, co22, eo22⟩ := Kd.R_slice HO_8.out
             subst eo22
             try go_wp2
             replace HO_7 := Aside0.mk (Kd.R_drew HO_7.out)
             replace HO_8 := Aside0.mk (Kd.R_drew HO_8.out)
             replace BK133 := Aside0.mk (blk_drew BK133.out)
             replace HB := Aside0.mk (below_drew1 HB.out)
             obtain ⟨Ao24, co24, eo24⟩ := Kd.R_slice HO_7.out
             (first | subst eo24 | (injection eo24 with f1_ f2_ f3_; have f4_ := f1_.symm; have f5_ := f3_.symm; clear f1_ f2_ f3_; subst f4_; subst f5_))
             have p140 : 0 ≤ (x10_1 : Int) := of_decide_eq_true Hd.a_
             have q140 : x10_1 < (t134.length : Int) := of_decide_eq_true Hd.a_
             obtain ⟨ad140, e140, hx140_0⟩ := Kd.at_int (Kd.R_reads' HO_7.out).2.2 x10_1 p140 q140
             cases e140
             replace p140 := eq_true p140
             replace q140 := eq_true q140
             have p141 : 0 ≤ (x11_3 : Int) := of_decide_eq_true Hd.a_
             have q141 : x11_3 < (t137.length : Int) := of_decide_eq_true Hd.a_
             obtain ⟨ad141, e141, hx141_0⟩ := Kd.at_int (Kd.R_reads' HO_8.out).2.2 x11_3 p141 q141
             cases e141
             replace p141 := eq_true p141
             replace q141 := eq_true q141
             obtain ⟨s0_, s1_, s2_⟩ := Hd.HW.k3 (W0 := wr.drew) BK133
             have s3_ : ∀ q : Hd.HW wr.drew, q.W.cell? (ad140.add (x10_1).toNat) = some (.int .i64 (rd t134 x10_1)) := Hd.HW.x (hx140_0)
             have s4_ : ∀ q : Hd.HW wr.drew, q.W.cell? (ad141.add (x11_3).toNat) = some (.int .i64 (rd t137 x11_3)) := Hd.HW.x (hx141_0)
             refine Hd.HW.region (by kernel_rfl) (by kernel_rfl) ?_
             repeat (go_big_quiet_step ((first | (go_at_call 121; with_reducible exact Hd.HW.c (spec_l15Next.calls a0_0 a0_1 a0_2 (rd t134 x10_1) (rd t137 x11_3) true _ A20.out)))))
             refine wpQuiet_nil ?_
             intro _ hq_
             obtain ⟨q_, rfl⟩ := hq_
             clear s0_ s1_ s2_ s3_ s4_
             replace HO_7 := Aside0.mk (Kd.R_below HO_7.out q_.b)
             replace HO_8 := Aside0.mk (Kd.R_below HO_8.out q_.b)
             replace BK133 := Aside0.mk (blk_below BK133.out q_.b)
             replace HB := Aside0.mk (below_step HB.out q_.b)
             replace hx140_0 := q_.cell hx140_0
             replace hx141_0 := q_.cell hx141_0
             generalize q_.W = w25 at HO_7 HO_8 BK133 HB hx140_0 hx141_0 ⊢
             try simp only [i64_w, i32_w]
             try go_wp2
             go_roundg k3
             case measure => have := HK1.out; have := HJ10.out; have := HK3.out; omega
             case rel => exact ⟨(wrap64 (x9_3 + 1)), (wrap64 (x11_3 + 1)), (by first | rfl | (simp; done) | (simp [*]; done)), (by first | rfl | (simp; done) | (simp [*]; done)), H', ⟨by have := HK1.out; have := HJ10.out; have := HK3.out; omega⟩, ⟨by (with_reducible repeat (first | apply Kd.R_alloc | apply Kd.R_drewN | apply Kd.R_drew)); exact HO_7.out⟩, ⟨by (with_reducible repeat (first | apply Kd.R_alloc | apply Kd.R_drewN | apply Kd.R_drew)); exact HO_8.out⟩, ⟨by (with_reducible repeat (first | refine blk_drewN ?_ _ | refine blk_drew ?_ | refine blk_alloc ?_ _)); exact BK133.out⟩, ⟨Hd.b_⟩⟩
            ·
             replace c21 := Bool.eq_false_iff.mpr c21
             subst c21
             have H1 : (spec_Border.l1 k3 a1 a2 t134 t137 x9_3 x10_1 (wrap64 (x11_3 + 1)) a0_0 a0_1 a0_2) = some r := by rw [if_neg (show ¬ (false = true) by decide)] at H; exact H
             clear H
             have H := H1
             clear H1
             have H' := Aside0.mk H
             clear H
             obtain ⟨Ao26, co26, eo26⟩ := Kd.R_slice HO_8.out
             subst eo26
             try go_wp2
             replace HO_7 := Aside0.mk (Kd.R_drew HO_7.out)
             replace HO_8 := Aside0.mk (Kd.R_drew HO_8.out)
             replace BK133 := Aside0.mk (blk_drew BK133.out)
             replace HB := Aside0.mk (below_drew1 HB.out)
             obtain ⟨Ao28, co28, eo28⟩ := Kd.R_slice HO_7.out
             (first | subst eo28 | (injection eo28 with f1_ f2_ f3_; have f4_ := f1_.symm; have f5_ := f3_.symm; clear f1_ f2_ f3_; subst f4_; subst f5_))
             have p140 : 0 ≤ (x10_1 : Int) := of_decide_eq_true Hd.a_
             have q140 : x10_1 < (t134.length : Int) := of_decide_eq_true Hd.a_
             obtain ⟨ad140, e140, hx140_0⟩ := Kd.at_int (Kd.R_reads' HO_7.out).2.2 x10_1 p140 q140
             cases e140
             replace p140 := eq_true p140
             replace q140 := eq_true q140
             have p141 : 0 ≤ (x11_3 : Int) := of_decide_eq_true Hd.a_
             have q141 : x11_3 < (t137.length : Int) := of_decide_eq_true Hd.a_
             obtain ⟨ad141, e141, hx141_0⟩ := Kd.at_int (Kd.R_reads' HO_8.out).2.2 x11_3 p141 q141
             cases e141
             replace p141 := eq_true p141
             replace q141 := eq_true q141
             obtain ⟨s0_, s1_, s2_⟩ := Hd.HW.k3 (W0 := wr.drew) BK133
             have s3_ : ∀ q : Hd.HW wr.drew, q.W.cell? (ad140.add (x10_1).toNat) = some (.int .i64 (rd t134 x10_1)) := Hd.HW.x (hx140_0)
             have s4_ : ∀ q : Hd.HW wr.drew, q.W.cell? (ad141.add (x11_3).toNat) = some (.int .i64 (rd t137 x11_3)) := Hd.HW.x (hx141_0)
             refine Hd.HW.region (by kernel_rfl) (by kernel_rfl) ?_
             repeat (go_big_quiet_step ((first | (go_at_call 121; with_reducible exact Hd.HW.c (spec_l15Next.calls a0_0 a0_1 a0_2 (rd t134 x10_1) (rd t137 x11_3) false _ A20.out)))))
             refine wpQuiet_nil ?_
             intro _ hq_
             obtain ⟨q_, rfl⟩ := hq_
             clear s0_ s1_ s2_ s3_ s4_
             replace HO_7 := Aside0.mk (Kd.R_below HO_7.out q_.b)
             replace HO_8 := Aside0.mk (Kd.R_below HO_8.out q_.b)
             replace BK133 := Aside0.mk (blk_below BK133.out q_.b)
             replace HB := Aside0.mk (below_step HB.out q_.b)
             replace hx140_0 := q_.cell hx140_0
             replace hx141_0 := q_.cell hx141_0
             generalize q_.W = w29 at HO_7 HO_8 BK133 HB hx140_0 hx141_0 ⊢
             try simp only [i64_w, i32_w]
             try go_wp2
             go_roundg k3
             case measure => have := HK1.out; have := HJ10.out; have := HK3.out; omega
             case rel => exact ⟨(x9_3), (wrap64 (x11_3 + 1)), (by first | rfl | (simp; done) | (simp [*]; done)), (by first | rfl | (simp; done) | (simp [*]; done)), H', ⟨by have := HK1.out; have := HJ10.out; have := HK3.out; omega⟩, ⟨by (with_reducible repeat (first | apply Kd.R_alloc | apply Kd.R_drewN | apply Kd.R_drew)); exact HO_7.out⟩, ⟨by (with_reducible repeat (first | apply Kd.R_alloc | apply Kd.R_drewN | apply Kd.R_drew)); exact HO_8.out⟩, ⟨by (with_reducible repeat (first | refine blk_drewN ?_ _ | refine blk_drew ?_ | refine blk_alloc ?_ _)); exact BK133.out⟩, ⟨Hd.b_⟩⟩
           ·
            rw [if_neg c19] at H
            exact absurd H (by simp)
          ·
           rw [if_neg c18] at H
           exact absurd H (by simp)
         ·
          rw [if_neg c17] at H
          exact absurd H (by simp)
        ·
         rw [if_neg c16] at H
         have c16b0 : decide (x11_3 < (t137.length : Int)) = false := decide_eq_false c16
         clear c16
         have H' := Aside0.mk H
         clear H
         obtain ⟨Ao30, co30, eo30⟩ := Kd.R_slice HO_8.out
         subst eo30
         go_wp2
         go_roundg k3
         case measure => have := HK1.out; have := HJ10.out; have := HK3.out; omega
         case rel => exact ⟨(x9_3), (wrap64 (x10_1 + 1)), (by first | rfl | (simp; done) | (simp [*]; done)), (by first | rfl | (simp; done) | (simp [*]; done)), H', ⟨by have := HK1.out; have := HJ10.out; have := HK3.out; omega⟩, ⟨by (with_reducible repeat (first | apply Kd.R_alloc | apply Kd.R_drewN | apply Kd.R_drew)); exact HO_7.out⟩, ⟨by (with_reducible repeat (first | apply Kd.R_alloc | apply Kd.R_drewN | apply Kd.R_drew)); exact HO_8.out⟩, ⟨by (with_reducible repeat (first | refine blk_drewN ?_ _ | refine blk_drew ?_ | refine blk_alloc ?_ _)); exact BK133.out⟩, ⟨Hd.b_⟩⟩
     ·
      replace c15 := Bool.eq_false_iff.mpr c15
      subst c15
      have H1 : (some x9_1) = some r := by rw [if_neg (show ¬ (false = true) by decide)] at H; exact H
      clear H
      have H := H1
      clear H1
      obtain rfl := Option.some.inj H
      go_wp2
      go_ret
      exact ⟨Hd.e_, Hd.b_⟩
mutual
def impl_beside.j0 : Nat → Int → List Int → Int → Int → ByteArray → Option (List Int)
 | 0, _, _, _, _, _ => none
 | k + 1, x1, x5, x144000, x144001, x144002 => if x144000 = 0 then (none) else (if (Int.tmod x1 x144000) > 0 then (if x5.length < 17592186044416 then (impl_beside.j1 k x1 (x5 ++ [wrap64 (x1 - 1)]) x144000 x144001 x144002) else (none)) else (impl_beside.j1 k x1 x5 x144000 x144001 x144002))
def impl_beside.j1 : Nat → Int → List Int → Int → Int → ByteArray → Option (List Int)
 | 0, _, _, _, _, _ => none
 | k + 1, x1, x5, x144000, x144001, x144002 => if x144000 = 0 then (none) else (if (Int.tmod x1 x144000) < (wrap64 (x144000 - 1)) then (if x5.length < 17592186044416 then ((some (x5 ++ [wrap64 (x1 + 1)] : List Int)).bind fun y153 => (if (wrap64 (x1 + x144000)) < (wrap64 (x144000 * x144001)) then (if y153.length < 17592186044416 then (some (y153 ++ [wrap64 (x1 + x144000)])) else (none)) else (some y153))) else (none)) else (if (wrap64 (x1 + x144000)) < (wrap64 (x144000 * x144001)) then (if x5.length < 17592186044416 then (some (x5 ++ [wrap64 (x1 + x144000)])) else (none)) else (some x5)))
end
def impl_beside.f (k : Nat) (a0_0 : Int) (a0_1 : Int) (a0_2 : ByteArray) (a1 : Int) : Option (List Int) := (some (([] : List Int) : List Int)).bind fun y144 => (if a1 ≥ a0_0 then (if y144.length < 17592186044416 then (impl_beside.j0 k a1 (y144 ++ [wrap64 (a1 - a0_0)]) a0_0 a0_1 a0_2) else (none)) else (impl_beside.j0 k a1 y144 a0_0 a0_1 a0_2))
set_option maxHeartbeats 8000000 in
set_option maxRecDepth 100000 in
theorem impl_beside.calls (k : Nat) (a0_0 : Int) (a0_1 : Int) (a0_2 : ByteArray) (a1 : Int) (r : List Int) (w : World) (h : impl_beside.f k a0_0 a0_1 a0_2 a1 = some r) :
  Calls Try.prog 122 #[.agg #[.int .i64 a0_0, .int .i64 a0_1, .string a0_2], .int .i64 a1] w fun e w' => ∃ v0_ : Value, e = .returned (v0_) ∧ Kd.R (Kd.int .i64) 3 w' w.heap.size (fun _ => True) v0_ r ∧ Below w.heap.size w w' := by
 have hu96 := Try.underlying96
 have HB := Aside0.mk (Below.refl w.heap.size w)
 have H : ((some (([] : List Int) : List Int)).bind fun y144 => (if a1 ≥ a0_0 then (if y144.length < 17592186044416 then (impl_beside.j0 k a1 (y144 ++ [wrap64 (a1 - a0_0)]) a0_0 a0_1 a0_2) else (none)) else (impl_beside.j0 k a1 y144 a0_0 a0_1 a0_2))) = some r := h
 clear h
 obtain ⟨y144, hy144⟩ : ∃ y_ : List Int, y_ = (([] : List Int)) := ⟨_, rfl⟩
 replace H : (if a1 ≥ a0_0 then (if y144.length < 17592186044416 then (impl_beside.j0 k a1 (y144 ++ [wrap64 (a1 - a0_0)]) a0_0 a0_1 a0_2) else (none)) else (impl_beside.j0 k a1 y144 a0_0 a0_1 a0_2)) = some r := by first | (rw [hy144]; with_reducible exact H) | (have H2_ := (Option.bind_some _ _).symm.trans H; rw [hy144]; with_reducible exact H2_) | (have H2_ := (Option.bind_some _ _).symm.trans H; with_reducible exact H2_) | with_reducible exact H | (rw [hy144]; exact H) | exact H
 have Ny144 := Aside0.mk hy144
 clear hy144
 have HC3 := Aside0.mk H
 clear H
 go_enter Try.func122, Try.ntmps122
 go_upto_if 10 with (first | ((with_reducible refine gate_dst (N := 2) rfl ?_); refine Hd.box_ 2 (#[.int .i64 a0_0, .int .i64 a0_1, .string a0_2]) 96 ?_; intro gb143 hg w4 hbox hb; have BK143 := Aside0.mk (hbox); have GW143 := Aside0.mk ((Hd.g_ hg Hd.b_ : w.heap.size ≤ gb143)); have GE143 := Aside0.mk ((Hd.g_ hg Hd.b_ : w.heap.size ≤ gb143)); replace HB := Aside0.mk (below_step Hd.b_ hb); clear hb hbox hg) | ((with_reducible refine gate_dst (N := 6) rfl ?_); refine Kd.R_lit (Kd.int .i64) _ 3 ?hg (N := 6) ?hd (xs := ([] : List Int)) (inner := []) (ok := fun _ => True) (okp := fun _ => True) ?hr ?hp (fun _ hk => hk) trivial (Below.refl _ _) (Nat.le_refl _) (by simp) ?_; (case hd => rfl); (case hg => rfl); (case hr => first | (go_simp; done) | (go_simp; rfl)); (case hp => exact (Reps.none _ _)); intro v145 w5 ho6 hb hg_ hnew_; clear hg_ hnew_; (first | rw [← Ny144.out] at ho6 | (simp only [Int.reduceToNat] at ho6; rw [← Ny144.out] at ho6)); have HO146 := Aside0.mk (Kd.R_lower ho6 (below_size Hd.b_)); replace BK143 := Aside0.mk (Hd.kb_ BK143 hb); replace HB := Aside0.mk (below_step Hd.b_ hb); clear hb ho6; obtain ⟨hcz7_0, hcz7_1, hcz7_2⟩ := Hd.c3_ BK143.out; obtain ⟨hfz7_0, hfz7_1, hfz7_2⟩ := Hd.f3_ BK143.out))
 repeat (go_quiet (first | ((with_reducible refine gate_dst (N := 2) rfl ?_); refine Hd.box_ 2 (#[.int .i64 a0_0, .int .i64 a0_1, .string a0_2]) 96 ?_; intro gb143 hg w4 hbox hb; have BK143 := Aside0.mk (hbox); have GW143 := Aside0.mk ((Hd.g_ hg Hd.b_ : w.heap.size ≤ gb143)); have GE143 := Aside0.mk ((Hd.g_ hg Hd.b_ : w.heap.size ≤ gb143)); replace HB := Aside0.mk (below_step Hd.b_ hb); clear hb hbox hg) | ((with_reducible refine gate_dst (N := 6) rfl ?_); refine Kd.R_lit (Kd.int .i64) _ 3 ?hg (N := 6) ?hd (xs := ([] : List Int)) (inner := []) (ok := fun _ => True) (okp := fun _ => True) ?hr ?hp (fun _ hk => hk) trivial (Below.refl _ _) (Nat.le_refl _) (by simp) ?_; (case hd => rfl); (case hg => rfl); (case hr => first | (go_simp; done) | (go_simp; rfl)); (case hp => exact (Reps.none _ _)); intro v145 w5 ho6 hb hg_ hnew_; clear hg_ hnew_; (first | rw [← Ny144.out] at ho6 | (simp only [Int.reduceToNat] at ho6; rw [← Ny144.out] at ho6)); have HO146 := Aside0.mk (Kd.R_lower ho6 (below_size Hd.b_)); replace BK143 := Aside0.mk (Hd.kb_ BK143 hb); replace HB := Aside0.mk (below_step Hd.b_ hb); clear hb ho6; obtain ⟨hcz7_0, hcz7_1, hcz7_2⟩ := Hd.c3_ BK143.out; obtain ⟨hfz7_0, hfz7_1, hfz7_2⟩ := Hd.f3_ BK143.out)); go_upto_if 10 with (first | ((with_reducible refine gate_dst (N := 2) rfl ?_); refine Hd.box_ 2 (#[.int .i64 a0_0, .int .i64 a0_1, .string a0_2]) 96 ?_; intro gb143 hg w4 hbox hb; have BK143 := Aside0.mk (hbox); have GW143 := Aside0.mk ((Hd.g_ hg Hd.b_ : w.heap.size ≤ gb143)); have GE143 := Aside0.mk ((Hd.g_ hg Hd.b_ : w.heap.size ≤ gb143)); replace HB := Aside0.mk (below_step Hd.b_ hb); clear hb hbox hg) | ((with_reducible refine gate_dst (N := 6) rfl ?_); refine Kd.R_lit (Kd.int .i64) _ 3 ?hg (N := 6) ?hd (xs := ([] : List Int)) (inner := []) (ok := fun _ => True) (okp := fun _ => True) ?hr ?hp (fun _ hk => hk) trivial (Below.refl _ _) (Nat.le_refl _) (by simp) ?_; (case hd => rfl); (case hg => rfl); (case hr => first | (go_simp; done) | (go_simp; rfl)); (case hp => exact (Reps.none _ _)); intro v145 w5 ho6 hb hg_ hnew_; clear hg_ hnew_; (first | rw [← Ny144.out] at ho6 | (simp only [Int.reduceToNat] at ho6; rw [← Ny144.out] at ho6)); have HO146 := Aside0.mk (Kd.R_lower ho6 (below_size Hd.b_)); replace BK143 := Aside0.mk (Hd.kb_ BK143 hb); replace HB := Aside0.mk (below_step Hd.b_ hb); clear hb ho6; obtain ⟨hcz7_0, hcz7_1, hcz7_2⟩ := Hd.c3_ BK143.out; obtain ⟨hfz7_0, hfz7_1, hfz7_2⟩ := Hd.f3_ BK143.out)))
 (try simp only [Act.put, List.setIfInBounds_toArray, List.set_cons_zero, List.set_cons_succ])
 go_cut [5] (fun v5 wc => ∃ (kq : Nat) (x5_2 : List Int), Aside0 (impl_beside.j0 kq a1 x5_2 a0_0 a0_1 a0_2 = some r) ∧ Aside0 (kq ≤ k) ∧ Aside0 (Kd.R (Kd.int .i64) 3 wc w.heap.size (fun _ => True) v5 x5_2) ∧ Aside0 (wc.heap[gb143]? = some (.cells #[.int .i64 a0_0, .int .i64 a0_1, .string a0_2] 96 (0, 0))) ∧ Aside0 (Below w.heap.size w wc))
 case first =>
  have H := HC3.out
  clear HC3
  by_cases c8 : a1 ≥ a0_0
  ·
   rw [if_pos c8] at H
   have c8b0 : decide (a0_0 ≤ a1) = true := decide_eq_true c8
   clear c8
   (first | rw [c8b0] | (simp only [i64_w, i32_w]; rw [c8b0]) | skip)
   by_cases c9 : y144.length < 17592186044416
   ·
    rw [if_pos c9] at H
    have LMc9 := Aside0.mk c9
    clear c9
    obtain ⟨y147, hy147⟩ : ∃ y_ : List Int, y_ = (y144 ++ [wrap64 (a1 - a0_0)]) := ⟨_, rfl⟩
    replace H : (impl_beside.j0 k a1 y147 a0_0 a0_1 a0_2) = some r := by first | (rw [hy147]; with_reducible exact H) | (have H2_ := (Option.bind_some _ _).symm.trans H; rw [hy147]; with_reducible exact H2_) | (have H2_ := (Option.bind_some _ _).symm.trans H; with_reducible exact H2_) | with_reducible exact H | (rw [hy147]; exact H) | exact H
    have Ny147 := Aside0.mk hy147
    clear hy147
    have H' := Aside0.mk H
    clear H
    obtain ⟨hcz10_0, hcz10_1, hcz10_2⟩ := Hd.c3_ BK143.out
    obtain ⟨hfz10_0, hfz10_1, hfz10_2⟩ := Hd.f3_ BK143.out
    go_wp2_with (first | ((with_reducible refine gate_builtin (b := .append) (xs := #[.tmp 11, .tmp 16]) rfl ?_); at_builtin; refine Kd.R_append (Kd.int .i64) (w0 := w) w.heap.size rfl (.tmp 11) (.tmp 16) 81 3 (.int .i64 0) 8 rfl Try.underlying81 info3 rfl (by decide) (by omega) v145 y144 (wrap64 (a1 - a0_0)) [.int .i64 (wrap64 (a1 - a0_0))] (fun _ => True) (fun _ => False) rfl rfl ?aP (fun _ hk => hk.elim) ?aF ?aO ?aB ?aS ?aL ?_; (case aP => exact rfl); (case aB => exact Hd.b_); (case aF => exact (fun _ _ => trivial)); (case aO => exact (Hd.r_ HO146)); (case aS => exact (below_size Hd.b_)); (case aL => have := LMc9.out; omega); intro v148 w11 ho hb hg hat; rw [← Ny147.out] at ho; have n0_ := Aside0.mk (blk_grown (g := gb143) (o := .cells #[.int .i64 a0_0, .int .i64 a0_1, .string a0_2] 96 (0, 0)) (Hd.k_ BK143) hg (Kd.R_ne HO146.out BK143.out (by decide))); have n1_ := Aside0.mk (hb); have n2_ := Aside0.mk (ho); clear BK143; clear HB; clear HO146; have BK143 := n0_; have HB := n1_; have HO149 := n2_; clear n0_ n1_ n2_; clear ho hb hg hat))
    repeat (go_quiet (first | ((with_reducible refine gate_builtin (b := .append) (xs := #[.tmp 11, .tmp 16]) rfl ?_); at_builtin; refine Kd.R_append (Kd.int .i64) (w0 := w) w.heap.size rfl (.tmp 11) (.tmp 16) 81 3 (.int .i64 0) 8 rfl Try.underlying81 info3 rfl (by decide) (by omega) v145 y144 (wrap64 (a1 - a0_0)) [.int .i64 (wrap64 (a1 - a0_0))] (fun _ => True) (fun _ => False) rfl rfl ?aP (fun _ hk => hk.elim) ?aF ?aO ?aB ?aS ?aL ?_; (case aP => exact rfl); (case aB => exact Hd.b_); (case aF => exact (fun _ _ => trivial)); (case aO => exact (Hd.r_ HO146)); (case aS => exact (below_size Hd.b_)); (case aL => have := LMc9.out; omega); intro v148 w11 ho hb hg hat; rw [← Ny147.out] at ho; have n0_ := Aside0.mk (blk_grown (g := gb143) (o := .cells #[.int .i64 a0_0, .int .i64 a0_1, .string a0_2] 96 (0, 0)) (Hd.k_ BK143) hg (Kd.R_ne HO146.out BK143.out (by decide))); have n1_ := Aside0.mk (hb); have n2_ := Aside0.mk (ho); clear BK143; clear HB; clear HO146; have BK143 := n0_; have HB := n1_; have HO149 := n2_; clear n0_ n1_ n2_; clear ho hb hg hat)); try go_wp2_with (first | ((with_reducible refine gate_builtin (b := .append) (xs := #[.tmp 11, .tmp 16]) rfl ?_); at_builtin; refine Kd.R_append (Kd.int .i64) (w0 := w) w.heap.size rfl (.tmp 11) (.tmp 16) 81 3 (.int .i64 0) 8 rfl Try.underlying81 info3 rfl (by decide) (by omega) v145 y144 (wrap64 (a1 - a0_0)) [.int .i64 (wrap64 (a1 - a0_0))] (fun _ => True) (fun _ => False) rfl rfl ?aP (fun _ hk => hk.elim) ?aF ?aO ?aB ?aS ?aL ?_; (case aP => exact rfl); (case aB => exact Hd.b_); (case aF => exact (fun _ _ => trivial)); (case aO => exact (Hd.r_ HO146)); (case aS => exact (below_size Hd.b_)); (case aL => have := LMc9.out; omega); intro v148 w11 ho hb hg hat; rw [← Ny147.out] at ho; have n0_ := Aside0.mk (blk_grown (g := gb143) (o := .cells #[.int .i64 a0_0, .int .i64 a0_1, .string a0_2] 96 (0, 0)) (Hd.k_ BK143) hg (Kd.R_ne HO146.out BK143.out (by decide))); have n1_ := Aside0.mk (hb); have n2_ := Aside0.mk (ho); clear BK143; clear HB; clear HO146; have BK143 := n0_; have HB := n1_; have HO149 := n2_; clear n0_ n1_ n2_; clear ho hb hg hat)))
    go_meet
    case rel => exact ⟨_, (y147), H', ⟨by first | omega | exact Nat.le_refl _⟩, ⟨by (with_reducible repeat (first | apply Kd.R_alloc | apply Kd.R_drewN | apply Kd.R_drew)); exact HO149.out⟩, ⟨by (with_reducible repeat (first | refine blk_drewN ?_ _ | refine blk_drew ?_ | refine blk_alloc ?_ _)); exact BK143.out⟩, ⟨Hd.b_⟩⟩
   ·
    rw [if_neg c9] at H
    exact absurd H (by simp)
  ·
   rw [if_neg c8] at H
   have c8b0 : decide (a0_0 ≤ a1) = false := decide_eq_false c8
   clear c8
   (first | rw [c8b0] | (simp only [i64_w, i32_w]; rw [c8b0]) | skip)
   have H' := Aside0.mk H
   clear H
   go_wp2
   repeat (go_quiet (fail); try go_wp2)
   go_meet
   case rel => exact ⟨_, (y144), H', ⟨by first | omega | exact Nat.le_refl _⟩, ⟨by (with_reducible repeat (first | apply Kd.R_alloc | apply Kd.R_drewN | apply Kd.R_drew)); exact HO146.out⟩, ⟨by (with_reducible repeat (first | refine blk_drewN ?_ _ | refine blk_drew ?_ | refine blk_alloc ?_ _)); exact BK143.out⟩, ⟨Hd.b_⟩⟩
 case rest =>
  clear HC3
  try clear c1
  try clear p2
  try clear p6
  try clear c8
  try clear c8b0
  try clear c9
  try clear hcz10_0
  try clear hcz10_1
  try clear hcz10_2
  try clear hcz7_0
  try clear hcz7_1
  try clear hcz7_2
  try clear hfz10_0
  try clear hfz10_1
  try clear hfz10_2
  try clear hfz7_0
  try clear hfz7_1
  try clear hfz7_2
  obtain ⟨kq, x5_2, HA, HJ2, HO_5, BK143, HB⟩ := hcut
  cases kq with
  | zero => exact absurd HA.out (by simp [impl_beside.j0])
  | succ kj2 =>
   have H := HA.out
   clear HA
   simp only [impl_beside.j0] at H
   by_cases c12 : a0_0 = 0
   ·
    rw [if_pos c12] at H
    exact absurd H (by simp)
   ·
    rw [if_neg c12] at H
    have c12b0 : (a0_0 == 0) = false := beq_eq_false_iff_ne.mpr c12
    have c12b1 : (a0_0 != 0) = true := bne_iff_ne.mpr c12
    have HC13 := Aside0.mk H
    clear H
    obtain ⟨hcz14_0, hcz14_1, hcz14_2⟩ := Hd.c3_ BK143.out
    obtain ⟨hfz14_0, hfz14_1, hfz14_2⟩ := Hd.f3_ BK143.out
    go_upto_if 22 with (fail)
    repeat (go_quiet (fail); go_upto_if 22 with (fail))
    go_cut [5] (fun v5 wc => ∃ (kq : Nat) (x5_12 : List Int), Aside0 (impl_beside.j1 kq a1 x5_12 a0_0 a0_1 a0_2 = some r) ∧ Aside0 (kq ≤ kj2) ∧ Aside0 (Kd.R (Kd.int .i64) 3 wc w.heap.size (fun _ => True) v5 x5_12) ∧ Aside0 (wc.heap[gb143]? = some (.cells #[.int .i64 a0_0, .int .i64 a0_1, .string a0_2] 96 (0, 0))) ∧ Aside0 (Below w.heap.size w wc))
    case first =>
     have H := HC13.out
     clear HC13
     by_cases c15 : (Int.tmod a1 a0_0) > 0
     ·
      rw [if_pos c15] at H
      have c15b0 : decide (0 < (Int.tmod a1 a0_0)) = true := decide_eq_true c15
      clear c15
      (first | rw [c15b0] | (simp only [i64_w, i32_w]; rw [c15b0]) | skip)
      by_cases c16 : x5_2.length < 17592186044416
      ·
       rw [if_pos c16] at H
       have LMc16 := Aside0.mk c16
       clear c16
       obtain ⟨y150, hy150⟩ : ∃ y_ : List Int, y_ = (x5_2 ++ [wrap64 (a1 - 1)]) := ⟨_, rfl⟩
       replace H : (impl_beside.j1 kj2 a1 y150 a0_0 a0_1 a0_2) = some r := by first | (rw [hy150]; with_reducible exact H) | (have H2_ := (Option.bind_some _ _).symm.trans H; rw [hy150]; with_reducible exact H2_) | (have H2_ := (Option.bind_some _ _).symm.trans H; with_reducible exact H2_) | with_reducible exact H | (rw [hy150]; exact H) | exact H
       have Ny150 := Aside0.mk hy150
       clear hy150
       have H' := Aside0.mk H
       clear H
       go_wp2_with (first | ((with_reducible refine gate_builtin (b := .append) (xs := #[.tmp 23, .tmp 26]) rfl ?_); at_builtin; refine Kd.R_append (Kd.int .i64) (w0 := w) w.heap.size rfl (.tmp 23) (.tmp 26) 81 3 (.int .i64 0) 8 rfl Try.underlying81 info3 rfl (by decide) (by omega) u5 x5_2 (wrap64 (a1 - 1)) [.int .i64 (wrap64 (a1 - 1))] (fun _ => True) (fun _ => False) rfl rfl ?aP (fun _ hk => hk.elim) ?aF ?aO ?aB ?aS ?aL ?_; (case aP => exact rfl); (case aB => exact Hd.b_); (case aF => exact (fun _ _ => trivial)); (case aO => exact (Hd.r_ HO_5)); (case aS => exact (below_size Hd.b_)); (case aL => have := LMc16.out; omega); intro v151 w17 ho hb hg hat; rw [← Ny150.out] at ho; have n0_ := Aside0.mk (blk_grown (g := gb143) (o := .cells #[.int .i64 a0_0, .int .i64 a0_1, .string a0_2] 96 (0, 0)) (Hd.k_ BK143) hg (Kd.R_ne HO_5.out BK143.out (by decide))); have n1_ := Aside0.mk (hb); have n2_ := Aside0.mk (ho); clear BK143; clear HB; clear HO_5; have BK143 := n0_; have HB := n1_; have HO152 := n2_; clear n0_ n1_ n2_; clear ho hb hg hat))
       repeat (go_quiet (first | ((with_reducible refine gate_builtin (b := .append) (xs := #[.tmp 23, .tmp 26]) rfl ?_); at_builtin; refine Kd.R_append (Kd.int .i64) (w0 := w) w.heap.size rfl (.tmp 23) (.tmp 26) 81 3 (.int .i64 0) 8 rfl Try.underlying81 info3 rfl (by decide) (by omega) u5 x5_2 (wrap64 (a1 - 1)) [.int .i64 (wrap64 (a1 - 1))] (fun _ => True) (fun _ => False) rfl rfl ?aP (fun _ hk => hk.elim) ?aF ?aO ?aB ?aS ?aL ?_; (case aP => exact rfl); (case aB => exact Hd.b_); (case aF => exact (fun _ _ => trivial)); (case aO => exact (Hd.r_ HO_5)); (case aS => exact (below_size Hd.b_)); (case aL => have := LMc16.out; omega); intro v151 w17 ho hb hg hat; rw [← Ny150.out] at ho; have n0_ := Aside0.mk (blk_grown (g := gb143) (o := .cells #[.int .i64 a0_0, .int .i64 a0_1, .string a0_2] 96 (0, 0)) (Hd.k_ BK143) hg (Kd.R_ne HO_5.out BK143.out (by decide))); have n1_ := Aside0.mk (hb); have n2_ := Aside0.mk (ho); clear BK143; clear HB; clear HO_5; have BK143 := n0_; have HB := n1_; have HO152 := n2_; clear n0_ n1_ n2_; clear ho hb hg hat)); try go_wp2_with (first | ((with_reducible refine gate_builtin (b := .append) (xs := #[.tmp 23, .tmp 26]) rfl ?_); at_builtin; refine Kd.R_append (Kd.int .i64) (w0 := w) w.heap.size rfl (.tmp 23) (.tmp 26) 81 3 (.int .i64 0) 8 rfl Try.underlying81 info3 rfl (by decide) (by omega) u5 x5_2 (wrap64 (a1 - 1)) [.int .i64 (wrap64 (a1 - 1))] (fun _ => True) (fun _ => False) rfl rfl ?aP (fun _ hk => hk.elim) ?aF ?aO ?aB ?aS ?aL ?_; (case aP => exact rfl); (case aB => exact Hd.b_); (case aF => exact (fun _ _ => trivial)); (case aO => exact (Hd.r_ HO_5)); (case aS => exact (below_size Hd.b_)); (case aL => have := LMc16.out; omega); intro v151 w17 ho hb hg hat; rw [← Ny150.out] at ho; have n0_ := Aside0.mk (blk_grown (g := gb143) (o := .cells #[.int .i64 a0_0, .int .i64 a0_1, .string a0_2] 96 (0, 0)) (Hd.k_ BK143) hg (Kd.R_ne HO_5.out BK143.out (by decide))); have n1_ := Aside0.mk (hb); have n2_ := Aside0.mk (ho); clear BK143; clear HB; clear HO_5; have BK143 := n0_; have HB := n1_; have HO152 := n2_; clear n0_ n1_ n2_; clear ho hb hg hat)))
       go_meet
       case rel => exact ⟨_, (y150), H', ⟨by have := HJ2.out; first | omega | exact Nat.le_refl _⟩, ⟨by (with_reducible repeat (first | apply Kd.R_alloc | apply Kd.R_drewN | apply Kd.R_drew)); exact HO152.out⟩, ⟨by (with_reducible repeat (first | refine blk_drewN ?_ _ | refine blk_drew ?_ | refine blk_alloc ?_ _)); exact BK143.out⟩, ⟨Hd.b_⟩⟩
      ·
       rw [if_neg c16] at H
       exact absurd H (by simp)
     ·
      rw [if_neg c15] at H
      have c15b0 : decide (0 < (Int.tmod a1 a0_0)) = false := decide_eq_false c15
      clear c15
      (first | rw [c15b0] | (simp only [i64_w, i32_w]; rw [c15b0]) | skip)
      have H' := Aside0.mk H
      clear H
      go_wp2
      repeat (go_quiet (fail); try go_wp2)
      go_meet
      case rel => exact ⟨_, (x5_2), H', ⟨by have := HJ2.out; first | omega | exact Nat.le_refl _⟩, ⟨by (with_reducible repeat (first | apply Kd.R_alloc | apply Kd.R_drewN | apply Kd.R_drew)); exact HO_5.out⟩, ⟨by (with_reducible repeat (first | refine blk_drewN ?_ _ | refine blk_drew ?_ | refine blk_alloc ?_ _)); exact BK143.out⟩, ⟨Hd.b_⟩⟩
    case rest =>
     clear HC13
     try clear c1
     try clear p2
     try clear p6
     try clear c8
     try clear c8b0
     try clear c9
     try clear c12
     try clear c12b0
     try clear c12b1
     try clear c15
     try clear c15b0
     try clear c16
     try clear hcz10_0
     try clear hcz10_1
     try clear hcz10_2
     try clear hcz14_0
     try clear hcz14_1
     try clear hcz14_2
     try clear hcz7_0
     try clear hcz7_1
     try clear hcz7_2
     try clear hfz10_0
     try clear hfz10_1
     try clear hfz10_2
     try clear hfz14_0
     try clear hfz14_1
     try clear hfz14_2
     try clear hfz7_0
     try clear hfz7_1
     try clear hfz7_2
     try clear p2
     try clear p6
     obtain ⟨kq, x5_12, HA, HJ12, HO_5, BK143, HB⟩ := hcut
     cases kq with
     | zero => exact absurd HA.out (by simp [impl_beside.j1])
     | succ kj12 =>
      have H := HA.out
      clear HA
      simp only [impl_beside.j1] at H
      by_cases c18 : a0_0 = 0
      ·
       rw [if_pos c18] at H
       exact absurd H (by simp)
      ·
       rw [if_neg c18] at H
       have c18b0 : (a0_0 == 0) = false := beq_eq_false_iff_ne.mpr c18
       have c18b1 : (a0_0 != 0) = true := bne_iff_ne.mpr c18
       by_cases c19 : (Int.tmod a1 a0_0) < (wrap64 (a0_0 - 1))
       ·
        rw [if_pos c19] at H
        have c19b0 : decide ((Int.tmod a1 a0_0) < (wrap64 (a0_0 - 1))) = true := decide_eq_true c19
        clear c19
        by_cases c20 : x5_12.length < 17592186044416
        ·
         rw [if_pos c20] at H
         have LMc20 := Aside0.mk c20
         clear c20
         obtain ⟨y153, hy153⟩ : ∃ y_ : List Int, y_ = (x5_12 ++ [wrap64 (a1 + 1)]) := ⟨_, rfl⟩
         replace H : (if (wrap64 (a1 + a0_0)) < (wrap64 (a0_0 * a0_1)) then (if y153.length < 17592186044416 then (some (y153 ++ [wrap64 (a1 + a0_0)])) else (none)) else (some y153)) = some r := by first | (rw [hy153]; with_reducible exact H) | (have H2_ := (Option.bind_some _ _).symm.trans H; rw [hy153]; with_reducible exact H2_) | (have H2_ := (Option.bind_some _ _).symm.trans H; with_reducible exact H2_) | with_reducible exact H | (rw [hy153]; exact H) | exact H
         have Ny153 := Aside0.mk hy153
         clear hy153
         by_cases c21 : (wrap64 (a1 + a0_0)) < (wrap64 (a0_0 * a0_1))
         ·
          rw [if_pos c21] at H
          have c21b0 : decide ((wrap64 (a1 + a0_0)) < (wrap64 (a0_0 * a0_1))) = true := decide_eq_true c21
          clear c21
          by_cases c22 : y153.length < 17592186044416
          ·
           rw [if_pos c22] at H
           have LMc22 := Aside0.mk c22
           clear c22
           obtain ⟨y156, hy156⟩ : ∃ y_ : List Int, y_ = (y153 ++ [wrap64 (a1 + a0_0)]) := ⟨_, rfl⟩
           replace H : (some y156) = some r := by first | (rw [hy156]; with_reducible exact H) | (have H2_ := (Option.bind_some _ _).symm.trans H; rw [hy156]; with_reducible exact H2_) | (have H2_ := (Option.bind_some _ _).symm.trans H; with_reducible exact H2_) | with_reducible exact H | (rw [hy156]; exact H) | exact H
           have Ny156 := Aside0.mk hy156
           clear hy156
           obtain rfl := Option.some.inj H
           obtain ⟨hcz23_0, hcz23_1, hcz23_2⟩ := Hd.c3_ BK143.out
           obtain ⟨hfz23_0, hfz23_1, hfz23_2⟩ := Hd.f3_ BK143.out
           go_wp2_with (first | ((with_reducible refine gate_builtin (b := .append) (xs := #[.tmp 36, .tmp 39]) rfl ?_); at_builtin; refine Kd.R_append (Kd.int .i64) (w0 := w) w.heap.size rfl (.tmp 36) (.tmp 39) 81 3 (.int .i64 0) 8 rfl Try.underlying81 info3 rfl (by decide) (by omega) u5 x5_12 (wrap64 (a1 + 1)) [.int .i64 (wrap64 (a1 + 1))] (fun _ => True) (fun _ => False) rfl rfl ?aP (fun _ hk => hk.elim) ?aF ?aO ?aB ?aS ?aL ?_; (case aP => exact rfl); (case aB => exact Hd.b_); (case aF => exact (fun _ _ => trivial)); (case aO => exact (Hd.r_ HO_5)); (case aS => exact (below_size Hd.b_)); (case aL => have := LMc20.out; omega); intro v154 w24 ho hb hg hat; rw [← Ny153.out] at ho; have n0_ := Aside0.mk (blk_grown (g := gb143) (o := .cells #[.int .i64 a0_0, .int .i64 a0_1, .string a0_2] 96 (0, 0)) (Hd.k_ BK143) hg (Kd.R_ne HO_5.out BK143.out (by decide))); have n1_ := Aside0.mk (hb); have n2_ := Aside0.mk (ho); clear BK143; clear HB; clear HO_5; have BK143 := n0_; have HB := n1_; have HO155 := n2_; clear n0_ n1_ n2_; clear ho hb hg hat; obtain ⟨hcz25_0, hcz25_1, hcz25_2⟩ := Hd.c3_ BK143.out; obtain ⟨hfz25_0, hfz25_1, hfz25_2⟩ := Hd.f3_ BK143.out) | ((with_reducible refine gate_builtin (b := .append) (xs := #[.tmp 51, .tmp 56]) rfl ?_); at_builtin; refine Kd.R_append (Kd.int .i64) (w0 := w) w.heap.size rfl (.tmp 51) (.tmp 56) 81 3 (.int .i64 0) 8 rfl Try.underlying81 info3 rfl (by decide) (by omega) v154 y153 (wrap64 (a1 + a0_0)) [.int .i64 (wrap64 (a1 + a0_0))] (fun _ => True) (fun _ => False) rfl rfl ?aP (fun _ hk => hk.elim) ?aF ?aO ?aB ?aS ?aL ?_; (case aP => exact rfl); (case aB => exact Hd.b_); (case aF => exact (fun _ _ => trivial)); (case aO => exact (Hd.r_ HO155)); (case aS => exact (below_size Hd.b_)); (case aL => have := LMc22.out; omega); intro v157 w26 ho hb hg hat; rw [← Ny156.out] at ho; have n0_ := Aside0.mk (blk_grown (g := gb143) (o := .cells #[.int .i64 a0_0, .int .i64 a0_1, .string a0_2] 96 (0, 0)) (Hd.k_ BK143) hg (Kd.R_ne HO155.out BK143.out (by decide))); have n1_ := Aside0.mk (hb); have n2_ := Aside0.mk (ho); clear BK143; clear HB; clear HO155; have BK143 := n0_; have HB := n1_; have HO158 := n2_; clear n0_ n1_ n2_; clear ho hb hg hat))
           repeat (go_quiet (first | ((with_reducible refine gate_builtin (b := .append) (xs := #[.tmp 36, .tmp 39]) rfl ?_); at_builtin; refine Kd.R_append (Kd.int .i64) (w0 := w) w.heap.size rfl (.tmp 36) (.tmp 39) 81 3 (.int .i64 0) 8 rfl Try.underlying81 info3 rfl (by decide) (by omega) u5 x5_12 (wrap64 (a1 + 1)) [.int .i64 (wrap64 (a1 + 1))] (fun _ => True) (fun _ => False) rfl rfl ?aP (fun _ hk => hk.elim) ?aF ?aO ?aB ?aS ?aL ?_; (case aP => exact rfl); (case aB => exact Hd.b_); (case aF => exact (fun _ _ => trivial)); (case aO => exact (Hd.r_ HO_5)); (case aS => exact (below_size Hd.b_)); (case aL => have := LMc20.out; omega); intro v154 w24 ho hb hg hat; rw [← Ny153.out] at ho; have n0_ := Aside0.mk (blk_grown (g := gb143) (o := .cells #[.int .i64 a0_0, .int .i64 a0_1, .string a0_2] 96 (0, 0)) (Hd.k_ BK143) hg (Kd.R_ne HO_5.out BK143.out (by decide))); have n1_ := Aside0.mk (hb); have n2_ := Aside0.mk (ho); clear BK143; clear HB; clear HO_5; have BK143 := n0_; have HB := n1_; have HO155 := n2_; clear n0_ n1_ n2_; clear ho hb hg hat; obtain ⟨hcz25_0, hcz25_1, hcz25_2⟩ := Hd.c3_ BK143.out; obtain ⟨hfz25_0, hfz25_1, hfz25_2⟩ := Hd.f3_ BK143.out) | ((with_reducible refine gate_builtin (b := .append) (xs := #[.tmp 51, .tmp 56]) rfl ?_); at_builtin; refine Kd.R_append (Kd.int .i64) (w0 := w) w.heap.size rfl (.tmp 51) (.tmp 56) 81 3 (.int .i64 0) 8 rfl Try.underlying81 info3 rfl (by decide) (by omega) v154 y153 (wrap64 (a1 + a0_0)) [.int .i64 (wrap64 (a1 + a0_0))] (fun _ => True) (fun _ => False) rfl rfl ?aP (fun _ hk => hk.elim) ?aF ?aO ?aB ?aS ?aL ?_; (case aP => exact rfl); (case aB => exact Hd.b_); (case aF => exact (fun _ _ => trivial)); (case aO => exact (Hd.r_ HO155)); (case aS => exact (below_size Hd.b_)); (case aL => have := LMc22.out; omega); intro v157 w26 ho hb hg hat; rw [← Ny156.out] at ho; have n0_ := Aside0.mk (blk_grown (g := gb143) (o := .cells #[.int .i64 a0_0, .int .i64 a0_1, .string a0_2] 96 (0, 0)) (Hd.k_ BK143) hg (Kd.R_ne HO155.out BK143.out (by decide))); have n1_ := Aside0.mk (hb); have n2_ := Aside0.mk (ho); clear BK143; clear HB; clear HO155; have BK143 := n0_; have HB := n1_; have HO158 := n2_; clear n0_ n1_ n2_; clear ho hb hg hat)); try go_wp2_with (first | ((with_reducible refine gate_builtin (b := .append) (xs := #[.tmp 36, .tmp 39]) rfl ?_); at_builtin; refine Kd.R_append (Kd.int .i64) (w0 := w) w.heap.size rfl (.tmp 36) (.tmp 39) 81 3 (.int .i64 0) 8 rfl Try.underlying81 info3 rfl (by decide) (by omega) u5 x5_12 (wrap64 (a1 + 1)) [.int .i64 (wrap64 (a1 + 1))] (fun _ => True) (fun _ => False) rfl rfl ?aP (fun _ hk => hk.elim) ?aF ?aO ?aB ?aS ?aL ?_; (case aP => exact rfl); (case aB => exact Hd.b_); (case aF => exact (fun _ _ => trivial)); (case aO => exact (Hd.r_ HO_5)); (case aS => exact (below_size Hd.b_)); (case aL => have := LMc20.out; omega); intro v154 w24 ho hb hg hat; rw [← Ny153.out] at ho; have n0_ := Aside0.mk (blk_grown (g := gb143) (o := .cells #[.int .i64 a0_0, .int .i64 a0_1, .string a0_2] 96 (0, 0)) (Hd.k_ BK143) hg (Kd.R_ne HO_5.out BK143.out (by decide))); have n1_ := Aside0.mk (hb); have n2_ := Aside0.mk (ho); clear BK143; clear HB; clear HO_5; have BK143 := n0_; have HB := n1_; have HO155 := n2_; clear n0_ n1_ n2_; clear ho hb hg hat; obtain ⟨hcz25_0, hcz25_1, hcz25_2⟩ := Hd.c3_ BK143.out; obtain ⟨hfz25_0, hfz25_1, hfz25_2⟩ := Hd.f3_ BK143.out) | ((with_reducible refine gate_builtin (b := .append) (xs := #[.tmp 51, .tmp 56]) rfl ?_); at_builtin; refine Kd.R_append (Kd.int .i64) (w0 := w) w.heap.size rfl (.tmp 51) (.tmp 56) 81 3 (.int .i64 0) 8 rfl Try.underlying81 info3 rfl (by decide) (by omega) v154 y153 (wrap64 (a1 + a0_0)) [.int .i64 (wrap64 (a1 + a0_0))] (fun _ => True) (fun _ => False) rfl rfl ?aP (fun _ hk => hk.elim) ?aF ?aO ?aB ?aS ?aL ?_; (case aP => exact rfl); (case aB => exact Hd.b_); (case aF => exact (fun _ _ => trivial)); (case aO => exact (Hd.r_ HO155)); (case aS => exact (below_size Hd.b_)); (case aL => have := LMc22.out; omega); intro v157 w26 ho hb hg hat; rw [← Ny156.out] at ho; have n0_ := Aside0.mk (blk_grown (g := gb143) (o := .cells #[.int .i64 a0_0, .int .i64 a0_1, .string a0_2] 96 (0, 0)) (Hd.k_ BK143) hg (Kd.R_ne HO155.out BK143.out (by decide))); have n1_ := Aside0.mk (hb); have n2_ := Aside0.mk (ho); clear BK143; clear HB; clear HO155; have BK143 := n0_; have HB := n1_; have HO158 := n2_; clear n0_ n1_ n2_; clear ho hb hg hat)))
           go_ret
           exact ⟨_, Hd.e_, by (with_reducible repeat (first | apply Kd.R_alloc | apply Kd.R_drewN | apply Kd.R_drew)); exact HO158.out, Hd.b_⟩
          ·
           rw [if_neg c22] at H
           exact absurd H (by simp)
         ·
          rw [if_neg c21] at H
          have c21b0 : decide ((wrap64 (a1 + a0_0)) < (wrap64 (a0_0 * a0_1))) = false := decide_eq_false c21
          clear c21
          obtain rfl := Option.some.inj H
          obtain ⟨hcz27_0, hcz27_1, hcz27_2⟩ := Hd.c3_ BK143.out
          obtain ⟨hfz27_0, hfz27_1, hfz27_2⟩ := Hd.f3_ BK143.out
          go_wp2_with (first | ((with_reducible refine gate_builtin (b := .append) (xs := #[.tmp 36, .tmp 39]) rfl ?_); at_builtin; refine Kd.R_append (Kd.int .i64) (w0 := w) w.heap.size rfl (.tmp 36) (.tmp 39) 81 3 (.int .i64 0) 8 rfl Try.underlying81 info3 rfl (by decide) (by omega) u5 x5_12 (wrap64 (a1 + 1)) [.int .i64 (wrap64 (a1 + 1))] (fun _ => True) (fun _ => False) rfl rfl ?aP (fun _ hk => hk.elim) ?aF ?aO ?aB ?aS ?aL ?_; (case aP => exact rfl); (case aB => exact Hd.b_); (case aF => exact (fun _ _ => trivial)); (case aO => exact (Hd.r_ HO_5)); (case aS => exact (below_size Hd.b_)); (case aL => have := LMc20.out; omega); intro v154 w28 ho hb hg hat; rw [← Ny153.out] at ho; have n0_ := Aside0.mk (blk_grown (g := gb143) (o := .cells #[.int .i64 a0_0, .int .i64 a0_1, .string a0_2] 96 (0, 0)) (Hd.k_ BK143) hg (Kd.R_ne HO_5.out BK143.out (by decide))); have n1_ := Aside0.mk (hb); have n2_ := Aside0.mk (ho); clear BK143; clear HB; clear HO_5; have BK143 := n0_; have HB := n1_; have HO155 := n2_; clear n0_ n1_ n2_; clear ho hb hg hat; obtain ⟨hcz29_0, hcz29_1, hcz29_2⟩ := Hd.c3_ BK143.out; obtain ⟨hfz29_0, hfz29_1, hfz29_2⟩ := Hd.f3_ BK143.out))
          repeat (go_quiet (first | ((with_reducible refine gate_builtin (b := .append) (xs := #[.tmp 36, .tmp 39]) rfl ?_); at_builtin; refine Kd.R_append (Kd.int .i64) (w0 := w) w.heap.size rfl (.tmp 36) (.tmp 39) 81 3 (.int .i64 0) 8 rfl Try.underlying81 info3 rfl (by decide) (by omega) u5 x5_12 (wrap64 (a1 + 1)) [.int .i64 (wrap64 (a1 + 1))] (fun _ => True) (fun _ => False) rfl rfl ?aP (fun _ hk => hk.elim) ?aF ?aO ?aB ?aS ?aL ?_; (case aP => exact rfl); (case aB => exact Hd.b_); (case aF => exact (fun _ _ => trivial)); (case aO => exact (Hd.r_ HO_5)); (case aS => exact (below_size Hd.b_)); (case aL => have := LMc20.out; omega); intro v154 w28 ho hb hg hat; rw [← Ny153.out] at ho; have n0_ := Aside0.mk (blk_grown (g := gb143) (o := .cells #[.int .i64 a0_0, .int .i64 a0_1, .string a0_2] 96 (0, 0)) (Hd.k_ BK143) hg (Kd.R_ne HO_5.out BK143.out (by decide))); have n1_ := Aside0.mk (hb); have n2_ := Aside0.mk (ho); clear BK143; clear HB; clear HO_5; have BK143 := n0_; have HB := n1_; have HO155 := n2_; clear n0_ n1_ n2_; clear ho hb hg hat; obtain ⟨hcz29_0, hcz29_1, hcz29_2⟩ := Hd.c3_ BK143.out; obtain ⟨hfz29_0, hfz29_1, hfz29_2⟩ := Hd.f3_ BK143.out)); try go_wp2_with (first | ((with_reducible refine gate_builtin (b := .append) (xs := #[.tmp 36, .tmp 39]) rfl ?_); at_builtin; refine Kd.R_append (Kd.int .i64) (w0 := w) w.heap.size rfl (.tmp 36) (.tmp 39) 81 3 (.int .i64 0) 8 rfl Try.underlying81 info3 rfl (by decide) (by omega) u5 x5_12 (wrap64 (a1 + 1)) [.int .i64 (wrap64 (a1 + 1))] (fun _ => True) (fun _ => False) rfl rfl ?aP (fun _ hk => hk.elim) ?aF ?aO ?aB ?aS ?aL ?_; (case aP => exact rfl); (case aB => exact Hd.b_); (case aF => exact (fun _ _ => trivial)); (case aO => exact (Hd.r_ HO_5)); (case aS => exact (below_size Hd.b_)); (case aL => have := LMc20.out; omega); intro v154 w28 ho hb hg hat; rw [← Ny153.out] at ho; have n0_ := Aside0.mk (blk_grown (g := gb143) (o := .cells #[.int .i64 a0_0, .int .i64 a0_1, .string a0_2] 96 (0, 0)) (Hd.k_ BK143) hg (Kd.R_ne HO_5.out BK143.out (by decide))); have n1_ := Aside0.mk (hb); have n2_ := Aside0.mk (ho); clear BK143; clear HB; clear HO_5; have BK143 := n0_; have HB := n1_; have HO155 := n2_; clear n0_ n1_ n2_; clear ho hb hg hat; obtain ⟨hcz29_0, hcz29_1, hcz29_2⟩ := Hd.c3_ BK143.out; obtain ⟨hfz29_0, hfz29_1, hfz29_2⟩ := Hd.f3_ BK143.out)))
          go_ret
          exact ⟨_, Hd.e_, by (with_reducible repeat (first | apply Kd.R_alloc | apply Kd.R_drewN | apply Kd.R_drew)); exact HO155.out, Hd.b_⟩
        ·
         rw [if_neg c20] at H
         exact absurd H (by simp)
       ·
        rw [if_neg c19] at H
        have c19b0 : decide ((Int.tmod a1 a0_0) < (wrap64 (a0_0 - 1))) = false := decide_eq_false c19
        clear c19
        by_cases c30 : (wrap64 (a1 + a0_0)) < (wrap64 (a0_0 * a0_1))
        ·
         rw [if_pos c30] at H
         have c30b0 : decide ((wrap64 (a1 + a0_0)) < (wrap64 (a0_0 * a0_1))) = true := decide_eq_true c30
         clear c30
         by_cases c31 : x5_12.length < 17592186044416
         ·
          rw [if_pos c31] at H
          have LMc31 := Aside0.mk c31
          clear c31
          obtain ⟨y159, hy159⟩ : ∃ y_ : List Int, y_ = (x5_12 ++ [wrap64 (a1 + a0_0)]) := ⟨_, rfl⟩
          replace H : (some y159) = some r := by first | (rw [hy159]; with_reducible exact H) | (have H2_ := (Option.bind_some _ _).symm.trans H; rw [hy159]; with_reducible exact H2_) | (have H2_ := (Option.bind_some _ _).symm.trans H; with_reducible exact H2_) | with_reducible exact H | (rw [hy159]; exact H) | exact H
          have Ny159 := Aside0.mk hy159
          clear hy159
          obtain rfl := Option.some.inj H
          obtain ⟨hcz32_0, hcz32_1, hcz32_2⟩ := Hd.c3_ BK143.out
          obtain ⟨hfz32_0, hfz32_1, hfz32_2⟩ := Hd.f3_ BK143.out
          go_wp2_with (first | ((with_reducible refine gate_builtin (b := .append) (xs := #[.tmp 51, .tmp 56]) rfl ?_); at_builtin; refine Kd.R_append (Kd.int .i64) (w0 := w) w.heap.size rfl (.tmp 51) (.tmp 56) 81 3 (.int .i64 0) 8 rfl Try.underlying81 info3 rfl (by decide) (by omega) u5 x5_12 (wrap64 (a1 + a0_0)) [.int .i64 (wrap64 (a1 + a0_0))] (fun _ => True) (fun _ => False) rfl rfl ?aP (fun _ hk => hk.elim) ?aF ?aO ?aB ?aS ?aL ?_; (case aP => exact rfl); (case aB => exact Hd.b_); (case aF => exact (fun _ _ => trivial)); (case aO => exact (Hd.r_ HO_5)); (case aS => exact (below_size Hd.b_)); (case aL => have := LMc31.out; omega); intro v160 w33 ho hb hg hat; rw [← Ny159.out] at ho; have n0_ := Aside0.mk (blk_grown (g := gb143) (o := .cells #[.int .i64 a0_0, .int .i64 a0_1, .string a0_2] 96 (0, 0)) (Hd.k_ BK143) hg (Kd.R_ne HO_5.out BK143.out (by decide))); have n1_ := Aside0.mk (hb); have n2_ := Aside0.mk (ho); clear BK143; clear HB; clear HO_5; have BK143 := n0_; have HB := n1_; have HO161 := n2_; clear n0_ n1_ n2_; clear ho hb hg hat))
          repeat (go_quiet (first | ((with_reducible refine gate_builtin (b := .append) (xs := #[.tmp 51, .tmp 56]) rfl ?_); at_builtin; refine Kd.R_append (Kd.int .i64) (w0 := w) w.heap.size rfl (.tmp 51) (.tmp 56) 81 3 (.int .i64 0) 8 rfl Try.underlying81 info3 rfl (by decide) (by omega) u5 x5_12 (wrap64 (a1 + a0_0)) [.int .i64 (wrap64 (a1 + a0_0))] (fun _ => True) (fun _ => False) rfl rfl ?aP (fun _ hk => hk.elim) ?aF ?aO ?aB ?aS ?aL ?_; (case aP => exact rfl); (case aB => exact Hd.b_); (case aF => exact (fun _ _ => trivial)); (case aO => exact (Hd.r_ HO_5)); (case aS => exact (below_size Hd.b_)); (case aL => have := LMc31.out; omega); intro v160 w33 ho hb hg hat; rw [← Ny159.out] at ho; have n0_ := Aside0.mk (blk_grown (g := gb143) (o := .cells #[.int .i64 a0_0, .int .i64 a0_1, .string a0_2] 96 (0, 0)) (Hd.k_ BK143) hg (Kd.R_ne HO_5.out BK143.out (by decide))); have n1_ := Aside0.mk (hb); have n2_ := Aside0.mk (ho); clear BK143; clear HB; clear HO_5; have BK143 := n0_; have HB := n1_; have HO161 := n2_; clear n0_ n1_ n2_; clear ho hb hg hat)); try go_wp2_with (first | ((with_reducible refine gate_builtin (b := .append) (xs := #[.tmp 51, .tmp 56]) rfl ?_); at_builtin; refine Kd.R_append (Kd.int .i64) (w0 := w) w.heap.size rfl (.tmp 51) (.tmp 56) 81 3 (.int .i64 0) 8 rfl Try.underlying81 info3 rfl (by decide) (by omega) u5 x5_12 (wrap64 (a1 + a0_0)) [.int .i64 (wrap64 (a1 + a0_0))] (fun _ => True) (fun _ => False) rfl rfl ?aP (fun _ hk => hk.elim) ?aF ?aO ?aB ?aS ?aL ?_; (case aP => exact rfl); (case aB => exact Hd.b_); (case aF => exact (fun _ _ => trivial)); (case aO => exact (Hd.r_ HO_5)); (case aS => exact (below_size Hd.b_)); (case aL => have := LMc31.out; omega); intro v160 w33 ho hb hg hat; rw [← Ny159.out] at ho; have n0_ := Aside0.mk (blk_grown (g := gb143) (o := .cells #[.int .i64 a0_0, .int .i64 a0_1, .string a0_2] 96 (0, 0)) (Hd.k_ BK143) hg (Kd.R_ne HO_5.out BK143.out (by decide))); have n1_ := Aside0.mk (hb); have n2_ := Aside0.mk (ho); clear BK143; clear HB; clear HO_5; have BK143 := n0_; have HB := n1_; have HO161 := n2_; clear n0_ n1_ n2_; clear ho hb hg hat)))
          go_ret
          exact ⟨_, Hd.e_, by (with_reducible repeat (first | apply Kd.R_alloc | apply Kd.R_drewN | apply Kd.R_drew)); exact HO161.out, Hd.b_⟩
         ·
          rw [if_neg c31] at H
          exact absurd H (by simp)
        ·
         rw [if_neg c30] at H
         have c30b0 : decide ((wrap64 (a1 + a0_0)) < (wrap64 (a0_0 * a0_1))) = false := decide_eq_false c30
         clear c30
         obtain rfl := Option.some.inj H
         obtain ⟨hcz34_0, hcz34_1, hcz34_2⟩ := Hd.c3_ BK143.out
         obtain ⟨hfz34_0, hfz34_1, hfz34_2⟩ := Hd.f3_ BK143.out
         go_wp2
         repeat (go_quiet (fail); try go_wp2)
         go_ret
         exact ⟨_, Hd.e_, by (with_reducible repeat (first | apply Kd.R_alloc | apply Kd.R_drewN | apply Kd.R_drew)); exact HO_5.out, Hd.b_⟩
def impl_InRange.f (a0 : Int) (a1 : Int) (a2 : Int) : Option (Bool) := if a1 ≤ a0 then (some (decide (a0 ≤ a2))) else (some false)
set_option maxHeartbeats 8000000 in
set_option maxRecDepth 100000 in
theorem impl_InRange.calls (a0 : Int) (a1 : Int) (a2 : Int) (r : Bool) (w : World) (h : impl_InRange.f a0 a1 a2 = some r) :
  Calls Try.prog 92 #[.int .i64 a0, .int .i64 a1, .int .i64 a2] w fun e w' => e = .returned (.bool r) ∧ Drawn0 w w' := by
 have H : (if a1 ≤ a0 then (some (decide (a0 ≤ a2))) else (some false)) = some r := h
 clear h
 by_cases c4 : a1 ≤ a0
 ·
  rw [if_pos c4] at H
  have c4b0 : decide (a1 ≤ a0) = true := decide_eq_true c4
  clear c4
  obtain rfl := Option.some.inj H
  go_enter Try.func92, Try.ntmps92
  go_wp2
  go_ret
  exact ⟨by first | rfl | (simp; done) | (simp [*]; done), by repeat (first | exact Drawn0.refl _ | apply Drawn0.step)⟩
 ·
  rw [if_neg c4] at H
  have c4b0 : decide (a1 ≤ a0) = false := decide_eq_false c4
  clear c4
  obtain rfl := Option.some.inj H
  go_enter Try.func92, Try.ntmps92
  go_wp2
  go_ret
  exact ⟨by first | rfl | (simp; done) | (simp [*]; done), by repeat (first | exact Drawn0.refl _ | apply Drawn0.step)⟩
end Go.Proofs.Ytchmbcembbbplaa.MFnExactBorder
