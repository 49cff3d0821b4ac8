-- Laid by this session's program pp.py, after the kit's print and texts of the session's own. Not trusted: Lean checks it.
import Derived.Test.YtbackoeakepngabZFnThinnedMx0
import Derived.Test.YtbackoeakepngabZFnThinnedMx5
namespace Go.Proofs.Ytbackoeakepngab.MFnThinned
open Go.RowKit Go.Proofs.YtbackoeakepngabW.PrintWords Go.Proofs.YtbackoeakepngabW.PrintLast Go.Proofs.YtbackoeakepngabW.PrintMore
attribute [local go_sem] max2_int min2_int max_two min_two max_three min_three max_four min_four   -- for this text's walks alone
set_option linter.unusedVariables false
set_option linter.unusedSimpArgs false
mutual
def spec_l14Kept.l0 : Nat → List (S77) → Int → List (S77) → Int → Option ((List (S77)))
 | 0, _, _, _, _ => none
 | k + 1, x0, x1, x5, x6 => if x6 < (x0.length : Int) then (spec_l14Kept.l1 k x0 x1 x5 x6 (x5.length : Int)) else (spec_l14Kept.l2 k x1 x5 (([] : List (S77))) 0)
def spec_l14Kept.l1 : Nat → List (S77) → Int → List (S77) → Int → Int → Option ((List (S77)))
 | 0, _, _, _, _, _ => none
 | k + 1, x0, x1, x5, x6, x7 => if x7 > 0 then (if 0 ≤ x6 then (if x6 < (x0.length : Int) then (if 0 ≤ (wrap64 (x7 - 1)) then (if (wrap64 (x7 - 1)) < (x5.length : Int) then ((spec_IsAbove.f ((rd_T77 x0 x6).f0) ((rd_T77 x0 x6).f1.f0) ((rd_T77 x0 x6).f1.f1) ((rd_T77 x0 x6).f2) ((rd_T77 x5 (wrap64 (x7 - 1))).f0) ((rd_T77 x5 (wrap64 (x7 - 1))).f1.f0) ((rd_T77 x5 (wrap64 (x7 - 1))).f1.f1) ((rd_T77 x5 (wrap64 (x7 - 1))).f2)).bind fun t176 => (if t176 = true then (spec_l14Kept.l1 k x0 x1 x5 x6 (wrap64 (x7 - 1))) else ((some (([] : List (S77)) : List (S77))).bind fun y177 => (if 0 ≤ x7 then (if x7 ≤ (x5.length : Int) then ((some (x5.take (x7 : Int).toNat : List (S77))).bind fun y180 => (if y177.length + y180.length < 4398046511104 then ((some (y177 ++ y180 : List (S77))).bind fun y184 => ((some (([(⟨(rd_T77 x0 x6).f0, (⟨(rd_T77 x0 x6).f1.f0, (rd_T77 x0 x6).f1.f1⟩ : S75), (rd_T77 x0 x6).f2⟩ : S77)] : List (S77)) : List (S77))).bind fun y188 => (if y184.length + y188.length < 4398046511104 then ((some (y184 ++ y188 : List (S77))).bind fun y191 => ((some (x5.drop (x7 : Int).toNat : List (S77))).bind fun y194 => (if y191.length + y194.length < 4398046511104 then (spec_l14Kept.l0 k x0 x1 (y191 ++ y194) (wrap64 (x6 + 1))) else (none)))) else (none)))) else (none))) else (none)) else (none))))) else (none)) else (none)) else (none)) else (none)) else ((some (([] : List (S77)) : List (S77))).bind fun y201 => (if 0 ≤ x7 then (if x7 ≤ (x5.length : Int) then ((some (x5.take (x7 : Int).toNat : List (S77))).bind fun y204 => (if y201.length + y204.length < 4398046511104 then ((some (y201 ++ y204 : List (S77))).bind fun y208 => (if 0 ≤ x6 then (if x6 < (x0.length : Int) then ((some (([(⟨(rd_T77 x0 x6).f0, (⟨(rd_T77 x0 x6).f1.f0, (rd_T77 x0 x6).f1.f1⟩ : S75), (rd_T77 x0 x6).f2⟩ : S77)] : List (S77)) : List (S77))).bind fun y212 => (if y208.length + y212.length < 4398046511104 then ((some (y208 ++ y212 : List (S77))).bind fun y215 => ((some (x5.drop (x7 : Int).toNat : List (S77))).bind fun y218 => (if y215.length + y218.length < 4398046511104 then (spec_l14Kept.l0 k x0 x1 (y215 ++ y218) (wrap64 (x6 + 1))) else (none)))) else (none))) else (none)) else (none))) else (none))) else (none)) else (none)))
def spec_l14Kept.l2 : Nat → Int → List (S77) → List (S77) → Int → Option ((List (S77)))
 | 0, _, _, _, _ => none
 | k + 1, x1, x5, x8, x9 => if x9 < (x5.length : Int) then (spec_l14Kept.l3 k x1 x5 x8 x9 true 0) else (some x8)
def spec_l14Kept.l3 : Nat → Int → List (S77) → List (S77) → Int → Bool → Int → Option ((List (S77)))
 | 0, _, _, _, _, _, _ => none
 | k + 1, x1, x5, x8, x9, x10, x11 => if x11 < (x8.length : Int) then (if x10 = true then (if 0 ≤ x11 then (if 0 ≤ x9 then (if x9 < (x5.length : Int) then ((spec_FarSquared.f ((rd_T77 x8 x11).f1.f0) ((rd_T77 x8 x11).f1.f1) ((rd_T77 x5 x9).f1.f0) ((rd_T77 x5 x9).f1.f1)).bind fun t230 => (spec_l14Kept.l3 k x1 x5 x8 x9 (decide (t230 ≥ (wrap64 (x1 * x1)))) (wrap64 (x11 + 1)))) else (none)) else (none)) else (none)) else (spec_l14Kept.l3 k x1 x5 x8 x9 false (wrap64 (x11 + 1)))) else (if x10 = true then (if 0 ≤ x9 then (if x9 < (x5.length : Int) then ((some (([(⟨(rd_T77 x5 x9).f0, (⟨(rd_T77 x5 x9).f1.f0, (rd_T77 x5 x9).f1.f1⟩ : S75), (rd_T77 x5 x9).f2⟩ : S77)] : List (S77)) : List (S77))).bind fun y232 => (if x8.length + y232.length < 4398046511104 then (spec_l14Kept.l2 k x1 x5 (x8 ++ y232) (wrap64 (x9 + 1))) else (none))) else (none)) else (none)) else (spec_l14Kept.l2 k x1 x5 x8 (wrap64 (x9 + 1))))
end
def spec_l14Kept.f (k : Nat) (l0 : List (S77)) (a1 : Int) : Option ((List (S77))) := spec_l14Kept.l0 k l0 a1 (([] : List (S77))) 0
def spec_l14Kept.T8 : Bool × List (List Nat × List Nat) := (true, [([], []), ([], []), ([], []), ([1, 2], [1, 2]), ([0, 3], [0, 3]), ([], []), ([], []), ([5, 6], [5, 6]), ([7], [7]), ([8], [8]), ([4, 9, 4], [4, 9]), ([], []), ([], []), ([11, 12], [11, 12]), ([10, 13, 10], [10, 13]), ([14, 14, 0, 1, 2, 3, 4, 5, 6, 7, 8, 9, 10, 11, 12, 13, 14], [1, 11, 14])])
def spec_l14Kept.B8 : List Nat := [0, 0, 0, 6, 15, 0, 0, 96, 224, 480, 1023, 0, 0, 6144, 16383, 32767]
theorem spec_l14Kept.tab8 : rtab .any (opsOf Try.f84 8) = spec_l14Kept.T8 := by kernel_rfl
theorem spec_l14Kept.bits8 : waitsOk spec_l14Kept.T8.2 spec_l14Kept.B8 = true := by kernel_rfl
set_option maxHeartbeats 8000000 in
set_option maxRecDepth 100000 in
theorem spec_l14Kept.calls (k : Nat) (A0 : Option Addr) (c0 : Nat) (l0 : List (S77)) (a1 : Int) (r : List (S77)) (w : World) (hr0 : Kd.C k77 w A0 l0.length l0) (hc0 : l0.length ≤ c0) (h : spec_l14Kept.f k l0 a1 = some r) :
  Calls Try.prog 84 #[.slice A0 l0.length c0, .int .i64 a1] w fun e w' => ∃ v0_ : Value, e = .returned (v0_) ∧ Kd.R k77 77 w' w.heap.size (fun _ => True) v0_ r ∧ Below w.heap.size w w' := by
 have hu77 := Try.underlying77
 have hu75 := Try.underlying75
 have HR0 := Aside0.mk hr0
 have HC0 := Aside0.mk hc0
 clear hr0 hc0
 have HB := Aside0.mk (Below.refl w.heap.size w)
 have H : (spec_l14Kept.l0 k l0 a1 (([] : List (S77))) 0) = some r := h
 clear h
 obtain ⟨y171, hy171⟩ : ∃ y_ : List (S77), y_ = (([] : List (S77))) := ⟨_, rfl⟩
 replace H : (spec_l14Kept.l0 k l0 a1 y171 0) = some r := by first | (rw [hy171]; with_reducible exact H) | (have H2_ := (Option.bind_some _ _).symm.trans H; rw [hy171]; with_reducible exact H2_) | (have H2_ := (Option.bind_some _ _).symm.trans H; with_reducible exact H2_) | with_reducible exact H | (rw [hy171]; exact H) | exact H
 have Ny171 := Aside0.mk hy171
 clear hy171
 have H' := Aside0.mk H
 clear H
 go_enter Try.func84, Try.ntmps84
 go_wp2_with (first | ((with_reducible refine gate_dst (N := 12) rfl ?_); refine Kd.R_lit k77 _ 77 ?hg (N := 12) ?hd (xs := ([] : List (S77))) (inner := []) (ok := fun _ => True) (okp := fun _ => True) ?hr ?hp (fun _ hk => hk) trivial (Below.refl _ _) (Nat.le_refl _) (by simp) ?_; (case hd => rfl); (case hg => rfl); (case hr => first | (go_simp; done) | (go_simp; rfl)); (case hp => exact (Reps.none _ _)); intro v172 w3 ho4 hb hg_ hnew_; clear hg_ hnew_; (first | rw [← Ny171.out] at ho4 | (simp only [Int.reduceToNat] at ho4; rw [← Ny171.out] at ho4)); have HO173 := Aside0.mk (Kd.R_lower ho4 (below_size Hd.b_)); replace HB := Aside0.mk (below_step Hd.b_ hb); clear hb ho4))
 go_loopg [5, 6] k (fun kq v5 v6 w' => ∃ (x5_1 : List (S77)) (x6_1 : Int), v6 = .int .i64 x6_1 ∧ Aside0 (spec_l14Kept.l0 kq l0 a1 x5_1 x6_1 = some r) ∧ Aside0 (kq ≤ k) ∧ Aside0 (Kd.R k77 77 w' w.heap.size (fun _ => True) v5 x5_1) ∧ Aside0 (Below w.heap.size w w'))
 case atStart => exact ⟨(y171), (0), (by first | rfl | (simp; done) | (simp [*]; done)), H', ⟨Nat.le_refl _⟩, ⟨by (with_reducible repeat (first | apply Kd.R_alloc | apply Kd.R_drewN | apply Kd.R_drew)); exact HO173.out⟩, ⟨Hd.b_⟩⟩
 case round =>
  clear H'
  try clear p2
  obtain ⟨x5_1, x6_1, rfl, HA, HK1, HO_5, HB⟩ := hrel
  cases gk with
  | zero => exact absurd HA.out (by simp [spec_l14Kept.l0])
  | succ k1 =>
   have H := HA.out
   clear HA
   simp only [spec_l14Kept.l0] at H
   by_cases c5 : x6_1 < (l0.length : Int)
   ·
    rw [if_pos c5] at H
    have c5b0 : decide (x6_1 < (l0.length : Int)) = true := decide_eq_true c5
    clear c5
    have H' := Aside0.mk H
    clear H
    obtain ⟨Ao6, co6, eo6⟩ := Kd.R_slice HO_5.out
    subst eo6
    go_wp2
    go_loopg [7] k1 (fun kq v7 w' => ∃ (x7_2 : Int), v7 = .int .i64 x7_2 ∧ Aside0 (spec_l14Kept.l1 kq l0 a1 x5_1 x6_1 x7_2 = some r) ∧ Aside0 (kq ≤ k1) ∧ Aside0 (Kd.R k77 77 w' w.heap.size (fun _ => True) (.slice Ao6 x5_1.length co6) x5_1) ∧ Aside0 (Below w.heap.size w w'))
    case atStart => exact ⟨((x5_1.length : Int)), (by first | rfl | (simp; done) | (simp [*]; done)), H', ⟨Nat.le_refl _⟩, ⟨by (with_reducible repeat (first | apply Kd.R_alloc | apply Kd.R_drewN | apply Kd.R_drew)); exact HO_5.out⟩, ⟨Hd.b_⟩⟩
    case round =>
     clear H'
     try clear p2
     try clear c5
     try clear c5b0
     try clear p2
     obtain ⟨x7_2, rfl, HA, HK2, HO_5, HB⟩ := hrel
     cases gk with
     | zero => exact absurd HA.out (by simp [spec_l14Kept.l1])
     | succ k2 =>
      have H := HA.out
      clear HA
      simp only [spec_l14Kept.l1] at H
      by_cases c7 : x7_2 > 0
      ·
       rw [if_pos c7] at H
       have c7b0 : decide (0 < x7_2) = true := decide_eq_true c7
       clear c7
       by_cases c8 : 0 ≤ x6_1
       ·
        rw [if_pos c8] at H
        have c8b0 : decide (0 ≤ x6_1) = true := decide_eq_true c8
        clear c8
        by_cases c9 : x6_1 < (l0.length : Int)
        ·
         rw [if_pos c9] at H
         have c9b0 : decide (x6_1 < (l0.length : Int)) = true := decide_eq_true c9
         clear c9
         obtain ⟨ji10, hji10⟩ : ∃ j_ : Int, (wrap64 (x7_2 - 1)) = j_ := ⟨_, rfl⟩
         replace H : (if 0 ≤ (ji10) then (if (ji10) < (x5_1.length : Int) then ((spec_IsAbove.f ((rd_T77 l0 x6_1).f0) ((rd_T77 l0 x6_1).f1.f0) ((rd_T77 l0 x6_1).f1.f1) ((rd_T77 l0 x6_1).f2) ((rd_T77 x5_1 (ji10)).f0) ((rd_T77 x5_1 (ji10)).f1.f0) ((rd_T77 x5_1 (ji10)).f1.f1) ((rd_T77 x5_1 (ji10)).f2)).bind fun t176 => (if t176 = true then (spec_l14Kept.l1 k2 l0 a1 x5_1 x6_1 ji10) else ((some (([] : List (S77)) : List (S77))).bind fun y177 => (if 0 ≤ x7_2 then (if x7_2 ≤ (x5_1.length : Int) then ((some (x5_1.take (x7_2 : Int).toNat : List (S77))).bind fun y180 => (if y177.length + y180.length < 4398046511104 then ((some (y177 ++ y180 : List (S77))).bind fun y184 => ((some (([(⟨(rd_T77 l0 x6_1).f0, (⟨(rd_T77 l0 x6_1).f1.f0, (rd_T77 l0 x6_1).f1.f1⟩ : S75), (rd_T77 l0 x6_1).f2⟩ : S77)] : List (S77)) : List (S77))).bind fun y188 => (if y184.length + y188.length < 4398046511104 then ((some (y184 ++ y188 : List (S77))).bind fun y191 => ((some (x5_1.drop (x7_2 : Int).toNat : List (S77))).bind fun y194 => (if y191.length + y194.length < 4398046511104 then (spec_l14Kept.l0 k2 l0 a1 (y191 ++ y194) (wrap64 (x6_1 + 1))) else (none)))) else (none)))) else (none))) else (none)) else (none))))) else (none)) else (none)) = some r := by first | (rw [hji10] at H; exact H) | (simp only [hji10] at H ⊢; exact H)
         have hji10w : (IntKind.i64.wrap (x7_2 - 1)) = ji10 := (i64_w _).trans hji10
         by_cases c11 : 0 ≤ (ji10)
         ·
          rw [if_pos c11] at H
          have c11b0 : decide (0 ≤ (ji10)) = true := decide_eq_true c11
          clear c11
          by_cases c12 : (ji10) < (x5_1.length : Int)
          ·
           rw [if_pos c12] at H
           have c12b0 : decide ((ji10) < (x5_1.length : Int)) = true := decide_eq_true c12
           clear c12
           replace H := Option.bind_eq_some_iff.mp H
           obtain ⟨t176, A130, H⟩ := H
           replace H : (if t176 = true then (spec_l14Kept.l1 k2 l0 a1 x5_1 x6_1 ji10) else ((some (([] : List (S77)) : List (S77))).bind fun y177 => (if 0 ≤ x7_2 then (if x7_2 ≤ (x5_1.length : Int) then ((some (x5_1.take (x7_2 : Int).toNat : List (S77))).bind fun y180 => (if y177.length + y180.length < 4398046511104 then ((some (y177 ++ y180 : List (S77))).bind fun y184 => ((some (([(⟨(rd_T77 l0 x6_1).f0, (⟨(rd_T77 l0 x6_1).f1.f0, (rd_T77 l0 x6_1).f1.f1⟩ : S75), (rd_T77 l0 x6_1).f2⟩ : S77)] : List (S77)) : List (S77))).bind fun y188 => (if y184.length + y188.length < 4398046511104 then ((some (y184 ++ y188 : List (S77))).bind fun y191 => ((some (x5_1.drop (x7_2 : Int).toNat : List (S77))).bind fun y194 => (if y191.length + y194.length < 4398046511104 then (spec_l14Kept.l0 k2 l0 a1 (y191 ++ y194) (wrap64 (x6_1 + 1))) else (none)))) else (none)))) else (none))) else (none)) else (none)))) = some r := H
           have A13 := Aside0.mk A130
           clear A130
           by_cases c14 : t176 = true
           ·
            subst c14
            have H1 : (spec_l14Kept.l1 k2 l0 a1 x5_1 x6_1 ji10) = some r := by rw [if_pos rfl] at H; exact H
            clear H
            have H := H1
            clear H1
            have H' := Aside0.mk H
            clear H
            try go_wp2
            replace HO_5 := Aside0.mk (Kd.R_drew HO_5.out)
            replace HB := Aside0.mk (below_drew1 HB.out)
            have p174 : 0 ≤ (x6_1 : Int) := of_decide_eq_true Hd.a_
            have q174 : x6_1 < (l0.length : Int) := of_decide_eq_true Hd.a_
            obtain ⟨ad174, e174, hx174_0, hx174_1, hx174_2, hx174_3⟩ := at_T77 HR0.out x6_1 p174 q174
            have hw174_3 := hx174_3
            have hw174_2 := hx174_2
            have hw174_1 := hx174_1
            have hw174_0 := hx174_0
            cases e174
            replace hx174_0 := (HB.out.cell (World.block_lt_of_cell? w _ hx174_0)).trans hx174_0
            replace hx174_1 := (HB.out.cell (World.block_lt_of_cell? w _ hx174_1)).trans hx174_1
            replace hx174_2 := (HB.out.cell (World.block_lt_of_cell? w _ hx174_2)).trans hx174_2
            replace hx174_3 := (HB.out.cell (World.block_lt_of_cell? w _ hx174_3)).trans hx174_3
            replace p174 := eq_true p174
            replace q174 := eq_true q174
            have p175 : 0 ≤ ((ji10) : Int) := of_decide_eq_true Hd.a_
            have q175 : (ji10) < (x5_1.length : Int) := of_decide_eq_true Hd.a_
            obtain ⟨ad175, e175, hx175_0, hx175_1, hx175_2, hx175_3⟩ := at_T77 (Kd.R_reads' HO_5.out).2.2 (ji10) p175 q175
            cases e175
            replace p175 := eq_true p175
            replace q175 := eq_true q175
            have s0_ := Hd.HW.x (W0 := wr.drew) ((HB.out.cell (World.block_lt_of_cell? w _ hw174_0)).trans hw174_0)
            have s1_ := Hd.HW.x (W0 := wr.drew) ((HB.out.cell (World.block_lt_of_cell? w _ hw174_1)).trans hw174_1)
            have s2_ := Hd.HW.x (W0 := wr.drew) ((HB.out.cell (World.block_lt_of_cell? w _ hw174_2)).trans hw174_2)
            have s3_ := Hd.HW.x (W0 := wr.drew) ((HB.out.cell (World.block_lt_of_cell? w _ hw174_3)).trans hw174_3)
            have s4_ := Hd.HW.x (W0 := wr.drew) hx175_0
            have s5_ := Hd.HW.x (W0 := wr.drew) hx175_1
            have s6_ := Hd.HW.x (W0 := wr.drew) hx175_2
            have s7_ := Hd.HW.x (W0 := wr.drew) hx175_3
            refine Hd.HW.region (by kernel_rfl) (by kernel_rfl) ?_
            repeat (go_big_quiet_step ((first | (go_at_call 85; with_reducible exact Hd.HW.c (spec_IsAbove.calls ((rd_T77 l0 x6_1).f0) ((rd_T77 l0 x6_1).f1.f0) ((rd_T77 l0 x6_1).f1.f1) ((rd_T77 l0 x6_1).f2) ((rd_T77 x5_1 (ji10)).f0) ((rd_T77 x5_1 (ji10)).f1.f0) ((rd_T77 x5_1 (ji10)).f1.f1) ((rd_T77 x5_1 (ji10)).f2) true _ A13.out)))))
            refine wpQuiet_nil ?_
            intro _ hq_
            obtain ⟨q_, rfl⟩ := hq_
            clear s0_ s1_ s2_ s3_ s4_ s5_ s6_ s7_
            replace HO_5 := Aside0.mk (Kd.R_below HO_5.out q_.b)
            replace HB := Aside0.mk (below_step HB.out q_.b)
            replace hx174_0 := q_.cell hx174_0
            replace hx174_1 := q_.cell hx174_1
            replace hx174_2 := q_.cell hx174_2
            replace hx174_3 := q_.cell hx174_3
            replace hx175_0 := q_.cell hx175_0
            replace hx175_1 := q_.cell hx175_1
            replace hx175_2 := q_.cell hx175_2
            replace hx175_3 := q_.cell hx175_3
            generalize q_.W = w16 at HO_5 HB hx174_0 hx174_1 hx174_2 hx174_3 hx175_0 hx175_1 hx175_2 hx175_3 ⊢
            try simp only [i64_w, i32_w]
            try go_wp2
            go_roundg k2
            case measure => have := HK1.out; have := HK2.out; omega
            case rel => exact ⟨(ji10), (by first | rfl | (simp; done) | (simp only [← hji10] <;> (first | rfl | simp)) | (simp [*]; done)), H', ⟨by have := HK1.out; have := HK2.out; omega⟩, ⟨by (with_reducible repeat (first | apply Kd.R_alloc | apply Kd.R_drewN | apply Kd.R_drew)); exact HO_5.out⟩, ⟨Hd.b_⟩⟩
           ·
            replace c14 := Bool.eq_false_iff.mpr c14
            subst c14
            have H1 : ((some (([] : List (S77)) : List (S77))).bind fun y177 => (if 0 ≤ x7_2 then (if x7_2 ≤ (x5_1.length : Int) then ((some (x5_1.take (x7_2 : Int).toNat : List (S77))).bind fun y180 => (if y177.length + y180.length < 4398046511104 then ((some (y177 ++ y180 : List (S77))).bind fun y184 => ((some (([(⟨(rd_T77 l0 x6_1).f0, (⟨(rd_T77 l0 x6_1).f1.f0, (rd_T77 l0 x6_1).f1.f1⟩ : S75), (rd_T77 l0 x6_1).f2⟩ : S77)] : List (S77)) : List (S77))).bind fun y188 => (if y184.length + y188.length < 4398046511104 then ((some (y184 ++ y188 : List (S77))).bind fun y191 => ((some (x5_1.drop (x7_2 : Int).toNat : List (S77))).bind fun y194 => (if y191.length + y194.length < 4398046511104 then (spec_l14Kept.l0 k2 l0 a1 (y191 ++ y194) (wrap64 (x6_1 + 1))) else (none)))) else (none)))) else (none))) else (none)) else (none))) = some r := by rw [if_neg (show ¬ (false = true) by decide)] at H; exact H
            clear H
            have H := H1
            clear H1
            obtain ⟨y177, hy177⟩ : ∃ y_ : List (S77), y_ = (([] : List (S77))) := ⟨_, rfl⟩
            replace H : (if 0 ≤ x7_2 then (if x7_2 ≤ (x5_1.length : Int) then ((some (x5_1.take (x7_2 : Int).toNat : List (S77))).bind fun y180 => (if y177.length + y180.length < 4398046511104 then ((some (y177 ++ y180 : List (S77))).bind fun y184 => ((some (([(⟨(rd_T77 l0 x6_1).f0, (⟨(rd_T77 l0 x6_1).f1.f0, (rd_T77 l0 x6_1).f1.f1⟩ : S75), (rd_T77 l0 x6_1).f2⟩ : S77)] : List (S77)) : List (S77))).bind fun y188 => (if y184.length + y188.length < 4398046511104 then ((some (y184 ++ y188 : List (S77))).bind fun y191 => ((some (x5_1.drop (x7_2 : Int).toNat : List (S77))).bind fun y194 => (if y191.length + y194.length < 4398046511104 then (spec_l14Kept.l0 k2 l0 a1 (y191 ++ y194) (wrap64 (x6_1 + 1))) else (none)))) else (none)))) else (none))) else (none)) else (none)) = some r := by first | (rw [hy177]; with_reducible exact H) | (have H2_ := (Option.bind_some _ _).symm.trans H; rw [hy177]; with_reducible exact H2_) | (have H2_ := (Option.bind_some _ _).symm.trans H; with_reducible exact H2_) | with_reducible exact H | (rw [hy177]; exact H) | exact H
            have Ny177 := Aside0.mk hy177
            clear hy177
            by_cases c17 : 0 ≤ x7_2
            ·
             rw [if_pos c17] at H
             have c17b0 := eq_true c17
             have c17b1 : decide (0 ≤ x7_2) = true := decide_eq_true c17
             clear c17
             by_cases c18 : x7_2 ≤ (x5_1.length : Int)
             ·
              rw [if_pos c18] at H
              have c18b0 := eq_true c18
              have c18b1 : decide (x7_2 ≤ (x5_1.length : Int)) = true := decide_eq_true c18
              clear c18
              obtain ⟨y180, hy180⟩ : ∃ y_ : List (S77), y_ = (x5_1.take (x7_2 : Int).toNat) := ⟨_, rfl⟩
              replace H : (if y177.length + y180.length < 4398046511104 then ((some (y177 ++ y180 : List (S77))).bind fun y184 => ((some (([(⟨(rd_T77 l0 x6_1).f0, (⟨(rd_T77 l0 x6_1).f1.f0, (rd_T77 l0 x6_1).f1.f1⟩ : S75), (rd_T77 l0 x6_1).f2⟩ : S77)] : List (S77)) : List (S77))).bind fun y188 => (if y184.length + y188.length < 4398046511104 then ((some (y184 ++ y188 : List (S77))).bind fun y191 => ((some (x5_1.drop (x7_2 : Int).toNat : List (S77))).bind fun y194 => (if y191.length + y194.length < 4398046511104 then (spec_l14Kept.l0 k2 l0 a1 (y191 ++ y194) (wrap64 (x6_1 + 1))) else (none)))) else (none)))) else (none)) = some r := by first | (rw [hy180]; with_reducible exact H) | (have H2_ := (Option.bind_some _ _).symm.trans H; rw [hy180]; with_reducible exact H2_) | (have H2_ := (Option.bind_some _ _).symm.trans H; with_reducible exact H2_) | with_reducible exact H | (rw [hy180]; exact H) | exact H
              have Ny180 := Aside0.mk hy180
              clear hy180
              by_cases c19 : y177.length + y180.length < 4398046511104
              ·
               rw [if_pos c19] at H
               have LMc19 := Aside0.mk c19
               clear c19
               obtain ⟨y184, hy184⟩ : ∃ y_ : List (S77), y_ = (y177 ++ y180) := ⟨_, rfl⟩
               replace H : ((some (([(⟨(rd_T77 l0 x6_1).f0, (⟨(rd_T77 l0 x6_1).f1.f0, (rd_T77 l0 x6_1).f1.f1⟩ : S75), (rd_T77 l0 x6_1).f2⟩ : S77)] : List (S77)) : List (S77))).bind fun y188 => (if y184.length + y188.length < 4398046511104 then ((some (y184 ++ y188 : List (S77))).bind fun y191 => ((some (x5_1.drop (x7_2 : Int).toNat : List (S77))).bind fun y194 => (if y191.length + y194.length < 4398046511104 then (spec_l14Kept.l0 k2 l0 a1 (y191 ++ y194) (wrap64 (x6_1 + 1))) else (none)))) else (none))) = some r := by first | (rw [hy184]; with_reducible exact H) | (have H2_ := (Option.bind_some _ _).symm.trans H; rw [hy184]; with_reducible exact H2_) | (have H2_ := (Option.bind_some _ _).symm.trans H; with_reducible exact H2_) | with_reducible exact H | (rw [hy184]; exact H) | exact H
               have Ny184 := Aside0.mk hy184
               clear hy184
               obtain ⟨y188, hy188⟩ : ∃ y_ : List (S77), y_ = (([(⟨(rd_T77 l0 x6_1).f0, (⟨(rd_T77 l0 x6_1).f1.f0, (rd_T77 l0 x6_1).f1.f1⟩ : S75), (rd_T77 l0 x6_1).f2⟩ : S77)] : List (S77))) := ⟨_, rfl⟩
               replace H : (if y184.length + y188.length < 4398046511104 then ((some (y184 ++ y188 : List (S77))).bind fun y191 => ((some (x5_1.drop (x7_2 : Int).toNat : List (S77))).bind fun y194 => (if y191.length + y194.length < 4398046511104 then (spec_l14Kept.l0 k2 l0 a1 (y191 ++ y194) (wrap64 (x6_1 + 1))) else (none)))) else (none)) = some r := by first | (rw [hy188]; with_reducible exact H) | (have H2_ := (Option.bind_some _ _).symm.trans H; rw [hy188]; with_reducible exact H2_) | (have H2_ := (Option.bind_some _ _).symm.trans H; with_reducible exact H2_) | with_reducible exact H | (rw [hy188]; exact H) | exact H
               have Ny188 := Aside0.mk hy188
               clear hy188
               by_cases c20 : y184.length + y188.length < 4398046511104
               ·
                rw [if_pos c20] at H
                have LMc20 := Aside0.mk c20
                clear c20
                obtain ⟨y191, hy191⟩ : ∃ y_ : List (S77), y_ = (y184 ++ y188) := ⟨_, rfl⟩
                replace H : ((some (x5_1.drop (x7_2 : Int).toNat : List (S77))).bind fun y194 => (if y191.length + y194.length < 4398046511104 then (spec_l14Kept.l0 k2 l0 a1 (y191 ++ y194) (wrap64 (x6_1 + 1))) else (none))) = some r := by first | (rw [hy191]; with_reducible exact H) | (have H2_ := (Option.bind_some _ _).symm.trans H; rw [hy191]; with_reducible exact H2_) | (have H2_ := (Option.bind_some _ _).symm.trans H; with_reducible exact H2_) | with_reducible exact H | (rw [hy191]; exact H) | exact H
                have Ny191 := Aside0.mk hy191
                clear hy191
                have c21b0 := eq_true (of_decide_eq_true Hd.a_ : 0 ≤ x7_2)
                have c22b0 := eq_true (of_decide_eq_true Hd.a_ : x7_2 ≤ (x5_1.length : Int))
                obtain ⟨y194, hy194⟩ : ∃ y_ : List (S77), y_ = (x5_1.drop (x7_2 : Int).toNat) := ⟨_, rfl⟩
                replace H : (if y191.length + y194.length < 4398046511104 then (spec_l14Kept.l0 k2 l0 a1 (y191 ++ y194) (wrap64 (x6_1 + 1))) else (none)) = some r := by first | (rw [hy194]; with_reducible exact H) | (have H2_ := (Option.bind_some _ _).symm.trans H; rw [hy194]; with_reducible exact H2_) | (have H2_ := (Option.bind_some _ _).symm.trans H; with_reducible exact H2_) | with_reducible exact H | (rw [hy194]; exact H) | exact H
                have Ny194 := Aside0.mk hy194
                clear hy194
                by_cases c23 : y191.length + y194.length < 4398046511104
                ·
                 rw [if_pos c23] at H
                 have LMc23 := Aside0.mk c23
                 clear c23
                 obtain ⟨y198, hy198⟩ : ∃ y_ : List (S77), y_ = (y191 ++ y194) := ⟨_, rfl⟩
                 replace H : (spec_l14Kept.l0 k2 l0 a1 y198 (wrap64 (x6_1 + 1))) = some r := by first | (rw [hy198]; with_reducible exact H) | (have H2_ := (Option.bind_some _ _).symm.trans H; rw [hy198]; with_reducible exact H2_) | (have H2_ := (Option.bind_some _ _).symm.trans H; with_reducible exact H2_) | with_reducible exact H | (rw [hy198]; exact H) | exact H
                 have Ny198 := Aside0.mk hy198
                 clear hy198
                 have H' := Aside0.mk H
                 clear H
                 try go_wp2
                 replace HO_5 := Aside0.mk (Kd.R_drew HO_5.out)
                 replace HB := Aside0.mk (below_drew1 HB.out)
                 have p174 : 0 ≤ (x6_1 : Int) := of_decide_eq_true Hd.a_
                 have q174 : x6_1 < (l0.length : Int) := of_decide_eq_true Hd.a_
                 obtain ⟨ad174, e174, hx174_0, hx174_1, hx174_2, hx174_3⟩ := at_T77 HR0.out x6_1 p174 q174
                 have hw174_3 := hx174_3
                 have hw174_2 := hx174_2
                 have hw174_1 := hx174_1
                 have hw174_0 := hx174_0
                 cases e174
                 replace hx174_0 := (HB.out.cell (World.block_lt_of_cell? w _ hx174_0)).trans hx174_0
                 replace hx174_1 := (HB.out.cell (World.block_lt_of_cell? w _ hx174_1)).trans hx174_1
                 replace hx174_2 := (HB.out.cell (World.block_lt_of_cell? w _ hx174_2)).trans hx174_2
                 replace hx174_3 := (HB.out.cell (World.block_lt_of_cell? w _ hx174_3)).trans hx174_3
                 replace p174 := eq_true p174
                 replace q174 := eq_true q174
                 have p175 : 0 ≤ ((ji10) : Int) := of_decide_eq_true Hd.a_
                 have q175 : (ji10) < (x5_1.length : Int) := of_decide_eq_true Hd.a_
                 obtain ⟨ad175, e175, hx175_0, hx175_1, hx175_2, hx175_3⟩ := at_T77 (Kd.R_reads' HO_5.out).2.2 (ji10) p175 q175
                 cases e175
                 replace p175 := eq_true p175
                 replace q175 := eq_true q175
                 have s0_ := Hd.HW.x (W0 := wr.drew) ((HB.out.cell (World.block_lt_of_cell? w _ hw174_0)).trans hw174_0)
                 have s1_ := Hd.HW.x (W0 := wr.drew) ((HB.out.cell (World.block_lt_of_cell? w _ hw174_1)).trans hw174_1)
                 have s2_ := Hd.HW.x (W0 := wr.drew) ((HB.out.cell (World.block_lt_of_cell? w _ hw174_2)).trans hw174_2)
                 have s3_ := Hd.HW.x (W0 := wr.drew) ((HB.out.cell (World.block_lt_of_cell? w _ hw174_3)).trans hw174_3)
                 have s4_ := Hd.HW.x (W0 := wr.drew) hx175_0
                 have s5_ := Hd.HW.x (W0 := wr.drew) hx175_1
                 have s6_ := Hd.HW.x (W0 := wr.drew) hx175_2
                 have s7_ := Hd.HW.x (W0 := wr.drew) hx175_3
                 refine Hd.HW.region (by kernel_rfl) (by kernel_rfl) ?_
                 repeat (go_big_quiet_step ((first | (go_at_call 85; with_reducible exact Hd.HW.c (spec_IsAbove.calls ((rd_T77 l0 x6_1).f0) ((rd_T77 l0 x6_1).f1.f0) ((rd_T77 l0 x6_1).f1.f1) ((rd_T77 l0 x6_1).f2) ((rd_T77 x5_1 (ji10)).f0) ((rd_T77 x5_1 (ji10)).f1.f0) ((rd_T77 x5_1 (ji10)).f1.f1) ((rd_T77 x5_1 (ji10)).f2) false _ A13.out)))))
                 refine wpQuiet_nil ?_
                 intro _ hq_
                 obtain ⟨q_, rfl⟩ := hq_
                 clear s0_ s1_ s2_ s3_ s4_ s5_ s6_ s7_
                 replace HO_5 := Aside0.mk (Kd.R_below HO_5.out q_.b)
                 replace HB := Aside0.mk (below_step HB.out q_.b)
                 replace hx174_0 := q_.cell hx174_0
                 replace hx174_1 := q_.cell hx174_1
                 replace hx174_2 := q_.cell hx174_2
                 replace hx174_3 := q_.cell hx174_3
                 replace hx175_0 := q_.cell hx175_0
                 replace hx175_1 := q_.cell hx175_1
                 replace hx175_2 := q_.cell hx175_2
                 replace hx175_3 := q_.cell hx175_3
                 generalize q_.W = w25 at HO_5 HB hx174_0 hx174_1 hx174_2 hx174_3 hx175_0 hx175_1 hx175_2 hx175_3 ⊢
                 try simp only [i64_w, i32_w]
                 try go_wp2
                 replace HO_5 := Aside0.mk (Kd.R_drew HO_5.out)
                 replace HB := Aside0.mk (below_drew1 HB.out)
                 have q27 : (x7_2 : Int) ≤ ((x5_1.length : Int) : Int) := of_decide_eq_true Hd.a_
                 obtain ⟨i027, hi027, _, hsz27, _⟩ := info_parts info77
                 have hroom27 : x5_1.length ≤ co6 := (Kd.R_reads' HO_5.out).2.1
                 have hC27 : Kd.C k77 _ (some ad175) x5_1.length x5_1 := (Kd.R_reads' HO_5.out).2.2
                 have hcut27 := cut_to (P := Try.prog) 61 77 .i64 Try.underlying61 hi027 (some ad175) x5_1.length co6 x7_2 (of_decide_eq_true Hd.a_) q27 hroom27
                 have hr27 := Kd.C_take (m := (x7_2 : Int).toNat) hC27 (by omega)
                 have hy27 : y180.length = (x7_2 : Int).toNat := (by rw [Ny180.out, List.length_take]; omega)
                 rw [← Ny180.out] at hr27
                 rw [← hy27] at hcut27
                 have HR183 := Aside0.mk hr27
                 have HC183 := Aside0.mk (show y180.length ≤ co6 from by omega)
                 clear hr27 hC27 hroom27 hi027 hsz27
                 have KY27 := Aside0.mk hy27
                 clear hy27
                 have KL27 := Aside0.mk (show (x7_2 : Int).toNat ≤ x5_1.length from by omega)
                 replace q27 := eq_true q27
                 have p187 : 0 ≤ (x6_1 : Int) := of_decide_eq_true Hd.a_
                 have q187 : x6_1 < (l0.length : Int) := of_decide_eq_true Hd.a_
                 obtain ⟨ad187, e187, hx187_0, hx187_1, hx187_2, hx187_3⟩ := at_T77 HR0.out x6_1 p187 q187
                 have hw187_3 := hx187_3
                 have hw187_2 := hx187_2
                 have hw187_1 := hx187_1
                 have hw187_0 := hx187_0
                 obtain rfl : ad174 = ad187 := (by injection e187)
                 replace hx187_0 := (HB.out.cell (World.block_lt_of_cell? w _ hx187_0)).trans hx187_0
                 replace hx187_1 := (HB.out.cell (World.block_lt_of_cell? w _ hx187_1)).trans hx187_1
                 replace hx187_2 := (HB.out.cell (World.block_lt_of_cell? w _ hx187_2)).trans hx187_2
                 replace hx187_3 := (HB.out.cell (World.block_lt_of_cell? w _ hx187_3)).trans hx187_3
                 replace p187 := eq_true p187
                 replace q187 := eq_true q187
                 have q28 : (x7_2 : Int) ≤ ((x5_1.length : Int) : Int) := of_decide_eq_true Hd.a_
                 obtain ⟨i028, hi028, _, hsz28, _⟩ := info_parts info77
                 have hroom28 : x5_1.length ≤ co6 := (Kd.R_reads' HO_5.out).2.1
                 have hC28 : Kd.C k77 _ (some ad175) x5_1.length x5_1 := (Kd.R_reads' HO_5.out).2.2
                 have q028 : (0 : Int) ≤ (x7_2 : Int) := of_decide_eq_true Hd.a_
                 have hcut28 := cut_from (P := Try.prog) 61 77 .i64 Try.underlying61 hi028 4 hsz28 (some ad175) x5_1.length co6 x7_2 q028 q28
                 have hr28 := Kd.C_drop (m := (x7_2 : Int).toNat) (c := co6) hC28 (by omega) hroom28
                 obtain ⟨A28, hA28⟩ : ∃ A1, A1 = (if co6 = (x7_2 : Int).toNat then (some ad175) else ((some ad175) : Option Addr).map (·.add ((x7_2 : Int).toNat * 4))) := ⟨_, rfl⟩
                 obtain ⟨c28, hc28⟩ : ∃ c1, c1 = co6 - (x7_2 : Int).toNat := ⟨_, rfl⟩
                 have hy28 : y194.length = x5_1.length - (x7_2 : Int).toNat := (by rw [Ny194.out, List.length_drop] <;> omega)
                 rw [show (x5_1).drop (x7_2 : Int).toNat = y194 from Ny194.out.symm] at hr28
                 replace hr28 : Kd.C k77 _ A28 y194.length y194 := (by rw [hA28]; exact hr28)
                 rw [← hy28, ← hA28, ← hc28] at hcut28
                 have HR197 := Aside0.mk hr28
                 have HC197 := Aside0.mk (show y194.length ≤ c28 from by rw [hy28, hc28]; exact Nat.sub_le_sub_right hroom28 _)
                 clear hr28 hC28 hroom28 hi028 hsz28 hc28
                 have KY28 := Aside0.mk hy28
                 have KA28 := Aside0.mk hA28
                 clear hy28 hA28
                 have KL28 := Aside0.mk (show (x7_2 : Int).toNat ≤ x5_1.length from by omega)
                 replace q28 := eq_true q28
                 refine start_ (n := 16) (S := fun w' => w'.cell? (ad174.add ((x6_1).toNat * 4)) = some (.int .i64 ((rd_T77 l0 x6_1).f0)) ∧ w'.cell? ⟨(ad174.add ((x6_1).toNat * 4)).block, (ad174.add ((x6_1).toNat * 4)).off + 1, none⟩ = some (.int .i64 ((rd_T77 l0 x6_1).f1.f0)) ∧ w'.cell? ⟨(ad174.add ((x6_1).toNat * 4)).block, (ad174.add ((x6_1).toNat * 4)).off + 2, none⟩ = some (.int .i64 ((rd_T77 l0 x6_1).f1.f1)) ∧ w'.cell? ⟨(ad174.add ((x6_1).toNat * 4)).block, (ad174.add ((x6_1).toNat * 4)).off + 3, none⟩ = some (.int .i64 ((rd_T77 l0 x6_1).f2))) (ds := []) #[false, false, false, false, false, false, false, false, false, false, false, false, false, false, false, false] (by kernel_rfl) rfl rfl ⟨((HB.out.cell (World.block_lt_of_cell? w _ hw187_0)).trans hw187_0), ((HB.out.cell (World.block_lt_of_cell? w _ hw187_1)).trans hw187_1), ((HB.out.cell (World.block_lt_of_cell? w _ hw187_2)).trans hw187_2), ((HB.out.cell (World.block_lt_of_cell? w _ hw187_3)).trans hw187_3)⟩ (fun hHeld => ?_); refine with_tabW spec_l14Kept.tab8 spec_l14Kept.bits8 (fun HT_ HW_ => ?_)
                 generalize w25.drew = w26 at HO_5 HB HR183 HR197 hx187_0 hx187_1 hx187_2 hx187_3 hHeld ⊢
                 refine Hd.p_ HT_ 1 (some 38) #[false, true, false, false, false, false, false, false, false, false, false, false, false, false, false, false] ?_
                 refine Hd.p_ HT_ 2 (some 39) #[false, true, true, false, false, false, false, false, false, false, false, false, false, false, false, false] ?_
                 refine Hd.p_ HT_ 3 (some 40) #[false, true, true, true, false, false, false, false, false, false, false, false, false, false, false, false] ?_
                 refine Hd.p_ HT_ 5 (some 42) #[false, true, true, true, false, true, false, false, false, false, false, false, false, false, false, false] ?_
                 refine Hd.p_ HT_ 6 (some 43) #[false, true, true, true, false, true, true, false, false, false, false, false, false, false, false, false] ?_
                 refine Hd.p_ HT_ 7 (some 44) #[false, true, true, true, false, true, true, true, false, false, false, false, false, false, false, false] ?_
                 refine Hd.p_ HT_ 11 (some 48) #[false, true, true, true, false, true, true, true, false, false, false, true, false, false, false, false] ?_
                 refine Hd.p_ HT_ 12 (some 49) #[false, true, true, true, false, true, true, true, false, false, false, true, true, false, false, false] ?_
                 refine Hd.p_ HT_ 13 (some 50) #[false, true, true, true, false, true, true, true, false, false, false, true, true, true, false, false] ?_
                 refine Hd.t_ HT_ HW_ hHeld 8 (some 45) #[false, true, true, true, false, true, true, true, true, false, false, true, true, true, false, false] ?_
                 refine join_ (σ := Value × Value × Value) 3 #[true, true, true, true, true, true, true, true, true, true, false, true, true, true, false, false] (fun s_ => [(37, s_.1), (41, s_.2.1), (46, s_.2.2)]) (fun s_ w' => (w'.cell? (ad174.add ((x6_1).toNat * 4)) = some (.int .i64 ((rd_T77 l0 x6_1).f0)) ∧ w'.cell? ⟨(ad174.add ((x6_1).toNat * 4)).block, (ad174.add ((x6_1).toNat * 4)).off + 1, none⟩ = some (.int .i64 ((rd_T77 l0 x6_1).f1.f0)) ∧ w'.cell? ⟨(ad174.add ((x6_1).toNat * 4)).block, (ad174.add ((x6_1).toNat * 4)).off + 2, none⟩ = some (.int .i64 ((rd_T77 l0 x6_1).f1.f1)) ∧ w'.cell? ⟨(ad174.add ((x6_1).toNat * 4)).block, (ad174.add ((x6_1).toNat * 4)).off + 3, none⟩ = some (.int .i64 ((rd_T77 l0 x6_1).f2))) ∧ (Kd.R k77 77 w' w.heap.size (fun k_ => some k_ ≠ (s_.2.2 : Value).ownBlock ∧ some k_ ≠ (.slice (some ad175) x5_1.length co6 : Value).ownBlock) s_.2.1 y184) ∧ (Kd.R k77 77 w' w.heap.size (fun k_ => some k_ ≠ (s_.2.1 : Value).ownBlock ∧ some k_ ≠ (.slice (some ad175) x5_1.length co6 : Value).ownBlock) s_.2.2 y188) ∧ (Kd.R k77 77 w' w.heap.size (fun k_ => some k_ ≠ (s_.2.1 : Value).ownBlock ∧ some k_ ≠ (s_.2.2 : Value).ownBlock) (.slice (some ad175) x5_1.length co6) x5_1) ∧ (Below w.heap.size w w')) ?_ ?_
                 rotate_left
                 ·
                  intro hCont
                  refine two_ (i := 0) (j := 9) (Ni := some 37) (Nj := some 46) #[true, true, true, true, false, true, true, true, true, false, false, true, true, true, false, false] #[false, true, true, true, false, true, true, true, true, true, false, true, true, true, false, false] rfl rfl rfl rfl (two_of HT_.out (by kernel_rfl)) (by decide) (by decide) (fun K hK => ?_) (fun K hK => ?_)
                  ·
                   skip
                   refine Kd.R_lit_step k77 _ 77 ?hg (N := 37) ?hd (xs := ([] : List (S77))) (inner := []) (ok := fun _ => True) (okp := fun _ => True) ?hr ?hp (fun _ hk => hk) trivial (Below.refl _ _) (Nat.le_refl _) (by simp) ?_; (case hd => rfl); (case hg => rfl); (case hr => first | (go_simp; done) | (go_simp; rfl)); (case hp => exact (Reps.none _ _))
                   intro v178 w29 ho30 hb hg_ hnew_
                   clear hg_ hnew_
                   (first | rw [← Ny177.out] at ho30 | (simp only [Int.reduceToNat] at ho30; rw [← Ny177.out] at ho30))
                   have HO179 := Aside0.mk (Kd.R_lower (Kd.R_new' ho30 (Kd.R_lt (Hd.r_ HO_5))) (below_size Hd.b_))
                   replace HO_5 := Aside0.mk (Kd.R_elder' (Hd.r_ HO_5) (Kd.R_base ho30) hb)
                   replace HR183 := Aside0.mk (Kd.C_below (by repeat (first | (with_reducible exact HR183.out) | (with_reducible refine Kd.C_alloc ?_ _) | (with_reducible refine Kd.C_drewN ?_ _) | (with_reducible refine Kd.C_drew ?_) | exact HR183.out)) hb)
                   replace HR197 := Aside0.mk (Kd.C_below (by repeat (first | (with_reducible exact HR197.out) | (with_reducible refine Kd.C_alloc ?_ _) | (with_reducible refine Kd.C_drewN ?_ _) | (with_reducible refine Kd.C_drew ?_) | exact HR197.out)) hb)
                   replace HB := Aside0.mk (below_step Hd.b_ hb)
                   clear hb ho30
                   refine hK.out _ _ ⟨((HB.out.cell (World.block_lt_of_cell? w _ hw187_0)).trans hw187_0), ((HB.out.cell (World.block_lt_of_cell? w _ hw187_1)).trans hw187_1), ((HB.out.cell (World.block_lt_of_cell? w _ hw187_2)).trans hw187_2), ((HB.out.cell (World.block_lt_of_cell? w _ hw187_3)).trans hw187_3)⟩ (fun hHeld => ?_)
                   clear hK K
                   refine Hd.n_ (some 37) ?_
                   refine two_ (i := 4) (j := 9) (Ni := some 41) (Nj := some 46) #[true, true, true, true, true, true, true, true, true, false, false, true, true, true, false, false] #[true, true, true, true, false, true, true, true, true, true, false, true, true, true, false, false] rfl rfl rfl rfl (two_of HT_.out (by kernel_rfl)) (by decide) (by decide) (fun K hK => ?_) (fun K hK => ?_)
                   ·
                    skip
                    refine Kd.R_append_rows_step k77 (w0 := w) w.heap.size (by rfl) (.tmp 37) (.tmp 40) 61 77 (.agg #[(.int .i64 0), (.int .i64 0), (.int .i64 0), (.int .i64 0)]) 32 rfl Try.underlying61 info77 rfl (by decide) (by omega) v178 y177 y180 _ _ _ (fun k_ => some k_ ≠ (.slice (some ad175) x5_1.length co6 : Value).ownBlock) (fun _ => False) rfl rfl ?aO ?aR (fun _ _ h => h) (fun _ h => h.elim) ?aF ?aB ?aS ?aL ?_
                    (case aR => repeat (first | exact (by repeat (first | (with_reducible exact HR183.out) | (with_reducible refine Kd.C_alloc ?_ _) | (with_reducible refine Kd.C_drewN ?_ _) | (with_reducible refine Kd.C_drew ?_) | exact HR183.out)) | (with_reducible refine Kd.C_alloc ?_ _) | (with_reducible refine Kd.C_drewN ?_ _) | (with_reducible refine Kd.C_drew ?_)))
                    (case aB => exact Hd.b_)
                    (case aF => exact (fun k_ hk => Kd.fresh' (Kd.R_lt (Hd.r_ HO_5)) k_ hk))
                    (case aO => exact (by (with_reducible repeat (first | apply Kd.R_alloc | apply Kd.R_drewN | apply Kd.R_drew)); exact Kd.R_mono HO179.out (fun _ hk => hk.2)))
                    (case aS => exact (below_size Hd.b_))
                    (case aL => have := LMc19.out; omega)
                    intro v185 w31 ho hb hg hat
                    rw [← Ny184.out] at ho
                    have n0_ := Aside0.mk (Kd.R_after (ok := (fun _ => True)) (Hd.r_ HO_5) hg hat)
                    have n1_ := Aside0.mk (hb)
                    have n2_ := Aside0.mk ((show Kd.C k77 w31 (some ad175) y180.length y180 from by rw [Ny180.out]; exact Kd.C_take (m := (x7_2 : Int).toNat) ((Kd.R_reads' (Kd.R_after (ok := (fun _ => True)) (Hd.r_ HO_5) hg hat)).2.2) KL27.out))
                    have n3_ := Aside0.mk ((show Kd.C k77 w31 A28 y194.length y194 from by rw [Ny194.out, KA28.out]; exact Kd.C_drop (m := (x7_2 : Int).toNat) (c := co6) ((Kd.R_reads' (Kd.R_after (ok := (fun _ => True)) (Hd.r_ HO_5) hg hat)).2.2) KL28.out ((Kd.R_reads' (Kd.R_after (ok := (fun _ => True)) (Hd.r_ HO_5) hg hat)).2.1)))
                    have n4_ := Aside0.mk (ho)
                    clear HO_5
                    clear HB
                    clear HR183
                    clear HR197
                    clear HO179
                    have HO_5 := n0_
                    have HB := n1_
                    have HR183 := n2_
                    have HR197 := n3_
                    have HO186 := n4_
                    clear n0_ n1_ n2_ n3_ n4_
                    clear ho hb hg hat
                    refine hK.out _ _ ⟨((HB.out.cell (World.block_lt_of_cell? w _ hw187_0)).trans hw187_0), ((HB.out.cell (World.block_lt_of_cell? w _ hw187_1)).trans hw187_1), ((HB.out.cell (World.block_lt_of_cell? w _ hw187_2)).trans hw187_2), ((HB.out.cell (World.block_lt_of_cell? w _ hw187_3)).trans hw187_3)⟩ (fun hHeld => ?_)
                    clear hK K
                    refine Hd.n_ (some 41) ?_
                    refine Hd.o_ HT_ 9 (some 46) #[true, true, true, true, true, true, true, true, true, true, false, true, true, true, false, false] (fun K hK => ?_)
                    refine Kd.R_lit_step k77 _ 77 ?hg (N := 46) ?hd (xs := ([(⟨(rd_T77 l0 x6_1).f0, (⟨(rd_T77 l0 x6_1).f1.f0, (rd_T77 l0 x6_1).f1.f1⟩ : S75), (rd_T77 l0 x6_1).f2⟩ : S77)] : List (S77))) (inner := [.int .i64 ((rd_T77 l0 x6_1).f0), .int .i64 ((rd_T77 l0 x6_1).f1.f0), .int .i64 ((rd_T77 l0 x6_1).f1.f1), .int .i64 ((rd_T77 l0 x6_1).f2)]) (ok := fun _ => True) (okp := fun _ => True) ?hr ?hp (fun _ hk => hk) trivial (Below.refl _ _) (Nat.le_refl _) (by simp) ?_; (case hd => rfl); (case hg => rfl); (case hr => first | (go_simp; done) | (go_simp; rfl)); (case hp => exact (Reps.c4 (show Kd.M k77 _ _ _ (⟨(rd_T77 l0 x6_1).f0, (⟨(rd_T77 l0 x6_1).f1.f0, (rd_T77 l0 x6_1).f1.f1⟩ : S75), (rd_T77 l0 x6_1).f2⟩ : S77) [.int .i64 ((rd_T77 l0 x6_1).f0), .int .i64 ((rd_T77 l0 x6_1).f1.f0), .int .i64 ((rd_T77 l0 x6_1).f1.f1), .int .i64 ((rd_T77 l0 x6_1).f2)] from (k77_mkM _ _ _ (⟨(rd_T77 l0 x6_1).f0, (⟨(rd_T77 l0 x6_1).f1.f0, (rd_T77 l0 x6_1).f1.f1⟩ : S75), (rd_T77 l0 x6_1).f2⟩ : S77) )) (Reps.none _ _)))
                    intro v189 w32 ho33 hb hg_ hnew_
                    clear hg_ hnew_
                    (first | rw [← Ny188.out] at ho33 | (simp only [Int.reduceToNat] at ho33; rw [← Ny188.out] at ho33))
                    have HO190 := Aside0.mk (Kd.R_lower (Kd.R_new' (Kd.R_new' ho33 (Kd.R_lt (Hd.r_ HO_5))) (Kd.R_lt (Hd.r_ HO186))) (below_size Hd.b_))
                    replace HO_5 := Aside0.mk (Kd.R_elder' (Hd.r_ HO_5) (Kd.R_base ho33) hb)
                    replace HO186 := Aside0.mk (Kd.R_elder' (Hd.r_ HO186) (Kd.R_base ho33) hb)
                    replace HR183 := Aside0.mk (Kd.C_below (by repeat (first | (with_reducible exact HR183.out) | (with_reducible refine Kd.C_alloc ?_ _) | (with_reducible refine Kd.C_drewN ?_ _) | (with_reducible refine Kd.C_drew ?_) | exact HR183.out)) hb)
                    replace HR197 := Aside0.mk (Kd.C_below (by repeat (first | (with_reducible exact HR197.out) | (with_reducible refine Kd.C_alloc ?_ _) | (with_reducible refine Kd.C_drewN ?_ _) | (with_reducible refine Kd.C_drew ?_) | exact HR197.out)) hb)
                    replace HB := Aside0.mk (below_step Hd.b_ hb)
                    clear hb ho33
                    refine hK.out _ _ ⟨((HB.out.cell (World.block_lt_of_cell? w _ hw187_0)).trans hw187_0), ((HB.out.cell (World.block_lt_of_cell? w _ hw187_1)).trans hw187_1), ((HB.out.cell (World.block_lt_of_cell? w _ hw187_2)).trans hw187_2), ((HB.out.cell (World.block_lt_of_cell? w _ hw187_3)).trans hw187_3)⟩ (fun hHeld => ?_)
                    clear hK K
                    refine Hd.n_ (some 46) ?_
                    exact norm_ (by simp only [putAll, Act.put, List.setIfInBounds_toArray, List.set_cons_zero, List.set_cons_succ]) (hCont (v178, v185, v189) _ ⟨hHeld, (by (with_reducible repeat (first | apply Kd.R_alloc | apply Kd.R_drewN | apply Kd.R_drew)); exact Kd.R_mono HO186.out (fun _ hk => ⟨hk.2, hk.1⟩)), (by (with_reducible repeat (first | apply Kd.R_alloc | apply Kd.R_drewN | apply Kd.R_drew)); exact Kd.R_mono HO190.out (fun _ hk => ⟨hk.2, hk.1.2⟩)), (by (with_reducible repeat (first | apply Kd.R_alloc | apply Kd.R_drewN | apply Kd.R_drew)); exact Kd.R_mono HO_5.out (fun _ hk => ⟨hk.1.2, hk.2⟩)), Hd.b_⟩)
                   ·
                    skip
                    refine Kd.R_lit_step k77 _ 77 ?hg (N := 46) ?hd (xs := ([(⟨(rd_T77 l0 x6_1).f0, (⟨(rd_T77 l0 x6_1).f1.f0, (rd_T77 l0 x6_1).f1.f1⟩ : S75), (rd_T77 l0 x6_1).f2⟩ : S77)] : List (S77))) (inner := [.int .i64 ((rd_T77 l0 x6_1).f0), .int .i64 ((rd_T77 l0 x6_1).f1.f0), .int .i64 ((rd_T77 l0 x6_1).f1.f1), .int .i64 ((rd_T77 l0 x6_1).f2)]) (ok := fun _ => True) (okp := fun _ => True) ?hr ?hp (fun _ hk => hk) trivial (Below.refl _ _) (Nat.le_refl _) (by simp) ?_; (case hd => rfl); (case hg => rfl); (case hr => first | (go_simp; done) | (go_simp; rfl)); (case hp => exact (Reps.c4 (show Kd.M k77 _ _ _ (⟨(rd_T77 l0 x6_1).f0, (⟨(rd_T77 l0 x6_1).f1.f0, (rd_T77 l0 x6_1).f1.f1⟩ : S75), (rd_T77 l0 x6_1).f2⟩ : S77) [.int .i64 ((rd_T77 l0 x6_1).f0), .int .i64 ((rd_T77 l0 x6_1).f1.f0), .int .i64 ((rd_T77 l0 x6_1).f1.f1), .int .i64 ((rd_T77 l0 x6_1).f2)] from (k77_mkM _ _ _ (⟨(rd_T77 l0 x6_1).f0, (⟨(rd_T77 l0 x6_1).f1.f0, (rd_T77 l0 x6_1).f1.f1⟩ : S75), (rd_T77 l0 x6_1).f2⟩ : S77) )) (Reps.none _ _)))
                    intro v189 w31 ho32 hb hg_ hnew_
                    clear hg_ hnew_
                    (first | rw [← Ny188.out] at ho32 | (simp only [Int.reduceToNat] at ho32; rw [← Ny188.out] at ho32))
                    have HO190 := Aside0.mk (Kd.R_lower (Kd.R_new' (Kd.R_new' ho32 (Kd.R_lt (Hd.r_ HO_5))) (Kd.R_lt (Hd.r_ HO179))) (below_size Hd.b_))
                    replace HO_5 := Aside0.mk (Kd.R_elder' (Hd.r_ HO_5) (Kd.R_base ho32) hb)
                    replace HO179 := Aside0.mk (Kd.R_elder' (Hd.r_ HO179) (Kd.R_base ho32) hb)
                    replace HR183 := Aside0.mk (Kd.C_below (by repeat (first | (with_reducible exact HR183.out) | (with_reducible refine Kd.C_alloc ?_ _) | (with_reducible refine Kd.C_drewN ?_ _) | (with_reducible refine Kd.C_drew ?_) | exact HR183.out)) hb)
                    replace HR197 := Aside0.mk (Kd.C_below (by repeat (first | (with_reducible exact HR197.out) | (with_reducible refine Kd.C_alloc ?_ _) | (with_reducible refine Kd.C_drewN ?_ _) | (with_reducible refine Kd.C_drew ?_) | exact HR197.out)) hb)
                    replace HB := Aside0.mk (below_step Hd.b_ hb)
                    clear hb ho32
                    refine hK.out _ _ ⟨((HB.out.cell (World.block_lt_of_cell? w _ hw187_0)).trans hw187_0), ((HB.out.cell (World.block_lt_of_cell? w _ hw187_1)).trans hw187_1), ((HB.out.cell (World.block_lt_of_cell? w _ hw187_2)).trans hw187_2), ((HB.out.cell (World.block_lt_of_cell? w _ hw187_3)).trans hw187_3)⟩ (fun hHeld => ?_)
                    clear hK K
                    refine Hd.n_ (some 46) ?_
                    refine Hd.o_ HT_ 4 (some 41) #[true, true, true, true, true, true, true, true, true, true, false, true, true, true, false, false] (fun K hK => ?_)
                    refine Kd.R_append_rows_step k77 (w0 := w) w.heap.size (by rfl) (.tmp 37) (.tmp 40) 61 77 (.agg #[(.int .i64 0), (.int .i64 0), (.int .i64 0), (.int .i64 0)]) 32 rfl Try.underlying61 info77 rfl (by decide) (by omega) v178 y177 y180 _ _ _ (fun k_ => some k_ ≠ (.slice (some ad175) x5_1.length co6 : Value).ownBlock ∧ some k_ ≠ (v189 : Value).ownBlock) (fun _ => False) rfl rfl ?aO ?aR (fun _ _ h => h) (fun _ h => h.elim) ?aF ?aB ?aS ?aL ?_
                    (case aR => repeat (first | exact (by repeat (first | (with_reducible exact HR183.out) | (with_reducible refine Kd.C_alloc ?_ _) | (with_reducible refine Kd.C_drewN ?_ _) | (with_reducible refine Kd.C_drew ?_) | exact HR183.out)) | (with_reducible refine Kd.C_alloc ?_ _) | (with_reducible refine Kd.C_drewN ?_ _) | (with_reducible refine Kd.C_drew ?_)))
                    (case aB => exact Hd.b_)
                    (case aF => exact (fun k_ hk => ⟨Kd.fresh' (Kd.R_lt (Hd.r_ HO_5)) k_ hk, Kd.fresh' (Kd.R_lt (Hd.r_ HO190)) k_ hk⟩))
                    (case aO => exact (by (with_reducible repeat (first | apply Kd.R_alloc | apply Kd.R_drewN | apply Kd.R_drew)); exact Kd.R_mono HO179.out (fun _ hk => ⟨hk.1.2, hk.2⟩)))
                    (case aS => exact (below_size Hd.b_))
                    (case aL => have := LMc19.out; omega)
                    intro v185 w33 ho hb hg hat
                    rw [← Ny184.out] at ho
                    have n0_ := Aside0.mk (Kd.R_after (ok := (fun k_ => some k_ ≠ (v189 : Value).ownBlock)) (by (with_reducible repeat (first | apply Kd.R_alloc | apply Kd.R_drewN | apply Kd.R_drew)); exact Kd.R_mono HO_5.out (fun _ hk => ⟨hk.2, hk.1.2⟩)) hg hat)
                    have n1_ := Aside0.mk (Kd.R_after (ok := (fun k_ => some k_ ≠ (.slice (some ad175) x5_1.length co6 : Value).ownBlock)) (by (with_reducible repeat (first | apply Kd.R_alloc | apply Kd.R_drewN | apply Kd.R_drew)); exact Kd.R_mono HO190.out (fun _ hk => ⟨hk.1.2, hk.2⟩)) hg hat)
                    have n2_ := Aside0.mk (hb)
                    have n3_ := Aside0.mk ((show Kd.C k77 w33 (some ad175) y180.length y180 from by rw [Ny180.out]; exact Kd.C_take (m := (x7_2 : Int).toNat) ((Kd.R_reads' (Kd.R_after (ok := (fun k_ => some k_ ≠ (v189 : Value).ownBlock)) (by (with_reducible repeat (first | apply Kd.R_alloc | apply Kd.R_drewN | apply Kd.R_drew)); exact Kd.R_mono HO_5.out (fun _ hk => ⟨hk.2, hk.1.2⟩)) hg hat)).2.2) KL27.out))
                    have n4_ := Aside0.mk ((show Kd.C k77 w33 A28 y194.length y194 from by rw [Ny194.out, KA28.out]; exact Kd.C_drop (m := (x7_2 : Int).toNat) (c := co6) ((Kd.R_reads' (Kd.R_after (ok := (fun k_ => some k_ ≠ (v189 : Value).ownBlock)) (by (with_reducible repeat (first | apply Kd.R_alloc | apply Kd.R_drewN | apply Kd.R_drew)); exact Kd.R_mono HO_5.out (fun _ hk => ⟨hk.2, hk.1.2⟩)) hg hat)).2.2) KL28.out ((Kd.R_reads' (Kd.R_after (ok := (fun k_ => some k_ ≠ (v189 : Value).ownBlock)) (by (with_reducible repeat (first | apply Kd.R_alloc | apply Kd.R_drewN | apply Kd.R_drew)); exact Kd.R_mono HO_5.out (fun _ hk => ⟨hk.2, hk.1.2⟩)) hg hat)).2.1)))
                    have n5_ := Aside0.mk (ho)
                    clear HO_5
                    clear HO190
                    clear HB
                    clear HR183
                    clear HR197
                    clear HO179
                    have HO_5 := n0_
                    have HO190 := n1_
                    have HB := n2_
                    have HR183 := n3_
                    have HR197 := n4_
                    have HO186 := n5_
                    clear n0_ n1_ n2_ n3_ n4_ n5_
                    clear ho hb hg hat
                    refine hK.out _ _ ⟨((HB.out.cell (World.block_lt_of_cell? w _ hw187_0)).trans hw187_0), ((HB.out.cell (World.block_lt_of_cell? w _ hw187_1)).trans hw187_1), ((HB.out.cell (World.block_lt_of_cell? w _ hw187_2)).trans hw187_2), ((HB.out.cell (World.block_lt_of_cell? w _ hw187_3)).trans hw187_3)⟩ (fun hHeld => ?_)
                    clear hK K
                    refine Hd.n_ (some 41) ?_
                    exact norm_ (by simp only [putAll, Act.put, List.setIfInBounds_toArray, List.set_cons_zero, List.set_cons_succ]) (hCont (v178, v185, v189) _ ⟨hHeld, (by (with_reducible repeat (first | apply Kd.R_alloc | apply Kd.R_drewN | apply Kd.R_drew)); exact Kd.R_mono HO186.out (fun _ hk => ⟨hk.2, hk.1⟩)), (by (with_reducible repeat (first | apply Kd.R_alloc | apply Kd.R_drewN | apply Kd.R_drew)); exact Kd.R_mono HO190.out (fun _ hk => ⟨hk.2, hk.1⟩)), (by (with_reducible repeat (first | apply Kd.R_alloc | apply Kd.R_drewN | apply Kd.R_drew)); exact Kd.R_mono HO_5.out (fun _ hk => ⟨hk.2, hk.1⟩)), Hd.b_⟩)
                  ·
                   skip
                   refine Kd.R_lit_step k77 _ 77 ?hg (N := 46) ?hd (xs := ([(⟨(rd_T77 l0 x6_1).f0, (⟨(rd_T77 l0 x6_1).f1.f0, (rd_T77 l0 x6_1).f1.f1⟩ : S75), (rd_T77 l0 x6_1).f2⟩ : S77)] : List (S77))) (inner := [.int .i64 ((rd_T77 l0 x6_1).f0), .int .i64 ((rd_T77 l0 x6_1).f1.f0), .int .i64 ((rd_T77 l0 x6_1).f1.f1), .int .i64 ((rd_T77 l0 x6_1).f2)]) (ok := fun _ => True) (okp := fun _ => True) ?hr ?hp (fun _ hk => hk) trivial (Below.refl _ _) (Nat.le_refl _) (by simp) ?_; (case hd => rfl); (case hg => rfl); (case hr => first | (go_simp; done) | (go_simp; rfl)); (case hp => exact (Reps.c4 (show Kd.M k77 _ _ _ (⟨(rd_T77 l0 x6_1).f0, (⟨(rd_T77 l0 x6_1).f1.f0, (rd_T77 l0 x6_1).f1.f1⟩ : S75), (rd_T77 l0 x6_1).f2⟩ : S77) [.int .i64 ((rd_T77 l0 x6_1).f0), .int .i64 ((rd_T77 l0 x6_1).f1.f0), .int .i64 ((rd_T77 l0 x6_1).f1.f1), .int .i64 ((rd_T77 l0 x6_1).f2)] from (k77_mkM _ _ _ (⟨(rd_T77 l0 x6_1).f0, (⟨(rd_T77 l0 x6_1).f1.f0, (rd_T77 l0 x6_1).f1.f1⟩ : S75), (rd_T77 l0 x6_1).f2⟩ : S77) )) (Reps.none _ _)))
                   intro v189 w29 ho30 hb hg_ hnew_
                   clear hg_ hnew_
                   (first | rw [← Ny188.out] at ho30 | (simp only [Int.reduceToNat] at ho30; rw [← Ny188.out] at ho30))
                   have HO190 := Aside0.mk (Kd.R_lower (Kd.R_new' ho30 (Kd.R_lt (Hd.r_ HO_5))) (below_size Hd.b_))
                   replace HO_5 := Aside0.mk (Kd.R_elder' (Hd.r_ HO_5) (Kd.R_base ho30) hb)
                   replace HR183 := Aside0.mk (Kd.C_below (by repeat (first | (with_reducible exact HR183.out) | (with_reducible refine Kd.C_alloc ?_ _) | (with_reducible refine Kd.C_drewN ?_ _) | (with_reducible refine Kd.C_drew ?_) | exact HR183.out)) hb)
                   replace HR197 := Aside0.mk (Kd.C_below (by repeat (first | (with_reducible exact HR197.out) | (with_reducible refine Kd.C_alloc ?_ _) | (with_reducible refine Kd.C_drewN ?_ _) | (with_reducible refine Kd.C_drew ?_) | exact HR197.out)) hb)
                   replace HB := Aside0.mk (below_step Hd.b_ hb)
                   clear hb ho30
                   refine hK.out _ _ ⟨((HB.out.cell (World.block_lt_of_cell? w _ hw187_0)).trans hw187_0), ((HB.out.cell (World.block_lt_of_cell? w _ hw187_1)).trans hw187_1), ((HB.out.cell (World.block_lt_of_cell? w _ hw187_2)).trans hw187_2), ((HB.out.cell (World.block_lt_of_cell? w _ hw187_3)).trans hw187_3)⟩ (fun hHeld => ?_)
                   clear hK K
                   refine Hd.n_ (some 46) ?_
                   refine Hd.o_ HT_ 0 (some 37) #[true, true, true, true, false, true, true, true, true, true, false, true, true, true, false, false] (fun K hK => ?_)
                   refine Kd.R_lit_step k77 _ 77 ?hg (N := 37) ?hd (xs := ([] : List (S77))) (inner := []) (ok := fun _ => True) (okp := fun _ => True) ?hr ?hp (fun _ hk => hk) trivial (Below.refl _ _) (Nat.le_refl _) (by simp) ?_; (case hd => rfl); (case hg => rfl); (case hr => first | (go_simp; done) | (go_simp; rfl)); (case hp => exact (Reps.none _ _))
                   intro v178 w31 ho32 hb hg_ hnew_
                   clear hg_ hnew_
                   (first | rw [← Ny177.out] at ho32 | (simp only [Int.reduceToNat] at ho32; rw [← Ny177.out] at ho32))
                   have HO179 := Aside0.mk (Kd.R_lower (Kd.R_new' (Kd.R_new' ho32 (Kd.R_lt (Hd.r_ HO_5))) (Kd.R_lt (Hd.r_ HO190))) (below_size Hd.b_))
                   replace HO_5 := Aside0.mk (Kd.R_elder' (Hd.r_ HO_5) (Kd.R_base ho32) hb)
                   replace HO190 := Aside0.mk (Kd.R_elder' (Hd.r_ HO190) (Kd.R_base ho32) hb)
                   replace HR183 := Aside0.mk (Kd.C_below (by repeat (first | (with_reducible exact HR183.out) | (with_reducible refine Kd.C_alloc ?_ _) | (with_reducible refine Kd.C_drewN ?_ _) | (with_reducible refine Kd.C_drew ?_) | exact HR183.out)) hb)
                   replace HR197 := Aside0.mk (Kd.C_below (by repeat (first | (with_reducible exact HR197.out) | (with_reducible refine Kd.C_alloc ?_ _) | (with_reducible refine Kd.C_drewN ?_ _) | (with_reducible refine Kd.C_drew ?_) | exact HR197.out)) hb)
                   replace HB := Aside0.mk (below_step Hd.b_ hb)
                   clear hb ho32
                   refine hK.out _ _ ⟨((HB.out.cell (World.block_lt_of_cell? w _ hw187_0)).trans hw187_0), ((HB.out.cell (World.block_lt_of_cell? w _ hw187_1)).trans hw187_1), ((HB.out.cell (World.block_lt_of_cell? w _ hw187_2)).trans hw187_2), ((HB.out.cell (World.block_lt_of_cell? w _ hw187_3)).trans hw187_3)⟩ (fun hHeld => ?_)
                   clear hK K
                   refine Hd.n_ (some 37) ?_
                   refine Hd.o_ HT_ 4 (some 41) #[true, true, true, true, true, true, true, true, true, true, false, true, true, true, false, false] (fun K hK => ?_)
                   refine Kd.R_append_rows_step k77 (w0 := w) w.heap.size (by rfl) (.tmp 37) (.tmp 40) 61 77 (.agg #[(.int .i64 0), (.int .i64 0), (.int .i64 0), (.int .i64 0)]) 32 rfl Try.underlying61 info77 rfl (by decide) (by omega) v178 y177 y180 _ _ _ (fun k_ => some k_ ≠ (.slice (some ad175) x5_1.length co6 : Value).ownBlock ∧ some k_ ≠ (v189 : Value).ownBlock) (fun _ => False) rfl rfl ?aO ?aR (fun _ _ h => h) (fun _ h => h.elim) ?aF ?aB ?aS ?aL ?_
                   (case aR => repeat (first | exact (by repeat (first | (with_reducible exact HR183.out) | (with_reducible refine Kd.C_alloc ?_ _) | (with_reducible refine Kd.C_drewN ?_ _) | (with_reducible refine Kd.C_drew ?_) | exact HR183.out)) | (with_reducible refine Kd.C_alloc ?_ _) | (with_reducible refine Kd.C_drewN ?_ _) | (with_reducible refine Kd.C_drew ?_)))
                   (case aB => exact Hd.b_)
                   (case aF => exact (fun k_ hk => ⟨Kd.fresh' (Kd.R_lt (Hd.r_ HO_5)) k_ hk, Kd.fresh' (Kd.R_lt (Hd.r_ HO190)) k_ hk⟩))
                   (case aO => exact (by (with_reducible repeat (first | apply Kd.R_alloc | apply Kd.R_drewN | apply Kd.R_drew)); exact Kd.R_mono HO179.out (fun _ hk => ⟨hk.1.2, hk.2⟩)))
                   (case aS => exact (below_size Hd.b_))
                   (case aL => have := LMc19.out; omega)
                   intro v185 w33 ho hb hg hat
                   rw [← Ny184.out] at ho
                   have n0_ := Aside0.mk (Kd.R_after (ok := (fun k_ => some k_ ≠ (v189 : Value).ownBlock)) (by (with_reducible repeat (first | apply Kd.R_alloc | apply Kd.R_drewN | apply Kd.R_drew)); exact Kd.R_mono HO_5.out (fun _ hk => ⟨hk.1.2, hk.2⟩)) hg hat)
                   have n1_ := Aside0.mk (Kd.R_after (ok := (fun k_ => some k_ ≠ (.slice (some ad175) x5_1.length co6 : Value).ownBlock)) (by (with_reducible repeat (first | apply Kd.R_alloc | apply Kd.R_drewN | apply Kd.R_drew)); exact Kd.R_mono HO190.out (fun _ hk => ⟨hk.1.2, hk.2⟩)) hg hat)
                   have n2_ := Aside0.mk (hb)
                   have n3_ := Aside0.mk ((show Kd.C k77 w33 (some ad175) y180.length y180 from by rw [Ny180.out]; exact Kd.C_take (m := (x7_2 : Int).toNat) ((Kd.R_reads' (Kd.R_after (ok := (fun k_ => some k_ ≠ (v189 : Value).ownBlock)) (by (with_reducible repeat (first | apply Kd.R_alloc | apply Kd.R_drewN | apply Kd.R_drew)); exact Kd.R_mono HO_5.out (fun _ hk => ⟨hk.1.2, hk.2⟩)) hg hat)).2.2) KL27.out))
                   have n4_ := Aside0.mk ((show Kd.C k77 w33 A28 y194.length y194 from by rw [Ny194.out, KA28.out]; exact Kd.C_drop (m := (x7_2 : Int).toNat) (c := co6) ((Kd.R_reads' (Kd.R_after (ok := (fun k_ => some k_ ≠ (v189 : Value).ownBlock)) (by (with_reducible repeat (first | apply Kd.R_alloc | apply Kd.R_drewN | apply Kd.R_drew)); exact Kd.R_mono HO_5.out (fun _ hk => ⟨hk.1.2, hk.2⟩)) hg hat)).2.2) KL28.out ((Kd.R_reads' (Kd.R_after (ok := (fun k_ => some k_ ≠ (v189 : Value).ownBlock)) (by (with_reducible repeat (first | apply Kd.R_alloc | apply Kd.R_drewN | apply Kd.R_drew)); exact Kd.R_mono HO_5.out (fun _ hk => ⟨hk.1.2, hk.2⟩)) hg hat)).2.1)))
                   have n5_ := Aside0.mk (ho)
                   clear HO_5
                   clear HO190
                   clear HB
                   clear HR183
                   clear HR197
                   clear HO179
                   have HO_5 := n0_
                   have HO190 := n1_
                   have HB := n2_
                   have HR183 := n3_
                   have HR197 := n4_
                   have HO186 := n5_
                   clear n0_ n1_ n2_ n3_ n4_ n5_
                   clear ho hb hg hat
                   refine hK.out _ _ ⟨((HB.out.cell (World.block_lt_of_cell? w _ hw187_0)).trans hw187_0), ((HB.out.cell (World.block_lt_of_cell? w _ hw187_1)).trans hw187_1), ((HB.out.cell (World.block_lt_of_cell? w _ hw187_2)).trans hw187_2), ((HB.out.cell (World.block_lt_of_cell? w _ hw187_3)).trans hw187_3)⟩ (fun hHeld => ?_)
                   clear hK K
                   refine Hd.n_ (some 41) ?_
                   exact norm_ (by simp only [putAll, Act.put, List.setIfInBounds_toArray, List.set_cons_zero, List.set_cons_succ]) (hCont (v178, v185, v189) _ ⟨hHeld, (by (with_reducible repeat (first | apply Kd.R_alloc | apply Kd.R_drewN | apply Kd.R_drew)); exact Kd.R_mono HO186.out (fun _ hk => ⟨hk.2, hk.1⟩)), (by (with_reducible repeat (first | apply Kd.R_alloc | apply Kd.R_drewN | apply Kd.R_drew)); exact Kd.R_mono HO190.out (fun _ hk => ⟨hk.2, hk.1⟩)), (by (with_reducible repeat (first | apply Kd.R_alloc | apply Kd.R_drewN | apply Kd.R_drew)); exact Kd.R_mono HO_5.out (fun _ hk => ⟨hk.2, hk.1⟩)), Hd.b_⟩)
                 rintro ⟨v178, v185, v189⟩ w34 ⟨hS_, h0_, h1_, h2_, h3_⟩
                 have n0_ : Aside0 (Kd.R k77 77 w34 w.heap.size (fun k_ => some k_ ≠ (v189 : Value).ownBlock ∧ some k_ ≠ (.slice (some ad175) x5_1.length co6 : Value).ownBlock) v185 y184) := ⟨h0_⟩
                 have n1_ : Aside0 (Kd.R k77 77 w34 w.heap.size (fun k_ => some k_ ≠ (v185 : Value).ownBlock ∧ some k_ ≠ (.slice (some ad175) x5_1.length co6 : Value).ownBlock) v189 y188) := ⟨h1_⟩
                 have n2_ : Aside0 (Kd.R k77 77 w34 w.heap.size (fun k_ => some k_ ≠ (v185 : Value).ownBlock ∧ some k_ ≠ (v189 : Value).ownBlock) (.slice (some ad175) x5_1.length co6) x5_1) := ⟨h2_⟩
                 have n3_ : Aside0 (Below w.heap.size w w34) := ⟨h3_⟩
                 clear HO_5
                 clear HB
                 clear h0_ h1_ h2_ h3_
                 have HO186 := n0_
                 have HO190 := n1_
                 have HO_5 := n2_
                 have HB := n3_
                 clear n0_ n1_ n2_ n3_
                 have hHeld : w34.cell? (ad174.add ((x6_1).toNat * 4)) = some (.int .i64 ((rd_T77 l0 x6_1).f0)) ∧ w34.cell? ⟨(ad174.add ((x6_1).toNat * 4)).block, (ad174.add ((x6_1).toNat * 4)).off + 1, none⟩ = some (.int .i64 ((rd_T77 l0 x6_1).f1.f0)) ∧ w34.cell? ⟨(ad174.add ((x6_1).toNat * 4)).block, (ad174.add ((x6_1).toNat * 4)).off + 2, none⟩ = some (.int .i64 ((rd_T77 l0 x6_1).f1.f1)) ∧ w34.cell? ⟨(ad174.add ((x6_1).toNat * 4)).block, (ad174.add ((x6_1).toNat * 4)).off + 3, none⟩ = some (.int .i64 ((rd_T77 l0 x6_1).f2)) := hS_
                 have n_ := Aside0.mk (show Kd.C k77 w34 (some ad175) y180.length y180 from by rw [Ny180.out]; exact Kd.C_take (m := (x7_2 : Int).toNat) ((Kd.R_reads' (HO_5.out)).2.2) KL27.out)
                 clear HR183
                 have HR183 := n_
                 clear n_
                 have n_ := Aside0.mk (show Kd.C k77 w34 A28 y194.length y194 from by rw [Ny194.out, KA28.out]; exact Kd.C_drop (m := (x7_2 : Int).toNat) (c := co6) ((Kd.R_reads' (HO_5.out)).2.2) KL28.out ((Kd.R_reads' (HO_5.out)).2.1))
                 clear HR197
                 have HR197 := n_
                 clear n_
                 obtain ⟨Ao36, co36, eo36⟩ := Kd.R_slice HO190.out
                 (first | subst eo36 | (injection eo36 with f1_ f2_ f3_; have f4_ := f1_.symm; have f5_ := f3_.symm; clear f1_ f2_ f3_; subst f4_; subst f5_))
                 refine norm_ (a' := ?_) ?_ ?_
                 rotate_left
                 ·
                  simp only [putAll, Act.put, List.setIfInBounds_toArray, List.set_cons_zero, List.set_cons_succ]
                  rfl
                 refine Hd.o_ HT_ 10 (some 47) #[true, true, true, true, true, true, true, true, true, true, true, true, true, true, false, false] (fun K hK => ?_)
                 refine Kd.R_append_rows_step k77 (w0 := w) w.heap.size (by rfl) (.tmp 41) (.tmp 46) 61 77 (.agg #[(.int .i64 0), (.int .i64 0), (.int .i64 0), (.int .i64 0)]) 32 rfl Try.underlying61 info77 rfl (by decide) (by omega) v185 y184 y188 _ _ _ (fun k_ => some k_ ≠ (.slice (some ad175) x5_1.length co6 : Value).ownBlock ∧ some k_ ≠ (.slice Ao36 y188.length co36 : Value).ownBlock) (fun _ => False) rfl rfl ?aO ?aR (fun _ _ h => h) (fun _ h => h.elim) ?aF ?aB ?aS ?aL ?_
                 (case aR => repeat (first | exact (Kd.R_reads' HO190.out).2.2 | (with_reducible refine Kd.C_alloc ?_ _) | (with_reducible refine Kd.C_drewN ?_ _) | (with_reducible refine Kd.C_drew ?_)))
                 (case aB => exact Hd.b_)
                 (case aF => exact (fun k_ hk => ⟨Kd.fresh' (Kd.R_lt (Hd.r_ HO_5)) k_ hk, Kd.fresh' (Kd.R_lt (Hd.r_ HO190)) k_ hk⟩))
                 (case aO => exact (by (with_reducible repeat (first | apply Kd.R_alloc | apply Kd.R_drewN | apply Kd.R_drew)); exact Kd.R_mono HO186.out (fun _ hk => ⟨hk.2, hk.1⟩)))
                 (case aS => exact (below_size Hd.b_))
                 (case aL => have := LMc20.out; omega)
                 intro v192 w35 ho hb hg hat
                 rw [← Ny191.out] at ho
                 have n0_ := Aside0.mk (Kd.R_after (ok := (fun k_ => some k_ ≠ (.slice Ao36 y188.length co36 : Value).ownBlock)) (by (with_reducible repeat (first | apply Kd.R_alloc | apply Kd.R_drewN | apply Kd.R_drew)); exact Kd.R_mono HO_5.out (fun _ hk => ⟨hk.2, hk.1⟩)) hg hat)
                 have n1_ := Aside0.mk (Kd.R_after (ok := (fun k_ => some k_ ≠ (.slice (some ad175) x5_1.length co6 : Value).ownBlock)) (by (with_reducible repeat (first | apply Kd.R_alloc | apply Kd.R_drewN | apply Kd.R_drew)); exact Kd.R_mono HO190.out (fun _ hk => ⟨hk.2, hk.1⟩)) hg hat)
                 have n2_ := Aside0.mk (hb)
                 have n3_ := Aside0.mk ((show Kd.C k77 w35 (some ad175) y180.length y180 from by rw [Ny180.out]; exact Kd.C_take (m := (x7_2 : Int).toNat) ((Kd.R_reads' (Kd.R_after (ok := (fun k_ => some k_ ≠ (.slice Ao36 y188.length co36 : Value).ownBlock)) (by (with_reducible repeat (first | apply Kd.R_alloc | apply Kd.R_drewN | apply Kd.R_drew)); exact Kd.R_mono HO_5.out (fun _ hk => ⟨hk.2, hk.1⟩)) hg hat)).2.2) KL27.out))
                 have n4_ := Aside0.mk ((show Kd.C k77 w35 A28 y194.length y194 from by rw [Ny194.out, KA28.out]; exact Kd.C_drop (m := (x7_2 : Int).toNat) (c := co6) ((Kd.R_reads' (Kd.R_after (ok := (fun k_ => some k_ ≠ (.slice Ao36 y188.length co36 : Value).ownBlock)) (by (with_reducible repeat (first | apply Kd.R_alloc | apply Kd.R_drewN | apply Kd.R_drew)); exact Kd.R_mono HO_5.out (fun _ hk => ⟨hk.2, hk.1⟩)) hg hat)).2.2) KL28.out ((Kd.R_reads' (Kd.R_after (ok := (fun k_ => some k_ ≠ (.slice Ao36 y188.length co36 : Value).ownBlock)) (by (with_reducible repeat (first | apply Kd.R_alloc | apply Kd.R_drewN | apply Kd.R_drew)); exact Kd.R_mono HO_5.out (fun _ hk => ⟨hk.2, hk.1⟩)) hg hat)).2.1)))
                 have n5_ := Aside0.mk (ho)
                 clear HO_5
                 clear HO190
                 clear HB
                 clear HR183
                 clear HR197
                 clear HO186
                 have HO_5 := n0_
                 have HO190 := n1_
                 have HB := n2_
                 have HR183 := n3_
                 have HR197 := n4_
                 have HO193 := n5_
                 clear n0_ n1_ n2_ n3_ n4_ n5_
                 clear ho hb hg hat
                 refine hK.out _ _ ⟨((HB.out.cell (World.block_lt_of_cell? w _ hw187_0)).trans hw187_0), ((HB.out.cell (World.block_lt_of_cell? w _ hw187_1)).trans hw187_1), ((HB.out.cell (World.block_lt_of_cell? w _ hw187_2)).trans hw187_2), ((HB.out.cell (World.block_lt_of_cell? w _ hw187_3)).trans hw187_3)⟩ (fun hHeld => ?_)
                 clear hK K
                 refine Hd.n_ (some 47) ?_
                 refine Hd.o_ HT_ 14 (some 51) #[true, true, true, true, true, true, true, true, true, true, true, true, true, true, true, false] (fun K hK => ?_)
                 refine Kd.R_append_rows_step k77 (w0 := w) w.heap.size (by rfl) (.tmp 47) (.tmp 50) 61 77 (.agg #[(.int .i64 0), (.int .i64 0), (.int .i64 0), (.int .i64 0)]) 32 rfl Try.underlying61 info77 rfl (by decide) (by omega) v192 y191 y194 _ _ _ (fun k_ => some k_ ≠ (.slice (some ad175) x5_1.length co6 : Value).ownBlock ∧ some k_ ≠ (.slice Ao36 y188.length co36 : Value).ownBlock) (fun _ => False) rfl rfl ?aO ?aR (fun _ _ h => h) (fun _ h => h.elim) ?aF ?aB ?aS ?aL ?_
                 (case aR => repeat (first | exact (by repeat (first | (with_reducible exact HR197.out) | (with_reducible refine Kd.C_alloc ?_ _) | (with_reducible refine Kd.C_drewN ?_ _) | (with_reducible refine Kd.C_drew ?_) | exact HR197.out)) | (with_reducible refine Kd.C_alloc ?_ _) | (with_reducible refine Kd.C_drewN ?_ _) | (with_reducible refine Kd.C_drew ?_)))
                 (case aB => exact Hd.b_)
                 (case aF => exact (fun k_ hk => ⟨Kd.fresh' (Kd.R_lt (Hd.r_ HO_5)) k_ hk, Kd.fresh' (Kd.R_lt (Hd.r_ HO190)) k_ hk⟩))
                 (case aO => exact (Hd.r_ HO193))
                 (case aS => exact (below_size Hd.b_))
                 (case aL => have := LMc23.out; omega)
                 intro v199 w37 ho hb hg hat
                 rw [← Ny198.out] at ho
                 have n0_ := Aside0.mk (Kd.R_after (ok := (fun k_ => some k_ ≠ (.slice Ao36 y188.length co36 : Value).ownBlock)) (Hd.r_ HO_5) hg hat)
                 have n1_ := Aside0.mk (Kd.R_after (ok := (fun k_ => some k_ ≠ (.slice (some ad175) x5_1.length co6 : Value).ownBlock)) (Hd.r_ HO190) hg hat)
                 have n2_ := Aside0.mk (hb)
                 have n3_ := Aside0.mk ((show Kd.C k77 w37 (some ad175) y180.length y180 from by rw [Ny180.out]; exact Kd.C_take (m := (x7_2 : Int).toNat) ((Kd.R_reads' (Kd.R_after (ok := (fun k_ => some k_ ≠ (.slice Ao36 y188.length co36 : Value).ownBlock)) (Hd.r_ HO_5) hg hat)).2.2) KL27.out))
                 have n4_ := Aside0.mk ((show Kd.C k77 w37 A28 y194.length y194 from by rw [Ny194.out, KA28.out]; exact Kd.C_drop (m := (x7_2 : Int).toNat) (c := co6) ((Kd.R_reads' (Kd.R_after (ok := (fun k_ => some k_ ≠ (.slice Ao36 y188.length co36 : Value).ownBlock)) (Hd.r_ HO_5) hg hat)).2.2) KL28.out ((Kd.R_reads' (Kd.R_after (ok := (fun k_ => some k_ ≠ (.slice Ao36 y188.length co36 : Value).ownBlock)) (Hd.r_ HO_5) hg hat)).2.1)))
                 have n5_ := Aside0.mk (ho)
                 clear HO_5
                 clear HO190
                 clear HB
                 clear HR183
                 clear HR197
                 clear HO193
                 have HO_5 := n0_
                 have HO190 := n1_
                 have HB := n2_
                 have HR183 := n3_
                 have HR197 := n4_
                 have HO200 := n5_
                 clear n0_ n1_ n2_ n3_ n4_ n5_
                 clear ho hb hg hat
                 refine hK.out _ _ ⟨((HB.out.cell (World.block_lt_of_cell? w _ hw187_0)).trans hw187_0), ((HB.out.cell (World.block_lt_of_cell? w _ hw187_1)).trans hw187_1), ((HB.out.cell (World.block_lt_of_cell? w _ hw187_2)).trans hw187_2), ((HB.out.cell (World.block_lt_of_cell? w _ hw187_3)).trans hw187_3)⟩ (fun hHeld => ?_)
                 clear hK K
                 refine Hd.n_ (some 51) ?_
                 refine Hd.p_ HT_ 15 (some 5) #[true, true, true, true, true, true, true, true, true, true, true, true, true, true, true, true] ?_
                 refine done_ (done_of HT_.out (by kernel_rfl)) ?_
                 try go_wp2
                 go_roundg k2
                 case measure => have := HK1.out; have := HK2.out; omega
                 case rel => exact ⟨(y198), (wrap64 (x6_1 + 1)), (by first | rfl | (simp; done) | (simp [*]; done)), H', ⟨by have := HK1.out; have := HK2.out; omega⟩, ⟨by (with_reducible repeat (first | apply Kd.R_alloc | apply Kd.R_drewN | apply Kd.R_drew)); exact Kd.R_mono HO200.out (fun _ hk => trivial)⟩, ⟨Hd.b_⟩⟩
                ·
                 rw [if_neg c23] at H
                 exact absurd H (by simp)
               ·
                rw [if_neg c20] at H
                exact absurd H (by simp)
              ·
               rw [if_neg c19] at H
               exact absurd H (by simp)
             ·
              rw [if_neg c18] at H
              exact absurd H (by simp)
            ·
             rw [if_neg c17] at H
             exact absurd H (by simp)
          ·
           rw [if_neg c12] at H
           exact absurd H (by simp)
         ·
          rw [if_neg c11] at H
          exact absurd H (by simp)
        ·
         rw [if_neg c9] at H
         exact absurd H (by simp)
       ·
        rw [if_neg c8] at H
        exact absurd H (by simp)
      ·
       rw [if_neg c7] at H
       have c7b0 : decide (0 < x7_2) = false := decide_eq_false c7
       clear c7
       obtain ⟨y201, hy201⟩ : ∃ y_ : List (S77), y_ = (([] : List (S77))) := ⟨_, rfl⟩
       replace H : (if 0 ≤ x7_2 then (if x7_2 ≤ (x5_1.length : Int) then ((some (x5_1.take (x7_2 : Int).toNat : List (S77))).bind fun y204 => (if y201.length + y204.length < 4398046511104 then ((some (y201 ++ y204 : List (S77))).bind fun y208 => (if 0 ≤ x6_1 then (if x6_1 < (l0.length : Int) then ((some (([(⟨(rd_T77 l0 x6_1).f0, (⟨(rd_T77 l0 x6_1).f1.f0, (rd_T77 l0 x6_1).f1.f1⟩ : S75), (rd_T77 l0 x6_1).f2⟩ : S77)] : List (S77)) : List (S77))).bind fun y212 => (if y208.length + y212.length < 4398046511104 then ((some (y208 ++ y212 : List (S77))).bind fun y215 => ((some (x5_1.drop (x7_2 : Int).toNat : List (S77))).bind fun y218 => (if y215.length + y218.length < 4398046511104 then (spec_l14Kept.l0 k2 l0 a1 (y215 ++ y218) (wrap64 (x6_1 + 1))) else (none)))) else (none))) else (none)) else (none))) else (none))) else (none)) else (none)) = some r := by first | (rw [hy201]; with_reducible exact H) | (have H2_ := (Option.bind_some _ _).symm.trans H; rw [hy201]; with_reducible exact H2_) | (have H2_ := (Option.bind_some _ _).symm.trans H; with_reducible exact H2_) | with_reducible exact H | (rw [hy201]; exact H) | exact H
       have Ny201 := Aside0.mk hy201
       clear hy201
       by_cases c38 : 0 ≤ x7_2
       ·
        rw [if_pos c38] at H
        have c38b0 := eq_true c38
        have c38b1 : decide (0 ≤ x7_2) = true := decide_eq_true c38
        clear c38
        by_cases c39 : x7_2 ≤ (x5_1.length : Int)
        ·
         rw [if_pos c39] at H
         have c39b0 := eq_true c39
         have c39b1 : decide (x7_2 ≤ (x5_1.length : Int)) = true := decide_eq_true c39
         clear c39
         obtain ⟨y204, hy204⟩ : ∃ y_ : List (S77), y_ = (x5_1.take (x7_2 : Int).toNat) := ⟨_, rfl⟩
         replace H : (if y201.length + y204.length < 4398046511104 then ((some (y201 ++ y204 : List (S77))).bind fun y208 => (if 0 ≤ x6_1 then (if x6_1 < (l0.length : Int) then ((some (([(⟨(rd_T77 l0 x6_1).f0, (⟨(rd_T77 l0 x6_1).f1.f0, (rd_T77 l0 x6_1).f1.f1⟩ : S75), (rd_T77 l0 x6_1).f2⟩ : S77)] : List (S77)) : List (S77))).bind fun y212 => (if y208.length + y212.length < 4398046511104 then ((some (y208 ++ y212 : List (S77))).bind fun y215 => ((some (x5_1.drop (x7_2 : Int).toNat : List (S77))).bind fun y218 => (if y215.length + y218.length < 4398046511104 then (spec_l14Kept.l0 k2 l0 a1 (y215 ++ y218) (wrap64 (x6_1 + 1))) else (none)))) else (none))) else (none)) else (none))) else (none)) = some r := by first | (rw [hy204]; with_reducible exact H) | (have H2_ := (Option.bind_some _ _).symm.trans H; rw [hy204]; with_reducible exact H2_) | (have H2_ := (Option.bind_some _ _).symm.trans H; with_reducible exact H2_) | with_reducible exact H | (rw [hy204]; exact H) | exact H
         have Ny204 := Aside0.mk hy204
         clear hy204
         by_cases c40 : y201.length + y204.length < 4398046511104
         ·
          rw [if_pos c40] at H
          have LMc40 := Aside0.mk c40
          clear c40
          obtain ⟨y208, hy208⟩ : ∃ y_ : List (S77), y_ = (y201 ++ y204) := ⟨_, rfl⟩
          replace H : (if 0 ≤ x6_1 then (if x6_1 < (l0.length : Int) then ((some (([(⟨(rd_T77 l0 x6_1).f0, (⟨(rd_T77 l0 x6_1).f1.f0, (rd_T77 l0 x6_1).f1.f1⟩ : S75), (rd_T77 l0 x6_1).f2⟩ : S77)] : List (S77)) : List (S77))).bind fun y212 => (if y208.length + y212.length < 4398046511104 then ((some (y208 ++ y212 : List (S77))).bind fun y215 => ((some (x5_1.drop (x7_2 : Int).toNat : List (S77))).bind fun y218 => (if y215.length + y218.length < 4398046511104 then (spec_l14Kept.l0 k2 l0 a1 (y215 ++ y218) (wrap64 (x6_1 + 1))) else (none)))) else (none))) else (none)) else (none)) = some r := by first | (rw [hy208]; with_reducible exact H) | (have H2_ := (Option.bind_some _ _).symm.trans H; rw [hy208]; with_reducible exact H2_) | (have H2_ := (Option.bind_some _ _).symm.trans H; with_reducible exact H2_) | with_reducible exact H | (rw [hy208]; exact H) | exact H
          have Ny208 := Aside0.mk hy208
          clear hy208
          by_cases c41 : 0 ≤ x6_1
          ·
           rw [if_pos c41] at H
           have c41b0 : decide (0 ≤ x6_1) = true := decide_eq_true c41
           clear c41
           by_cases c42 : x6_1 < (l0.length : Int)
           ·
            rw [if_pos c42] at H
            have c42b0 : decide (x6_1 < (l0.length : Int)) = true := decide_eq_true c42
            clear c42
            obtain ⟨y212, hy212⟩ : ∃ y_ : List (S77), y_ = (([(⟨(rd_T77 l0 x6_1).f0, (⟨(rd_T77 l0 x6_1).f1.f0, (rd_T77 l0 x6_1).f1.f1⟩ : S75), (rd_T77 l0 x6_1).f2⟩ : S77)] : List (S77))) := ⟨_, rfl⟩
            replace H : (if y208.length + y212.length < 4398046511104 then ((some (y208 ++ y212 : List (S77))).bind fun y215 => ((some (x5_1.drop (x7_2 : Int).toNat : List (S77))).bind fun y218 => (if y215.length + y218.length < 4398046511104 then (spec_l14Kept.l0 k2 l0 a1 (y215 ++ y218) (wrap64 (x6_1 + 1))) else (none)))) else (none)) = some r := by first | (rw [hy212]; with_reducible exact H) | (have H2_ := (Option.bind_some _ _).symm.trans H; rw [hy212]; with_reducible exact H2_) | (have H2_ := (Option.bind_some _ _).symm.trans H; with_reducible exact H2_) | with_reducible exact H | (rw [hy212]; exact H) | exact H
            have Ny212 := Aside0.mk hy212
            clear hy212
            by_cases c43 : y208.length + y212.length < 4398046511104
            ·
             rw [if_pos c43] at H
             have LMc43 := Aside0.mk c43
             clear c43
             obtain ⟨y215, hy215⟩ : ∃ y_ : List (S77), y_ = (y208 ++ y212) := ⟨_, rfl⟩
             replace H : ((some (x5_1.drop (x7_2 : Int).toNat : List (S77))).bind fun y218 => (if y215.length + y218.length < 4398046511104 then (spec_l14Kept.l0 k2 l0 a1 (y215 ++ y218) (wrap64 (x6_1 + 1))) else (none))) = some r := by first | (rw [hy215]; with_reducible exact H) | (have H2_ := (Option.bind_some _ _).symm.trans H; rw [hy215]; with_reducible exact H2_) | (have H2_ := (Option.bind_some _ _).symm.trans H; with_reducible exact H2_) | with_reducible exact H | (rw [hy215]; exact H) | exact H
             have Ny215 := Aside0.mk hy215
             clear hy215
             have c44b0 := eq_true (of_decide_eq_true Hd.a_ : 0 ≤ x7_2)
             have c45b0 := eq_true (of_decide_eq_true Hd.a_ : x7_2 ≤ (x5_1.length : Int))
             obtain ⟨y218, hy218⟩ : ∃ y_ : List (S77), y_ = (x5_1.drop (x7_2 : Int).toNat) := ⟨_, rfl⟩
             replace H : (if y215.length + y218.length < 4398046511104 then (spec_l14Kept.l0 k2 l0 a1 (y215 ++ y218) (wrap64 (x6_1 + 1))) else (none)) = some r := by first | (rw [hy218]; with_reducible exact H) | (have H2_ := (Option.bind_some _ _).symm.trans H; rw [hy218]; with_reducible exact H2_) | (have H2_ := (Option.bind_some _ _).symm.trans H; with_reducible exact H2_) | with_reducible exact H | (rw [hy218]; exact H) | exact H
             have Ny218 := Aside0.mk hy218
             clear hy218
             by_cases c46 : y215.length + y218.length < 4398046511104
             ·
              rw [if_pos c46] at H
              have LMc46 := Aside0.mk c46
              clear c46
              obtain ⟨y222, hy222⟩ : ∃ y_ : List (S77), y_ = (y215 ++ y218) := ⟨_, rfl⟩
              replace H : (spec_l14Kept.l0 k2 l0 a1 y222 (wrap64 (x6_1 + 1))) = some r := by first | (rw [hy222]; with_reducible exact H) | (have H2_ := (Option.bind_some _ _).symm.trans H; rw [hy222]; with_reducible exact H2_) | (have H2_ := (Option.bind_some _ _).symm.trans H; with_reducible exact H2_) | with_reducible exact H | (rw [hy222]; exact H) | exact H
              have Ny222 := Aside0.mk hy222
              clear hy222
              have H' := Aside0.mk H
              clear H
              try go_wp2
              replace HO_5 := Aside0.mk (Kd.R_drew HO_5.out)
              replace HB := Aside0.mk (below_drew1 HB.out)
              refine Hd.HW.region (by kernel_rfl) (by kernel_rfl) ?_
              repeat (go_big_quiet_step (fail))
              refine wpQuiet_nil ?_
              intro _ hq_
              obtain ⟨q_, rfl⟩ := hq_
              replace HO_5 := Aside0.mk (Kd.R_below HO_5.out q_.b)
              replace HB := Aside0.mk (below_step HB.out q_.b)
              generalize q_.W = w47 at HO_5 HB ⊢
              try simp only [i64_w, i32_w]
              try go_wp2
              replace HO_5 := Aside0.mk (Kd.R_drew HO_5.out)
              replace HB := Aside0.mk (below_drew1 HB.out)
              have q49 : (x7_2 : Int) ≤ ((x5_1.length : Int) : Int) := of_decide_eq_true Hd.a_
              obtain ⟨i049, hi049, _, hsz49, _⟩ := info_parts info77
              have hroom49 : x5_1.length ≤ co6 := (Kd.R_reads' HO_5.out).2.1
              have hC49 : Kd.C k77 _ Ao6 x5_1.length x5_1 := (Kd.R_reads' HO_5.out).2.2
              have hcut49 := cut_to (P := Try.prog) 61 77 .i64 Try.underlying61 hi049 Ao6 x5_1.length co6 x7_2 (of_decide_eq_true Hd.a_) q49 hroom49
              have hr49 := Kd.C_take (m := (x7_2 : Int).toNat) hC49 (by omega)
              have hy49 : y204.length = (x7_2 : Int).toNat := (by rw [Ny204.out, List.length_take]; omega)
              rw [← Ny204.out] at hr49
              rw [← hy49] at hcut49
              have HR207 := Aside0.mk hr49
              have HC207 := Aside0.mk (show y204.length ≤ co6 from by omega)
              clear hr49 hC49 hroom49 hi049 hsz49
              have KY49 := Aside0.mk hy49
              clear hy49
              have KL49 := Aside0.mk (show (x7_2 : Int).toNat ≤ x5_1.length from by omega)
              replace q49 := eq_true q49
              have p211 : 0 ≤ (x6_1 : Int) := of_decide_eq_true Hd.a_
              have q211 : x6_1 < (l0.length : Int) := of_decide_eq_true Hd.a_
              obtain ⟨ad211, e211, hx211_0, hx211_1, hx211_2, hx211_3⟩ := at_T77 HR0.out x6_1 p211 q211
              have hw211_3 := hx211_3
              have hw211_2 := hx211_2
              have hw211_1 := hx211_1
              have hw211_0 := hx211_0
              cases e211
              replace hx211_0 := (HB.out.cell (World.block_lt_of_cell? w _ hx211_0)).trans hx211_0
              replace hx211_1 := (HB.out.cell (World.block_lt_of_cell? w _ hx211_1)).trans hx211_1
              replace hx211_2 := (HB.out.cell (World.block_lt_of_cell? w _ hx211_2)).trans hx211_2
              replace hx211_3 := (HB.out.cell (World.block_lt_of_cell? w _ hx211_3)).trans hx211_3
              replace p211 := eq_true p211
              replace q211 := eq_true q211
              have q50 : (x7_2 : Int) ≤ ((x5_1.length : Int) : Int) := of_decide_eq_true Hd.a_
              obtain ⟨i050, hi050, _, hsz50, _⟩ := info_parts info77
              have hroom50 : x5_1.length ≤ co6 := (Kd.R_reads' HO_5.out).2.1
              have hC50 : Kd.C k77 _ Ao6 x5_1.length x5_1 := (Kd.R_reads' HO_5.out).2.2
              have q050 : (0 : Int) ≤ (x7_2 : Int) := of_decide_eq_true Hd.a_
              have hcut50 := cut_from (P := Try.prog) 61 77 .i64 Try.underlying61 hi050 4 hsz50 Ao6 x5_1.length co6 x7_2 q050 q50
              have hr50 := Kd.C_drop (m := (x7_2 : Int).toNat) (c := co6) hC50 (by omega) hroom50
              obtain ⟨A50, hA50⟩ : ∃ A1, A1 = (if co6 = (x7_2 : Int).toNat then Ao6 else (Ao6 : Option Addr).map (·.add ((x7_2 : Int).toNat * 4))) := ⟨_, rfl⟩
              obtain ⟨c50, hc50⟩ : ∃ c1, c1 = co6 - (x7_2 : Int).toNat := ⟨_, rfl⟩
              have hy50 : y218.length = x5_1.length - (x7_2 : Int).toNat := (by rw [Ny218.out, List.length_drop] <;> omega)
              rw [show (x5_1).drop (x7_2 : Int).toNat = y218 from Ny218.out.symm] at hr50
              replace hr50 : Kd.C k77 _ A50 y218.length y218 := (by rw [hA50]; exact hr50)
              rw [← hy50, ← hA50, ← hc50] at hcut50
              have HR221 := Aside0.mk hr50
              have HC221 := Aside0.mk (show y218.length ≤ c50 from by rw [hy50, hc50]; exact Nat.sub_le_sub_right hroom50 _)
              clear hr50 hC50 hroom50 hi050 hsz50 hc50
              have KY50 := Aside0.mk hy50
              have KA50 := Aside0.mk hA50
              clear hy50 hA50
              have KL50 := Aside0.mk (show (x7_2 : Int).toNat ≤ x5_1.length from by omega)
              replace q50 := eq_true q50
              refine start_ (n := 16) (S := fun w' => w'.cell? (ad211.add ((x6_1).toNat * 4)) = some (.int .i64 ((rd_T77 l0 x6_1).f0)) ∧ w'.cell? ⟨(ad211.add ((x6_1).toNat * 4)).block, (ad211.add ((x6_1).toNat * 4)).off + 1, none⟩ = some (.int .i64 ((rd_T77 l0 x6_1).f1.f0)) ∧ w'.cell? ⟨(ad211.add ((x6_1).toNat * 4)).block, (ad211.add ((x6_1).toNat * 4)).off + 2, none⟩ = some (.int .i64 ((rd_T77 l0 x6_1).f1.f1)) ∧ w'.cell? ⟨(ad211.add ((x6_1).toNat * 4)).block, (ad211.add ((x6_1).toNat * 4)).off + 3, none⟩ = some (.int .i64 ((rd_T77 l0 x6_1).f2))) (ds := []) #[false, false, false, false, false, false, false, false, false, false, false, false, false, false, false, false] (by kernel_rfl) rfl rfl ⟨((HB.out.cell (World.block_lt_of_cell? w _ hw211_0)).trans hw211_0), ((HB.out.cell (World.block_lt_of_cell? w _ hw211_1)).trans hw211_1), ((HB.out.cell (World.block_lt_of_cell? w _ hw211_2)).trans hw211_2), ((HB.out.cell (World.block_lt_of_cell? w _ hw211_3)).trans hw211_3)⟩ (fun hHeld => ?_); refine with_tabW spec_l14Kept.tab8 spec_l14Kept.bits8 (fun HT_ HW_ => ?_)
              generalize w47.drew = w48 at HO_5 HB HR207 HR221 hx211_0 hx211_1 hx211_2 hx211_3 hHeld ⊢
              refine Hd.p_ HT_ 1 (some 38) #[false, true, false, false, false, false, false, false, false, false, false, false, false, false, false, false] ?_
              refine Hd.p_ HT_ 2 (some 39) #[false, true, true, false, false, false, false, false, false, false, false, false, false, false, false, false] ?_
              refine Hd.p_ HT_ 3 (some 40) #[false, true, true, true, false, false, false, false, false, false, false, false, false, false, false, false] ?_
              refine Hd.p_ HT_ 5 (some 42) #[false, true, true, true, false, true, false, false, false, false, false, false, false, false, false, false] ?_
              refine Hd.p_ HT_ 6 (some 43) #[false, true, true, true, false, true, true, false, false, false, false, false, false, false, false, false] ?_
              refine Hd.p_ HT_ 7 (some 44) #[false, true, true, true, false, true, true, true, false, false, false, false, false, false, false, false] ?_
              refine Hd.p_ HT_ 11 (some 48) #[false, true, true, true, false, true, true, true, false, false, false, true, false, false, false, false] ?_
              refine Hd.p_ HT_ 12 (some 49) #[false, true, true, true, false, true, true, true, false, false, false, true, true, false, false, false] ?_
              refine Hd.p_ HT_ 13 (some 50) #[false, true, true, true, false, true, true, true, false, false, false, true, true, true, false, false] ?_
              refine Hd.t_ HT_ HW_ hHeld 8 (some 45) #[false, true, true, true, false, true, true, true, true, false, false, true, true, true, false, false] ?_
              refine join_ (σ := Value × Value × Value) 3 #[true, true, true, true, true, true, true, true, true, true, false, true, true, true, false, false] (fun s_ => [(37, s_.1), (41, s_.2.1), (46, s_.2.2)]) (fun s_ w' => (w'.cell? (ad211.add ((x6_1).toNat * 4)) = some (.int .i64 ((rd_T77 l0 x6_1).f0)) ∧ w'.cell? ⟨(ad211.add ((x6_1).toNat * 4)).block, (ad211.add ((x6_1).toNat * 4)).off + 1, none⟩ = some (.int .i64 ((rd_T77 l0 x6_1).f1.f0)) ∧ w'.cell? ⟨(ad211.add ((x6_1).toNat * 4)).block, (ad211.add ((x6_1).toNat * 4)).off + 2, none⟩ = some (.int .i64 ((rd_T77 l0 x6_1).f1.f1)) ∧ w'.cell? ⟨(ad211.add ((x6_1).toNat * 4)).block, (ad211.add ((x6_1).toNat * 4)).off + 3, none⟩ = some (.int .i64 ((rd_T77 l0 x6_1).f2))) ∧ (Kd.R k77 77 w' w.heap.size (fun k_ => some k_ ≠ (s_.2.2 : Value).ownBlock ∧ some k_ ≠ (.slice Ao6 x5_1.length co6 : Value).ownBlock) s_.2.1 y208) ∧ (Kd.R k77 77 w' w.heap.size (fun k_ => some k_ ≠ (s_.2.1 : Value).ownBlock ∧ some k_ ≠ (.slice Ao6 x5_1.length co6 : Value).ownBlock) s_.2.2 y212) ∧ (Kd.R k77 77 w' w.heap.size (fun k_ => some k_ ≠ (s_.2.1 : Value).ownBlock ∧ some k_ ≠ (s_.2.2 : Value).ownBlock) (.slice Ao6 x5_1.length co6) x5_1) ∧ (Below w.heap.size w w')) ?_ ?_
              rotate_left
              ·
               intro hCont
               refine two_ (i := 0) (j := 9) (Ni := some 37) (Nj := some 46) #[true, true, true, true, false, true, true, true, true, false, false, true, true, true, false, false] #[false, true, true, true, false, true, true, true, true, true, false, true, true, true, false, false] rfl rfl rfl rfl (two_of HT_.out (by kernel_rfl)) (by decide) (by decide) (fun K hK => ?_) (fun K hK => ?_)
               ·
                skip
                refine Kd.R_lit_step k77 _ 77 ?hg (N := 37) ?hd (xs := ([] : List (S77))) (inner := []) (ok := fun _ => True) (okp := fun _ => True) ?hr ?hp (fun _ hk => hk) trivial (Below.refl _ _) (Nat.le_refl _) (by simp) ?_; (case hd => rfl); (case hg => rfl); (case hr => first | (go_simp; done) | (go_simp; rfl)); (case hp => exact (Reps.none _ _))
                intro v202 w51 ho52 hb hg_ hnew_
                clear hg_ hnew_
                (first | rw [← Ny201.out] at ho52 | (simp only [Int.reduceToNat] at ho52; rw [← Ny201.out] at ho52))
                have HO203 := Aside0.mk (Kd.R_lower (Kd.R_new' ho52 (Kd.R_lt (Hd.r_ HO_5))) (below_size Hd.b_))
                replace HO_5 := Aside0.mk (Kd.R_elder' (Hd.r_ HO_5) (Kd.R_base ho52) hb)
                replace HR207 := Aside0.mk (Kd.C_below (by repeat (first | (with_reducible exact HR207.out) | (with_reducible refine Kd.C_alloc ?_ _) | (with_reducible refine Kd.C_drewN ?_ _) | (with_reducible refine Kd.C_drew ?_) | exact HR207.out)) hb)
                replace HR221 := Aside0.mk (Kd.C_below (by repeat (first | (with_reducible exact HR221.out) | (with_reducible refine Kd.C_alloc ?_ _) | (with_reducible refine Kd.C_drewN ?_ _) | (with_reducible refine Kd.C_drew ?_) | exact HR221.out)) hb)
                replace HB := Aside0.mk (below_step Hd.b_ hb)
                clear hb ho52
                refine hK.out _ _ ⟨((HB.out.cell (World.block_lt_of_cell? w _ hw211_0)).trans hw211_0), ((HB.out.cell (World.block_lt_of_cell? w _ hw211_1)).trans hw211_1), ((HB.out.cell (World.block_lt_of_cell? w _ hw211_2)).trans hw211_2), ((HB.out.cell (World.block_lt_of_cell? w _ hw211_3)).trans hw211_3)⟩ (fun hHeld => ?_)
                clear hK K
                refine Hd.n_ (some 37) ?_
                refine two_ (i := 4) (j := 9) (Ni := some 41) (Nj := some 46) #[true, true, true, true, true, true, true, true, true, false, false, true, true, true, false, false] #[true, true, true, true, false, true, true, true, true, true, false, true, true, true, false, false] rfl rfl rfl rfl (two_of HT_.out (by kernel_rfl)) (by decide) (by decide) (fun K hK => ?_) (fun K hK => ?_)
                ·
                 skip
                 refine Kd.R_append_rows_step k77 (w0 := w) w.heap.size (by rfl) (.tmp 37) (.tmp 40) 61 77 (.agg #[(.int .i64 0), (.int .i64 0), (.int .i64 0), (.int .i64 0)]) 32 rfl Try.underlying61 info77 rfl (by decide) (by omega) v202 y201 y204 _ _ _ (fun k_ => some k_ ≠ (.slice Ao6 x5_1.length co6 : Value).ownBlock) (fun _ => False) rfl rfl ?aO ?aR (fun _ _ h => h) (fun _ h => h.elim) ?aF ?aB ?aS ?aL ?_
                 (case aR => repeat (first | exact (by repeat (first | (with_reducible exact HR207.out) | (with_reducible refine Kd.C_alloc ?_ _) | (with_reducible refine Kd.C_drewN ?_ _) | (with_reducible refine Kd.C_drew ?_) | exact HR207.out)) | (with_reducible refine Kd.C_alloc ?_ _) | (with_reducible refine Kd.C_drewN ?_ _) | (with_reducible refine Kd.C_drew ?_)))
                 (case aB => exact Hd.b_)
                 (case aF => exact (fun k_ hk => Kd.fresh' (Kd.R_lt (Hd.r_ HO_5)) k_ hk))
                 (case aO => exact (by (with_reducible repeat (first | apply Kd.R_alloc | apply Kd.R_drewN | apply Kd.R_drew)); exact Kd.R_mono HO203.out (fun _ hk => hk.2)))
                 (case aS => exact (below_size Hd.b_))
                 (case aL => have := LMc40.out; omega)
                 intro v209 w53 ho hb hg hat
                 rw [← Ny208.out] at ho
                 have n0_ := Aside0.mk (Kd.R_after (ok := (fun _ => True)) (Hd.r_ HO_5) hg hat)
                 have n1_ := Aside0.mk (hb)
                 have n2_ := Aside0.mk ((show Kd.C k77 w53 Ao6 y204.length y204 from by rw [Ny204.out]; exact Kd.C_take (m := (x7_2 : Int).toNat) ((Kd.R_reads' (Kd.R_after (ok := (fun _ => True)) (Hd.r_ HO_5) hg hat)).2.2) KL49.out))
                 have n3_ := Aside0.mk ((show Kd.C k77 w53 A50 y218.length y218 from by rw [Ny218.out, KA50.out]; exact Kd.C_drop (m := (x7_2 : Int).toNat) (c := co6) ((Kd.R_reads' (Kd.R_after (ok := (fun _ => True)) (Hd.r_ HO_5) hg hat)).2.2) KL50.out ((Kd.R_reads' (Kd.R_after (ok := (fun _ => True)) (Hd.r_ HO_5) hg hat)).2.1)))
                 have n4_ := Aside0.mk (ho)
                 clear HO_5
                 clear HB
                 clear HR207
                 clear HR221
                 clear HO203
                 have HO_5 := n0_
                 have HB := n1_
                 have HR207 := n2_
                 have HR221 := n3_
                 have HO210 := n4_
                 clear n0_ n1_ n2_ n3_ n4_
                 clear ho hb hg hat
                 refine hK.out _ _ ⟨((HB.out.cell (World.block_lt_of_cell? w _ hw211_0)).trans hw211_0), ((HB.out.cell (World.block_lt_of_cell? w _ hw211_1)).trans hw211_1), ((HB.out.cell (World.block_lt_of_cell? w _ hw211_2)).trans hw211_2), ((HB.out.cell (World.block_lt_of_cell? w _ hw211_3)).trans hw211_3)⟩ (fun hHeld => ?_)
                 clear hK K
                 refine Hd.n_ (some 41) ?_
                 refine Hd.o_ HT_ 9 (some 46) #[true, true, true, true, true, true, true, true, true, true, false, true, true, true, false, false] (fun K hK => ?_)
                 refine Kd.R_lit_step k77 _ 77 ?hg (N := 46) ?hd (xs := ([(⟨(rd_T77 l0 x6_1).f0, (⟨(rd_T77 l0 x6_1).f1.f0, (rd_T77 l0 x6_1).f1.f1⟩ : S75), (rd_T77 l0 x6_1).f2⟩ : S77)] : List (S77))) (inner := [.int .i64 ((rd_T77 l0 x6_1).f0), .int .i64 ((rd_T77 l0 x6_1).f1.f0), .int .i64 ((rd_T77 l0 x6_1).f1.f1), .int .i64 ((rd_T77 l0 x6_1).f2)]) (ok := fun _ => True) (okp := fun _ => True) ?hr ?hp (fun _ hk => hk) trivial (Below.refl _ _) (Nat.le_refl _) (by simp) ?_; (case hd => rfl); (case hg => rfl); (case hr => first | (go_simp; done) | (go_simp; rfl)); (case hp => exact (Reps.c4 (show Kd.M k77 _ _ _ (⟨(rd_T77 l0 x6_1).f0, (⟨(rd_T77 l0 x6_1).f1.f0, (rd_T77 l0 x6_1).f1.f1⟩ : S75), (rd_T77 l0 x6_1).f2⟩ : S77) [.int .i64 ((rd_T77 l0 x6_1).f0), .int .i64 ((rd_T77 l0 x6_1).f1.f0), .int .i64 ((rd_T77 l0 x6_1).f1.f1), .int .i64 ((rd_T77 l0 x6_1).f2)] from (k77_mkM _ _ _ (⟨(rd_T77 l0 x6_1).f0, (⟨(rd_T77 l0 x6_1).f1.f0, (rd_T77 l0 x6_1).f1.f1⟩ : S75), (rd_T77 l0 x6_1).f2⟩ : S77) )) (Reps.none _ _)))
                 intro v213 w54 ho55 hb hg_ hnew_
                 clear hg_ hnew_
                 (first | rw [← Ny212.out] at ho55 | (simp only [Int.reduceToNat] at ho55; rw [← Ny212.out] at ho55))
                 have HO214 := Aside0.mk (Kd.R_lower (Kd.R_new' (Kd.R_new' ho55 (Kd.R_lt (Hd.r_ HO_5))) (Kd.R_lt (Hd.r_ HO210))) (below_size Hd.b_))
                 replace HO_5 := Aside0.mk (Kd.R_elder' (Hd.r_ HO_5) (Kd.R_base ho55) hb)
                 replace HO210 := Aside0.mk (Kd.R_elder' (Hd.r_ HO210) (Kd.R_base ho55) hb)
                 replace HR207 := Aside0.mk (Kd.C_below (by repeat (first | (with_reducible exact HR207.out) | (with_reducible refine Kd.C_alloc ?_ _) | (with_reducible refine Kd.C_drewN ?_ _) | (with_reducible refine Kd.C_drew ?_) | exact HR207.out)) hb)
                 replace HR221 := Aside0.mk (Kd.C_below (by repeat (first | (with_reducible exact HR221.out) | (with_reducible refine Kd.C_alloc ?_ _) | (with_reducible refine Kd.C_drewN ?_ _) | (with_reducible refine Kd.C_drew ?_) | exact HR221.out)) hb)
                 replace HB := Aside0.mk (below_step Hd.b_ hb)
                 clear hb ho55
                 refine hK.out _ _ ⟨((HB.out.cell (World.block_lt_of_cell? w _ hw211_0)).trans hw211_0), ((HB.out.cell (World.block_lt_of_cell? w _ hw211_1)).trans hw211_1), ((HB.out.cell (World.block_lt_of_cell? w _ hw211_2)).trans hw211_2), ((HB.out.cell (World.block_lt_of_cell? w _ hw211_3)).trans hw211_3)⟩ (fun hHeld => ?_)
                 clear hK K
                 refine Hd.n_ (some 46) ?_
                 exact norm_ (by simp only [putAll, Act.put, List.setIfInBounds_toArray, List.set_cons_zero, List.set_cons_succ]) (hCont (v202, v209, v213) _ ⟨hHeld, (by (with_reducible repeat (first | apply Kd.R_alloc | apply Kd.R_drewN | apply Kd.R_drew)); exact Kd.R_mono HO210.out (fun _ hk => ⟨hk.2, hk.1⟩)), (by (with_reducible repeat (first | apply Kd.R_alloc | apply Kd.R_drewN | apply Kd.R_drew)); exact Kd.R_mono HO214.out (fun _ hk => ⟨hk.2, hk.1.2⟩)), (by (with_reducible repeat (first | apply Kd.R_alloc | apply Kd.R_drewN | apply Kd.R_drew)); exact Kd.R_mono HO_5.out (fun _ hk => ⟨hk.1.2, hk.2⟩)), Hd.b_⟩)
                ·
                 skip
                 refine Kd.R_lit_step k77 _ 77 ?hg (N := 46) ?hd (xs := ([(⟨(rd_T77 l0 x6_1).f0, (⟨(rd_T77 l0 x6_1).f1.f0, (rd_T77 l0 x6_1).f1.f1⟩ : S75), (rd_T77 l0 x6_1).f2⟩ : S77)] : List (S77))) (inner := [.int .i64 ((rd_T77 l0 x6_1).f0), .int .i64 ((rd_T77 l0 x6_1).f1.f0), .int .i64 ((rd_T77 l0 x6_1).f1.f1), .int .i64 ((rd_T77 l0 x6_1).f2)]) (ok := fun _ => True) (okp := fun _ => True) ?hr ?hp (fun _ hk => hk) trivial (Below.refl _ _) (Nat.le_refl _) (by simp) ?_; (case hd => rfl); (case hg => rfl); (case hr => first | (go_simp; done) | (go_simp; rfl)); (case hp => exact (Reps.c4 (show Kd.M k77 _ _ _ (⟨(rd_T77 l0 x6_1).f0, (⟨(rd_T77 l0 x6_1).f1.f0, (rd_T77 l0 x6_1).f1.f1⟩ : S75), (rd_T77 l0 x6_1).f2⟩ : S77) [.int .i64 ((rd_T77 l0 x6_1).f0), .int .i64 ((rd_T77 l0 x6_1).f1.f0), .int .i64 ((rd_T77 l0 x6_1).f1.f1), .int .i64 ((rd_T77 l0 x6_1).f2)] from (k77_mkM _ _ _ (⟨(rd_T77 l0 x6_1).f0, (⟨(rd_T77 l0 x6_1).f1.f0, (rd_T77 l0 x6_1).f1.f1⟩ : S75), (rd_T77 l0 x6_1).f2⟩ : S77) )) (Reps.none _ _)))
                 intro v213 w53 ho54 hb hg_ hnew_
                 clear hg_ hnew_
                 (first | rw [← Ny212.out] at ho54 | (simp only [Int.reduceToNat] at ho54; rw [← Ny212.out] at ho54))
                 have HO214 := Aside0.mk (Kd.R_lower (Kd.R_new' (Kd.R_new' ho54 (Kd.R_lt (Hd.r_ HO_5))) (Kd.R_lt (Hd.r_ HO203))) (below_size Hd.b_))
                 replace HO_5 := Aside0.mk (Kd.R_elder' (Hd.r_ HO_5) (Kd.R_base ho54) hb)
                 replace HO203 := Aside0.mk (Kd.R_elder' (Hd.r_ HO203) (Kd.R_base ho54) hb)
                 replace HR207 := Aside0.mk (Kd.C_below (by repeat (first | (with_reducible exact HR207.out) | (with_reducible refine Kd.C_alloc ?_ _) | (with_reducible refine Kd.C_drewN ?_ _) | (with_reducible refine Kd.C_drew ?_) | exact HR207.out)) hb)
                 replace HR221 := Aside0.mk (Kd.C_below (by repeat (first | (with_reducible exact HR221.out) | (with_reducible refine Kd.C_alloc ?_ _) | (with_reducible refine Kd.C_drewN ?_ _) | (with_reducible refine Kd.C_drew ?_) | exact HR221.out)) hb)
                 replace HB := Aside0.mk (below_step Hd.b_ hb)
                 clear hb ho54
                 refine hK.out _ _ ⟨((HB.out.cell (World.block_lt_of_cell? w _ hw211_0)).trans hw211_0), ((HB.out.cell (World.block_lt_of_cell? w _ hw211_1)).trans hw211_1), ((HB.out.cell (World.block_lt_of_cell? w _ hw211_2)).trans hw211_2), ((HB.out.cell (World.block_lt_of_cell? w _ hw211_3)).trans hw211_3)⟩ (fun hHeld => ?_)
                 clear hK K
                 refine Hd.n_ (some 46) ?_
                 refine Hd.o_ HT_ 4 (some 41) #[true, true, true, true, true, true, true, true, true, true, false, true, true, true, false, false] (fun K hK => ?_)
                 refine Kd.R_append_rows_step k77 (w0 := w) w.heap.size (by rfl) (.tmp 37) (.tmp 40) 61 77 (.agg #[(.int .i64 0), (.int .i64 0), (.int .i64 0), (.int .i64 0)]) 32 rfl Try.underlying61 info77 rfl (by decide) (by omega) v202 y201 y204 _ _ _ (fun k_ => some k_ ≠ (.slice Ao6 x5_1.length co6 : Value).ownBlock ∧ some k_ ≠ (v213 : Value).ownBlock) (fun _ => False) rfl rfl ?aO ?aR (fun _ _ h => h) (fun _ h => h.elim) ?aF ?aB ?aS ?aL ?_
                 (case aR => repeat (first | exact (by repeat (first | (with_reducible exact HR207.out) | (with_reducible refine Kd.C_alloc ?_ _) | (with_reducible refine Kd.C_drewN ?_ _) | (with_reducible refine Kd.C_drew ?_) | exact HR207.out)) | (with_reducible refine Kd.C_alloc ?_ _) | (with_reducible refine Kd.C_drewN ?_ _) | (with_reducible refine Kd.C_drew ?_)))
                 (case aB => exact Hd.b_)
                 (case aF => exact (fun k_ hk => ⟨Kd.fresh' (Kd.R_lt (Hd.r_ HO_5)) k_ hk, Kd.fresh' (Kd.R_lt (Hd.r_ HO214)) k_ hk⟩))
                 (case aO => exact (by (with_reducible repeat (first | apply Kd.R_alloc | apply Kd.R_drewN | apply Kd.R_drew)); exact Kd.R_mono HO203.out (fun _ hk => ⟨hk.1.2, hk.2⟩)))
                 (case aS => exact (below_size Hd.b_))
                 (case aL => have := LMc40.out; omega)
                 intro v209 w55 ho hb hg hat
                 rw [← Ny208.out] at ho
                 have n0_ := Aside0.mk (Kd.R_after (ok := (fun k_ => some k_ ≠ (v213 : Value).ownBlock)) (by (with_reducible repeat (first | apply Kd.R_alloc | apply Kd.R_drewN | apply Kd.R_drew)); exact Kd.R_mono HO_5.out (fun _ hk => ⟨hk.2, hk.1.2⟩)) hg hat)
                 have n1_ := Aside0.mk (Kd.R_after (ok := (fun k_ => some k_ ≠ (.slice Ao6 x5_1.length co6 : Value).ownBlock)) (by (with_reducible repeat (first | apply Kd.R_alloc | apply Kd.R_drewN | apply Kd.R_drew)); exact Kd.R_mono HO214.out (fun _ hk => ⟨hk.1.2, hk.2⟩)) hg hat)
                 have n2_ := Aside0.mk (hb)
                 have n3_ := Aside0.mk ((show Kd.C k77 w55 Ao6 y204.length y204 from by rw [Ny204.out]; exact Kd.C_take (m := (x7_2 : Int).toNat) ((Kd.R_reads' (Kd.R_after (ok := (fun k_ => some k_ ≠ (v213 : Value).ownBlock)) (by (with_reducible repeat (first | apply Kd.R_alloc | apply Kd.R_drewN | apply Kd.R_drew)); exact Kd.R_mono HO_5.out (fun _ hk => ⟨hk.2, hk.1.2⟩)) hg hat)).2.2) KL49.out))
                 have n4_ := Aside0.mk ((show Kd.C k77 w55 A50 y218.length y218 from by rw [Ny218.out, KA50.out]; exact Kd.C_drop (m := (x7_2 : Int).toNat) (c := co6) ((Kd.R_reads' (Kd.R_after (ok := (fun k_ => some k_ ≠ (v213 : Value).ownBlock)) (by (with_reducible repeat (first | apply Kd.R_alloc | apply Kd.R_drewN | apply Kd.R_drew)); exact Kd.R_mono HO_5.out (fun _ hk => ⟨hk.2, hk.1.2⟩)) hg hat)).2.2) KL50.out ((Kd.R_reads' (Kd.R_after (ok := (fun k_ => some k_ ≠ (v213 : Value).ownBlock)) (by (with_reducible repeat (first | apply Kd.R_alloc | apply Kd.R_drewN | apply Kd.R_drew)); exact Kd.R_mono HO_5.out (fun _ hk => ⟨hk.2, hk.1.2⟩)) hg hat)).2.1)))
                 have n5_ := Aside0.mk (ho)
                 clear HO_5
                 clear HO214
                 clear HB
                 clear HR207
                 clear HR221
                 clear HO203
                 have HO_5 := n0_
                 have HO214 := n1_
                 have HB := n2_
                 have HR207 := n3_
                 have HR221 := n4_
                 have HO210 := n5_
                 clear n0_ n1_ n2_ n3_ n4_ n5_
                 clear ho hb hg hat
                 refine hK.out _ _ ⟨((HB.out.cell (World.block_lt_of_cell? w _ hw211_0)).trans hw211_0), ((HB.out.cell (World.block_lt_of_cell? w _ hw211_1)).trans hw211_1), ((HB.out.cell (World.block_lt_of_cell? w _ hw211_2)).trans hw211_2), ((HB.out.cell (World.block_lt_of_cell? w _ hw211_3)).trans hw211_3)⟩ (fun hHeld => ?_)
                 clear hK K
                 refine Hd.n_ (some 41) ?_
                 exact norm_ (by simp only [putAll, Act.put, List.setIfInBounds_toArray, List.set_cons_zero, List.set_cons_succ]) (hCont (v202, v209, v213) _ ⟨hHeld, (by (with_reducible repeat (first | apply Kd.R_alloc | apply Kd.R_drewN | apply Kd.R_drew)); exact Kd.R_mono HO210.out (fun _ hk => ⟨hk.2, hk.1⟩)), (by (with_reducible repeat (first | apply Kd.R_alloc | apply Kd.R_drewN | apply Kd.R_drew)); exact Kd.R_mono HO214.out (fun _ hk => ⟨hk.2, hk.1⟩)), (by (with_reducible repeat (first | apply Kd.R_alloc | apply Kd.R_drewN | apply Kd.R_drew)); exact Kd.R_mono HO_5.out (fun _ hk => ⟨hk.2, hk.1⟩)), Hd.b_⟩)
               ·
                skip
                refine Kd.R_lit_step k77 _ 77 ?hg (N := 46) ?hd (xs := ([(⟨(rd_T77 l0 x6_1).f0, (⟨(rd_T77 l0 x6_1).f1.f0, (rd_T77 l0 x6_1).f1.f1⟩ : S75), (rd_T77 l0 x6_1).f2⟩ : S77)] : List (S77))) (inner := [.int .i64 ((rd_T77 l0 x6_1).f0), .int .i64 ((rd_T77 l0 x6_1).f1.f0), .int .i64 ((rd_T77 l0 x6_1).f1.f1), .int .i64 ((rd_T77 l0 x6_1).f2)]) (ok := fun _ => True) (okp := fun _ => True) ?hr ?hp (fun _ hk => hk) trivial (Below.refl _ _) (Nat.le_refl _) (by simp) ?_; (case hd => rfl); (case hg => rfl); (case hr => first | (go_simp; done) | (go_simp; rfl)); (case hp => exact (Reps.c4 (show Kd.M k77 _ _ _ (⟨(rd_T77 l0 x6_1).f0, (⟨(rd_T77 l0 x6_1).f1.f0, (rd_T77 l0 x6_1).f1.f1⟩ : S75), (rd_T77 l0 x6_1).f2⟩ : S77) [.int .i64 ((rd_T77 l0 x6_1).f0), .int .i64 ((rd_T77 l0 x6_1).f1.f0), .int .i64 ((rd_T77 l0 x6_1).f1.f1), .int .i64 ((rd_T77 l0 x6_1).f2)] from (k77_mkM _ _ _ (⟨(rd_T77 l0 x6_1).f0, (⟨(rd_T77 l0 x6_1).f1.f0, (rd_T77 l0 x6_1).f1.f1⟩ : S75), (rd_T77 l0 x6_1).f2⟩ : S77) )) (Reps.none _ _)))
                intro v213 w51 ho52 hb hg_ hnew_
                clear hg_ hnew_
                (first | rw [← Ny212.out] at ho52 | (simp only [Int.reduceToNat] at ho52; rw [← Ny212.out] at ho52))
                have HO214 := Aside0.mk (Kd.R_lower (Kd.R_new' ho52 (Kd.R_lt (Hd.r_ HO_5))) (below_size Hd.b_))
                replace HO_5 := Aside0.mk (Kd.R_elder' (Hd.r_ HO_5) (Kd.R_base ho52) hb)
                replace HR207 := Aside0.mk (Kd.C_below (by repeat (first | (with_reducible exact HR207.out) | (with_reducible refine Kd.C_alloc ?_ _) | (with_reducible refine Kd.C_drewN ?_ _) | (with_reducible refine Kd.C_drew ?_) | exact HR207.out)) hb)
                replace HR221 := Aside0.mk (Kd.C_below (by repeat (first | (with_reducible exact HR221.out) | (with_reducible refine Kd.C_alloc ?_ _) | (with_reducible refine Kd.C_drewN ?_ _) | (with_reducible refine Kd.C_drew ?_) | exact HR221.out)) hb)
                replace HB := Aside0.mk (below_step Hd.b_ hb)
                clear hb ho52
                refine hK.out _ _ ⟨((HB.out.cell (World.block_lt_of_cell? w _ hw211_0)).trans hw211_0), ((HB.out.cell (World.block_lt_of_cell? w _ hw211_1)).trans hw211_1), ((HB.out.cell (World.block_lt_of_cell? w _ hw211_2)).trans hw211_2), ((HB.out.cell (World.block_lt_of_cell? w _ hw211_3)).trans hw211_3)⟩ (fun hHeld => ?_)
                clear hK K
                refine Hd.n_ (some 46) ?_
                refine Hd.o_ HT_ 0 (some 37) #[true, true, true, true, false, true, true, true, true, true, false, true, true, true, false, false] (fun K hK => ?_)
                refine Kd.R_lit_step k77 _ 77 ?hg (N := 37) ?hd (xs := ([] : List (S77))) (inner := []) (ok := fun _ => True) (okp := fun _ => True) ?hr ?hp (fun _ hk => hk) trivial (Below.refl _ _) (Nat.le_refl _) (by simp) ?_; (case hd => rfl); (case hg => rfl); (case hr => first | (go_simp; done) | (go_simp; rfl)); (case hp => exact (Reps.none _ _))
                intro v202 w53 ho54 hb hg_ hnew_
                clear hg_ hnew_
                (first | rw [← Ny201.out] at ho54 | (simp only [Int.reduceToNat] at ho54; rw [← Ny201.out] at ho54))
                have HO203 := Aside0.mk (Kd.R_lower (Kd.R_new' (Kd.R_new' ho54 (Kd.R_lt (Hd.r_ HO_5))) (Kd.R_lt (Hd.r_ HO214))) (below_size Hd.b_))
                replace HO_5 := Aside0.mk (Kd.R_elder' (Hd.r_ HO_5) (Kd.R_base ho54) hb)
                replace HO214 := Aside0.mk (Kd.R_elder' (Hd.r_ HO214) (Kd.R_base ho54) hb)
                replace HR207 := Aside0.mk (Kd.C_below (by repeat (first | (with_reducible exact HR207.out) | (with_reducible refine Kd.C_alloc ?_ _) | (with_reducible refine Kd.C_drewN ?_ _) | (with_reducible refine Kd.C_drew ?_) | exact HR207.out)) hb)
                replace HR221 := Aside0.mk (Kd.C_below (by repeat (first | (with_reducible exact HR221.out) | (with_reducible refine Kd.C_alloc ?_ _) | (with_reducible refine Kd.C_drewN ?_ _) | (with_reducible refine Kd.C_drew ?_) | exact HR221.out)) hb)
                replace HB := Aside0.mk (below_step Hd.b_ hb)
                clear hb ho54
                refine hK.out _ _ ⟨((HB.out.cell (World.block_lt_of_cell? w _ hw211_0)).trans hw211_0), ((HB.out.cell (World.block_lt_of_cell? w _ hw211_1)).trans hw211_1), ((HB.out.cell (World.block_lt_of_cell? w _ hw211_2)).trans hw211_2), ((HB.out.cell (World.block_lt_of_cell? w _ hw211_3)).trans hw211_3)⟩ (fun hHeld => ?_)
                clear hK K
                refine Hd.n_ (some 37) ?_
                refine Hd.o_ HT_ 4 (some 41) #[true, true, true, true, true, true, true, true, true, true, false, true, true, true, false, false] (fun K hK => ?_)
                refine Kd.R_append_rows_step k77 (w0 := w) w.heap.size (by rfl) (.tmp 37) (.tmp 40) 61 77 (.agg #[(.int .i64 0), (.int .i64 0), (.int .i64 0), (.int .i64 0)]) 32 rfl Try.underlying61 info77 rfl (by decide) (by omega) v202 y201 y204 _ _ _ (fun k_ => some k_ ≠ (.slice Ao6 x5_1.length co6 : Value).ownBlock ∧ some k_ ≠ (v213 : Value).ownBlock) (fun _ => False) rfl rfl ?aO ?aR (fun _ _ h => h) (fun _ h => h.elim) ?aF ?aB ?aS ?aL ?_
                (case aR => repeat (first | exact (by repeat (first | (with_reducible exact HR207.out) | (with_reducible refine Kd.C_alloc ?_ _) | (with_reducible refine Kd.C_drewN ?_ _) | (with_reducible refine Kd.C_drew ?_) | exact HR207.out)) | (with_reducible refine Kd.C_alloc ?_ _) | (with_reducible refine Kd.C_drewN ?_ _) | (with_reducible refine Kd.C_drew ?_)))
                (case aB => exact Hd.b_)
                (case aF => exact (fun k_ hk => ⟨Kd.fresh' (Kd.R_lt (Hd.r_ HO_5)) k_ hk, Kd.fresh' (Kd.R_lt (Hd.r_ HO214)) k_ hk⟩))
                (case aO => exact (by (with_reducible repeat (first | apply Kd.R_alloc | apply Kd.R_drewN | apply Kd.R_drew)); exact Kd.R_mono HO203.out (fun _ hk => ⟨hk.1.2, hk.2⟩)))
                (case aS => exact (below_size Hd.b_))
                (case aL => have := LMc40.out; omega)
                intro v209 w55 ho hb hg hat
                rw [← Ny208.out] at ho
                have n0_ := Aside0.mk (Kd.R_after (ok := (fun k_ => some k_ ≠ (v213 : Value).ownBlock)) (by (with_reducible repeat (first | apply Kd.R_alloc | apply Kd.R_drewN | apply Kd.R_drew)); exact Kd.R_mono HO_5.out (fun _ hk => ⟨hk.1.2, hk.2⟩)) hg hat)
                have n1_ := Aside0.mk (Kd.R_after (ok := (fun k_ => some k_ ≠ (.slice Ao6 x5_1.length co6 : Value).ownBlock)) (by (with_reducible repeat (first | apply Kd.R_alloc | apply Kd.R_drewN | apply Kd.R_drew)); exact Kd.R_mono HO214.out (fun _ hk => ⟨hk.1.2, hk.2⟩)) hg hat)
                have n2_ := Aside0.mk (hb)
                have n3_ := Aside0.mk ((show Kd.C k77 w55 Ao6 y204.length y204 from by rw [Ny204.out]; exact Kd.C_take (m := (x7_2 : Int).toNat) ((Kd.R_reads' (Kd.R_after (ok := (fun k_ => some k_ ≠ (v213 : Value).ownBlock)) (by (with_reducible repeat (first | apply Kd.R_alloc | apply Kd.R_drewN | apply Kd.R_drew)); exact Kd.R_mono HO_5.out (fun _ hk => ⟨hk.1.2, hk.2⟩)) hg hat)).2.2) KL49.out))
                have n4_ := Aside0.mk ((show Kd.C k77 w55 A50 y218.length y218 from by rw [Ny218.out, KA50.out]; exact Kd.C_drop (m := (x7_2 : Int).toNat) (c := co6) ((Kd.R_reads' (Kd.R_after (ok := (fun k_ => some k_ ≠ (v213 : Value).ownBlock)) (by (with_reducible repeat (first | apply Kd.R_alloc | apply Kd.R_drewN | apply Kd.R_drew)); exact Kd.R_mono HO_5.out (fun _ hk => ⟨hk.1.2, hk.2⟩)) hg hat)).2.2) KL50.out ((Kd.R_reads' (Kd.R_after (ok := (fun k_ => some k_ ≠ (v213 : Value).ownBlock)) (by (with_reducible repeat (first | apply Kd.R_alloc | apply Kd.R_drewN | apply Kd.R_drew)); exact Kd.R_mono HO_5.out (fun _ hk => ⟨hk.1.2, hk.2⟩)) hg hat)).2.1)))
                have n5_ := Aside0.mk (ho)
                clear HO_5
                clear HO214
                clear HB
                clear HR207
                clear HR221
                clear HO203
                have HO_5 := n0_
                have HO214 := n1_
                have HB := n2_
                have HR207 := n3_
                have HR221 := n4_
                have HO210 := n5_
                clear n0_ n1_ n2_ n3_ n4_ n5_
                clear ho hb hg hat
                refine hK.out _ _ ⟨((HB.out.cell (World.block_lt_of_cell? w _ hw211_0)).trans hw211_0), ((HB.out.cell (World.block_lt_of_cell? w _ hw211_1)).trans hw211_1), ((HB.out.cell (World.block_lt_of_cell? w _ hw211_2)).trans hw211_2), ((HB.out.cell (World.block_lt_of_cell? w _ hw211_3)).trans hw211_3)⟩ (fun hHeld => ?_)
                clear hK K
                refine Hd.n_ (some 41) ?_
                exact norm_ (by simp only [putAll, Act.put, List.setIfInBounds_toArray, List.set_cons_zero, List.set_cons_succ]) (hCont (v202, v209, v213) _ ⟨hHeld, (by (with_reducible repeat (first | apply Kd.R_alloc | apply Kd.R_drewN | apply Kd.R_drew)); exact Kd.R_mono HO210.out (fun _ hk => ⟨hk.2, hk.1⟩)), (by (with_reducible repeat (first | apply Kd.R_alloc | apply Kd.R_drewN | apply Kd.R_drew)); exact Kd.R_mono HO214.out (fun _ hk => ⟨hk.2, hk.1⟩)), (by (with_reducible repeat (first | apply Kd.R_alloc | apply Kd.R_drewN | apply Kd.R_drew)); exact Kd.R_mono HO_5.out (fun _ hk => ⟨hk.2, hk.1⟩)), Hd.b_⟩)
              rintro ⟨v202, v209, v213⟩ w56 ⟨hS_, h0_, h1_, h2_, h3_⟩
              have n0_ : Aside0 (Kd.R k77 77 w56 w.heap.size (fun k_ => some k_ ≠ (v213 : Value).ownBlock ∧ some k_ ≠ (.slice Ao6 x5_1.length co6 : Value).ownBlock) v209 y208) := ⟨h0_⟩
              have n1_ : Aside0 (Kd.R k77 77 w56 w.heap.size (fun k_ => some k_ ≠ (v209 : Value).ownBlock ∧ some k_ ≠ (.slice Ao6 x5_1.length co6 : Value).ownBlock) v213 y212) := ⟨h1_⟩
              have n2_ : Aside0 (Kd.R k77 77 w56 w.heap.size (fun k_ => some k_ ≠ (v209 : Value).ownBlock ∧ some k_ ≠ (v213 : Value).ownBlock) (.slice Ao6 x5_1.length co6) x5_1) := ⟨h2_⟩
              have n3_ : Aside0 (Below w.heap.size w w56) := ⟨h3_⟩
              clear HO_5
              clear HB
              clear h0_ h1_ h2_ h3_
              have HO210 := n0_
              have HO214 := n1_
              have HO_5 := n2_
              have HB := n3_
              clear n0_ n1_ n2_ n3_
              have hHeld : w56.cell? (ad211.add ((x6_1).toNat * 4)) = some (.int .i64 ((rd_T77 l0 x6_1).f0)) ∧ w56.cell? ⟨(ad211.add ((x6_1).toNat * 4)).block, (ad211.add ((x6_1).toNat * 4)).off + 1, none⟩ = some (.int .i64 ((rd_T77 l0 x6_1).f1.f0)) ∧ w56.cell? ⟨(ad211.add ((x6_1).toNat * 4)).block, (ad211.add ((x6_1).toNat * 4)).off + 2, none⟩ = some (.int .i64 ((rd_T77 l0 x6_1).f1.f1)) ∧ w56.cell? ⟨(ad211.add ((x6_1).toNat * 4)).block, (ad211.add ((x6_1).toNat * 4)).off + 3, none⟩ = some (.int .i64 ((rd_T77 l0 x6_1).f2)) := hS_
              have n_ := Aside0.mk (show Kd.C k77 w56 Ao6 y204.length y204 from by rw [Ny204.out]; exact Kd.C_take (m := (x7_2 : Int).toNat) ((Kd.R_reads' (HO_5.out)).2.2) KL49.out)
              clear HR207
              have HR207 := n_
              clear n_
              have n_ := Aside0.mk (show Kd.C k77 w56 A50 y218.length y218 from by rw [Ny218.out, KA50.out]; exact Kd.C_drop (m := (x7_2 : Int).toNat) (c := co6) ((Kd.R_reads' (HO_5.out)).2.2) KL50.out ((Kd.R_reads' (HO_5.out)).2.1))
              clear HR221
              have HR221 := n_
              clear n_
              obtain ⟨Ao58, co58, eo58⟩ := Kd.R_slice HO214.out
              (first | subst eo58 | (injection eo58 with f1_ f2_ f3_; have f4_ := f1_.symm; have f5_ := f3_.symm; clear f1_ f2_ f3_; subst f4_; subst f5_))
              refine norm_ (a' := ?_) ?_ ?_
              rotate_left
              ·
               simp only [putAll, Act.put, List.setIfInBounds_toArray, List.set_cons_zero, List.set_cons_succ]
               rfl
              refine Hd.o_ HT_ 10 (some 47) #[true, true, true, true, true, true, true, true, true, true, true, true, true, true, false, false] (fun K hK => ?_)
              refine Kd.R_append_rows_step k77 (w0 := w) w.heap.size (by rfl) (.tmp 41) (.tmp 46) 61 77 (.agg #[(.int .i64 0), (.int .i64 0), (.int .i64 0), (.int .i64 0)]) 32 rfl Try.underlying61 info77 rfl (by decide) (by omega) v209 y208 y212 _ _ _ (fun k_ => some k_ ≠ (.slice Ao6 x5_1.length co6 : Value).ownBlock ∧ some k_ ≠ (.slice Ao58 y212.length co58 : Value).ownBlock) (fun _ => False) rfl rfl ?aO ?aR (fun _ _ h => h) (fun _ h => h.elim) ?aF ?aB ?aS ?aL ?_
              (case aR => repeat (first | exact (Kd.R_reads' HO214.out).2.2 | (with_reducible refine Kd.C_alloc ?_ _) | (with_reducible refine Kd.C_drewN ?_ _) | (with_reducible refine Kd.C_drew ?_)))
              (case aB => exact Hd.b_)
              (case aF => exact (fun k_ hk => ⟨Kd.fresh' (Kd.R_lt (Hd.r_ HO_5)) k_ hk, Kd.fresh' (Kd.R_lt (Hd.r_ HO214)) k_ hk⟩))
              (case aO => exact (by (with_reducible repeat (first | apply Kd.R_alloc | apply Kd.R_drewN | apply Kd.R_drew)); exact Kd.R_mono HO210.out (fun _ hk => ⟨hk.2, hk.1⟩)))
              (case aS => exact (below_size Hd.b_))
              (case aL => have := LMc43.out; omega)
              intro v216 w57 ho hb hg hat
              rw [← Ny215.out] at ho
              have n0_ := Aside0.mk (Kd.R_after (ok := (fun k_ => some k_ ≠ (.slice Ao58 y212.length co58 : Value).ownBlock)) (by (with_reducible repeat (first | apply Kd.R_alloc | apply Kd.R_drewN | apply Kd.R_drew)); exact Kd.R_mono HO_5.out (fun _ hk => ⟨hk.2, hk.1⟩)) hg hat)
              have n1_ := Aside0.mk (Kd.R_after (ok := (fun k_ => some k_ ≠ (.slice Ao6 x5_1.length co6 : Value).ownBlock)) (by (with_reducible repeat (first | apply Kd.R_alloc | apply Kd.R_drewN | apply Kd.R_drew)); exact Kd.R_mono HO214.out (fun _ hk => ⟨hk.2, hk.1⟩)) hg hat)
              have n2_ := Aside0.mk (hb)
              have n3_ := Aside0.mk ((show Kd.C k77 w57 Ao6 y204.length y204 from by rw [Ny204.out]; exact Kd.C_take (m := (x7_2 : Int).toNat) ((Kd.R_reads' (Kd.R_after (ok := (fun k_ => some k_ ≠ (.slice Ao58 y212.length co58 : Value).ownBlock)) (by (with_reducible repeat (first | apply Kd.R_alloc | apply Kd.R_drewN | apply Kd.R_drew)); exact Kd.R_mono HO_5.out (fun _ hk => ⟨hk.2, hk.1⟩)) hg hat)).2.2) KL49.out))
              have n4_ := Aside0.mk ((show Kd.C k77 w57 A50 y218.length y218 from by rw [Ny218.out, KA50.out]; exact Kd.C_drop (m := (x7_2 : Int).toNat) (c := co6) ((Kd.R_reads' (Kd.R_after (ok := (fun k_ => some k_ ≠ (.slice Ao58 y212.length co58 : Value).ownBlock)) (by (with_reducible repeat (first | apply Kd.R_alloc | apply Kd.R_drewN | apply Kd.R_drew)); exact Kd.R_mono HO_5.out (fun _ hk => ⟨hk.2, hk.1⟩)) hg hat)).2.2) KL50.out ((Kd.R_reads' (Kd.R_after (ok := (fun k_ => some k_ ≠ (.slice Ao58 y212.length co58 : Value).ownBlock)) (by (with_reducible repeat (first | apply Kd.R_alloc | apply Kd.R_drewN | apply Kd.R_drew)); exact Kd.R_mono HO_5.out (fun _ hk => ⟨hk.2, hk.1⟩)) hg hat)).2.1)))
              have n5_ := Aside0.mk (ho)
              clear HO_5
              clear HO214
              clear HB
              clear HR207
              clear HR221
              clear HO210
              have HO_5 := n0_
              have HO214 := n1_
              have HB := n2_
              have HR207 := n3_
              have HR221 := n4_
              have HO217 := n5_
              clear n0_ n1_ n2_ n3_ n4_ n5_
              clear ho hb hg hat
              refine hK.out _ _ ⟨((HB.out.cell (World.block_lt_of_cell? w _ hw211_0)).trans hw211_0), ((HB.out.cell (World.block_lt_of_cell? w _ hw211_1)).trans hw211_1), ((HB.out.cell (World.block_lt_of_cell? w _ hw211_2)).trans hw211_2), ((HB.out.cell (World.block_lt_of_cell? w _ hw211_3)).trans hw211_3)⟩ (fun hHeld => ?_)
              clear hK K
              refine Hd.n_ (some 47) ?_
              refine Hd.o_ HT_ 14 (some 51) #[true, true, true, true, true, true, true, true, true, true, true, true, true, true, true, false] (fun K hK => ?_)
              refine Kd.R_append_rows_step k77 (w0 := w) w.heap.size (by rfl) (.tmp 47) (.tmp 50) 61 77 (.agg #[(.int .i64 0), (.int .i64 0), (.int .i64 0), (.int .i64 0)]) 32 rfl Try.underlying61 info77 rfl (by decide) (by omega) v216 y215 y218 _ _ _ (fun k_ => some k_ ≠ (.slice Ao6 x5_1.length co6 : Value).ownBlock ∧ some k_ ≠ (.slice Ao58 y212.length co58 : Value).ownBlock) (fun _ => False) rfl rfl ?aO ?aR (fun _ _ h => h) (fun _ h => h.elim) ?aF ?aB ?aS ?aL ?_
              (case aR => repeat (first | exact (by repeat (first | (with_reducible exact HR221.out) | (with_reducible refine Kd.C_alloc ?_ _) | (with_reducible refine Kd.C_drewN ?_ _) | (with_reducible refine Kd.C_drew ?_) | exact HR221.out)) | (with_reducible refine Kd.C_alloc ?_ _) | (with_reducible refine Kd.C_drewN ?_ _) | (with_reducible refine Kd.C_drew ?_)))
              (case aB => exact Hd.b_)
              (case aF => exact (fun k_ hk => ⟨Kd.fresh' (Kd.R_lt (Hd.r_ HO_5)) k_ hk, Kd.fresh' (Kd.R_lt (Hd.r_ HO214)) k_ hk⟩))
              (case aO => exact (Hd.r_ HO217))
              (case aS => exact (below_size Hd.b_))
              (case aL => have := LMc46.out; omega)
              intro v223 w59 ho hb hg hat
              rw [← Ny222.out] at ho
              have n0_ := Aside0.mk (Kd.R_after (ok := (fun k_ => some k_ ≠ (.slice Ao58 y212.length co58 : Value).ownBlock)) (Hd.r_ HO_5) hg hat)
              have n1_ := Aside0.mk (Kd.R_after (ok := (fun k_ => some k_ ≠ (.slice Ao6 x5_1.length co6 : Value).ownBlock)) (Hd.r_ HO214) hg hat)
              have n2_ := Aside0.mk (hb)
              have n3_ := Aside0.mk ((show Kd.C k77 w59 Ao6 y204.length y204 from by rw [Ny204.out]; exact Kd.C_take (m := (x7_2 : Int).toNat) ((Kd.R_reads' (Kd.R_after (ok := (fun k_ => some k_ ≠ (.slice Ao58 y212.length co58 : Value).ownBlock)) (Hd.r_ HO_5) hg hat)).2.2) KL49.out))
              have n4_ := Aside0.mk ((show Kd.C k77 w59 A50 y218.length y218 from by rw [Ny218.out, KA50.out]; exact Kd.C_drop (m := (x7_2 : Int).toNat) (c := co6) ((Kd.R_reads' (Kd.R_after (ok := (fun k_ => some k_ ≠ (.slice Ao58 y212.length co58 : Value).ownBlock)) (Hd.r_ HO_5) hg hat)).2.2) KL50.out ((Kd.R_reads' (Kd.R_after (ok := (fun k_ => some k_ ≠ (.slice Ao58 y212.length co58 : Value).ownBlock)) (Hd.r_ HO_5) hg hat)).2.1)))
              have n5_ := Aside0.mk (ho)
              clear HO_5
              clear HO214
              clear HB
              clear HR207
              clear HR221
              clear HO217
              have HO_5 := n0_
              have HO214 := n1_
              have HB := n2_
              have HR207 := n3_
              have HR221 := n4_
              have HO224 := n5_
              clear n0_ n1_ n2_ n3_ n4_ n5_
              clear ho hb hg hat
              refine hK.out _ _ ⟨((HB.out.cell (World.block_lt_of_cell? w _ hw211_0)).trans hw211_0), ((HB.out.cell (World.block_lt_of_cell? w _ hw211_1)).trans hw211_1), ((HB.out.cell (World.block_lt_of_cell? w _ hw211_2)).trans hw211_2), ((HB.out.cell (World.block_lt_of_cell? w _ hw211_3)).trans hw211_3)⟩ (fun hHeld => ?_)
              clear hK K
              refine Hd.n_ (some 51) ?_
              refine Hd.p_ HT_ 15 (some 5) #[true, true, true, true, true, true, true, true, true, true, true, true, true, true, true, true] ?_
              refine done_ (done_of HT_.out (by kernel_rfl)) ?_
              try go_wp2
              go_roundg k2
              case measure => have := HK1.out; have := HK2.out; omega
              case rel => exact ⟨(y222), (wrap64 (x6_1 + 1)), (by first | rfl | (simp; done) | (simp [*]; done)), H', ⟨by have := HK1.out; have := HK2.out; omega⟩, ⟨by (with_reducible repeat (first | apply Kd.R_alloc | apply Kd.R_drewN | apply Kd.R_drew)); exact Kd.R_mono HO224.out (fun _ hk => trivial)⟩, ⟨Hd.b_⟩⟩
             ·
              rw [if_neg c46] at H
              exact absurd H (by simp)
            ·
             rw [if_neg c43] at H
             exact absurd H (by simp)
           ·
            rw [if_neg c42] at H
            exact absurd H (by simp)
          ·
           rw [if_neg c41] at H
           exact absurd H (by simp)
         ·
          rw [if_neg c40] at H
          exact absurd H (by simp)
        ·
         rw [if_neg c39] at H
         exact absurd H (by simp)
       ·
        rw [if_neg c38] at H
        exact absurd H (by simp)
   ·
    rw [if_neg c5] at H
    have c5b0 : decide (x6_1 < (l0.length : Int)) = false := decide_eq_false c5
    clear c5
    obtain ⟨y225, hy225⟩ : ∃ y_ : List (S77), y_ = (([] : List (S77))) := ⟨_, rfl⟩
    replace H : (spec_l14Kept.l2 k1 a1 x5_1 y225 0) = some r := by first | (rw [hy225]; with_reducible exact H) | (have H2_ := (Option.bind_some _ _).symm.trans H; rw [hy225]; with_reducible exact H2_) | (have H2_ := (Option.bind_some _ _).symm.trans H; with_reducible exact H2_) | with_reducible exact H | (rw [hy225]; exact H) | exact H
    have Ny225 := Aside0.mk hy225
    clear hy225
    have H' := Aside0.mk H
    clear H
    go_wp2_with (first | ((with_reducible refine gate_dst (N := 52) rfl ?_); refine Kd.R_lit k77 _ 77 ?hg (N := 52) ?hd (xs := ([] : List (S77))) (inner := []) (ok := fun _ => True) (okp := fun _ => True) ?hr ?hp (fun _ hk => hk) trivial (Below.refl _ _) (Nat.le_refl _) (by simp) ?_; (case hd => rfl); (case hg => rfl); (case hr => first | (go_simp; done) | (go_simp; rfl)); (case hp => exact (Reps.none _ _)); intro v226 w60 ho61 hb hg_ hnew_; clear hg_ hnew_; (first | rw [← Ny225.out] at ho61 | (simp only [Int.reduceToNat] at ho61; rw [← Ny225.out] at ho61)); have HO227 := Aside0.mk (Kd.R_lower (Kd.R_new' ho61 (Kd.R_lt (Hd.r_ HO_5))) (below_size Hd.b_)); replace HO_5 := Aside0.mk (Kd.R_elder' (Hd.r_ HO_5) (Kd.R_base ho61) hb); replace HB := Aside0.mk (below_step Hd.b_ hb); clear hb ho61))
    go_loopg [8, 9] k1 (fun kq v8 v9 w' => ∃ (x8_2 : List (S77)) (x9_2 : Int), v9 = .int .i64 x9_2 ∧ Aside0 (spec_l14Kept.l2 kq a1 x5_1 x8_2 x9_2 = some r) ∧ Aside0 (kq ≤ k1) ∧ Aside0 (Kd.R k77 77 w' w.heap.size (fun k_ => some k_ ≠ (v8 : Value).ownBlock) u5 x5_1) ∧ Aside0 (Kd.R k77 77 w' w.heap.size (fun k_ => some k_ ≠ (u5 : Value).ownBlock) v8 x8_2) ∧ Aside0 (Below w.heap.size w w'))
    case atStart => exact ⟨(y225), (0), (by first | rfl | (simp; done) | (simp [*]; done)), H', ⟨Nat.le_refl _⟩, ⟨by (with_reducible repeat (first | apply Kd.R_alloc | apply Kd.R_drewN | apply Kd.R_drew)); exact Kd.R_mono HO_5.out (fun _ hk => hk.2)⟩, ⟨by (with_reducible repeat (first | apply Kd.R_alloc | apply Kd.R_drewN | apply Kd.R_drew)); exact Kd.R_mono HO227.out (fun _ hk => hk.2)⟩, ⟨Hd.b_⟩⟩
    case round =>
     clear H'
     try clear c1
     try clear p2
     try clear q2
     try clear hx2
     try clear c3
     try clear c4
     try clear q4
     try clear c5
     try clear c5b0
     try clear q5
     try clear p6
     try clear p21
     try clear q21
     try clear hx21
     try clear c38
     try clear c39
     try clear c40
     try clear c41
     try clear c42
     try clear c43
     try clear c46
     try clear q49
     try clear c50
     try clear q50
     try clear hx211_0
     try clear hx211_1
     try clear hx211_2
     try clear hx211_3
     try clear p211
     try clear q050
     try clear q211
     try clear q49
     try clear q50
     obtain ⟨x8_2, x9_2, rfl, HA, HK2, HO_5, HO_8, HB⟩ := hrel
     cases gk with
     | zero => exact absurd HA.out (by simp [spec_l14Kept.l2])
     | succ k2 =>
      have H := HA.out
      clear HA
      simp only [spec_l14Kept.l2] at H
      by_cases c62 : x9_2 < (x5_1.length : Int)
      ·
       rw [if_pos c62] at H
       have c62b0 : decide (x9_2 < (x5_1.length : Int)) = true := decide_eq_true c62
       clear c62
       have H' := Aside0.mk H
       clear H
       obtain ⟨Ao63, co63, eo63⟩ := Kd.R_slice HO_5.out
       subst eo63
       go_wp2
       go_loopg [10, 11] k2 (fun kq v10 v11 w' => ∃ (x10_3 : Bool) (x11_3 : Int), v10 = .bool x10_3 ∧ v11 = .int .i64 x11_3 ∧ Aside0 (spec_l14Kept.l3 kq a1 x5_1 x8_2 x9_2 x10_3 x11_3 = some r) ∧ Aside0 (kq ≤ k2) ∧ Aside0 (Kd.R k77 77 w' w.heap.size (fun k_ => some k_ ≠ (u8 : Value).ownBlock) (.slice Ao63 x5_1.length co63) x5_1) ∧ Aside0 (Kd.R k77 77 w' w.heap.size (fun k_ => some k_ ≠ ((.slice Ao63 x5_1.length co63) : Value).ownBlock) u8 x8_2) ∧ Aside0 (Below w.heap.size w w'))
       case atStart => exact ⟨(true), (0), (by first | rfl | (simp; done) | (simp [*]; done)), (by first | rfl | (simp; done) | (simp [*]; done)), H', ⟨Nat.le_refl _⟩, ⟨by (with_reducible repeat (first | apply Kd.R_alloc | apply Kd.R_drewN | apply Kd.R_drew)); exact HO_5.out⟩, ⟨by (with_reducible repeat (first | apply Kd.R_alloc | apply Kd.R_drewN | apply Kd.R_drew)); exact HO_8.out⟩, ⟨Hd.b_⟩⟩
       case round =>
        clear H'
        try clear c1
        try clear p2
        try clear q2
        try clear hx2
        try clear c3
        try clear c4
        try clear q4
        try clear c5
        try clear c5b0
        try clear q5
        try clear c6
        try clear p6
        try clear p21
        try clear q21
        try clear hx21
        try clear c38
        try clear c39
        try clear c40
        try clear c41
        try clear c42
        try clear c43
        try clear c46
        try clear q49
        try clear c50
        try clear q50
        try clear c62
        try clear c62b0
        try clear hx211_0
        try clear hx211_1
        try clear hx211_2
        try clear hx211_3
        try clear p2
        try clear p21
        try clear p211
        try clear p6
        try clear q050
        try clear q2
        try clear q21
        try clear q211
        try clear q4
        try clear q49
        try clear q5
        try clear q50
        obtain ⟨x10_3, x11_3, rfl, rfl, HA, HK3, HO_5, HO_8, HB⟩ := hrel
        cases gk with
        | zero => exact absurd HA.out (by simp [spec_l14Kept.l3])
        | succ k3 =>
         have H := HA.out
         clear HA
         simp only [spec_l14Kept.l3] at H
         by_cases c64 : x11_3 < (x8_2.length : Int)
         ·
          rw [if_pos c64] at H
          have c64b0 : decide (x11_3 < (x8_2.length : Int)) = true := decide_eq_true c64
          clear c64
          by_cases c65 : x10_3 = true
          ·
           subst c65
           have H1 : (if 0 ≤ x11_3 then (if 0 ≤ x9_2 then (if x9_2 < (x5_1.length : Int) then ((spec_FarSquared.f ((rd_T77 x8_2 x11_3).f1.f0) ((rd_T77 x8_2 x11_3).f1.f1) ((rd_T77 x5_1 x9_2).f1.f0) ((rd_T77 x5_1 x9_2).f1.f1)).bind fun t230 => (spec_l14Kept.l3 k3 a1 x5_1 x8_2 x9_2 (decide (t230 ≥ (wrap64 (a1 * a1)))) (wrap64 (x11_3 + 1)))) else (none)) else (none)) else (none)) = some r := by rw [if_pos rfl] at H; exact H
           clear H
           have H := H1
           clear H1
           by_cases c66 : 0 ≤ x11_3
           ·
            rw [if_pos c66] at H
            have c66b0 : decide (0 ≤ x11_3) = true := decide_eq_true c66
            clear c66
            by_cases c67 : 0 ≤ x9_2
            ·
             rw [if_pos c67] at H
             have c67b0 : decide (0 ≤ x9_2) = true := decide_eq_true c67
             clear c67
             by_cases c68 : x9_2 < (x5_1.length : Int)
             ·
              rw [if_pos c68] at H
              have c68b0 : decide (x9_2 < (x5_1.length : Int)) = true := decide_eq_true c68
              clear c68
              replace H := Option.bind_eq_some_iff.mp H
              obtain ⟨t230, A690, H⟩ := H
              replace H : (spec_l14Kept.l3 k3 a1 x5_1 x8_2 x9_2 (decide (t230 ≥ (wrap64 (a1 * a1)))) (wrap64 (x11_3 + 1))) = some r := H
              have A69 := Aside0.mk A690
              clear A690
              have H' := Aside0.mk H
              clear H
              obtain ⟨Ao70, co70, eo70⟩ := Kd.R_slice HO_8.out
              subst eo70
              try go_wp2
              replace HO_5 := Aside0.mk (Kd.R_drew HO_5.out)
              replace HO_8 := Aside0.mk (Kd.R_drew HO_8.out)
              replace HB := Aside0.mk (below_drew1 HB.out)
              have p228 : 0 ≤ (x11_3 : Int) := of_decide_eq_true Hd.a_
              have q228 : x11_3 < (x8_2.length : Int) := of_decide_eq_true Hd.a_
              obtain ⟨ad228, e228, hx228_0, hx228_1, hx228_2, hx228_3⟩ := at_T77 (Kd.R_reads' HO_8.out).2.2 x11_3 p228 q228
              cases e228
              replace p228 := eq_true p228
              replace q228 := eq_true q228
              have p229 : 0 ≤ (x9_2 : Int) := of_decide_eq_true Hd.a_
              have q229 : x9_2 < (x5_1.length : Int) := of_decide_eq_true Hd.a_
              obtain ⟨ad229, e229, hx229_0, hx229_1, hx229_2, hx229_3⟩ := at_T77 (Kd.R_reads' HO_5.out).2.2 x9_2 p229 q229
              cases e229
              replace p229 := eq_true p229
              replace q229 := eq_true q229
              have s0_ := Hd.HW.x (W0 := wr.drew) hx228_0
              have s1_ := Hd.HW.x (W0 := wr.drew) hx228_1
              have s2_ := Hd.HW.x (W0 := wr.drew) hx228_2
              have s3_ := Hd.HW.x (W0 := wr.drew) hx228_3
              have s4_ := Hd.HW.x (W0 := wr.drew) hx229_0
              have s5_ := Hd.HW.x (W0 := wr.drew) hx229_1
              have s6_ := Hd.HW.x (W0 := wr.drew) hx229_2
              have s7_ := Hd.HW.x (W0 := wr.drew) hx229_3
              refine Hd.HW.region (by kernel_rfl) (by kernel_rfl) ?_
              repeat (go_big_quiet_step ((first | (go_at_call 86; with_reducible exact Hd.HW.c (spec_FarSquared.calls ((rd_T77 x8_2 x11_3).f1.f0) ((rd_T77 x8_2 x11_3).f1.f1) ((rd_T77 x5_1 x9_2).f1.f0) ((rd_T77 x5_1 x9_2).f1.f1) t230 _ A69.out)))))
              refine wpQuiet_nil ?_
              intro _ hq_
              obtain ⟨q_, rfl⟩ := hq_
              clear s0_ s1_ s2_ s3_ s4_ s5_ s6_ s7_
              replace HO_5 := Aside0.mk (Kd.R_below HO_5.out q_.b)
              replace HO_8 := Aside0.mk (Kd.R_below HO_8.out q_.b)
              replace HB := Aside0.mk (below_step HB.out q_.b)
              replace hx228_0 := q_.cell hx228_0
              replace hx228_1 := q_.cell hx228_1
              replace hx228_2 := q_.cell hx228_2
              replace hx228_3 := q_.cell hx228_3
              replace hx229_0 := q_.cell hx229_0
              replace hx229_1 := q_.cell hx229_1
              replace hx229_2 := q_.cell hx229_2
              replace hx229_3 := q_.cell hx229_3
              generalize q_.W = w72 at HO_5 HO_8 HB hx228_0 hx228_1 hx228_2 hx228_3 hx229_0 hx229_1 hx229_2 hx229_3 ⊢
              try simp only [i64_w, i32_w]
              try go_wp2
              go_roundg k3
              case measure => have := HK1.out; have := HK2.out; have := HK3.out; omega
              case rel => exact ⟨(decide (t230 ≥ (wrap64 (a1 * a1)))), (wrap64 (x11_3 + 1)), (by first | rfl | (simp; done) | (simp [*]; done)), (by first | rfl | (simp; done) | (simp [*]; done)), H', ⟨by have := HK1.out; have := HK2.out; have := HK3.out; omega⟩, ⟨by (with_reducible repeat (first | apply Kd.R_alloc | apply Kd.R_drewN | apply Kd.R_drew)); exact HO_5.out⟩, ⟨by (with_reducible repeat (first | apply Kd.R_alloc | apply Kd.R_drewN | apply Kd.R_drew)); exact HO_8.out⟩, ⟨Hd.b_⟩⟩
             ·
              rw [if_neg c68] at H
              exact absurd H (by simp)
            ·
             rw [if_neg c67] at H
             exact absurd H (by simp)
           ·
            rw [if_neg c66] at H
            exact absurd H (by simp)
          ·
           replace c65 := Bool.eq_false_iff.mpr c65
           subst c65
           have H1 : (spec_l14Kept.l3 k3 a1 x5_1 x8_2 x9_2 false (wrap64 (x11_3 + 1))) = some r := by rw [if_neg (show ¬ (false = true) by decide)] at H; exact H
           clear H
           have H := H1
           clear H1
           have H' := Aside0.mk H
           clear H
           obtain ⟨Ao73, co73, eo73⟩ := Kd.R_slice HO_8.out
           subst eo73
           try go_wp2
           replace HO_5 := Aside0.mk (Kd.R_drew HO_5.out)
           replace HO_8 := Aside0.mk (Kd.R_drew HO_8.out)
           replace HB := Aside0.mk (below_drew1 HB.out)
           refine Hd.HW.region (by kernel_rfl) (by kernel_rfl) ?_
           repeat (go_big_quiet_step (fail))
           refine wpQuiet_nil ?_
           intro _ hq_
           obtain ⟨q_, rfl⟩ := hq_
           replace HO_5 := Aside0.mk (Kd.R_below HO_5.out q_.b)
           replace HO_8 := Aside0.mk (Kd.R_below HO_8.out q_.b)
           replace HB := Aside0.mk (below_step HB.out q_.b)
           generalize q_.W = w74 at HO_5 HO_8 HB ⊢
           try simp only [i64_w, i32_w]
           try go_wp2
           go_roundg k3
           case measure => have := HK1.out; have := HK2.out; have := HK3.out; omega
           case rel => exact ⟨(false), (wrap64 (x11_3 + 1)), (by first | rfl | (simp; done) | (simp [*]; done)), (by first | rfl | (simp; done) | (simp [*]; done)), H', ⟨by have := HK1.out; have := HK2.out; have := HK3.out; omega⟩, ⟨by (with_reducible repeat (first | apply Kd.R_alloc | apply Kd.R_drewN | apply Kd.R_drew)); exact HO_5.out⟩, ⟨by (with_reducible repeat (first | apply Kd.R_alloc | apply Kd.R_drewN | apply Kd.R_drew)); exact HO_8.out⟩, ⟨Hd.b_⟩⟩
         ·
          rw [if_neg c64] at H
          have c64b0 : decide (x11_3 < (x8_2.length : Int)) = false := decide_eq_false c64
          clear c64
          by_cases c75 : x10_3 = true
          ·
           subst c75
           have H1 : (if 0 ≤ x9_2 then (if x9_2 < (x5_1.length : Int) then ((some (([(⟨(rd_T77 x5_1 x9_2).f0, (⟨(rd_T77 x5_1 x9_2).f1.f0, (rd_T77 x5_1 x9_2).f1.f1⟩ : S75), (rd_T77 x5_1 x9_2).f2⟩ : S77)] : List (S77)) : List (S77))).bind fun y232 => (if x8_2.length + y232.length < 4398046511104 then (spec_l14Kept.l2 k3 a1 x5_1 (x8_2 ++ y232) (wrap64 (x9_2 + 1))) else (none))) else (none)) else (none)) = some r := by rw [if_pos rfl] at H; exact H
           clear H
           have H := H1
           clear H1
           by_cases c76 : 0 ≤ x9_2
           ·
            rw [if_pos c76] at H
            have c76b0 : decide (0 ≤ x9_2) = true := decide_eq_true c76
            clear c76
            by_cases c77 : x9_2 < (x5_1.length : Int)
            ·
             rw [if_pos c77] at H
             have c77b0 : decide (x9_2 < (x5_1.length : Int)) = true := decide_eq_true c77
             clear c77
             obtain ⟨y232, hy232⟩ : ∃ y_ : List (S77), y_ = (([(⟨(rd_T77 x5_1 x9_2).f0, (⟨(rd_T77 x5_1 x9_2).f1.f0, (rd_T77 x5_1 x9_2).f1.f1⟩ : S75), (rd_T77 x5_1 x9_2).f2⟩ : S77)] : List (S77))) := ⟨_, rfl⟩
             replace H : (if x8_2.length + y232.length < 4398046511104 then (spec_l14Kept.l2 k3 a1 x5_1 (x8_2 ++ y232) (wrap64 (x9_2 + 1))) else (none)) = some r := by first | (rw [hy232]; with_reducible exact H) | (have H2_ := (Option.bind_some _ _).symm.trans H; rw [hy232]; with_reducible exact H2_) | (have H2_ := (Option.bind_some _ _).symm.trans H; with_reducible exact H2_) | with_reducible exact H | (rw [hy232]; exact H) | exact H
             have Ny232 := Aside0.mk hy232
             clear hy232
             by_cases c78 : x8_2.length + y232.length < 4398046511104
             ·
              rw [if_pos c78] at H
              have LMc78 := Aside0.mk c78
              clear c78
              obtain ⟨y235, hy235⟩ : ∃ y_ : List (S77), y_ = (x8_2 ++ y232) := ⟨_, rfl⟩
              replace H : (spec_l14Kept.l2 k3 a1 x5_1 y235 (wrap64 (x9_2 + 1))) = some r := by first | (rw [hy235]; with_reducible exact H) | (have H2_ := (Option.bind_some _ _).symm.trans H; rw [hy235]; with_reducible exact H2_) | (have H2_ := (Option.bind_some _ _).symm.trans H; with_reducible exact H2_) | with_reducible exact H | (rw [hy235]; exact H) | exact H
              have Ny235 := Aside0.mk hy235
              clear hy235
              have H' := Aside0.mk H
              clear H
              obtain ⟨Ao79, co79, eo79⟩ := Kd.R_slice HO_8.out
              subst eo79
              have p231 : 0 ≤ (x9_2 : Int) := of_decide_eq_true Hd.a_
              have q231 : x9_2 < (x5_1.length : Int) := of_decide_eq_true Hd.a_
              obtain ⟨ad231, e231, hx231_0, hx231_1, hx231_2, hx231_3⟩ := at_T77 (Kd.R_reads' HO_5.out).2.2 x9_2 p231 q231
              cases e231
              replace p231 := eq_true p231
              replace q231 := eq_true q231
              go_wp2_with (first | ((with_reducible refine gate_dst (N := 89) rfl ?_); refine Kd.R_lit k77 _ 77 ?hg (N := 89) ?hd (xs := ([(⟨(rd_T77 x5_1 x9_2).f0, (⟨(rd_T77 x5_1 x9_2).f1.f0, (rd_T77 x5_1 x9_2).f1.f1⟩ : S75), (rd_T77 x5_1 x9_2).f2⟩ : S77)] : List (S77))) (inner := [.int .i64 ((rd_T77 x5_1 x9_2).f0), .int .i64 ((rd_T77 x5_1 x9_2).f1.f0), .int .i64 ((rd_T77 x5_1 x9_2).f1.f1), .int .i64 ((rd_T77 x5_1 x9_2).f2)]) (ok := fun _ => True) (okp := fun _ => True) ?hr ?hp (fun _ hk => hk) trivial (Below.refl _ _) (Nat.le_refl _) (by simp) ?_; (case hd => rfl); (case hg => rfl); (case hr => first | (go_simp; done) | (go_simp; rfl)); (case hp => exact (Reps.c4 (show Kd.M k77 _ _ _ (⟨(rd_T77 x5_1 x9_2).f0, (⟨(rd_T77 x5_1 x9_2).f1.f0, (rd_T77 x5_1 x9_2).f1.f1⟩ : S75), (rd_T77 x5_1 x9_2).f2⟩ : S77) [.int .i64 ((rd_T77 x5_1 x9_2).f0), .int .i64 ((rd_T77 x5_1 x9_2).f1.f0), .int .i64 ((rd_T77 x5_1 x9_2).f1.f1), .int .i64 ((rd_T77 x5_1 x9_2).f2)] from (k77_mkM _ _ _ (⟨(rd_T77 x5_1 x9_2).f0, (⟨(rd_T77 x5_1 x9_2).f1.f0, (rd_T77 x5_1 x9_2).f1.f1⟩ : S75), (rd_T77 x5_1 x9_2).f2⟩ : S77) )) (Reps.none _ _))); intro v233 w80 ho81 hb hg_ hnew_; clear hg_ hnew_; (first | rw [← Ny232.out] at ho81 | (simp only [Int.reduceToNat] at ho81; rw [← Ny232.out] at ho81)); have HO234 := Aside0.mk (Kd.R_lower (Kd.R_new' (Kd.R_new' ho81 (Kd.R_lt (Hd.r_ HO_5))) (Kd.R_lt (Hd.r_ HO_8))) (below_size Hd.b_)); replace HO_5 := Aside0.mk (Kd.R_elder' (Hd.r_ HO_5) (Kd.R_base ho81) hb); replace HO_8 := Aside0.mk (Kd.R_elder' (Hd.r_ HO_8) (Kd.R_base ho81) hb); replace HB := Aside0.mk (below_step Hd.b_ hb); clear hb ho81; obtain ⟨Ao83, co83, eo83⟩ := Kd.R_slice HO234.out; subst eo83) | ((with_reducible refine gate_builtin (b := .append) (xs := #[.tmp 84, .tmp 89]) rfl ?_); at_builtin; refine Kd.R_append_rows k77 (w0 := w) w.heap.size rfl (.tmp 84) (.tmp 89) 61 77 (.agg #[(.int .i64 0), (.int .i64 0), (.int .i64 0), (.int .i64 0)]) 32 rfl Try.underlying61 info77 rfl (by decide) (by omega) (.slice Ao79 x8_2.length co79) x8_2 y232 _ _ _ (fun k_ => some k_ ≠ (.slice (some ad231) x5_1.length co63 : Value).ownBlock ∧ some k_ ≠ (.slice Ao83 y232.length co83 : Value).ownBlock) (fun _ => False) rfl rfl ?aO ?aR (fun _ _ h => h) (fun _ h => h.elim) ?aF ?aB ?aS ?aL ?_; (case aR => repeat (first | exact (Kd.R_reads' HO234.out).2.2 | (with_reducible refine Kd.C_alloc ?_ _) | (with_reducible refine Kd.C_drewN ?_ _) | (with_reducible refine Kd.C_drew ?_))); (case aB => exact Hd.b_); (case aF => exact (fun k_ hk => ⟨Kd.fresh' (Kd.R_lt (Hd.r_ HO_5)) k_ hk, Kd.fresh' (Kd.R_lt (Hd.r_ HO234)) k_ hk⟩)); (case aO => exact (Hd.r_ HO_8)); (case aS => exact (below_size Hd.b_)); (case aL => have := LMc78.out; omega); intro v236 w82 ho hb hg hat; rw [← Ny235.out] at ho; have n0_ := Aside0.mk (Kd.R_after (ok := (fun k_ => some k_ ≠ (.slice Ao83 y232.length co83 : Value).ownBlock)) (by (with_reducible repeat (first | apply Kd.R_alloc | apply Kd.R_drewN | apply Kd.R_drew)); exact Kd.R_mono HO_5.out (fun _ hk => ⟨hk.2, hk.1⟩)) hg hat); have n1_ := Aside0.mk (Kd.R_after (ok := (fun k_ => some k_ ≠ (.slice (some ad231) x5_1.length co63 : Value).ownBlock)) (by (with_reducible repeat (first | apply Kd.R_alloc | apply Kd.R_drewN | apply Kd.R_drew)); exact Kd.R_mono HO234.out (fun _ hk => ⟨hk.1.2, hk.2⟩)) hg hat); have n2_ := Aside0.mk (hb); have n3_ := Aside0.mk (ho); clear HO_5; clear HO234; clear HB; clear HO_8; have HO_5 := n0_; have HO234 := n1_; have HB := n2_; have HO237 := n3_; clear n0_ n1_ n2_ n3_; clear ho hb hg hat))
              go_roundg k3
              case measure => have := HK1.out; have := HK2.out; have := HK3.out; omega
              case rel => exact ⟨(y235), (wrap64 (x9_2 + 1)), (by first | rfl | (simp; done) | (simp [*]; done)), H', ⟨by have := HK1.out; have := HK2.out; have := HK3.out; omega⟩, ⟨by (with_reducible repeat (first | apply Kd.R_alloc | apply Kd.R_drewN | apply Kd.R_drew)); exact Kd.R_mono HO_5.out (fun _ hk => hk.2)⟩, ⟨by (with_reducible repeat (first | apply Kd.R_alloc | apply Kd.R_drewN | apply Kd.R_drew)); exact Kd.R_mono HO237.out (fun _ hk => hk.1)⟩, ⟨Hd.b_⟩⟩
             ·
              rw [if_neg c78] at H
              exact absurd H (by simp)
            ·
             rw [if_neg c77] at H
             exact absurd H (by simp)
           ·
            rw [if_neg c76] at H
            exact absurd H (by simp)
          ·
           replace c75 := Bool.eq_false_iff.mpr c75
           subst c75
           have H1 : (spec_l14Kept.l2 k3 a1 x5_1 x8_2 (wrap64 (x9_2 + 1))) = some r := by rw [if_neg (show ¬ (false = true) by decide)] at H; exact H
           clear H
           have H := H1
           clear H1
           have H' := Aside0.mk H
           clear H
           obtain ⟨Ao84, co84, eo84⟩ := Kd.R_slice HO_8.out
           subst eo84
           go_wp2
           go_roundg k3
           case measure => have := HK1.out; have := HK2.out; have := HK3.out; omega
           case rel => exact ⟨(x8_2), (wrap64 (x9_2 + 1)), (by first | rfl | (simp; done) | (simp [*]; done)), H', ⟨by have := HK1.out; have := HK2.out; have := HK3.out; omega⟩, ⟨by (with_reducible repeat (first | apply Kd.R_alloc | apply Kd.R_drewN | apply Kd.R_drew)); exact HO_5.out⟩, ⟨by (with_reducible repeat (first | apply Kd.R_alloc | apply Kd.R_drewN | apply Kd.R_drew)); exact HO_8.out⟩, ⟨Hd.b_⟩⟩
      ·
       rw [if_neg c62] at H
       have c62b0 : decide (x9_2 < (x5_1.length : Int)) = false := decide_eq_false c62
       clear c62
       obtain rfl := Option.some.inj H
       obtain ⟨Ao85, co85, eo85⟩ := Kd.R_slice HO_5.out
       subst eo85
       go_wp2
       go_ret
       exact ⟨_, Hd.e_, by (with_reducible repeat (first | apply Kd.R_alloc | apply Kd.R_drewN | apply Kd.R_drew)); exact Kd.R_mono HO_8.out (fun _ hk => trivial), Hd.b_⟩
end Go.Proofs.Ytbackoeakepngab.MFnThinned
