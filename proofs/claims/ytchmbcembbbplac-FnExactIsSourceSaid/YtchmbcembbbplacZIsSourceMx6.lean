-- Laid by this session's program pp.py, after the kit's print and texts of the session's own. Not trusted: Lean checks it.
import Derived.Test.YtchmbcembbbplacZIsSourceMx0
import Derived.Test.YtchmbcembbbplacZIsSourceMx2
import Derived.Test.YtchmbcembbbplacZIsSourceMx4
import Derived.Test.YtchmbcembbbplacZIsSourceMx5
namespace Go.Proofs.Ytchmbcembbbplac.MFnExactIsSource
open Go.RowKit Go.Proofs.YtchmbcembbbplacW.PrintWords Go.Proofs.YtchmbcembbbplacW.PrintLast Go.Proofs.YtchmbcembbbplacW.PrintMore
attribute [local go_sem] max2_int min2_int max_two min_two max_three min_three max_four min_four   -- for this text's walks alone
set_option linter.unusedVariables false
set_option linter.unusedSimpArgs false
def spec_SegmentsOf.l0 : Nat → List (S49) → List (S111) → Int → Option ((List (S111)))
 | 0, _, _, _ => none
 | k + 1, x0, x3, x4 => if x4 < (x0.length : Int) then ((spec_IsLine.f k x0).bind fun t197 => (if t197 = true then (if 0 ≤ (wrap64 (x4 - 1)) then (if (wrap64 (x4 - 1)) < (x0.length : Int) then (if 0 ≤ x4 then (if x3.length < 4398046511104 then (spec_SegmentsOf.l0 k x0 (x3 ++ [(⟨(⟨(rd_T49 x0 (wrap64 (x4 - 1))).f0, (rd_T49 x0 (wrap64 (x4 - 1))).f1⟩ : S49), (⟨(rd_T49 x0 x4).f0, (rd_T49 x0 x4).f1⟩ : S49)⟩ : S111)]) (wrap64 (x4 + 1))) else (none)) else (none)) else (none)) else (none)) else (some x3))) else (some x3)
def spec_SegmentsOf.f (k : Nat) (l0 : List (S49)) : Option ((List (S111))) := spec_SegmentsOf.l0 k l0 (([] : List (S111))) 1
def spec_SegmentsOf.T5 : Bool × List (List Nat × List Nat) := (true, [([], []), ([], []), ([], []), ([2], [2]), ([1, 3], [1, 3]), ([4], [4]), ([], []), ([], []), ([6, 7], [6, 7]), ([8], [8]), ([5, 9], [5, 9]), ([10], [10]), ([0, 11], [0, 11]), ([12, 12, 0, 1, 2, 3, 4, 5, 6, 7, 8, 9, 10, 11, 12], [0, 12])])
def spec_SegmentsOf.B5 : List Nat := [0, 0, 0, 4, 14, 30, 0, 0, 192, 448, 1022, 2046, 4095, 8191]
theorem spec_SegmentsOf.tab5 : rtab .any (opsOf Try.f132 5) = spec_SegmentsOf.T5 := by kernel_rfl
theorem spec_SegmentsOf.bits5 : waitsOk spec_SegmentsOf.T5.2 spec_SegmentsOf.B5 = true := by kernel_rfl
set_option maxHeartbeats 8000000 in
set_option maxRecDepth 100000 in
theorem spec_SegmentsOf.calls (k : Nat) (A0 : Option Addr) (c0 : Nat) (l0 : List (S49)) (r : List (S111)) (w : World) (hr0 : Kd.C k49 w A0 l0.length l0) (hc0 : l0.length ≤ c0) (h : spec_SegmentsOf.f k l0 = some r) :
  Calls Try.prog 132 #[.slice A0 l0.length c0] w fun e w' => ∃ v0_ : Value, e = .returned (v0_) ∧ Kd.R k111 111 w' w.heap.size (fun _ => True) v0_ r ∧ Below w.heap.size w w' := by
 have hu49 := Try.underlying49
 have hu111 := Try.underlying111
 have HR0 := Aside0.mk hr0
 have HC0 := Aside0.mk hc0
 clear hr0 hc0
 have HB := Aside0.mk (Below.refl w.heap.size w)
 have H : (spec_SegmentsOf.l0 k l0 (([] : List (S111))) 1) = some r := h
 clear h
 obtain ⟨y194, hy194⟩ : ∃ y_ : List (S111), y_ = (([] : List (S111))) := ⟨_, rfl⟩
 replace H : (spec_SegmentsOf.l0 k l0 y194 1) = some r := by first | (rw [hy194]; with_reducible exact H) | (have H2_ := (Option.bind_some _ _).symm.trans H; rw [hy194]; with_reducible exact H2_) | (have H2_ := (Option.bind_some _ _).symm.trans H; with_reducible exact H2_) | with_reducible exact H | (rw [hy194]; exact H) | exact H
 have Ny194 := Aside0.mk hy194
 clear hy194
 have H' := Aside0.mk H
 clear H
 go_enter Try.func132, Try.ntmps132
 go_wp2_with (first | ((with_reducible refine gate_dst (N := 5) rfl ?_); refine Kd.R_lit k111 _ 111 ?hg (N := 5) ?hd (xs := ([] : List (S111))) (inner := []) (ok := fun _ => True) (okp := fun _ => True) ?hr ?hp (fun _ hk => hk) trivial (Below.refl _ _) (Nat.le_refl _) (by simp) ?_; (case hd => rfl); (case hg => rfl); (case hr => first | (go_simp; done) | (go_simp; rfl)); (case hp => exact (Reps.none _ _)); intro v195 w2 ho3 hb hg_ hnew_; clear hg_ hnew_; (first | rw [← Ny194.out] at ho3 | (simp only [Int.reduceToNat] at ho3; rw [← Ny194.out] at ho3)); have HO196 := Aside0.mk (Kd.R_lower ho3 (below_size Hd.b_)); replace HB := Aside0.mk (below_step Hd.b_ hb); clear hb ho3))
 go_loopg [3, 4] k (fun kq v3 v4 w' => ∃ (x3_1 : List (S111)) (x4_1 : Int), v4 = .int .i64 x4_1 ∧ Aside0 (spec_SegmentsOf.l0 kq l0 x3_1 x4_1 = some r) ∧ Aside0 (kq ≤ k) ∧ Aside0 (Kd.R k111 111 w' w.heap.size (fun _ => True) v3 x3_1) ∧ Aside0 (Below w.heap.size w w'))
 case atStart => exact ⟨(y194), (1), (by first | rfl | (simp; done) | (simp [*]; done)), H', ⟨Nat.le_refl _⟩, ⟨by (with_reducible repeat (first | apply Kd.R_alloc | apply Kd.R_drewN | apply Kd.R_drew)); exact HO196.out⟩, ⟨Hd.b_⟩⟩
 case round =>
  clear H'
  try clear c1
  try clear p2
  obtain ⟨x3_1, x4_1, rfl, HA, HK1, HO_3, HB⟩ := hrel
  cases gk with
  | zero => exact absurd HA.out (by simp [spec_SegmentsOf.l0])
  | succ k1 =>
   have H := HA.out
   clear HA
   simp only [spec_SegmentsOf.l0] at H
   by_cases c4 : x4_1 < (l0.length : Int)
   ·
    rw [if_pos c4] at H
    have c4b0 : decide (x4_1 < (l0.length : Int)) = true := decide_eq_true c4
    clear c4
    replace H := Option.bind_eq_some_iff.mp H
    obtain ⟨t197, A50, H⟩ := H
    replace H : (if t197 = true then (if 0 ≤ (wrap64 (x4_1 - 1)) then (if (wrap64 (x4_1 - 1)) < (l0.length : Int) then (if 0 ≤ x4_1 then (if x3_1.length < 4398046511104 then (spec_SegmentsOf.l0 k1 l0 (x3_1 ++ [(⟨(⟨(rd_T49 l0 (wrap64 (x4_1 - 1))).f0, (rd_T49 l0 (wrap64 (x4_1 - 1))).f1⟩ : S49), (⟨(rd_T49 l0 x4_1).f0, (rd_T49 l0 x4_1).f1⟩ : S49)⟩ : S111)]) (wrap64 (x4_1 + 1))) else (none)) else (none)) else (none)) else (none)) else (some x3_1)) = some r := H
    have A5 := Aside0.mk A50
    clear A50
    by_cases c6 : t197 = true
    ·
     subst c6
     have H1 : (if 0 ≤ (wrap64 (x4_1 - 1)) then (if (wrap64 (x4_1 - 1)) < (l0.length : Int) then (if 0 ≤ x4_1 then (if x3_1.length < 4398046511104 then (spec_SegmentsOf.l0 k1 l0 (x3_1 ++ [(⟨(⟨(rd_T49 l0 (wrap64 (x4_1 - 1))).f0, (rd_T49 l0 (wrap64 (x4_1 - 1))).f1⟩ : S49), (⟨(rd_T49 l0 x4_1).f0, (rd_T49 l0 x4_1).f1⟩ : S49)⟩ : S111)]) (wrap64 (x4_1 + 1))) else (none)) else (none)) else (none)) else (none)) = some r := by rw [if_pos rfl] at H; exact H
     clear H
     have H := H1
     clear H1
     obtain ⟨ji7, hji7⟩ : ∃ j_ : Int, (wrap64 (x4_1 - 1)) = j_ := ⟨_, rfl⟩
     replace H : (if 0 ≤ (ji7) then (if (ji7) < (l0.length : Int) then (if 0 ≤ x4_1 then (if x3_1.length < 4398046511104 then (spec_SegmentsOf.l0 k1 l0 (x3_1 ++ [(⟨(⟨(rd_T49 l0 (ji7)).f0, (rd_T49 l0 (ji7)).f1⟩ : S49), (⟨(rd_T49 l0 x4_1).f0, (rd_T49 l0 x4_1).f1⟩ : S49)⟩ : S111)]) (wrap64 (x4_1 + 1))) else (none)) else (none)) else (none)) else (none)) = some r := by first | (rw [hji7] at H; exact H) | (simp only [hji7] at H ⊢; exact H)
     (try rw [hji7] at A5)
     have hji7w : (IntKind.i64.wrap (x4_1 - 1)) = ji7 := (i64_w _).trans hji7
     by_cases c8 : 0 ≤ (ji7)
     ·
      rw [if_pos c8] at H
      have c8b0 : decide (0 ≤ (ji7)) = true := decide_eq_true c8
      clear c8
      by_cases c9 : (ji7) < (l0.length : Int)
      ·
       rw [if_pos c9] at H
       have c9b0 : decide ((ji7) < (l0.length : Int)) = true := decide_eq_true c9
       clear c9
       by_cases c10 : 0 ≤ x4_1
       ·
        rw [if_pos c10] at H
        have c10b0 : decide (0 ≤ x4_1) = true := decide_eq_true c10
        clear c10
        by_cases c11 : x3_1.length < 4398046511104
        ·
         rw [if_pos c11] at H
         have LMc11 := Aside0.mk c11
         clear c11
         obtain ⟨y200, hy200⟩ : ∃ y_ : List (S111), y_ = (x3_1 ++ [(⟨(⟨(rd_T49 l0 (ji7)).f0, (rd_T49 l0 (ji7)).f1⟩ : S49), (⟨(rd_T49 l0 x4_1).f0, (rd_T49 l0 x4_1).f1⟩ : S49)⟩ : S111)]) := ⟨_, rfl⟩
         replace H : (spec_SegmentsOf.l0 k1 l0 y200 (wrap64 (x4_1 + 1))) = some r := by first | (rw [hy200]; with_reducible exact H) | (have H2_ := (Option.bind_some _ _).symm.trans H; rw [hy200]; with_reducible exact H2_) | (have H2_ := (Option.bind_some _ _).symm.trans H; with_reducible exact H2_) | with_reducible exact H | (rw [hy200]; exact H) | exact H
         have Ny200 := Aside0.mk hy200
         clear hy200
         have H' := Aside0.mk H
         clear H
         try go_wp2_with (first | (go_at_call 154; (with_reducible refine (spec_IsLine.calls k1 _ _ l0 true _ ?side1 ?side2 A5.out).mono ?_); (case side1 => repeat (first | exact (Kd.C_below HR0.out HB.out) | (with_reducible refine Kd.C_alloc ?_ _) | (with_reducible refine Kd.C_drewN ?_ _) | (with_reducible refine Kd.C_drew ?_))); (case side2 => exact HC0.out); rintro e w12 ⟨rfl, hb⟩; replace HO_3 := Aside0.mk (Kd.R_below (Hd.r_ HO_3) hb); replace HB := Aside0.mk (below_step Hd.b_ hb); (try clear hb); (try clear hb2); (try clear hk); (try clear hi)))
         replace HO_3 := Aside0.mk (Kd.R_drew HO_3.out)
         replace HB := Aside0.mk (below_drew1 HB.out)
         have p198 : 0 ≤ ((ji7) : Int) := of_decide_eq_true Hd.a_
         have q198 : (ji7) < (l0.length : Int) := of_decide_eq_true Hd.a_
         obtain ⟨ad198, e198, hx198_0, hx198_1⟩ := at_T49 HR0.out (ji7) p198 q198
         have hw198_1 := hx198_1
         have hw198_0 := hx198_0
         cases e198
         replace hx198_0 := (HB.out.cell (World.block_lt_of_cell? w _ hx198_0)).trans hx198_0
         replace hx198_1 := (HB.out.cell (World.block_lt_of_cell? w _ hx198_1)).trans hx198_1
         replace p198 := eq_true p198
         replace q198 := eq_true q198
         have p199 : 0 ≤ (x4_1 : Int) := of_decide_eq_true Hd.a_
         have q199 : x4_1 < (l0.length : Int) := of_decide_eq_true Hd.a_
         obtain ⟨ad199, e199, hx199_0, hx199_1⟩ := at_T49 HR0.out x4_1 p199 q199
         have hw199_1 := hx199_1
         have hw199_0 := hx199_0
         obtain rfl : ad198 = ad199 := (by injection e199)
         replace hx199_0 := (HB.out.cell (World.block_lt_of_cell? w _ hx199_0)).trans hx199_0
         replace hx199_1 := (HB.out.cell (World.block_lt_of_cell? w _ hx199_1)).trans hx199_1
         replace p199 := eq_true p199
         replace q199 := eq_true q199
         refine start_ (n := 14) (S := fun w' => w'.cell? (ad198.add (((ji7)).toNat * 2)) = some (.int .i64 ((rd_T49 l0 (ji7)).f0)) ∧ w'.cell? ⟨(ad198.add (((ji7)).toNat * 2)).block, (ad198.add (((ji7)).toNat * 2)).off + 1, none⟩ = some (.int .i64 ((rd_T49 l0 (ji7)).f1)) ∧ w'.cell? (ad198.add ((x4_1).toNat * 2)) = some (.int .i64 ((rd_T49 l0 x4_1).f0)) ∧ w'.cell? ⟨(ad198.add ((x4_1).toNat * 2)).block, (ad198.add ((x4_1).toNat * 2)).off + 1, none⟩ = some (.int .i64 ((rd_T49 l0 x4_1).f1))) (ds := []) #[false, false, false, false, false, false, false, false, false, false, false, false, false, false] (by kernel_rfl) rfl rfl ⟨((HB.out.cell (World.block_lt_of_cell? w _ hw198_0)).trans hw198_0), ((HB.out.cell (World.block_lt_of_cell? w _ hw198_1)).trans hw198_1), ((HB.out.cell (World.block_lt_of_cell? w _ hw199_0)).trans hw199_0), ((HB.out.cell (World.block_lt_of_cell? w _ hw199_1)).trans hw199_1)⟩ (fun hHeld => ?_); refine with_tabW spec_SegmentsOf.tab5 spec_SegmentsOf.bits5 (fun HT_ HW_ => ?_)
         generalize w12.drew = w13 at HO_3 HB hx198_0 hx198_1 hx199_0 hx199_1 hHeld ⊢
         refine Hd.p_ HT_ 0 (some 16) #[true, false, false, false, false, false, false, false, false, false, false, false, false, false] ?_
         refine Hd.p_ HT_ 1 (some 17) #[true, true, false, false, false, false, false, false, false, false, false, false, false, false] ?_
         refine Hd.p_ HT_ 2 (some 18) #[true, true, true, false, false, false, false, false, false, false, false, false, false, false] ?_
         refine Hd.p_ HT_ 3 (some 19) #[true, true, true, true, false, false, false, false, false, false, false, false, false, false] ?_
         refine Hd.p_ HT_ 4 (some 20) #[true, true, true, true, true, false, false, false, false, false, false, false, false, false] ?_
         refine Hd.p_ HT_ 6 (some 22) #[true, true, true, true, true, false, true, false, false, false, false, false, false, false] ?_
         refine Hd.p_ HT_ 7 (some 23) #[true, true, true, true, true, false, true, true, false, false, false, false, false, false] ?_
         refine Hd.p_ HT_ 8 (some 24) #[true, true, true, true, true, false, true, true, true, false, false, false, false, false] ?_
         refine Hd.t_ HT_ HW_ hHeld 5 (some 21) #[true, true, true, true, true, true, true, true, true, false, false, false, false, false] ?_
         refine Hd.t_ HT_ HW_ hHeld 9 (some 25) #[true, true, true, true, true, true, true, true, true, true, false, false, false, false] ?_
         refine Hd.p_ HT_ 10 (some 26) #[true, true, true, true, true, true, true, true, true, true, true, false, false, false] ?_
         refine Hd.o_ HT_ 11 (some 27) #[true, true, true, true, true, true, true, true, true, true, true, true, false, false] (fun K hK => ?_)
         refine value_ (w1 := ?_) (v := ?_) (by rfl) rfl ?_ ?_
         rotate_left 2
         ·
          go_simp
          constructor
          ·
           rfl
          ·
           rfl
         refine hK.out _ _ ⟨(World.cell?_alloc_lt _ _ _ (World.block_lt_of_cell? _ _ (((HB.out.cell (World.block_lt_of_cell? w _ hw198_0)).trans hw198_0)))).trans (((HB.out.cell (World.block_lt_of_cell? w _ hw198_0)).trans hw198_0)), (World.cell?_alloc_lt _ _ _ (World.block_lt_of_cell? _ _ (((HB.out.cell (World.block_lt_of_cell? w _ hw198_1)).trans hw198_1)))).trans (((HB.out.cell (World.block_lt_of_cell? w _ hw198_1)).trans hw198_1)), (World.cell?_alloc_lt _ _ _ (World.block_lt_of_cell? _ _ (((HB.out.cell (World.block_lt_of_cell? w _ hw199_0)).trans hw199_0)))).trans (((HB.out.cell (World.block_lt_of_cell? w _ hw199_0)).trans hw199_0)), (World.cell?_alloc_lt _ _ _ (World.block_lt_of_cell? _ _ (((HB.out.cell (World.block_lt_of_cell? w _ hw199_1)).trans hw199_1)))).trans (((HB.out.cell (World.block_lt_of_cell? w _ hw199_1)).trans hw199_1))⟩ (fun hHeld => ?_)
         clear hK K
         refine Hd.n_ (some 27) ?_
         refine Hd.o_ HT_ 12 (some 28) #[true, true, true, true, true, true, true, true, true, true, true, true, true, false] (fun K hK => ?_)
         refine Kd.R_append_step k111 (w0 := w) w.heap.size (by rfl) (.tmp 16) (.tmp 27) 91 111 (.agg #[(.int .i64 0), (.int .i64 0), (.int .i64 0), (.int .i64 0)]) 32 rfl Try.underlying91 info111 rfl (by decide) (by omega) u3 x3_1 (⟨(⟨(rd_T49 l0 (ji7)).f0, (rd_T49 l0 (ji7)).f1⟩ : S49), (⟨(rd_T49 l0 x4_1).f0, (rd_T49 l0 x4_1).f1⟩ : S49)⟩ : S111) [.int .i64 ((rd_T49 l0 (ji7)).f0), .int .i64 ((rd_T49 l0 (ji7)).f1), .int .i64 ((rd_T49 l0 x4_1).f0), .int .i64 ((rd_T49 l0 x4_1).f1)] (fun _ => True) (fun _ => False) rfl rfl ?aP (fun _ hk => hk.elim) ?aF ?aO ?aB ?aS ?aL ?_
         (case aP => exact k111_mkM _ _ _ (⟨(⟨(rd_T49 l0 (ji7)).f0, (rd_T49 l0 (ji7)).f1⟩ : S49), (⟨(rd_T49 l0 x4_1).f0, (rd_T49 l0 x4_1).f1⟩ : S49)⟩ : S111))
         (case aB => exact Hd.b_)
         (case aF => exact (fun _ _ => trivial))
         (case aO => exact (Hd.r_ HO_3))
         (case aS => exact (below_size Hd.b_))
         (case aL => have := LMc11.out; omega)
         intro v201 w14 ho hb hg hat
         rw [← Ny200.out] at ho
         have n0_ := Aside0.mk (hb)
         have n1_ := Aside0.mk (ho)
         clear HB
         clear HO_3
         have HB := n0_
         have HO202 := n1_
         clear n0_ n1_
         clear ho hb hg hat
         refine hK.out _ _ ⟨((HB.out.cell (World.block_lt_of_cell? w _ hw198_0)).trans hw198_0), ((HB.out.cell (World.block_lt_of_cell? w _ hw198_1)).trans hw198_1), ((HB.out.cell (World.block_lt_of_cell? w _ hw199_0)).trans hw199_0), ((HB.out.cell (World.block_lt_of_cell? w _ hw199_1)).trans hw199_1)⟩ (fun hHeld => ?_)
         clear hK K
         refine Hd.n_ (some 28) ?_
         refine Hd.p_ HT_ 13 (some 3) #[true, true, true, true, true, true, true, true, true, true, true, true, true, true] ?_
         refine done_ (done_of HT_.out (by kernel_rfl)) ?_
         try go_wp2
         go_roundg k1
         case measure => have := HK1.out; omega
         case rel => exact ⟨(y200), (wrap64 (x4_1 + 1)), (by first | rfl | (simp; done) | (simp [*]; done)), H', ⟨by have := HK1.out; omega⟩, ⟨by (with_reducible repeat (first | apply Kd.R_alloc | apply Kd.R_drewN | apply Kd.R_drew)); exact HO202.out⟩, ⟨Hd.b_⟩⟩
        ·
         rw [if_neg c11] at H
         exact absurd H (by simp)
       ·
        rw [if_neg c10] at H
        exact absurd H (by simp)
      ·
       rw [if_neg c9] at H
       exact absurd H (by simp)
     ·
      rw [if_neg c8] at H
      exact absurd H (by simp)
    ·
     replace c6 := Bool.eq_false_iff.mpr c6
     subst c6
     have H1 : (some x3_1) = some r := by rw [if_neg (show ¬ (false = true) by decide)] at H; exact H
     clear H
     have H := H1
     clear H1
     obtain rfl := Option.some.inj H
     go_wp2_with (first | (go_at_call 154; (with_reducible refine (spec_IsLine.calls k1 _ _ l0 false _ ?side1 ?side2 A5.out).mono ?_); (case side1 => repeat (first | exact (Kd.C_below HR0.out HB.out) | (with_reducible refine Kd.C_alloc ?_ _) | (with_reducible refine Kd.C_drewN ?_ _) | (with_reducible refine Kd.C_drew ?_))); (case side2 => exact HC0.out); rintro e w15 ⟨rfl, hb⟩; replace HO_3 := Aside0.mk (Kd.R_below (Hd.r_ HO_3) hb); replace HB := Aside0.mk (below_step Hd.b_ hb); (try clear hb); (try clear hb2); (try clear hk); (try clear hi)))
     go_ret
     exact ⟨_, Hd.e_, by (with_reducible repeat (first | apply Kd.R_alloc | apply Kd.R_drewN | apply Kd.R_drew)); exact HO_3.out, Hd.b_⟩
   ·
    rw [if_neg c4] at H
    have c4b0 : decide (x4_1 < (l0.length : Int)) = false := decide_eq_false c4
    clear c4
    obtain rfl := Option.some.inj H
    go_wp2
    go_ret
    exact ⟨_, Hd.e_, by (with_reducible repeat (first | apply Kd.R_alloc | apply Kd.R_drewN | apply Kd.R_drew)); exact HO_3.out, Hd.b_⟩
mutual
def spec_IsSimple.l0 : Nat → List (S49) → List (S111) → Int → Option (Bool)
 | 0, _, _, _ => none
 | k + 1, x0, x3, x4 => if x4 < (x3.length : Int) then (spec_IsSimple.l1 k x0 x3 x4 0) else ((spec_IsLine.f k x0).bind fun t206 => (some t206))
def spec_IsSimple.l1 : Nat → List (S49) → List (S111) → Int → Int → Option (Bool)
 | 0, _, _, _, _ => none
 | k + 1, x0, x3, x4, x5 => if x5 < x4 then (if (wrap64 (x5 + 1)) = x4 then (if 0 ≤ x4 then (if x4 < (x3.length : Int) then (if 0 ≤ x5 then (if x5 < (x3.length : Int) then ((spec_HowMeet.f k ((rd_T111 x3 x4).f0.f0) ((rd_T111 x3 x4).f0.f1) ((rd_T111 x3 x4).f1.f0) ((rd_T111 x3 x4).f1.f1) ((rd_T111 x3 x5).f0.f0) ((rd_T111 x3 x5).f0.f1) ((rd_T111 x3 x5).f1.f0) ((rd_T111 x3 x5).f1.f1)).bind fun t209 => (if t209 = 1 then (spec_IsSimple.l1 k x0 x3 x4 (wrap64 (x5 + 1))) else (some false))) else (none)) else (none)) else (none)) else (none)) else (if 0 ≤ x4 then (if x4 < (x3.length : Int) then (if 0 ≤ x5 then (if x5 < (x3.length : Int) then ((spec_HowMeet.f k ((rd_T111 x3 x4).f0.f0) ((rd_T111 x3 x4).f0.f1) ((rd_T111 x3 x4).f1.f0) ((rd_T111 x3 x4).f1.f1) ((rd_T111 x3 x5).f0.f0) ((rd_T111 x3 x5).f0.f1) ((rd_T111 x3 x5).f1.f0) ((rd_T111 x3 x5).f1.f1)).bind fun t212 => (if t212 = 0 then (spec_IsSimple.l1 k x0 x3 x4 (wrap64 (x5 + 1))) else (some false))) else (none)) else (none)) else (none)) else (none))) else (spec_IsSimple.l0 k x0 x3 (wrap64 (x4 + 1)))
end
def spec_IsSimple.f (k : Nat) (l0 : List (S49)) : Option (Bool) := (spec_SegmentsOf.f k l0).bind fun t203 => (spec_IsSimple.l0 k l0 t203 0)
set_option maxHeartbeats 8000000 in
set_option maxRecDepth 100000 in
theorem spec_IsSimple.calls (k : Nat) (A0 : Option Addr) (c0 : Nat) (l0 : List (S49)) (r : Bool) (w : World) (hr0 : Kd.C k49 w A0 l0.length l0) (hc0 : l0.length ≤ c0) (h : spec_IsSimple.f k l0 = some r) :
  Calls Try.prog 123 #[.slice A0 l0.length c0] w fun e w' => e = .returned (.bool r) ∧ Below w.heap.size w w' := by
 have hu111 := Try.underlying111
 have HR0 := Aside0.mk hr0
 have HC0 := Aside0.mk hc0
 clear hr0 hc0
 have HB := Aside0.mk (Below.refl w.heap.size w)
 have H : ((spec_SegmentsOf.f k l0).bind fun t203 => (spec_IsSimple.l0 k l0 t203 0)) = some r := h
 clear h
 replace H := Option.bind_eq_some_iff.mp H
 obtain ⟨t203, A20, H⟩ := H
 replace H : (spec_IsSimple.l0 k l0 t203 0) = some r := H
 have A2 := Aside0.mk A20
 clear A20
 have H' := Aside0.mk H
 clear H
 go_enter Try.func123, Try.ntmps123
 go_wp2_with (first | ((with_reducible refine gate_callee (f := 132) rfl ?_); refine goesL_ (some 8) rfl rfl Try.func132 (by kernel_rfl) rfl #[.slice A0 l0.length c0] rfl Hd.m_ ?_; (with_reducible refine (spec_SegmentsOf.calls k _ _ l0 t203 _ ?side1 ?side2 A2.out).mono ?_); (case side1 => repeat (first | exact HR0.out | (with_reducible refine Kd.C_alloc ?_ _) | (with_reducible refine Kd.C_drewN ?_ _) | (with_reducible refine Kd.C_drew ?_))); (case side2 => exact HC0.out); rintro e w3 ⟨v204, rfl, ho0, hb⟩; refine ⟨_, rfl, ?_⟩; have HO205 := Aside0.mk (Kd.R_lower ho0 (below_size Hd.b_)); replace HB := Aside0.mk (below_step Hd.b_ hb); (try clear hb); (try clear hb2); (try clear hk); (try clear hi); (try clear ho0)))
 go_loopg [4] k (fun kq v4 w' => ∃ (x4_1 : Int), v4 = .int .i64 x4_1 ∧ Aside0 (spec_IsSimple.l0 kq l0 t203 x4_1 = some r) ∧ Aside0 (kq ≤ k) ∧ Aside0 (Kd.R k111 111 w' w.heap.size (fun _ => True) v204 t203) ∧ Aside0 (Below w.heap.size w w'))
 case atStart => exact ⟨(0), (by first | rfl | (simp; done) | (simp [*]; done)), H', ⟨Nat.le_refl _⟩, ⟨by (with_reducible repeat (first | apply Kd.R_alloc | apply Kd.R_drewN | apply Kd.R_drew)); exact HO205.out⟩, ⟨Hd.b_⟩⟩
 case round =>
  clear H'
  try clear c1
  try clear p2
  obtain ⟨x4_1, rfl, HA, HK1, HO_3, HB⟩ := hrel
  cases gk with
  | zero => exact absurd HA.out (by simp [spec_IsSimple.l0])
  | succ k1 =>
   have H := HA.out
   clear HA
   simp only [spec_IsSimple.l0] at H
   by_cases c4 : x4_1 < (t203.length : Int)
   ·
    rw [if_pos c4] at H
    have c4b0 : decide (x4_1 < (t203.length : Int)) = true := decide_eq_true c4
    clear c4
    have H' := Aside0.mk H
    clear H
    obtain ⟨Ao5, co5, eo5⟩ := Kd.R_slice HO_3.out
    subst eo5
    go_wp2
    go_loopg [5] k1 (fun kq v5 w' => ∃ (x5_2 : Int), v5 = .int .i64 x5_2 ∧ Aside0 (spec_IsSimple.l1 kq l0 t203 x4_1 x5_2 = some r) ∧ Aside0 (kq ≤ k1) ∧ Aside0 (Kd.R k111 111 w' w.heap.size (fun _ => True) (.slice Ao5 t203.length co5) t203) ∧ Aside0 (Below w.heap.size w w'))
    case atStart => exact ⟨(0), (by first | rfl | (simp; done) | (simp [*]; done)), H', ⟨Nat.le_refl _⟩, ⟨by (with_reducible repeat (first | apply Kd.R_alloc | apply Kd.R_drewN | apply Kd.R_drew)); exact HO_3.out⟩, ⟨Hd.b_⟩⟩
    case round =>
     clear H'
     try clear c1
     try clear p2
     try clear c4
     try clear c4b0
     try clear p2
     obtain ⟨x5_2, rfl, HA, HK2, HO_3, HB⟩ := hrel
     cases gk with
     | zero => exact absurd HA.out (by simp [spec_IsSimple.l1])
     | succ k2 =>
      have H := HA.out
      clear HA
      simp only [spec_IsSimple.l1] at H
      by_cases c6 : x5_2 < x4_1
      ·
       rw [if_pos c6] at H
       have c6b0 : decide (x5_2 < x4_1) = true := decide_eq_true c6
       clear c6
       by_cases c7 : (wrap64 (x5_2 + 1)) = x4_1
       ·
        rw [if_pos c7] at H
        have c7b0 : ((wrap64 (x5_2 + 1)) == x4_1) = true := beq_iff_eq.mpr c7
        have c7b1 : ((wrap64 (x5_2 + 1)) != x4_1) = false := bne_eq_false_iff_eq.mpr c7
        clear c7
        by_cases c8 : 0 ≤ x4_1
        ·
         rw [if_pos c8] at H
         have c8b0 : decide (0 ≤ x4_1) = true := decide_eq_true c8
         clear c8
         by_cases c9 : x4_1 < (t203.length : Int)
         ·
          rw [if_pos c9] at H
          have c9b0 : decide (x4_1 < (t203.length : Int)) = true := decide_eq_true c9
          clear c9
          by_cases c10 : 0 ≤ x5_2
          ·
           rw [if_pos c10] at H
           have c10b0 : decide (0 ≤ x5_2) = true := decide_eq_true c10
           clear c10
           by_cases c11 : x5_2 < (t203.length : Int)
           ·
            rw [if_pos c11] at H
            have c11b0 : decide (x5_2 < (t203.length : Int)) = true := decide_eq_true c11
            clear c11
            replace H := Option.bind_eq_some_iff.mp H
            obtain ⟨t209, A120, H⟩ := H
            replace H : (if t209 = 1 then (spec_IsSimple.l1 k2 l0 t203 x4_1 (wrap64 (x5_2 + 1))) else (some false)) = some r := H
            have A12 := Aside0.mk A120
            clear A120
            by_cases c13 : t209 = 1
            ·
             rw [if_pos c13] at H
             have c13b0 : (t209 == 1) = true := beq_iff_eq.mpr c13
             have c13b1 : (t209 != 1) = false := bne_eq_false_iff_eq.mpr c13
             clear c13
             have H' := Aside0.mk H
             clear H
             try go_wp2
             replace HO_3 := Aside0.mk (Kd.R_drew HO_3.out)
             replace HB := Aside0.mk (below_drew1 HB.out)
             have p207 : 0 ≤ (x4_1 : Int) := of_decide_eq_true Hd.a_
             have q207 : x4_1 < (t203.length : Int) := of_decide_eq_true Hd.a_
             obtain ⟨ad207, e207, hx207_0, hx207_1, hx207_2, hx207_3⟩ := at_T111 (Kd.R_reads' HO_3.out).2.2 x4_1 p207 q207
             cases e207
             replace p207 := eq_true p207
             replace q207 := eq_true q207
             have p208 : 0 ≤ (x5_2 : Int) := of_decide_eq_true Hd.a_
             have q208 : x5_2 < (t203.length : Int) := of_decide_eq_true Hd.a_
             obtain ⟨ad208, e208, hx208_0, hx208_1, hx208_2, hx208_3⟩ := at_T111 (Kd.R_reads' HO_3.out).2.2 x5_2 p208 q208
             obtain rfl : ad207 = ad208 := (by injection e208)
             replace p208 := eq_true p208
             replace q208 := eq_true q208
             have s0_ := Hd.HW.x (W0 := wr.drew) hx207_0
             have s1_ := Hd.HW.x (W0 := wr.drew) hx207_1
             have s2_ := Hd.HW.x (W0 := wr.drew) hx207_2
             have s3_ := Hd.HW.x (W0 := wr.drew) hx207_3
             have s4_ := Hd.HW.x (W0 := wr.drew) hx208_0
             have s5_ := Hd.HW.x (W0 := wr.drew) hx208_1
             have s6_ := Hd.HW.x (W0 := wr.drew) hx208_2
             have s7_ := Hd.HW.x (W0 := wr.drew) hx208_3
             refine Hd.HW.region (by kernel_rfl) (by kernel_rfl) ?_
             repeat (go_big_quiet_step ((first | (go_at_call 129; with_reducible exact Hd.HW.c (spec_HowMeet.calls k2 ((rd_T111 t203 x4_1).f0.f0) ((rd_T111 t203 x4_1).f0.f1) ((rd_T111 t203 x4_1).f1.f0) ((rd_T111 t203 x4_1).f1.f1) ((rd_T111 t203 x5_2).f0.f0) ((rd_T111 t203 x5_2).f0.f1) ((rd_T111 t203 x5_2).f1.f0) ((rd_T111 t203 x5_2).f1.f1) t209 _ A12.out)))))
             refine wpQuiet_nil ?_
             intro _ hq_
             obtain ⟨q_, rfl⟩ := hq_
             clear s0_ s1_ s2_ s3_ s4_ s5_ s6_ s7_
             replace HO_3 := Aside0.mk (Kd.R_below HO_3.out q_.b)
             replace HB := Aside0.mk (below_step HB.out q_.b)
             replace hx207_0 := q_.cell hx207_0
             replace hx207_1 := q_.cell hx207_1
             replace hx207_2 := q_.cell hx207_2
             replace hx207_3 := q_.cell hx207_3
             replace hx208_0 := q_.cell hx208_0
             replace hx208_1 := q_.cell hx208_1
             replace hx208_2 := q_.cell hx208_2
             replace hx208_3 := q_.cell hx208_3
             generalize q_.W = w15 at HO_3 HB hx207_0 hx207_1 hx207_2 hx207_3 hx208_0 hx208_1 hx208_2 hx208_3 ⊢
             try simp only [i64_w, i32_w]
             try go_wp2
             go_roundg k2
             case measure => have := HK1.out; have := HK2.out; omega
             case rel => exact ⟨(wrap64 (x5_2 + 1)), (by first | rfl | (simp; done) | (simp [*]; done)), H', ⟨by have := HK1.out; have := HK2.out; omega⟩, ⟨by (with_reducible repeat (first | apply Kd.R_alloc | apply Kd.R_drewN | apply Kd.R_drew)); exact HO_3.out⟩, ⟨Hd.b_⟩⟩
            ·
             rw [if_neg c13] at H
             have c13b0 : (t209 == 1) = false := beq_eq_false_iff_ne.mpr c13
             have c13b1 : (t209 != 1) = true := bne_iff_ne.mpr c13
             obtain rfl := Option.some.inj H
             try go_wp2
             replace HO_3 := Aside0.mk (Kd.R_drew HO_3.out)
             replace HB := Aside0.mk (below_drew1 HB.out)
             have p207 : 0 ≤ (x4_1 : Int) := of_decide_eq_true Hd.a_
             have q207 : x4_1 < (t203.length : Int) := of_decide_eq_true Hd.a_
             obtain ⟨ad207, e207, hx207_0, hx207_1, hx207_2, hx207_3⟩ := at_T111 (Kd.R_reads' HO_3.out).2.2 x4_1 p207 q207
             cases e207
             replace p207 := eq_true p207
             replace q207 := eq_true q207
             have p208 : 0 ≤ (x5_2 : Int) := of_decide_eq_true Hd.a_
             have q208 : x5_2 < (t203.length : Int) := of_decide_eq_true Hd.a_
             obtain ⟨ad208, e208, hx208_0, hx208_1, hx208_2, hx208_3⟩ := at_T111 (Kd.R_reads' HO_3.out).2.2 x5_2 p208 q208
             obtain rfl : ad207 = ad208 := (by injection e208)
             replace p208 := eq_true p208
             replace q208 := eq_true q208
             have s0_ := Hd.HW.x (W0 := wr.drew) hx207_0
             have s1_ := Hd.HW.x (W0 := wr.drew) hx207_1
             have s2_ := Hd.HW.x (W0 := wr.drew) hx207_2
             have s3_ := Hd.HW.x (W0 := wr.drew) hx207_3
             have s4_ := Hd.HW.x (W0 := wr.drew) hx208_0
             have s5_ := Hd.HW.x (W0 := wr.drew) hx208_1
             have s6_ := Hd.HW.x (W0 := wr.drew) hx208_2
             have s7_ := Hd.HW.x (W0 := wr.drew) hx208_3
             refine Hd.HW.region (by kernel_rfl) (by kernel_rfl) ?_
             repeat (go_big_quiet_step ((first | (go_at_call 129; with_reducible exact Hd.HW.c (spec_HowMeet.calls k2 ((rd_T111 t203 x4_1).f0.f0) ((rd_T111 t203 x4_1).f0.f1) ((rd_T111 t203 x4_1).f1.f0) ((rd_T111 t203 x4_1).f1.f1) ((rd_T111 t203 x5_2).f0.f0) ((rd_T111 t203 x5_2).f0.f1) ((rd_T111 t203 x5_2).f1.f0) ((rd_T111 t203 x5_2).f1.f1) t209 _ A12.out)))))
             refine wpQuiet_nil ?_
             intro _ hq_
             obtain ⟨q_, rfl⟩ := hq_
             clear s0_ s1_ s2_ s3_ s4_ s5_ s6_ s7_
             replace HO_3 := Aside0.mk (Kd.R_below HO_3.out q_.b)
             replace HB := Aside0.mk (below_step HB.out q_.b)
             replace hx207_0 := q_.cell hx207_0
             replace hx207_1 := q_.cell hx207_1
             replace hx207_2 := q_.cell hx207_2
             replace hx207_3 := q_.cell hx207_3
             replace hx208_0 := q_.cell hx208_0
             replace hx208_1 := q_.cell hx208_1
             replace hx208_2 := q_.cell hx208_2
             replace hx208_3 := q_.cell hx208_3
             generalize q_.W = w17 at HO_3 HB hx207_0 hx207_1 hx207_2 hx207_3 hx208_0 hx208_1 hx208_2 hx208_3 ⊢
             try simp only [i64_w, i32_w]
             try go_wp2
             go_ret
             exact ⟨Hd.e_, Hd.b_⟩
           ·
            rw [if_neg c11] at H
            exact absurd H (by simp)
          ·
           rw [if_neg c10] at H
           exact absurd H (by simp)
         ·
          rw [if_neg c9] at H
          exact absurd H (by simp)
        ·
         rw [if_neg c8] at H
         exact absurd H (by simp)
       ·
        rw [if_neg c7] at H
        have c7b0 : ((wrap64 (x5_2 + 1)) == x4_1) = false := beq_eq_false_iff_ne.mpr c7
        have c7b1 : ((wrap64 (x5_2 + 1)) != x4_1) = true := bne_iff_ne.mpr c7
        by_cases c18 : 0 ≤ x4_1
        ·
         rw [if_pos c18] at H
         have c18b0 : decide (0 ≤ x4_1) = true := decide_eq_true c18
         clear c18
         by_cases c19 : x4_1 < (t203.length : Int)
         ·
          rw [if_pos c19] at H
          have c19b0 : decide (x4_1 < (t203.length : Int)) = true := decide_eq_true c19
          clear c19
          by_cases c20 : 0 ≤ x5_2
          ·
           rw [if_pos c20] at H
           have c20b0 : decide (0 ≤ x5_2) = true := decide_eq_true c20
           clear c20
           by_cases c21 : x5_2 < (t203.length : Int)
           ·
            rw [if_pos c21] at H
            have c21b0 : decide (x5_2 < (t203.length : Int)) = true := decide_eq_true c21
            clear c21
            replace H := Option.bind_eq_some_iff.mp H
            obtain ⟨t212, A220, H⟩ := H
            replace H : (if t212 = 0 then (spec_IsSimple.l1 k2 l0 t203 x4_1 (wrap64 (x5_2 + 1))) else (some false)) = some r := H
            have A22 := Aside0.mk A220
            clear A220
            by_cases c23 : t212 = 0
            ·
             rw [if_pos c23] at H
             have c23b0 : (t212 == 0) = true := beq_iff_eq.mpr c23
             have c23b1 : (t212 != 0) = false := bne_eq_false_iff_eq.mpr c23
             clear c23
             have H' := Aside0.mk H
             clear H
             try go_wp2
             replace HO_3 := Aside0.mk (Kd.R_drew HO_3.out)
             replace HB := Aside0.mk (below_drew1 HB.out)
             have p210 : 0 ≤ (x4_1 : Int) := of_decide_eq_true Hd.a_
             have q210 : x4_1 < (t203.length : Int) := of_decide_eq_true Hd.a_
             obtain ⟨ad210, e210, hx210_0, hx210_1, hx210_2, hx210_3⟩ := at_T111 (Kd.R_reads' HO_3.out).2.2 x4_1 p210 q210
             cases e210
             replace p210 := eq_true p210
             replace q210 := eq_true q210
             have p211 : 0 ≤ (x5_2 : Int) := of_decide_eq_true Hd.a_
             have q211 : x5_2 < (t203.length : Int) := of_decide_eq_true Hd.a_
             obtain ⟨ad211, e211, hx211_0, hx211_1, hx211_2, hx211_3⟩ := at_T111 (Kd.R_reads' HO_3.out).2.2 x5_2 p211 q211
             obtain rfl : ad210 = ad211 := (by injection e211)
             replace p211 := eq_true p211
             replace q211 := eq_true q211
             have s0_ := Hd.HW.x (W0 := wr.drew) hx210_0
             have s1_ := Hd.HW.x (W0 := wr.drew) hx210_1
             have s2_ := Hd.HW.x (W0 := wr.drew) hx210_2
             have s3_ := Hd.HW.x (W0 := wr.drew) hx210_3
             have s4_ := Hd.HW.x (W0 := wr.drew) hx211_0
             have s5_ := Hd.HW.x (W0 := wr.drew) hx211_1
             have s6_ := Hd.HW.x (W0 := wr.drew) hx211_2
             have s7_ := Hd.HW.x (W0 := wr.drew) hx211_3
             refine Hd.HW.region (by kernel_rfl) (by kernel_rfl) ?_
             repeat (go_big_quiet_step ((first | (go_at_call 129; with_reducible exact Hd.HW.c (spec_HowMeet.calls k2 ((rd_T111 t203 x4_1).f0.f0) ((rd_T111 t203 x4_1).f0.f1) ((rd_T111 t203 x4_1).f1.f0) ((rd_T111 t203 x4_1).f1.f1) ((rd_T111 t203 x5_2).f0.f0) ((rd_T111 t203 x5_2).f0.f1) ((rd_T111 t203 x5_2).f1.f0) ((rd_T111 t203 x5_2).f1.f1) t212 _ A22.out)))))
             refine wpQuiet_nil ?_
             intro _ hq_
             obtain ⟨q_, rfl⟩ := hq_
             clear s0_ s1_ s2_ s3_ s4_ s5_ s6_ s7_
             replace HO_3 := Aside0.mk (Kd.R_below HO_3.out q_.b)
             replace HB := Aside0.mk (below_step HB.out q_.b)
             replace hx210_0 := q_.cell hx210_0
             replace hx210_1 := q_.cell hx210_1
             replace hx210_2 := q_.cell hx210_2
             replace hx210_3 := q_.cell hx210_3
             replace hx211_0 := q_.cell hx211_0
             replace hx211_1 := q_.cell hx211_1
             replace hx211_2 := q_.cell hx211_2
             replace hx211_3 := q_.cell hx211_3
             generalize q_.W = w25 at HO_3 HB hx210_0 hx210_1 hx210_2 hx210_3 hx211_0 hx211_1 hx211_2 hx211_3 ⊢
             try simp only [i64_w, i32_w]
             try go_wp2
             go_roundg k2
             case measure => have := HK1.out; have := HK2.out; omega
             case rel => exact ⟨(wrap64 (x5_2 + 1)), (by first | rfl | (simp; done) | (simp [*]; done)), H', ⟨by have := HK1.out; have := HK2.out; omega⟩, ⟨by (with_reducible repeat (first | apply Kd.R_alloc | apply Kd.R_drewN | apply Kd.R_drew)); exact HO_3.out⟩, ⟨Hd.b_⟩⟩
            ·
             rw [if_neg c23] at H
             have c23b0 : (t212 == 0) = false := beq_eq_false_iff_ne.mpr c23
             have c23b1 : (t212 != 0) = true := bne_iff_ne.mpr c23
             obtain rfl := Option.some.inj H
             try go_wp2
             replace HO_3 := Aside0.mk (Kd.R_drew HO_3.out)
             replace HB := Aside0.mk (below_drew1 HB.out)
             have p210 : 0 ≤ (x4_1 : Int) := of_decide_eq_true Hd.a_
             have q210 : x4_1 < (t203.length : Int) := of_decide_eq_true Hd.a_
             obtain ⟨ad210, e210, hx210_0, hx210_1, hx210_2, hx210_3⟩ := at_T111 (Kd.R_reads' HO_3.out).2.2 x4_1 p210 q210
             cases e210
             replace p210 := eq_true p210
             replace q210 := eq_true q210
             have p211 : 0 ≤ (x5_2 : Int) := of_decide_eq_true Hd.a_
             have q211 : x5_2 < (t203.length : Int) := of_decide_eq_true Hd.a_
             obtain ⟨ad211, e211, hx211_0, hx211_1, hx211_2, hx211_3⟩ := at_T111 (Kd.R_reads' HO_3.out).2.2 x5_2 p211 q211
             obtain rfl : ad210 = ad211 := (by injection e211)
             replace p211 := eq_true p211
             replace q211 := eq_true q211
             have s0_ := Hd.HW.x (W0 := wr.drew) hx210_0
             have s1_ := Hd.HW.x (W0 := wr.drew) hx210_1
             have s2_ := Hd.HW.x (W0 := wr.drew) hx210_2
             have s3_ := Hd.HW.x (W0 := wr.drew) hx210_3
             have s4_ := Hd.HW.x (W0 := wr.drew) hx211_0
             have s5_ := Hd.HW.x (W0 := wr.drew) hx211_1
             have s6_ := Hd.HW.x (W0 := wr.drew) hx211_2
             have s7_ := Hd.HW.x (W0 := wr.drew) hx211_3
             refine Hd.HW.region (by kernel_rfl) (by kernel_rfl) ?_
             repeat (go_big_quiet_step ((first | (go_at_call 129; with_reducible exact Hd.HW.c (spec_HowMeet.calls k2 ((rd_T111 t203 x4_1).f0.f0) ((rd_T111 t203 x4_1).f0.f1) ((rd_T111 t203 x4_1).f1.f0) ((rd_T111 t203 x4_1).f1.f1) ((rd_T111 t203 x5_2).f0.f0) ((rd_T111 t203 x5_2).f0.f1) ((rd_T111 t203 x5_2).f1.f0) ((rd_T111 t203 x5_2).f1.f1) t212 _ A22.out)))))
             refine wpQuiet_nil ?_
             intro _ hq_
             obtain ⟨q_, rfl⟩ := hq_
             clear s0_ s1_ s2_ s3_ s4_ s5_ s6_ s7_
             replace HO_3 := Aside0.mk (Kd.R_below HO_3.out q_.b)
             replace HB := Aside0.mk (below_step HB.out q_.b)
             replace hx210_0 := q_.cell hx210_0
             replace hx210_1 := q_.cell hx210_1
             replace hx210_2 := q_.cell hx210_2
             replace hx210_3 := q_.cell hx210_3
             replace hx211_0 := q_.cell hx211_0
             replace hx211_1 := q_.cell hx211_1
             replace hx211_2 := q_.cell hx211_2
             replace hx211_3 := q_.cell hx211_3
             generalize q_.W = w27 at HO_3 HB hx210_0 hx210_1 hx210_2 hx210_3 hx211_0 hx211_1 hx211_2 hx211_3 ⊢
             try simp only [i64_w, i32_w]
             try go_wp2
             go_ret
             exact ⟨Hd.e_, Hd.b_⟩
           ·
            rw [if_neg c21] at H
            exact absurd H (by simp)
          ·
           rw [if_neg c20] at H
           exact absurd H (by simp)
         ·
          rw [if_neg c19] at H
          exact absurd H (by simp)
        ·
         rw [if_neg c18] at H
         exact absurd H (by simp)
      ·
       rw [if_neg c6] at H
       have c6b0 : decide (x5_2 < x4_1) = false := decide_eq_false c6
       clear c6
       have H' := Aside0.mk H
       clear H
       go_wp2
       go_roundg k2
       case measure => have := HK1.out; have := HK2.out; omega
       case rel => exact ⟨(wrap64 (x4_1 + 1)), (by first | rfl | (simp; done) | (simp [*]; done)), H', ⟨by have := HK1.out; have := HK2.out; omega⟩, ⟨by (with_reducible repeat (first | apply Kd.R_alloc | apply Kd.R_drewN | apply Kd.R_drew)); exact HO_3.out⟩, ⟨Hd.b_⟩⟩
   ·
    rw [if_neg c4] at H
    have c4b0 : decide (x4_1 < (t203.length : Int)) = false := decide_eq_false c4
    clear c4
    replace H := Option.bind_eq_some_iff.mp H
    obtain ⟨t206, A280, H⟩ := H
    replace H : (some t206) = some r := H
    have A28 := Aside0.mk A280
    clear A280
    obtain rfl := Option.some.inj H
    obtain ⟨Ao29, co29, eo29⟩ := Kd.R_slice HO_3.out
    subst eo29
    go_wp2_with (first | ((with_reducible refine gate_callee (f := 154) rfl ?_); refine goesL_ (some 36) rfl rfl Try.func154 (by kernel_rfl) rfl #[.slice A0 l0.length c0] rfl Hd.m_ ?_; (with_reducible refine (spec_IsLine.calls k1 _ _ l0 t206 _ ?side1 ?side2 A28.out).mono ?_); (case side1 => repeat (first | exact (Kd.C_below HR0.out HB.out) | (with_reducible refine Kd.C_alloc ?_ _) | (with_reducible refine Kd.C_drewN ?_ _) | (with_reducible refine Kd.C_drew ?_))); (case side2 => exact HC0.out); rintro e w30 ⟨rfl, hb⟩; refine ⟨_, rfl, ?_⟩; replace HO_3 := Aside0.mk (Kd.R_below (Hd.r_ HO_3) hb); replace HB := Aside0.mk (below_step Hd.b_ hb); (try clear hb); (try clear hb2); (try clear hk); (try clear hi)))
    go_ret
    exact ⟨Hd.e_, Hd.b_⟩
def spec_IsName.l0 : Nat → ByteArray → Int → Option (Bool)
 | 0, _, _ => none
 | k + 1, x0, x3 => if x3 < (x0.size : Int) then (if 0 ≤ x3 then (if (bt x0 x3) < 97 then (some false) else (if (bt x0 x3) > 122 then (some false) else (spec_IsName.l0 k x0 (wrap64 (x3 + 1))))) else (none)) else ((spec_l1In.f (x0.size : Int) 1 8).bind fun t213 => (some t213))
def spec_IsName.f (k : Nat) (a0 : ByteArray) : Option (Bool) := spec_IsName.l0 k a0 0
set_option maxHeartbeats 8000000 in
set_option maxRecDepth 100000 in
theorem spec_IsName.calls (k : Nat) (a0 : ByteArray) (r : Bool) (w : World) (h : spec_IsName.f k a0 = some r) :
  Calls Try.prog 124 #[.string a0] w fun e w' => e = .returned (.bool r) ∧ Drawn0 w w' := by
 have H : (spec_IsName.l0 k a0 0) = some r := h
 clear h
 have H' := Aside0.mk H
 clear H
 go_enter Try.func124, Try.ntmps124
 go_wp2
 go_loopg [3] k (fun kq v3 w' => ∃ (x3_1 : Int), v3 = .int .i64 x3_1 ∧ Aside0 (spec_IsName.l0 kq a0 x3_1 = some r) ∧ Aside0 (kq ≤ k) ∧ Drawn0 w w')
 case atStart => exact ⟨(0), (by first | rfl | (simp; done) | (simp [*]; done)), H', ⟨Nat.le_refl _⟩, by repeat (first | exact Drawn0.refl _ | apply Drawn0.step)⟩
 case round =>
  clear H'
  try clear c1
  obtain ⟨x3_1, rfl, HA, HK1, ⟨m1, rfl⟩⟩ := hrel
  cases gk with
  | zero => exact absurd HA.out (by simp [spec_IsName.l0])
  | succ k1 =>
   have H := HA.out
   clear HA
   simp only [spec_IsName.l0] at H
   by_cases c2 : x3_1 < (a0.size : Int)
   ·
    rw [if_pos c2] at H
    have c2b0 : decide (x3_1 < (a0.size : Int)) = true := decide_eq_true c2
    clear c2
    by_cases c3 : 0 ≤ x3_1
    ·
     rw [if_pos c3] at H
     have c3b0 : decide (0 ≤ x3_1) = true := decide_eq_true c3
     clear c3
     by_cases c5 : (bt a0 x3_1) < 97
     ·
      rw [if_pos c5] at H
      have c5b0 : decide ((bt a0 x3_1) < 97) = true := decide_eq_true c5
      clear c5
      obtain rfl := Option.some.inj H
      have p4 : 0 ≤ (x3_1 : Int) := of_decide_eq_true Hd.a_
      have q4 : x3_1 < (a0.size : Int) := of_decide_eq_true Hd.a_
      have hx4 := bt_at a0 x3_1
      replace p4 := eq_true p4
      replace q4 := eq_true q4
      go_wp2
      go_ret
      exact ⟨by first | rfl | (simp; done) | (simp [*]; done), by repeat (first | exact Drawn0.refl _ | apply Drawn0.step)⟩
     ·
      rw [if_neg c5] at H
      have c5b0 : decide ((bt a0 x3_1) < 97) = false := decide_eq_false c5
      clear c5
      by_cases c7 : (bt a0 x3_1) > 122
      ·
       rw [if_pos c7] at H
       have c7b0 : decide (122 < (bt a0 x3_1)) = true := decide_eq_true c7
       clear c7
       obtain rfl := Option.some.inj H
       have p4 : 0 ≤ (x3_1 : Int) := of_decide_eq_true Hd.a_
       have q4 : x3_1 < (a0.size : Int) := of_decide_eq_true Hd.a_
       have hx4 := bt_at a0 x3_1
       replace p4 := eq_true p4
       replace q4 := eq_true q4
       have p6 : 0 ≤ (x3_1 : Int) := of_decide_eq_true Hd.a_
       have q6 : x3_1 < (a0.size : Int) := of_decide_eq_true Hd.a_
       have hx6 := bt_at a0 x3_1
       replace p6 := eq_true p6
       replace q6 := eq_true q6
       go_wp2
       go_ret
       exact ⟨by first | rfl | (simp; done) | (simp [*]; done), by repeat (first | exact Drawn0.refl _ | apply Drawn0.step)⟩
      ·
       rw [if_neg c7] at H
       have c7b0 : decide (122 < (bt a0 x3_1)) = false := decide_eq_false c7
       clear c7
       have H' := Aside0.mk H
       clear H
       have p4 : 0 ≤ (x3_1 : Int) := of_decide_eq_true Hd.a_
       have q4 : x3_1 < (a0.size : Int) := of_decide_eq_true Hd.a_
       have hx4 := bt_at a0 x3_1
       replace p4 := eq_true p4
       replace q4 := eq_true q4
       have p6 : 0 ≤ (x3_1 : Int) := of_decide_eq_true Hd.a_
       have q6 : x3_1 < (a0.size : Int) := of_decide_eq_true Hd.a_
       have hx6 := bt_at a0 x3_1
       replace p6 := eq_true p6
       replace q6 := eq_true q6
       go_wp2
       go_roundg k1
       case measure => have := HK1.out; omega
       case rel => exact ⟨(wrap64 (x3_1 + 1)), (by first | rfl | (simp; done) | (simp [*]; done)), H', ⟨by have := HK1.out; omega⟩, by repeat (first | exact Drawn0.refl _ | apply Drawn0.step)⟩
    ·
     rw [if_neg c3] at H
     exact absurd H (by simp)
   ·
    rw [if_neg c2] at H
    have c2b0 : decide (x3_1 < (a0.size : Int)) = false := decide_eq_false c2
    clear c2
    replace H := Option.bind_eq_some_iff.mp H
    obtain ⟨t213, A80, H⟩ := H
    replace H : (some t213) = some r := H
    have A8 := Aside0.mk A80
    clear A80
    obtain rfl := Option.some.inj H
    go_wp2_with (first | ((with_reducible refine gate_callee (f := 83) rfl ?_); refine goesL_ (some 22) rfl rfl Try.func83 (by kernel_rfl) rfl #[.int .i64 (a0.size : Int), .int .i64 1, .int .i64 8] rfl Hd.m_ ?_; (with_reducible refine (spec_l1In.calls (a0.size : Int) 1 8 t213 _ A8.out).mono ?_); rintro e w' ⟨rfl, ⟨nd, rfl⟩⟩; refine ⟨_, rfl, ?_⟩))
    go_ret
    exact ⟨by first | rfl | (simp; done) | (simp [*]; done), by repeat (first | exact Drawn0.refl _ | apply Drawn0.step)⟩
end Go.Proofs.Ytchmbcembbbplac.MFnExactIsSource
