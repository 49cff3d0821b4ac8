-- Laid by this session's program pp.py, after the kit's print and texts of the session's own. Not trusted: Lean checks it.
import Derived.Test.YtchmbcembbbplacZSafeSimplifyMx0
import Derived.Test.YtchmbcembbbplacZSafeSimplifyMx7
import Derived.Test.YtchmbcembbbplacZSafeSimplifyMx10
namespace Go.Proofs.Ytchmbcembbbplac.MFnExactSafeSimplify
open Go.RowKit Go.Proofs.YtchmbcembbbplacW.PrintWords Go.Proofs.YtchmbcembbbplacW.PrintLast Go.Proofs.YtchmbcembbbplacW.PrintMore
attribute [local go_sem] max2_int min2_int max_two min_two max_three min_three max_four min_four   -- for this text's walks alone
set_option linter.unusedVariables false
set_option linter.unusedSimpArgs false
def spec_SegmentsOf.l0 : Nat → List (S49) → List (S111) → Int → Option ((List (S111)))
 | 0, _, _, _ => none
 | k + 1, x0, x3, x4 => if x4 < (x0.length : Int) then ((spec_IsLine.f k x0).bind fun t350 => (if t350 = true then (if 0 ≤ (wrap64 (x4 - 1)) then (if (wrap64 (x4 - 1)) < (x0.length : Int) then (if 0 ≤ x4 then (if x3.length < 4398046511104 then (spec_SegmentsOf.l0 k x0 (x3 ++ [(⟨(⟨(rd_T49 x0 (wrap64 (x4 - 1))).f0, (rd_T49 x0 (wrap64 (x4 - 1))).f1⟩ : S49), (⟨(rd_T49 x0 x4).f0, (rd_T49 x0 x4).f1⟩ : S49)⟩ : S111)]) (wrap64 (x4 + 1))) else (none)) else (none)) else (none)) else (none)) else (some x3))) else (some x3)
def spec_SegmentsOf.f (k : Nat) (l0 : List (S49)) : Option ((List (S111))) := spec_SegmentsOf.l0 k l0 (([] : List (S111))) 1
def spec_SegmentsOf.T5 : Bool × List (List Nat × List Nat) := (true, [([], []), ([], []), ([], []), ([2], [2]), ([1, 3], [1, 3]), ([4], [4]), ([], []), ([], []), ([6, 7], [6, 7]), ([8], [8]), ([5, 9], [5, 9]), ([10], [10]), ([0, 11], [0, 11]), ([12, 12, 0, 1, 2, 3, 4, 5, 6, 7, 8, 9, 10, 11, 12], [0, 12])])
def spec_SegmentsOf.B5 : List Nat := [0, 0, 0, 4, 14, 30, 0, 0, 192, 448, 1022, 2046, 4095, 8191]
theorem spec_SegmentsOf.tab5 : rtab .any (opsOf Try.f132 5) = spec_SegmentsOf.T5 := by kernel_rfl
theorem spec_SegmentsOf.bits5 : waitsOk spec_SegmentsOf.T5.2 spec_SegmentsOf.B5 = true := by kernel_rfl
set_option maxHeartbeats 8000000 in
set_option maxRecDepth 100000 in
theorem spec_SegmentsOf.calls (k : Nat) (A0 : Option Addr) (c0 : Nat) (l0 : List (S49)) (r : List (S111)) (w : World) (hr0 : Kd.C k49 w A0 l0.length l0) (hc0 : l0.length ≤ c0) (h : spec_SegmentsOf.f k l0 = some r) :
  Calls Try.prog 132 #[.slice A0 l0.length c0] w fun e w' => ∃ v0_ : Value, e = .returned (v0_) ∧ Kd.R k111 111 w' w.heap.size (fun _ => True) v0_ r ∧ Below w.heap.size w w' := by
 have hu49 := Try.underlying49
 have hu111 := Try.underlying111
 have HR0 := Aside0.mk hr0
 have HC0 := Aside0.mk hc0
 clear hr0 hc0
 have HB := Aside0.mk (Below.refl w.heap.size w)
 have H : (spec_SegmentsOf.l0 k l0 (([] : List (S111))) 1) = some r := h
 clear h
 obtain ⟨y347, hy347⟩ : ∃ y_ : List (S111), y_ = (([] : List (S111))) := ⟨_, rfl⟩
 replace H : (spec_SegmentsOf.l0 k l0 y347 1) = some r := by first | (rw [hy347]; with_reducible exact H) | (have H2_ := (Option.bind_some _ _).symm.trans H; rw [hy347]; with_reducible exact H2_) | (have H2_ := (Option.bind_some _ _).symm.trans H; with_reducible exact H2_) | with_reducible exact H | (rw [hy347]; exact H) | exact H
 have Ny347 := Aside0.mk hy347
 clear hy347
 have H' := Aside0.mk H
 clear H
 go_enter Try.func132, Try.ntmps132
 go_wp2_with (first | ((with_reducible refine gate_dst (N := 5) rfl ?_); refine Kd.R_lit k111 _ 111 ?hg (N := 5) ?hd (xs := ([] : List (S111))) (inner := []) (ok := fun _ => True) (okp := fun _ => True) ?hr ?hp (fun _ hk => hk) trivial (Below.refl _ _) (Nat.le_refl _) (by simp) ?_; (case hd => rfl); (case hg => rfl); (case hr => first | (go_simp; done) | (go_simp; rfl)); (case hp => exact (Reps.none _ _)); intro v348 w2 ho3 hb hg_ hnew_; clear hg_ hnew_; (first | rw [← Ny347.out] at ho3 | (simp only [Int.reduceToNat] at ho3; rw [← Ny347.out] at ho3)); have HO349 := Aside0.mk (Kd.R_lower ho3 (below_size Hd.b_)); replace HB := Aside0.mk (below_step Hd.b_ hb); clear hb ho3))
 go_loopg [3, 4] k (fun kq v3 v4 w' => ∃ (x3_1 : List (S111)) (x4_1 : Int), v4 = .int .i64 x4_1 ∧ Aside0 (spec_SegmentsOf.l0 kq l0 x3_1 x4_1 = some r) ∧ Aside0 (kq ≤ k) ∧ Aside0 (Kd.R k111 111 w' w.heap.size (fun _ => True) v3 x3_1) ∧ Aside0 (Below w.heap.size w w'))
 case atStart => exact ⟨(y347), (1), (by first | rfl | (simp; done) | (simp [*]; done)), H', ⟨Nat.le_refl _⟩, ⟨by (with_reducible repeat (first | apply Kd.R_alloc | apply Kd.R_drewN | apply Kd.R_drew)); exact HO349.out⟩, ⟨Hd.b_⟩⟩
 case round =>
  clear H'
  try clear c1
  try clear p2
  obtain ⟨x3_1, x4_1, rfl, HA, HK1, HO_3, HB⟩ := hrel
  cases gk with
  | zero => exact absurd HA.out (by simp [spec_SegmentsOf.l0])
  | succ k1 =>
   have H := HA.out
   clear HA
   simp only [spec_SegmentsOf.l0] at H
   by_cases c4 : x4_1 < (l0.length : Int)
   ·
    rw [if_pos c4] at H
    have c4b0 : decide (x4_1 < (l0.length : Int)) = true := decide_eq_true c4
    clear c4
    replace H := Option.bind_eq_some_iff.mp H
    obtain ⟨t350, A50, H⟩ := H
    replace H : (if t350 = true then (if 0 ≤ (wrap64 (x4_1 - 1)) then (if (wrap64 (x4_1 - 1)) < (l0.length : Int) then (if 0 ≤ x4_1 then (if x3_1.length < 4398046511104 then (spec_SegmentsOf.l0 k1 l0 (x3_1 ++ [(⟨(⟨(rd_T49 l0 (wrap64 (x4_1 - 1))).f0, (rd_T49 l0 (wrap64 (x4_1 - 1))).f1⟩ : S49), (⟨(rd_T49 l0 x4_1).f0, (rd_T49 l0 x4_1).f1⟩ : S49)⟩ : S111)]) (wrap64 (x4_1 + 1))) else (none)) else (none)) else (none)) else (none)) else (some x3_1)) = some r := H
    have A5 := Aside0.mk A50
    clear A50
    by_cases c6 : t350 = true
    ·
     subst c6
     have H1 : (if 0 ≤ (wrap64 (x4_1 - 1)) then (if (wrap64 (x4_1 - 1)) < (l0.length : Int) then (if 0 ≤ x4_1 then (if x3_1.length < 4398046511104 then (spec_SegmentsOf.l0 k1 l0 (x3_1 ++ [(⟨(⟨(rd_T49 l0 (wrap64 (x4_1 - 1))).f0, (rd_T49 l0 (wrap64 (x4_1 - 1))).f1⟩ : S49), (⟨(rd_T49 l0 x4_1).f0, (rd_T49 l0 x4_1).f1⟩ : S49)⟩ : S111)]) (wrap64 (x4_1 + 1))) else (none)) else (none)) else (none)) else (none)) = some r := by rw [if_pos rfl] at H; exact H
     clear H
     have H := H1
     clear H1
     obtain ⟨ji7, hji7⟩ : ∃ j_ : Int, (wrap64 (x4_1 - 1)) = j_ := ⟨_, rfl⟩
     replace H : (if 0 ≤ (ji7) then (if (ji7) < (l0.length : Int) then (if 0 ≤ x4_1 then (if x3_1.length < 4398046511104 then (spec_SegmentsOf.l0 k1 l0 (x3_1 ++ [(⟨(⟨(rd_T49 l0 (ji7)).f0, (rd_T49 l0 (ji7)).f1⟩ : S49), (⟨(rd_T49 l0 x4_1).f0, (rd_T49 l0 x4_1).f1⟩ : S49)⟩ : S111)]) (wrap64 (x4_1 + 1))) else (none)) else (none)) else (none)) else (none)) = some r := by first | (rw [hji7] at H; exact H) | (simp only [hji7] at H ⊢; exact H)
     (try rw [hji7] at A5)
     have hji7w : (IntKind.i64.wrap (x4_1 - 1)) = ji7 := (i64_w _).trans hji7
     by_cases c8 : 0 ≤ (ji7)
     ·
      rw [if_pos c8] at H
      have c8b0 : decide (0 ≤ (ji7)) = true := decide_eq_true c8
      clear c8
      by_cases c9 : (ji7) < (l0.length : Int)
      ·
       rw [if_pos c9] at H
       have c9b0 : decide ((ji7) < (l0.length : Int)) = true := decide_eq_true c9
       clear c9
       by_cases c10 : 0 ≤ x4_1
       ·
        rw [if_pos c10] at H
        have c10b0 : decide (0 ≤ x4_1) = true := decide_eq_true c10
        clear c10
        by_cases c11 : x3_1.length < 4398046511104
        ·
         rw [if_pos c11] at H
         have LMc11 := Aside0.mk c11
         clear c11
         obtain ⟨y353, hy353⟩ : ∃ y_ : List (S111), y_ = (x3_1 ++ [(⟨(⟨(rd_T49 l0 (ji7)).f0, (rd_T49 l0 (ji7)).f1⟩ : S49), (⟨(rd_T49 l0 x4_1).f0, (rd_T49 l0 x4_1).f1⟩ : S49)⟩ : S111)]) := ⟨_, rfl⟩
         replace H : (spec_SegmentsOf.l0 k1 l0 y353 (wrap64 (x4_1 + 1))) = some r := by first | (rw [hy353]; with_reducible exact H) | (have H2_ := (Option.bind_some _ _).symm.trans H; rw [hy353]; with_reducible exact H2_) | (have H2_ := (Option.bind_some _ _).symm.trans H; with_reducible exact H2_) | with_reducible exact H | (rw [hy353]; exact H) | exact H
         have Ny353 := Aside0.mk hy353
         clear hy353
         have H' := Aside0.mk H
         clear H
         try go_wp2_with (first | (go_at_call 154; (with_reducible refine (spec_IsLine.calls k1 _ _ l0 true _ ?side1 ?side2 A5.out).mono ?_); (case side1 => repeat (first | exact (Kd.C_below HR0.out HB.out) | (with_reducible refine Kd.C_alloc ?_ _) | (with_reducible refine Kd.C_drewN ?_ _) | (with_reducible refine Kd.C_drew ?_))); (case side2 => exact HC0.out); rintro e w12 ⟨rfl, hb⟩; replace HO_3 := Aside0.mk (Kd.R_below (Hd.r_ HO_3) hb); replace HB := Aside0.mk (below_step Hd.b_ hb); (try clear hb); (try clear hb2); (try clear hk); (try clear hi)))
         replace HO_3 := Aside0.mk (Kd.R_drew HO_3.out)
         replace HB := Aside0.mk (below_drew1 HB.out)
         have p351 : 0 ≤ ((ji7) : Int) := of_decide_eq_true Hd.a_
         have q351 : (ji7) < (l0.length : Int) := of_decide_eq_true Hd.a_
         obtain ⟨ad351, e351, hx351_0, hx351_1⟩ := at_T49 HR0.out (ji7) p351 q351
         have hw351_1 := hx351_1
         have hw351_0 := hx351_0
         cases e351
         replace hx351_0 := (HB.out.cell (World.block_lt_of_cell? w _ hx351_0)).trans hx351_0
         replace hx351_1 := (HB.out.cell (World.block_lt_of_cell? w _ hx351_1)).trans hx351_1
         replace p351 := eq_true p351
         replace q351 := eq_true q351
         have p352 : 0 ≤ (x4_1 : Int) := of_decide_eq_true Hd.a_
         have q352 : x4_1 < (l0.length : Int) := of_decide_eq_true Hd.a_
         obtain ⟨ad352, e352, hx352_0, hx352_1⟩ := at_T49 HR0.out x4_1 p352 q352
         have hw352_1 := hx352_1
         have hw352_0 := hx352_0
         obtain rfl : ad351 = ad352 := (by injection e352)
         replace hx352_0 := (HB.out.cell (World.block_lt_of_cell? w _ hx352_0)).trans hx352_0
         replace hx352_1 := (HB.out.cell (World.block_lt_of_cell? w _ hx352_1)).trans hx352_1
         replace p352 := eq_true p352
         replace q352 := eq_true q352
         refine start_ (n := 14) (S := fun w' => w'.cell? (ad351.add (((ji7)).toNat * 2)) = some (.int .i64 ((rd_T49 l0 (ji7)).f0)) ∧ w'.cell? ⟨(ad351.add (((ji7)).toNat * 2)).block, (ad351.add (((ji7)).toNat * 2)).off + 1, none⟩ = some (.int .i64 ((rd_T49 l0 (ji7)).f1)) ∧ w'.cell? (ad351.add ((x4_1).toNat * 2)) = some (.int .i64 ((rd_T49 l0 x4_1).f0)) ∧ w'.cell? ⟨(ad351.add ((x4_1).toNat * 2)).block, (ad351.add ((x4_1).toNat * 2)).off + 1, none⟩ = some (.int .i64 ((rd_T49 l0 x4_1).f1))) (ds := []) #[false, false, false, false, false, false, false, false, false, false, false, false, false, false] (by kernel_rfl) rfl rfl ⟨((HB.out.cell (World.block_lt_of_cell? w _ hw351_0)).trans hw351_0), ((HB.out.cell (World.block_lt_of_cell? w _ hw351_1)).trans hw351_1), ((HB.out.cell (World.block_lt_of_cell? w _ hw352_0)).trans hw352_0), ((HB.out.cell (World.block_lt_of_cell? w _ hw352_1)).trans hw352_1)⟩ (fun hHeld => ?_); refine with_tabW spec_SegmentsOf.tab5 spec_SegmentsOf.bits5 (fun HT_ HW_ => ?_)
         generalize w12.drew = w13 at HO_3 HB hx351_0 hx351_1 hx352_0 hx352_1 hHeld ⊢
         refine Hd.p_ HT_ 0 (some 16) #[true, false, false, false, false, false, false, false, false, false, false, false, false, false] ?_
         refine Hd.p_ HT_ 1 (some 17) #[true, true, false, false, false, false, false, false, false, false, false, false, false, false] ?_
         refine Hd.p_ HT_ 2 (some 18) #[true, true, true, false, false, false, false, false, false, false, false, false, false, false] ?_
         refine Hd.p_ HT_ 3 (some 19) #[true, true, true, true, false, false, false, false, false, false, false, false, false, false] ?_
         refine Hd.p_ HT_ 4 (some 20) #[true, true, true, true, true, false, false, false, false, false, false, false, false, false] ?_
         refine Hd.p_ HT_ 6 (some 22) #[true, true, true, true, true, false, true, false, false, false, false, false, false, false] ?_
         refine Hd.p_ HT_ 7 (some 23) #[true, true, true, true, true, false, true, true, false, false, false, false, false, false] ?_
         refine Hd.p_ HT_ 8 (some 24) #[true, true, true, true, true, false, true, true, true, false, false, false, false, false] ?_
         refine Hd.t_ HT_ HW_ hHeld 5 (some 21) #[true, true, true, true, true, true, true, true, true, false, false, false, false, false] ?_
         refine Hd.t_ HT_ HW_ hHeld 9 (some 25) #[true, true, true, true, true, true, true, true, true, true, false, false, false, false] ?_
         refine Hd.p_ HT_ 10 (some 26) #[true, true, true, true, true, true, true, true, true, true, true, false, false, false] ?_
         refine Hd.o_ HT_ 11 (some 27) #[true, true, true, true, true, true, true, true, true, true, true, true, false, false] (fun K hK => ?_)
         refine value_ (w1 := ?_) (v := ?_) (by rfl) rfl ?_ ?_
         rotate_left 2
         ·
          go_simp
          constructor
          ·
           rfl
          ·
           rfl
         refine hK.out _ _ ⟨(World.cell?_alloc_lt _ _ _ (World.block_lt_of_cell? _ _ (((HB.out.cell (World.block_lt_of_cell? w _ hw351_0)).trans hw351_0)))).trans (((HB.out.cell (World.block_lt_of_cell? w _ hw351_0)).trans hw351_0)), (World.cell?_alloc_lt _ _ _ (World.block_lt_of_cell? _ _ (((HB.out.cell (World.block_lt_of_cell? w _ hw351_1)).trans hw351_1)))).trans (((HB.out.cell (World.block_lt_of_cell? w _ hw351_1)).trans hw351_1)), (World.cell?_alloc_lt _ _ _ (World.block_lt_of_cell? _ _ (((HB.out.cell (World.block_lt_of_cell? w _ hw352_0)).trans hw352_0)))).trans (((HB.out.cell (World.block_lt_of_cell? w _ hw352_0)).trans hw352_0)), (World.cell?_alloc_lt _ _ _ (World.block_lt_of_cell? _ _ (((HB.out.cell (World.block_lt_of_cell? w _ hw352_1)).trans hw352_1)))).trans (((HB.out.cell (World.block_lt_of_cell? w _ hw352_1)).trans hw352_1))⟩ (fun hHeld => ?_)
         clear hK K
         refine Hd.n_ (some 27) ?_
         refine Hd.o_ HT_ 12 (some 28) #[true, true, true, true, true, true, true, true, true, true, true, true, true, false] (fun K hK => ?_)
         refine Kd.R_append_step k111 (w0 := w) w.heap.size (by rfl) (.tmp 16) (.tmp 27) 91 111 (.agg #[(.int .i64 0), (.int .i64 0), (.int .i64 0), (.int .i64 0)]) 32 rfl Try.underlying91 info111 rfl (by decide) (by omega) u3 x3_1 (⟨(⟨(rd_T49 l0 (ji7)).f0, (rd_T49 l0 (ji7)).f1⟩ : S49), (⟨(rd_T49 l0 x4_1).f0, (rd_T49 l0 x4_1).f1⟩ : S49)⟩ : S111) [.int .i64 ((rd_T49 l0 (ji7)).f0), .int .i64 ((rd_T49 l0 (ji7)).f1), .int .i64 ((rd_T49 l0 x4_1).f0), .int .i64 ((rd_T49 l0 x4_1).f1)] (fun _ => True) (fun _ => False) rfl rfl ?aP (fun _ hk => hk.elim) ?aF ?aO ?aB ?aS ?aL ?_
         (case aP => exact k111_mkM _ _ _ (⟨(⟨(rd_T49 l0 (ji7)).f0, (rd_T49 l0 (ji7)).f1⟩ : S49), (⟨(rd_T49 l0 x4_1).f0, (rd_T49 l0 x4_1).f1⟩ : S49)⟩ : S111))
         (case aB => exact Hd.b_)
         (case aF => exact (fun _ _ => trivial))
         (case aO => exact (Hd.r_ HO_3))
         (case aS => exact (below_size Hd.b_))
         (case aL => have := LMc11.out; omega)
         intro v354 w14 ho hb hg hat
         rw [← Ny353.out] at ho
         have n0_ := Aside0.mk (hb)
         have n1_ := Aside0.mk (ho)
         clear HB
         clear HO_3
         have HB := n0_
         have HO355 := n1_
         clear n0_ n1_
         clear ho hb hg hat
         refine hK.out _ _ ⟨((HB.out.cell (World.block_lt_of_cell? w _ hw351_0)).trans hw351_0), ((HB.out.cell (World.block_lt_of_cell? w _ hw351_1)).trans hw351_1), ((HB.out.cell (World.block_lt_of_cell? w _ hw352_0)).trans hw352_0), ((HB.out.cell (World.block_lt_of_cell? w _ hw352_1)).trans hw352_1)⟩ (fun hHeld => ?_)
         clear hK K
         refine Hd.n_ (some 28) ?_
         refine Hd.p_ HT_ 13 (some 3) #[true, true, true, true, true, true, true, true, true, true, true, true, true, true] ?_
         refine done_ (done_of HT_.out (by kernel_rfl)) ?_
         try go_wp2
         go_roundg k1
         case measure => have := HK1.out; omega
         case rel => exact ⟨(y353), (wrap64 (x4_1 + 1)), (by first | rfl | (simp; done) | (simp [*]; done)), H', ⟨by have := HK1.out; omega⟩, ⟨by (with_reducible repeat (first | apply Kd.R_alloc | apply Kd.R_drewN | apply Kd.R_drew)); exact HO355.out⟩, ⟨Hd.b_⟩⟩
        ·
         rw [if_neg c11] at H
         exact absurd H (by simp)
       ·
        rw [if_neg c10] at H
        exact absurd H (by simp)
      ·
       rw [if_neg c9] at H
       exact absurd H (by simp)
     ·
      rw [if_neg c8] at H
      exact absurd H (by simp)
    ·
     replace c6 := Bool.eq_false_iff.mpr c6
     subst c6
     have H1 : (some x3_1) = some r := by rw [if_neg (show ¬ (false = true) by decide)] at H; exact H
     clear H
     have H := H1
     clear H1
     obtain rfl := Option.some.inj H
     go_wp2_with (first | (go_at_call 154; (with_reducible refine (spec_IsLine.calls k1 _ _ l0 false _ ?side1 ?side2 A5.out).mono ?_); (case side1 => repeat (first | exact (Kd.C_below HR0.out HB.out) | (with_reducible refine Kd.C_alloc ?_ _) | (with_reducible refine Kd.C_drewN ?_ _) | (with_reducible refine Kd.C_drew ?_))); (case side2 => exact HC0.out); rintro e w15 ⟨rfl, hb⟩; replace HO_3 := Aside0.mk (Kd.R_below (Hd.r_ HO_3) hb); replace HB := Aside0.mk (below_step Hd.b_ hb); (try clear hb); (try clear hb2); (try clear hk); (try clear hi)))
     go_ret
     exact ⟨_, Hd.e_, by (with_reducible repeat (first | apply Kd.R_alloc | apply Kd.R_drewN | apply Kd.R_drew)); exact HO_3.out, Hd.b_⟩
   ·
    rw [if_neg c4] at H
    have c4b0 : decide (x4_1 < (l0.length : Int)) = false := decide_eq_false c4
    clear c4
    obtain rfl := Option.some.inj H
    go_wp2
    go_ret
    exact ⟨_, Hd.e_, by (with_reducible repeat (first | apply Kd.R_alloc | apply Kd.R_drewN | apply Kd.R_drew)); exact HO_3.out, Hd.b_⟩
mutual
def spec_LinesMeet.l0 : Nat → Int → List (S111) → List (S111) → Int → Option (Int)
 | 0, _, _, _, _ => none
 | k + 1, x5, x6, x7, x8 => if x8 < (x6.length : Int) then (spec_LinesMeet.l1 k x5 x6 x7 x8 0) else (some x5)
def spec_LinesMeet.l1 : Nat → Int → List (S111) → List (S111) → Int → Int → Option (Int)
 | 0, _, _, _, _, _ => none
 | k + 1, x5, x6, x7, x8, x9 => if x9 < (x7.length : Int) then (if 0 ≤ x8 then (if x8 < (x6.length : Int) then (if 0 ≤ x9 then ((spec_HowMeet.f k ((rd_T111 x6 x8).f0.f0) ((rd_T111 x6 x8).f0.f1) ((rd_T111 x6 x8).f1.f0) ((rd_T111 x6 x8).f1.f1) ((rd_T111 x7 x9).f0.f0) ((rd_T111 x7 x9).f0.f1) ((rd_T111 x7 x9).f1.f0) ((rd_T111 x7 x9).f1.f1)).bind fun t364 => ((spec_Max.f x5 t364).bind fun t365 => (spec_LinesMeet.l1 k t365 x6 x7 x8 (wrap64 (x9 + 1))))) else (none)) else (none)) else (none)) else (spec_LinesMeet.l0 k x5 x6 x7 (wrap64 (x8 + 1)))
end
def spec_LinesMeet.f (k : Nat) (l0 : List (S49)) (l1 : List (S49)) : Option (Int) := (spec_SegmentsOf.f k l0).bind fun t356 => ((spec_SegmentsOf.f k l1).bind fun t359 => (spec_LinesMeet.l0 k 0 t356 t359 0))
set_option maxHeartbeats 8000000 in
set_option maxRecDepth 100000 in
theorem spec_LinesMeet.calls (k : Nat) (A0 : Option Addr) (c0 : Nat) (l0 : List (S49)) (A1 : Option Addr) (c1 : Nat) (l1 : List (S49)) (r : Int) (w : World) (hr0 : Kd.C k49 w A0 l0.length l0) (hc0 : l0.length ≤ c0) (hr1 : Kd.C k49 w A1 l1.length l1) (hc1 : l1.length ≤ c1) (h : spec_LinesMeet.f k l0 l1 = some r) :
  Calls Try.prog 78 #[.slice A0 l0.length c0, .slice A1 l1.length c1] w fun e w' => e = .returned (.int .i64 r) ∧ Below w.heap.size w w' := by
 have hu111 := Try.underlying111
 have HR0 := Aside0.mk hr0
 have HC0 := Aside0.mk hc0
 clear hr0 hc0
 have HR1 := Aside0.mk hr1
 have HC1 := Aside0.mk hc1
 clear hr1 hc1
 have HB := Aside0.mk (Below.refl w.heap.size w)
 have H : ((spec_SegmentsOf.f k l0).bind fun t356 => ((spec_SegmentsOf.f k l1).bind fun t359 => (spec_LinesMeet.l0 k 0 t356 t359 0))) = some r := h
 clear h
 replace H := Option.bind_eq_some_iff.mp H
 obtain ⟨t356, A30, H⟩ := H
 replace H : ((spec_SegmentsOf.f k l1).bind fun t359 => (spec_LinesMeet.l0 k 0 t356 t359 0)) = some r := H
 have A3 := Aside0.mk A30
 clear A30
 replace H := Option.bind_eq_some_iff.mp H
 obtain ⟨t359, A40, H⟩ := H
 replace H : (spec_LinesMeet.l0 k 0 t356 t359 0) = some r := H
 have A4 := Aside0.mk A40
 clear A40
 have H' := Aside0.mk H
 clear H
 go_enter Try.func78, Try.ntmps78
 go_wp2_with (first | ((with_reducible refine gate_callee (f := 132) rfl ?_); refine goesL_ (some 11) rfl rfl Try.func132 (by kernel_rfl) rfl #[.slice A0 l0.length c0] rfl Hd.m_ ?_; (with_reducible refine (spec_SegmentsOf.calls k _ _ l0 t356 _ ?side1 ?side2 A3.out).mono ?_); (case side1 => repeat (first | exact HR0.out | (with_reducible refine Kd.C_alloc ?_ _) | (with_reducible refine Kd.C_drewN ?_ _) | (with_reducible refine Kd.C_drew ?_))); (case side2 => exact HC0.out); rintro e w5 ⟨v357, rfl, ho0, hb⟩; refine ⟨_, rfl, ?_⟩; have HO358 := Aside0.mk (Kd.R_lower ho0 (below_size Hd.b_)); replace HB := Aside0.mk (below_step Hd.b_ hb); (try clear hb); (try clear hb2); (try clear hk); (try clear hi); (try clear ho0)) | ((with_reducible refine gate_callee (f := 132) rfl ?_); refine goesL_ (some 13) rfl rfl Try.func132 (by kernel_rfl) rfl #[.slice A1 l1.length c1] rfl Hd.m_ ?_; (with_reducible refine (spec_SegmentsOf.calls k _ _ l1 t359 _ ?side1 ?side2 A4.out).mono ?_); (case side1 => repeat (first | exact (Kd.C_below HR1.out HB.out) | (with_reducible refine Kd.C_alloc ?_ _) | (with_reducible refine Kd.C_drewN ?_ _) | (with_reducible refine Kd.C_drew ?_))); (case side2 => exact HC1.out); rintro e w6 ⟨v360, rfl, ho0, hb⟩; refine ⟨_, rfl, ?_⟩; have HO361 := Aside0.mk (Kd.R_lower (Kd.R_new' ho0 (Kd.R_lt (Hd.r_ HO358))) (below_size Hd.b_)); replace HO358 := Aside0.mk (Kd.R_elder' (Hd.r_ HO358) (Kd.R_base ho0) hb); replace HB := Aside0.mk (below_step Hd.b_ hb); (try clear hb); (try clear hb2); (try clear hk); (try clear hi); (try clear ho0)))
 go_loopg [5, 8] k (fun kq v5 v8 w' => ∃ (x5_1 : Int) (x8_1 : Int), v5 = .int .i64 x5_1 ∧ v8 = .int .i64 x8_1 ∧ Aside0 (spec_LinesMeet.l0 kq x5_1 t356 t359 x8_1 = some r) ∧ Aside0 (kq ≤ k) ∧ Aside0 (Kd.R k111 111 w' w.heap.size (fun k_ => some k_ ≠ (v360 : Value).ownBlock) v357 t356) ∧ Aside0 (Kd.R k111 111 w' w.heap.size (fun k_ => some k_ ≠ (v357 : Value).ownBlock) v360 t359) ∧ Aside0 (Below w.heap.size w w'))
 case atStart => exact ⟨(0), (0), (by first | rfl | (simp; done) | (simp [*]; done)), (by first | rfl | (simp; done) | (simp [*]; done)), H', ⟨Nat.le_refl _⟩, ⟨by (with_reducible repeat (first | apply Kd.R_alloc | apply Kd.R_drewN | apply Kd.R_drew)); exact Kd.R_mono HO358.out (fun _ hk => hk.2)⟩, ⟨by (with_reducible repeat (first | apply Kd.R_alloc | apply Kd.R_drewN | apply Kd.R_drew)); exact Kd.R_mono HO361.out (fun _ hk => hk.2)⟩, ⟨Hd.b_⟩⟩
 case round =>
  clear H'
  try clear c1
  try clear p2
  obtain ⟨x5_1, x8_1, rfl, rfl, HA, HK1, HO_6, HO_7, HB⟩ := hrel
  cases gk with
  | zero => exact absurd HA.out (by simp [spec_LinesMeet.l0])
  | succ k1 =>
   have H := HA.out
   clear HA
   simp only [spec_LinesMeet.l0] at H
   by_cases c7 : x8_1 < (t356.length : Int)
   ·
    rw [if_pos c7] at H
    have c7b0 : decide (x8_1 < (t356.length : Int)) = true := decide_eq_true c7
    clear c7
    have H' := Aside0.mk H
    clear H
    obtain ⟨Ao8, co8, eo8⟩ := Kd.R_slice HO_6.out
    subst eo8
    go_wp2
    go_loopg [5, 9] k1 (fun kq v5 v9 w' => ∃ (x5_2 : Int) (x9_2 : Int), v5 = .int .i64 x5_2 ∧ v9 = .int .i64 x9_2 ∧ Aside0 (spec_LinesMeet.l1 kq x5_2 t356 t359 x8_1 x9_2 = some r) ∧ Aside0 (kq ≤ k1) ∧ Aside0 (Kd.R k111 111 w' w.heap.size (fun k_ => some k_ ≠ (v360 : Value).ownBlock) (.slice Ao8 t356.length co8) t356) ∧ Aside0 (Kd.R k111 111 w' w.heap.size (fun k_ => some k_ ≠ ((.slice Ao8 t356.length co8) : Value).ownBlock) v360 t359) ∧ Aside0 (Below w.heap.size w w'))
    case atStart => exact ⟨(x5_1), (0), (by first | rfl | (simp; done) | (simp [*]; done)), (by first | rfl | (simp; done) | (simp [*]; done)), H', ⟨Nat.le_refl _⟩, ⟨by (with_reducible repeat (first | apply Kd.R_alloc | apply Kd.R_drewN | apply Kd.R_drew)); exact HO_6.out⟩, ⟨by (with_reducible repeat (first | apply Kd.R_alloc | apply Kd.R_drewN | apply Kd.R_drew)); exact HO_7.out⟩, ⟨Hd.b_⟩⟩
    case round =>
     clear H'
     try clear c1
     try clear p2
     try clear c7
     try clear c7b0
     try clear p2
     obtain ⟨x5_2, x9_2, rfl, rfl, HA, HK2, HO_6, HO_7, HB⟩ := hrel
     cases gk with
     | zero => exact absurd HA.out (by simp [spec_LinesMeet.l1])
     | succ k2 =>
      have H := HA.out
      clear HA
      simp only [spec_LinesMeet.l1] at H
      by_cases c9 : x9_2 < (t359.length : Int)
      ·
       rw [if_pos c9] at H
       have c9b0 : decide (x9_2 < (t359.length : Int)) = true := decide_eq_true c9
       clear c9
       by_cases c10 : 0 ≤ x8_1
       ·
        rw [if_pos c10] at H
        have c10b0 : decide (0 ≤ x8_1) = true := decide_eq_true c10
        clear c10
        by_cases c11 : x8_1 < (t356.length : Int)
        ·
         rw [if_pos c11] at H
         have c11b0 : decide (x8_1 < (t356.length : Int)) = true := decide_eq_true c11
         clear c11
         by_cases c12 : 0 ≤ x9_2
         ·
          rw [if_pos c12] at H
          have c12b0 : decide (0 ≤ x9_2) = true := decide_eq_true c12
          clear c12
          replace H := Option.bind_eq_some_iff.mp H
          obtain ⟨t364, A130, H⟩ := H
          replace H : ((spec_Max.f x5_2 t364).bind fun t365 => (spec_LinesMeet.l1 k2 t365 t356 t359 x8_1 (wrap64 (x9_2 + 1)))) = some r := H
          have A13 := Aside0.mk A130
          clear A130
          replace H := Option.bind_eq_some_iff.mp H
          obtain ⟨t365, A140, H⟩ := H
          replace H : (spec_LinesMeet.l1 k2 t365 t356 t359 x8_1 (wrap64 (x9_2 + 1))) = some r := H
          have A14 := Aside0.mk A140
          clear A140
          have H' := Aside0.mk H
          clear H
          obtain ⟨Ao15, co15, eo15⟩ := Kd.R_slice HO_7.out
          subst eo15
          try go_wp2
          replace HO_6 := Aside0.mk (Kd.R_drew HO_6.out)
          replace HO_7 := Aside0.mk (Kd.R_drew HO_7.out)
          replace HB := Aside0.mk (below_drew1 HB.out)
          have p362 : 0 ≤ (x8_1 : Int) := of_decide_eq_true Hd.a_
          have q362 : x8_1 < (t356.length : Int) := of_decide_eq_true Hd.a_
          obtain ⟨ad362, e362, hx362_0, hx362_1, hx362_2, hx362_3⟩ := at_T111 (Kd.R_reads' HO_6.out).2.2 x8_1 p362 q362
          cases e362
          replace p362 := eq_true p362
          replace q362 := eq_true q362
          have p363 : 0 ≤ (x9_2 : Int) := of_decide_eq_true Hd.a_
          have q363 : x9_2 < (t359.length : Int) := of_decide_eq_true Hd.a_
          obtain ⟨ad363, e363, hx363_0, hx363_1, hx363_2, hx363_3⟩ := at_T111 (Kd.R_reads' HO_7.out).2.2 x9_2 p363 q363
          cases e363
          replace p363 := eq_true p363
          replace q363 := eq_true q363
          have s0_ := Hd.HW.x (W0 := wr.drew) hx362_0
          have s1_ := Hd.HW.x (W0 := wr.drew) hx362_1
          have s2_ := Hd.HW.x (W0 := wr.drew) hx362_2
          have s3_ := Hd.HW.x (W0 := wr.drew) hx362_3
          have s4_ := Hd.HW.x (W0 := wr.drew) hx363_0
          have s5_ := Hd.HW.x (W0 := wr.drew) hx363_1
          have s6_ := Hd.HW.x (W0 := wr.drew) hx363_2
          have s7_ := Hd.HW.x (W0 := wr.drew) hx363_3
          refine Hd.HW.region (by kernel_rfl) (by kernel_rfl) ?_
          repeat (go_big_quiet_step ((first | (go_at_call 129; with_reducible exact Hd.HW.c (spec_HowMeet.calls k2 ((rd_T111 t356 x8_1).f0.f0) ((rd_T111 t356 x8_1).f0.f1) ((rd_T111 t356 x8_1).f1.f0) ((rd_T111 t356 x8_1).f1.f1) ((rd_T111 t359 x9_2).f0.f0) ((rd_T111 t359 x9_2).f0.f1) ((rd_T111 t359 x9_2).f1.f0) ((rd_T111 t359 x9_2).f1.f1) t364 _ A13.out)) | (go_at_call 128; with_reducible exact Hd.HW.d (spec_Max.calls x5_2 t364 t365 _ A14.out)))))
          refine wpQuiet_nil ?_
          intro _ hq_
          obtain ⟨q_, rfl⟩ := hq_
          clear s0_ s1_ s2_ s3_ s4_ s5_ s6_ s7_
          replace HO_6 := Aside0.mk (Kd.R_below HO_6.out q_.b)
          replace HO_7 := Aside0.mk (Kd.R_below HO_7.out q_.b)
          replace HB := Aside0.mk (below_step HB.out q_.b)
          replace hx362_0 := q_.cell hx362_0
          replace hx362_1 := q_.cell hx362_1
          replace hx362_2 := q_.cell hx362_2
          replace hx362_3 := q_.cell hx362_3
          replace hx363_0 := q_.cell hx363_0
          replace hx363_1 := q_.cell hx363_1
          replace hx363_2 := q_.cell hx363_2
          replace hx363_3 := q_.cell hx363_3
          generalize q_.W = w17 at HO_6 HO_7 HB hx362_0 hx362_1 hx362_2 hx362_3 hx363_0 hx363_1 hx363_2 hx363_3 ⊢
          try simp only [i64_w, i32_w]
          try go_wp2
          go_roundg k2
          case measure => have := HK1.out; have := HK2.out; omega
          case rel => exact ⟨(t365), (wrap64 (x9_2 + 1)), (by first | rfl | (simp; done) | (simp [*]; done)), (by first | rfl | (simp; done) | (simp [*]; done)), H', ⟨by have := HK1.out; have := HK2.out; omega⟩, ⟨by (with_reducible repeat (first | apply Kd.R_alloc | apply Kd.R_drewN | apply Kd.R_drew)); exact HO_6.out⟩, ⟨by (with_reducible repeat (first | apply Kd.R_alloc | apply Kd.R_drewN | apply Kd.R_drew)); exact HO_7.out⟩, ⟨Hd.b_⟩⟩
         ·
          rw [if_neg c12] at H
          exact absurd H (by simp)
        ·
         rw [if_neg c11] at H
         exact absurd H (by simp)
       ·
        rw [if_neg c10] at H
        exact absurd H (by simp)
      ·
       rw [if_neg c9] at H
       have c9b0 : decide (x9_2 < (t359.length : Int)) = false := decide_eq_false c9
       clear c9
       have H' := Aside0.mk H
       clear H
       obtain ⟨Ao18, co18, eo18⟩ := Kd.R_slice HO_7.out
       subst eo18
       go_wp2
       go_roundg k2
       case measure => have := HK1.out; have := HK2.out; omega
       case rel => exact ⟨(x5_2), (wrap64 (x8_1 + 1)), (by first | rfl | (simp; done) | (simp [*]; done)), (by first | rfl | (simp; done) | (simp [*]; done)), H', ⟨by have := HK1.out; have := HK2.out; omega⟩, ⟨by (with_reducible repeat (first | apply Kd.R_alloc | apply Kd.R_drewN | apply Kd.R_drew)); exact HO_6.out⟩, ⟨by (with_reducible repeat (first | apply Kd.R_alloc | apply Kd.R_drewN | apply Kd.R_drew)); exact HO_7.out⟩, ⟨Hd.b_⟩⟩
   ·
    rw [if_neg c7] at H
    have c7b0 : decide (x8_1 < (t356.length : Int)) = false := decide_eq_false c7
    clear c7
    obtain rfl := Option.some.inj H
    obtain ⟨Ao19, co19, eo19⟩ := Kd.R_slice HO_6.out
    subst eo19
    go_wp2
    go_ret
    exact ⟨Hd.e_, Hd.b_⟩
def spec_DropPoint.j0 : Nat → List (S49) → Int → Bool → Option ((List (S49)) × Bool)
 | 0, _, _, _ => none
 | k + 1, x0, x1, x17 => if x17 = true then ((some (([] : List (S49)) : List (S49))).bind fun y368 => (if y368.length + x0.length < 8796093022208 then (some ((y368 ++ x0), false)) else (none))) else ((some (([] : List (S49)) : List (S49))).bind fun y374 => (if 0 ≤ x1 then (if x1 ≤ (x0.length : Int) then ((some (x0.take (x1 : Int).toNat : List (S49))).bind fun y377 => (if y374.length + y377.length < 8796093022208 then ((some (y374 ++ y377 : List (S49))).bind fun y381 => (if 0 ≤ (wrap64 (x1 + 1)) then (if (wrap64 (x1 + 1)) ≤ (x0.length : Int) then ((some (x0.drop ((wrap64 (x1 + 1)) : Int).toNat : List (S49))).bind fun y384 => (if y381.length + y384.length < 8796093022208 then ((some (y381 ++ y384 : List (S49))).bind fun y388 => ((spec_IsLine.f k y388).bind fun t391 => (if t391 = true then (some (y388, true)) else ((some (([] : List (S49)) : List (S49))).bind fun y392 => (if y392.length + x0.length < 8796093022208 then (some ((y392 ++ x0), false)) else (none)))))) else (none))) else (none)) else (none))) else (none))) else (none)) else (none)))
def spec_DropPoint.f (k : Nat) (l0 : List (S49)) (a1 : Int) : Option ((List (S49)) × Bool) := (spec_IsLine.f k l0).bind fun t366 => (if t366 = true then ((spec_l1In.f a1 1 (wrap64 ((l0.length : Int) - 2))).bind fun t367 => (spec_DropPoint.j0 k l0 a1 (!t367))) else (spec_DropPoint.j0 k l0 a1 true))
def spec_DropPoint.T3 : Bool × List (List Nat × List Nat) := (true, [([], []), ([], []), ([], []), ([1, 2], [1, 2]), ([0, 3], [0, 3]), ([], []), ([], []), ([6], [6]), ([5, 7], [5, 7]), ([4, 8, 4], [4, 8]), ([9, 9, 0, 1, 2, 3, 4, 5, 6, 7, 8, 9], [9])])
def spec_DropPoint.B3 : List Nat := [0, 0, 0, 6, 15, 0, 0, 64, 224, 511, 1023]
theorem spec_DropPoint.tab3 : rtab .any (opsOf Try.f122 3) = spec_DropPoint.T3 := by kernel_rfl
theorem spec_DropPoint.bits3 : waitsOk spec_DropPoint.T3.2 spec_DropPoint.B3 = true := by kernel_rfl
set_option maxHeartbeats 8000000 in
set_option maxRecDepth 100000 in
theorem spec_DropPoint.calls (k : Nat) (A0 : Option Addr) (c0 : Nat) (l0 : List (S49)) (a1 : Int) (r1 : List (S49)) (r2 : Bool) (w : World) (hr0 : Kd.C k49 w A0 l0.length l0) (hc0 : l0.length ≤ c0) (h : spec_DropPoint.f k l0 a1 = some (r1, r2)) :
  Calls Try.prog 122 #[.slice A0 l0.length c0, .int .i64 a1] w fun e w' => ∃ v0_ : Value, e = .returned (.tuple #[v0_, .bool r2]) ∧ Kd.R k49 49 w' w.heap.size (fun _ => True) v0_ r1 ∧ Below w.heap.size w w' := by
 have HR0 := Aside0.mk hr0
 have HC0 := Aside0.mk hc0
 clear hr0 hc0
 have HB := Aside0.mk (Below.refl w.heap.size w)
 have H : ((spec_IsLine.f k l0).bind fun t366 => (if t366 = true then ((spec_l1In.f a1 1 (wrap64 ((l0.length : Int) - 2))).bind fun t367 => (spec_DropPoint.j0 k l0 a1 (!t367))) else (spec_DropPoint.j0 k l0 a1 true))) = some (r1, r2) := h
 clear h
 have HC3 := Aside0.mk H
 clear H
 go_enter Try.func122, Try.ntmps122
 go_upto_region 1 with (fail)
 go_cut [17] (fun v17 wc => ∃ (kq : Nat) (x17_2 : Bool), v17 = .bool x17_2 ∧ Aside0 (spec_DropPoint.j0 kq l0 a1 x17_2 = some (r1, r2)) ∧ Aside0 (kq ≤ k) ∧ Aside0 (Below w.heap.size w wc))
 case first =>
  have H := HC3.out
  clear HC3
  replace H := Option.bind_eq_some_iff.mp H
  obtain ⟨t366, A40, H⟩ := H
  replace H : (if t366 = true then ((spec_l1In.f a1 1 (wrap64 ((l0.length : Int) - 2))).bind fun t367 => (spec_DropPoint.j0 k l0 a1 (!t367))) else (spec_DropPoint.j0 k l0 a1 true)) = some (r1, r2) := H
  have A4 := Aside0.mk A40
  clear A40
  by_cases c5 : t366 = true
  ·
   subst c5
   have H1 : ((spec_l1In.f a1 1 (wrap64 ((l0.length : Int) - 2))).bind fun t367 => (spec_DropPoint.j0 k l0 a1 (!t367))) = some (r1, r2) := by rw [if_pos rfl] at H; exact H
   clear H
   have H := H1
   clear H1
   replace H := Option.bind_eq_some_iff.mp H
   obtain ⟨t367, A60, H⟩ := H
   replace H : (spec_DropPoint.j0 k l0 a1 (!t367)) = some (r1, r2) := H
   have A6 := Aside0.mk A60
   clear A60
   have H' := Aside0.mk H
   clear H
   go_wp2_with (first | ((with_reducible refine gate_callee (f := 154) rfl ?_); refine goesL_ (some 8) rfl rfl Try.func154 (by kernel_rfl) rfl #[.slice A0 l0.length c0] rfl Hd.m_ ?_; (with_reducible refine (spec_IsLine.calls k _ _ l0 true _ ?side1 ?side2 A4.out).mono ?_); (case side1 => repeat (first | exact (Kd.C_below HR0.out HB.out) | (with_reducible refine Kd.C_alloc ?_ _) | (with_reducible refine Kd.C_drewN ?_ _) | (with_reducible refine Kd.C_drew ?_))); (case side2 => exact HC0.out); rintro e w7 ⟨rfl, hb⟩; refine ⟨_, rfl, ?_⟩; replace HB := Aside0.mk (below_step Hd.b_ hb); (try clear hb); (try clear hb2); (try clear hk); (try clear hi)) | (go_at_call 83; (with_reducible refine (spec_l1In.calls a1 1 (wrap64 ((l0.length : Int) - 2)) t367 _ A6.out).mono ?_); rintro e w' ⟨rfl, ⟨nd, rfl⟩⟩))
   go_meet
   case rel => exact ⟨_, (!t367), (by first | rfl | (simp; done) | (simp [*]; done)), H', ⟨by first | omega | exact Nat.le_refl _⟩, ⟨Hd.b_⟩⟩
  ·
   replace c5 := Bool.eq_false_iff.mpr c5
   subst c5
   have H1 : (spec_DropPoint.j0 k l0 a1 true) = some (r1, r2) := by rw [if_neg (show ¬ (false = true) by decide)] at H; exact H
   clear H
   have H := H1
   clear H1
   have H' := Aside0.mk H
   clear H
   go_wp2_with (first | ((with_reducible refine gate_callee (f := 154) rfl ?_); refine goesL_ (some 8) rfl rfl Try.func154 (by kernel_rfl) rfl #[.slice A0 l0.length c0] rfl Hd.m_ ?_; (with_reducible refine (spec_IsLine.calls k _ _ l0 false _ ?side1 ?side2 A4.out).mono ?_); (case side1 => repeat (first | exact (Kd.C_below HR0.out HB.out) | (with_reducible refine Kd.C_alloc ?_ _) | (with_reducible refine Kd.C_drewN ?_ _) | (with_reducible refine Kd.C_drew ?_))); (case side2 => exact HC0.out); rintro e w8 ⟨rfl, hb⟩; refine ⟨_, rfl, ?_⟩; replace HB := Aside0.mk (below_step Hd.b_ hb); (try clear hb); (try clear hb2); (try clear hk); (try clear hi)))
   go_meet
   case rel => exact ⟨_, (true), (by first | rfl | (simp; done) | (simp [*]; done)), H', ⟨by first | omega | exact Nat.le_refl _⟩, ⟨Hd.b_⟩⟩
 case rest =>
  clear HC3
  try clear c1
  try clear p2
  try clear c5
  try clear p6
  obtain ⟨kq, x17_2, rfl, HA, HJ2, HB⟩ := hcut
  cases kq with
  | zero => exact absurd HA.out (by simp [spec_DropPoint.j0])
  | succ kj2 =>
   have H := HA.out
   clear HA
   simp only [spec_DropPoint.j0] at H
   by_cases c9 : x17_2 = true
   ·
    subst c9
    have H1 : ((some (([] : List (S49)) : List (S49))).bind fun y368 => (if y368.length + l0.length < 8796093022208 then (some ((y368 ++ l0), false)) else (none))) = some (r1, r2) := by rw [if_pos rfl] at H; exact H
    clear H
    have H := H1
    clear H1
    obtain ⟨y368, hy368⟩ : ∃ y_ : List (S49), y_ = (([] : List (S49))) := ⟨_, rfl⟩
    replace H : (if y368.length + l0.length < 8796093022208 then (some ((y368 ++ l0), false)) else (none)) = some (r1, r2) := by first | (rw [hy368]; with_reducible exact H) | (have H2_ := (Option.bind_some _ _).symm.trans H; rw [hy368]; with_reducible exact H2_) | (have H2_ := (Option.bind_some _ _).symm.trans H; with_reducible exact H2_) | with_reducible exact H | (rw [hy368]; exact H) | exact H
    have Ny368 := Aside0.mk hy368
    clear hy368
    by_cases c10 : y368.length + l0.length < 8796093022208
    ·
     rw [if_pos c10] at H
     have LMc10 := Aside0.mk c10
     clear c10
     obtain ⟨y371, hy371⟩ : ∃ y_ : List (S49), y_ = (y368 ++ l0) := ⟨_, rfl⟩
     replace H : (some (y371, false)) = some (r1, r2) := by first | (rw [hy371]; with_reducible exact H) | (have H2_ := (Option.bind_some _ _).symm.trans H; rw [hy371]; with_reducible exact H2_) | (have H2_ := (Option.bind_some _ _).symm.trans H; with_reducible exact H2_) | with_reducible exact H | (rw [hy371]; exact H) | exact H
     have Ny371 := Aside0.mk hy371
     clear hy371
     simp only [Option.some.injEq, Prod.mk.injEq] at H
     obtain ⟨rfl, rfl⟩ := H
     go_wp2_with (first | ((with_reducible refine gate_dst (N := 18) rfl ?_); (try (refine gate_guard (by rfl) ?_; dsimp only)); refine Kd.R_lit k49 _ 49 ?hg (N := 18) ?hd (xs := ([] : List (S49))) (inner := []) (ok := fun _ => True) (okp := fun _ => True) ?hr ?hp (fun _ hk => hk) trivial (Below.refl _ _) (Nat.le_refl _) (by simp) ?_; (case hd => rfl); (case hg => rfl); (case hr => first | (go_simp; done) | (go_simp; rfl)); (case hp => exact (Reps.none _ _)); intro v369 w11 ho12 hb hg_ hnew_; clear hg_ hnew_; (first | rw [← Ny368.out] at ho12 | (simp only [Int.reduceToNat] at ho12; rw [← Ny368.out] at ho12)); have HO370 := Aside0.mk (Kd.R_lower ho12 (below_size Hd.b_)); replace HB := Aside0.mk (below_step Hd.b_ hb); clear hb ho12) | ((with_reducible refine gate_builtin (b := .append) (xs := #[.tmp 18, .tmp 19]) rfl ?_); (try (refine gate_guard (by rfl) ?_; dsimp only)); at_builtin; refine Kd.R_append_rows k49 (w0 := w) w.heap.size rfl (.tmp 18) (.tmp 19) 28 49 (.agg #[(.int .i64 0), (.int .i64 0)]) 16 rfl Try.underlying28 info49 rfl (by decide) (by omega) v369 y368 l0 _ _ _ (fun _ => True) (fun _ => False) rfl rfl ?aO ?aR (fun _ _ h => h) (fun _ h => h.elim) ?aF ?aB ?aS ?aL ?_; (case aR => repeat (first | exact (Kd.C_below HR0.out HB.out) | (with_reducible refine Kd.C_alloc ?_ _) | (with_reducible refine Kd.C_drewN ?_ _) | (with_reducible refine Kd.C_drew ?_))); (case aB => exact Hd.b_); (case aF => exact (fun _ _ => trivial)); (case aO => exact (Hd.r_ HO370)); (case aS => exact (below_size Hd.b_)); (case aL => have := LMc10.out; omega); intro v372 w13 ho hb hg hat; rw [← Ny371.out] at ho; have n0_ := Aside0.mk (hb); have n1_ := Aside0.mk (ho); clear HB; clear HO370; have HB := n0_; have HO373 := n1_; clear n0_ n1_; clear ho hb hg hat))
     go_ret2
     exact ⟨_, Hd.e_, by (with_reducible repeat (first | apply Kd.R_alloc | apply Kd.R_drewN | apply Kd.R_drew)); exact HO373.out, Hd.b_⟩
    ·
     rw [if_neg c10] at H
     exact absurd H (by simp)
   ·
    replace c9 := Bool.eq_false_iff.mpr c9
    subst c9
    have H1 : ((some (([] : List (S49)) : List (S49))).bind fun y374 => (if 0 ≤ a1 then (if a1 ≤ (l0.length : Int) then ((some (l0.take (a1 : Int).toNat : List (S49))).bind fun y377 => (if y374.length + y377.length < 8796093022208 then ((some (y374 ++ y377 : List (S49))).bind fun y381 => (if 0 ≤ (wrap64 (a1 + 1)) then (if (wrap64 (a1 + 1)) ≤ (l0.length : Int) then ((some (l0.drop ((wrap64 (a1 + 1)) : Int).toNat : List (S49))).bind fun y384 => (if y381.length + y384.length < 8796093022208 then ((some (y381 ++ y384 : List (S49))).bind fun y388 => ((spec_IsLine.f kj2 y388).bind fun t391 => (if t391 = true then (some (y388, true)) else ((some (([] : List (S49)) : List (S49))).bind fun y392 => (if y392.length + l0.length < 8796093022208 then (some ((y392 ++ l0), false)) else (none)))))) else (none))) else (none)) else (none))) else (none))) else (none)) else (none))) = some (r1, r2) := by rw [if_neg (show ¬ (false = true) by decide)] at H; exact H
    clear H
    have H := H1
    clear H1
    obtain ⟨y374, hy374⟩ : ∃ y_ : List (S49), y_ = (([] : List (S49))) := ⟨_, rfl⟩
    replace H : (if 0 ≤ a1 then (if a1 ≤ (l0.length : Int) then ((some (l0.take (a1 : Int).toNat : List (S49))).bind fun y377 => (if y374.length + y377.length < 8796093022208 then ((some (y374 ++ y377 : List (S49))).bind fun y381 => (if 0 ≤ (wrap64 (a1 + 1)) then (if (wrap64 (a1 + 1)) ≤ (l0.length : Int) then ((some (l0.drop ((wrap64 (a1 + 1)) : Int).toNat : List (S49))).bind fun y384 => (if y381.length + y384.length < 8796093022208 then ((some (y381 ++ y384 : List (S49))).bind fun y388 => ((spec_IsLine.f kj2 y388).bind fun t391 => (if t391 = true then (some (y388, true)) else ((some (([] : List (S49)) : List (S49))).bind fun y392 => (if y392.length + l0.length < 8796093022208 then (some ((y392 ++ l0), false)) else (none)))))) else (none))) else (none)) else (none))) else (none))) else (none)) else (none)) = some (r1, r2) := by first | (rw [hy374]; with_reducible exact H) | (have H2_ := (Option.bind_some _ _).symm.trans H; rw [hy374]; with_reducible exact H2_) | (have H2_ := (Option.bind_some _ _).symm.trans H; with_reducible exact H2_) | with_reducible exact H | (rw [hy374]; exact H) | exact H
    have Ny374 := Aside0.mk hy374
    clear hy374
    by_cases c14 : 0 ≤ a1
    ·
     rw [if_pos c14] at H
     have c14b0 := eq_true c14
     have c14b1 : decide (0 ≤ a1) = true := decide_eq_true c14
     clear c14
     by_cases c15 : a1 ≤ (l0.length : Int)
     ·
      rw [if_pos c15] at H
      have c15b0 := eq_true c15
      have c15b1 : decide (a1 ≤ (l0.length : Int)) = true := decide_eq_true c15
      clear c15
      obtain ⟨y377, hy377⟩ : ∃ y_ : List (S49), y_ = (l0.take (a1 : Int).toNat) := ⟨_, rfl⟩
      replace H : (if y374.length + y377.length < 8796093022208 then ((some (y374 ++ y377 : List (S49))).bind fun y381 => (if 0 ≤ (wrap64 (a1 + 1)) then (if (wrap64 (a1 + 1)) ≤ (l0.length : Int) then ((some (l0.drop ((wrap64 (a1 + 1)) : Int).toNat : List (S49))).bind fun y384 => (if y381.length + y384.length < 8796093022208 then ((some (y381 ++ y384 : List (S49))).bind fun y388 => ((spec_IsLine.f kj2 y388).bind fun t391 => (if t391 = true then (some (y388, true)) else ((some (([] : List (S49)) : List (S49))).bind fun y392 => (if y392.length + l0.length < 8796093022208 then (some ((y392 ++ l0), false)) else (none)))))) else (none))) else (none)) else (none))) else (none)) = some (r1, r2) := by first | (rw [hy377]; with_reducible exact H) | (have H2_ := (Option.bind_some _ _).symm.trans H; rw [hy377]; with_reducible exact H2_) | (have H2_ := (Option.bind_some _ _).symm.trans H; with_reducible exact H2_) | with_reducible exact H | (rw [hy377]; exact H) | exact H
      have Ny377 := Aside0.mk hy377
      clear hy377
      by_cases c16 : y374.length + y377.length < 8796093022208
      ·
       rw [if_pos c16] at H
       have LMc16 := Aside0.mk c16
       clear c16
       obtain ⟨y381, hy381⟩ : ∃ y_ : List (S49), y_ = (y374 ++ y377) := ⟨_, rfl⟩
       replace H : (if 0 ≤ (wrap64 (a1 + 1)) then (if (wrap64 (a1 + 1)) ≤ (l0.length : Int) then ((some (l0.drop ((wrap64 (a1 + 1)) : Int).toNat : List (S49))).bind fun y384 => (if y381.length + y384.length < 8796093022208 then ((some (y381 ++ y384 : List (S49))).bind fun y388 => ((spec_IsLine.f kj2 y388).bind fun t391 => (if t391 = true then (some (y388, true)) else ((some (([] : List (S49)) : List (S49))).bind fun y392 => (if y392.length + l0.length < 8796093022208 then (some ((y392 ++ l0), false)) else (none)))))) else (none))) else (none)) else (none)) = some (r1, r2) := by first | (rw [hy381]; with_reducible exact H) | (have H2_ := (Option.bind_some _ _).symm.trans H; rw [hy381]; with_reducible exact H2_) | (have H2_ := (Option.bind_some _ _).symm.trans H; with_reducible exact H2_) | with_reducible exact H | (rw [hy381]; exact H) | exact H
       have Ny381 := Aside0.mk hy381
       clear hy381
       obtain ⟨ji17, hji17⟩ : ∃ j_ : Int, (wrap64 (a1 + 1)) = j_ := ⟨_, rfl⟩
       replace H : (if 0 ≤ (ji17) then (if (ji17) ≤ (l0.length : Int) then ((some (l0.drop ((ji17) : Int).toNat : List (S49))).bind fun y384 => (if y381.length + y384.length < 8796093022208 then ((some (y381 ++ y384 : List (S49))).bind fun y388 => ((spec_IsLine.f kj2 y388).bind fun t391 => (if t391 = true then (some (y388, true)) else ((some (([] : List (S49)) : List (S49))).bind fun y392 => (if y392.length + l0.length < 8796093022208 then (some ((y392 ++ l0), false)) else (none)))))) else (none))) else (none)) else (none)) = some (r1, r2) := by first | (rw [hji17] at H; exact H) | (simp only [hji17] at H ⊢; exact H)
       have hji17w : (IntKind.i64.wrap (a1 + 1)) = ji17 := (i64_w _).trans hji17
       by_cases c18 : 0 ≤ (ji17)
       ·
        rw [if_pos c18] at H
        have c18b0 := eq_true c18
        have c18b1 : decide (0 ≤ (ji17)) = true := decide_eq_true c18
        clear c18
        by_cases c19 : (ji17) ≤ (l0.length : Int)
        ·
         rw [if_pos c19] at H
         have c19b0 := eq_true c19
         have c19b1 : decide ((ji17) ≤ (l0.length : Int)) = true := decide_eq_true c19
         clear c19
         obtain ⟨y384, hy384⟩ : ∃ y_ : List (S49), y_ = (l0.drop ((ji17) : Int).toNat) := ⟨_, rfl⟩
         replace H : (if y381.length + y384.length < 8796093022208 then ((some (y381 ++ y384 : List (S49))).bind fun y388 => ((spec_IsLine.f kj2 y388).bind fun t391 => (if t391 = true then (some (y388, true)) else ((some (([] : List (S49)) : List (S49))).bind fun y392 => (if y392.length + l0.length < 8796093022208 then (some ((y392 ++ l0), false)) else (none)))))) else (none)) = some (r1, r2) := by first | (rw [hy384]; with_reducible exact H) | (have H2_ := (Option.bind_some _ _).symm.trans H; rw [hy384]; with_reducible exact H2_) | (have H2_ := (Option.bind_some _ _).symm.trans H; with_reducible exact H2_) | with_reducible exact H | (rw [hy384]; exact H) | exact H
         have Ny384 := Aside0.mk hy384
         clear hy384
         by_cases c20 : y381.length + y384.length < 8796093022208
         ·
          rw [if_pos c20] at H
          have LMc20 := Aside0.mk c20
          clear c20
          obtain ⟨y388, hy388⟩ : ∃ y_ : List (S49), y_ = (y381 ++ y384) := ⟨_, rfl⟩
          replace H : ((spec_IsLine.f kj2 y388).bind fun t391 => (if t391 = true then (some (y388, true)) else ((some (([] : List (S49)) : List (S49))).bind fun y392 => (if y392.length + l0.length < 8796093022208 then (some ((y392 ++ l0), false)) else (none))))) = some (r1, r2) := by first | (rw [hy388]; with_reducible exact H) | (have H2_ := (Option.bind_some _ _).symm.trans H; rw [hy388]; with_reducible exact H2_) | (have H2_ := (Option.bind_some _ _).symm.trans H; with_reducible exact H2_) | with_reducible exact H | (rw [hy388]; exact H) | exact H
          have Ny388 := Aside0.mk hy388
          clear hy388
          replace H := Option.bind_eq_some_iff.mp H
          obtain ⟨t391, A210, H⟩ := H
          replace H : (if t391 = true then (some (y388, true)) else ((some (([] : List (S49)) : List (S49))).bind fun y392 => (if y392.length + l0.length < 8796093022208 then (some ((y392 ++ l0), false)) else (none)))) = some (r1, r2) := H
          have A21 := Aside0.mk A210
          clear A210
          by_cases c22 : t391 = true
          ·
           subst c22
           have H1 : (some (y388, true)) = some (r1, r2) := by rw [if_pos rfl] at H; exact H
           clear H
           have H := H1
           clear H1
           simp only [Option.some.injEq, Prod.mk.injEq] at H
           obtain ⟨rfl, rfl⟩ := H
           try go_wp2
           replace HB := Aside0.mk (below_drew1 HB.out)
           have q24 : (a1 : Int) ≤ ((l0.length : Int) : Int) := of_decide_eq_true Hd.a_
           obtain ⟨i024, hi024, _, hsz24, _⟩ := info_parts info49
           have hroom24 : l0.length ≤ c0 := HC0.out
           have hC24 : Kd.C k49 _ A0 l0.length l0 := HR0.out
           have hcut24 := cut_to (P := Try.prog) 28 49 .i64 Try.underlying28 hi024 A0 l0.length c0 a1 (of_decide_eq_true Hd.a_) q24 hroom24
           have hr24 := Kd.C_take (m := (a1 : Int).toNat) hC24 (by omega)
           have hy24 : y377.length = (a1 : Int).toNat := (by rw [Ny377.out, List.length_take]; omega)
           rw [← Ny377.out] at hr24
           rw [← hy24] at hcut24
           have HR380 := Aside0.mk hr24
           have HC380 := Aside0.mk (show y377.length ≤ c0 from by omega)
           clear hr24 hC24 hroom24 hi024 hsz24
           have KY24 := Aside0.mk hy24
           clear hy24
           replace q24 := eq_true q24
           have q25 : ((ji17) : Int) ≤ ((l0.length : Int) : Int) := of_decide_eq_true Hd.a_
           obtain ⟨i025, hi025, _, hsz25, _⟩ := info_parts info49
           have hroom25 : l0.length ≤ c0 := HC0.out
           have hC25 : Kd.C k49 _ A0 l0.length l0 := HR0.out
           have q025 : (0 : Int) ≤ ((ji17) : Int) := of_decide_eq_true Hd.a_
           have hcut25 := cut_from (P := Try.prog) 28 49 .i64 Try.underlying28 hi025 2 hsz25 A0 l0.length c0 (ji17) q025 q25
           have hr25 := Kd.C_drop (m := ((ji17) : Int).toNat) (c := c0) hC25 (by omega) hroom25
           obtain ⟨A25, hA25⟩ : ∃ A1, A1 = (if c0 = ((ji17) : Int).toNat then A0 else (A0 : Option Addr).map (·.add (((ji17) : Int).toNat * 2))) := ⟨_, rfl⟩
           obtain ⟨c25, hc25⟩ : ∃ c1, c1 = c0 - ((ji17) : Int).toNat := ⟨_, rfl⟩
           have hy25 : y384.length = l0.length - ((ji17) : Int).toNat := (by rw [Ny384.out, List.length_drop] <;> omega)
           rw [show (l0).drop ((ji17) : Int).toNat = y384 from Ny384.out.symm] at hr25
           replace hr25 : Kd.C k49 _ A25 y384.length y384 := (by rw [hA25]; exact hr25)
           rw [← hy25, ← hA25, ← hc25] at hcut25
           have HR387 := Aside0.mk hr25
           have HC387 := Aside0.mk (show y384.length ≤ c25 from by rw [hy25, hc25]; exact Nat.sub_le_sub_right hroom25 _)
           clear hr25 hC25 hroom25 hi025 hsz25 hc25
           have KY25 := Aside0.mk hy25
           have KA25 := Aside0.mk hA25
           clear hy25 hA25
           replace q25 := eq_true q25
           refine start_ (n := 11) (S := fun w' => True) (ds := []) #[false, false, false, false, false, false, false, false, false, false, false] (by kernel_rfl) rfl rfl trivial (fun hHeld => ?_); refine with_tabW spec_DropPoint.tab3 spec_DropPoint.bits3 (fun HT_ HW_ => ?_)
           generalize wc.drew = w23 at HB HR380 HR387 hHeld ⊢
           refine Hd.p_ HT_ 1 (some 22) #[false, true, false, false, false, false, false, false, false, false, false] ?_
           refine Hd.p_ HT_ 2 (some 23) #[false, true, true, false, false, false, false, false, false, false, false] ?_
           refine Hd.p_ HT_ 3 (some 24) #[false, true, true, true, false, false, false, false, false, false, false] ?_
           refine Hd.p_ HT_ 5 (some 26) #[false, true, true, true, false, true, false, false, false, false, false] ?_
           refine Hd.p_ HT_ 6 (some 27) #[false, true, true, true, false, true, true, false, false, false, false] ?_
           refine Hd.p_ HT_ 7 (some 28) #[false, true, true, true, false, true, true, true, false, false, false] ?_
           refine Hd.p_ HT_ 8 (some 29) #[false, true, true, true, false, true, true, true, true, false, false] ?_
           refine Hd.o_ HT_ 0 (some 21) #[true, true, true, true, false, true, true, true, true, false, false] (fun K hK => ?_)
           refine Kd.R_lit_step k49 _ 49 ?hg (N := 21) ?hd (xs := ([] : List (S49))) (inner := []) (ok := fun _ => True) (okp := fun _ => True) ?hr ?hp (fun _ hk => hk) trivial (Below.refl _ _) (Nat.le_refl _) (by simp) ?_; (case hd => rfl); (case hg => rfl); (case hr => first | (go_simp; done) | (go_simp; rfl)); (case hp => exact (Reps.none _ _))
           intro v375 w26 ho27 hb hg_ hnew_
           clear hg_ hnew_
           (first | rw [← Ny374.out] at ho27 | (simp only [Int.reduceToNat] at ho27; rw [← Ny374.out] at ho27))
           have HO376 := Aside0.mk (Kd.R_lower ho27 (below_size Hd.b_))
           replace HB := Aside0.mk (below_step Hd.b_ hb)
           clear hb ho27
           refine hK.out _ _ trivial (fun hHeld => ?_)
           clear hK K
           refine Hd.n_ (some 21) ?_
           refine Hd.o_ HT_ 4 (some 25) #[true, true, true, true, true, true, true, true, true, false, false] (fun K hK => ?_)
           refine Kd.R_append_rows_step k49 (w0 := w) w.heap.size (by rfl) (.tmp 21) (.tmp 24) 28 49 (.agg #[(.int .i64 0), (.int .i64 0)]) 16 rfl Try.underlying28 info49 rfl (by decide) (by omega) v375 y374 y377 _ _ _ (fun _ => True) (fun _ => False) rfl rfl ?aO ?aR (fun _ _ h => h) (fun _ h => h.elim) ?aF ?aB ?aS ?aL ?_
           (case aR => repeat (first | exact (Kd.C_below HR380.out HB.out) | (with_reducible refine Kd.C_alloc ?_ _) | (with_reducible refine Kd.C_drewN ?_ _) | (with_reducible refine Kd.C_drew ?_)))
           (case aB => exact Hd.b_)
           (case aF => exact (fun _ _ => trivial))
           (case aO => exact (Hd.r_ HO376))
           (case aS => exact (below_size Hd.b_))
           (case aL => have := LMc16.out; omega)
           intro v382 w28 ho hb hg hat
           rw [← Ny381.out] at ho
           have n0_ := Aside0.mk (hb)
           have n1_ := Aside0.mk (ho)
           clear HB
           clear HO376
           have HB := n0_
           have HO383 := n1_
           clear n0_ n1_
           clear ho hb hg hat
           refine hK.out _ _ trivial (fun hHeld => ?_)
           clear hK K
           refine Hd.n_ (some 25) ?_
           refine Hd.o_ HT_ 9 (some 30) #[true, true, true, true, true, true, true, true, true, true, false] (fun K hK => ?_)
           refine Kd.R_append_rows_step k49 (w0 := w) w.heap.size (by rfl) (.tmp 25) (.tmp 29) 28 49 (.agg #[(.int .i64 0), (.int .i64 0)]) 16 rfl Try.underlying28 info49 rfl (by decide) (by omega) v382 y381 y384 _ _ _ (fun _ => True) (fun _ => False) rfl rfl ?aO ?aR (fun _ _ h => h) (fun _ h => h.elim) ?aF ?aB ?aS ?aL ?_
           (case aR => repeat (first | exact (Kd.C_below HR387.out HB.out) | (with_reducible refine Kd.C_alloc ?_ _) | (with_reducible refine Kd.C_drewN ?_ _) | (with_reducible refine Kd.C_drew ?_)))
           (case aB => exact Hd.b_)
           (case aF => exact (fun _ _ => trivial))
           (case aO => exact (Hd.r_ HO383))
           (case aS => exact (below_size Hd.b_))
           (case aL => have := LMc20.out; omega)
           intro v389 w29 ho hb hg hat
           rw [← Ny388.out] at ho
           have n0_ := Aside0.mk (hb)
           have n1_ := Aside0.mk (ho)
           clear HB
           clear HO383
           have HB := n0_
           have HO390 := n1_
           clear n0_ n1_
           clear ho hb hg hat
           refine hK.out _ _ trivial (fun hHeld => ?_)
           clear hK K
           refine Hd.n_ (some 30) ?_
           refine Hd.p_ HT_ 10 (some 6) #[true, true, true, true, true, true, true, true, true, true, true] ?_
           refine done_ (done_of HT_.out (by kernel_rfl)) ?_
           obtain ⟨Ao30, co30, eo30⟩ := Kd.R_slice HO390.out
           subst eo30
           try go_wp2_with (first | ((with_reducible refine gate_callee (f := 154) rfl ?_); refine goesL_ (some 32) rfl rfl Try.func154 (by kernel_rfl) rfl #[.slice Ao30 y388.length co30] rfl Hd.m_ ?_; (with_reducible refine (spec_IsLine.calls kj2 _ _ y388 true _ ?side1 ?side2 A21.out).mono ?_); (case side1 => repeat (first | exact (Kd.R_reads' HO390.out).2.2 | (with_reducible refine Kd.C_alloc ?_ _) | (with_reducible refine Kd.C_drewN ?_ _) | (with_reducible refine Kd.C_drew ?_))); (case side2 => exact (Kd.R_reads' HO390.out).2.1); rintro e w31 ⟨rfl, hb⟩; refine ⟨_, rfl, ?_⟩; replace HO390 := Aside0.mk (Kd.R_below (Hd.r_ HO390) hb); replace HB := Aside0.mk (below_step Hd.b_ hb); (try clear hb); (try clear hb2); (try clear hk); (try clear hi)))
           go_ret2
           exact ⟨_, by first | rfl | (simp [errW_none, errW_some] <;> rfl) | (simp only [← hji17]; first | rfl | (simp [errW_none, errW_some] <;> rfl)) | (simp [*, errW_none, errW_some] <;> rfl), by (with_reducible repeat (first | apply Kd.R_alloc | apply Kd.R_drewN | apply Kd.R_drew)); exact HO390.out, Hd.b_⟩
          ·
           replace c22 := Bool.eq_false_iff.mpr c22
           subst c22
           have H1 : ((some (([] : List (S49)) : List (S49))).bind fun y392 => (if y392.length + l0.length < 8796093022208 then (some ((y392 ++ l0), false)) else (none))) = some (r1, r2) := by rw [if_neg (show ¬ (false = true) by decide)] at H; exact H
           clear H
           have H := H1
           clear H1
           obtain ⟨y392, hy392⟩ : ∃ y_ : List (S49), y_ = (([] : List (S49))) := ⟨_, rfl⟩
           replace H : (if y392.length + l0.length < 8796093022208 then (some ((y392 ++ l0), false)) else (none)) = some (r1, r2) := by first | (rw [hy392]; with_reducible exact H) | (have H2_ := (Option.bind_some _ _).symm.trans H; rw [hy392]; with_reducible exact H2_) | (have H2_ := (Option.bind_some _ _).symm.trans H; with_reducible exact H2_) | with_reducible exact H | (rw [hy392]; exact H) | exact H
           have Ny392 := Aside0.mk hy392
           clear hy392
           by_cases c32 : y392.length + l0.length < 8796093022208
           ·
            rw [if_pos c32] at H
            have LMc32 := Aside0.mk c32
            clear c32
            obtain ⟨y395, hy395⟩ : ∃ y_ : List (S49), y_ = (y392 ++ l0) := ⟨_, rfl⟩
            replace H : (some (y395, false)) = some (r1, r2) := by first | (rw [hy395]; with_reducible exact H) | (have H2_ := (Option.bind_some _ _).symm.trans H; rw [hy395]; with_reducible exact H2_) | (have H2_ := (Option.bind_some _ _).symm.trans H; with_reducible exact H2_) | with_reducible exact H | (rw [hy395]; exact H) | exact H
            have Ny395 := Aside0.mk hy395
            clear hy395
            simp only [Option.some.injEq, Prod.mk.injEq] at H
            obtain ⟨rfl, rfl⟩ := H
            try go_wp2
            replace HB := Aside0.mk (below_drew1 HB.out)
            have q34 : (a1 : Int) ≤ ((l0.length : Int) : Int) := of_decide_eq_true Hd.a_
            obtain ⟨i034, hi034, _, hsz34, _⟩ := info_parts info49
            have hroom34 : l0.length ≤ c0 := HC0.out
            have hC34 : Kd.C k49 _ A0 l0.length l0 := HR0.out
            have hcut34 := cut_to (P := Try.prog) 28 49 .i64 Try.underlying28 hi034 A0 l0.length c0 a1 (of_decide_eq_true Hd.a_) q34 hroom34
            have hr34 := Kd.C_take (m := (a1 : Int).toNat) hC34 (by omega)
            have hy34 : y377.length = (a1 : Int).toNat := (by rw [Ny377.out, List.length_take]; omega)
            rw [← Ny377.out] at hr34
            rw [← hy34] at hcut34
            have HR380 := Aside0.mk hr34
            have HC380 := Aside0.mk (show y377.length ≤ c0 from by omega)
            clear hr34 hC34 hroom34 hi034 hsz34
            have KY34 := Aside0.mk hy34
            clear hy34
            replace q34 := eq_true q34
            have q35 : ((ji17) : Int) ≤ ((l0.length : Int) : Int) := of_decide_eq_true Hd.a_
            obtain ⟨i035, hi035, _, hsz35, _⟩ := info_parts info49
            have hroom35 : l0.length ≤ c0 := HC0.out
            have hC35 : Kd.C k49 _ A0 l0.length l0 := HR0.out
            have q035 : (0 : Int) ≤ ((ji17) : Int) := of_decide_eq_true Hd.a_
            have hcut35 := cut_from (P := Try.prog) 28 49 .i64 Try.underlying28 hi035 2 hsz35 A0 l0.length c0 (ji17) q035 q35
            have hr35 := Kd.C_drop (m := ((ji17) : Int).toNat) (c := c0) hC35 (by omega) hroom35
            obtain ⟨A35, hA35⟩ : ∃ A1, A1 = (if c0 = ((ji17) : Int).toNat then A0 else (A0 : Option Addr).map (·.add (((ji17) : Int).toNat * 2))) := ⟨_, rfl⟩
            obtain ⟨c35, hc35⟩ : ∃ c1, c1 = c0 - ((ji17) : Int).toNat := ⟨_, rfl⟩
            have hy35 : y384.length = l0.length - ((ji17) : Int).toNat := (by rw [Ny384.out, List.length_drop] <;> omega)
            rw [show (l0).drop ((ji17) : Int).toNat = y384 from Ny384.out.symm] at hr35
            replace hr35 : Kd.C k49 _ A35 y384.length y384 := (by rw [hA35]; exact hr35)
            rw [← hy35, ← hA35, ← hc35] at hcut35
            have HR387 := Aside0.mk hr35
            have HC387 := Aside0.mk (show y384.length ≤ c35 from by rw [hy35, hc35]; exact Nat.sub_le_sub_right hroom35 _)
            clear hr35 hC35 hroom35 hi035 hsz35 hc35
            have KY35 := Aside0.mk hy35
            have KA35 := Aside0.mk hA35
            clear hy35 hA35
            replace q35 := eq_true q35
            refine start_ (n := 11) (S := fun w' => True) (ds := []) #[false, false, false, false, false, false, false, false, false, false, false] (by kernel_rfl) rfl rfl trivial (fun hHeld => ?_); refine with_tabW spec_DropPoint.tab3 spec_DropPoint.bits3 (fun HT_ HW_ => ?_)
            generalize wc.drew = w33 at HB HR380 HR387 hHeld ⊢
            refine Hd.p_ HT_ 1 (some 22) #[false, true, false, false, false, false, false, false, false, false, false] ?_
            refine Hd.p_ HT_ 2 (some 23) #[false, true, true, false, false, false, false, false, false, false, false] ?_
            refine Hd.p_ HT_ 3 (some 24) #[false, true, true, true, false, false, false, false, false, false, false] ?_
            refine Hd.p_ HT_ 5 (some 26) #[false, true, true, true, false, true, false, false, false, false, false] ?_
            refine Hd.p_ HT_ 6 (some 27) #[false, true, true, true, false, true, true, false, false, false, false] ?_
            refine Hd.p_ HT_ 7 (some 28) #[false, true, true, true, false, true, true, true, false, false, false] ?_
            refine Hd.p_ HT_ 8 (some 29) #[false, true, true, true, false, true, true, true, true, false, false] ?_
            refine Hd.o_ HT_ 0 (some 21) #[true, true, true, true, false, true, true, true, true, false, false] (fun K hK => ?_)
            refine Kd.R_lit_step k49 _ 49 ?hg (N := 21) ?hd (xs := ([] : List (S49))) (inner := []) (ok := fun _ => True) (okp := fun _ => True) ?hr ?hp (fun _ hk => hk) trivial (Below.refl _ _) (Nat.le_refl _) (by simp) ?_; (case hd => rfl); (case hg => rfl); (case hr => first | (go_simp; done) | (go_simp; rfl)); (case hp => exact (Reps.none _ _))
            intro v375 w36 ho37 hb hg_ hnew_
            clear hg_ hnew_
            (first | rw [← Ny374.out] at ho37 | (simp only [Int.reduceToNat] at ho37; rw [← Ny374.out] at ho37))
            have HO376 := Aside0.mk (Kd.R_lower ho37 (below_size Hd.b_))
            replace HB := Aside0.mk (below_step Hd.b_ hb)
            clear hb ho37
            refine hK.out _ _ trivial (fun hHeld => ?_)
            clear hK K
            refine Hd.n_ (some 21) ?_
            refine Hd.o_ HT_ 4 (some 25) #[true, true, true, true, true, true, true, true, true, false, false] (fun K hK => ?_)
            refine Kd.R_append_rows_step k49 (w0 := w) w.heap.size (by rfl) (.tmp 21) (.tmp 24) 28 49 (.agg #[(.int .i64 0), (.int .i64 0)]) 16 rfl Try.underlying28 info49 rfl (by decide) (by omega) v375 y374 y377 _ _ _ (fun _ => True) (fun _ => False) rfl rfl ?aO ?aR (fun _ _ h => h) (fun _ h => h.elim) ?aF ?aB ?aS ?aL ?_
            (case aR => repeat (first | exact (Kd.C_below HR380.out HB.out) | (with_reducible refine Kd.C_alloc ?_ _) | (with_reducible refine Kd.C_drewN ?_ _) | (with_reducible refine Kd.C_drew ?_)))
            (case aB => exact Hd.b_)
            (case aF => exact (fun _ _ => trivial))
            (case aO => exact (Hd.r_ HO376))
            (case aS => exact (below_size Hd.b_))
            (case aL => have := LMc16.out; omega)
            intro v382 w38 ho hb hg hat
            rw [← Ny381.out] at ho
            have n0_ := Aside0.mk (hb)
            have n1_ := Aside0.mk (ho)
            clear HB
            clear HO376
            have HB := n0_
            have HO383 := n1_
            clear n0_ n1_
            clear ho hb hg hat
            refine hK.out _ _ trivial (fun hHeld => ?_)
            clear hK K
            refine Hd.n_ (some 25) ?_
            refine Hd.o_ HT_ 9 (some 30) #[true, true, true, true, true, true, true, true, true, true, false] (fun K hK => ?_)
            refine Kd.R_append_rows_step k49 (w0 := w) w.heap.size (by rfl) (.tmp 25) (.tmp 29) 28 49 (.agg #[(.int .i64 0), (.int .i64 0)]) 16 rfl Try.underlying28 info49 rfl (by decide) (by omega) v382 y381 y384 _ _ _ (fun _ => True) (fun _ => False) rfl rfl ?aO ?aR (fun _ _ h => h) (fun _ h => h.elim) ?aF ?aB ?aS ?aL ?_
            (case aR => repeat (first | exact (Kd.C_below HR387.out HB.out) | (with_reducible refine Kd.C_alloc ?_ _) | (with_reducible refine Kd.C_drewN ?_ _) | (with_reducible refine Kd.C_drew ?_)))
            (case aB => exact Hd.b_)
            (case aF => exact (fun _ _ => trivial))
            (case aO => exact (Hd.r_ HO383))
            (case aS => exact (below_size Hd.b_))
            (case aL => have := LMc20.out; omega)
            intro v389 w39 ho hb hg hat
            rw [← Ny388.out] at ho
            have n0_ := Aside0.mk (hb)
            have n1_ := Aside0.mk (ho)
            clear HB
            clear HO383
            have HB := n0_
            have HO390 := n1_
            clear n0_ n1_
            clear ho hb hg hat
            refine hK.out _ _ trivial (fun hHeld => ?_)
            clear hK K
            refine Hd.n_ (some 30) ?_
            refine Hd.p_ HT_ 10 (some 6) #[true, true, true, true, true, true, true, true, true, true, true] ?_
            refine done_ (done_of HT_.out (by kernel_rfl)) ?_
            obtain ⟨Ao40, co40, eo40⟩ := Kd.R_slice HO390.out
            subst eo40
            try go_wp2_with (first | ((with_reducible refine gate_callee (f := 154) rfl ?_); refine goesL_ (some 32) rfl rfl Try.func154 (by kernel_rfl) rfl #[.slice Ao40 y388.length co40] rfl Hd.m_ ?_; (with_reducible refine (spec_IsLine.calls kj2 _ _ y388 false _ ?side1 ?side2 A21.out).mono ?_); (case side1 => repeat (first | exact (Kd.R_reads' HO390.out).2.2 | (with_reducible refine Kd.C_alloc ?_ _) | (with_reducible refine Kd.C_drewN ?_ _) | (with_reducible refine Kd.C_drew ?_))); (case side2 => exact (Kd.R_reads' HO390.out).2.1); rintro e w41 ⟨rfl, hb⟩; refine ⟨_, rfl, ?_⟩; replace HO390 := Aside0.mk (Kd.R_below (Hd.r_ HO390) hb); replace HB := Aside0.mk (below_step Hd.b_ hb); (try clear hb); (try clear hb2); (try clear hk); (try clear hi)) | ((with_reducible refine gate_dst (N := 34) rfl ?_); (try (refine gate_guard (by rfl) ?_; dsimp only)); refine Kd.R_lit k49 _ 49 ?hg (N := 34) ?hd (xs := ([] : List (S49))) (inner := []) (ok := fun _ => True) (okp := fun _ => True) ?hr ?hp (fun _ hk => hk) trivial (Below.refl _ _) (Nat.le_refl _) (by simp) ?_; (case hd => rfl); (case hg => rfl); (case hr => first | (go_simp; done) | (go_simp; rfl)); (case hp => exact (Reps.none _ _)); intro v393 w42 ho43 hb hg_ hnew_; clear hg_ hnew_; (first | rw [← Ny392.out] at ho43 | (simp only [Int.reduceToNat] at ho43; rw [← Ny392.out] at ho43)); have HO394 := Aside0.mk (Kd.R_lower (Kd.R_new' ho43 (Kd.R_lt (Hd.r_ HO390))) (below_size Hd.b_)); replace HO390 := Aside0.mk (Kd.R_elder' (Hd.r_ HO390) (Kd.R_base ho43) hb); replace HB := Aside0.mk (below_step Hd.b_ hb); clear hb ho43) | ((with_reducible refine gate_builtin (b := .append) (xs := #[.tmp 34, .tmp 35]) rfl ?_); (try (refine gate_guard (by rfl) ?_; dsimp only)); at_builtin; refine Kd.R_append_rows k49 (w0 := w) w.heap.size rfl (.tmp 34) (.tmp 35) 28 49 (.agg #[(.int .i64 0), (.int .i64 0)]) 16 rfl Try.underlying28 info49 rfl (by decide) (by omega) v393 y392 l0 _ _ _ (fun k_ => some k_ ≠ (.slice Ao40 y388.length co40 : Value).ownBlock) (fun _ => False) rfl rfl ?aO ?aR (fun _ _ h => h) (fun _ h => h.elim) ?aF ?aB ?aS ?aL ?_; (case aR => repeat (first | exact (Kd.C_below HR0.out HB.out) | (with_reducible refine Kd.C_alloc ?_ _) | (with_reducible refine Kd.C_drewN ?_ _) | (with_reducible refine Kd.C_drew ?_))); (case aB => exact Hd.b_); (case aF => exact (fun k_ hk => Kd.fresh' (Kd.R_lt (Hd.r_ HO390)) k_ hk)); (case aO => exact (by (with_reducible repeat (first | apply Kd.R_alloc | apply Kd.R_drewN | apply Kd.R_drew)); exact Kd.R_mono HO394.out (fun _ hk => hk.2))); (case aS => exact (below_size Hd.b_)); (case aL => have := LMc32.out; omega); intro v396 w44 ho hb hg hat; rw [← Ny395.out] at ho; have n0_ := Aside0.mk (Kd.R_after (ok := (fun _ => True)) (Hd.r_ HO390) hg hat); have n1_ := Aside0.mk (hb); have n2_ := Aside0.mk (ho); clear HO390; clear HB; clear HO394; have HO390 := n0_; have HB := n1_; have HO397 := n2_; clear n0_ n1_ n2_; clear ho hb hg hat))
            go_ret2
            exact ⟨_, by first | rfl | (simp [errW_none, errW_some] <;> rfl) | (simp only [← hji17]; first | rfl | (simp [errW_none, errW_some] <;> rfl)) | (simp [*, errW_none, errW_some] <;> rfl), by (with_reducible repeat (first | apply Kd.R_alloc | apply Kd.R_drewN | apply Kd.R_drew)); exact Kd.R_mono HO397.out (fun _ hk => trivial), Hd.b_⟩
           ·
            rw [if_neg c32] at H
            exact absurd H (by simp)
         ·
          rw [if_neg c20] at H
          exact absurd H (by simp)
        ·
         rw [if_neg c19] at H
         exact absurd H (by simp)
       ·
        rw [if_neg c18] at H
        exact absurd H (by simp)
      ·
       rw [if_neg c16] at H
       exact absurd H (by simp)
     ·
      rw [if_neg c15] at H
      exact absurd H (by simp)
    ·
     rw [if_neg c14] at H
     exact absurd H (by simp)
end Go.Proofs.Ytchmbcembbbplac.MFnExactSafeSimplify
