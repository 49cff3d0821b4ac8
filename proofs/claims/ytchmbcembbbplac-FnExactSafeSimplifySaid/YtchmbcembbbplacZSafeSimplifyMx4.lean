-- Laid by this session's program pp.py, after the kit's print and texts of the session's own. Not trusted: Lean checks it.
import Derived.Test.YtchmbcembbbplacZSafeSimplifyMx0
import Derived.Test.YtchmbcembbbplacZSafeSimplifyMx1
import Derived.Test.YtchmbcembbbplacZSafeSimplifyMx3
namespace Go.Proofs.Ytchmbcembbbplac.MFnExactSafeSimplify
open Go.RowKit Go.Proofs.YtchmbcembbbplacW.PrintWords Go.Proofs.YtchmbcembbbplacW.PrintLast Go.Proofs.YtchmbcembbbplacW.PrintMore
attribute [local go_sem] max2_int min2_int max_two min_two max_three min_three max_four min_four   -- for this text's walks alone
set_option linter.unusedVariables false
set_option linter.unusedSimpArgs false
attribute [local go_sem high] eqA49
def impl_SegmentsOf.l0 : Nat → List (S49) → List (S111) → Int → Option ((List (S111)))
 | 0, _, _, _ => none
 | k + 1, x0, x3, x4 => if x4 < (x0.length : Int) then (if 0 ≤ (wrap64 (x4 - 1)) then (if (wrap64 (x4 - 1)) < (x0.length : Int) then (if 0 ≤ x4 then (if x3.length < 4398046511104 then (impl_SegmentsOf.l0 k x0 (x3 ++ [(⟨(⟨(rd_T49 x0 (wrap64 (x4 - 1))).f0, (rd_T49 x0 (wrap64 (x4 - 1))).f1⟩ : S49), (⟨(rd_T49 x0 x4).f0, (rd_T49 x0 x4).f1⟩ : S49)⟩ : S111)]) (wrap64 (x4 + 1))) else (none)) else (none)) else (none)) else (none)) else (some x3)
def impl_SegmentsOf.f (k : Nat) (l0 : List (S49)) : Option ((List (S111))) := (some (([] : List (S111)) : List (S111))).bind fun y140 => ((impl_IsLine.f k l0).bind fun t143 => (if t143 = true then (impl_SegmentsOf.l0 k l0 y140 1) else (some y140)))
def impl_SegmentsOf.T7 : Bool × List (List Nat × List Nat) := (true, [([], []), ([], []), ([], []), ([2], [2]), ([1, 3], [1, 3]), ([4], [4]), ([], []), ([], []), ([6, 7], [6, 7]), ([8], [8]), ([5, 9], [5, 9]), ([10], [10]), ([0, 11], [0, 11]), ([12, 12, 0, 1, 2, 3, 4, 5, 6, 7, 8, 9, 10, 11, 12], [0, 12])])
def impl_SegmentsOf.B7 : List Nat := [0, 0, 0, 4, 14, 30, 0, 0, 192, 448, 1022, 2046, 4095, 8191]
theorem impl_SegmentsOf.tab7 : rtab .any (opsOf Try.f95 7) = impl_SegmentsOf.T7 := by kernel_rfl
theorem impl_SegmentsOf.bits7 : waitsOk impl_SegmentsOf.T7.2 impl_SegmentsOf.B7 = true := by kernel_rfl
set_option maxHeartbeats 8000000 in
set_option maxRecDepth 100000 in
theorem impl_SegmentsOf.calls (k : Nat) (A0 : Option Addr) (c0 : Nat) (l0 : List (S49)) (r : List (S111)) (w : World) (hr0 : Kd.C k49 w A0 l0.length l0) (hc0 : l0.length ≤ c0) (h : impl_SegmentsOf.f k l0 = some r) :
  Calls Try.prog 95 #[.slice A0 l0.length c0] w fun e w' => ∃ v0_ : Value, e = .returned (v0_) ∧ Kd.R k111 111 w' w.heap.size (fun _ => True) v0_ r ∧ Below w.heap.size w w' := by
 have hu49 := Try.underlying49
 have hu111 := Try.underlying111
 have HR0 := Aside0.mk hr0
 have HC0 := Aside0.mk hc0
 clear hr0 hc0
 have HB := Aside0.mk (Below.refl w.heap.size w)
 have H : ((some (([] : List (S111)) : List (S111))).bind fun y140 => ((impl_IsLine.f k l0).bind fun t143 => (if t143 = true then (impl_SegmentsOf.l0 k l0 y140 1) else (some y140)))) = some r := h
 clear h
 obtain ⟨y140, hy140⟩ : ∃ y_ : List (S111), y_ = (([] : List (S111))) := ⟨_, rfl⟩
 replace H : ((impl_IsLine.f k l0).bind fun t143 => (if t143 = true then (impl_SegmentsOf.l0 k l0 y140 1) else (some y140))) = some r := by first | (rw [hy140]; with_reducible exact H) | (have H2_ := (Option.bind_some _ _).symm.trans H; rw [hy140]; with_reducible exact H2_) | (have H2_ := (Option.bind_some _ _).symm.trans H; with_reducible exact H2_) | with_reducible exact H | (rw [hy140]; exact H) | exact H
 have Ny140 := Aside0.mk hy140
 clear hy140
 replace H := Option.bind_eq_some_iff.mp H
 obtain ⟨t143, A20, H⟩ := H
 replace H : (if t143 = true then (impl_SegmentsOf.l0 k l0 y140 1) else (some y140)) = some r := H
 have A2 := Aside0.mk A20
 clear A20
 by_cases c3 : t143 = true
 ·
  subst c3
  have H1 : (impl_SegmentsOf.l0 k l0 y140 1) = some r := by rw [if_pos rfl] at H; exact H
  clear H
  have H := H1
  clear H1
  have H' := Aside0.mk H
  clear H
  go_enter Try.func95, Try.ntmps95
  go_wp2_with (first | ((with_reducible refine gate_dst (N := 5) rfl ?_); refine Kd.R_lit k111 _ 111 ?hg (N := 5) ?hd (xs := ([] : List (S111))) (inner := []) (ok := fun _ => True) (okp := fun _ => True) ?hr ?hp (fun _ hk => hk) trivial (Below.refl _ _) (Nat.le_refl _) (by simp) ?_; (case hd => rfl); (case hg => rfl); (case hr => first | (go_simp; done) | (go_simp; rfl)); (case hp => exact (Reps.none _ _)); intro v141 w4 ho5 hb hg_ hnew_; clear hg_ hnew_; (first | rw [← Ny140.out] at ho5 | (simp only [Int.reduceToNat] at ho5; rw [← Ny140.out] at ho5)); have HO142 := Aside0.mk (Kd.R_lower ho5 (below_size Hd.b_)); replace HB := Aside0.mk (below_step Hd.b_ hb); clear hb ho5) | ((with_reducible refine gate_callee (f := 94) rfl ?_); refine goesL_ (some 7) rfl rfl Try.func94 (by kernel_rfl) rfl #[.slice A0 l0.length c0] rfl Hd.m_ ?_; (with_reducible refine (impl_IsLine.calls k _ _ l0 true _ ?side1 ?side2 A2.out).mono ?_); (case side1 => repeat (first | exact (Kd.C_below HR0.out HB.out) | (with_reducible refine Kd.C_alloc ?_ _) | (with_reducible refine Kd.C_drewN ?_ _) | (with_reducible refine Kd.C_drew ?_))); (case side2 => exact HC0.out); rintro e w6 ⟨rfl, hb⟩; refine ⟨_, rfl, ?_⟩; replace HO142 := Aside0.mk (Kd.R_below (Hd.r_ HO142) hb); replace HB := Aside0.mk (below_step Hd.b_ hb); (try clear hb); (try clear hb2); (try clear hk); (try clear hi)))
  go_loopg [3, 4] k (fun kq v3 v4 w' => ∃ (x3_1 : List (S111)) (x4_1 : Int), v4 = .int .i64 x4_1 ∧ Aside0 (impl_SegmentsOf.l0 kq l0 x3_1 x4_1 = some r) ∧ Aside0 (kq ≤ k) ∧ Aside0 (Kd.R k111 111 w' w.heap.size (fun _ => True) v3 x3_1) ∧ Aside0 (Below w.heap.size w w'))
  case atStart => exact ⟨(y140), (1), (by first | rfl | (simp; done) | (simp [*]; done)), H', ⟨Nat.le_refl _⟩, ⟨by (with_reducible repeat (first | apply Kd.R_alloc | apply Kd.R_drewN | apply Kd.R_drew)); exact HO142.out⟩, ⟨Hd.b_⟩⟩
  case round =>
   clear H'
   try clear p2
   try clear c3
   obtain ⟨x3_1, x4_1, rfl, HA, HK1, HO_3, HB⟩ := hrel
   cases gk with
   | zero => exact absurd HA.out (by simp [impl_SegmentsOf.l0])
   | succ k1 =>
    have H := HA.out
    clear HA
    simp only [impl_SegmentsOf.l0] at H
    by_cases c7 : x4_1 < (l0.length : Int)
    ·
     rw [if_pos c7] at H
     have c7b0 : decide (x4_1 < (l0.length : Int)) = true := decide_eq_true c7
     clear c7
     obtain ⟨ji8, hji8⟩ : ∃ j_ : Int, (wrap64 (x4_1 - 1)) = j_ := ⟨_, rfl⟩
     replace H : (if 0 ≤ (ji8) then (if (ji8) < (l0.length : Int) then (if 0 ≤ x4_1 then (if x3_1.length < 4398046511104 then (impl_SegmentsOf.l0 k1 l0 (x3_1 ++ [(⟨(⟨(rd_T49 l0 (ji8)).f0, (rd_T49 l0 (ji8)).f1⟩ : S49), (⟨(rd_T49 l0 x4_1).f0, (rd_T49 l0 x4_1).f1⟩ : S49)⟩ : S111)]) (wrap64 (x4_1 + 1))) else (none)) else (none)) else (none)) else (none)) = some r := by first | (rw [hji8] at H; exact H) | (simp only [hji8] at H ⊢; exact H)
     have hji8w : (IntKind.i64.wrap (x4_1 - 1)) = ji8 := (i64_w _).trans hji8
     by_cases c9 : 0 ≤ (ji8)
     ·
      rw [if_pos c9] at H
      have c9b0 : decide (0 ≤ (ji8)) = true := decide_eq_true c9
      clear c9
      by_cases c10 : (ji8) < (l0.length : Int)
      ·
       rw [if_pos c10] at H
       have c10b0 : decide ((ji8) < (l0.length : Int)) = true := decide_eq_true c10
       clear c10
       by_cases c11 : 0 ≤ x4_1
       ·
        rw [if_pos c11] at H
        have c11b0 : decide (0 ≤ x4_1) = true := decide_eq_true c11
        clear c11
        by_cases c12 : x3_1.length < 4398046511104
        ·
         rw [if_pos c12] at H
         have LMc12 := Aside0.mk c12
         clear c12
         obtain ⟨y146, hy146⟩ : ∃ y_ : List (S111), y_ = (x3_1 ++ [(⟨(⟨(rd_T49 l0 (ji8)).f0, (rd_T49 l0 (ji8)).f1⟩ : S49), (⟨(rd_T49 l0 x4_1).f0, (rd_T49 l0 x4_1).f1⟩ : S49)⟩ : S111)]) := ⟨_, rfl⟩
         replace H : (impl_SegmentsOf.l0 k1 l0 y146 (wrap64 (x4_1 + 1))) = some r := by first | (rw [hy146]; with_reducible exact H) | (have H2_ := (Option.bind_some _ _).symm.trans H; rw [hy146]; with_reducible exact H2_) | (have H2_ := (Option.bind_some _ _).symm.trans H; with_reducible exact H2_) | with_reducible exact H | (rw [hy146]; exact H) | exact H
         have Ny146 := Aside0.mk hy146
         clear hy146
         have H' := Aside0.mk H
         clear H
         try go_wp2
         replace HO_3 := Aside0.mk (Kd.R_drew HO_3.out)
         replace HB := Aside0.mk (below_drew1 HB.out)
         have p144 : 0 ≤ ((ji8) : Int) := of_decide_eq_true Hd.a_
         have q144 : (ji8) < (l0.length : Int) := of_decide_eq_true Hd.a_
         obtain ⟨ad144, e144, hx144_0, hx144_1⟩ := at_T49 HR0.out (ji8) p144 q144
         have hw144_1 := hx144_1
         have hw144_0 := hx144_0
         cases e144
         replace hx144_0 := (HB.out.cell (World.block_lt_of_cell? w _ hx144_0)).trans hx144_0
         replace hx144_1 := (HB.out.cell (World.block_lt_of_cell? w _ hx144_1)).trans hx144_1
         replace p144 := eq_true p144
         replace q144 := eq_true q144
         have p145 : 0 ≤ (x4_1 : Int) := of_decide_eq_true Hd.a_
         have q145 : x4_1 < (l0.length : Int) := of_decide_eq_true Hd.a_
         obtain ⟨ad145, e145, hx145_0, hx145_1⟩ := at_T49 HR0.out x4_1 p145 q145
         have hw145_1 := hx145_1
         have hw145_0 := hx145_0
         obtain rfl : ad144 = ad145 := (by injection e145)
         replace hx145_0 := (HB.out.cell (World.block_lt_of_cell? w _ hx145_0)).trans hx145_0
         replace hx145_1 := (HB.out.cell (World.block_lt_of_cell? w _ hx145_1)).trans hx145_1
         replace p145 := eq_true p145
         replace q145 := eq_true q145
         refine start_ (n := 14) (S := fun w' => w'.cell? (ad144.add (((ji8)).toNat * 2)) = some (.int .i64 ((rd_T49 l0 (ji8)).f0)) ∧ w'.cell? ⟨(ad144.add (((ji8)).toNat * 2)).block, (ad144.add (((ji8)).toNat * 2)).off + 1, none⟩ = some (.int .i64 ((rd_T49 l0 (ji8)).f1)) ∧ w'.cell? (ad144.add ((x4_1).toNat * 2)) = some (.int .i64 ((rd_T49 l0 x4_1).f0)) ∧ w'.cell? ⟨(ad144.add ((x4_1).toNat * 2)).block, (ad144.add ((x4_1).toNat * 2)).off + 1, none⟩ = some (.int .i64 ((rd_T49 l0 x4_1).f1))) (ds := []) #[false, false, false, false, false, false, false, false, false, false, false, false, false, false] (by kernel_rfl) rfl rfl ⟨((HB.out.cell (World.block_lt_of_cell? w _ hw144_0)).trans hw144_0), ((HB.out.cell (World.block_lt_of_cell? w _ hw144_1)).trans hw144_1), ((HB.out.cell (World.block_lt_of_cell? w _ hw145_0)).trans hw145_0), ((HB.out.cell (World.block_lt_of_cell? w _ hw145_1)).trans hw145_1)⟩ (fun hHeld => ?_); refine with_tabW impl_SegmentsOf.tab7 impl_SegmentsOf.bits7 (fun HT_ HW_ => ?_)
         generalize wr.drew = w13 at HO_3 HB hx144_0 hx144_1 hx145_0 hx145_1 hHeld ⊢
         refine Hd.p_ HT_ 0 (some 16) #[true, false, false, false, false, false, false, false, false, false, false, false, false, false] ?_
         refine Hd.p_ HT_ 1 (some 17) #[true, true, false, false, false, false, false, false, false, false, false, false, false, false] ?_
         refine Hd.p_ HT_ 2 (some 18) #[true, true, true, false, false, false, false, false, false, false, false, false, false, false] ?_
         refine Hd.p_ HT_ 3 (some 19) #[true, true, true, true, false, false, false, false, false, false, false, false, false, false] ?_
         refine Hd.p_ HT_ 4 (some 20) #[true, true, true, true, true, false, false, false, false, false, false, false, false, false] ?_
         refine Hd.p_ HT_ 6 (some 22) #[true, true, true, true, true, false, true, false, false, false, false, false, false, false] ?_
         refine Hd.p_ HT_ 7 (some 23) #[true, true, true, true, true, false, true, true, false, false, false, false, false, false] ?_
         refine Hd.p_ HT_ 8 (some 24) #[true, true, true, true, true, false, true, true, true, false, false, false, false, false] ?_
         refine Hd.t_ HT_ HW_ hHeld 5 (some 21) #[true, true, true, true, true, true, true, true, true, false, false, false, false, false] ?_
         refine Hd.t_ HT_ HW_ hHeld 9 (some 25) #[true, true, true, true, true, true, true, true, true, true, false, false, false, false] ?_
         refine Hd.p_ HT_ 10 (some 26) #[true, true, true, true, true, true, true, true, true, true, true, false, false, false] ?_
         refine Hd.o_ HT_ 11 (some 27) #[true, true, true, true, true, true, true, true, true, true, true, true, false, false] (fun K hK => ?_)
         refine value_ (w1 := ?_) (v := ?_) (by rfl) rfl ?_ ?_
         rotate_left 2
         ·
          go_simp
          constructor
          ·
           rfl
          ·
           rfl
         refine hK.out _ _ ⟨(World.cell?_alloc_lt _ _ _ (World.block_lt_of_cell? _ _ (((HB.out.cell (World.block_lt_of_cell? w _ hw144_0)).trans hw144_0)))).trans (((HB.out.cell (World.block_lt_of_cell? w _ hw144_0)).trans hw144_0)), (World.cell?_alloc_lt _ _ _ (World.block_lt_of_cell? _ _ (((HB.out.cell (World.block_lt_of_cell? w _ hw144_1)).trans hw144_1)))).trans (((HB.out.cell (World.block_lt_of_cell? w _ hw144_1)).trans hw144_1)), (World.cell?_alloc_lt _ _ _ (World.block_lt_of_cell? _ _ (((HB.out.cell (World.block_lt_of_cell? w _ hw145_0)).trans hw145_0)))).trans (((HB.out.cell (World.block_lt_of_cell? w _ hw145_0)).trans hw145_0)), (World.cell?_alloc_lt _ _ _ (World.block_lt_of_cell? _ _ (((HB.out.cell (World.block_lt_of_cell? w _ hw145_1)).trans hw145_1)))).trans (((HB.out.cell (World.block_lt_of_cell? w _ hw145_1)).trans hw145_1))⟩ (fun hHeld => ?_)
         clear hK K
         refine Hd.n_ (some 27) ?_
         refine Hd.o_ HT_ 12 (some 28) #[true, true, true, true, true, true, true, true, true, true, true, true, true, false] (fun K hK => ?_)
         refine Kd.R_append_step k111 (w0 := w) w.heap.size (by rfl) (.tmp 16) (.tmp 27) 91 111 (.agg #[(.int .i64 0), (.int .i64 0), (.int .i64 0), (.int .i64 0)]) 32 rfl Try.underlying91 info111 rfl (by decide) (by omega) u3 x3_1 (⟨(⟨(rd_T49 l0 (ji8)).f0, (rd_T49 l0 (ji8)).f1⟩ : S49), (⟨(rd_T49 l0 x4_1).f0, (rd_T49 l0 x4_1).f1⟩ : S49)⟩ : S111) [.int .i64 ((rd_T49 l0 (ji8)).f0), .int .i64 ((rd_T49 l0 (ji8)).f1), .int .i64 ((rd_T49 l0 x4_1).f0), .int .i64 ((rd_T49 l0 x4_1).f1)] (fun _ => True) (fun _ => False) rfl rfl ?aP (fun _ hk => hk.elim) ?aF ?aO ?aB ?aS ?aL ?_
         (case aP => exact k111_mkM _ _ _ (⟨(⟨(rd_T49 l0 (ji8)).f0, (rd_T49 l0 (ji8)).f1⟩ : S49), (⟨(rd_T49 l0 x4_1).f0, (rd_T49 l0 x4_1).f1⟩ : S49)⟩ : S111))
         (case aB => exact Hd.b_)
         (case aF => exact (fun _ _ => trivial))
         (case aO => exact (Hd.r_ HO_3))
         (case aS => exact (below_size Hd.b_))
         (case aL => have := LMc12.out; omega)
         intro v147 w14 ho hb hg hat
         rw [← Ny146.out] at ho
         have n0_ := Aside0.mk (hb)
         have n1_ := Aside0.mk (ho)
         clear HB
         clear HO_3
         have HB := n0_
         have HO148 := n1_
         clear n0_ n1_
         clear ho hb hg hat
         refine hK.out _ _ ⟨((HB.out.cell (World.block_lt_of_cell? w _ hw144_0)).trans hw144_0), ((HB.out.cell (World.block_lt_of_cell? w _ hw144_1)).trans hw144_1), ((HB.out.cell (World.block_lt_of_cell? w _ hw145_0)).trans hw145_0), ((HB.out.cell (World.block_lt_of_cell? w _ hw145_1)).trans hw145_1)⟩ (fun hHeld => ?_)
         clear hK K
         refine Hd.n_ (some 28) ?_
         refine Hd.p_ HT_ 13 (some 3) #[true, true, true, true, true, true, true, true, true, true, true, true, true, true] ?_
         refine done_ (done_of HT_.out (by kernel_rfl)) ?_
         try go_wp2
         go_roundg k1
         case measure => have := HK1.out; omega
         case rel => exact ⟨(y146), (wrap64 (x4_1 + 1)), (by first | rfl | (simp; done) | (simp [*]; done)), H', ⟨by have := HK1.out; omega⟩, ⟨by (with_reducible repeat (first | apply Kd.R_alloc | apply Kd.R_drewN | apply Kd.R_drew)); exact HO148.out⟩, ⟨Hd.b_⟩⟩
        ·
         rw [if_neg c12] at H
         exact absurd H (by simp)
       ·
        rw [if_neg c11] at H
        exact absurd H (by simp)
      ·
       rw [if_neg c10] at H
       exact absurd H (by simp)
     ·
      rw [if_neg c9] at H
      exact absurd H (by simp)
    ·
     rw [if_neg c7] at H
     have c7b0 : decide (x4_1 < (l0.length : Int)) = false := decide_eq_false c7
     clear c7
     obtain rfl := Option.some.inj H
     go_wp2
     go_ret
     exact ⟨_, Hd.e_, by (with_reducible repeat (first | apply Kd.R_alloc | apply Kd.R_drewN | apply Kd.R_drew)); exact HO_3.out, Hd.b_⟩
 ·
  replace c3 := Bool.eq_false_iff.mpr c3
  subst c3
  have H1 : (some y140) = some r := by rw [if_neg (show ¬ (false = true) by decide)] at H; exact H
  clear H
  have H := H1
  clear H1
  obtain rfl := Option.some.inj H
  go_enter Try.func95, Try.ntmps95
  go_wp2_with (first | ((with_reducible refine gate_dst (N := 5) rfl ?_); refine Kd.R_lit k111 _ 111 ?hg (N := 5) ?hd (xs := ([] : List (S111))) (inner := []) (ok := fun _ => True) (okp := fun _ => True) ?hr ?hp (fun _ hk => hk) trivial (Below.refl _ _) (Nat.le_refl _) (by simp) ?_; (case hd => rfl); (case hg => rfl); (case hr => first | (go_simp; done) | (go_simp; rfl)); (case hp => exact (Reps.none _ _)); intro v141 w15 ho16 hb hg_ hnew_; clear hg_ hnew_; (first | rw [← Ny140.out] at ho16 | (simp only [Int.reduceToNat] at ho16; rw [← Ny140.out] at ho16)); have HO142 := Aside0.mk (Kd.R_lower ho16 (below_size Hd.b_)); replace HB := Aside0.mk (below_step Hd.b_ hb); clear hb ho16) | ((with_reducible refine gate_callee (f := 94) rfl ?_); refine goesL_ (some 7) rfl rfl Try.func94 (by kernel_rfl) rfl #[.slice A0 l0.length c0] rfl Hd.m_ ?_; (with_reducible refine (impl_IsLine.calls k _ _ l0 false _ ?side1 ?side2 A2.out).mono ?_); (case side1 => repeat (first | exact (Kd.C_below HR0.out HB.out) | (with_reducible refine Kd.C_alloc ?_ _) | (with_reducible refine Kd.C_drewN ?_ _) | (with_reducible refine Kd.C_drew ?_))); (case side2 => exact HC0.out); rintro e w17 ⟨rfl, hb⟩; refine ⟨_, rfl, ?_⟩; replace HO142 := Aside0.mk (Kd.R_below (Hd.r_ HO142) hb); replace HB := Aside0.mk (below_step Hd.b_ hb); (try clear hb); (try clear hb2); (try clear hk); (try clear hi)))
  go_ret
  exact ⟨_, Hd.e_, by (with_reducible repeat (first | apply Kd.R_alloc | apply Kd.R_drewN | apply Kd.R_drew)); exact HO142.out, Hd.b_⟩
def impl_IsSegment.f (a0_0 : Int) (a0_1 : Int) (a0_2 : Int) (a0_3 : Int) : Option (Bool) := (impl_IsPoint.f a0_0 a0_1).bind fun t150 => (if t150 = true then ((impl_IsPoint.f a0_2 a0_3).bind fun t151 => (if t151 = true then (some (!(a0_0 == a0_2) || (!(a0_1 == a0_3)))) else (some false))) else (some false))
set_option maxHeartbeats 8000000 in
set_option maxRecDepth 100000 in
theorem impl_IsSegment.calls (a0_0 : Int) (a0_1 : Int) (a0_2 : Int) (a0_3 : Int) (r : Bool) (w : World) (h : impl_IsSegment.f a0_0 a0_1 a0_2 a0_3 = some r) :
  Calls Try.prog 102 #[.agg #[.int .i64 a0_0, .int .i64 a0_1, .int .i64 a0_2, .int .i64 a0_3]] w fun e w' => e = .returned (.bool r) ∧ Below w.heap.size w w' := by
 have hu111 := Try.underlying111
 have hu49 := Try.underlying49
 have HB := Aside0.mk (Below.refl w.heap.size w)
 have H : ((impl_IsPoint.f a0_0 a0_1).bind fun t150 => (if t150 = true then ((impl_IsPoint.f a0_2 a0_3).bind fun t151 => (if t151 = true then (some (!(a0_0 == a0_2) || (!(a0_1 == a0_3)))) else (some false))) else (some false))) = some r := h
 clear h
 replace H := Option.bind_eq_some_iff.mp H
 obtain ⟨t150, A20, H⟩ := H
 replace H : (if t150 = true then ((impl_IsPoint.f a0_2 a0_3).bind fun t151 => (if t151 = true then (some (!(a0_0 == a0_2) || (!(a0_1 == a0_3)))) else (some false))) else (some false)) = some r := H
 have A2 := Aside0.mk A20
 clear A20
 by_cases c3 : t150 = true
 ·
  subst c3
  have H1 : ((impl_IsPoint.f a0_2 a0_3).bind fun t151 => (if t151 = true then (some (!(a0_0 == a0_2) || (!(a0_1 == a0_3)))) else (some false))) = some r := by rw [if_pos rfl] at H; exact H
  clear H
  have H := H1
  clear H1
  replace H := Option.bind_eq_some_iff.mp H
  obtain ⟨t151, A40, H⟩ := H
  replace H : (if t151 = true then (some (!(a0_0 == a0_2) || (!(a0_1 == a0_3)))) else (some false)) = some r := H
  have A4 := Aside0.mk A40
  clear A40
  by_cases c5 : t151 = true
  ·
   subst c5
   have H1 : (some (!(a0_0 == a0_2) || (!(a0_1 == a0_3)))) = some r := by rw [if_pos rfl] at H; exact H
   clear H
   have H := H1
   clear H1
   obtain rfl := Option.some.inj H
   go_enter Try.func102, Try.ntmps102
   go_wp2_with (first | ((with_reducible refine gate_dst (N := 1) rfl ?_); refine Hd.box_ 1 (#[.int .i64 a0_0, .int .i64 a0_1, .int .i64 a0_2, .int .i64 a0_3]) 111 ?_; intro gb149 hg w6 hbox hb; have BK149 := Aside0.mk (hbox); have GW149 := Aside0.mk ((Hd.g_ hg Hd.b_ : w.heap.size ≤ gb149)); have GE149 := Aside0.mk ((Hd.g_ hg Hd.b_ : w.heap.size ≤ gb149)); replace HB := Aside0.mk (below_step Hd.b_ hb); clear hb hbox hg; obtain ⟨hcz7_0, hcz7_1, hcz7_2, hcz7_3⟩ := Hd.c4_ BK149.out; obtain ⟨hfz7_0, hfz7_1, hfz7_2, hfz7_3⟩ := Hd.f4_ BK149.out) | ((with_reducible refine gate_callee (f := 105) rfl ?_); refine goesL_ (some 5) rfl rfl Try.func105 (by kernel_rfl) rfl #[.agg #[.int .i64 a0_0, .int .i64 a0_1]] rfl Hd.m_ ?_; (with_reducible refine (impl_IsPoint.calls a0_0 a0_1 true _ A2.out).mono ?_); rintro e w8 ⟨rfl, hb⟩; refine ⟨_, rfl, ?_⟩; replace BK149 := Aside0.mk (Hd.kb_ BK149 hb); replace HB := Aside0.mk (below_step Hd.b_ hb); (try clear hb); (try clear hb2); (try clear hk); (try clear hi); obtain ⟨hcz9_0, hcz9_1, hcz9_2, hcz9_3⟩ := Hd.c4_ BK149.out; obtain ⟨hfz9_0, hfz9_1, hfz9_2, hfz9_3⟩ := Hd.f4_ BK149.out) | (go_at_call 105; (with_reducible refine (impl_IsPoint.calls a0_2 a0_3 true _ A4.out).mono ?_); rintro e w10 ⟨rfl, hb⟩; replace BK149 := Aside0.mk (Hd.kb_ BK149 hb); replace HB := Aside0.mk (below_step Hd.b_ hb); (try clear hb); (try clear hb2); (try clear hk); (try clear hi); obtain ⟨hcz11_0, hcz11_1, hcz11_2, hcz11_3⟩ := Hd.c4_ BK149.out; obtain ⟨hfz11_0, hfz11_1, hfz11_2, hfz11_3⟩ := Hd.f4_ BK149.out))
   go_ret
   exact ⟨Hd.e_, Hd.b_⟩
  ·
   replace c5 := Bool.eq_false_iff.mpr c5
   subst c5
   have H1 : (some false) = some r := by rw [if_neg (show ¬ (false = true) by decide)] at H; exact H
   clear H
   have H := H1
   clear H1
   obtain rfl := Option.some.inj H
   go_enter Try.func102, Try.ntmps102
   go_wp2_with (first | ((with_reducible refine gate_dst (N := 1) rfl ?_); refine Hd.box_ 1 (#[.int .i64 a0_0, .int .i64 a0_1, .int .i64 a0_2, .int .i64 a0_3]) 111 ?_; intro gb149 hg w12 hbox hb; have BK149 := Aside0.mk (hbox); have GW149 := Aside0.mk ((Hd.g_ hg Hd.b_ : w.heap.size ≤ gb149)); have GE149 := Aside0.mk ((Hd.g_ hg Hd.b_ : w.heap.size ≤ gb149)); replace HB := Aside0.mk (below_step Hd.b_ hb); clear hb hbox hg; obtain ⟨hcz13_0, hcz13_1, hcz13_2, hcz13_3⟩ := Hd.c4_ BK149.out; obtain ⟨hfz13_0, hfz13_1, hfz13_2, hfz13_3⟩ := Hd.f4_ BK149.out) | ((with_reducible refine gate_callee (f := 105) rfl ?_); refine goesL_ (some 5) rfl rfl Try.func105 (by kernel_rfl) rfl #[.agg #[.int .i64 a0_0, .int .i64 a0_1]] rfl Hd.m_ ?_; (with_reducible refine (impl_IsPoint.calls a0_0 a0_1 true _ A2.out).mono ?_); rintro e w14 ⟨rfl, hb⟩; refine ⟨_, rfl, ?_⟩; replace BK149 := Aside0.mk (Hd.kb_ BK149 hb); replace HB := Aside0.mk (below_step Hd.b_ hb); (try clear hb); (try clear hb2); (try clear hk); (try clear hi); obtain ⟨hcz15_0, hcz15_1, hcz15_2, hcz15_3⟩ := Hd.c4_ BK149.out; obtain ⟨hfz15_0, hfz15_1, hfz15_2, hfz15_3⟩ := Hd.f4_ BK149.out) | (go_at_call 105; (with_reducible refine (impl_IsPoint.calls a0_2 a0_3 false _ A4.out).mono ?_); rintro e w16 ⟨rfl, hb⟩; replace BK149 := Aside0.mk (Hd.kb_ BK149 hb); replace HB := Aside0.mk (below_step Hd.b_ hb); (try clear hb); (try clear hb2); (try clear hk); (try clear hi)))
   go_ret
   exact ⟨Hd.e_, Hd.b_⟩
 ·
  replace c3 := Bool.eq_false_iff.mpr c3
  subst c3
  have H1 : (some false) = some r := by rw [if_neg (show ¬ (false = true) by decide)] at H; exact H
  clear H
  have H := H1
  clear H1
  obtain rfl := Option.some.inj H
  go_enter Try.func102, Try.ntmps102
  go_wp2_with (first | ((with_reducible refine gate_dst (N := 1) rfl ?_); refine Hd.box_ 1 (#[.int .i64 a0_0, .int .i64 a0_1, .int .i64 a0_2, .int .i64 a0_3]) 111 ?_; intro gb149 hg w17 hbox hb; have BK149 := Aside0.mk (hbox); have GW149 := Aside0.mk ((Hd.g_ hg Hd.b_ : w.heap.size ≤ gb149)); have GE149 := Aside0.mk ((Hd.g_ hg Hd.b_ : w.heap.size ≤ gb149)); replace HB := Aside0.mk (below_step Hd.b_ hb); clear hb hbox hg; obtain ⟨hcz18_0, hcz18_1, hcz18_2, hcz18_3⟩ := Hd.c4_ BK149.out; obtain ⟨hfz18_0, hfz18_1, hfz18_2, hfz18_3⟩ := Hd.f4_ BK149.out) | ((with_reducible refine gate_callee (f := 105) rfl ?_); refine goesL_ (some 5) rfl rfl Try.func105 (by kernel_rfl) rfl #[.agg #[.int .i64 a0_0, .int .i64 a0_1]] rfl Hd.m_ ?_; (with_reducible refine (impl_IsPoint.calls a0_0 a0_1 false _ A2.out).mono ?_); rintro e w19 ⟨rfl, hb⟩; refine ⟨_, rfl, ?_⟩; replace BK149 := Aside0.mk (Hd.kb_ BK149 hb); replace HB := Aside0.mk (below_step Hd.b_ hb); (try clear hb); (try clear hb2); (try clear hk); (try clear hi)))
  go_ret
  exact ⟨Hd.e_, Hd.b_⟩
def cmp_isNaN_int.f (a0 : Int) : Option (Bool) := some (a0 != a0)
set_option maxHeartbeats 8000000 in
set_option maxRecDepth 100000 in
theorem cmp_isNaN_int.calls (a0 : Int) (r : Bool) (w : World) (h : cmp_isNaN_int.f a0 = some r) :
  Calls Try.prog 140 #[.int .i64 a0] w fun e w' => e = .returned (.bool r) ∧ Drawn0 w w' := by
 have H : (some (a0 != a0)) = some r := h
 clear h
 obtain rfl := Option.some.inj H
 go_enter Try.func140, Try.ntmps140
 go_wp2
 go_ret
 exact ⟨by first | rfl | (simp; done) | (simp [*]; done), by repeat (first | exact Drawn0.refl _ | apply Drawn0.step)⟩
def cmp_Compare_int.f (a0 : Int) (a1 : Int) : Option (Int) := (cmp_isNaN_int.f a0).bind fun t152 => ((cmp_isNaN_int.f a1).bind fun t153 => (if t152 = true then (if t153 = true then (some 0) else (some (-1))) else (if t153 = true then (some 1) else (if a0 < a1 then (some (-1)) else (if a0 > a1 then (some 1) else (some 0))))))
set_option maxHeartbeats 8000000 in
set_option maxRecDepth 100000 in
theorem cmp_Compare_int.calls (a0 : Int) (a1 : Int) (r : Int) (w : World) (h : cmp_Compare_int.f a0 a1 = some r) :
  Calls Try.prog 88 #[.int .i64 a0, .int .i64 a1] w fun e w' => e = .returned (.int .i64 r) ∧ Drawn0 w w' := by
 have H : ((cmp_isNaN_int.f a0).bind fun t152 => ((cmp_isNaN_int.f a1).bind fun t153 => (if t152 = true then (if t153 = true then (some 0) else (some (-1))) else (if t153 = true then (some 1) else (if a0 < a1 then (some (-1)) else (if a0 > a1 then (some 1) else (some 0))))))) = some r := h
 clear h
 replace H := Option.bind_eq_some_iff.mp H
 obtain ⟨t152, A30, H⟩ := H
 replace H : ((cmp_isNaN_int.f a1).bind fun t153 => (if t152 = true then (if t153 = true then (some 0) else (some (-1))) else (if t153 = true then (some 1) else (if a0 < a1 then (some (-1)) else (if a0 > a1 then (some 1) else (some 0)))))) = some r := H
 have A3 := Aside0.mk A30
 clear A30
 replace H := Option.bind_eq_some_iff.mp H
 obtain ⟨t153, A40, H⟩ := H
 replace H : (if t152 = true then (if t153 = true then (some 0) else (some (-1))) else (if t153 = true then (some 1) else (if a0 < a1 then (some (-1)) else (if a0 > a1 then (some 1) else (some 0))))) = some r := H
 have A4 := Aside0.mk A40
 clear A40
 by_cases c5 : t152 = true
 ·
  subst c5
  have H1 : (if t153 = true then (some 0) else (some (-1))) = some r := by rw [if_pos rfl] at H; exact H
  clear H
  have H := H1
  clear H1
  by_cases c6 : t153 = true
  ·
   subst c6
   have H1 : (some 0) = some r := by rw [if_pos rfl] at H; exact H
   clear H
   have H := H1
   clear H1
   obtain rfl := Option.some.inj H
   go_enter Try.func88, Try.ntmps88
   go_wp2_with (first | ((with_reducible refine gate_callee (f := 140) rfl ?_); refine goesL_ (some 8) rfl rfl Try.func140 (by kernel_rfl) rfl #[.int .i64 a0] rfl Hd.m_ ?_; (with_reducible refine (cmp_isNaN_int.calls a0 true _ A3.out).mono ?_); rintro e w' ⟨rfl, ⟨nd, rfl⟩⟩; refine ⟨_, rfl, ?_⟩) | ((with_reducible refine gate_callee (f := 140) rfl ?_); refine goesL_ (some 10) rfl rfl Try.func140 (by kernel_rfl) rfl #[.int .i64 a1] rfl Hd.m_ ?_; (with_reducible refine (cmp_isNaN_int.calls a1 true _ A4.out).mono ?_); rintro e w' ⟨rfl, ⟨nd, rfl⟩⟩; refine ⟨_, rfl, ?_⟩))
   go_ret
   exact ⟨by first | rfl | (simp; done) | (simp [*]; done), by repeat (first | exact Drawn0.refl _ | apply Drawn0.step)⟩
  ·
   replace c6 := Bool.eq_false_iff.mpr c6
   subst c6
   have H1 : (some (-1)) = some r := by rw [if_neg (show ¬ (false = true) by decide)] at H; exact H
   clear H
   have H := H1
   clear H1
   obtain rfl := Option.some.inj H
   go_enter Try.func88, Try.ntmps88
   go_wp2_with (first | ((with_reducible refine gate_callee (f := 140) rfl ?_); refine goesL_ (some 8) rfl rfl Try.func140 (by kernel_rfl) rfl #[.int .i64 a0] rfl Hd.m_ ?_; (with_reducible refine (cmp_isNaN_int.calls a0 true _ A3.out).mono ?_); rintro e w' ⟨rfl, ⟨nd, rfl⟩⟩; refine ⟨_, rfl, ?_⟩) | ((with_reducible refine gate_callee (f := 140) rfl ?_); refine goesL_ (some 10) rfl rfl Try.func140 (by kernel_rfl) rfl #[.int .i64 a1] rfl Hd.m_ ?_; (with_reducible refine (cmp_isNaN_int.calls a1 false _ A4.out).mono ?_); rintro e w' ⟨rfl, ⟨nd, rfl⟩⟩; refine ⟨_, rfl, ?_⟩))
   go_ret
   exact ⟨by first | rfl | (simp; done) | (simp [*]; done), by repeat (first | exact Drawn0.refl _ | apply Drawn0.step)⟩
 ·
  replace c5 := Bool.eq_false_iff.mpr c5
  subst c5
  have H1 : (if t153 = true then (some 1) else (if a0 < a1 then (some (-1)) else (if a0 > a1 then (some 1) else (some 0)))) = some r := by rw [if_neg (show ¬ (false = true) by decide)] at H; exact H
  clear H
  have H := H1
  clear H1
  by_cases c7 : t153 = true
  ·
   subst c7
   have H1 : (some 1) = some r := by rw [if_pos rfl] at H; exact H
   clear H
   have H := H1
   clear H1
   obtain rfl := Option.some.inj H
   go_enter Try.func88, Try.ntmps88
   go_wp2_with (first | ((with_reducible refine gate_callee (f := 140) rfl ?_); refine goesL_ (some 8) rfl rfl Try.func140 (by kernel_rfl) rfl #[.int .i64 a0] rfl Hd.m_ ?_; (with_reducible refine (cmp_isNaN_int.calls a0 false _ A3.out).mono ?_); rintro e w' ⟨rfl, ⟨nd, rfl⟩⟩; refine ⟨_, rfl, ?_⟩) | ((with_reducible refine gate_callee (f := 140) rfl ?_); refine goesL_ (some 10) rfl rfl Try.func140 (by kernel_rfl) rfl #[.int .i64 a1] rfl Hd.m_ ?_; (with_reducible refine (cmp_isNaN_int.calls a1 true _ A4.out).mono ?_); rintro e w' ⟨rfl, ⟨nd, rfl⟩⟩; refine ⟨_, rfl, ?_⟩))
   go_ret
   exact ⟨by first | rfl | (simp; done) | (simp [*]; done), by repeat (first | exact Drawn0.refl _ | apply Drawn0.step)⟩
  ·
   replace c7 := Bool.eq_false_iff.mpr c7
   subst c7
   have H1 : (if a0 < a1 then (some (-1)) else (if a0 > a1 then (some 1) else (some 0))) = some r := by rw [if_neg (show ¬ (false = true) by decide)] at H; exact H
   clear H
   have H := H1
   clear H1
   by_cases c8 : a0 < a1
   ·
    rw [if_pos c8] at H
    have c8b0 : decide (a0 < a1) = true := decide_eq_true c8
    clear c8
    obtain rfl := Option.some.inj H
    go_enter Try.func88, Try.ntmps88
    go_wp2_with (first | ((with_reducible refine gate_callee (f := 140) rfl ?_); refine goesL_ (some 8) rfl rfl Try.func140 (by kernel_rfl) rfl #[.int .i64 a0] rfl Hd.m_ ?_; (with_reducible refine (cmp_isNaN_int.calls a0 false _ A3.out).mono ?_); rintro e w' ⟨rfl, ⟨nd, rfl⟩⟩; refine ⟨_, rfl, ?_⟩) | ((with_reducible refine gate_callee (f := 140) rfl ?_); refine goesL_ (some 10) rfl rfl Try.func140 (by kernel_rfl) rfl #[.int .i64 a1] rfl Hd.m_ ?_; (with_reducible refine (cmp_isNaN_int.calls a1 false _ A4.out).mono ?_); rintro e w' ⟨rfl, ⟨nd, rfl⟩⟩; refine ⟨_, rfl, ?_⟩))
    go_ret
    exact ⟨by first | rfl | (simp; done) | (simp [*]; done), by repeat (first | exact Drawn0.refl _ | apply Drawn0.step)⟩
   ·
    rw [if_neg c8] at H
    have c8b0 : decide (a0 < a1) = false := decide_eq_false c8
    clear c8
    by_cases c9 : a0 > a1
    ·
     rw [if_pos c9] at H
     have c9b0 : decide (a1 < a0) = true := decide_eq_true c9
     clear c9
     obtain rfl := Option.some.inj H
     go_enter Try.func88, Try.ntmps88
     go_wp2_with (first | ((with_reducible refine gate_callee (f := 140) rfl ?_); refine goesL_ (some 8) rfl rfl Try.func140 (by kernel_rfl) rfl #[.int .i64 a0] rfl Hd.m_ ?_; (with_reducible refine (cmp_isNaN_int.calls a0 false _ A3.out).mono ?_); rintro e w' ⟨rfl, ⟨nd, rfl⟩⟩; refine ⟨_, rfl, ?_⟩) | ((with_reducible refine gate_callee (f := 140) rfl ?_); refine goesL_ (some 10) rfl rfl Try.func140 (by kernel_rfl) rfl #[.int .i64 a1] rfl Hd.m_ ?_; (with_reducible refine (cmp_isNaN_int.calls a1 false _ A4.out).mono ?_); rintro e w' ⟨rfl, ⟨nd, rfl⟩⟩; refine ⟨_, rfl, ?_⟩))
     go_ret
     exact ⟨by first | rfl | (simp; done) | (simp [*]; done), by repeat (first | exact Drawn0.refl _ | apply Drawn0.step)⟩
    ·
     rw [if_neg c9] at H
     have c9b0 : decide (a1 < a0) = false := decide_eq_false c9
     clear c9
     obtain rfl := Option.some.inj H
     go_enter Try.func88, Try.ntmps88
     go_wp2_with (first | ((with_reducible refine gate_callee (f := 140) rfl ?_); refine goesL_ (some 8) rfl rfl Try.func140 (by kernel_rfl) rfl #[.int .i64 a0] rfl Hd.m_ ?_; (with_reducible refine (cmp_isNaN_int.calls a0 false _ A3.out).mono ?_); rintro e w' ⟨rfl, ⟨nd, rfl⟩⟩; refine ⟨_, rfl, ?_⟩) | ((with_reducible refine gate_callee (f := 140) rfl ?_); refine goesL_ (some 10) rfl rfl Try.func140 (by kernel_rfl) rfl #[.int .i64 a1] rfl Hd.m_ ?_; (with_reducible refine (cmp_isNaN_int.calls a1 false _ A4.out).mono ?_); rintro e w' ⟨rfl, ⟨nd, rfl⟩⟩; refine ⟨_, rfl, ?_⟩))
     go_ret
     exact ⟨by first | rfl | (simp; done) | (simp [*]; done), by repeat (first | exact Drawn0.refl _ | apply Drawn0.step)⟩
def impl_cross.f (a0_0 : Int) (a0_1 : Int) (a1_0 : Int) (a1_1 : Int) (a2_0 : Int) (a2_1 : Int) : Option (Int) := some (wrap64 ((wrap64 ((wrap64 (a1_0 - a0_0)) * (wrap64 (a2_1 - a0_1)))) - (wrap64 ((wrap64 (a1_1 - a0_1)) * (wrap64 (a2_0 - a0_0))))))
set_option maxHeartbeats 8000000 in
set_option maxRecDepth 100000 in
theorem impl_cross.calls (a0_0 : Int) (a0_1 : Int) (a1_0 : Int) (a1_1 : Int) (a2_0 : Int) (a2_1 : Int) (r : Int) (w : World) (h : impl_cross.f a0_0 a0_1 a1_0 a1_1 a2_0 a2_1 = some r) :
  Calls Try.prog 147 #[.agg #[.int .i64 a0_0, .int .i64 a0_1], .agg #[.int .i64 a1_0, .int .i64 a1_1], .agg #[.int .i64 a2_0, .int .i64 a2_1]] w fun e w' => e = .returned (.int .i64 r) ∧ Below w.heap.size w w' := by
 have hu49 := Try.underlying49
 have HB := Aside0.mk (Below.refl w.heap.size w)
 have H : (some (wrap64 ((wrap64 ((wrap64 (a1_0 - a0_0)) * (wrap64 (a2_1 - a0_1)))) - (wrap64 ((wrap64 (a1_1 - a0_1)) * (wrap64 (a2_0 - a0_0))))))) = some r := h
 clear h
 obtain rfl := Option.some.inj H
 go_enter Try.func147, Try.ntmps147
 go_wp2_with (first | ((with_reducible refine gate_dst (N := 3) rfl ?_); refine Hd.box_ 3 (#[.int .i64 a0_0, .int .i64 a0_1]) 49 ?_; intro gb154 hg w4 hbox hb; have BK154 := Aside0.mk (hbox); have GW154 := Aside0.mk ((Hd.g_ hg Hd.b_ : w.heap.size ≤ gb154)); have GE154 := Aside0.mk ((Hd.g_ hg Hd.b_ : w.heap.size ≤ gb154)); replace HB := Aside0.mk (below_step Hd.b_ hb); clear hb hbox hg) | ((with_reducible refine gate_dst (N := 4) rfl ?_); refine Hd.box_ 4 (#[.int .i64 a1_0, .int .i64 a1_1]) 49 ?_; intro gb155 hg w5 hbox hb; have BK155 := Aside0.mk (hbox); have GW155 := Aside0.mk ((Hd.g_ hg Hd.b_ : w.heap.size ≤ gb155)); have GE155 := Aside0.mk ((Hd.g_ hg Hd.b_ : w.heap.size ≤ gb155)); replace HB := Aside0.mk (below_step Hd.b_ hb); have NB154_155 := Aside0.mk ((Hd.lt_ BK154 hg)); have NB155_154 := Aside0.mk ((Hd.gt_ BK154 hg)); replace BK154 := Aside0.mk (Hd.kb_ BK154 hb); clear hb hbox hg) | ((with_reducible refine gate_dst (N := 5) rfl ?_); refine Hd.box_ 5 (#[.int .i64 a2_0, .int .i64 a2_1]) 49 ?_; intro gb156 hg w6 hbox hb; have BK156 := Aside0.mk (hbox); have GW156 := Aside0.mk ((Hd.g_ hg Hd.b_ : w.heap.size ≤ gb156)); have GE156 := Aside0.mk ((Hd.g_ hg Hd.b_ : w.heap.size ≤ gb156)); replace HB := Aside0.mk (below_step Hd.b_ hb); have NB154_156 := Aside0.mk ((Hd.lt_ BK154 hg)); have NB156_154 := Aside0.mk ((Hd.gt_ BK154 hg)); replace BK154 := Aside0.mk (Hd.kb_ BK154 hb); have NB155_156 := Aside0.mk ((Hd.lt_ BK155 hg)); have NB156_155 := Aside0.mk ((Hd.gt_ BK155 hg)); replace BK155 := Aside0.mk (Hd.kb_ BK155 hb); clear hb hbox hg; have hnb7 := NB155_154.out; have hnc7 := NB154_155.out; have hnb8 := NB155_156.out; have hnc8 := NB156_155.out; obtain ⟨hcz9_0, hcz9_1⟩ := Hd.c2_ BK155.out; obtain ⟨hfz9_0, hfz9_1⟩ := Hd.f2_ BK155.out; have hnb10 := NB154_156.out; have hnc10 := NB156_154.out; obtain ⟨hcz11_0, hcz11_1⟩ := Hd.c2_ BK154.out; obtain ⟨hfz11_0, hfz11_1⟩ := Hd.f2_ BK154.out; obtain ⟨hcz12_0, hcz12_1⟩ := Hd.c2_ BK156.out; obtain ⟨hfz12_0, hfz12_1⟩ := Hd.f2_ BK156.out))
 go_ret
 exact ⟨Hd.e_, Hd.b_⟩
def impl_SideOf.j0 : Nat → Bool → Int → Int → Int → Int → Int → Int → Option (Int)
 | 0, _, _, _, _, _, _, _ => none
 | k + 1, x19, x158000, x158001, x159000, x159001, x160000, x160001 => if x19 = true then (some 0) else ((impl_cross.f x158000 x158001 x159000 x159001 x160000 x160001).bind fun t163 => ((cmp_Compare_int.f t163 0).bind fun t164 => (some t164)))
def impl_SideOf.f (k : Nat) (a0_0 : Int) (a0_1 : Int) (a1_0 : Int) (a1_1 : Int) (a2_0 : Int) (a2_1 : Int) : Option (Int) := (impl_IsPoint.f a0_0 a0_1).bind fun t160 => (if t160 = true then ((impl_IsPoint.f a1_0 a1_1).bind fun t161 => (if t161 = true then ((impl_IsPoint.f a2_0 a2_1).bind fun t162 => (impl_SideOf.j0 k (!t162) a0_0 a0_1 a1_0 a1_1 a2_0 a2_1)) else (impl_SideOf.j0 k true a0_0 a0_1 a1_0 a1_1 a2_0 a2_1))) else (impl_SideOf.j0 k true a0_0 a0_1 a1_0 a1_1 a2_0 a2_1))
set_option maxHeartbeats 8000000 in
set_option maxRecDepth 100000 in
theorem impl_SideOf.calls (k : Nat) (a0_0 : Int) (a0_1 : Int) (a1_0 : Int) (a1_1 : Int) (a2_0 : Int) (a2_1 : Int) (r : Int) (w : World) (h : impl_SideOf.f k a0_0 a0_1 a1_0 a1_1 a2_0 a2_1 = some r) :
  Calls Try.prog 143 #[.agg #[.int .i64 a0_0, .int .i64 a0_1], .agg #[.int .i64 a1_0, .int .i64 a1_1], .agg #[.int .i64 a2_0, .int .i64 a2_1]] w fun e w' => e = .returned (.int .i64 r) ∧ Below w.heap.size w w' := by
 have hu49 := Try.underlying49
 have HB := Aside0.mk (Below.refl w.heap.size w)
 have H : ((impl_IsPoint.f a0_0 a0_1).bind fun t160 => (if t160 = true then ((impl_IsPoint.f a1_0 a1_1).bind fun t161 => (if t161 = true then ((impl_IsPoint.f a2_0 a2_1).bind fun t162 => (impl_SideOf.j0 k (!t162) a0_0 a0_1 a1_0 a1_1 a2_0 a2_1)) else (impl_SideOf.j0 k true a0_0 a0_1 a1_0 a1_1 a2_0 a2_1))) else (impl_SideOf.j0 k true a0_0 a0_1 a1_0 a1_1 a2_0 a2_1))) = some r := h
 clear h
 have HC4 := Aside0.mk H
 clear H
 go_enter Try.func143, Try.ntmps143
 go_upto_region 1 with (first | ((with_reducible refine gate_dst (N := 3) rfl ?_); refine Hd.box_ 3 (#[.int .i64 a0_0, .int .i64 a0_1]) 49 ?_; intro gb157 hg w5 hbox hb; have BK157 := Aside0.mk (hbox); have GW157 := Aside0.mk ((Hd.g_ hg Hd.b_ : w.heap.size ≤ gb157)); have GE157 := Aside0.mk ((Hd.g_ hg Hd.b_ : w.heap.size ≤ gb157)); replace HB := Aside0.mk (below_step Hd.b_ hb); clear hb hbox hg) | ((with_reducible refine gate_dst (N := 4) rfl ?_); refine Hd.box_ 4 (#[.int .i64 a1_0, .int .i64 a1_1]) 49 ?_; intro gb158 hg w6 hbox hb; have BK158 := Aside0.mk (hbox); have GW158 := Aside0.mk ((Hd.g_ hg Hd.b_ : w.heap.size ≤ gb158)); have GE158 := Aside0.mk ((Hd.g_ hg Hd.b_ : w.heap.size ≤ gb158)); replace HB := Aside0.mk (below_step Hd.b_ hb); have NB157_158 := Aside0.mk ((Hd.lt_ BK157 hg)); have NB158_157 := Aside0.mk ((Hd.gt_ BK157 hg)); replace BK157 := Aside0.mk (Hd.kb_ BK157 hb); clear hb hbox hg) | ((with_reducible refine gate_dst (N := 5) rfl ?_); refine Hd.box_ 5 (#[.int .i64 a2_0, .int .i64 a2_1]) 49 ?_; intro gb159 hg w7 hbox hb; have BK159 := Aside0.mk (hbox); have GW159 := Aside0.mk ((Hd.g_ hg Hd.b_ : w.heap.size ≤ gb159)); have GE159 := Aside0.mk ((Hd.g_ hg Hd.b_ : w.heap.size ≤ gb159)); replace HB := Aside0.mk (below_step Hd.b_ hb); have NB157_159 := Aside0.mk ((Hd.lt_ BK157 hg)); have NB159_157 := Aside0.mk ((Hd.gt_ BK157 hg)); replace BK157 := Aside0.mk (Hd.kb_ BK157 hb); have NB158_159 := Aside0.mk ((Hd.lt_ BK158 hg)); have NB159_158 := Aside0.mk ((Hd.gt_ BK158 hg)); replace BK158 := Aside0.mk (Hd.kb_ BK158 hb); clear hb hbox hg))
 (try simp only [Act.put, List.setIfInBounds_toArray, List.set_cons_zero, List.set_cons_succ])
 go_cut [19] (fun v19 wc => ∃ (kq : Nat) (x19_3 : Bool), v19 = .bool x19_3 ∧ Aside0 (impl_SideOf.j0 kq x19_3 a0_0 a0_1 a1_0 a1_1 a2_0 a2_1 = some r) ∧ Aside0 (kq ≤ k) ∧ Aside0 (wc.heap[gb157]? = some (.cells #[.int .i64 a0_0, .int .i64 a0_1] 49 (0, 0))) ∧ Aside0 (wc.heap[gb158]? = some (.cells #[.int .i64 a1_0, .int .i64 a1_1] 49 (0, 0))) ∧ Aside0 (wc.heap[gb159]? = some (.cells #[.int .i64 a2_0, .int .i64 a2_1] 49 (0, 0))) ∧ Aside0 (Below w.heap.size w wc))
 case first =>
  have H := HC4.out
  clear HC4
  replace H := Option.bind_eq_some_iff.mp H
  obtain ⟨t160, A80, H⟩ := H
  replace H : (if t160 = true then ((impl_IsPoint.f a1_0 a1_1).bind fun t161 => (if t161 = true then ((impl_IsPoint.f a2_0 a2_1).bind fun t162 => (impl_SideOf.j0 k (!t162) a0_0 a0_1 a1_0 a1_1 a2_0 a2_1)) else (impl_SideOf.j0 k true a0_0 a0_1 a1_0 a1_1 a2_0 a2_1))) else (impl_SideOf.j0 k true a0_0 a0_1 a1_0 a1_1 a2_0 a2_1)) = some r := H
  have A8 := Aside0.mk A80
  clear A80
  by_cases c9 : t160 = true
  ·
   subst c9
   have H1 : ((impl_IsPoint.f a1_0 a1_1).bind fun t161 => (if t161 = true then ((impl_IsPoint.f a2_0 a2_1).bind fun t162 => (impl_SideOf.j0 k (!t162) a0_0 a0_1 a1_0 a1_1 a2_0 a2_1)) else (impl_SideOf.j0 k true a0_0 a0_1 a1_0 a1_1 a2_0 a2_1))) = some r := by rw [if_pos rfl] at H; exact H
   clear H
   have H := H1
   clear H1
   replace H := Option.bind_eq_some_iff.mp H
   obtain ⟨t161, A100, H⟩ := H
   replace H : (if t161 = true then ((impl_IsPoint.f a2_0 a2_1).bind fun t162 => (impl_SideOf.j0 k (!t162) a0_0 a0_1 a1_0 a1_1 a2_0 a2_1)) else (impl_SideOf.j0 k true a0_0 a0_1 a1_0 a1_1 a2_0 a2_1)) = some r := H
   have A10 := Aside0.mk A100
   clear A100
   by_cases c11 : t161 = true
   ·
    subst c11
    have H1 : ((impl_IsPoint.f a2_0 a2_1).bind fun t162 => (impl_SideOf.j0 k (!t162) a0_0 a0_1 a1_0 a1_1 a2_0 a2_1)) = some r := by rw [if_pos rfl] at H; exact H
    clear H
    have H := H1
    clear H1
    replace H := Option.bind_eq_some_iff.mp H
    obtain ⟨t162, A120, H⟩ := H
    replace H : (impl_SideOf.j0 k (!t162) a0_0 a0_1 a1_0 a1_1 a2_0 a2_1) = some r := H
    have A12 := Aside0.mk A120
    clear A120
    have H' := Aside0.mk H
    clear H
    have hnb13 := NB157_158.out
    have hnc13 := NB158_157.out
    have hnb14 := NB157_159.out
    have hnc14 := NB159_157.out
    obtain ⟨hcz15_0, hcz15_1⟩ := Hd.c2_ BK157.out
    obtain ⟨hfz15_0, hfz15_1⟩ := Hd.f2_ BK157.out
    go_wp2_with (first | ((with_reducible refine gate_callee (f := 105) rfl ?_); refine goesL_ (some 8) rfl rfl Try.func105 (by kernel_rfl) rfl #[.agg #[.int .i64 a0_0, .int .i64 a0_1]] rfl Hd.m_ ?_; (with_reducible refine (impl_IsPoint.calls a0_0 a0_1 true _ A8.out).mono ?_); rintro e w16 ⟨rfl, hb⟩; refine ⟨_, rfl, ?_⟩; replace BK157 := Aside0.mk (Hd.kb_ BK157 hb); replace BK158 := Aside0.mk (Hd.kb_ BK158 hb); replace BK159 := Aside0.mk (Hd.kb_ BK159 hb); replace HB := Aside0.mk (below_step Hd.b_ hb); (try clear hb); (try clear hb2); (try clear hk); (try clear hi); have hnb17 := NB158_159.out; have hnc17 := NB159_158.out; obtain ⟨hcz18_0, hcz18_1⟩ := Hd.c2_ BK158.out; obtain ⟨hfz18_0, hfz18_1⟩ := Hd.f2_ BK158.out) | (go_at_call 105; (with_reducible refine (impl_IsPoint.calls a1_0 a1_1 true _ A10.out).mono ?_); rintro e w19 ⟨rfl, hb⟩; replace BK157 := Aside0.mk (Hd.kb_ BK157 hb); replace BK158 := Aside0.mk (Hd.kb_ BK158 hb); replace BK159 := Aside0.mk (Hd.kb_ BK159 hb); replace HB := Aside0.mk (below_step Hd.b_ hb); (try clear hb); (try clear hb2); (try clear hk); (try clear hi); obtain ⟨hcz20_0, hcz20_1⟩ := Hd.c2_ BK159.out; obtain ⟨hfz20_0, hfz20_1⟩ := Hd.f2_ BK159.out) | (go_at_call 105; (with_reducible refine (impl_IsPoint.calls a2_0 a2_1 t162 _ A12.out).mono ?_); rintro e w21 ⟨rfl, hb⟩; replace BK157 := Aside0.mk (Hd.kb_ BK157 hb); replace BK158 := Aside0.mk (Hd.kb_ BK158 hb); replace BK159 := Aside0.mk (Hd.kb_ BK159 hb); replace HB := Aside0.mk (below_step Hd.b_ hb); (try clear hb); (try clear hb2); (try clear hk); (try clear hi)))
    go_meet
    case rel => exact ⟨_, (!t162), (by first | rfl | (simp; done) | (simp [*]; done)), H', ⟨by first | omega | exact Nat.le_refl _⟩, ⟨by (with_reducible repeat (first | refine blk_drewN ?_ _ | refine blk_drew ?_ | refine blk_alloc ?_ _)); exact BK157.out⟩, ⟨by (with_reducible repeat (first | refine blk_drewN ?_ _ | refine blk_drew ?_ | refine blk_alloc ?_ _)); exact BK158.out⟩, ⟨by (with_reducible repeat (first | refine blk_drewN ?_ _ | refine blk_drew ?_ | refine blk_alloc ?_ _)); exact BK159.out⟩, ⟨Hd.b_⟩⟩
   ·
    replace c11 := Bool.eq_false_iff.mpr c11
    subst c11
    have H1 : (impl_SideOf.j0 k true a0_0 a0_1 a1_0 a1_1 a2_0 a2_1) = some r := by rw [if_neg (show ¬ (false = true) by decide)] at H; exact H
    clear H
    have H := H1
    clear H1
    have H' := Aside0.mk H
    clear H
    have hnb22 := NB157_158.out
    have hnc22 := NB158_157.out
    have hnb23 := NB157_159.out
    have hnc23 := NB159_157.out
    obtain ⟨hcz24_0, hcz24_1⟩ := Hd.c2_ BK157.out
    obtain ⟨hfz24_0, hfz24_1⟩ := Hd.f2_ BK157.out
    go_wp2_with (first | ((with_reducible refine gate_callee (f := 105) rfl ?_); refine goesL_ (some 8) rfl rfl Try.func105 (by kernel_rfl) rfl #[.agg #[.int .i64 a0_0, .int .i64 a0_1]] rfl Hd.m_ ?_; (with_reducible refine (impl_IsPoint.calls a0_0 a0_1 true _ A8.out).mono ?_); rintro e w25 ⟨rfl, hb⟩; refine ⟨_, rfl, ?_⟩; replace BK157 := Aside0.mk (Hd.kb_ BK157 hb); replace BK158 := Aside0.mk (Hd.kb_ BK158 hb); replace BK159 := Aside0.mk (Hd.kb_ BK159 hb); replace HB := Aside0.mk (below_step Hd.b_ hb); (try clear hb); (try clear hb2); (try clear hk); (try clear hi); have hnb26 := NB158_159.out; have hnc26 := NB159_158.out; obtain ⟨hcz27_0, hcz27_1⟩ := Hd.c2_ BK158.out; obtain ⟨hfz27_0, hfz27_1⟩ := Hd.f2_ BK158.out) | (go_at_call 105; (with_reducible refine (impl_IsPoint.calls a1_0 a1_1 false _ A10.out).mono ?_); rintro e w28 ⟨rfl, hb⟩; replace BK157 := Aside0.mk (Hd.kb_ BK157 hb); replace BK158 := Aside0.mk (Hd.kb_ BK158 hb); replace BK159 := Aside0.mk (Hd.kb_ BK159 hb); replace HB := Aside0.mk (below_step Hd.b_ hb); (try clear hb); (try clear hb2); (try clear hk); (try clear hi)))
    go_meet
    case rel => exact ⟨_, (true), (by first | rfl | (simp; done) | (simp [*]; done)), H', ⟨by first | omega | exact Nat.le_refl _⟩, ⟨by (with_reducible repeat (first | refine blk_drewN ?_ _ | refine blk_drew ?_ | refine blk_alloc ?_ _)); exact BK157.out⟩, ⟨by (with_reducible repeat (first | refine blk_drewN ?_ _ | refine blk_drew ?_ | refine blk_alloc ?_ _)); exact BK158.out⟩, ⟨by (with_reducible repeat (first | refine blk_drewN ?_ _ | refine blk_drew ?_ | refine blk_alloc ?_ _)); exact BK159.out⟩, ⟨Hd.b_⟩⟩
  ·
   replace c9 := Bool.eq_false_iff.mpr c9
   subst c9
   have H1 : (impl_SideOf.j0 k true a0_0 a0_1 a1_0 a1_1 a2_0 a2_1) = some r := by rw [if_neg (show ¬ (false = true) by decide)] at H; exact H
   clear H
   have H := H1
   clear H1
   have H' := Aside0.mk H
   clear H
   have hnb29 := NB157_158.out
   have hnc29 := NB158_157.out
   have hnb30 := NB157_159.out
   have hnc30 := NB159_157.out
   obtain ⟨hcz31_0, hcz31_1⟩ := Hd.c2_ BK157.out
   obtain ⟨hfz31_0, hfz31_1⟩ := Hd.f2_ BK157.out
   go_wp2_with (first | ((with_reducible refine gate_callee (f := 105) rfl ?_); refine goesL_ (some 8) rfl rfl Try.func105 (by kernel_rfl) rfl #[.agg #[.int .i64 a0_0, .int .i64 a0_1]] rfl Hd.m_ ?_; (with_reducible refine (impl_IsPoint.calls a0_0 a0_1 false _ A8.out).mono ?_); rintro e w32 ⟨rfl, hb⟩; refine ⟨_, rfl, ?_⟩; replace BK157 := Aside0.mk (Hd.kb_ BK157 hb); replace BK158 := Aside0.mk (Hd.kb_ BK158 hb); replace BK159 := Aside0.mk (Hd.kb_ BK159 hb); replace HB := Aside0.mk (below_step Hd.b_ hb); (try clear hb); (try clear hb2); (try clear hk); (try clear hi)))
   go_meet
   case rel => exact ⟨_, (true), (by first | rfl | (simp; done) | (simp [*]; done)), H', ⟨by first | omega | exact Nat.le_refl _⟩, ⟨by (with_reducible repeat (first | refine blk_drewN ?_ _ | refine blk_drew ?_ | refine blk_alloc ?_ _)); exact BK157.out⟩, ⟨by (with_reducible repeat (first | refine blk_drewN ?_ _ | refine blk_drew ?_ | refine blk_alloc ?_ _)); exact BK158.out⟩, ⟨by (with_reducible repeat (first | refine blk_drewN ?_ _ | refine blk_drew ?_ | refine blk_alloc ?_ _)); exact BK159.out⟩, ⟨Hd.b_⟩⟩
 case rest =>
  clear HC4
  try clear c1
  try clear c2
  try clear p2
  try clear c3
  try clear c9
  try clear c10
  try clear c11
  try clear c13
  try clear c14
  try clear c17
  try clear c22
  try clear c23
  try clear c26
  try clear c29
  try clear c30
  try clear hcz15_0
  try clear hcz15_1
  try clear hcz18_0
  try clear hcz18_1
  try clear hcz20_0
  try clear hcz20_1
  try clear hcz24_0
  try clear hcz24_1
  try clear hcz27_0
  try clear hcz27_1
  try clear hcz31_0
  try clear hcz31_1
  try clear hfz15_0
  try clear hfz15_1
  try clear hfz18_0
  try clear hfz18_1
  try clear hfz20_0
  try clear hfz20_1
  try clear hfz24_0
  try clear hfz24_1
  try clear hfz27_0
  try clear hfz27_1
  try clear hfz31_0
  try clear hfz31_1
  obtain ⟨kq, x19_3, rfl, HA, HJ3, BK157, BK158, BK159, HB⟩ := hcut
  cases kq with
  | zero => exact absurd HA.out (by simp [impl_SideOf.j0])
  | succ kj3 =>
   have H := HA.out
   clear HA
   simp only [impl_SideOf.j0] at H
   by_cases c33 : x19_3 = true
   ·
    subst c33
    have H1 : (some 0) = some r := by rw [if_pos rfl] at H; exact H
    clear H
    have H := H1
    clear H1
    obtain rfl := Option.some.inj H
    go_wp2
    go_ret
    exact ⟨Hd.e_, Hd.b_⟩
   ·
    replace c33 := Bool.eq_false_iff.mpr c33
    subst c33
    have H1 : ((impl_cross.f a0_0 a0_1 a1_0 a1_1 a2_0 a2_1).bind fun t163 => ((cmp_Compare_int.f t163 0).bind fun t164 => (some t164))) = some r := by rw [if_neg (show ¬ (false = true) by decide)] at H; exact H
    clear H
    have H := H1
    clear H1
    replace H := Option.bind_eq_some_iff.mp H
    obtain ⟨t163, A340, H⟩ := H
    replace H : ((cmp_Compare_int.f t163 0).bind fun t164 => (some t164)) = some r := H
    have A34 := Aside0.mk A340
    clear A340
    replace H := Option.bind_eq_some_iff.mp H
    obtain ⟨t164, A350, H⟩ := H
    replace H : (some t164) = some r := H
    have A35 := Aside0.mk A350
    clear A350
    obtain rfl := Option.some.inj H
    have hnb36 := NB157_158.out
    have hnc36 := NB158_157.out
    have hnb37 := NB157_159.out
    have hnc37 := NB159_157.out
    obtain ⟨hcz38_0, hcz38_1⟩ := Hd.c2_ BK157.out
    obtain ⟨hfz38_0, hfz38_1⟩ := Hd.f2_ BK157.out
    have hnb39 := NB158_159.out
    have hnc39 := NB159_158.out
    obtain ⟨hcz40_0, hcz40_1⟩ := Hd.c2_ BK158.out
    obtain ⟨hfz40_0, hfz40_1⟩ := Hd.f2_ BK158.out
    obtain ⟨hcz41_0, hcz41_1⟩ := Hd.c2_ BK159.out
    obtain ⟨hfz41_0, hfz41_1⟩ := Hd.f2_ BK159.out
    go_wp2_with (first | ((with_reducible refine gate_callee (f := 147) rfl ?_); refine goesL_ (some 23) rfl rfl Try.func147 (by kernel_rfl) rfl #[.agg #[.int .i64 a0_0, .int .i64 a0_1], .agg #[.int .i64 a1_0, .int .i64 a1_1], .agg #[.int .i64 a2_0, .int .i64 a2_1]] rfl Hd.m_ ?_; (with_reducible refine (impl_cross.calls a0_0 a0_1 a1_0 a1_1 a2_0 a2_1 t163 _ A34.out).mono ?_); rintro e w42 ⟨rfl, hb⟩; refine ⟨_, rfl, ?_⟩; replace BK157 := Aside0.mk (Hd.kb_ BK157 hb); replace BK158 := Aside0.mk (Hd.kb_ BK158 hb); replace BK159 := Aside0.mk (Hd.kb_ BK159 hb); replace HB := Aside0.mk (below_step Hd.b_ hb); (try clear hb); (try clear hb2); (try clear hk); (try clear hi)) | ((with_reducible refine gate_callee (f := 88) rfl ?_); refine goesL_ (some 24) rfl rfl Try.func88 (by kernel_rfl) rfl #[.int .i64 t163, .int .i64 0] rfl Hd.m_ ?_; (with_reducible refine (cmp_Compare_int.calls t163 0 t164 _ A35.out).mono ?_); rintro e w' ⟨rfl, ⟨nd, rfl⟩⟩; refine ⟨_, rfl, ?_⟩))
    go_ret
    exact ⟨Hd.e_, Hd.b_⟩
def impl_BeforePoint.f (a0_0 : Int) (a0_1 : Int) (a1_0 : Int) (a1_1 : Int) : Option (Bool) := if a0_1 < a1_1 then (some true) else (if a0_1 = a1_1 then (some (decide (a0_0 < a1_0))) else (some false))
set_option maxHeartbeats 8000000 in
set_option maxRecDepth 100000 in
theorem impl_BeforePoint.calls (a0_0 : Int) (a0_1 : Int) (a1_0 : Int) (a1_1 : Int) (r : Bool) (w : World) (h : impl_BeforePoint.f a0_0 a0_1 a1_0 a1_1 = some r) :
  Calls Try.prog 145 #[.agg #[.int .i64 a0_0, .int .i64 a0_1], .agg #[.int .i64 a1_0, .int .i64 a1_1]] w fun e w' => e = .returned (.bool r) ∧ Below w.heap.size w w' := by
 have hu49 := Try.underlying49
 have HB := Aside0.mk (Below.refl w.heap.size w)
 have H : (if a0_1 < a1_1 then (some true) else (if a0_1 = a1_1 then (some (decide (a0_0 < a1_0))) else (some false))) = some r := h
 clear h
 by_cases c3 : a0_1 < a1_1
 ·
  rw [if_pos c3] at H
  have c3b0 : decide (a0_1 < a1_1) = true := decide_eq_true c3
  clear c3
  obtain rfl := Option.some.inj H
  go_enter Try.func145, Try.ntmps145
  go_wp2_with (first | ((with_reducible refine gate_dst (N := 2) rfl ?_); refine Hd.box_ 2 (#[.int .i64 a0_0, .int .i64 a0_1]) 49 ?_; intro gb165 hg w4 hbox hb; have BK165 := Aside0.mk (hbox); have GW165 := Aside0.mk ((Hd.g_ hg Hd.b_ : w.heap.size ≤ gb165)); have GE165 := Aside0.mk ((Hd.g_ hg Hd.b_ : w.heap.size ≤ gb165)); replace HB := Aside0.mk (below_step Hd.b_ hb); clear hb hbox hg) | ((with_reducible refine gate_dst (N := 3) rfl ?_); refine Hd.box_ 3 (#[.int .i64 a1_0, .int .i64 a1_1]) 49 ?_; intro gb166 hg w5 hbox hb; have BK166 := Aside0.mk (hbox); have GW166 := Aside0.mk ((Hd.g_ hg Hd.b_ : w.heap.size ≤ gb166)); have GE166 := Aside0.mk ((Hd.g_ hg Hd.b_ : w.heap.size ≤ gb166)); replace HB := Aside0.mk (below_step Hd.b_ hb); have NB165_166 := Aside0.mk ((Hd.lt_ BK165 hg)); have NB166_165 := Aside0.mk ((Hd.gt_ BK165 hg)); replace BK165 := Aside0.mk (Hd.kb_ BK165 hb); clear hb hbox hg; have hnb6 := NB165_166.out; have hnc6 := NB166_165.out; obtain ⟨hcz7_0, hcz7_1⟩ := Hd.c2_ BK165.out; obtain ⟨hfz7_0, hfz7_1⟩ := Hd.f2_ BK165.out; obtain ⟨hcz8_0, hcz8_1⟩ := Hd.c2_ BK166.out; obtain ⟨hfz8_0, hfz8_1⟩ := Hd.f2_ BK166.out))
  go_ret
  exact ⟨Hd.e_, Hd.b_⟩
 ·
  rw [if_neg c3] at H
  have c3b0 : decide (a0_1 < a1_1) = false := decide_eq_false c3
  clear c3
  by_cases c9 : a0_1 = a1_1
  ·
   rw [if_pos c9] at H
   have c9b0 : (a0_1 == a1_1) = true := beq_iff_eq.mpr c9
   have c9b1 : (a0_1 != a1_1) = false := bne_eq_false_iff_eq.mpr c9
   clear c9
   obtain rfl := Option.some.inj H
   go_enter Try.func145, Try.ntmps145
   go_wp2_with (first | ((with_reducible refine gate_dst (N := 2) rfl ?_); refine Hd.box_ 2 (#[.int .i64 a0_0, .int .i64 a0_1]) 49 ?_; intro gb165 hg w10 hbox hb; have BK165 := Aside0.mk (hbox); have GW165 := Aside0.mk ((Hd.g_ hg Hd.b_ : w.heap.size ≤ gb165)); have GE165 := Aside0.mk ((Hd.g_ hg Hd.b_ : w.heap.size ≤ gb165)); replace HB := Aside0.mk (below_step Hd.b_ hb); clear hb hbox hg) | ((with_reducible refine gate_dst (N := 3) rfl ?_); refine Hd.box_ 3 (#[.int .i64 a1_0, .int .i64 a1_1]) 49 ?_; intro gb166 hg w11 hbox hb; have BK166 := Aside0.mk (hbox); have GW166 := Aside0.mk ((Hd.g_ hg Hd.b_ : w.heap.size ≤ gb166)); have GE166 := Aside0.mk ((Hd.g_ hg Hd.b_ : w.heap.size ≤ gb166)); replace HB := Aside0.mk (below_step Hd.b_ hb); have NB165_166 := Aside0.mk ((Hd.lt_ BK165 hg)); have NB166_165 := Aside0.mk ((Hd.gt_ BK165 hg)); replace BK165 := Aside0.mk (Hd.kb_ BK165 hb); clear hb hbox hg; have hnb12 := NB165_166.out; have hnc12 := NB166_165.out; obtain ⟨hcz13_0, hcz13_1⟩ := Hd.c2_ BK165.out; obtain ⟨hfz13_0, hfz13_1⟩ := Hd.f2_ BK165.out; obtain ⟨hcz14_0, hcz14_1⟩ := Hd.c2_ BK166.out; obtain ⟨hfz14_0, hfz14_1⟩ := Hd.f2_ BK166.out))
   go_ret
   exact ⟨Hd.e_, Hd.b_⟩
  ·
   rw [if_neg c9] at H
   have c9b0 : (a0_1 == a1_1) = false := beq_eq_false_iff_ne.mpr c9
   have c9b1 : (a0_1 != a1_1) = true := bne_iff_ne.mpr c9
   obtain rfl := Option.some.inj H
   go_enter Try.func145, Try.ntmps145
   go_wp2_with (first | ((with_reducible refine gate_dst (N := 2) rfl ?_); refine Hd.box_ 2 (#[.int .i64 a0_0, .int .i64 a0_1]) 49 ?_; intro gb165 hg w15 hbox hb; have BK165 := Aside0.mk (hbox); have GW165 := Aside0.mk ((Hd.g_ hg Hd.b_ : w.heap.size ≤ gb165)); have GE165 := Aside0.mk ((Hd.g_ hg Hd.b_ : w.heap.size ≤ gb165)); replace HB := Aside0.mk (below_step Hd.b_ hb); clear hb hbox hg) | ((with_reducible refine gate_dst (N := 3) rfl ?_); refine Hd.box_ 3 (#[.int .i64 a1_0, .int .i64 a1_1]) 49 ?_; intro gb166 hg w16 hbox hb; have BK166 := Aside0.mk (hbox); have GW166 := Aside0.mk ((Hd.g_ hg Hd.b_ : w.heap.size ≤ gb166)); have GE166 := Aside0.mk ((Hd.g_ hg Hd.b_ : w.heap.size ≤ gb166)); replace HB := Aside0.mk (below_step Hd.b_ hb); have NB165_166 := Aside0.mk ((Hd.lt_ BK165 hg)); have NB166_165 := Aside0.mk ((Hd.gt_ BK165 hg)); replace BK165 := Aside0.mk (Hd.kb_ BK165 hb); clear hb hbox hg; have hnb17 := NB165_166.out; have hnc17 := NB166_165.out; obtain ⟨hcz18_0, hcz18_1⟩ := Hd.c2_ BK165.out; obtain ⟨hfz18_0, hfz18_1⟩ := Hd.f2_ BK165.out; obtain ⟨hcz19_0, hcz19_1⟩ := Hd.c2_ BK166.out; obtain ⟨hfz19_0, hfz19_1⟩ := Hd.f2_ BK166.out))
   go_ret
   exact ⟨Hd.e_, Hd.b_⟩
def impl_TurnSegment.f (a0_0 : Int) (a0_1 : Int) (a0_2 : Int) (a0_3 : Int) : Option (Int × Int × Int × Int) := some (a0_2, a0_3, a0_0, a0_1)
set_option maxHeartbeats 8000000 in
set_option maxRecDepth 100000 in
theorem impl_TurnSegment.calls (a0_0 : Int) (a0_1 : Int) (a0_2 : Int) (a0_3 : Int) (r1 : Int) (r2 : Int) (r3 : Int) (r4 : Int) (w : World) (h : impl_TurnSegment.f a0_0 a0_1 a0_2 a0_3 = some (r1, r2, r3, r4)) :
  Calls Try.prog 162 #[.agg #[.int .i64 a0_0, .int .i64 a0_1, .int .i64 a0_2, .int .i64 a0_3]] w fun e w' => e = .returned (.agg #[.int .i64 r1, .int .i64 r2, .int .i64 r3, .int .i64 r4]) ∧ Below w.heap.size w w' := by
 have hu111 := Try.underlying111
 have hu49 := Try.underlying49
 have HB := Aside0.mk (Below.refl w.heap.size w)
 have H : (some (a0_2, a0_3, a0_0, a0_1)) = some (r1, r2, r3, r4) := h
 clear h
 simp only [Option.some.injEq, Prod.mk.injEq] at H
 obtain ⟨rfl, rfl, rfl, rfl⟩ := H
 go_enter Try.func162, Try.ntmps162
 go_wp2_with (first | ((with_reducible refine gate_dst (N := 1) rfl ?_); refine Hd.box_ 1 (#[.int .i64 a0_0, .int .i64 a0_1, .int .i64 a0_2, .int .i64 a0_3]) 111 ?_; intro gb167 hg w2 hbox hb; have BK167 := Aside0.mk (hbox); have GW167 := Aside0.mk ((Hd.g_ hg Hd.b_ : w.heap.size ≤ gb167)); have GE167 := Aside0.mk ((Hd.g_ hg Hd.b_ : w.heap.size ≤ gb167)); replace HB := Aside0.mk (below_step Hd.b_ hb); clear hb hbox hg) | ((with_reducible refine gate_dst (N := 2) rfl ?_); refine Hd.box_ 2 (#[.int .i64 0, .int .i64 0, .int .i64 0, .int .i64 0]) 111 ?_; intro gb168 hg w3 hbox hb; have BK168 := Aside0.mk (hbox); have GW168 := Aside0.mk ((Hd.g_ hg Hd.b_ : w.heap.size ≤ gb168)); have GE168 := Aside0.mk ((Hd.g_ hg Hd.b_ : w.heap.size ≤ gb168)); replace HB := Aside0.mk (below_step Hd.b_ hb); have NB167_168 := Aside0.mk ((Hd.lt_ BK167 hg)); have NB168_167 := Aside0.mk ((Hd.gt_ BK167 hg)); replace BK167 := Aside0.mk (Hd.kb_ BK167 hb); clear hb hbox hg; have hnb4 := NB167_168.out; have hnc4 := NB168_167.out; obtain ⟨hcz5_0, hcz5_1, hcz5_2, hcz5_3⟩ := Hd.c4_ BK167.out; obtain ⟨hfz5_0, hfz5_1, hfz5_2, hfz5_3⟩ := Hd.f4_ BK167.out; obtain ⟨hcz6_0, hcz6_1, hcz6_2, hcz6_3⟩ := Hd.c4_ BK168.out; obtain ⟨hfz6_0, hfz6_1, hfz6_2, hfz6_3⟩ := Hd.f4_ BK168.out))
 refine bodyPost_ret (results_cell_row rfl _ _ gb168 111 #[.int .i64 a0_2, .int .i64 a0_3, .int .i64 a0_0, .int .i64 a0_1] (0, 0) _ rfl (by (with_reducible repeat (first | refine blk_drewN ?_ _ | refine blk_drew ?_ | refine blk_alloc ?_ _)); refine blk_put (cs := #[.int .i64 a0_2, .int .i64 a0_3, .int .i64 a0_0, .int .i64 0]) ?_ 3 _ rfl; (with_reducible repeat (first | refine blk_drewN ?_ _ | refine blk_drew ?_ | refine blk_alloc ?_ _)); refine blk_put (cs := #[.int .i64 a0_2, .int .i64 a0_3, .int .i64 0, .int .i64 0]) ?_ 2 _ rfl; (with_reducible repeat (first | refine blk_drewN ?_ _ | refine blk_drew ?_ | refine blk_alloc ?_ _)); refine blk_put (cs := #[.int .i64 a0_2, .int .i64 0, .int .i64 0, .int .i64 0]) ?_ 1 _ rfl; (with_reducible repeat (first | refine blk_drewN ?_ _ | refine blk_drew ?_ | refine blk_alloc ?_ _)); refine blk_put (cs := #[.int .i64 0, .int .i64 0, .int .i64 0, .int .i64 0]) ?_ 0 _ rfl; (with_reducible repeat (first | refine blk_drewN ?_ _ | refine blk_drew ?_ | refine blk_alloc ?_ _)); exact BK168.out) Try.underlying111 rfl (by kernel_rfl)) rfl ?_
 exact ⟨Hd.e_, Hd.b_⟩
def impl_forward.f (a0_0 : Int) (a0_1 : Int) (a0_2 : Int) (a0_3 : Int) : Option (Int × Int × Int × Int) := (impl_BeforePoint.f a0_2 a0_3 a0_0 a0_1).bind fun t171 => (if t171 = true then ((impl_TurnSegment.f a0_0 a0_1 a0_2 a0_3).bind fun bt172 => (some (bt172.1, bt172.2.1, bt172.2.2.1, bt172.2.2.2))) else (some (a0_0, a0_1, a0_2, a0_3)))
set_option maxHeartbeats 8000000 in
set_option maxRecDepth 100000 in
theorem impl_forward.calls (a0_0 : Int) (a0_1 : Int) (a0_2 : Int) (a0_3 : Int) (r1 : Int) (r2 : Int) (r3 : Int) (r4 : Int) (w : World) (h : impl_forward.f a0_0 a0_1 a0_2 a0_3 = some (r1, r2, r3, r4)) :
  Calls Try.prog 144 #[.agg #[.int .i64 a0_0, .int .i64 a0_1, .int .i64 a0_2, .int .i64 a0_3]] w fun e w' => e = .returned (.agg #[.int .i64 r1, .int .i64 r2, .int .i64 r3, .int .i64 r4]) ∧ Below w.heap.size w w' := by
 have hu111 := Try.underlying111
 have hu49 := Try.underlying49
 have HB := Aside0.mk (Below.refl w.heap.size w)
 have H : ((impl_BeforePoint.f a0_2 a0_3 a0_0 a0_1).bind fun t171 => (if t171 = true then ((impl_TurnSegment.f a0_0 a0_1 a0_2 a0_3).bind fun bt172 => (some (bt172.1, bt172.2.1, bt172.2.2.1, bt172.2.2.2))) else (some (a0_0, a0_1, a0_2, a0_3)))) = some (r1, r2, r3, r4) := h
 clear h
 replace H := Option.bind_eq_some_iff.mp H
 obtain ⟨t171, A20, H⟩ := H
 replace H : (if t171 = true then ((impl_TurnSegment.f a0_0 a0_1 a0_2 a0_3).bind fun bt172 => (some (bt172.1, bt172.2.1, bt172.2.2.1, bt172.2.2.2))) else (some (a0_0, a0_1, a0_2, a0_3))) = some (r1, r2, r3, r4) := H
 have A2 := Aside0.mk A20
 clear A20
 by_cases c3 : t171 = true
 ·
  subst c3
  have H1 : ((impl_TurnSegment.f a0_0 a0_1 a0_2 a0_3).bind fun bt172 => (some (bt172.1, bt172.2.1, bt172.2.2.1, bt172.2.2.2))) = some (r1, r2, r3, r4) := by rw [if_pos rfl] at H; exact H
  clear H
  have H := H1
  clear H1
  replace H := Option.bind_eq_some_iff.mp H
  obtain ⟨⟨t172, t173, t174, t175⟩, A40, H⟩ := H
  replace H : (some (t172, t173, t174, t175)) = some (r1, r2, r3, r4) := H
  have A4 := Aside0.mk A40
  clear A40
  simp only [Option.some.injEq, Prod.mk.injEq] at H
  obtain ⟨rfl, rfl, rfl, rfl⟩ := H
  go_enter Try.func144, Try.ntmps144
  go_wp2_with (first | ((with_reducible refine gate_dst (N := 1) rfl ?_); refine Hd.box_ 1 (#[.int .i64 a0_0, .int .i64 a0_1, .int .i64 a0_2, .int .i64 a0_3]) 111 ?_; intro gb169 hg w5 hbox hb; have BK169 := Aside0.mk (hbox); have GW169 := Aside0.mk ((Hd.g_ hg Hd.b_ : w.heap.size ≤ gb169)); have GE169 := Aside0.mk ((Hd.g_ hg Hd.b_ : w.heap.size ≤ gb169)); replace HB := Aside0.mk (below_step Hd.b_ hb); clear hb hbox hg) | ((with_reducible refine gate_dst (N := 2) rfl ?_); refine Hd.box_ 2 (#[.int .i64 0, .int .i64 0, .int .i64 0, .int .i64 0]) 111 ?_; intro gb170 hg w6 hbox hb; have BK170 := Aside0.mk (hbox); have GW170 := Aside0.mk ((Hd.g_ hg Hd.b_ : w.heap.size ≤ gb170)); have GE170 := Aside0.mk ((Hd.g_ hg Hd.b_ : w.heap.size ≤ gb170)); replace HB := Aside0.mk (below_step Hd.b_ hb); have NB169_170 := Aside0.mk ((Hd.lt_ BK169 hg)); have NB170_169 := Aside0.mk ((Hd.gt_ BK169 hg)); replace BK169 := Aside0.mk (Hd.kb_ BK169 hb); clear hb hbox hg; have hnb7 := NB169_170.out; have hnc7 := NB170_169.out; obtain ⟨hcz8_0, hcz8_1, hcz8_2, hcz8_3⟩ := Hd.c4_ BK169.out; obtain ⟨hfz8_0, hfz8_1, hfz8_2, hfz8_3⟩ := Hd.f4_ BK169.out) | ((with_reducible refine gate_callee (f := 145) rfl ?_); refine goesL_ (some 7) rfl rfl Try.func145 (by kernel_rfl) rfl #[.agg #[.int .i64 a0_2, .int .i64 a0_3], .agg #[.int .i64 a0_0, .int .i64 a0_1]] rfl Hd.m_ ?_; (with_reducible refine (impl_BeforePoint.calls a0_2 a0_3 a0_0 a0_1 true _ A2.out).mono ?_); rintro e w9 ⟨rfl, hb⟩; refine ⟨_, rfl, ?_⟩; replace BK169 := Aside0.mk (Hd.kb_ BK169 hb); replace BK170 := Aside0.mk (Hd.kb_ BK170 hb); replace HB := Aside0.mk (below_step Hd.b_ hb); (try clear hb); (try clear hb2); (try clear hk); (try clear hi); obtain ⟨hcz10_0, hcz10_1, hcz10_2, hcz10_3⟩ := Hd.c4_ BK169.out; obtain ⟨hfz10_0, hfz10_1, hfz10_2, hfz10_3⟩ := Hd.f4_ BK169.out) | ((with_reducible refine gate_callee (f := 162) rfl ?_); refine goesL_ (some 9) rfl rfl Try.func162 (by kernel_rfl) rfl #[.agg #[.int .i64 a0_0, .int .i64 a0_1, .int .i64 a0_2, .int .i64 a0_3]] rfl Hd.m_ ?_; (with_reducible refine (impl_TurnSegment.calls a0_0 a0_1 a0_2 a0_3 t172 t173 t174 t175 _ A4.out).mono ?_); rintro e w11 ⟨rfl, hb⟩; refine ⟨_, rfl, ?_⟩; replace BK169 := Aside0.mk (Hd.kb_ BK169 hb); replace BK170 := Aside0.mk (Hd.kb_ BK170 hb); replace HB := Aside0.mk (below_step Hd.b_ hb); (try clear hb); (try clear hb2); (try clear hk); (try clear hi); obtain ⟨hcz12_0, hcz12_1, hcz12_2, hcz12_3⟩ := Hd.c4_ BK170.out; obtain ⟨hfz12_0, hfz12_1, hfz12_2, hfz12_3⟩ := Hd.f4_ BK170.out))
  refine bodyPost_ret (results_cell_row rfl _ _ gb170 111 #[.int .i64 t172, .int .i64 t173, .int .i64 t174, .int .i64 t175] (0, 0) _ rfl (by (with_reducible repeat (first | refine blk_drewN ?_ _ | refine blk_drew ?_ | refine blk_alloc ?_ _)); refine blk_put (cs := #[.int .i64 t172, .int .i64 t173, .int .i64 t174, .int .i64 0]) ?_ 3 _ rfl; (with_reducible repeat (first | refine blk_drewN ?_ _ | refine blk_drew ?_ | refine blk_alloc ?_ _)); refine blk_put (cs := #[.int .i64 t172, .int .i64 t173, .int .i64 0, .int .i64 0]) ?_ 2 _ rfl; (with_reducible repeat (first | refine blk_drewN ?_ _ | refine blk_drew ?_ | refine blk_alloc ?_ _)); refine blk_put (cs := #[.int .i64 t172, .int .i64 0, .int .i64 0, .int .i64 0]) ?_ 1 _ rfl; (with_reducible repeat (first | refine blk_drewN ?_ _ | refine blk_drew ?_ | refine blk_alloc ?_ _)); refine blk_put (cs := #[.int .i64 0, .int .i64 0, .int .i64 0, .int .i64 0]) ?_ 0 _ rfl; (with_reducible repeat (first | refine blk_drewN ?_ _ | refine blk_drew ?_ | refine blk_alloc ?_ _)); exact BK170.out) Try.underlying111 rfl (by kernel_rfl)) rfl ?_
  exact ⟨Hd.e_, Hd.b_⟩
 ·
  replace c3 := Bool.eq_false_iff.mpr c3
  subst c3
  have H1 : (some (a0_0, a0_1, a0_2, a0_3)) = some (r1, r2, r3, r4) := by rw [if_neg (show ¬ (false = true) by decide)] at H; exact H
  clear H
  have H := H1
  clear H1
  simp only [Option.some.injEq, Prod.mk.injEq] at H
  obtain ⟨rfl, rfl, rfl, rfl⟩ := H
  go_enter Try.func144, Try.ntmps144
  go_wp2_with (first | ((with_reducible refine gate_dst (N := 1) rfl ?_); refine Hd.box_ 1 (#[.int .i64 a0_0, .int .i64 a0_1, .int .i64 a0_2, .int .i64 a0_3]) 111 ?_; intro gb169 hg w13 hbox hb; have BK169 := Aside0.mk (hbox); have GW169 := Aside0.mk ((Hd.g_ hg Hd.b_ : w.heap.size ≤ gb169)); have GE169 := Aside0.mk ((Hd.g_ hg Hd.b_ : w.heap.size ≤ gb169)); replace HB := Aside0.mk (below_step Hd.b_ hb); clear hb hbox hg) | ((with_reducible refine gate_dst (N := 2) rfl ?_); refine Hd.box_ 2 (#[.int .i64 0, .int .i64 0, .int .i64 0, .int .i64 0]) 111 ?_; intro gb170 hg w14 hbox hb; have BK170 := Aside0.mk (hbox); have GW170 := Aside0.mk ((Hd.g_ hg Hd.b_ : w.heap.size ≤ gb170)); have GE170 := Aside0.mk ((Hd.g_ hg Hd.b_ : w.heap.size ≤ gb170)); replace HB := Aside0.mk (below_step Hd.b_ hb); have NB169_170 := Aside0.mk ((Hd.lt_ BK169 hg)); have NB170_169 := Aside0.mk ((Hd.gt_ BK169 hg)); replace BK169 := Aside0.mk (Hd.kb_ BK169 hb); clear hb hbox hg; have hnb15 := NB169_170.out; have hnc15 := NB170_169.out; obtain ⟨hcz16_0, hcz16_1, hcz16_2, hcz16_3⟩ := Hd.c4_ BK169.out; obtain ⟨hfz16_0, hfz16_1, hfz16_2, hfz16_3⟩ := Hd.f4_ BK169.out) | ((with_reducible refine gate_callee (f := 145) rfl ?_); refine goesL_ (some 7) rfl rfl Try.func145 (by kernel_rfl) rfl #[.agg #[.int .i64 a0_2, .int .i64 a0_3], .agg #[.int .i64 a0_0, .int .i64 a0_1]] rfl Hd.m_ ?_; (with_reducible refine (impl_BeforePoint.calls a0_2 a0_3 a0_0 a0_1 false _ A2.out).mono ?_); rintro e w17 ⟨rfl, hb⟩; refine ⟨_, rfl, ?_⟩; replace BK169 := Aside0.mk (Hd.kb_ BK169 hb); replace BK170 := Aside0.mk (Hd.kb_ BK170 hb); replace HB := Aside0.mk (below_step Hd.b_ hb); (try clear hb); (try clear hb2); (try clear hk); (try clear hi); obtain ⟨hcz18_0, hcz18_1, hcz18_2, hcz18_3⟩ := Hd.c4_ BK169.out; obtain ⟨hfz18_0, hfz18_1, hfz18_2, hfz18_3⟩ := Hd.f4_ BK169.out; obtain ⟨hcz19_0, hcz19_1, hcz19_2, hcz19_3⟩ := Hd.c4_ BK170.out; obtain ⟨hfz19_0, hfz19_1, hfz19_2, hfz19_3⟩ := Hd.f4_ BK170.out))
  refine bodyPost_ret (results_cell_row rfl _ _ gb170 111 #[.int .i64 a0_0, .int .i64 a0_1, .int .i64 a0_2, .int .i64 a0_3] (0, 0) _ rfl (by (with_reducible repeat (first | refine blk_drewN ?_ _ | refine blk_drew ?_ | refine blk_alloc ?_ _)); refine blk_put (cs := #[.int .i64 a0_0, .int .i64 a0_1, .int .i64 a0_2, .int .i64 0]) ?_ 3 _ rfl; (with_reducible repeat (first | refine blk_drewN ?_ _ | refine blk_drew ?_ | refine blk_alloc ?_ _)); refine blk_put (cs := #[.int .i64 a0_0, .int .i64 a0_1, .int .i64 0, .int .i64 0]) ?_ 2 _ rfl; (with_reducible repeat (first | refine blk_drewN ?_ _ | refine blk_drew ?_ | refine blk_alloc ?_ _)); refine blk_put (cs := #[.int .i64 a0_0, .int .i64 0, .int .i64 0, .int .i64 0]) ?_ 1 _ rfl; (with_reducible repeat (first | refine blk_drewN ?_ _ | refine blk_drew ?_ | refine blk_alloc ?_ _)); refine blk_put (cs := #[.int .i64 0, .int .i64 0, .int .i64 0, .int .i64 0]) ?_ 0 _ rfl; (with_reducible repeat (first | refine blk_drewN ?_ _ | refine blk_drew ?_ | refine blk_alloc ?_ _)); exact BK170.out) Try.underlying111 rfl (by kernel_rfl)) rfl ?_
  exact ⟨Hd.e_, Hd.b_⟩
def impl_IsOn.f (k : Nat) (a0_0 : Int) (a0_1 : Int) (a0_2 : Int) (a0_3 : Int) (a1_0 : Int) (a1_1 : Int) : Option (Bool) := (impl_IsSegment.f a0_0 a0_1 a0_2 a0_3).bind fun t178 => (if t178 = true then ((impl_IsPoint.f a1_0 a1_1).bind fun t179 => (if t179 = true then ((impl_SideOf.f k a0_0 a0_1 a0_2 a0_3 a1_0 a1_1).bind fun t180 => (if t180 = 0 then ((impl_InRange.f a1_0 (mn a0_0 a0_2) (mx a0_0 a0_2)).bind fun t181 => (if t181 = true then ((impl_InRange.f a1_1 (mn a0_1 a0_3) (mx a0_1 a0_3)).bind fun t182 => (some t182)) else (some false))) else (some false))) else (some false))) else (some false))
set_option maxHeartbeats 8000000 in
set_option maxRecDepth 100000 in
theorem impl_IsOn.calls (k : Nat) (a0_0 : Int) (a0_1 : Int) (a0_2 : Int) (a0_3 : Int) (a1_0 : Int) (a1_1 : Int) (r : Bool) (w : World) (h : impl_IsOn.f k a0_0 a0_1 a0_2 a0_3 a1_0 a1_1 = some r) :
  Calls Try.prog 146 #[.agg #[.int .i64 a0_0, .int .i64 a0_1, .int .i64 a0_2, .int .i64 a0_3], .agg #[.int .i64 a1_0, .int .i64 a1_1]] w fun e w' => e = .returned (.bool r) ∧ Below w.heap.size w w' := by
 have hu111 := Try.underlying111
 have hu49 := Try.underlying49
 have HB := Aside0.mk (Below.refl w.heap.size w)
 have H : ((impl_IsSegment.f a0_0 a0_1 a0_2 a0_3).bind fun t178 => (if t178 = true then ((impl_IsPoint.f a1_0 a1_1).bind fun t179 => (if t179 = true then ((impl_SideOf.f k a0_0 a0_1 a0_2 a0_3 a1_0 a1_1).bind fun t180 => (if t180 = 0 then ((impl_InRange.f a1_0 (mn a0_0 a0_2) (mx a0_0 a0_2)).bind fun t181 => (if t181 = true then ((impl_InRange.f a1_1 (mn a0_1 a0_3) (mx a0_1 a0_3)).bind fun t182 => (some t182)) else (some false))) else (some false))) else (some false))) else (some false))) = some r := h
 clear h
 replace H := Option.bind_eq_some_iff.mp H
 obtain ⟨t178, A30, H⟩ := H
 replace H : (if t178 = true then ((impl_IsPoint.f a1_0 a1_1).bind fun t179 => (if t179 = true then ((impl_SideOf.f k a0_0 a0_1 a0_2 a0_3 a1_0 a1_1).bind fun t180 => (if t180 = 0 then ((impl_InRange.f a1_0 (mn a0_0 a0_2) (mx a0_0 a0_2)).bind fun t181 => (if t181 = true then ((impl_InRange.f a1_1 (mn a0_1 a0_3) (mx a0_1 a0_3)).bind fun t182 => (some t182)) else (some false))) else (some false))) else (some false))) else (some false)) = some r := H
 have A3 := Aside0.mk A30
 clear A30
 by_cases c4 : t178 = true
 ·
  subst c4
  have H1 : ((impl_IsPoint.f a1_0 a1_1).bind fun t179 => (if t179 = true then ((impl_SideOf.f k a0_0 a0_1 a0_2 a0_3 a1_0 a1_1).bind fun t180 => (if t180 = 0 then ((impl_InRange.f a1_0 (mn a0_0 a0_2) (mx a0_0 a0_2)).bind fun t181 => (if t181 = true then ((impl_InRange.f a1_1 (mn a0_1 a0_3) (mx a0_1 a0_3)).bind fun t182 => (some t182)) else (some false))) else (some false))) else (some false))) = some r := by rw [if_pos rfl] at H; exact H
  clear H
  have H := H1
  clear H1
  replace H := Option.bind_eq_some_iff.mp H
  obtain ⟨t179, A50, H⟩ := H
  replace H : (if t179 = true then ((impl_SideOf.f k a0_0 a0_1 a0_2 a0_3 a1_0 a1_1).bind fun t180 => (if t180 = 0 then ((impl_InRange.f a1_0 (mn a0_0 a0_2) (mx a0_0 a0_2)).bind fun t181 => (if t181 = true then ((impl_InRange.f a1_1 (mn a0_1 a0_3) (mx a0_1 a0_3)).bind fun t182 => (some t182)) else (some false))) else (some false))) else (some false)) = some r := H
  have A5 := Aside0.mk A50
  clear A50
  by_cases c6 : t179 = true
  ·
   subst c6
   have H1 : ((impl_SideOf.f k a0_0 a0_1 a0_2 a0_3 a1_0 a1_1).bind fun t180 => (if t180 = 0 then ((impl_InRange.f a1_0 (mn a0_0 a0_2) (mx a0_0 a0_2)).bind fun t181 => (if t181 = true then ((impl_InRange.f a1_1 (mn a0_1 a0_3) (mx a0_1 a0_3)).bind fun t182 => (some t182)) else (some false))) else (some false))) = some r := by rw [if_pos rfl] at H; exact H
   clear H
   have H := H1
   clear H1
   replace H := Option.bind_eq_some_iff.mp H
   obtain ⟨t180, A70, H⟩ := H
   replace H : (if t180 = 0 then ((impl_InRange.f a1_0 (mn a0_0 a0_2) (mx a0_0 a0_2)).bind fun t181 => (if t181 = true then ((impl_InRange.f a1_1 (mn a0_1 a0_3) (mx a0_1 a0_3)).bind fun t182 => (some t182)) else (some false))) else (some false)) = some r := H
   have A7 := Aside0.mk A70
   clear A70
   by_cases c8 : t180 = 0
   ·
    rw [if_pos c8] at H
    have c8b0 : (t180 == 0) = true := beq_iff_eq.mpr c8
    have c8b1 : (t180 != 0) = false := bne_eq_false_iff_eq.mpr c8
    clear c8
    obtain ⟨ji9, hji9⟩ : ∃ j_ : Int, (mn a0_0 a0_2) = j_ := ⟨_, rfl⟩
    replace H : ((impl_InRange.f a1_0 (ji9) (mx a0_0 a0_2)).bind fun t181 => (if t181 = true then ((impl_InRange.f a1_1 (mn a0_1 a0_3) (mx a0_1 a0_3)).bind fun t182 => (some t182)) else (some false))) = some r := by first | (rw [hji9] at H; exact H) | (simp only [hji9] at H ⊢; exact H)
    (try rw [hji9] at A3)
    (try rw [hji9] at A5)
    (try rw [hji9] at A7)
    have hji9_ : (if a0_2 < a0_0 then a0_2 else a0_0) = ji9 := hji9
    obtain ⟨ji10, hji10⟩ : ∃ j_ : Int, (mx a0_0 a0_2) = j_ := ⟨_, rfl⟩
    replace H : ((impl_InRange.f a1_0 (ji9) (ji10)).bind fun t181 => (if t181 = true then ((impl_InRange.f a1_1 (mn a0_1 a0_3) (mx a0_1 a0_3)).bind fun t182 => (some t182)) else (some false))) = some r := by first | (rw [hji10] at H; exact H) | (simp only [hji10] at H ⊢; exact H)
    (try rw [hji10] at A3)
    (try rw [hji10] at A5)
    (try rw [hji10] at A7)
    have hji10_ : (if a0_0 < a0_2 then a0_2 else a0_0) = ji10 := hji10
    replace H := Option.bind_eq_some_iff.mp H
    obtain ⟨t181, A110, H⟩ := H
    replace H : (if t181 = true then ((impl_InRange.f a1_1 (mn a0_1 a0_3) (mx a0_1 a0_3)).bind fun t182 => (some t182)) else (some false)) = some r := H
    have A11 := Aside0.mk A110
    clear A110
    by_cases c12 : t181 = true
    ·
     subst c12
     have H1 : ((impl_InRange.f a1_1 (mn a0_1 a0_3) (mx a0_1 a0_3)).bind fun t182 => (some t182)) = some r := by rw [if_pos rfl] at H; exact H
     clear H
     have H := H1
     clear H1
     obtain ⟨ji13, hji13⟩ : ∃ j_ : Int, (mn a0_1 a0_3) = j_ := ⟨_, rfl⟩
     replace H : ((impl_InRange.f a1_1 (ji13) (mx a0_1 a0_3)).bind fun t182 => (some t182)) = some r := by first | (rw [hji13] at H; exact H) | (simp only [hji13] at H ⊢; exact H)
     (try rw [hji13] at A3)
     (try rw [hji13] at A5)
     (try rw [hji13] at A7)
     (try rw [hji13] at A11)
     have hji13_ : (if a0_3 < a0_1 then a0_3 else a0_1) = ji13 := hji13
     obtain ⟨ji14, hji14⟩ : ∃ j_ : Int, (mx a0_1 a0_3) = j_ := ⟨_, rfl⟩
     replace H : ((impl_InRange.f a1_1 (ji13) (ji14)).bind fun t182 => (some t182)) = some r := by first | (rw [hji14] at H; exact H) | (simp only [hji14] at H ⊢; exact H)
     (try rw [hji14] at A3)
     (try rw [hji14] at A5)
     (try rw [hji14] at A7)
     (try rw [hji14] at A11)
     have hji14_ : (if a0_1 < a0_3 then a0_3 else a0_1) = ji14 := hji14
     replace H := Option.bind_eq_some_iff.mp H
     obtain ⟨t182, A150, H⟩ := H
     replace H : (some t182) = some r := H
     have A15 := Aside0.mk A150
     clear A150
     obtain rfl := Option.some.inj H
     go_enter Try.func146, Try.ntmps146
     go_wp2_with (first | ((with_reducible refine gate_dst (N := 2) rfl ?_); (try (refine gate_guard (by rfl) ?_; dsimp only)); refine Hd.box_ 2 (#[.int .i64 a0_0, .int .i64 a0_1, .int .i64 a0_2, .int .i64 a0_3]) 111 ?_; intro gb176 hg w16 hbox hb; have BK176 := Aside0.mk (hbox); have GW176 := Aside0.mk ((Hd.g_ hg Hd.b_ : w.heap.size ≤ gb176)); have GE176 := Aside0.mk ((Hd.g_ hg Hd.b_ : w.heap.size ≤ gb176)); replace HB := Aside0.mk (below_step Hd.b_ hb); clear hb hbox hg) | ((with_reducible refine gate_dst (N := 3) rfl ?_); (try (refine gate_guard (by rfl) ?_; dsimp only)); refine Hd.box_ 3 (#[.int .i64 a1_0, .int .i64 a1_1]) 49 ?_; intro gb177 hg w17 hbox hb; have BK177 := Aside0.mk (hbox); have GW177 := Aside0.mk ((Hd.g_ hg Hd.b_ : w.heap.size ≤ gb177)); have GE177 := Aside0.mk ((Hd.g_ hg Hd.b_ : w.heap.size ≤ gb177)); replace HB := Aside0.mk (below_step Hd.b_ hb); have NB176_177 := Aside0.mk ((Hd.lt_ BK176 hg)); have NB177_176 := Aside0.mk ((Hd.gt_ BK176 hg)); replace BK176 := Aside0.mk (Hd.kb_ BK176 hb); clear hb hbox hg; have hnb18 := NB176_177.out; have hnc18 := NB177_176.out; obtain ⟨hcz19_0, hcz19_1, hcz19_2, hcz19_3⟩ := Hd.c4_ BK176.out; obtain ⟨hfz19_0, hfz19_1, hfz19_2, hfz19_3⟩ := Hd.f4_ BK176.out) | ((with_reducible refine gate_callee (f := 102) rfl ?_); refine goesL_ (some 6) rfl rfl Try.func102 (by kernel_rfl) rfl #[.agg #[.int .i64 a0_0, .int .i64 a0_1, .int .i64 a0_2, .int .i64 a0_3]] rfl Hd.m_ ?_; (with_reducible refine (impl_IsSegment.calls a0_0 a0_1 a0_2 a0_3 true _ A3.out).mono ?_); rintro e w20 ⟨rfl, hb⟩; refine ⟨_, rfl, ?_⟩; replace BK176 := Aside0.mk (Hd.kb_ BK176 hb); replace BK177 := Aside0.mk (Hd.kb_ BK177 hb); replace HB := Aside0.mk (below_step Hd.b_ hb); (try clear hb); (try clear hb2); (try clear hk); (try clear hi); obtain ⟨hcz21_0, hcz21_1⟩ := Hd.c2_ BK177.out; obtain ⟨hfz21_0, hfz21_1⟩ := Hd.f2_ BK177.out) | (go_at_call 105; (with_reducible refine (impl_IsPoint.calls a1_0 a1_1 true _ A5.out).mono ?_); rintro e w22 ⟨rfl, hb⟩; replace BK176 := Aside0.mk (Hd.kb_ BK176 hb); replace BK177 := Aside0.mk (Hd.kb_ BK177 hb); replace HB := Aside0.mk (below_step Hd.b_ hb); (try clear hb); (try clear hb2); (try clear hk); (try clear hi); obtain ⟨hcz23_0, hcz23_1, hcz23_2, hcz23_3⟩ := Hd.c4_ BK176.out; obtain ⟨hfz23_0, hfz23_1, hfz23_2, hfz23_3⟩ := Hd.f4_ BK176.out; obtain ⟨hcz24_0, hcz24_1⟩ := Hd.c2_ BK177.out; obtain ⟨hfz24_0, hfz24_1⟩ := Hd.f2_ BK177.out) | (go_at_call 143; (with_reducible refine (impl_SideOf.calls k a0_0 a0_1 a0_2 a0_3 a1_0 a1_1 t180 _ A7.out).mono ?_); rintro e w25 ⟨rfl, hb⟩; replace BK176 := Aside0.mk (Hd.kb_ BK176 hb); replace BK177 := Aside0.mk (Hd.kb_ BK177 hb); replace HB := Aside0.mk (below_step Hd.b_ hb); (try clear hb); (try clear hb2); (try clear hk); (try clear hi); obtain ⟨hcz26_0, hcz26_1⟩ := Hd.c2_ BK177.out; obtain ⟨hfz26_0, hfz26_1⟩ := Hd.f2_ BK177.out; obtain ⟨hcz27_0, hcz27_1, hcz27_2, hcz27_3⟩ := Hd.c4_ BK176.out; obtain ⟨hfz27_0, hfz27_1, hfz27_2, hfz27_3⟩ := Hd.f4_ BK176.out) | (go_at_call 85; (with_reducible refine (impl_InRange.calls a1_0 ji9 ji10 true _ A11.out).mono ?_); rintro e w' ⟨rfl, ⟨nd, rfl⟩⟩) | (go_at_call 85; (with_reducible refine (impl_InRange.calls a1_1 ji13 ji14 t182 _ A15.out).mono ?_); rintro e w' ⟨rfl, ⟨nd, rfl⟩⟩))
     go_ret
     exact ⟨by first | rfl | (simp [errW_none, errW_some] <;> rfl) | (simp only [← hji9, ← hji10, ← hji13, ← hji14]; first | rfl | (simp [errW_none, errW_some] <;> rfl)) | (simp [*, errW_none, errW_some] <;> rfl), Hd.b_⟩
    ·
     replace c12 := Bool.eq_false_iff.mpr c12
     subst c12
     have H1 : (some false) = some r := by rw [if_neg (show ¬ (false = true) by decide)] at H; exact H
     clear H
     have H := H1
     clear H1
     obtain rfl := Option.some.inj H
     go_enter Try.func146, Try.ntmps146
     go_wp2_with (first | ((with_reducible refine gate_dst (N := 2) rfl ?_); (try (refine gate_guard (by rfl) ?_; dsimp only)); refine Hd.box_ 2 (#[.int .i64 a0_0, .int .i64 a0_1, .int .i64 a0_2, .int .i64 a0_3]) 111 ?_; intro gb176 hg w28 hbox hb; have BK176 := Aside0.mk (hbox); have GW176 := Aside0.mk ((Hd.g_ hg Hd.b_ : w.heap.size ≤ gb176)); have GE176 := Aside0.mk ((Hd.g_ hg Hd.b_ : w.heap.size ≤ gb176)); replace HB := Aside0.mk (below_step Hd.b_ hb); clear hb hbox hg) | ((with_reducible refine gate_dst (N := 3) rfl ?_); (try (refine gate_guard (by rfl) ?_; dsimp only)); refine Hd.box_ 3 (#[.int .i64 a1_0, .int .i64 a1_1]) 49 ?_; intro gb177 hg w29 hbox hb; have BK177 := Aside0.mk (hbox); have GW177 := Aside0.mk ((Hd.g_ hg Hd.b_ : w.heap.size ≤ gb177)); have GE177 := Aside0.mk ((Hd.g_ hg Hd.b_ : w.heap.size ≤ gb177)); replace HB := Aside0.mk (below_step Hd.b_ hb); have NB176_177 := Aside0.mk ((Hd.lt_ BK176 hg)); have NB177_176 := Aside0.mk ((Hd.gt_ BK176 hg)); replace BK176 := Aside0.mk (Hd.kb_ BK176 hb); clear hb hbox hg; have hnb30 := NB176_177.out; have hnc30 := NB177_176.out; obtain ⟨hcz31_0, hcz31_1, hcz31_2, hcz31_3⟩ := Hd.c4_ BK176.out; obtain ⟨hfz31_0, hfz31_1, hfz31_2, hfz31_3⟩ := Hd.f4_ BK176.out) | ((with_reducible refine gate_callee (f := 102) rfl ?_); refine goesL_ (some 6) rfl rfl Try.func102 (by kernel_rfl) rfl #[.agg #[.int .i64 a0_0, .int .i64 a0_1, .int .i64 a0_2, .int .i64 a0_3]] rfl Hd.m_ ?_; (with_reducible refine (impl_IsSegment.calls a0_0 a0_1 a0_2 a0_3 true _ A3.out).mono ?_); rintro e w32 ⟨rfl, hb⟩; refine ⟨_, rfl, ?_⟩; replace BK176 := Aside0.mk (Hd.kb_ BK176 hb); replace BK177 := Aside0.mk (Hd.kb_ BK177 hb); replace HB := Aside0.mk (below_step Hd.b_ hb); (try clear hb); (try clear hb2); (try clear hk); (try clear hi); obtain ⟨hcz33_0, hcz33_1⟩ := Hd.c2_ BK177.out; obtain ⟨hfz33_0, hfz33_1⟩ := Hd.f2_ BK177.out) | (go_at_call 105; (with_reducible refine (impl_IsPoint.calls a1_0 a1_1 true _ A5.out).mono ?_); rintro e w34 ⟨rfl, hb⟩; replace BK176 := Aside0.mk (Hd.kb_ BK176 hb); replace BK177 := Aside0.mk (Hd.kb_ BK177 hb); replace HB := Aside0.mk (below_step Hd.b_ hb); (try clear hb); (try clear hb2); (try clear hk); (try clear hi); obtain ⟨hcz35_0, hcz35_1, hcz35_2, hcz35_3⟩ := Hd.c4_ BK176.out; obtain ⟨hfz35_0, hfz35_1, hfz35_2, hfz35_3⟩ := Hd.f4_ BK176.out; obtain ⟨hcz36_0, hcz36_1⟩ := Hd.c2_ BK177.out; obtain ⟨hfz36_0, hfz36_1⟩ := Hd.f2_ BK177.out) | (go_at_call 143; (with_reducible refine (impl_SideOf.calls k a0_0 a0_1 a0_2 a0_3 a1_0 a1_1 t180 _ A7.out).mono ?_); rintro e w37 ⟨rfl, hb⟩; replace BK176 := Aside0.mk (Hd.kb_ BK176 hb); replace BK177 := Aside0.mk (Hd.kb_ BK177 hb); replace HB := Aside0.mk (below_step Hd.b_ hb); (try clear hb); (try clear hb2); (try clear hk); (try clear hi); obtain ⟨hcz38_0, hcz38_1⟩ := Hd.c2_ BK177.out; obtain ⟨hfz38_0, hfz38_1⟩ := Hd.f2_ BK177.out; obtain ⟨hcz39_0, hcz39_1, hcz39_2, hcz39_3⟩ := Hd.c4_ BK176.out; obtain ⟨hfz39_0, hfz39_1, hfz39_2, hfz39_3⟩ := Hd.f4_ BK176.out) | (go_at_call 85; (with_reducible refine (impl_InRange.calls a1_0 ji9 ji10 false _ A11.out).mono ?_); rintro e w' ⟨rfl, ⟨nd, rfl⟩⟩))
     go_ret
     exact ⟨by first | rfl | (simp [errW_none, errW_some] <;> rfl) | (simp only [← hji9, ← hji10]; first | rfl | (simp [errW_none, errW_some] <;> rfl)) | (simp [*, errW_none, errW_some] <;> rfl), Hd.b_⟩
   ·
    rw [if_neg c8] at H
    have c8b0 : (t180 == 0) = false := beq_eq_false_iff_ne.mpr c8
    have c8b1 : (t180 != 0) = true := bne_iff_ne.mpr c8
    obtain rfl := Option.some.inj H
    go_enter Try.func146, Try.ntmps146
    go_wp2_with (first | ((with_reducible refine gate_dst (N := 2) rfl ?_); (try (refine gate_guard (by rfl) ?_; dsimp only)); refine Hd.box_ 2 (#[.int .i64 a0_0, .int .i64 a0_1, .int .i64 a0_2, .int .i64 a0_3]) 111 ?_; intro gb176 hg w40 hbox hb; have BK176 := Aside0.mk (hbox); have GW176 := Aside0.mk ((Hd.g_ hg Hd.b_ : w.heap.size ≤ gb176)); have GE176 := Aside0.mk ((Hd.g_ hg Hd.b_ : w.heap.size ≤ gb176)); replace HB := Aside0.mk (below_step Hd.b_ hb); clear hb hbox hg) | ((with_reducible refine gate_dst (N := 3) rfl ?_); (try (refine gate_guard (by rfl) ?_; dsimp only)); refine Hd.box_ 3 (#[.int .i64 a1_0, .int .i64 a1_1]) 49 ?_; intro gb177 hg w41 hbox hb; have BK177 := Aside0.mk (hbox); have GW177 := Aside0.mk ((Hd.g_ hg Hd.b_ : w.heap.size ≤ gb177)); have GE177 := Aside0.mk ((Hd.g_ hg Hd.b_ : w.heap.size ≤ gb177)); replace HB := Aside0.mk (below_step Hd.b_ hb); have NB176_177 := Aside0.mk ((Hd.lt_ BK176 hg)); have NB177_176 := Aside0.mk ((Hd.gt_ BK176 hg)); replace BK176 := Aside0.mk (Hd.kb_ BK176 hb); clear hb hbox hg; have hnb42 := NB176_177.out; have hnc42 := NB177_176.out; obtain ⟨hcz43_0, hcz43_1, hcz43_2, hcz43_3⟩ := Hd.c4_ BK176.out; obtain ⟨hfz43_0, hfz43_1, hfz43_2, hfz43_3⟩ := Hd.f4_ BK176.out) | ((with_reducible refine gate_callee (f := 102) rfl ?_); refine goesL_ (some 6) rfl rfl Try.func102 (by kernel_rfl) rfl #[.agg #[.int .i64 a0_0, .int .i64 a0_1, .int .i64 a0_2, .int .i64 a0_3]] rfl Hd.m_ ?_; (with_reducible refine (impl_IsSegment.calls a0_0 a0_1 a0_2 a0_3 true _ A3.out).mono ?_); rintro e w44 ⟨rfl, hb⟩; refine ⟨_, rfl, ?_⟩; replace BK176 := Aside0.mk (Hd.kb_ BK176 hb); replace BK177 := Aside0.mk (Hd.kb_ BK177 hb); replace HB := Aside0.mk (below_step Hd.b_ hb); (try clear hb); (try clear hb2); (try clear hk); (try clear hi); obtain ⟨hcz45_0, hcz45_1⟩ := Hd.c2_ BK177.out; obtain ⟨hfz45_0, hfz45_1⟩ := Hd.f2_ BK177.out) | (go_at_call 105; (with_reducible refine (impl_IsPoint.calls a1_0 a1_1 true _ A5.out).mono ?_); rintro e w46 ⟨rfl, hb⟩; replace BK176 := Aside0.mk (Hd.kb_ BK176 hb); replace BK177 := Aside0.mk (Hd.kb_ BK177 hb); replace HB := Aside0.mk (below_step Hd.b_ hb); (try clear hb); (try clear hb2); (try clear hk); (try clear hi); obtain ⟨hcz47_0, hcz47_1, hcz47_2, hcz47_3⟩ := Hd.c4_ BK176.out; obtain ⟨hfz47_0, hfz47_1, hfz47_2, hfz47_3⟩ := Hd.f4_ BK176.out; obtain ⟨hcz48_0, hcz48_1⟩ := Hd.c2_ BK177.out; obtain ⟨hfz48_0, hfz48_1⟩ := Hd.f2_ BK177.out) | (go_at_call 143; (with_reducible refine (impl_SideOf.calls k a0_0 a0_1 a0_2 a0_3 a1_0 a1_1 t180 _ A7.out).mono ?_); rintro e w49 ⟨rfl, hb⟩; replace BK176 := Aside0.mk (Hd.kb_ BK176 hb); replace BK177 := Aside0.mk (Hd.kb_ BK177 hb); replace HB := Aside0.mk (below_step Hd.b_ hb); (try clear hb); (try clear hb2); (try clear hk); (try clear hi)))
    go_ret
    exact ⟨Hd.e_, Hd.b_⟩
  ·
   replace c6 := Bool.eq_false_iff.mpr c6
   subst c6
   have H1 : (some false) = some r := by rw [if_neg (show ¬ (false = true) by decide)] at H; exact H
   clear H
   have H := H1
   clear H1
   obtain rfl := Option.some.inj H
   go_enter Try.func146, Try.ntmps146
   go_wp2_with (first | ((with_reducible refine gate_dst (N := 2) rfl ?_); (try (refine gate_guard (by rfl) ?_; dsimp only)); refine Hd.box_ 2 (#[.int .i64 a0_0, .int .i64 a0_1, .int .i64 a0_2, .int .i64 a0_3]) 111 ?_; intro gb176 hg w50 hbox hb; have BK176 := Aside0.mk (hbox); have GW176 := Aside0.mk ((Hd.g_ hg Hd.b_ : w.heap.size ≤ gb176)); have GE176 := Aside0.mk ((Hd.g_ hg Hd.b_ : w.heap.size ≤ gb176)); replace HB := Aside0.mk (below_step Hd.b_ hb); clear hb hbox hg) | ((with_reducible refine gate_dst (N := 3) rfl ?_); (try (refine gate_guard (by rfl) ?_; dsimp only)); refine Hd.box_ 3 (#[.int .i64 a1_0, .int .i64 a1_1]) 49 ?_; intro gb177 hg w51 hbox hb; have BK177 := Aside0.mk (hbox); have GW177 := Aside0.mk ((Hd.g_ hg Hd.b_ : w.heap.size ≤ gb177)); have GE177 := Aside0.mk ((Hd.g_ hg Hd.b_ : w.heap.size ≤ gb177)); replace HB := Aside0.mk (below_step Hd.b_ hb); have NB176_177 := Aside0.mk ((Hd.lt_ BK176 hg)); have NB177_176 := Aside0.mk ((Hd.gt_ BK176 hg)); replace BK176 := Aside0.mk (Hd.kb_ BK176 hb); clear hb hbox hg; have hnb52 := NB176_177.out; have hnc52 := NB177_176.out; obtain ⟨hcz53_0, hcz53_1, hcz53_2, hcz53_3⟩ := Hd.c4_ BK176.out; obtain ⟨hfz53_0, hfz53_1, hfz53_2, hfz53_3⟩ := Hd.f4_ BK176.out) | ((with_reducible refine gate_callee (f := 102) rfl ?_); refine goesL_ (some 6) rfl rfl Try.func102 (by kernel_rfl) rfl #[.agg #[.int .i64 a0_0, .int .i64 a0_1, .int .i64 a0_2, .int .i64 a0_3]] rfl Hd.m_ ?_; (with_reducible refine (impl_IsSegment.calls a0_0 a0_1 a0_2 a0_3 true _ A3.out).mono ?_); rintro e w54 ⟨rfl, hb⟩; refine ⟨_, rfl, ?_⟩; replace BK176 := Aside0.mk (Hd.kb_ BK176 hb); replace BK177 := Aside0.mk (Hd.kb_ BK177 hb); replace HB := Aside0.mk (below_step Hd.b_ hb); (try clear hb); (try clear hb2); (try clear hk); (try clear hi); obtain ⟨hcz55_0, hcz55_1⟩ := Hd.c2_ BK177.out; obtain ⟨hfz55_0, hfz55_1⟩ := Hd.f2_ BK177.out) | (go_at_call 105; (with_reducible refine (impl_IsPoint.calls a1_0 a1_1 false _ A5.out).mono ?_); rintro e w56 ⟨rfl, hb⟩; replace BK176 := Aside0.mk (Hd.kb_ BK176 hb); replace BK177 := Aside0.mk (Hd.kb_ BK177 hb); replace HB := Aside0.mk (below_step Hd.b_ hb); (try clear hb); (try clear hb2); (try clear hk); (try clear hi)))
   go_ret
   exact ⟨Hd.e_, Hd.b_⟩
 ·
  replace c4 := Bool.eq_false_iff.mpr c4
  subst c4
  have H1 : (some false) = some r := by rw [if_neg (show ¬ (false = true) by decide)] at H; exact H
  clear H
  have H := H1
  clear H1
  obtain rfl := Option.some.inj H
  go_enter Try.func146, Try.ntmps146
  go_wp2_with (first | ((with_reducible refine gate_dst (N := 2) rfl ?_); (try (refine gate_guard (by rfl) ?_; dsimp only)); refine Hd.box_ 2 (#[.int .i64 a0_0, .int .i64 a0_1, .int .i64 a0_2, .int .i64 a0_3]) 111 ?_; intro gb176 hg w57 hbox hb; have BK176 := Aside0.mk (hbox); have GW176 := Aside0.mk ((Hd.g_ hg Hd.b_ : w.heap.size ≤ gb176)); have GE176 := Aside0.mk ((Hd.g_ hg Hd.b_ : w.heap.size ≤ gb176)); replace HB := Aside0.mk (below_step Hd.b_ hb); clear hb hbox hg) | ((with_reducible refine gate_dst (N := 3) rfl ?_); (try (refine gate_guard (by rfl) ?_; dsimp only)); refine Hd.box_ 3 (#[.int .i64 a1_0, .int .i64 a1_1]) 49 ?_; intro gb177 hg w58 hbox hb; have BK177 := Aside0.mk (hbox); have GW177 := Aside0.mk ((Hd.g_ hg Hd.b_ : w.heap.size ≤ gb177)); have GE177 := Aside0.mk ((Hd.g_ hg Hd.b_ : w.heap.size ≤ gb177)); replace HB := Aside0.mk (below_step Hd.b_ hb); have NB176_177 := Aside0.mk ((Hd.lt_ BK176 hg)); have NB177_176 := Aside0.mk ((Hd.gt_ BK176 hg)); replace BK176 := Aside0.mk (Hd.kb_ BK176 hb); clear hb hbox hg; have hnb59 := NB176_177.out; have hnc59 := NB177_176.out; obtain ⟨hcz60_0, hcz60_1, hcz60_2, hcz60_3⟩ := Hd.c4_ BK176.out; obtain ⟨hfz60_0, hfz60_1, hfz60_2, hfz60_3⟩ := Hd.f4_ BK176.out) | ((with_reducible refine gate_callee (f := 102) rfl ?_); refine goesL_ (some 6) rfl rfl Try.func102 (by kernel_rfl) rfl #[.agg #[.int .i64 a0_0, .int .i64 a0_1, .int .i64 a0_2, .int .i64 a0_3]] rfl Hd.m_ ?_; (with_reducible refine (impl_IsSegment.calls a0_0 a0_1 a0_2 a0_3 false _ A3.out).mono ?_); rintro e w61 ⟨rfl, hb⟩; refine ⟨_, rfl, ?_⟩; replace BK176 := Aside0.mk (Hd.kb_ BK176 hb); replace BK177 := Aside0.mk (Hd.kb_ BK177 hb); replace HB := Aside0.mk (below_step Hd.b_ hb); (try clear hb); (try clear hb2); (try clear hk); (try clear hi)))
  go_ret
  exact ⟨Hd.e_, Hd.b_⟩
end Go.Proofs.Ytchmbcembbbplac.MFnExactSafeSimplify
