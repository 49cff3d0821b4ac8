-- Laid by this session's program pp.py, after the kit's print and texts of the session's own. Not trusted: Lean checks it.
import Derived.Test.YtbbdhlggnglfgaaZTakeFeatureMx0
import Derived.Test.YtbbdhlggnglfgaaZTakeFeatureMx11
import Derived.Test.YtbbdhlggnglfgaaZTakeFeatureMx12
import Derived.Test.YtbbdhlggnglfgaaZTakeFeatureMx14
namespace Go.Proofs.Ytbbdhlggnglfgaa.MFnExactTakeFeature
open Go.RowKit Go.Proofs.YtbbdhlggnglfgaaW.PrintWords Go.Proofs.YtbbdhlggnglfgaaW.PrintLast Go.Proofs.YtbbdhlggnglfgaaW.PrintMore
attribute [local go_sem] max2_int min2_int max_two min_two max_three min_three max_four min_four   -- for this text's walks alone
set_option linter.unusedVariables false
set_option linter.unusedSimpArgs false
def spec_l7Segments.l0 : Nat → List (S75) → List (S101) → Int → Option ((List (S101)))
 | 0, _, _, _ => none
 | k + 1, x0, x3, x4 => if x4 < (x0.length : Int) then (if 0 ≤ x4 then (if (x0.length : Int) = 0 then (none) else (if 0 ≤ (Int.tmod (wrap64 (x4 + 1)) (x0.length : Int)) then (if (Int.tmod (wrap64 (x4 + 1)) (x0.length : Int)) < (x0.length : Int) then (if x3.length < 4398046511104 then (spec_l7Segments.l0 k x0 (x3 ++ [(⟨(⟨(rd_T75 x0 x4).f0, (rd_T75 x0 x4).f1⟩ : S75), (⟨(rd_T75 x0 (Int.tmod (wrap64 (x4 + 1)) (x0.length : Int))).f0, (rd_T75 x0 (Int.tmod (wrap64 (x4 + 1)) (x0.length : Int))).f1⟩ : S75)⟩ : S101)]) (wrap64 (x4 + 1))) else (none)) else (none)) else (none))) else (none)) else (some x3)
def spec_l7Segments.f (k : Nat) (l0 : List (S75)) : Option ((List (S101))) := spec_l7Segments.l0 k l0 (([] : List (S101))) 0
def spec_l7Segments.T5 : Bool × List (List Nat × List Nat) := (true, [([], []), ([], []), ([], []), ([1, 2], [1, 2]), ([3], [3]), ([], []), ([], []), ([6], [6]), ([], []), ([8], [8]), ([7, 9], [7, 9]), ([5, 10], [5, 10]), ([11], [11]), ([4, 12], [4, 12]), ([13], [13]), ([0, 14], [0, 14]), ([15, 15, 0, 1, 2, 3, 4, 5, 6, 7, 8, 9, 10, 11, 12, 13, 14, 15], [0, 15])])
def spec_l7Segments.B5 : List Nat := [0, 0, 0, 6, 14, 0, 0, 64, 0, 256, 960, 2016, 4064, 8190, 16382, 32767, 65535]
theorem spec_l7Segments.tab5 : rtab .any (opsOf Try.f98 5) = spec_l7Segments.T5 := by kernel_rfl
theorem spec_l7Segments.bits5 : waitsOk spec_l7Segments.T5.2 spec_l7Segments.B5 = true := by kernel_rfl
set_option maxHeartbeats 8000000 in
set_option maxRecDepth 100000 in
theorem spec_l7Segments.calls (k : Nat) (A0 : Option Addr) (c0 : Nat) (l0 : List (S75)) (r : List (S101)) (w : World) (hr0 : Kd.C k75 w A0 l0.length l0) (hc0 : l0.length ≤ c0) (h : spec_l7Segments.f k l0 = some r) :
  Calls Try.prog 98 #[.slice A0 l0.length c0] w fun e w' => ∃ v0_ : Value, e = .returned (v0_) ∧ Kd.R k101 101 w' w.heap.size (fun _ => True) v0_ r ∧ Below w.heap.size w w' := by
 have hu75 := Try.underlying75
 have hu101 := Try.underlying101
 have HR0 := Aside0.mk hr0
 have HC0 := Aside0.mk hc0
 clear hr0 hc0
 have HB := Aside0.mk (Below.refl w.heap.size w)
 have H : (spec_l7Segments.l0 k l0 (([] : List (S101))) 0) = some r := h
 clear h
 obtain ⟨y413, hy413⟩ : ∃ y_ : List (S101), y_ = (([] : List (S101))) := ⟨_, rfl⟩
 replace H : (spec_l7Segments.l0 k l0 y413 0) = some r := by first | (rw [hy413]; with_reducible exact H) | (have H2_ := (Option.bind_some _ _).symm.trans H; rw [hy413]; with_reducible exact H2_) | (have H2_ := (Option.bind_some _ _).symm.trans H; with_reducible exact H2_) | with_reducible exact H | (rw [hy413]; exact H) | exact H
 have Ny413 := Aside0.mk hy413
 clear hy413
 have H' := Aside0.mk H
 clear H
 go_enter Try.func98, Try.ntmps98
 go_wp2_with (first | ((with_reducible refine gate_dst (N := 5) rfl ?_); refine Kd.R_lit k101 _ 101 ?hg (N := 5) ?hd (xs := ([] : List (S101))) (inner := []) (ok := fun _ => True) (okp := fun _ => True) ?hr ?hp (fun _ hk => hk) trivial (Below.refl _ _) (Nat.le_refl _) (by simp) ?_; (case hd => rfl); (case hg => rfl); (case hr => first | (go_simp; done) | (go_simp; rfl)); (case hp => exact (Reps.none _ _)); intro v414 w2 ho3 hb hg_ hnew_; clear hg_ hnew_; (first | rw [← Ny413.out] at ho3 | (simp only [Int.reduceToNat] at ho3; rw [← Ny413.out] at ho3)); have HO415 := Aside0.mk (Kd.R_lower ho3 (below_size Hd.b_)); replace HB := Aside0.mk (below_step Hd.b_ hb); clear hb ho3))
 go_loopg [3, 4] k (fun kq v3 v4 w' => ∃ (x3_1 : List (S101)) (x4_1 : Int), v4 = .int .i64 x4_1 ∧ Aside0 (spec_l7Segments.l0 kq l0 x3_1 x4_1 = some r) ∧ Aside0 (kq ≤ k) ∧ Aside0 (Kd.R k101 101 w' w.heap.size (fun _ => True) v3 x3_1) ∧ Aside0 (Below w.heap.size w w'))
 case atStart => exact ⟨(y413), (0), (by first | rfl | (simp; done) | (simp [*]; done)), H', ⟨Nat.le_refl _⟩, ⟨by (with_reducible repeat (first | apply Kd.R_alloc | apply Kd.R_drewN | apply Kd.R_drew)); exact HO415.out⟩, ⟨Hd.b_⟩⟩
 case round =>
  clear H'
  try clear p2
  obtain ⟨x3_1, x4_1, rfl, HA, HK1, HO_3, HB⟩ := hrel
  cases gk with
  | zero => exact absurd HA.out (by simp [spec_l7Segments.l0])
  | succ k1 =>
   have H := HA.out
   clear HA
   simp only [spec_l7Segments.l0] at H
   by_cases c4 : x4_1 < (l0.length : Int)
   ·
    rw [if_pos c4] at H
    have c4b0 : decide (x4_1 < (l0.length : Int)) = true := decide_eq_true c4
    clear c4
    by_cases c5 : 0 ≤ x4_1
    ·
     rw [if_pos c5] at H
     have c5b0 : decide (0 ≤ x4_1) = true := decide_eq_true c5
     clear c5
     by_cases c6 : (l0.length : Int) = 0
     ·
      rw [if_pos c6] at H
      exact absurd H (by simp)
     ·
      rw [if_neg c6] at H
      have c6b0 : ((l0.length : Int) == 0) = false := beq_eq_false_iff_ne.mpr c6
      have c6b1 : ((l0.length : Int) != 0) = true := bne_iff_ne.mpr c6
      have c6b2 : ¬ (l0 = []) := fun h_ => c6 (by rw [h_]; rfl)
      obtain ⟨ji7, hji7⟩ : ∃ j_ : Int, (Int.tmod (wrap64 (x4_1 + 1)) (l0.length : Int)) = j_ := ⟨_, rfl⟩
      replace H : (if 0 ≤ (ji7) then (if (ji7) < (l0.length : Int) then (if x3_1.length < 4398046511104 then (spec_l7Segments.l0 k1 l0 (x3_1 ++ [(⟨(⟨(rd_T75 l0 x4_1).f0, (rd_T75 l0 x4_1).f1⟩ : S75), (⟨(rd_T75 l0 (ji7)).f0, (rd_T75 l0 (ji7)).f1⟩ : S75)⟩ : S101)]) (wrap64 (x4_1 + 1))) else (none)) else (none)) else (none)) = some r := by first | (rw [hji7] at H; exact H) | (simp only [hji7] at H ⊢; exact H)
      by_cases c8 : 0 ≤ (ji7)
      ·
       rw [if_pos c8] at H
       have c8b0 : decide (0 ≤ (ji7)) = true := decide_eq_true c8
       clear c8
       by_cases c9 : (ji7) < (l0.length : Int)
       ·
        rw [if_pos c9] at H
        have c9b0 : decide ((ji7) < (l0.length : Int)) = true := decide_eq_true c9
        clear c9
        by_cases c10 : x3_1.length < 4398046511104
        ·
         rw [if_pos c10] at H
         have LMc10 := Aside0.mk c10
         clear c10
         obtain ⟨y418, hy418⟩ : ∃ y_ : List (S101), y_ = (x3_1 ++ [(⟨(⟨(rd_T75 l0 x4_1).f0, (rd_T75 l0 x4_1).f1⟩ : S75), (⟨(rd_T75 l0 (ji7)).f0, (rd_T75 l0 (ji7)).f1⟩ : S75)⟩ : S101)]) := ⟨_, rfl⟩
         replace H : (spec_l7Segments.l0 k1 l0 y418 (wrap64 (x4_1 + 1))) = some r := by first | (rw [hy418]; with_reducible exact H) | (have H2_ := (Option.bind_some _ _).symm.trans H; rw [hy418]; with_reducible exact H2_) | (have H2_ := (Option.bind_some _ _).symm.trans H; with_reducible exact H2_) | with_reducible exact H | (rw [hy418]; exact H) | exact H
         have Ny418 := Aside0.mk hy418
         clear hy418
         have H' := Aside0.mk H
         clear H
         try go_wp2
         replace HO_3 := Aside0.mk (Kd.R_drew HO_3.out)
         replace HB := Aside0.mk (below_drew1 HB.out)
         have p416 : 0 ≤ (x4_1 : Int) := of_decide_eq_true Hd.a_
         have q416 : x4_1 < (l0.length : Int) := of_decide_eq_true Hd.a_
         obtain ⟨ad416, e416, hx416_0, hx416_1⟩ := at_T75 HR0.out x4_1 p416 q416
         have hw416_1 := hx416_1
         have hw416_0 := hx416_0
         cases e416
         replace hx416_0 := (HB.out.cell (World.block_lt_of_cell? w _ hx416_0)).trans hx416_0
         replace hx416_1 := (HB.out.cell (World.block_lt_of_cell? w _ hx416_1)).trans hx416_1
         replace p416 := eq_true p416
         replace q416 := eq_true q416
         have p417 : 0 ≤ ((ji7) : Int) := of_decide_eq_true Hd.a_
         have q417 : (ji7) < (l0.length : Int) := of_decide_eq_true Hd.a_
         obtain ⟨ad417, e417, hx417_0, hx417_1⟩ := at_T75 HR0.out (ji7) p417 q417
         have hw417_1 := hx417_1
         have hw417_0 := hx417_0
         obtain rfl : ad416 = ad417 := (by injection e417)
         replace hx417_0 := (HB.out.cell (World.block_lt_of_cell? w _ hx417_0)).trans hx417_0
         replace hx417_1 := (HB.out.cell (World.block_lt_of_cell? w _ hx417_1)).trans hx417_1
         replace p417 := eq_true p417
         replace q417 := eq_true q417
         refine start_ (n := 17) (S := fun w' => w'.cell? (ad416.add ((x4_1).toNat * 2)) = some (.int .i64 ((rd_T75 l0 x4_1).f0)) ∧ w'.cell? ⟨(ad416.add ((x4_1).toNat * 2)).block, (ad416.add ((x4_1).toNat * 2)).off + 1, none⟩ = some (.int .i64 ((rd_T75 l0 x4_1).f1)) ∧ w'.cell? (ad416.add (((ji7)).toNat * 2)) = some (.int .i64 ((rd_T75 l0 (ji7)).f0)) ∧ w'.cell? ⟨(ad416.add (((ji7)).toNat * 2)).block, (ad416.add (((ji7)).toNat * 2)).off + 1, none⟩ = some (.int .i64 ((rd_T75 l0 (ji7)).f1))) (ds := []) #[false, false, false, false, false, false, false, false, false, false, false, false, false, false, false, false, false] (by kernel_rfl) rfl rfl ⟨((HB.out.cell (World.block_lt_of_cell? w _ hw416_0)).trans hw416_0), ((HB.out.cell (World.block_lt_of_cell? w _ hw416_1)).trans hw416_1), ((HB.out.cell (World.block_lt_of_cell? w _ hw417_0)).trans hw417_0), ((HB.out.cell (World.block_lt_of_cell? w _ hw417_1)).trans hw417_1)⟩ (fun hHeld => ?_); refine with_tabW spec_l7Segments.tab5 spec_l7Segments.bits5 (fun HT_ HW_ => ?_)
         generalize wr.drew = w11 at HO_3 HB hx416_0 hx416_1 hx417_0 hx417_1 hHeld ⊢
         refine Hd.p_ HT_ 0 (some 12) #[true, false, false, false, false, false, false, false, false, false, false, false, false, false, false, false, false] ?_
         refine Hd.p_ HT_ 1 (some 13) #[true, true, false, false, false, false, false, false, false, false, false, false, false, false, false, false, false] ?_
         refine Hd.p_ HT_ 2 (some 14) #[true, true, true, false, false, false, false, false, false, false, false, false, false, false, false, false, false] ?_
         refine Hd.p_ HT_ 3 (some 15) #[true, true, true, true, false, false, false, false, false, false, false, false, false, false, false, false, false] ?_
         refine Hd.p_ HT_ 5 (some 17) #[true, true, true, true, false, true, false, false, false, false, false, false, false, false, false, false, false] ?_
         refine Hd.p_ HT_ 6 (some 18) #[true, true, true, true, false, true, true, false, false, false, false, false, false, false, false, false, false] ?_
         refine Hd.p_ HT_ 7 (some 19) #[true, true, true, true, false, true, true, true, false, false, false, false, false, false, false, false, false] ?_
         refine Hd.p_ HT_ 8 (some 20) #[true, true, true, true, false, true, true, true, true, false, false, false, false, false, false, false, false] ?_
         refine Hd.p_ HT_ 9 (some 21) #[true, true, true, true, false, true, true, true, true, true, false, false, false, false, false, false, false] ?_
         refine Hd.p_ HT_ 10 (some 22) #[true, true, true, true, false, true, true, true, true, true, true, false, false, false, false, false, false] ?_
         refine Hd.p_ HT_ 11 (some 23) #[true, true, true, true, false, true, true, true, true, true, true, true, false, false, false, false, false] ?_
         refine Hd.t_ HT_ HW_ hHeld 4 (some 16) #[true, true, true, true, true, true, true, true, true, true, true, true, false, false, false, false, false] ?_
         refine Hd.t_ HT_ HW_ hHeld 12 (some 24) #[true, true, true, true, true, true, true, true, true, true, true, true, true, false, false, false, false] ?_
         refine Hd.p_ HT_ 13 (some 25) #[true, true, true, true, true, true, true, true, true, true, true, true, true, true, false, false, false] ?_
         refine Hd.o_ HT_ 14 (some 26) #[true, true, true, true, true, true, true, true, true, true, true, true, true, true, true, false, false] (fun K hK => ?_)
         refine value_ (w1 := ?_) (v := ?_) (by rfl) rfl ?_ ?_
         rotate_left 2
         ·
          go_simp
          constructor
          ·
           rfl
          ·
           rfl
         refine hK.out _ _ ⟨(World.cell?_alloc_lt _ _ _ (World.block_lt_of_cell? _ _ (((HB.out.cell (World.block_lt_of_cell? w _ hw416_0)).trans hw416_0)))).trans (((HB.out.cell (World.block_lt_of_cell? w _ hw416_0)).trans hw416_0)), (World.cell?_alloc_lt _ _ _ (World.block_lt_of_cell? _ _ (((HB.out.cell (World.block_lt_of_cell? w _ hw416_1)).trans hw416_1)))).trans (((HB.out.cell (World.block_lt_of_cell? w _ hw416_1)).trans hw416_1)), (World.cell?_alloc_lt _ _ _ (World.block_lt_of_cell? _ _ (((HB.out.cell (World.block_lt_of_cell? w _ hw417_0)).trans hw417_0)))).trans (((HB.out.cell (World.block_lt_of_cell? w _ hw417_0)).trans hw417_0)), (World.cell?_alloc_lt _ _ _ (World.block_lt_of_cell? _ _ (((HB.out.cell (World.block_lt_of_cell? w _ hw417_1)).trans hw417_1)))).trans (((HB.out.cell (World.block_lt_of_cell? w _ hw417_1)).trans hw417_1))⟩ (fun hHeld => ?_)
         clear hK K
         refine Hd.n_ (some 26) ?_
         refine Hd.o_ HT_ 15 (some 27) #[true, true, true, true, true, true, true, true, true, true, true, true, true, true, true, true, false] (fun K hK => ?_)
         refine Kd.R_append_step k101 (w0 := w) w.heap.size (by rfl) (.tmp 12) (.tmp 26) 79 101 (.agg #[(.int .i64 0), (.int .i64 0), (.int .i64 0), (.int .i64 0)]) 32 rfl Try.underlying79 info101 rfl (by decide) (by omega) u3 x3_1 (⟨(⟨(rd_T75 l0 x4_1).f0, (rd_T75 l0 x4_1).f1⟩ : S75), (⟨(rd_T75 l0 (ji7)).f0, (rd_T75 l0 (ji7)).f1⟩ : S75)⟩ : S101) [.int .i64 ((rd_T75 l0 x4_1).f0), .int .i64 ((rd_T75 l0 x4_1).f1), .int .i64 ((rd_T75 l0 (ji7)).f0), .int .i64 ((rd_T75 l0 (ji7)).f1)] (fun _ => True) (fun _ => False) rfl rfl ?aP (fun _ hk => hk.elim) ?aF ?aO ?aB ?aS ?aL ?_
         (case aP => exact k101_mkM _ _ _ (⟨(⟨(rd_T75 l0 x4_1).f0, (rd_T75 l0 x4_1).f1⟩ : S75), (⟨(rd_T75 l0 (ji7)).f0, (rd_T75 l0 (ji7)).f1⟩ : S75)⟩ : S101))
         (case aB => exact Hd.b_)
         (case aF => exact (fun _ _ => trivial))
         (case aO => exact (Hd.r_ HO_3))
         (case aS => exact (below_size Hd.b_))
         (case aL => have := LMc10.out; omega)
         intro v419 w12 ho hb hg hat
         rw [← Ny418.out] at ho
         have n0_ := Aside0.mk (hb)
         have n1_ := Aside0.mk (ho)
         clear HB
         clear HO_3
         have HB := n0_
         have HO420 := n1_
         clear n0_ n1_
         clear ho hb hg hat
         refine hK.out _ _ ⟨((HB.out.cell (World.block_lt_of_cell? w _ hw416_0)).trans hw416_0), ((HB.out.cell (World.block_lt_of_cell? w _ hw416_1)).trans hw416_1), ((HB.out.cell (World.block_lt_of_cell? w _ hw417_0)).trans hw417_0), ((HB.out.cell (World.block_lt_of_cell? w _ hw417_1)).trans hw417_1)⟩ (fun hHeld => ?_)
         clear hK K
         refine Hd.n_ (some 27) ?_
         refine Hd.p_ HT_ 16 (some 3) #[true, true, true, true, true, true, true, true, true, true, true, true, true, true, true, true, true] ?_
         refine done_ (done_of HT_.out (by kernel_rfl)) ?_
         try go_wp2
         go_roundg k1
         case measure => have := HK1.out; omega
         case rel => exact ⟨(y418), (wrap64 (x4_1 + 1)), (by first | rfl | (simp; done) | (simp [*]; done)), H', ⟨by have := HK1.out; omega⟩, ⟨by (with_reducible repeat (first | apply Kd.R_alloc | apply Kd.R_drewN | apply Kd.R_drew)); exact HO420.out⟩, ⟨Hd.b_⟩⟩
        ·
         rw [if_neg c10] at H
         exact absurd H (by simp)
       ·
        rw [if_neg c9] at H
        exact absurd H (by simp)
      ·
       rw [if_neg c8] at H
       exact absurd H (by simp)
    ·
     rw [if_neg c5] at H
     exact absurd H (by simp)
   ·
    rw [if_neg c4] at H
    have c4b0 : decide (x4_1 < (l0.length : Int)) = false := decide_eq_false c4
    clear c4
    obtain rfl := Option.some.inj H
    go_wp2
    go_ret
    exact ⟨_, Hd.e_, by (with_reducible repeat (first | apply Kd.R_alloc | apply Kd.R_drewN | apply Kd.R_drew)); exact HO_3.out, Hd.b_⟩
mutual
def spec_IsRing.l0 : Nat → List (S101) → Int → Option (Bool)
 | 0, _, _ => none
 | k + 1, x3, x4 => if x4 < (x3.length : Int) then (if 0 ≤ x4 then ((spec_IsSegment.f ((rd_T101 x3 x4).f0.f0) ((rd_T101 x3 x4).f0.f1) ((rd_T101 x3 x4).f1.f0) ((rd_T101 x3 x4).f1.f1)).bind fun t426 => (if t426 = true then (spec_IsRing.l1 k x3 x4 0) else (some false))) else (none)) else (some true)
def spec_IsRing.l1 : Nat → List (S101) → Int → Int → Option (Bool)
 | 0, _, _, _ => none
 | k + 1, x3, x4, x5 => if x5 < x4 then (if (wrap64 (x5 + 1)) = x4 then (spec_IsRing.j2 k x3 x4 x5 0 true) else (if x5 = 0 then (spec_IsRing.j2 k x3 x4 x5 0 ((wrap64 (x4 + 1)) == (x3.length : Int))) else (spec_IsRing.j2 k x3 x4 x5 0 false))) else (spec_IsRing.l0 k x3 (wrap64 (x4 + 1)))
def spec_IsRing.j2 : Nat → List (S101) → Int → Int → Int → Bool → Option (Bool)
 | 0, _, _, _, _, _ => none
 | k + 1, x3, x4, x5, x6, x44 => if x44 = true then (if 0 ≤ x4 then (if x4 < (x3.length : Int) then (if 0 ≤ x5 then (if x5 < (x3.length : Int) then ((spec_HowMeet.f k ((rd_T101 x3 x4).f0.f0) ((rd_T101 x3 x4).f0.f1) ((rd_T101 x3 x4).f1.f0) ((rd_T101 x3 x4).f1.f1) ((rd_T101 x3 x5).f0.f0) ((rd_T101 x3 x5).f0.f1) ((rd_T101 x3 x5).f1.f0) ((rd_T101 x3 x5).f1.f1)).bind fun t429 => (if t429 = 1 then (spec_IsRing.l1 k x3 x4 (wrap64 (x5 + 1))) else (some false))) else (none)) else (none)) else (none)) else (none)) else (if 0 ≤ x4 then (if x4 < (x3.length : Int) then (if 0 ≤ x5 then (if x5 < (x3.length : Int) then ((spec_HowMeet.f k ((rd_T101 x3 x4).f0.f0) ((rd_T101 x3 x4).f0.f1) ((rd_T101 x3 x4).f1.f0) ((rd_T101 x3 x4).f1.f1) ((rd_T101 x3 x5).f0.f0) ((rd_T101 x3 x5).f0.f1) ((rd_T101 x3 x5).f1.f0) ((rd_T101 x3 x5).f1.f1)).bind fun t432 => (if t432 = x6 then (spec_IsRing.l1 k x3 x4 (wrap64 (x5 + 1))) else (some false))) else (none)) else (none)) else (none)) else (none))
end
def spec_IsRing.f (k : Nat) (l0 : List (S75)) : Option (Bool) := (spec_l1In.f (l0.length : Int) 3 10).bind fun t421 => (if t421 = true then ((spec_l7Segments.f k l0).bind fun t422 => (spec_IsRing.l0 k t422 0)) else (some false))
set_option maxHeartbeats 8000000 in
set_option maxRecDepth 100000 in
theorem spec_IsRing.calls (k : Nat) (A0 : Option Addr) (c0 : Nat) (l0 : List (S75)) (r : Bool) (w : World) (hr0 : Kd.C k75 w A0 l0.length l0) (hc0 : l0.length ≤ c0) (h : spec_IsRing.f k l0 = some r) :
  Calls Try.prog 83 #[.slice A0 l0.length c0] w fun e w' => e = .returned (.bool r) ∧ Below w.heap.size w w' := by
 have hu101 := Try.underlying101
 have HR0 := Aside0.mk hr0
 have HC0 := Aside0.mk hc0
 clear hr0 hc0
 have HB := Aside0.mk (Below.refl w.heap.size w)
 have H : ((spec_l1In.f (l0.length : Int) 3 10).bind fun t421 => (if t421 = true then ((spec_l7Segments.f k l0).bind fun t422 => (spec_IsRing.l0 k t422 0)) else (some false))) = some r := h
 clear h
 replace H := Option.bind_eq_some_iff.mp H
 obtain ⟨t421, A20, H⟩ := H
 replace H : (if t421 = true then ((spec_l7Segments.f k l0).bind fun t422 => (spec_IsRing.l0 k t422 0)) else (some false)) = some r := H
 have A2 := Aside0.mk A20
 clear A20
 by_cases c3 : t421 = true
 ·
  subst c3
  have H1 : ((spec_l7Segments.f k l0).bind fun t422 => (spec_IsRing.l0 k t422 0)) = some r := by rw [if_pos rfl] at H; exact H
  clear H
  have H := H1
  clear H1
  replace H := Option.bind_eq_some_iff.mp H
  obtain ⟨t422, A40, H⟩ := H
  replace H : (spec_IsRing.l0 k t422 0) = some r := H
  have A4 := Aside0.mk A40
  clear A40
  have H' := Aside0.mk H
  clear H
  go_enter Try.func83, Try.ntmps83
  go_wp2_with (first | ((with_reducible refine gate_callee (f := 79) rfl ?_); refine goesL_ (some 9) rfl rfl Try.func79 (by kernel_rfl) rfl #[.int .i64 (l0.length : Int), .int .i64 3, .int .i64 10] rfl Hd.m_ ?_; (with_reducible refine (spec_l1In.calls (l0.length : Int) 3 10 true _ A2.out).mono ?_); rintro e w' ⟨rfl, ⟨nd, rfl⟩⟩; refine ⟨_, rfl, ?_⟩) | ((with_reducible refine gate_callee (f := 98) rfl ?_); refine goesL_ (some 12) rfl rfl Try.func98 (by kernel_rfl) rfl #[.slice A0 l0.length c0] rfl Hd.m_ ?_; (with_reducible refine (spec_l7Segments.calls k _ _ l0 t422 _ ?side1 ?side2 A4.out).mono ?_); (case side1 => repeat (first | exact HR0.out | (with_reducible refine Kd.C_alloc ?_ _) | (with_reducible refine Kd.C_drewN ?_ _) | (with_reducible refine Kd.C_drew ?_))); (case side2 => exact HC0.out); rintro e w5 ⟨v423, rfl, ho0, hb⟩; refine ⟨_, rfl, ?_⟩; have HO424 := Aside0.mk (Kd.R_lower ho0 (below_size Hd.b_)); replace HB := Aside0.mk (below_step Hd.b_ hb); (try clear hb); (try clear hb2); (try clear hk); (try clear hi); (try clear ho0)))
  go_loopg [4] k (fun kq v4 w' => ∃ (x4_1 : Int), v4 = .int .i64 x4_1 ∧ Aside0 (spec_IsRing.l0 kq t422 x4_1 = some r) ∧ Aside0 (kq ≤ k) ∧ Aside0 (Kd.R k101 101 w' w.heap.size (fun _ => True) v423 t422) ∧ Aside0 (Below w.heap.size w w'))
  case atStart => exact ⟨(0), (by first | rfl | (simp; done) | (simp [*]; done)), H', ⟨Nat.le_refl _⟩, ⟨by (with_reducible repeat (first | apply Kd.R_alloc | apply Kd.R_drewN | apply Kd.R_drew)); exact HO424.out⟩, ⟨Hd.b_⟩⟩
  case round =>
   clear H'
   try clear p2
   try clear c3
   obtain ⟨x4_1, rfl, HA, HK1, HO_3, HB⟩ := hrel
   cases gk with
   | zero => exact absurd HA.out (by simp [spec_IsRing.l0])
   | succ k1 =>
    have H := HA.out
    clear HA
    simp only [spec_IsRing.l0] at H
    by_cases c6 : x4_1 < (t422.length : Int)
    ·
     rw [if_pos c6] at H
     have c6b0 : decide (x4_1 < (t422.length : Int)) = true := decide_eq_true c6
     clear c6
     by_cases c7 : 0 ≤ x4_1
     ·
      rw [if_pos c7] at H
      have c7b0 : decide (0 ≤ x4_1) = true := decide_eq_true c7
      clear c7
      replace H := Option.bind_eq_some_iff.mp H
      obtain ⟨t426, A80, H⟩ := H
      replace H : (if t426 = true then (spec_IsRing.l1 k1 t422 x4_1 0) else (some false)) = some r := H
      have A8 := Aside0.mk A80
      clear A80
      by_cases c9 : t426 = true
      ·
       subst c9
       have H1 : (spec_IsRing.l1 k1 t422 x4_1 0) = some r := by rw [if_pos rfl] at H; exact H
       clear H
       have H := H1
       clear H1
       have H' := Aside0.mk H
       clear H
       obtain ⟨Ao10, co10, eo10⟩ := Kd.R_slice HO_3.out
       subst eo10
       have p425 : 0 ≤ (x4_1 : Int) := of_decide_eq_true Hd.a_
       have q425 : x4_1 < (t422.length : Int) := of_decide_eq_true Hd.a_
       obtain ⟨ad425, e425, hx425_0, hx425_1, hx425_2, hx425_3⟩ := at_T101 (Kd.R_reads' HO_3.out).2.2 x4_1 p425 q425
       cases e425
       replace p425 := eq_true p425
       replace q425 := eq_true q425
       go_wp2_with (first | ((with_reducible refine gate_callee (f := 99) rfl ?_); refine goesL_ (some 23) rfl rfl Try.func99 (by kernel_rfl) rfl #[.agg #[.int .i64 ((rd_T101 t422 x4_1).f0.f0), .int .i64 ((rd_T101 t422 x4_1).f0.f1), .int .i64 ((rd_T101 t422 x4_1).f1.f0), .int .i64 ((rd_T101 t422 x4_1).f1.f1)]] rfl Hd.m_ ?_; (with_reducible refine (spec_IsSegment.calls ((rd_T101 t422 x4_1).f0.f0) ((rd_T101 t422 x4_1).f0.f1) ((rd_T101 t422 x4_1).f1.f0) ((rd_T101 t422 x4_1).f1.f1) true _ A8.out).mono ?_); rintro e w11 ⟨rfl, hb⟩; refine ⟨_, rfl, ?_⟩; replace HO_3 := Aside0.mk (Kd.R_below (Hd.r_ HO_3) hb); replace HB := Aside0.mk (below_step Hd.b_ hb); (try clear hb); (try clear hb2); (try clear hk); (try clear hi)))
       go_loopg [5] k1 (fun kq v5 w' => ∃ (x5_2 : Int), v5 = .int .i64 x5_2 ∧ Aside0 (spec_IsRing.l1 kq t422 x4_1 x5_2 = some r) ∧ Aside0 (kq ≤ k1) ∧ Aside0 (Kd.R k101 101 w' w.heap.size (fun _ => True) (.slice (some ad425) t422.length co10) t422) ∧ Aside0 (Below w.heap.size w w'))
       case atStart => exact ⟨(0), (by first | rfl | (simp; done) | (simp [*]; done)), H', ⟨Nat.le_refl _⟩, ⟨by (with_reducible repeat (first | apply Kd.R_alloc | apply Kd.R_drewN | apply Kd.R_drew)); exact HO_3.out⟩, ⟨Hd.b_⟩⟩
       case round =>
        clear H'
        try clear p2
        try clear c3
        try clear p4
        try clear q4
        try clear hx4
        try clear c6
        try clear c6b0
        try clear c7
        try clear c7b0
        try clear c8
        try clear c9
        try clear hx425_0
        try clear hx425_1
        try clear hx425_2
        try clear hx425_3
        try clear p2
        try clear p425
        try clear q425
        obtain ⟨x5_2, rfl, HA, HK2, HO_3, HB⟩ := hrel
        cases gk with
        | zero => exact absurd HA.out (by simp [spec_IsRing.l1])
        | succ k2 =>
         have H := HA.out
         clear HA
         simp only [spec_IsRing.l1] at H
         by_cases c12 : x5_2 < x4_1
         ·
          rw [if_pos c12] at H
          have c12b0 : decide (x5_2 < x4_1) = true := decide_eq_true c12
          clear c12
          have HC13 := Aside0.mk H
          clear H
          go_upto_region 13 with (fail)
          go_cut [44] (fun v44 wc => ∃ (kq : Nat) (x44_12 : Bool), v44 = .bool x44_12 ∧ Aside0 (spec_IsRing.j2 kq t422 x4_1 x5_2 0 x44_12 = some r) ∧ Aside0 (kq ≤ k2) ∧ Aside0 (Kd.R k101 101 wc w.heap.size (fun _ => True) (.slice (some ad425) t422.length co10) t422) ∧ Aside0 (Below w.heap.size w wc))
          case first =>
           have H := HC13.out
           clear HC13
           by_cases c14 : (wrap64 (x5_2 + 1)) = x4_1
           ·
            rw [if_pos c14] at H
            have c14b0 : ((wrap64 (x5_2 + 1)) == x4_1) = true := beq_iff_eq.mpr c14
            have c14b1 : ((wrap64 (x5_2 + 1)) != x4_1) = false := bne_eq_false_iff_eq.mpr c14
            clear c14
            (first | rw [c14b0] | (simp only [i64_w, i32_w]; rw [c14b0]) | skip)
            have H' := Aside0.mk H
            clear H
            go_wp2
            go_meet
            case rel => exact ⟨_, (true), (by first | rfl | (simp; done) | (simp [*]; done)), H', ⟨by have := HK1.out; have := HK2.out; first | omega | exact Nat.le_refl _⟩, ⟨by (with_reducible repeat (first | apply Kd.R_alloc | apply Kd.R_drewN | apply Kd.R_drew)); exact HO_3.out⟩, ⟨Hd.b_⟩⟩
           ·
            rw [if_neg c14] at H
            have c14b0 : ((wrap64 (x5_2 + 1)) == x4_1) = false := beq_eq_false_iff_ne.mpr c14
            have c14b1 : ((wrap64 (x5_2 + 1)) != x4_1) = true := bne_iff_ne.mpr c14
            (first | rw [c14b0] | (simp only [i64_w, i32_w]; rw [c14b0]) | skip)
            by_cases c15 : x5_2 = 0
            ·
             rw [if_pos c15] at H
             have c15b0 : (x5_2 == 0) = true := beq_iff_eq.mpr c15
             have c15b1 : (x5_2 != 0) = false := bne_eq_false_iff_eq.mpr c15
             clear c15
             have H' := Aside0.mk H
             clear H
             go_wp2
             go_meet
             case rel => exact ⟨_, (((wrap64 (x4_1 + 1)) == (t422.length : Int))), (by first | rfl | (simp; done) | (simp [*]; done)), H', ⟨by have := HK1.out; have := HK2.out; first | omega | exact Nat.le_refl _⟩, ⟨by (with_reducible repeat (first | apply Kd.R_alloc | apply Kd.R_drewN | apply Kd.R_drew)); exact HO_3.out⟩, ⟨Hd.b_⟩⟩
            ·
             rw [if_neg c15] at H
             have c15b0 : (x5_2 == 0) = false := beq_eq_false_iff_ne.mpr c15
             have c15b1 : (x5_2 != 0) = true := bne_iff_ne.mpr c15
             have H' := Aside0.mk H
             clear H
             go_wp2
             go_meet
             case rel => exact ⟨_, (false), (by first | rfl | (simp; done) | (simp [*]; done)), H', ⟨by have := HK1.out; have := HK2.out; first | omega | exact Nat.le_refl _⟩, ⟨by (with_reducible repeat (first | apply Kd.R_alloc | apply Kd.R_drewN | apply Kd.R_drew)); exact HO_3.out⟩, ⟨Hd.b_⟩⟩
          case rest =>
           clear HC13
           try clear c1
           try clear p2
           try clear c3
           try clear p4
           try clear q4
           try clear hx4
           try clear c6
           try clear c6b0
           try clear p6
           try clear c7
           try clear c7b0
           try clear c8
           try clear c9
           try clear c12
           try clear c12b0
           try clear c14
           try clear c14b0
           try clear c14b1
           try clear c15
           try clear c15b0
           try clear c15b1
           try clear hx425_0
           try clear hx425_1
           try clear hx425_2
           try clear hx425_3
           try clear p2
           try clear p4
           try clear p425
           try clear q4
           try clear q425
           obtain ⟨kq, x44_12, rfl, HA, HJ12, HO_3, HB⟩ := hcut
           cases kq with
           | zero => exact absurd HA.out (by simp [spec_IsRing.j2])
           | succ kj12 =>
            have H := HA.out
            clear HA
            simp only [spec_IsRing.j2] at H
            by_cases c16 : x44_12 = true
            ·
             subst c16
             have H1 : (if 0 ≤ x4_1 then (if x4_1 < (t422.length : Int) then (if 0 ≤ x5_2 then (if x5_2 < (t422.length : Int) then ((spec_HowMeet.f kj12 ((rd_T101 t422 x4_1).f0.f0) ((rd_T101 t422 x4_1).f0.f1) ((rd_T101 t422 x4_1).f1.f0) ((rd_T101 t422 x4_1).f1.f1) ((rd_T101 t422 x5_2).f0.f0) ((rd_T101 t422 x5_2).f0.f1) ((rd_T101 t422 x5_2).f1.f0) ((rd_T101 t422 x5_2).f1.f1)).bind fun t429 => (if t429 = 1 then (spec_IsRing.l1 kj12 t422 x4_1 (wrap64 (x5_2 + 1))) else (some false))) else (none)) else (none)) else (none)) else (none)) = some r := by rw [if_pos rfl] at H; exact H
             clear H
             have H := H1
             clear H1
             by_cases c17 : 0 ≤ x4_1
             ·
              rw [if_pos c17] at H
              have c17b0 : decide (0 ≤ x4_1) = true := decide_eq_true c17
              clear c17
              by_cases c18 : x4_1 < (t422.length : Int)
              ·
               rw [if_pos c18] at H
               have c18b0 : decide (x4_1 < (t422.length : Int)) = true := decide_eq_true c18
               clear c18
               by_cases c19 : 0 ≤ x5_2
               ·
                rw [if_pos c19] at H
                have c19b0 : decide (0 ≤ x5_2) = true := decide_eq_true c19
                clear c19
                by_cases c20 : x5_2 < (t422.length : Int)
                ·
                 rw [if_pos c20] at H
                 have c20b0 : decide (x5_2 < (t422.length : Int)) = true := decide_eq_true c20
                 clear c20
                 replace H := Option.bind_eq_some_iff.mp H
                 obtain ⟨t429, A210, H⟩ := H
                 replace H : (if t429 = 1 then (spec_IsRing.l1 kj12 t422 x4_1 (wrap64 (x5_2 + 1))) else (some false)) = some r := H
                 have A21 := Aside0.mk A210
                 clear A210
                 by_cases c22 : t429 = 1
                 ·
                  rw [if_pos c22] at H
                  have c22b0 : (t429 == 1) = true := beq_iff_eq.mpr c22
                  have c22b1 : (t429 != 1) = false := bne_eq_false_iff_eq.mpr c22
                  clear c22
                  have H' := Aside0.mk H
                  clear H
                  try go_wp2
                  replace HO_3 := Aside0.mk (Kd.R_drew HO_3.out)
                  replace HB := Aside0.mk (below_drew1 HB.out)
                  have p427 : 0 ≤ (x4_1 : Int) := of_decide_eq_true Hd.a_
                  have q427 : x4_1 < (t422.length : Int) := of_decide_eq_true Hd.a_
                  obtain ⟨ad427, e427, hx427_0, hx427_1, hx427_2, hx427_3⟩ := at_T101 (Kd.R_reads' HO_3.out).2.2 x4_1 p427 q427
                  obtain rfl : ad425 = ad427 := (by injection e427)
                  replace p427 := eq_true p427
                  replace q427 := eq_true q427
                  have p428 : 0 ≤ (x5_2 : Int) := of_decide_eq_true Hd.a_
                  have q428 : x5_2 < (t422.length : Int) := of_decide_eq_true Hd.a_
                  obtain ⟨ad428, e428, hx428_0, hx428_1, hx428_2, hx428_3⟩ := at_T101 (Kd.R_reads' HO_3.out).2.2 x5_2 p428 q428
                  obtain rfl : ad425 = ad428 := (by injection e428)
                  replace p428 := eq_true p428
                  replace q428 := eq_true q428
                  have s0_ := Hd.HW.x (W0 := wc.drew) hx427_0
                  have s1_ := Hd.HW.x (W0 := wc.drew) hx427_1
                  have s2_ := Hd.HW.x (W0 := wc.drew) hx427_2
                  have s3_ := Hd.HW.x (W0 := wc.drew) hx427_3
                  have s4_ := Hd.HW.x (W0 := wc.drew) hx428_0
                  have s5_ := Hd.HW.x (W0 := wc.drew) hx428_1
                  have s6_ := Hd.HW.x (W0 := wc.drew) hx428_2
                  have s7_ := Hd.HW.x (W0 := wc.drew) hx428_3
                  refine Hd.HW.region (by kernel_rfl) (by kernel_rfl) ?_
                  repeat (go_big_quiet_step ((first | (go_at_call 96; with_reducible exact Hd.HW.c (spec_HowMeet.calls kj12 ((rd_T101 t422 x4_1).f0.f0) ((rd_T101 t422 x4_1).f0.f1) ((rd_T101 t422 x4_1).f1.f0) ((rd_T101 t422 x4_1).f1.f1) ((rd_T101 t422 x5_2).f0.f0) ((rd_T101 t422 x5_2).f0.f1) ((rd_T101 t422 x5_2).f1.f0) ((rd_T101 t422 x5_2).f1.f1) t429 _ A21.out)))))
                  refine wpQuiet_nil ?_
                  intro _ hq_
                  obtain ⟨q_, rfl⟩ := hq_
                  clear s0_ s1_ s2_ s3_ s4_ s5_ s6_ s7_
                  replace HO_3 := Aside0.mk (Kd.R_below HO_3.out q_.b)
                  replace HB := Aside0.mk (below_step HB.out q_.b)
                  replace hx427_0 := q_.cell hx427_0
                  replace hx427_1 := q_.cell hx427_1
                  replace hx427_2 := q_.cell hx427_2
                  replace hx427_3 := q_.cell hx427_3
                  replace hx428_0 := q_.cell hx428_0
                  replace hx428_1 := q_.cell hx428_1
                  replace hx428_2 := q_.cell hx428_2
                  replace hx428_3 := q_.cell hx428_3
                  generalize q_.W = w24 at HO_3 HB hx427_0 hx427_1 hx427_2 hx427_3 hx428_0 hx428_1 hx428_2 hx428_3 ⊢
                  try simp only [i64_w, i32_w]
                  try go_wp2
                  go_roundg kj12
                  case measure => have := HK1.out; have := HK2.out; have := HJ12.out; omega
                  case rel => exact ⟨(wrap64 (x5_2 + 1)), (by first | rfl | (simp; done) | (simp [*]; done)), H', ⟨by have := HK1.out; have := HK2.out; have := HJ12.out; omega⟩, ⟨by (with_reducible repeat (first | apply Kd.R_alloc | apply Kd.R_drewN | apply Kd.R_drew)); exact HO_3.out⟩, ⟨Hd.b_⟩⟩
                 ·
                  rw [if_neg c22] at H
                  have c22b0 : (t429 == 1) = false := beq_eq_false_iff_ne.mpr c22
                  have c22b1 : (t429 != 1) = true := bne_iff_ne.mpr c22
                  obtain rfl := Option.some.inj H
                  try go_wp2
                  replace HO_3 := Aside0.mk (Kd.R_drew HO_3.out)
                  replace HB := Aside0.mk (below_drew1 HB.out)
                  have p427 : 0 ≤ (x4_1 : Int) := of_decide_eq_true Hd.a_
                  have q427 : x4_1 < (t422.length : Int) := of_decide_eq_true Hd.a_
                  obtain ⟨ad427, e427, hx427_0, hx427_1, hx427_2, hx427_3⟩ := at_T101 (Kd.R_reads' HO_3.out).2.2 x4_1 p427 q427
                  obtain rfl : ad425 = ad427 := (by injection e427)
                  replace p427 := eq_true p427
                  replace q427 := eq_true q427
                  have p428 : 0 ≤ (x5_2 : Int) := of_decide_eq_true Hd.a_
                  have q428 : x5_2 < (t422.length : Int) := of_decide_eq_true Hd.a_
                  obtain ⟨ad428, e428, hx428_0, hx428_1, hx428_2, hx428_3⟩ := at_T101 (Kd.R_reads' HO_3.out).2.2 x5_2 p428 q428
                  obtain rfl : ad425 = ad428 := (by injection e428)
                  replace p428 := eq_true p428
                  replace q428 := eq_true q428
                  have s0_ := Hd.HW.x (W0 := wc.drew) hx427_0
                  have s1_ := Hd.HW.x (W0 := wc.drew) hx427_1
                  have s2_ := Hd.HW.x (W0 := wc.drew) hx427_2
                  have s3_ := Hd.HW.x (W0 := wc.drew) hx427_3
                  have s4_ := Hd.HW.x (W0 := wc.drew) hx428_0
                  have s5_ := Hd.HW.x (W0 := wc.drew) hx428_1
                  have s6_ := Hd.HW.x (W0 := wc.drew) hx428_2
                  have s7_ := Hd.HW.x (W0 := wc.drew) hx428_3
                  refine Hd.HW.region (by kernel_rfl) (by kernel_rfl) ?_
                  repeat (go_big_quiet_step ((first | (go_at_call 96; with_reducible exact Hd.HW.c (spec_HowMeet.calls kj12 ((rd_T101 t422 x4_1).f0.f0) ((rd_T101 t422 x4_1).f0.f1) ((rd_T101 t422 x4_1).f1.f0) ((rd_T101 t422 x4_1).f1.f1) ((rd_T101 t422 x5_2).f0.f0) ((rd_T101 t422 x5_2).f0.f1) ((rd_T101 t422 x5_2).f1.f0) ((rd_T101 t422 x5_2).f1.f1) t429 _ A21.out)))))
                  refine wpQuiet_nil ?_
                  intro _ hq_
                  obtain ⟨q_, rfl⟩ := hq_
                  clear s0_ s1_ s2_ s3_ s4_ s5_ s6_ s7_
                  replace HO_3 := Aside0.mk (Kd.R_below HO_3.out q_.b)
                  replace HB := Aside0.mk (below_step HB.out q_.b)
                  replace hx427_0 := q_.cell hx427_0
                  replace hx427_1 := q_.cell hx427_1
                  replace hx427_2 := q_.cell hx427_2
                  replace hx427_3 := q_.cell hx427_3
                  replace hx428_0 := q_.cell hx428_0
                  replace hx428_1 := q_.cell hx428_1
                  replace hx428_2 := q_.cell hx428_2
                  replace hx428_3 := q_.cell hx428_3
                  generalize q_.W = w26 at HO_3 HB hx427_0 hx427_1 hx427_2 hx427_3 hx428_0 hx428_1 hx428_2 hx428_3 ⊢
                  try simp only [i64_w, i32_w]
                  try go_wp2
                  go_ret
                  exact ⟨Hd.e_, Hd.b_⟩
                ·
                 rw [if_neg c20] at H
                 exact absurd H (by simp)
               ·
                rw [if_neg c19] at H
                exact absurd H (by simp)
              ·
               rw [if_neg c18] at H
               exact absurd H (by simp)
             ·
              rw [if_neg c17] at H
              exact absurd H (by simp)
            ·
             replace c16 := Bool.eq_false_iff.mpr c16
             subst c16
             have H1 : (if 0 ≤ x4_1 then (if x4_1 < (t422.length : Int) then (if 0 ≤ x5_2 then (if x5_2 < (t422.length : Int) then ((spec_HowMeet.f kj12 ((rd_T101 t422 x4_1).f0.f0) ((rd_T101 t422 x4_1).f0.f1) ((rd_T101 t422 x4_1).f1.f0) ((rd_T101 t422 x4_1).f1.f1) ((rd_T101 t422 x5_2).f0.f0) ((rd_T101 t422 x5_2).f0.f1) ((rd_T101 t422 x5_2).f1.f0) ((rd_T101 t422 x5_2).f1.f1)).bind fun t432 => (if t432 = 0 then (spec_IsRing.l1 kj12 t422 x4_1 (wrap64 (x5_2 + 1))) else (some false))) else (none)) else (none)) else (none)) else (none)) = some r := by rw [if_neg (show ¬ (false = true) by decide)] at H; exact H
             clear H
             have H := H1
             clear H1
             by_cases c27 : 0 ≤ x4_1
             ·
              rw [if_pos c27] at H
              have c27b0 : decide (0 ≤ x4_1) = true := decide_eq_true c27
              clear c27
              by_cases c28 : x4_1 < (t422.length : Int)
              ·
               rw [if_pos c28] at H
               have c28b0 : decide (x4_1 < (t422.length : Int)) = true := decide_eq_true c28
               clear c28
               by_cases c29 : 0 ≤ x5_2
               ·
                rw [if_pos c29] at H
                have c29b0 : decide (0 ≤ x5_2) = true := decide_eq_true c29
                clear c29
                by_cases c30 : x5_2 < (t422.length : Int)
                ·
                 rw [if_pos c30] at H
                 have c30b0 : decide (x5_2 < (t422.length : Int)) = true := decide_eq_true c30
                 clear c30
                 replace H := Option.bind_eq_some_iff.mp H
                 obtain ⟨t432, A310, H⟩ := H
                 replace H : (if t432 = 0 then (spec_IsRing.l1 kj12 t422 x4_1 (wrap64 (x5_2 + 1))) else (some false)) = some r := H
                 have A31 := Aside0.mk A310
                 clear A310
                 by_cases c32 : t432 = 0
                 ·
                  rw [if_pos c32] at H
                  have c32b0 : (t432 == 0) = true := beq_iff_eq.mpr c32
                  have c32b1 : (t432 != 0) = false := bne_eq_false_iff_eq.mpr c32
                  clear c32
                  have H' := Aside0.mk H
                  clear H
                  try go_wp2
                  replace HO_3 := Aside0.mk (Kd.R_drew HO_3.out)
                  replace HB := Aside0.mk (below_drew1 HB.out)
                  have p430 : 0 ≤ (x4_1 : Int) := of_decide_eq_true Hd.a_
                  have q430 : x4_1 < (t422.length : Int) := of_decide_eq_true Hd.a_
                  obtain ⟨ad430, e430, hx430_0, hx430_1, hx430_2, hx430_3⟩ := at_T101 (Kd.R_reads' HO_3.out).2.2 x4_1 p430 q430
                  obtain rfl : ad425 = ad430 := (by injection e430)
                  replace p430 := eq_true p430
                  replace q430 := eq_true q430
                  have p431 : 0 ≤ (x5_2 : Int) := of_decide_eq_true Hd.a_
                  have q431 : x5_2 < (t422.length : Int) := of_decide_eq_true Hd.a_
                  obtain ⟨ad431, e431, hx431_0, hx431_1, hx431_2, hx431_3⟩ := at_T101 (Kd.R_reads' HO_3.out).2.2 x5_2 p431 q431
                  obtain rfl : ad425 = ad431 := (by injection e431)
                  replace p431 := eq_true p431
                  replace q431 := eq_true q431
                  have s0_ := Hd.HW.x (W0 := wc.drew) hx430_0
                  have s1_ := Hd.HW.x (W0 := wc.drew) hx430_1
                  have s2_ := Hd.HW.x (W0 := wc.drew) hx430_2
                  have s3_ := Hd.HW.x (W0 := wc.drew) hx430_3
                  have s4_ := Hd.HW.x (W0 := wc.drew) hx431_0
                  have s5_ := Hd.HW.x (W0 := wc.drew) hx431_1
                  have s6_ := Hd.HW.x (W0 := wc.drew) hx431_2
                  have s7_ := Hd.HW.x (W0 := wc.drew) hx431_3
                  refine Hd.HW.region (by kernel_rfl) (by kernel_rfl) ?_
                  repeat (go_big_quiet_step ((first | (go_at_call 96; with_reducible exact Hd.HW.c (spec_HowMeet.calls kj12 ((rd_T101 t422 x4_1).f0.f0) ((rd_T101 t422 x4_1).f0.f1) ((rd_T101 t422 x4_1).f1.f0) ((rd_T101 t422 x4_1).f1.f1) ((rd_T101 t422 x5_2).f0.f0) ((rd_T101 t422 x5_2).f0.f1) ((rd_T101 t422 x5_2).f1.f0) ((rd_T101 t422 x5_2).f1.f1) t432 _ A31.out)))))
                  refine wpQuiet_nil ?_
                  intro _ hq_
                  obtain ⟨q_, rfl⟩ := hq_
                  clear s0_ s1_ s2_ s3_ s4_ s5_ s6_ s7_
                  replace HO_3 := Aside0.mk (Kd.R_below HO_3.out q_.b)
                  replace HB := Aside0.mk (below_step HB.out q_.b)
                  replace hx430_0 := q_.cell hx430_0
                  replace hx430_1 := q_.cell hx430_1
                  replace hx430_2 := q_.cell hx430_2
                  replace hx430_3 := q_.cell hx430_3
                  replace hx431_0 := q_.cell hx431_0
                  replace hx431_1 := q_.cell hx431_1
                  replace hx431_2 := q_.cell hx431_2
                  replace hx431_3 := q_.cell hx431_3
                  generalize q_.W = w34 at HO_3 HB hx430_0 hx430_1 hx430_2 hx430_3 hx431_0 hx431_1 hx431_2 hx431_3 ⊢
                  try simp only [i64_w, i32_w]
                  try go_wp2
                  go_roundg kj12
                  case measure => have := HK1.out; have := HK2.out; have := HJ12.out; omega
                  case rel => exact ⟨(wrap64 (x5_2 + 1)), (by first | rfl | (simp; done) | (simp [*]; done)), H', ⟨by have := HK1.out; have := HK2.out; have := HJ12.out; omega⟩, ⟨by (with_reducible repeat (first | apply Kd.R_alloc | apply Kd.R_drewN | apply Kd.R_drew)); exact HO_3.out⟩, ⟨Hd.b_⟩⟩
                 ·
                  rw [if_neg c32] at H
                  have c32b0 : (t432 == 0) = false := beq_eq_false_iff_ne.mpr c32
                  have c32b1 : (t432 != 0) = true := bne_iff_ne.mpr c32
                  obtain rfl := Option.some.inj H
                  try go_wp2
                  replace HO_3 := Aside0.mk (Kd.R_drew HO_3.out)
                  replace HB := Aside0.mk (below_drew1 HB.out)
                  have p430 : 0 ≤ (x4_1 : Int) := of_decide_eq_true Hd.a_
                  have q430 : x4_1 < (t422.length : Int) := of_decide_eq_true Hd.a_
                  obtain ⟨ad430, e430, hx430_0, hx430_1, hx430_2, hx430_3⟩ := at_T101 (Kd.R_reads' HO_3.out).2.2 x4_1 p430 q430
                  obtain rfl : ad425 = ad430 := (by injection e430)
                  replace p430 := eq_true p430
                  replace q430 := eq_true q430
                  have p431 : 0 ≤ (x5_2 : Int) := of_decide_eq_true Hd.a_
                  have q431 : x5_2 < (t422.length : Int) := of_decide_eq_true Hd.a_
                  obtain ⟨ad431, e431, hx431_0, hx431_1, hx431_2, hx431_3⟩ := at_T101 (Kd.R_reads' HO_3.out).2.2 x5_2 p431 q431
                  obtain rfl : ad425 = ad431 := (by injection e431)
                  replace p431 := eq_true p431
                  replace q431 := eq_true q431
                  have s0_ := Hd.HW.x (W0 := wc.drew) hx430_0
                  have s1_ := Hd.HW.x (W0 := wc.drew) hx430_1
                  have s2_ := Hd.HW.x (W0 := wc.drew) hx430_2
                  have s3_ := Hd.HW.x (W0 := wc.drew) hx430_3
                  have s4_ := Hd.HW.x (W0 := wc.drew) hx431_0
                  have s5_ := Hd.HW.x (W0 := wc.drew) hx431_1
                  have s6_ := Hd.HW.x (W0 := wc.drew) hx431_2
                  have s7_ := Hd.HW.x (W0 := wc.drew) hx431_3
                  refine Hd.HW.region (by kernel_rfl) (by kernel_rfl) ?_
                  repeat (go_big_quiet_step ((first | (go_at_call 96; with_reducible exact Hd.HW.c (spec_HowMeet.calls kj12 ((rd_T101 t422 x4_1).f0.f0) ((rd_T101 t422 x4_1).f0.f1) ((rd_T101 t422 x4_1).f1.f0) ((rd_T101 t422 x4_1).f1.f1) ((rd_T101 t422 x5_2).f0.f0) ((rd_T101 t422 x5_2).f0.f1) ((rd_T101 t422 x5_2).f1.f0) ((rd_T101 t422 x5_2).f1.f1) t432 _ A31.out)))))
                  refine wpQuiet_nil ?_
                  intro _ hq_
                  obtain ⟨q_, rfl⟩ := hq_
                  clear s0_ s1_ s2_ s3_ s4_ s5_ s6_ s7_
                  replace HO_3 := Aside0.mk (Kd.R_below HO_3.out q_.b)
                  replace HB := Aside0.mk (below_step HB.out q_.b)
                  replace hx430_0 := q_.cell hx430_0
                  replace hx430_1 := q_.cell hx430_1
                  replace hx430_2 := q_.cell hx430_2
                  replace hx430_3 := q_.cell hx430_3
                  replace hx431_0 := q_.cell hx431_0
                  replace hx431_1 := q_.cell hx431_1
                  replace hx431_2 := q_.cell hx431_2
                  replace hx431_3 := q_.cell hx431_3
                  generalize q_.W = w36 at HO_3 HB hx430_0 hx430_1 hx430_2 hx430_3 hx431_0 hx431_1 hx431_2 hx431_3 ⊢
                  try simp only [i64_w, i32_w]
                  try go_wp2
                  go_ret
                  exact ⟨Hd.e_, Hd.b_⟩
                ·
                 rw [if_neg c30] at H
                 exact absurd H (by simp)
               ·
                rw [if_neg c29] at H
                exact absurd H (by simp)
              ·
               rw [if_neg c28] at H
               exact absurd H (by simp)
             ·
              rw [if_neg c27] at H
              exact absurd H (by simp)
         ·
          rw [if_neg c12] at H
          have c12b0 : decide (x5_2 < x4_1) = false := decide_eq_false c12
          clear c12
          have H' := Aside0.mk H
          clear H
          go_wp2
          go_roundg k2
          case measure => have := HK1.out; have := HK2.out; omega
          case rel => exact ⟨(wrap64 (x4_1 + 1)), (by first | rfl | (simp; done) | (simp [*]; done)), H', ⟨by have := HK1.out; have := HK2.out; omega⟩, ⟨by (with_reducible repeat (first | apply Kd.R_alloc | apply Kd.R_drewN | apply Kd.R_drew)); exact HO_3.out⟩, ⟨Hd.b_⟩⟩
      ·
       replace c9 := Bool.eq_false_iff.mpr c9
       subst c9
       have H1 : (some false) = some r := by rw [if_neg (show ¬ (false = true) by decide)] at H; exact H
       clear H
       have H := H1
       clear H1
       obtain rfl := Option.some.inj H
       obtain ⟨Ao37, co37, eo37⟩ := Kd.R_slice HO_3.out
       subst eo37
       have p425 : 0 ≤ (x4_1 : Int) := of_decide_eq_true Hd.a_
       have q425 : x4_1 < (t422.length : Int) := of_decide_eq_true Hd.a_
       obtain ⟨ad425, e425, hx425_0, hx425_1, hx425_2, hx425_3⟩ := at_T101 (Kd.R_reads' HO_3.out).2.2 x4_1 p425 q425
       cases e425
       replace p425 := eq_true p425
       replace q425 := eq_true q425
       go_wp2_with (first | ((with_reducible refine gate_callee (f := 99) rfl ?_); refine goesL_ (some 23) rfl rfl Try.func99 (by kernel_rfl) rfl #[.agg #[.int .i64 ((rd_T101 t422 x4_1).f0.f0), .int .i64 ((rd_T101 t422 x4_1).f0.f1), .int .i64 ((rd_T101 t422 x4_1).f1.f0), .int .i64 ((rd_T101 t422 x4_1).f1.f1)]] rfl Hd.m_ ?_; (with_reducible refine (spec_IsSegment.calls ((rd_T101 t422 x4_1).f0.f0) ((rd_T101 t422 x4_1).f0.f1) ((rd_T101 t422 x4_1).f1.f0) ((rd_T101 t422 x4_1).f1.f1) false _ A8.out).mono ?_); rintro e w38 ⟨rfl, hb⟩; refine ⟨_, rfl, ?_⟩; replace HO_3 := Aside0.mk (Kd.R_below (Hd.r_ HO_3) hb); replace HB := Aside0.mk (below_step Hd.b_ hb); (try clear hb); (try clear hb2); (try clear hk); (try clear hi)))
       go_ret
       exact ⟨Hd.e_, Hd.b_⟩
     ·
      rw [if_neg c7] at H
      exact absurd H (by simp)
    ·
     rw [if_neg c6] at H
     have c6b0 : decide (x4_1 < (t422.length : Int)) = false := decide_eq_false c6
     clear c6
     obtain rfl := Option.some.inj H
     obtain ⟨Ao39, co39, eo39⟩ := Kd.R_slice HO_3.out
     subst eo39
     go_wp2
     go_ret
     exact ⟨Hd.e_, Hd.b_⟩
 ·
  replace c3 := Bool.eq_false_iff.mpr c3
  subst c3
  have H1 : (some false) = some r := by rw [if_neg (show ¬ (false = true) by decide)] at H; exact H
  clear H
  have H := H1
  clear H1
  obtain rfl := Option.some.inj H
  go_enter Try.func83, Try.ntmps83
  go_wp2_with (first | ((with_reducible refine gate_callee (f := 79) rfl ?_); refine goesL_ (some 9) rfl rfl Try.func79 (by kernel_rfl) rfl #[.int .i64 (l0.length : Int), .int .i64 3, .int .i64 10] rfl Hd.m_ ?_; (with_reducible refine (spec_l1In.calls (l0.length : Int) 3 10 false _ A2.out).mono ?_); rintro e w' ⟨rfl, ⟨nd, rfl⟩⟩; refine ⟨_, rfl, ?_⟩))
  go_ret
  exact ⟨Hd.e_, Hd.b_⟩
end Go.Proofs.Ytbbdhlggnglfgaa.MFnExactTakeFeature
