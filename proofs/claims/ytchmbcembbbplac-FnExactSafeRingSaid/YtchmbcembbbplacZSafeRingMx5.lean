-- Laid by this session's program pp.py, after the kit's print and texts of the session's own. Not trusted: Lean checks it.
import Derived.Test.YtchmbcembbbplacZSafeRingMx0
import Derived.Test.YtchmbcembbbplacZSafeRingMx2
import Derived.Test.YtchmbcembbbplacZSafeRingMx4
namespace Go.Proofs.Ytchmbcembbbplac.MFnExactSafeRing
open Go.RowKit Go.Proofs.YtchmbcembbbplacW.PrintWords Go.Proofs.YtchmbcembbbplacW.PrintLast Go.Proofs.YtchmbcembbbplacW.PrintMore
attribute [local go_sem] max2_int min2_int max_two min_two max_three min_three max_four min_four   -- for this text's walks alone
set_option linter.unusedVariables false
set_option linter.unusedSimpArgs false
def impl_around.l0 : Nat → List (S49) → List (S111) → List (S49) → Int → Int → Option ((List (S111)))
 | 0, _, _, _, _, _ => none
 | k + 1, x0, x3, x7, x8, x9 => if x9 < x8 then (if 0 ≤ x9 then (if x9 < (x7.length : Int) then (if (x0.length : Int) = 0 then (none) else (if 0 ≤ (Int.tmod (wrap64 (x9 + 1)) (x0.length : Int)) then (if (Int.tmod (wrap64 (x9 + 1)) (x0.length : Int)) < (x0.length : Int) then (if x3.length < 4398046511104 then (impl_around.l0 k x0 (x3 ++ [(⟨(⟨(rd_T49 x7 x9).f0, (rd_T49 x7 x9).f1⟩ : S49), (⟨(rd_T49 x0 (Int.tmod (wrap64 (x9 + 1)) (x0.length : Int))).f0, (rd_T49 x0 (Int.tmod (wrap64 (x9 + 1)) (x0.length : Int))).f1⟩ : S49)⟩ : S111)]) x7 x8 (wrap64 (x9 + 1))) else (none)) else (none)) else (none))) else (none)) else (none)) else (some x3)
def impl_around.f (k : Nat) (l0 : List (S49)) : Option ((List (S111))) := impl_around.l0 k l0 (([] : List (S111))) l0 (l0.length : Int) 0
def impl_around.T5 : Bool × List (List Nat × List Nat) := (true, [([], []), ([], []), ([], []), ([], []), ([3], [3]), ([], []), ([5], [5]), ([4, 6], [4, 6]), ([2, 7], [2, 7]), ([8], [8]), ([1, 9], [1, 9]), ([10], [10]), ([0, 11], [0, 11]), ([12, 12, 0, 1, 2, 3, 4, 5, 6, 7, 8, 9, 10, 11, 12], [0, 12])])
def impl_around.B5 : List Nat := [0, 0, 0, 0, 8, 0, 32, 120, 252, 508, 1022, 2046, 4095, 8191]
theorem impl_around.tab5 : rtab .any (opsOf Try.f101 5) = impl_around.T5 := by kernel_rfl
theorem impl_around.bits5 : waitsOk impl_around.T5.2 impl_around.B5 = true := by kernel_rfl
set_option maxHeartbeats 8000000 in
set_option maxRecDepth 100000 in
theorem impl_around.calls (k : Nat) (A0 : Option Addr) (c0 : Nat) (l0 : List (S49)) (r : List (S111)) (w : World) (hr0 : Kd.C k49 w A0 l0.length l0) (hc0 : l0.length ≤ c0) (h : impl_around.f k l0 = some r) :
  Calls Try.prog 101 #[.slice A0 l0.length c0] w fun e w' => ∃ v0_ : Value, e = .returned (v0_) ∧ Kd.R k111 111 w' w.heap.size (fun _ => True) v0_ r ∧ Below w.heap.size w w' := by
 have hu49 := Try.underlying49
 have hu111 := Try.underlying111
 have HR0 := Aside0.mk hr0
 have HC0 := Aside0.mk hc0
 clear hr0 hc0
 have HB := Aside0.mk (Below.refl w.heap.size w)
 have H : (impl_around.l0 k l0 (([] : List (S111))) l0 (l0.length : Int) 0) = some r := h
 clear h
 obtain ⟨y182, hy182⟩ : ∃ y_ : List (S111), y_ = (([] : List (S111))) := ⟨_, rfl⟩
 replace H : (impl_around.l0 k l0 y182 l0 (l0.length : Int) 0) = some r := by first | (rw [hy182]; with_reducible exact H) | (have H2_ := (Option.bind_some _ _).symm.trans H; rw [hy182]; with_reducible exact H2_) | (have H2_ := (Option.bind_some _ _).symm.trans H; with_reducible exact H2_) | with_reducible exact H | (rw [hy182]; exact H) | exact H
 have Ny182 := Aside0.mk hy182
 clear hy182
 have H' := Aside0.mk H
 clear H
 go_enter Try.func101, Try.ntmps101
 go_wp2_with (first | ((with_reducible refine gate_dst (N := 6) rfl ?_); refine Kd.R_lit k111 _ 111 ?hg (N := 6) ?hd (xs := ([] : List (S111))) (inner := []) (ok := fun _ => True) (okp := fun _ => True) ?hr ?hp (fun _ hk => hk) trivial (Below.refl _ _) (Nat.le_refl _) (by simp) ?_; (case hd => rfl); (case hg => rfl); (case hr => first | (go_simp; done) | (go_simp; rfl)); (case hp => exact (Reps.none _ _)); intro v183 w2 ho3 hb hg_ hnew_; clear hg_ hnew_; (first | rw [← Ny182.out] at ho3 | (simp only [Int.reduceToNat] at ho3; rw [← Ny182.out] at ho3)); have HO184 := Aside0.mk (Kd.R_lower ho3 (below_size Hd.b_)); replace HB := Aside0.mk (below_step Hd.b_ hb); clear hb ho3))
 go_loopg [3, 9] k (fun kq v3 v9 w' => ∃ (x3_1 : List (S111)) (x9_1 : Int), v9 = .int .i64 x9_1 ∧ Aside0 (impl_around.l0 kq l0 x3_1 l0 (l0.length : Int) x9_1 = some r) ∧ Aside0 (kq ≤ k) ∧ Aside0 (Kd.R k111 111 w' w.heap.size (fun _ => True) v3 x3_1) ∧ Aside0 (Below w.heap.size w w'))
 case atStart => exact ⟨(y182), (0), (by first | rfl | (simp; done) | (simp [*]; done)), H', ⟨Nat.le_refl _⟩, ⟨by (with_reducible repeat (first | apply Kd.R_alloc | apply Kd.R_drewN | apply Kd.R_drew)); exact HO184.out⟩, ⟨Hd.b_⟩⟩
 case round =>
  clear H'
  try clear c1
  try clear p2
  obtain ⟨x3_1, x9_1, rfl, HA, HK1, HO_3, HB⟩ := hrel
  cases gk with
  | zero => exact absurd HA.out (by simp [impl_around.l0])
  | succ k1 =>
   have H := HA.out
   clear HA
   simp only [impl_around.l0] at H
   by_cases c4 : x9_1 < (l0.length : Int)
   ·
    rw [if_pos c4] at H
    have c4b0 : decide (x9_1 < (l0.length : Int)) = true := decide_eq_true c4
    clear c4
    by_cases c5 : 0 ≤ x9_1
    ·
     rw [if_pos c5] at H
     have c5b0 : decide (0 ≤ x9_1) = true := decide_eq_true c5
     clear c5
     by_cases c6 : x9_1 < (l0.length : Int)
     ·
      rw [if_pos c6] at H
      have c6b0 : decide (x9_1 < (l0.length : Int)) = true := decide_eq_true c6
      clear c6
      by_cases c7 : (l0.length : Int) = 0
      ·
       rw [if_pos c7] at H
       exact absurd H (by simp)
      ·
       rw [if_neg c7] at H
       have c7b0 : ((l0.length : Int) == 0) = false := beq_eq_false_iff_ne.mpr c7
       have c7b1 : ((l0.length : Int) != 0) = true := bne_iff_ne.mpr c7
       have c7b2 : ¬ (l0 = []) := fun h_ => c7 (by rw [h_]; rfl)
       obtain ⟨ji8, hji8⟩ : ∃ j_ : Int, (Int.tmod (wrap64 (x9_1 + 1)) (l0.length : Int)) = j_ := ⟨_, rfl⟩
       replace H : (if 0 ≤ (ji8) then (if (ji8) < (l0.length : Int) then (if x3_1.length < 4398046511104 then (impl_around.l0 k1 l0 (x3_1 ++ [(⟨(⟨(rd_T49 l0 x9_1).f0, (rd_T49 l0 x9_1).f1⟩ : S49), (⟨(rd_T49 l0 (ji8)).f0, (rd_T49 l0 (ji8)).f1⟩ : S49)⟩ : S111)]) l0 (l0.length : Int) (wrap64 (x9_1 + 1))) else (none)) else (none)) else (none)) = some r := by first | (rw [hji8] at H; exact H) | (simp only [hji8] at H ⊢; exact H)
       by_cases c9 : 0 ≤ (ji8)
       ·
        rw [if_pos c9] at H
        have c9b0 : decide (0 ≤ (ji8)) = true := decide_eq_true c9
        clear c9
        by_cases c10 : (ji8) < (l0.length : Int)
        ·
         rw [if_pos c10] at H
         have c10b0 : decide ((ji8) < (l0.length : Int)) = true := decide_eq_true c10
         clear c10
         by_cases c11 : x3_1.length < 4398046511104
         ·
          rw [if_pos c11] at H
          have LMc11 := Aside0.mk c11
          clear c11
          obtain ⟨y188, hy188⟩ : ∃ y_ : List (S111), y_ = (x3_1 ++ [(⟨(⟨(rd_T49 l0 x9_1).f0, (rd_T49 l0 x9_1).f1⟩ : S49), (⟨(rd_T49 l0 (ji8)).f0, (rd_T49 l0 (ji8)).f1⟩ : S49)⟩ : S111)]) := ⟨_, rfl⟩
          replace H : (impl_around.l0 k1 l0 y188 l0 (l0.length : Int) (wrap64 (x9_1 + 1))) = some r := by first | (rw [hy188]; with_reducible exact H) | (have H2_ := (Option.bind_some _ _).symm.trans H; rw [hy188]; with_reducible exact H2_) | (have H2_ := (Option.bind_some _ _).symm.trans H; with_reducible exact H2_) | with_reducible exact H | (rw [hy188]; exact H) | exact H
          have Ny188 := Aside0.mk hy188
          clear hy188
          have H' := Aside0.mk H
          clear H
          have p185 : 0 ≤ (x9_1 : Int) := of_decide_eq_true Hd.a_
          have q185 : x9_1 < (l0.length : Int) := of_decide_eq_true Hd.a_
          obtain ⟨ad185, e185, hx185_0, hx185_1⟩ := at_T49 HR0.out x9_1 p185 q185
          cases e185
          replace hx185_0 := (HB.out.cell (World.block_lt_of_cell? w _ hx185_0)).trans hx185_0
          replace hx185_1 := (HB.out.cell (World.block_lt_of_cell? w _ hx185_1)).trans hx185_1
          replace p185 := eq_true p185
          replace q185 := eq_true q185
          try go_wp2_with (first | ((with_reducible refine gate_dst (N := 5) rfl ?_); refine Hd.box_ 5 (#[.int .i64 0, .int .i64 0]) 49 ?_; intro gb186 hg w12 hbox hb; replace HO_3 := Aside0.mk (Kd.R_below (Hd.r_ HO_3) hb); have BK186 := Aside0.mk (hbox); have GW186 := Aside0.mk ((Hd.g_ hg Hd.b_ : w.heap.size ≤ gb186)); have GE186 := Aside0.mk ((Hd.g_ hg Hd.b_ : w.heap.size ≤ gb186)); replace HB := Aside0.mk (below_step Hd.b_ hb); clear hb hbox hg; obtain ⟨hcz13_0, hcz13_1⟩ := Hd.c2_ BK186.out; obtain ⟨hfz13_0, hfz13_1⟩ := Hd.f2_ BK186.out))
          have n0_ : Aside0 (Kd.R k111 111 ((w12.setCell ⟨gb186, 0, none⟩ (.int .i64 ((rd_T49 l0 x9_1).f0))).setCell ⟨gb186, 1, none⟩ (.int .i64 ((rd_T49 l0 x9_1).f1))) w.heap.size (fun _ => True) u3 x3_1) := ⟨by (with_reducible repeat (first | apply Kd.R_alloc | apply Kd.R_drewN | apply Kd.R_drew)); exact Kd.R_mono (Kd.R_far (p := ⟨gb186, 1, none⟩) (Kd.R_far (p := ⟨gb186, 0, none⟩) (Kd.R_types HO_3.out BK186.out (by decide)) (fun _ hk => hk.2) (.int .i64 ((rd_T49 l0 x9_1).f0))) (fun _ hk => hk.2) (.int .i64 ((rd_T49 l0 x9_1).f1))) (fun _ hk => trivial)⟩
          have n1_ : Aside0 (((w12.setCell ⟨gb186, 0, none⟩ (.int .i64 ((rd_T49 l0 x9_1).f0))).setCell ⟨gb186, 1, none⟩ (.int .i64 ((rd_T49 l0 x9_1).f1))).heap[gb186]? = some (.cells #[.int .i64 ((rd_T49 l0 x9_1).f0), .int .i64 ((rd_T49 l0 x9_1).f1)] 49 (0, 0))) := ⟨by (with_reducible repeat (first | refine blk_drewN ?_ _ | refine blk_drew ?_ | refine blk_alloc ?_ _)); refine blk_put (cs := #[.int .i64 ((rd_T49 l0 x9_1).f0), .int .i64 0]) ?_ 1 _ rfl; (with_reducible repeat (first | refine blk_drewN ?_ _ | refine blk_drew ?_ | refine blk_alloc ?_ _)); refine blk_put (cs := #[.int .i64 0, .int .i64 0]) ?_ 0 _ rfl; (with_reducible repeat (first | refine blk_drewN ?_ _ | refine blk_drew ?_ | refine blk_alloc ?_ _)); exact BK186.out⟩
          have n2_ : Aside0 (Below w.heap.size w ((w12.setCell ⟨gb186, 0, none⟩ (.int .i64 ((rd_T49 l0 x9_1).f0))).setCell ⟨gb186, 1, none⟩ (.int .i64 ((rd_T49 l0 x9_1).f1)))) := ⟨Hd.b_⟩
          (try clear HO_3)
          (try clear BK186)
          (try clear HB)
          generalize ((w12.setCell ⟨gb186, 0, none⟩ (.int .i64 ((rd_T49 l0 x9_1).f0))).setCell ⟨gb186, 1, none⟩ (.int .i64 ((rd_T49 l0 x9_1).f1))) = w14 at n0_ n1_ n2_ ⊢
          have HO_3 := n0_
          have BK186 := n1_
          have HB := n2_
          clear n0_ n1_ n2_
          replace HO_3 := Aside0.mk (Kd.R_drew HO_3.out)
          replace BK186 := Aside0.mk (blk_drew BK186.out)
          replace HB := Aside0.mk (below_drew1 HB.out)
          have p187 : 0 ≤ ((ji8) : Int) := of_decide_eq_true Hd.a_
          have q187 : (ji8) < (l0.length : Int) := of_decide_eq_true Hd.a_
          obtain ⟨ad187, e187, hx187_0, hx187_1⟩ := at_T49 HR0.out (ji8) p187 q187
          have hw187_1 := hx187_1
          have hw187_0 := hx187_0
          obtain rfl : ad185 = ad187 := (by injection e187)
          replace hx187_0 := (HB.out.cell (World.block_lt_of_cell? w _ hx187_0)).trans hx187_0
          replace hx187_1 := (HB.out.cell (World.block_lt_of_cell? w _ hx187_1)).trans hx187_1
          replace p187 := eq_true p187
          replace q187 := eq_true q187
          refine start_ (n := 14) (S := fun w' => w'.cell? ⟨gb186, 0, none⟩ = some (.int .i64 ((rd_T49 l0 x9_1).f0)) ∧ w'.cell? ⟨gb186, 1, none⟩ = some (.int .i64 ((rd_T49 l0 x9_1).f1)) ∧ w'.cell? (ad185.add (((ji8)).toNat * 2)) = some (.int .i64 ((rd_T49 l0 (ji8)).f0)) ∧ w'.cell? ⟨(ad185.add (((ji8)).toNat * 2)).block, (ad185.add (((ji8)).toNat * 2)).off + 1, none⟩ = some (.int .i64 ((rd_T49 l0 (ji8)).f1))) (ds := []) #[false, false, false, false, false, false, false, false, false, false, false, false, false, false] (by kernel_rfl) rfl rfl ⟨(blk_cell BK186.out 0).trans rfl, (blk_cell BK186.out 1).trans rfl, ((HB.out.cell (World.block_lt_of_cell? w _ hw187_0)).trans hw187_0), ((HB.out.cell (World.block_lt_of_cell? w _ hw187_1)).trans hw187_1)⟩ (fun hHeld => ?_); refine with_tabW impl_around.tab5 impl_around.bits5 (fun HT_ HW_ => ?_)
          generalize w14.drew = w15 at HO_3 BK186 HB hx187_0 hx187_1 hHeld ⊢
          refine Hd.p_ HT_ 0 (some 14) #[true, false, false, false, false, false, false, false, false, false, false, false, false, false] ?_
          refine Hd.p_ HT_ 2 (some 16) #[true, false, true, false, false, false, false, false, false, false, false, false, false, false] ?_
          refine Hd.p_ HT_ 3 (some 17) #[true, false, true, true, false, false, false, false, false, false, false, false, false, false] ?_
          refine Hd.p_ HT_ 4 (some 18) #[true, false, true, true, true, false, false, false, false, false, false, false, false, false] ?_
          refine Hd.p_ HT_ 5 (some 19) #[true, false, true, true, true, true, false, false, false, false, false, false, false, false] ?_
          refine Hd.p_ HT_ 6 (some 20) #[true, false, true, true, true, true, true, false, false, false, false, false, false, false] ?_
          refine Hd.p_ HT_ 7 (some 21) #[true, false, true, true, true, true, true, true, false, false, false, false, false, false] ?_
          refine Hd.p_ HT_ 8 (some 22) #[true, false, true, true, true, true, true, true, true, false, false, false, false, false] ?_
          refine Hd.t_ HT_ HW_ hHeld 1 (some 15) #[true, true, true, true, true, true, true, true, true, false, false, false, false, false] ?_
          refine Hd.t_ HT_ HW_ hHeld 9 (some 23) #[true, true, true, true, true, true, true, true, true, true, false, false, false, false] ?_
          refine Hd.p_ HT_ 10 (some 24) #[true, true, true, true, true, true, true, true, true, true, true, false, false, false] ?_
          refine Hd.o_ HT_ 11 (some 25) #[true, true, true, true, true, true, true, true, true, true, true, true, false, false] (fun K hK => ?_)
          refine value_ (w1 := ?_) (v := ?_) (by rfl) rfl ?_ ?_
          rotate_left 2
          ·
           go_simp
           constructor
           ·
            rfl
           ·
            rfl
          refine hK.out _ _ ⟨(blk_cell (blk_alloc BK186.out _) 0).trans rfl, (blk_cell (blk_alloc BK186.out _) 1).trans rfl, (World.cell?_alloc_lt _ _ _ (World.block_lt_of_cell? _ _ (((HB.out.cell (World.block_lt_of_cell? w _ hw187_0)).trans hw187_0)))).trans (((HB.out.cell (World.block_lt_of_cell? w _ hw187_0)).trans hw187_0)), (World.cell?_alloc_lt _ _ _ (World.block_lt_of_cell? _ _ (((HB.out.cell (World.block_lt_of_cell? w _ hw187_1)).trans hw187_1)))).trans (((HB.out.cell (World.block_lt_of_cell? w _ hw187_1)).trans hw187_1))⟩ (fun hHeld => ?_)
          clear hK K
          refine Hd.n_ (some 25) ?_
          refine Hd.o_ HT_ 12 (some 26) #[true, true, true, true, true, true, true, true, true, true, true, true, true, false] (fun K hK => ?_)
          refine Kd.R_append_step k111 (w0 := w) w.heap.size (by rfl) (.tmp 14) (.tmp 25) 91 111 (.agg #[(.int .i64 0), (.int .i64 0), (.int .i64 0), (.int .i64 0)]) 32 rfl Try.underlying91 info111 rfl (by decide) (by omega) u3 x3_1 (⟨(⟨(rd_T49 l0 x9_1).f0, (rd_T49 l0 x9_1).f1⟩ : S49), (⟨(rd_T49 l0 (ji8)).f0, (rd_T49 l0 (ji8)).f1⟩ : S49)⟩ : S111) [.int .i64 ((rd_T49 l0 x9_1).f0), .int .i64 ((rd_T49 l0 x9_1).f1), .int .i64 ((rd_T49 l0 (ji8)).f0), .int .i64 ((rd_T49 l0 (ji8)).f1)] (fun _ => True) (fun _ => False) rfl rfl ?aP (fun _ hk => hk.elim) ?aF ?aO ?aB ?aS ?aL ?_
          (case aP => exact k111_mkM _ _ _ (⟨(⟨(rd_T49 l0 x9_1).f0, (rd_T49 l0 x9_1).f1⟩ : S49), (⟨(rd_T49 l0 (ji8)).f0, (rd_T49 l0 (ji8)).f1⟩ : S49)⟩ : S111))
          (case aB => exact Hd.b_)
          (case aF => exact (fun _ _ => trivial))
          (case aO => exact (Hd.r_ HO_3))
          (case aS => exact (below_size Hd.b_))
          (case aL => have := LMc11.out; omega)
          intro v189 w16 ho hb hg hat
          rw [← Ny188.out] at ho
          have n0_ := Aside0.mk (blk_grown (g := gb186) (o := .cells #[.int .i64 ((rd_T49 l0 x9_1).f0), .int .i64 ((rd_T49 l0 x9_1).f1)] 49 (0, 0)) (Hd.k_ BK186) hg (Kd.R_ne HO_3.out BK186.out (by decide)))
          have n1_ := Aside0.mk (hb)
          have n2_ := Aside0.mk (ho)
          clear BK186
          clear HB
          clear HO_3
          have BK186 := n0_
          have HB := n1_
          have HO190 := n2_
          clear n0_ n1_ n2_
          clear ho hb hg hat
          refine hK.out _ _ ⟨(blk_cell BK186.out 0).trans rfl, (blk_cell BK186.out 1).trans rfl, ((HB.out.cell (World.block_lt_of_cell? w _ hw187_0)).trans hw187_0), ((HB.out.cell (World.block_lt_of_cell? w _ hw187_1)).trans hw187_1)⟩ (fun hHeld => ?_)
          clear hK K
          refine Hd.n_ (some 26) ?_
          refine Hd.p_ HT_ 13 (some 3) #[true, true, true, true, true, true, true, true, true, true, true, true, true, true] ?_
          refine done_ (done_of HT_.out (by kernel_rfl)) ?_
          try go_wp2
          go_roundg k1
          case measure => have := HK1.out; omega
          case rel => exact ⟨(y188), (wrap64 (x9_1 + 1)), (by first | rfl | (simp; done) | (simp [*]; done)), H', ⟨by have := HK1.out; omega⟩, ⟨by (with_reducible repeat (first | apply Kd.R_alloc | apply Kd.R_drewN | apply Kd.R_drew)); exact HO190.out⟩, ⟨Hd.b_⟩⟩
         ·
          rw [if_neg c11] at H
          exact absurd H (by simp)
        ·
         rw [if_neg c10] at H
         exact absurd H (by simp)
       ·
        rw [if_neg c9] at H
        exact absurd H (by simp)
     ·
      rw [if_neg c6] at H
      exact absurd H (by simp)
    ·
     rw [if_neg c5] at H
     exact absurd H (by simp)
   ·
    rw [if_neg c4] at H
    have c4b0 : decide (x9_1 < (l0.length : Int)) = false := decide_eq_false c4
    clear c4
    obtain rfl := Option.some.inj H
    go_wp2
    go_ret
    exact ⟨_, Hd.e_, by (with_reducible repeat (first | apply Kd.R_alloc | apply Kd.R_drewN | apply Kd.R_drew)); exact HO_3.out, Hd.b_⟩
mutual
def impl_IsRing.j0 : Nat → List (S49) → Bool → Option (Bool)
 | 0, _, _ => none
 | k + 1, x0, x14 => if x14 = true then (some false) else ((impl_around.f k x0).bind fun t191 => (impl_IsRing.l0 k t191 (t191.length : Int) 0))
def impl_IsRing.l0 : Nat → List (S111) → Int → Int → Option (Bool)
 | 0, _, _, _ => none
 | k + 1, x3, x18, x19 => if x19 < x18 then (if 0 ≤ x19 then (if x19 < (x3.length : Int) then ((impl_IsSegment.f ((rd_T111 x3 x19).f0.f0) ((rd_T111 x3 x19).f0.f1) ((rd_T111 x3 x19).f1.f0) ((rd_T111 x3 x19).f1.f1)).bind fun t195 => (if t195 = true then (impl_IsRing.l1 k x3 x19 x18 x19 x19 0) else (some false))) else (none)) else (none)) else (some true)
def impl_IsRing.l1 : Nat → List (S111) → Int → Int → Int → Int → Int → Option (Bool)
 | 0, _, _, _, _, _, _ => none
 | k + 1, x3, x4, x18, x19, x28, x29 => if x29 < x28 then (if x29 = (wrap64 (x4 - 1)) then (impl_IsRing.j3 k x3 x4 x29 0 x18 x19 x28 x29 true) else (if x29 = 0 then (impl_IsRing.j3 k x3 x4 x29 0 x18 x19 x28 x29 (x4 == (wrap64 ((x3.length : Int) - 1)))) else (impl_IsRing.j3 k x3 x4 x29 0 x18 x19 x28 x29 false))) else (impl_IsRing.l0 k x3 x18 (wrap64 (x19 + 1)))
def impl_IsRing.j3 : Nat → List (S111) → Int → Int → Int → Int → Int → Int → Int → Bool → Option (Bool)
 | 0, _, _, _, _, _, _, _, _, _ => none
 | k + 1, x3, x4, x5, x6, x18, x19, x28, x29, x46 => if x46 = true then (if 0 ≤ x4 then (if x4 < (x3.length : Int) then (if 0 ≤ x5 then (if x5 < (x3.length : Int) then ((impl_HowMeet.f k ((rd_T111 x3 x4).f0.f0) ((rd_T111 x3 x4).f0.f1) ((rd_T111 x3 x4).f1.f0) ((rd_T111 x3 x4).f1.f1) ((rd_T111 x3 x5).f0.f0) ((rd_T111 x3 x5).f0.f1) ((rd_T111 x3 x5).f1.f0) ((rd_T111 x3 x5).f1.f1)).bind fun t198 => (if t198 = 1 then (impl_IsRing.l1 k x3 x4 x18 x19 x28 (wrap64 (x29 + 1))) else (some false))) else (none)) else (none)) else (none)) else (none)) else (if 0 ≤ x4 then (if x4 < (x3.length : Int) then (if 0 ≤ x5 then (if x5 < (x3.length : Int) then ((impl_HowMeet.f k ((rd_T111 x3 x4).f0.f0) ((rd_T111 x3 x4).f0.f1) ((rd_T111 x3 x4).f1.f0) ((rd_T111 x3 x4).f1.f1) ((rd_T111 x3 x5).f0.f0) ((rd_T111 x3 x5).f0.f1) ((rd_T111 x3 x5).f1.f0) ((rd_T111 x3 x5).f1.f1)).bind fun t201 => (if t201 = x6 then (impl_IsRing.l1 k x3 x4 x18 x19 x28 (wrap64 (x29 + 1))) else (some false))) else (none)) else (none)) else (none)) else (none))
end
def impl_IsRing.f (k : Nat) (l0 : List (S49)) : Option (Bool) := if (l0.length : Int) < 3 then (impl_IsRing.j0 k l0 true) else (impl_IsRing.j0 k l0 (decide ((l0.length : Int) > 10)))
set_option maxHeartbeats 8000000 in
set_option maxRecDepth 100000 in
theorem impl_IsRing.calls (k : Nat) (A0 : Option Addr) (c0 : Nat) (l0 : List (S49)) (r : Bool) (w : World) (hr0 : Kd.C k49 w A0 l0.length l0) (hc0 : l0.length ≤ c0) (h : impl_IsRing.f k l0 = some r) :
  Calls Try.prog 44 #[.slice A0 l0.length c0] w fun e w' => e = .returned (.bool r) ∧ Below w.heap.size w w' := by
 have hu111 := Try.underlying111
 have HR0 := Aside0.mk hr0
 have HC0 := Aside0.mk hc0
 clear hr0 hc0
 have HB := Aside0.mk (Below.refl w.heap.size w)
 have H : (if (l0.length : Int) < 3 then (impl_IsRing.j0 k l0 true) else (impl_IsRing.j0 k l0 (decide ((l0.length : Int) > 10)))) = some r := h
 clear h
 have HC2 := Aside0.mk H
 clear H
 go_enter Try.func44, Try.ntmps44
 go_upto_region 1 with (fail)
 go_cut [14] (fun v14 wc => ∃ (kq : Nat) (x14_1 : Bool), v14 = .bool x14_1 ∧ Aside0 (impl_IsRing.j0 kq l0 x14_1 = some r) ∧ Aside0 (kq ≤ k) ∧ Aside0 (Below w.heap.size w wc))
 case first =>
  have H := HC2.out
  clear HC2
  by_cases c3 : (l0.length : Int) < 3
  ·
   rw [if_pos c3] at H
   have c3b0 : decide ((l0.length : Int) < 3) = true := decide_eq_true c3
   have c3b1 : decide (l0.length < 3) = true := decide_eq_true (by omega)
   clear c3
   (first | rw [c3b0] | (simp only [i64_w, i32_w]; rw [c3b0]) | skip)
   have H' := Aside0.mk H
   clear H
   go_wp2
   go_meet
   case rel => exact ⟨_, (true), (by first | rfl | (simp; done) | (simp [*]; done)), H', ⟨by first | omega | exact Nat.le_refl _⟩, ⟨Hd.b_⟩⟩
  ·
   rw [if_neg c3] at H
   have c3b0 : decide ((l0.length : Int) < 3) = false := decide_eq_false c3
   have c3b1 : decide (l0.length < 3) = false := decide_eq_false (by omega)
   clear c3
   (first | rw [c3b0] | (simp only [i64_w, i32_w]; rw [c3b0]) | skip)
   have H' := Aside0.mk H
   clear H
   go_wp2
   go_meet
   case rel => exact ⟨_, (decide ((l0.length : Int) > 10)), (by first | rfl | (simp; done) | (simp [*]; done)), H', ⟨by first | omega | exact Nat.le_refl _⟩, ⟨Hd.b_⟩⟩
 case rest =>
  clear HC2
  try clear p2
  try clear c3
  try clear c3b0
  try clear c3b1
  obtain ⟨kq, x14_1, rfl, HA, HJ1, HB⟩ := hcut
  cases kq with
  | zero => exact absurd HA.out (by simp [impl_IsRing.j0])
  | succ kj1 =>
   have H := HA.out
   clear HA
   simp only [impl_IsRing.j0] at H
   by_cases c4 : x14_1 = true
   ·
    subst c4
    have H1 : (some false) = some r := by rw [if_pos rfl] at H; exact H
    clear H
    have H := H1
    clear H1
    obtain rfl := Option.some.inj H
    go_wp2
    go_ret
    exact ⟨Hd.e_, Hd.b_⟩
   ·
    replace c4 := Bool.eq_false_iff.mpr c4
    subst c4
    have H1 : ((impl_around.f kj1 l0).bind fun t191 => (impl_IsRing.l0 kj1 t191 (t191.length : Int) 0)) = some r := by rw [if_neg (show ¬ (false = true) by decide)] at H; exact H
    clear H
    have H := H1
    clear H1
    replace H := Option.bind_eq_some_iff.mp H
    obtain ⟨t191, A50, H⟩ := H
    replace H : (impl_IsRing.l0 kj1 t191 (t191.length : Int) 0) = some r := H
    have A5 := Aside0.mk A50
    clear A50
    have H' := Aside0.mk H
    clear H
    go_wp2_with (first | ((with_reducible refine gate_callee (f := 101) rfl ?_); refine goesL_ (some 16) rfl rfl Try.func101 (by kernel_rfl) rfl #[.slice A0 l0.length c0] rfl Hd.m_ ?_; (with_reducible refine (impl_around.calls kj1 _ _ l0 t191 _ ?side1 ?side2 A5.out).mono ?_); (case side1 => repeat (first | exact (Kd.C_below HR0.out HB.out) | (with_reducible refine Kd.C_alloc ?_ _) | (with_reducible refine Kd.C_drewN ?_ _) | (with_reducible refine Kd.C_drew ?_))); (case side2 => exact HC0.out); rintro e w6 ⟨v192, rfl, ho0, hb⟩; refine ⟨_, rfl, ?_⟩; have HO193 := Aside0.mk (Kd.R_lower ho0 (below_size Hd.b_)); replace HB := Aside0.mk (below_step Hd.b_ hb); (try clear hb); (try clear hb2); (try clear hk); (try clear hi); (try clear ho0); obtain ⟨Ao7, co7, eo7⟩ := Kd.R_slice HO193.out; subst eo7))
    go_loopg [19] kj1 (fun kq v19 w' => ∃ (x19_2 : Int), v19 = .int .i64 x19_2 ∧ Aside0 (impl_IsRing.l0 kq t191 (t191.length : Int) x19_2 = some r) ∧ Aside0 (kq ≤ kj1) ∧ Aside0 (Kd.R k111 111 w' w.heap.size (fun _ => True) (.slice Ao7 t191.length co7) t191) ∧ Aside0 (Below w.heap.size w w'))
    case atStart => exact ⟨(0), (by first | rfl | (simp; done) | (simp [*]; done)), H', ⟨Nat.le_refl _⟩, ⟨by (with_reducible repeat (first | apply Kd.R_alloc | apply Kd.R_drewN | apply Kd.R_drew)); exact HO193.out⟩, ⟨Hd.b_⟩⟩
    case round =>
     clear H'
     try clear c1
     try clear p2
     try clear c3
     try clear c3b0
     try clear c3b1
     try clear c4
     try clear p2
     obtain ⟨x19_2, rfl, HA, HK2, HO_3, HB⟩ := hrel
     cases gk with
     | zero => exact absurd HA.out (by simp [impl_IsRing.l0])
     | succ k2 =>
      have H := HA.out
      clear HA
      simp only [impl_IsRing.l0] at H
      by_cases c8 : x19_2 < (t191.length : Int)
      ·
       rw [if_pos c8] at H
       have c8b0 : decide (x19_2 < (t191.length : Int)) = true := decide_eq_true c8
       clear c8
       by_cases c9 : 0 ≤ x19_2
       ·
        rw [if_pos c9] at H
        have c9b0 : decide (0 ≤ x19_2) = true := decide_eq_true c9
        clear c9
        by_cases c10 : x19_2 < (t191.length : Int)
        ·
         rw [if_pos c10] at H
         have c10b0 : decide (x19_2 < (t191.length : Int)) = true := decide_eq_true c10
         clear c10
         replace H := Option.bind_eq_some_iff.mp H
         obtain ⟨t195, A110, H⟩ := H
         replace H : (if t195 = true then (impl_IsRing.l1 k2 t191 x19_2 (t191.length : Int) x19_2 x19_2 0) else (some false)) = some r := H
         have A11 := Aside0.mk A110
         clear A110
         by_cases c12 : t195 = true
         ·
          subst c12
          have H1 : (impl_IsRing.l1 k2 t191 x19_2 (t191.length : Int) x19_2 x19_2 0) = some r := by rw [if_pos rfl] at H; exact H
          clear H
          have H := H1
          clear H1
          have H' := Aside0.mk H
          clear H
          have p194 : 0 ≤ (x19_2 : Int) := of_decide_eq_true Hd.a_
          have q194 : x19_2 < (t191.length : Int) := of_decide_eq_true Hd.a_
          obtain ⟨ad194, e194, hx194_0, hx194_1, hx194_2, hx194_3⟩ := at_T111 (Kd.R_reads' HO_3.out).2.2 x19_2 p194 q194
          cases e194
          replace p194 := eq_true p194
          replace q194 := eq_true q194
          go_wp2_with (first | ((with_reducible refine gate_callee (f := 102) rfl ?_); refine goesL_ (some 26) rfl rfl Try.func102 (by kernel_rfl) rfl #[.agg #[.int .i64 ((rd_T111 t191 x19_2).f0.f0), .int .i64 ((rd_T111 t191 x19_2).f0.f1), .int .i64 ((rd_T111 t191 x19_2).f1.f0), .int .i64 ((rd_T111 t191 x19_2).f1.f1)]] rfl Hd.m_ ?_; (with_reducible refine (impl_IsSegment.calls ((rd_T111 t191 x19_2).f0.f0) ((rd_T111 t191 x19_2).f0.f1) ((rd_T111 t191 x19_2).f1.f0) ((rd_T111 t191 x19_2).f1.f1) true _ A11.out).mono ?_); rintro e w13 ⟨rfl, hb⟩; refine ⟨_, rfl, ?_⟩; replace HO_3 := Aside0.mk (Kd.R_below (Hd.r_ HO_3) hb); replace HB := Aside0.mk (below_step Hd.b_ hb); (try clear hb); (try clear hb2); (try clear hk); (try clear hi)))
          go_loopg [29] k2 (fun kq v29 w' => ∃ (x29_3 : Int), v29 = .int .i64 x29_3 ∧ Aside0 (impl_IsRing.l1 kq t191 x19_2 (t191.length : Int) x19_2 x19_2 x29_3 = some r) ∧ Aside0 (kq ≤ k2) ∧ Aside0 (Kd.R k111 111 w' w.heap.size (fun _ => True) (.slice (some ad194) t191.length co7) t191) ∧ Aside0 (Below w.heap.size w w'))
          case atStart => exact ⟨(0), (by first | rfl | (simp; done) | (simp [*]; done)), H', ⟨Nat.le_refl _⟩, ⟨by (with_reducible repeat (first | apply Kd.R_alloc | apply Kd.R_drewN | apply Kd.R_drew)); exact HO_3.out⟩, ⟨Hd.b_⟩⟩
          case round =>
           clear H'
           try clear c1
           try clear p1
           try clear q1
           try clear hx1
           try clear p2
           try clear c3
           try clear c3b0
           try clear c3b1
           try clear c4
           try clear c8
           try clear c8b0
           try clear c9
           try clear c9b0
           try clear c10
           try clear c10b0
           try clear c12
           try clear hx194_0
           try clear hx194_1
           try clear hx194_2
           try clear hx194_3
           try clear p194
           try clear p2
           try clear q194
           obtain ⟨x29_3, rfl, HA, HK3, HO_3, HB⟩ := hrel
           cases gk with
           | zero => exact absurd HA.out (by simp [impl_IsRing.l1])
           | succ k3 =>
            have H := HA.out
            clear HA
            simp only [impl_IsRing.l1] at H
            by_cases c14 : x29_3 < x19_2
            ·
             rw [if_pos c14] at H
             have c14b0 : decide (x29_3 < x19_2) = true := decide_eq_true c14
             clear c14
             have HC15 := Aside0.mk H
             clear H
             go_upto_region 13 with (fail)
             go_cut [46] (fun v46 wc => ∃ (kq : Nat) (x46_14 : Bool), v46 = .bool x46_14 ∧ Aside0 (impl_IsRing.j3 kq t191 x19_2 x29_3 0 (t191.length : Int) x19_2 x19_2 x29_3 x46_14 = some r) ∧ Aside0 (kq ≤ k3) ∧ Aside0 (Kd.R k111 111 wc w.heap.size (fun _ => True) (.slice (some ad194) t191.length co7) t191) ∧ Aside0 (Below w.heap.size w wc))
             case first =>
              have H := HC15.out
              clear HC15
              by_cases c16 : x29_3 = (wrap64 (x19_2 - 1))
              ·
               rw [if_pos c16] at H
               have c16b0 : (x29_3 == (wrap64 (x19_2 - 1))) = true := beq_iff_eq.mpr c16
               have c16b1 : (x29_3 != (wrap64 (x19_2 - 1))) = false := bne_eq_false_iff_eq.mpr c16
               clear c16
               (first | rw [c16b0] | (simp only [i64_w, i32_w]; rw [c16b0]) | skip)
               have H' := Aside0.mk H
               clear H
               go_wp2
               go_meet
               case rel => exact ⟨_, (true), (by first | rfl | (simp; done) | (simp [*]; done)), H', ⟨by have := HJ1.out; have := HK2.out; have := HK3.out; first | omega | exact Nat.le_refl _⟩, ⟨by (with_reducible repeat (first | apply Kd.R_alloc | apply Kd.R_drewN | apply Kd.R_drew)); exact HO_3.out⟩, ⟨Hd.b_⟩⟩
              ·
               rw [if_neg c16] at H
               have c16b0 : (x29_3 == (wrap64 (x19_2 - 1))) = false := beq_eq_false_iff_ne.mpr c16
               have c16b1 : (x29_3 != (wrap64 (x19_2 - 1))) = true := bne_iff_ne.mpr c16
               (first | rw [c16b0] | (simp only [i64_w, i32_w]; rw [c16b0]) | skip)
               by_cases c17 : x29_3 = 0
               ·
                rw [if_pos c17] at H
                have c17b0 : (x29_3 == 0) = true := beq_iff_eq.mpr c17
                have c17b1 : (x29_3 != 0) = false := bne_eq_false_iff_eq.mpr c17
                clear c17
                have H' := Aside0.mk H
                clear H
                go_wp2
                go_meet
                case rel => exact ⟨_, ((x19_2 == (wrap64 ((t191.length : Int) - 1)))), (by first | rfl | (simp; done) | (simp [*]; done)), H', ⟨by have := HJ1.out; have := HK2.out; have := HK3.out; first | omega | exact Nat.le_refl _⟩, ⟨by (with_reducible repeat (first | apply Kd.R_alloc | apply Kd.R_drewN | apply Kd.R_drew)); exact HO_3.out⟩, ⟨Hd.b_⟩⟩
               ·
                rw [if_neg c17] at H
                have c17b0 : (x29_3 == 0) = false := beq_eq_false_iff_ne.mpr c17
                have c17b1 : (x29_3 != 0) = true := bne_iff_ne.mpr c17
                have H' := Aside0.mk H
                clear H
                go_wp2
                go_meet
                case rel => exact ⟨_, (false), (by first | rfl | (simp; done) | (simp [*]; done)), H', ⟨by have := HJ1.out; have := HK2.out; have := HK3.out; first | omega | exact Nat.le_refl _⟩, ⟨by (with_reducible repeat (first | apply Kd.R_alloc | apply Kd.R_drewN | apply Kd.R_drew)); exact HO_3.out⟩, ⟨Hd.b_⟩⟩
             case rest =>
              clear HC15
              try clear c1
              try clear p1
              try clear q1
              try clear hx1
              try clear p2
              try clear c3
              try clear c3b0
              try clear c3b1
              try clear c4
              try clear p6
              try clear c8
              try clear c8b0
              try clear c9
              try clear c9b0
              try clear c10
              try clear c10b0
              try clear c12
              try clear c14
              try clear c14b0
              try clear c16
              try clear c16b0
              try clear c16b1
              try clear c17
              try clear c17b0
              try clear c17b1
              try clear hx194_0
              try clear hx194_1
              try clear hx194_2
              try clear hx194_3
              try clear p1
              try clear p194
              try clear p2
              try clear q1
              try clear q194
              obtain ⟨kq, x46_14, rfl, HA, HJ14, HO_3, HB⟩ := hcut
              cases kq with
              | zero => exact absurd HA.out (by simp [impl_IsRing.j3])
              | succ kj14 =>
               have H := HA.out
               clear HA
               simp only [impl_IsRing.j3] at H
               by_cases c18 : x46_14 = true
               ·
                subst c18
                have H1 : (if 0 ≤ x19_2 then (if x19_2 < (t191.length : Int) then (if 0 ≤ x29_3 then (if x29_3 < (t191.length : Int) then ((impl_HowMeet.f kj14 ((rd_T111 t191 x19_2).f0.f0) ((rd_T111 t191 x19_2).f0.f1) ((rd_T111 t191 x19_2).f1.f0) ((rd_T111 t191 x19_2).f1.f1) ((rd_T111 t191 x29_3).f0.f0) ((rd_T111 t191 x29_3).f0.f1) ((rd_T111 t191 x29_3).f1.f0) ((rd_T111 t191 x29_3).f1.f1)).bind fun t198 => (if t198 = 1 then (impl_IsRing.l1 kj14 t191 x19_2 (t191.length : Int) x19_2 x19_2 (wrap64 (x29_3 + 1))) else (some false))) else (none)) else (none)) else (none)) else (none)) = some r := by rw [if_pos rfl] at H; exact H
                clear H
                have H := H1
                clear H1
                by_cases c19 : 0 ≤ x19_2
                ·
                 rw [if_pos c19] at H
                 have c19b0 : decide (0 ≤ x19_2) = true := decide_eq_true c19
                 clear c19
                 by_cases c20 : x19_2 < (t191.length : Int)
                 ·
                  rw [if_pos c20] at H
                  have c20b0 : decide (x19_2 < (t191.length : Int)) = true := decide_eq_true c20
                  clear c20
                  by_cases c21 : 0 ≤ x29_3
                  ·
                   rw [if_pos c21] at H
                   have c21b0 : decide (0 ≤ x29_3) = true := decide_eq_true c21
                   clear c21
                   by_cases c22 : x29_3 < (t191.length : Int)
                   ·
                    rw [if_pos c22] at H
                    have c22b0 : decide (x29_3 < (t191.length : Int)) = true := decide_eq_true c22
                    clear c22
                    replace H := Option.bind_eq_some_iff.mp H
                    obtain ⟨t198, A230, H⟩ := H
                    replace H : (if t198 = 1 then (impl_IsRing.l1 kj14 t191 x19_2 (t191.length : Int) x19_2 x19_2 (wrap64 (x29_3 + 1))) else (some false)) = some r := H
                    have A23 := Aside0.mk A230
                    clear A230
                    by_cases c24 : t198 = 1
                    ·
                     rw [if_pos c24] at H
                     have c24b0 : (t198 == 1) = true := beq_iff_eq.mpr c24
                     have c24b1 : (t198 != 1) = false := bne_eq_false_iff_eq.mpr c24
                     clear c24
                     have H' := Aside0.mk H
                     clear H
                     try go_wp2
                     replace HO_3 := Aside0.mk (Kd.R_drew HO_3.out)
                     replace HB := Aside0.mk (below_drew1 HB.out)
                     have p196 : 0 ≤ (x19_2 : Int) := of_decide_eq_true Hd.a_
                     have q196 : x19_2 < (t191.length : Int) := of_decide_eq_true Hd.a_
                     obtain ⟨ad196, e196, hx196_0, hx196_1, hx196_2, hx196_3⟩ := at_T111 (Kd.R_reads' HO_3.out).2.2 x19_2 p196 q196
                     obtain rfl : ad194 = ad196 := (by injection e196)
                     replace p196 := eq_true p196
                     replace q196 := eq_true q196
                     have p197 : 0 ≤ (x29_3 : Int) := of_decide_eq_true Hd.a_
                     have q197 : x29_3 < (t191.length : Int) := of_decide_eq_true Hd.a_
                     obtain ⟨ad197, e197, hx197_0, hx197_1, hx197_2, hx197_3⟩ := at_T111 (Kd.R_reads' HO_3.out).2.2 x29_3 p197 q197
                     obtain rfl : ad194 = ad197 := (by injection e197)
                     replace p197 := eq_true p197
                     replace q197 := eq_true q197
                     have s0_ := Hd.HW.x (W0 := wc.drew) hx196_0
                     have s1_ := Hd.HW.x (W0 := wc.drew) hx196_1
                     have s2_ := Hd.HW.x (W0 := wc.drew) hx196_2
                     have s3_ := Hd.HW.x (W0 := wc.drew) hx196_3
                     have s4_ := Hd.HW.x (W0 := wc.drew) hx197_0
                     have s5_ := Hd.HW.x (W0 := wc.drew) hx197_1
                     have s6_ := Hd.HW.x (W0 := wc.drew) hx197_2
                     have s7_ := Hd.HW.x (W0 := wc.drew) hx197_3
                     refine Hd.HW.region (by kernel_rfl) (by kernel_rfl) ?_
                     repeat (go_big_quiet_step ((first | (go_at_call 96; with_reducible exact Hd.HW.c (impl_HowMeet.calls kj14 ((rd_T111 t191 x19_2).f0.f0) ((rd_T111 t191 x19_2).f0.f1) ((rd_T111 t191 x19_2).f1.f0) ((rd_T111 t191 x19_2).f1.f1) ((rd_T111 t191 x29_3).f0.f0) ((rd_T111 t191 x29_3).f0.f1) ((rd_T111 t191 x29_3).f1.f0) ((rd_T111 t191 x29_3).f1.f1) t198 _ A23.out)))))
                     refine wpQuiet_nil ?_
                     intro _ hq_
                     obtain ⟨q_, rfl⟩ := hq_
                     clear s0_ s1_ s2_ s3_ s4_ s5_ s6_ s7_
                     replace HO_3 := Aside0.mk (Kd.R_below HO_3.out q_.b)
                     replace HB := Aside0.mk (below_step HB.out q_.b)
                     replace hx196_0 := q_.cell hx196_0
                     replace hx196_1 := q_.cell hx196_1
                     replace hx196_2 := q_.cell hx196_2
                     replace hx196_3 := q_.cell hx196_3
                     replace hx197_0 := q_.cell hx197_0
                     replace hx197_1 := q_.cell hx197_1
                     replace hx197_2 := q_.cell hx197_2
                     replace hx197_3 := q_.cell hx197_3
                     generalize q_.W = w26 at HO_3 HB hx196_0 hx196_1 hx196_2 hx196_3 hx197_0 hx197_1 hx197_2 hx197_3 ⊢
                     try simp only [i64_w, i32_w]
                     try go_wp2
                     go_roundg kj14
                     case measure => have := HJ1.out; have := HK2.out; have := HK3.out; have := HJ14.out; omega
                     case rel => exact ⟨(wrap64 (x29_3 + 1)), (by first | rfl | (simp; done) | (simp [*]; done)), H', ⟨by have := HJ1.out; have := HK2.out; have := HK3.out; have := HJ14.out; omega⟩, ⟨by (with_reducible repeat (first | apply Kd.R_alloc | apply Kd.R_drewN | apply Kd.R_drew)); exact HO_3.out⟩, ⟨Hd.b_⟩⟩
                    ·
                     rw [if_neg c24] at H
                     have c24b0 : (t198 == 1) = false := beq_eq_false_iff_ne.mpr c24
                     have c24b1 : (t198 != 1) = true := bne_iff_ne.mpr c24
                     obtain rfl := Option.some.inj H
                     try go_wp2
                     replace HO_3 := Aside0.mk (Kd.R_drew HO_3.out)
                     replace HB := Aside0.mk (below_drew1 HB.out)
                     have p196 : 0 ≤ (x19_2 : Int) := of_decide_eq_true Hd.a_
                     have q196 : x19_2 < (t191.length : Int) := of_decide_eq_true Hd.a_
                     obtain ⟨ad196, e196, hx196_0, hx196_1, hx196_2, hx196_3⟩ := at_T111 (Kd.R_reads' HO_3.out).2.2 x19_2 p196 q196
                     obtain rfl : ad194 = ad196 := (by injection e196)
                     replace p196 := eq_true p196
                     replace q196 := eq_true q196
                     have p197 : 0 ≤ (x29_3 : Int) := of_decide_eq_true Hd.a_
                     have q197 : x29_3 < (t191.length : Int) := of_decide_eq_true Hd.a_
                     obtain ⟨ad197, e197, hx197_0, hx197_1, hx197_2, hx197_3⟩ := at_T111 (Kd.R_reads' HO_3.out).2.2 x29_3 p197 q197
                     obtain rfl : ad194 = ad197 := (by injection e197)
                     replace p197 := eq_true p197
                     replace q197 := eq_true q197
                     have s0_ := Hd.HW.x (W0 := wc.drew) hx196_0
                     have s1_ := Hd.HW.x (W0 := wc.drew) hx196_1
                     have s2_ := Hd.HW.x (W0 := wc.drew) hx196_2
                     have s3_ := Hd.HW.x (W0 := wc.drew) hx196_3
                     have s4_ := Hd.HW.x (W0 := wc.drew) hx197_0
                     have s5_ := Hd.HW.x (W0 := wc.drew) hx197_1
                     have s6_ := Hd.HW.x (W0 := wc.drew) hx197_2
                     have s7_ := Hd.HW.x (W0 := wc.drew) hx197_3
                     refine Hd.HW.region (by kernel_rfl) (by kernel_rfl) ?_
                     repeat (go_big_quiet_step ((first | (go_at_call 96; with_reducible exact Hd.HW.c (impl_HowMeet.calls kj14 ((rd_T111 t191 x19_2).f0.f0) ((rd_T111 t191 x19_2).f0.f1) ((rd_T111 t191 x19_2).f1.f0) ((rd_T111 t191 x19_2).f1.f1) ((rd_T111 t191 x29_3).f0.f0) ((rd_T111 t191 x29_3).f0.f1) ((rd_T111 t191 x29_3).f1.f0) ((rd_T111 t191 x29_3).f1.f1) t198 _ A23.out)))))
                     refine wpQuiet_nil ?_
                     intro _ hq_
                     obtain ⟨q_, rfl⟩ := hq_
                     clear s0_ s1_ s2_ s3_ s4_ s5_ s6_ s7_
                     replace HO_3 := Aside0.mk (Kd.R_below HO_3.out q_.b)
                     replace HB := Aside0.mk (below_step HB.out q_.b)
                     replace hx196_0 := q_.cell hx196_0
                     replace hx196_1 := q_.cell hx196_1
                     replace hx196_2 := q_.cell hx196_2
                     replace hx196_3 := q_.cell hx196_3
                     replace hx197_0 := q_.cell hx197_0
                     replace hx197_1 := q_.cell hx197_1
                     replace hx197_2 := q_.cell hx197_2
                     replace hx197_3 := q_.cell hx197_3
                     generalize q_.W = w28 at HO_3 HB hx196_0 hx196_1 hx196_2 hx196_3 hx197_0 hx197_1 hx197_2 hx197_3 ⊢
                     try simp only [i64_w, i32_w]
                     try go_wp2
                     go_ret
                     exact ⟨Hd.e_, Hd.b_⟩
                   ·
                    rw [if_neg c22] at H
                    exact absurd H (by simp)
                  ·
                   rw [if_neg c21] at H
                   exact absurd H (by simp)
                 ·
                  rw [if_neg c20] at H
                  exact absurd H (by simp)
                ·
                 rw [if_neg c19] at H
                 exact absurd H (by simp)
               ·
                replace c18 := Bool.eq_false_iff.mpr c18
                subst c18
                have H1 : (if 0 ≤ x19_2 then (if x19_2 < (t191.length : Int) then (if 0 ≤ x29_3 then (if x29_3 < (t191.length : Int) then ((impl_HowMeet.f kj14 ((rd_T111 t191 x19_2).f0.f0) ((rd_T111 t191 x19_2).f0.f1) ((rd_T111 t191 x19_2).f1.f0) ((rd_T111 t191 x19_2).f1.f1) ((rd_T111 t191 x29_3).f0.f0) ((rd_T111 t191 x29_3).f0.f1) ((rd_T111 t191 x29_3).f1.f0) ((rd_T111 t191 x29_3).f1.f1)).bind fun t201 => (if t201 = 0 then (impl_IsRing.l1 kj14 t191 x19_2 (t191.length : Int) x19_2 x19_2 (wrap64 (x29_3 + 1))) else (some false))) else (none)) else (none)) else (none)) else (none)) = some r := by rw [if_neg (show ¬ (false = true) by decide)] at H; exact H
                clear H
                have H := H1
                clear H1
                by_cases c29 : 0 ≤ x19_2
                ·
                 rw [if_pos c29] at H
                 have c29b0 : decide (0 ≤ x19_2) = true := decide_eq_true c29
                 clear c29
                 by_cases c30 : x19_2 < (t191.length : Int)
                 ·
                  rw [if_pos c30] at H
                  have c30b0 : decide (x19_2 < (t191.length : Int)) = true := decide_eq_true c30
                  clear c30
                  by_cases c31 : 0 ≤ x29_3
                  ·
                   rw [if_pos c31] at H
                   have c31b0 : decide (0 ≤ x29_3) = true := decide_eq_true c31
                   clear c31
                   by_cases c32 : x29_3 < (t191.length : Int)
                   ·
                    rw [if_pos c32] at H
                    have c32b0 : decide (x29_3 < (t191.length : Int)) = true := decide_eq_true c32
                    clear c32
                    replace H := Option.bind_eq_some_iff.mp H
                    obtain ⟨t201, A330, H⟩ := H
                    replace H : (if t201 = 0 then (impl_IsRing.l1 kj14 t191 x19_2 (t191.length : Int) x19_2 x19_2 (wrap64 (x29_3 + 1))) else (some false)) = some r := H
                    have A33 := Aside0.mk A330
                    clear A330
                    by_cases c34 : t201 = 0
                    ·
                     rw [if_pos c34] at H
                     have c34b0 : (t201 == 0) = true := beq_iff_eq.mpr c34
                     have c34b1 : (t201 != 0) = false := bne_eq_false_iff_eq.mpr c34
                     clear c34
                     have H' := Aside0.mk H
                     clear H
                     try go_wp2
                     replace HO_3 := Aside0.mk (Kd.R_drew HO_3.out)
                     replace HB := Aside0.mk (below_drew1 HB.out)
                     have p199 : 0 ≤ (x19_2 : Int) := of_decide_eq_true Hd.a_
                     have q199 : x19_2 < (t191.length : Int) := of_decide_eq_true Hd.a_
                     obtain ⟨ad199, e199, hx199_0, hx199_1, hx199_2, hx199_3⟩ := at_T111 (Kd.R_reads' HO_3.out).2.2 x19_2 p199 q199
                     obtain rfl : ad194 = ad199 := (by injection e199)
                     replace p199 := eq_true p199
                     replace q199 := eq_true q199
                     have p200 : 0 ≤ (x29_3 : Int) := of_decide_eq_true Hd.a_
                     have q200 : x29_3 < (t191.length : Int) := of_decide_eq_true Hd.a_
                     obtain ⟨ad200, e200, hx200_0, hx200_1, hx200_2, hx200_3⟩ := at_T111 (Kd.R_reads' HO_3.out).2.2 x29_3 p200 q200
                     obtain rfl : ad194 = ad200 := (by injection e200)
                     replace p200 := eq_true p200
                     replace q200 := eq_true q200
                     have s0_ := Hd.HW.x (W0 := wc.drew) hx199_0
                     have s1_ := Hd.HW.x (W0 := wc.drew) hx199_1
                     have s2_ := Hd.HW.x (W0 := wc.drew) hx199_2
                     have s3_ := Hd.HW.x (W0 := wc.drew) hx199_3
                     have s4_ := Hd.HW.x (W0 := wc.drew) hx200_0
                     have s5_ := Hd.HW.x (W0 := wc.drew) hx200_1
                     have s6_ := Hd.HW.x (W0 := wc.drew) hx200_2
                     have s7_ := Hd.HW.x (W0 := wc.drew) hx200_3
                     refine Hd.HW.region (by kernel_rfl) (by kernel_rfl) ?_
                     repeat (go_big_quiet_step ((first | (go_at_call 96; with_reducible exact Hd.HW.c (impl_HowMeet.calls kj14 ((rd_T111 t191 x19_2).f0.f0) ((rd_T111 t191 x19_2).f0.f1) ((rd_T111 t191 x19_2).f1.f0) ((rd_T111 t191 x19_2).f1.f1) ((rd_T111 t191 x29_3).f0.f0) ((rd_T111 t191 x29_3).f0.f1) ((rd_T111 t191 x29_3).f1.f0) ((rd_T111 t191 x29_3).f1.f1) t201 _ A33.out)))))
                     refine wpQuiet_nil ?_
                     intro _ hq_
                     obtain ⟨q_, rfl⟩ := hq_
                     clear s0_ s1_ s2_ s3_ s4_ s5_ s6_ s7_
                     replace HO_3 := Aside0.mk (Kd.R_below HO_3.out q_.b)
                     replace HB := Aside0.mk (below_step HB.out q_.b)
                     replace hx199_0 := q_.cell hx199_0
                     replace hx199_1 := q_.cell hx199_1
                     replace hx199_2 := q_.cell hx199_2
                     replace hx199_3 := q_.cell hx199_3
                     replace hx200_0 := q_.cell hx200_0
                     replace hx200_1 := q_.cell hx200_1
                     replace hx200_2 := q_.cell hx200_2
                     replace hx200_3 := q_.cell hx200_3
                     generalize q_.W = w36 at HO_3 HB hx199_0 hx199_1 hx199_2 hx199_3 hx200_0 hx200_1 hx200_2 hx200_3 ⊢
                     try simp only [i64_w, i32_w]
                     try go_wp2
                     go_roundg kj14
                     case measure => have := HJ1.out; have := HK2.out; have := HK3.out; have := HJ14.out; omega
                     case rel => exact ⟨(wrap64 (x29_3 + 1)), (by first | rfl | (simp; done) | (simp [*]; done)), H', ⟨by have := HJ1.out; have := HK2.out; have := HK3.out; have := HJ14.out; omega⟩, ⟨by (with_reducible repeat (first | apply Kd.R_alloc | apply Kd.R_drewN | apply Kd.R_drew)); exact HO_3.out⟩, ⟨Hd.b_⟩⟩
                    ·
                     rw [if_neg c34] at H
                     have c34b0 : (t201 == 0) = false := beq_eq_false_iff_ne.mpr c34
                     have c34b1 : (t201 != 0) = true := bne_iff_ne.mpr c34
                     obtain rfl := Option.some.inj H
                     try go_wp2
                     replace HO_3 := Aside0.mk (Kd.R_drew HO_3.out)
                     replace HB := Aside0.mk (below_drew1 HB.out)
                     have p199 : 0 ≤ (x19_2 : Int) := of_decide_eq_true Hd.a_
                     have q199 : x19_2 < (t191.length : Int) := of_decide_eq_true Hd.a_
                     obtain ⟨ad199, e199, hx199_0, hx199_1, hx199_2, hx199_3⟩ := at_T111 (Kd.R_reads' HO_3.out).2.2 x19_2 p199 q199
                     obtain rfl : ad194 = ad199 := (by injection e199)
                     replace p199 := eq_true p199
                     replace q199 := eq_true q199
                     have p200 : 0 ≤ (x29_3 : Int) := of_decide_eq_true Hd.a_
                     have q200 : x29_3 < (t191.length : Int) := of_decide_eq_true Hd.a_
                     obtain ⟨ad200, e200, hx200_0, hx200_1, hx200_2, hx200_3⟩ := at_T111 (Kd.R_reads' HO_3.out).2.2 x29_3 p200 q200
                     obtain rfl : ad194 = ad200 := (by injection e200)
                     replace p200 := eq_true p200
                     replace q200 := eq_true q200
                     have s0_ := Hd.HW.x (W0 := wc.drew) hx199_0
                     have s1_ := Hd.HW.x (W0 := wc.drew) hx199_1
                     have s2_ := Hd.HW.x (W0 := wc.drew) hx199_2
                     have s3_ := Hd.HW.x (W0 := wc.drew) hx199_3
                     have s4_ := Hd.HW.x (W0 := wc.drew) hx200_0
                     have s5_ := Hd.HW.x (W0 := wc.drew) hx200_1
                     have s6_ := Hd.HW.x (W0 := wc.drew) hx200_2
                     have s7_ := Hd.HW.x (W0 := wc.drew) hx200_3
                     refine Hd.HW.region (by kernel_rfl) (by kernel_rfl) ?_
                     repeat (go_big_quiet_step ((first | (go_at_call 96; with_reducible exact Hd.HW.c (impl_HowMeet.calls kj14 ((rd_T111 t191 x19_2).f0.f0) ((rd_T111 t191 x19_2).f0.f1) ((rd_T111 t191 x19_2).f1.f0) ((rd_T111 t191 x19_2).f1.f1) ((rd_T111 t191 x29_3).f0.f0) ((rd_T111 t191 x29_3).f0.f1) ((rd_T111 t191 x29_3).f1.f0) ((rd_T111 t191 x29_3).f1.f1) t201 _ A33.out)))))
                     refine wpQuiet_nil ?_
                     intro _ hq_
                     obtain ⟨q_, rfl⟩ := hq_
                     clear s0_ s1_ s2_ s3_ s4_ s5_ s6_ s7_
                     replace HO_3 := Aside0.mk (Kd.R_below HO_3.out q_.b)
                     replace HB := Aside0.mk (below_step HB.out q_.b)
                     replace hx199_0 := q_.cell hx199_0
                     replace hx199_1 := q_.cell hx199_1
                     replace hx199_2 := q_.cell hx199_2
                     replace hx199_3 := q_.cell hx199_3
                     replace hx200_0 := q_.cell hx200_0
                     replace hx200_1 := q_.cell hx200_1
                     replace hx200_2 := q_.cell hx200_2
                     replace hx200_3 := q_.cell hx200_3
                     generalize q_.W = w38 at HO_3 HB hx199_0 hx199_1 hx199_2 hx199_3 hx200_0 hx200_1 hx200_2 hx200_3 ⊢
                     try simp only [i64_w, i32_w]
                     try go_wp2
                     go_ret
                     exact ⟨Hd.e_, Hd.b_⟩
                   ·
                    rw [if_neg c32] at H
                    exact absurd H (by simp)
                  ·
                   rw [if_neg c31] at H
                   exact absurd H (by simp)
                 ·
                  rw [if_neg c30] at H
                  exact absurd H (by simp)
                ·
                 rw [if_neg c29] at H
                 exact absurd H (by simp)
            ·
             rw [if_neg c14] at H
             have c14b0 : decide (x29_3 < x19_2) = false := decide_eq_false c14
             clear c14
             have H' := Aside0.mk H
             clear H
             go_wp2
             go_roundg k3
             case measure => have := HJ1.out; have := HK2.out; have := HK3.out; omega
             case rel => exact ⟨(wrap64 (x19_2 + 1)), (by first | rfl | (simp; done) | (simp [*]; done)), H', ⟨by have := HJ1.out; have := HK2.out; have := HK3.out; omega⟩, ⟨by (with_reducible repeat (first | apply Kd.R_alloc | apply Kd.R_drewN | apply Kd.R_drew)); exact HO_3.out⟩, ⟨Hd.b_⟩⟩
         ·
          replace c12 := Bool.eq_false_iff.mpr c12
          subst c12
          have H1 : (some false) = some r := by rw [if_neg (show ¬ (false = true) by decide)] at H; exact H
          clear H
          have H := H1
          clear H1
          obtain rfl := Option.some.inj H
          have p194 : 0 ≤ (x19_2 : Int) := of_decide_eq_true Hd.a_
          have q194 : x19_2 < (t191.length : Int) := of_decide_eq_true Hd.a_
          obtain ⟨ad194, e194, hx194_0, hx194_1, hx194_2, hx194_3⟩ := at_T111 (Kd.R_reads' HO_3.out).2.2 x19_2 p194 q194
          cases e194
          replace p194 := eq_true p194
          replace q194 := eq_true q194
          go_wp2_with (first | ((with_reducible refine gate_callee (f := 102) rfl ?_); refine goesL_ (some 26) rfl rfl Try.func102 (by kernel_rfl) rfl #[.agg #[.int .i64 ((rd_T111 t191 x19_2).f0.f0), .int .i64 ((rd_T111 t191 x19_2).f0.f1), .int .i64 ((rd_T111 t191 x19_2).f1.f0), .int .i64 ((rd_T111 t191 x19_2).f1.f1)]] rfl Hd.m_ ?_; (with_reducible refine (impl_IsSegment.calls ((rd_T111 t191 x19_2).f0.f0) ((rd_T111 t191 x19_2).f0.f1) ((rd_T111 t191 x19_2).f1.f0) ((rd_T111 t191 x19_2).f1.f1) false _ A11.out).mono ?_); rintro e w39 ⟨rfl, hb⟩; refine ⟨_, rfl, ?_⟩; replace HO_3 := Aside0.mk (Kd.R_below (Hd.r_ HO_3) hb); replace HB := Aside0.mk (below_step Hd.b_ hb); (try clear hb); (try clear hb2); (try clear hk); (try clear hi)))
          go_ret
          exact ⟨Hd.e_, Hd.b_⟩
        ·
         rw [if_neg c10] at H
         exact absurd H (by simp)
       ·
        rw [if_neg c9] at H
        exact absurd H (by simp)
      ·
       rw [if_neg c8] at H
       have c8b0 : decide (x19_2 < (t191.length : Int)) = false := decide_eq_false c8
       clear c8
       obtain rfl := Option.some.inj H
       go_wp2
       go_ret
       exact ⟨Hd.e_, Hd.b_⟩
def impl_Point_86.f (l0 : List (S49)) : Option ((List (S49))) := (some (([] : List (S49)) : List (S49))).bind fun y202 => (if y202.length + l0.length < 8796093022208 then (some (y202 ++ l0)) else (none))
theorem impl_Point_86.eqnil (W : World) (a : Option Addr) (l c : Nat) : (binOp .eql 28 (.slice a l c) (.slice none 0 0)).run Try.prog W = .ok (.bool a.isNone) W := by
  cases a <;> kernel_rfl
attribute [local go_sem] impl_Point_86.eqnil
set_option maxHeartbeats 8000000 in
set_option maxRecDepth 100000 in
theorem impl_Point_86.calls (A0 : Option Addr) (c0 : Nat) (l0 : List (S49)) (r : List (S49)) (w : World) (hr0 : Kd.C k49 w A0 l0.length l0) (hc0 : l0.length ≤ c0) (h : impl_Point_86.f l0 = some r) :
    Calls Try.prog 86 #[.slice A0 l0.length c0] w fun e w' => ∃ v0_ : Value, e = .returned (v0_) ∧ Kd.R k49 49 w' w.heap.size (fun _ => True) v0_ r ∧ Below w.heap.size w w' := by
  cases A0
  case none =>
    have hl : l0 = [] := by
      obtain ⟨_, _, h3⟩ := hr0
      cases l0 with
      | nil => rfl
      | cons a l => obtain ⟨ad, e, _⟩ := h3 (by simp); cases e
    subst hl
    have hr : r = [] := by simp [impl_Point_86.f] at h; exact h
    subst hr
    go_enter Try.func86, Try.ntmps86
    go_wp2
    go_ret
    exact ⟨_, rfl, Kd.R_nil _ _ _ _ _, by repeat (first | exact Below.refl _ _ | apply below_alloc | apply pw_below_drewN | apply below_drew1)⟩
  have HR0 := Aside0.mk hr0
  have HC0 := Aside0.mk hc0
  clear hr0 hc0
  have HB := Aside0.mk (Below.refl w.heap.size w)
  have H : ((some (([] : List (S49)) : List (S49))).bind fun y202 => (if y202.length + l0.length < 8796093022208 then (some (y202 ++ l0)) else (none))) = some r := h
  clear h
  obtain ⟨y202, hy202⟩ : ∃ y_ : List (S49), y_ = (([] : List (S49))) := ⟨_, rfl⟩
  replace H : (if y202.length + l0.length < 8796093022208 then (some (y202 ++ l0)) else (none)) = some r := by first | (rw [hy202]; with_reducible exact H) | (have H2_ := (Option.bind_some _ _).symm.trans H; rw [hy202]; with_reducible exact H2_) | (have H2_ := (Option.bind_some _ _).symm.trans H; with_reducible exact H2_) | with_reducible exact H | (rw [hy202]; exact H) | exact H
  have Ny202 := Aside0.mk hy202
  clear hy202
  by_cases c2 : y202.length + l0.length < 8796093022208
  · rw [if_pos c2] at H
    have LMc2 := Aside0.mk c2
    clear c2
    obtain ⟨y205, hy205⟩ : ∃ y_ : List (S49), y_ = (y202 ++ l0) := ⟨_, rfl⟩
    replace H : (some y205) = some r := by first | (rw [hy205]; with_reducible exact H) | (have H2_ := (Option.bind_some _ _).symm.trans H; rw [hy205]; with_reducible exact H2_) | (have H2_ := (Option.bind_some _ _).symm.trans H; with_reducible exact H2_) | with_reducible exact H | (rw [hy205]; exact H) | exact H
    have Ny205 := Aside0.mk hy205
    clear hy205
    obtain rfl := Option.some.inj H
    go_enter Try.func86, Try.ntmps86
    go_wp2_with (first | ((with_reducible refine gate_dst (N := 5) rfl ?_); refine Kd.R_lit k49 _ 49 ?hg (N := 5) ?hd (xs := ([] : List (S49))) (inner := []) (ok := fun _ => True) (okp := fun _ => True) ?hr ?hp (fun _ hk => hk) trivial (Below.refl _ _) (Nat.le_refl _) (by simp) ?_; (case hd => rfl); (case hg => rfl); (case hr => first | (go_simp; done) | (go_simp; rfl)); (case hp => exact (Reps.none _ _)); intro v203 w3 ho4 hb hg_ hnew_; clear hg_ hnew_; (first | rw [← Ny202.out] at ho4 | (simp only [Int.reduceToNat] at ho4; rw [← Ny202.out] at ho4)); have n0_ := Aside0.mk (Kd.R_lower ho4 (below_size (by repeat (first | (with_reducible first | exact HB.out | apply below_alloc | apply pw_below_drewN | apply below_drew1) | exact HB.out)))); have n1_ := Aside0.mk (below_step (by repeat (first | (with_reducible first | exact HB.out | apply below_alloc | apply pw_below_drewN | apply below_drew1) | exact HB.out)) hb); clear HB; have HO204 := n0_; have HB := n1_; clear n0_ n1_; clear hb ho4) | ((with_reducible refine gate_builtin (b := .append) (xs := #[.tmp 5, .tmp 6]) rfl ?_); at_builtin; refine Kd.R_append_rows k49 (w0 := w) w.heap.size rfl (.tmp 5) (.tmp 6) 28 49 (.agg #[(.int .i64 0), (.int .i64 0)]) 16 rfl Try.underlying28 info49 rfl (by decide) (by omega) v203 y202 l0 _ _ _ (fun _ => True) (fun _ => False) rfl rfl ?aO ?aR (fun _ _ h => h) (fun _ h => h.elim) ?aF ?aB ?aS ?aL ?_; (case aR => repeat (first | exact (Kd.C_below HR0.out HB.out) | (with_reducible refine Kd.C_alloc ?_ _) | (with_reducible refine Kd.C_drewN ?_ _) | (with_reducible refine Kd.C_drew ?_))); (case aB => exact (by repeat (first | (with_reducible first | exact HB.out | apply below_alloc | apply pw_below_drewN | apply below_drew1) | exact HB.out))); (case aF => exact (fun _ _ => trivial)); (case aO => exact (by (with_reducible repeat (first | apply Kd.R_alloc | apply Kd.R_drewN | apply Kd.R_drew)); exact HO204.out)); (case aS => exact (below_size (by repeat (first | (with_reducible first | exact HB.out | apply below_alloc | apply pw_below_drewN | apply below_drew1) | exact HB.out)))); (case aL => have := LMc2.out; omega); intro v206 w5 ho hb hg hat; rw [← Ny205.out] at ho; have n0_ := Aside0.mk (hb); have n1_ := Aside0.mk (ho); clear HB; clear HO204; have HB := n0_; have HO207 := n1_; clear n0_ n1_; clear ho hb hg hat))
    go_ret
    exact ⟨_, by first | rfl | (simp [errW_none, errW_some] <;> rfl) | (simp [*, errW_none, errW_some] <;> rfl), by (with_reducible repeat (first | apply Kd.R_alloc | apply Kd.R_drewN | apply Kd.R_drew)); exact HO207.out, by repeat (first | (with_reducible first | exact HB.out | apply below_alloc | apply pw_below_drewN | apply below_drew1) | exact HB.out)⟩
  · rw [if_neg c2] at H
    exact absurd H (by simp)
end Go.Proofs.Ytchmbcembbbplac.MFnExactSafeRing
