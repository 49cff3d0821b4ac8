-- Laid by this session's program pp.py, after the kit's print and texts of the session's own. Not trusted: Lean checks it.
import Derived.Test.YtchmbcembbbplacZDropCornerMx0
import Derived.Test.YtchmbcembbbplacZDropCornerMx2
import Derived.Test.YtchmbcembbbplacZDropCornerMx4
namespace Go.Proofs.Ytchmbcembbbplac.MFnExactDropCorner
open Go.RowKit Go.Proofs.YtchmbcembbbplacW.PrintWords Go.Proofs.YtchmbcembbbplacW.PrintLast Go.Proofs.YtchmbcembbbplacW.PrintMore
attribute [local go_sem] max2_int min2_int max_two min_two max_three min_three max_four min_four   -- for this text's walks alone
set_option linter.unusedVariables false
set_option linter.unusedSimpArgs false
def spec_l7Segments.l0 : Nat → List (S49) → List (S111) → Int → Option ((List (S111)))
 | 0, _, _, _ => none
 | k + 1, x0, x3, x4 => if x4 < (x0.length : Int) then (if 0 ≤ x4 then (if (x0.length : Int) = 0 then (none) else (if 0 ≤ (Int.tmod (wrap64 (x4 + 1)) (x0.length : Int)) then (if (Int.tmod (wrap64 (x4 + 1)) (x0.length : Int)) < (x0.length : Int) then (if x3.length < 4398046511104 then (spec_l7Segments.l0 k x0 (x3 ++ [(⟨(⟨(rd_T49 x0 x4).f0, (rd_T49 x0 x4).f1⟩ : S49), (⟨(rd_T49 x0 (Int.tmod (wrap64 (x4 + 1)) (x0.length : Int))).f0, (rd_T49 x0 (Int.tmod (wrap64 (x4 + 1)) (x0.length : Int))).f1⟩ : S49)⟩ : S111)]) (wrap64 (x4 + 1))) else (none)) else (none)) else (none))) else (none)) else (some x3)
def spec_l7Segments.f (k : Nat) (l0 : List (S49)) : Option ((List (S111))) := spec_l7Segments.l0 k l0 (([] : List (S111))) 0
def spec_l7Segments.T5 : Bool × List (List Nat × List Nat) := (true, [([], []), ([], []), ([], []), ([1, 2], [1, 2]), ([3], [3]), ([], []), ([], []), ([6], [6]), ([], []), ([8], [8]), ([7, 9], [7, 9]), ([5, 10], [5, 10]), ([11], [11]), ([4, 12], [4, 12]), ([13], [13]), ([0, 14], [0, 14]), ([15, 15, 0, 1, 2, 3, 4, 5, 6, 7, 8, 9, 10, 11, 12, 13, 14, 15], [0, 15])])
def spec_l7Segments.B5 : List Nat := [0, 0, 0, 6, 14, 0, 0, 64, 0, 256, 960, 2016, 4064, 8190, 16382, 32767, 65535]
theorem spec_l7Segments.tab5 : rtab .any (opsOf Try.f136 5) = spec_l7Segments.T5 := by kernel_rfl
theorem spec_l7Segments.bits5 : waitsOk spec_l7Segments.T5.2 spec_l7Segments.B5 = true := by kernel_rfl
set_option maxHeartbeats 8000000 in
set_option maxRecDepth 100000 in
theorem spec_l7Segments.calls (k : Nat) (A0 : Option Addr) (c0 : Nat) (l0 : List (S49)) (r : List (S111)) (w : World) (hr0 : Kd.C k49 w A0 l0.length l0) (hc0 : l0.length ≤ c0) (h : spec_l7Segments.f k l0 = some r) :
  Calls Try.prog 136 #[.slice A0 l0.length c0] w fun e w' => ∃ v0_ : Value, e = .returned (v0_) ∧ Kd.R k111 111 w' w.heap.size (fun _ => True) v0_ r ∧ Below w.heap.size w w' := by
 have hu49 := Try.underlying49
 have hu111 := Try.underlying111
 have HR0 := Aside0.mk hr0
 have HC0 := Aside0.mk hc0
 clear hr0 hc0
 have HB := Aside0.mk (Below.refl w.heap.size w)
 have H : (spec_l7Segments.l0 k l0 (([] : List (S111))) 0) = some r := h
 clear h
 obtain ⟨y182, hy182⟩ : ∃ y_ : List (S111), y_ = (([] : List (S111))) := ⟨_, rfl⟩
 replace H : (spec_l7Segments.l0 k l0 y182 0) = some r := by first | (rw [hy182]; with_reducible exact H) | (have H2_ := (Option.bind_some _ _).symm.trans H; rw [hy182]; with_reducible exact H2_) | (have H2_ := (Option.bind_some _ _).symm.trans H; with_reducible exact H2_) | with_reducible exact H | (rw [hy182]; exact H) | exact H
 have Ny182 := Aside0.mk hy182
 clear hy182
 have H' := Aside0.mk H
 clear H
 go_enter Try.func136, Try.ntmps136
 go_wp2_with (first | ((with_reducible refine gate_dst (N := 5) rfl ?_); refine Kd.R_lit k111 _ 111 ?hg (N := 5) ?hd (xs := ([] : List (S111))) (inner := []) (ok := fun _ => True) (okp := fun _ => True) ?hr ?hp (fun _ hk => hk) trivial (Below.refl _ _) (Nat.le_refl _) (by simp) ?_; (case hd => rfl); (case hg => rfl); (case hr => first | (go_simp; done) | (go_simp; rfl)); (case hp => exact (Reps.none _ _)); intro v183 w2 ho3 hb hg_ hnew_; clear hg_ hnew_; (first | rw [← Ny182.out] at ho3 | (simp only [Int.reduceToNat] at ho3; rw [← Ny182.out] at ho3)); have HO184 := Aside0.mk (Kd.R_lower ho3 (below_size Hd.b_)); replace HB := Aside0.mk (below_step Hd.b_ hb); clear hb ho3))
 go_loopg [3, 4] k (fun kq v3 v4 w' => ∃ (x3_1 : List (S111)) (x4_1 : Int), v4 = .int .i64 x4_1 ∧ Aside0 (spec_l7Segments.l0 kq l0 x3_1 x4_1 = some r) ∧ Aside0 (kq ≤ k) ∧ Aside0 (Kd.R k111 111 w' w.heap.size (fun _ => True) v3 x3_1) ∧ Aside0 (Below w.heap.size w w'))
 case atStart => exact ⟨(y182), (0), (by first | rfl | (simp; done) | (simp [*]; done)), H', ⟨Nat.le_refl _⟩, ⟨by (with_reducible repeat (first | apply Kd.R_alloc | apply Kd.R_drewN | apply Kd.R_drew)); exact HO184.out⟩, ⟨Hd.b_⟩⟩
 case round =>
  clear H'
  try clear c1
  try clear p2
  obtain ⟨x3_1, x4_1, rfl, HA, HK1, HO_3, HB⟩ := hrel
  cases gk with
  | zero => exact absurd HA.out (by simp [spec_l7Segments.l0])
  | succ k1 =>
   have H := HA.out
   clear HA
   simp only [spec_l7Segments.l0] at H
   by_cases c4 : x4_1 < (l0.length : Int)
   ·
    rw [if_pos c4] at H
    have c4b0 : decide (x4_1 < (l0.length : Int)) = true := decide_eq_true c4
    clear c4
    by_cases c5 : 0 ≤ x4_1
    ·
     rw [if_pos c5] at H
     have c5b0 : decide (0 ≤ x4_1) = true := decide_eq_true c5
     clear c5
     by_cases c6 : (l0.length : Int) = 0
     ·
      rw [if_pos c6] at H
      exact absurd H (by simp)
     ·
      rw [if_neg c6] at H
      have c6b0 : ((l0.length : Int) == 0) = false := beq_eq_false_iff_ne.mpr c6
      have c6b1 : ((l0.length : Int) != 0) = true := bne_iff_ne.mpr c6
      have c6b2 : ¬ (l0 = []) := fun h_ => c6 (by rw [h_]; rfl)
      obtain ⟨ji7, hji7⟩ : ∃ j_ : Int, (Int.tmod (wrap64 (x4_1 + 1)) (l0.length : Int)) = j_ := ⟨_, rfl⟩
      replace H : (if 0 ≤ (ji7) then (if (ji7) < (l0.length : Int) then (if x3_1.length < 4398046511104 then (spec_l7Segments.l0 k1 l0 (x3_1 ++ [(⟨(⟨(rd_T49 l0 x4_1).f0, (rd_T49 l0 x4_1).f1⟩ : S49), (⟨(rd_T49 l0 (ji7)).f0, (rd_T49 l0 (ji7)).f1⟩ : S49)⟩ : S111)]) (wrap64 (x4_1 + 1))) else (none)) else (none)) else (none)) = some r := by first | (rw [hji7] at H; exact H) | (simp only [hji7] at H ⊢; exact H)
      by_cases c8 : 0 ≤ (ji7)
      ·
       rw [if_pos c8] at H
       have c8b0 : decide (0 ≤ (ji7)) = true := decide_eq_true c8
       clear c8
       by_cases c9 : (ji7) < (l0.length : Int)
       ·
        rw [if_pos c9] at H
        have c9b0 : decide ((ji7) < (l0.length : Int)) = true := decide_eq_true c9
        clear c9
        by_cases c10 : x3_1.length < 4398046511104
        ·
         rw [if_pos c10] at H
         have LMc10 := Aside0.mk c10
         clear c10
         obtain ⟨y187, hy187⟩ : ∃ y_ : List (S111), y_ = (x3_1 ++ [(⟨(⟨(rd_T49 l0 x4_1).f0, (rd_T49 l0 x4_1).f1⟩ : S49), (⟨(rd_T49 l0 (ji7)).f0, (rd_T49 l0 (ji7)).f1⟩ : S49)⟩ : S111)]) := ⟨_, rfl⟩
         replace H : (spec_l7Segments.l0 k1 l0 y187 (wrap64 (x4_1 + 1))) = some r := by first | (rw [hy187]; with_reducible exact H) | (have H2_ := (Option.bind_some _ _).symm.trans H; rw [hy187]; with_reducible exact H2_) | (have H2_ := (Option.bind_some _ _).symm.trans H; with_reducible exact H2_) | with_reducible exact H | (rw [hy187]; exact H) | exact H
         have Ny187 := Aside0.mk hy187
         clear hy187
         have H' := Aside0.mk H
         clear H
         try go_wp2
         replace HO_3 := Aside0.mk (Kd.R_drew HO_3.out)
         replace HB := Aside0.mk (below_drew1 HB.out)
         have p185 : 0 ≤ (x4_1 : Int) := of_decide_eq_true Hd.a_
         have q185 : x4_1 < (l0.length : Int) := of_decide_eq_true Hd.a_
         obtain ⟨ad185, e185, hx185_0, hx185_1⟩ := at_T49 HR0.out x4_1 p185 q185
         have hw185_1 := hx185_1
         have hw185_0 := hx185_0
         cases e185
         replace hx185_0 := (HB.out.cell (World.block_lt_of_cell? w _ hx185_0)).trans hx185_0
         replace hx185_1 := (HB.out.cell (World.block_lt_of_cell? w _ hx185_1)).trans hx185_1
         replace p185 := eq_true p185
         replace q185 := eq_true q185
         have p186 : 0 ≤ ((ji7) : Int) := of_decide_eq_true Hd.a_
         have q186 : (ji7) < (l0.length : Int) := of_decide_eq_true Hd.a_
         obtain ⟨ad186, e186, hx186_0, hx186_1⟩ := at_T49 HR0.out (ji7) p186 q186
         have hw186_1 := hx186_1
         have hw186_0 := hx186_0
         obtain rfl : ad185 = ad186 := (by injection e186)
         replace hx186_0 := (HB.out.cell (World.block_lt_of_cell? w _ hx186_0)).trans hx186_0
         replace hx186_1 := (HB.out.cell (World.block_lt_of_cell? w _ hx186_1)).trans hx186_1
         replace p186 := eq_true p186
         replace q186 := eq_true q186
         refine start_ (n := 17) (S := fun w' => w'.cell? (ad185.add ((x4_1).toNat * 2)) = some (.int .i64 ((rd_T49 l0 x4_1).f0)) ∧ w'.cell? ⟨(ad185.add ((x4_1).toNat * 2)).block, (ad185.add ((x4_1).toNat * 2)).off + 1, none⟩ = some (.int .i64 ((rd_T49 l0 x4_1).f1)) ∧ w'.cell? (ad185.add (((ji7)).toNat * 2)) = some (.int .i64 ((rd_T49 l0 (ji7)).f0)) ∧ w'.cell? ⟨(ad185.add (((ji7)).toNat * 2)).block, (ad185.add (((ji7)).toNat * 2)).off + 1, none⟩ = some (.int .i64 ((rd_T49 l0 (ji7)).f1))) (ds := []) #[false, false, false, false, false, false, false, false, false, false, false, false, false, false, false, false, false] (by kernel_rfl) rfl rfl ⟨((HB.out.cell (World.block_lt_of_cell? w _ hw185_0)).trans hw185_0), ((HB.out.cell (World.block_lt_of_cell? w _ hw185_1)).trans hw185_1), ((HB.out.cell (World.block_lt_of_cell? w _ hw186_0)).trans hw186_0), ((HB.out.cell (World.block_lt_of_cell? w _ hw186_1)).trans hw186_1)⟩ (fun hHeld => ?_); refine with_tabW spec_l7Segments.tab5 spec_l7Segments.bits5 (fun HT_ HW_ => ?_)
         generalize wr.drew = w11 at HO_3 HB hx185_0 hx185_1 hx186_0 hx186_1 hHeld ⊢
         refine Hd.p_ HT_ 0 (some 12) #[true, false, false, false, false, false, false, false, false, false, false, false, false, false, false, false, false] ?_
         refine Hd.p_ HT_ 1 (some 13) #[true, true, false, false, false, false, false, false, false, false, false, false, false, false, false, false, false] ?_
         refine Hd.p_ HT_ 2 (some 14) #[true, true, true, false, false, false, false, false, false, false, false, false, false, false, false, false, false] ?_
         refine Hd.p_ HT_ 3 (some 15) #[true, true, true, true, false, false, false, false, false, false, false, false, false, false, false, false, false] ?_
         refine Hd.p_ HT_ 5 (some 17) #[true, true, true, true, false, true, false, false, false, false, false, false, false, false, false, false, false] ?_
         refine Hd.p_ HT_ 6 (some 18) #[true, true, true, true, false, true, true, false, false, false, false, false, false, false, false, false, false] ?_
         refine Hd.p_ HT_ 7 (some 19) #[true, true, true, true, false, true, true, true, false, false, false, false, false, false, false, false, false] ?_
         refine Hd.p_ HT_ 8 (some 20) #[true, true, true, true, false, true, true, true, true, false, false, false, false, false, false, false, false] ?_
         refine Hd.p_ HT_ 9 (some 21) #[true, true, true, true, false, true, true, true, true, true, false, false, false, false, false, false, false] ?_
         refine Hd.p_ HT_ 10 (some 22) #[true, true, true, true, false, true, true, true, true, true, true, false, false, false, false, false, false] ?_
         refine Hd.p_ HT_ 11 (some 23) #[true, true, true, true, false, true, true, true, true, true, true, true, false, false, false, false, false] ?_
         refine Hd.t_ HT_ HW_ hHeld 4 (some 16) #[true, true, true, true, true, true, true, true, true, true, true, true, false, false, false, false, false] ?_
         refine Hd.t_ HT_ HW_ hHeld 12 (some 24) #[true, true, true, true, true, true, true, true, true, true, true, true, true, false, false, false, false] ?_
         refine Hd.p_ HT_ 13 (some 25) #[true, true, true, true, true, true, true, true, true, true, true, true, true, true, false, false, false] ?_
         refine Hd.o_ HT_ 14 (some 26) #[true, true, true, true, true, true, true, true, true, true, true, true, true, true, true, false, false] (fun K hK => ?_)
         refine value_ (w1 := ?_) (v := ?_) (by rfl) rfl ?_ ?_
         rotate_left 2
         ·
          go_simp
          constructor
          ·
           rfl
          ·
           rfl
         refine hK.out _ _ ⟨(World.cell?_alloc_lt _ _ _ (World.block_lt_of_cell? _ _ (((HB.out.cell (World.block_lt_of_cell? w _ hw185_0)).trans hw185_0)))).trans (((HB.out.cell (World.block_lt_of_cell? w _ hw185_0)).trans hw185_0)), (World.cell?_alloc_lt _ _ _ (World.block_lt_of_cell? _ _ (((HB.out.cell (World.block_lt_of_cell? w _ hw185_1)).trans hw185_1)))).trans (((HB.out.cell (World.block_lt_of_cell? w _ hw185_1)).trans hw185_1)), (World.cell?_alloc_lt _ _ _ (World.block_lt_of_cell? _ _ (((HB.out.cell (World.block_lt_of_cell? w _ hw186_0)).trans hw186_0)))).trans (((HB.out.cell (World.block_lt_of_cell? w _ hw186_0)).trans hw186_0)), (World.cell?_alloc_lt _ _ _ (World.block_lt_of_cell? _ _ (((HB.out.cell (World.block_lt_of_cell? w _ hw186_1)).trans hw186_1)))).trans (((HB.out.cell (World.block_lt_of_cell? w _ hw186_1)).trans hw186_1))⟩ (fun hHeld => ?_)
         clear hK K
         refine Hd.n_ (some 26) ?_
         refine Hd.o_ HT_ 15 (some 27) #[true, true, true, true, true, true, true, true, true, true, true, true, true, true, true, true, false] (fun K hK => ?_)
         refine Kd.R_append_step k111 (w0 := w) w.heap.size (by rfl) (.tmp 12) (.tmp 26) 91 111 (.agg #[(.int .i64 0), (.int .i64 0), (.int .i64 0), (.int .i64 0)]) 32 rfl Try.underlying91 info111 rfl (by decide) (by omega) u3 x3_1 (⟨(⟨(rd_T49 l0 x4_1).f0, (rd_T49 l0 x4_1).f1⟩ : S49), (⟨(rd_T49 l0 (ji7)).f0, (rd_T49 l0 (ji7)).f1⟩ : S49)⟩ : S111) [.int .i64 ((rd_T49 l0 x4_1).f0), .int .i64 ((rd_T49 l0 x4_1).f1), .int .i64 ((rd_T49 l0 (ji7)).f0), .int .i64 ((rd_T49 l0 (ji7)).f1)] (fun _ => True) (fun _ => False) rfl rfl ?aP (fun _ hk => hk.elim) ?aF ?aO ?aB ?aS ?aL ?_
         (case aP => exact k111_mkM _ _ _ (⟨(⟨(rd_T49 l0 x4_1).f0, (rd_T49 l0 x4_1).f1⟩ : S49), (⟨(rd_T49 l0 (ji7)).f0, (rd_T49 l0 (ji7)).f1⟩ : S49)⟩ : S111))
         (case aB => exact Hd.b_)
         (case aF => exact (fun _ _ => trivial))
         (case aO => exact (Hd.r_ HO_3))
         (case aS => exact (below_size Hd.b_))
         (case aL => have := LMc10.out; omega)
         intro v188 w12 ho hb hg hat
         rw [← Ny187.out] at ho
         have n0_ := Aside0.mk (hb)
         have n1_ := Aside0.mk (ho)
         clear HB
         clear HO_3
         have HB := n0_
         have HO189 := n1_
         clear n0_ n1_
         clear ho hb hg hat
         refine hK.out _ _ ⟨((HB.out.cell (World.block_lt_of_cell? w _ hw185_0)).trans hw185_0), ((HB.out.cell (World.block_lt_of_cell? w _ hw185_1)).trans hw185_1), ((HB.out.cell (World.block_lt_of_cell? w _ hw186_0)).trans hw186_0), ((HB.out.cell (World.block_lt_of_cell? w _ hw186_1)).trans hw186_1)⟩ (fun hHeld => ?_)
         clear hK K
         refine Hd.n_ (some 27) ?_
         refine Hd.p_ HT_ 16 (some 3) #[true, true, true, true, true, true, true, true, true, true, true, true, true, true, true, true, true] ?_
         refine done_ (done_of HT_.out (by kernel_rfl)) ?_
         try go_wp2
         go_roundg k1
         case measure => have := HK1.out; omega
         case rel => exact ⟨(y187), (wrap64 (x4_1 + 1)), (by first | rfl | (simp; done) | (simp [*]; done)), H', ⟨by have := HK1.out; omega⟩, ⟨by (with_reducible repeat (first | apply Kd.R_alloc | apply Kd.R_drewN | apply Kd.R_drew)); exact HO189.out⟩, ⟨Hd.b_⟩⟩
        ·
         rw [if_neg c10] at H
         exact absurd H (by simp)
       ·
        rw [if_neg c9] at H
        exact absurd H (by simp)
      ·
       rw [if_neg c8] at H
       exact absurd H (by simp)
    ·
     rw [if_neg c5] at H
     exact absurd H (by simp)
   ·
    rw [if_neg c4] at H
    have c4b0 : decide (x4_1 < (l0.length : Int)) = false := decide_eq_false c4
    clear c4
    obtain rfl := Option.some.inj H
    go_wp2
    go_ret
    exact ⟨_, Hd.e_, by (with_reducible repeat (first | apply Kd.R_alloc | apply Kd.R_drewN | apply Kd.R_drew)); exact HO_3.out, Hd.b_⟩
mutual
def spec_IsRing.l0 : Nat → List (S111) → Int → Option (Bool)
 | 0, _, _ => none
 | k + 1, x3, x4 => if x4 < (x3.length : Int) then (if 0 ≤ x4 then ((spec_IsSegment.f ((rd_T111 x3 x4).f0.f0) ((rd_T111 x3 x4).f0.f1) ((rd_T111 x3 x4).f1.f0) ((rd_T111 x3 x4).f1.f1)).bind fun t195 => (if t195 = true then (spec_IsRing.l1 k x3 x4 0) else (some false))) else (none)) else (some true)
def spec_IsRing.l1 : Nat → List (S111) → Int → Int → Option (Bool)
 | 0, _, _, _ => none
 | k + 1, x3, x4, x5 => if x5 < x4 then (if (wrap64 (x5 + 1)) = x4 then (spec_IsRing.j2 k x3 x4 x5 0 true) else (if x5 = 0 then (spec_IsRing.j2 k x3 x4 x5 0 ((wrap64 (x4 + 1)) == (x3.length : Int))) else (spec_IsRing.j2 k x3 x4 x5 0 false))) else (spec_IsRing.l0 k x3 (wrap64 (x4 + 1)))
def spec_IsRing.j2 : Nat → List (S111) → Int → Int → Int → Bool → Option (Bool)
 | 0, _, _, _, _, _ => none
 | k + 1, x3, x4, x5, x6, x44 => if x44 = true then (if 0 ≤ x4 then (if x4 < (x3.length : Int) then (if 0 ≤ x5 then (if x5 < (x3.length : Int) then ((spec_HowMeet.f k ((rd_T111 x3 x4).f0.f0) ((rd_T111 x3 x4).f0.f1) ((rd_T111 x3 x4).f1.f0) ((rd_T111 x3 x4).f1.f1) ((rd_T111 x3 x5).f0.f0) ((rd_T111 x3 x5).f0.f1) ((rd_T111 x3 x5).f1.f0) ((rd_T111 x3 x5).f1.f1)).bind fun t198 => (if t198 = 1 then (spec_IsRing.l1 k x3 x4 (wrap64 (x5 + 1))) else (some false))) else (none)) else (none)) else (none)) else (none)) else (if 0 ≤ x4 then (if x4 < (x3.length : Int) then (if 0 ≤ x5 then (if x5 < (x3.length : Int) then ((spec_HowMeet.f k ((rd_T111 x3 x4).f0.f0) ((rd_T111 x3 x4).f0.f1) ((rd_T111 x3 x4).f1.f0) ((rd_T111 x3 x4).f1.f1) ((rd_T111 x3 x5).f0.f0) ((rd_T111 x3 x5).f0.f1) ((rd_T111 x3 x5).f1.f0) ((rd_T111 x3 x5).f1.f1)).bind fun t201 => (if t201 = x6 then (spec_IsRing.l1 k x3 x4 (wrap64 (x5 + 1))) else (some false))) else (none)) else (none)) else (none)) else (none))
end
def spec_IsRing.f (k : Nat) (l0 : List (S49)) : Option (Bool) := (spec_l1In.f (l0.length : Int) 3 10).bind fun t190 => (if t190 = true then ((spec_l7Segments.f k l0).bind fun t191 => (spec_IsRing.l0 k t191 0)) else (some false))
set_option maxHeartbeats 8000000 in
set_option maxRecDepth 100000 in
theorem spec_IsRing.calls (k : Nat) (A0 : Option Addr) (c0 : Nat) (l0 : List (S49)) (r : Bool) (w : World) (hr0 : Kd.C k49 w A0 l0.length l0) (hc0 : l0.length ≤ c0) (h : spec_IsRing.f k l0 = some r) :
  Calls Try.prog 82 #[.slice A0 l0.length c0] w fun e w' => e = .returned (.bool r) ∧ Below w.heap.size w w' := by
 have hu111 := Try.underlying111
 have HR0 := Aside0.mk hr0
 have HC0 := Aside0.mk hc0
 clear hr0 hc0
 have HB := Aside0.mk (Below.refl w.heap.size w)
 have H : ((spec_l1In.f (l0.length : Int) 3 10).bind fun t190 => (if t190 = true then ((spec_l7Segments.f k l0).bind fun t191 => (spec_IsRing.l0 k t191 0)) else (some false))) = some r := h
 clear h
 replace H := Option.bind_eq_some_iff.mp H
 obtain ⟨t190, A20, H⟩ := H
 replace H : (if t190 = true then ((spec_l7Segments.f k l0).bind fun t191 => (spec_IsRing.l0 k t191 0)) else (some false)) = some r := H
 have A2 := Aside0.mk A20
 clear A20
 by_cases c3 : t190 = true
 ·
  subst c3
  have H1 : ((spec_l7Segments.f k l0).bind fun t191 => (spec_IsRing.l0 k t191 0)) = some r := by rw [if_pos rfl] at H; exact H
  clear H
  have H := H1
  clear H1
  replace H := Option.bind_eq_some_iff.mp H
  obtain ⟨t191, A40, H⟩ := H
  replace H : (spec_IsRing.l0 k t191 0) = some r := H
  have A4 := Aside0.mk A40
  clear A40
  have H' := Aside0.mk H
  clear H
  go_enter Try.func82, Try.ntmps82
  go_wp2_with (first | ((with_reducible refine gate_callee (f := 83) rfl ?_); refine goesL_ (some 9) rfl rfl Try.func83 (by kernel_rfl) rfl #[.int .i64 (l0.length : Int), .int .i64 3, .int .i64 10] rfl Hd.m_ ?_; (with_reducible refine (spec_l1In.calls (l0.length : Int) 3 10 true _ A2.out).mono ?_); rintro e w' ⟨rfl, ⟨nd, rfl⟩⟩; refine ⟨_, rfl, ?_⟩) | ((with_reducible refine gate_callee (f := 136) rfl ?_); refine goesL_ (some 12) rfl rfl Try.func136 (by kernel_rfl) rfl #[.slice A0 l0.length c0] rfl Hd.m_ ?_; (with_reducible refine (spec_l7Segments.calls k _ _ l0 t191 _ ?side1 ?side2 A4.out).mono ?_); (case side1 => repeat (first | exact HR0.out | (with_reducible refine Kd.C_alloc ?_ _) | (with_reducible refine Kd.C_drewN ?_ _) | (with_reducible refine Kd.C_drew ?_))); (case side2 => exact HC0.out); rintro e w5 ⟨v192, rfl, ho0, hb⟩; refine ⟨_, rfl, ?_⟩; have HO193 := Aside0.mk (Kd.R_lower ho0 (below_size Hd.b_)); replace HB := Aside0.mk (below_step Hd.b_ hb); (try clear hb); (try clear hb2); (try clear hk); (try clear hi); (try clear ho0)))
  go_loopg [4] k (fun kq v4 w' => ∃ (x4_1 : Int), v4 = .int .i64 x4_1 ∧ Aside0 (spec_IsRing.l0 kq t191 x4_1 = some r) ∧ Aside0 (kq ≤ k) ∧ Aside0 (Kd.R k111 111 w' w.heap.size (fun _ => True) v192 t191) ∧ Aside0 (Below w.heap.size w w'))
  case atStart => exact ⟨(0), (by first | rfl | (simp; done) | (simp [*]; done)), H', ⟨Nat.le_refl _⟩, ⟨by (with_reducible repeat (first | apply Kd.R_alloc | apply Kd.R_drewN | apply Kd.R_drew)); exact HO193.out⟩, ⟨Hd.b_⟩⟩
  case round =>
   clear H'
   try clear c1
   try clear p2
   try clear c3
   obtain ⟨x4_1, rfl, HA, HK1, HO_3, HB⟩ := hrel
   cases gk with
   | zero => exact absurd HA.out (by simp [spec_IsRing.l0])
   | succ k1 =>
    have H := HA.out
    clear HA
    simp only [spec_IsRing.l0] at H
    by_cases c6 : x4_1 < (t191.length : Int)
    ·
     rw [if_pos c6] at H
     have c6b0 : decide (x4_1 < (t191.length : Int)) = true := decide_eq_true c6
     clear c6
     by_cases c7 : 0 ≤ x4_1
     ·
      rw [if_pos c7] at H
      have c7b0 : decide (0 ≤ x4_1) = true := decide_eq_true c7
      clear c7
      replace H := Option.bind_eq_some_iff.mp H
      obtain ⟨t195, A80, H⟩ := H
      replace H : (if t195 = true then (spec_IsRing.l1 k1 t191 x4_1 0) else (some false)) = some r := H
      have A8 := Aside0.mk A80
      clear A80
      by_cases c9 : t195 = true
      ·
       subst c9
       have H1 : (spec_IsRing.l1 k1 t191 x4_1 0) = some r := by rw [if_pos rfl] at H; exact H
       clear H
       have H := H1
       clear H1
       have H' := Aside0.mk H
       clear H
       obtain ⟨Ao10, co10, eo10⟩ := Kd.R_slice HO_3.out
       subst eo10
       have p194 : 0 ≤ (x4_1 : Int) := of_decide_eq_true Hd.a_
       have q194 : x4_1 < (t191.length : Int) := of_decide_eq_true Hd.a_
       obtain ⟨ad194, e194, hx194_0, hx194_1, hx194_2, hx194_3⟩ := at_T111 (Kd.R_reads' HO_3.out).2.2 x4_1 p194 q194
       cases e194
       replace p194 := eq_true p194
       replace q194 := eq_true q194
       go_wp2_with (first | ((with_reducible refine gate_callee (f := 137) rfl ?_); refine goesL_ (some 23) rfl rfl Try.func137 (by kernel_rfl) rfl #[.agg #[.int .i64 ((rd_T111 t191 x4_1).f0.f0), .int .i64 ((rd_T111 t191 x4_1).f0.f1), .int .i64 ((rd_T111 t191 x4_1).f1.f0), .int .i64 ((rd_T111 t191 x4_1).f1.f1)]] rfl Hd.m_ ?_; (with_reducible refine (spec_IsSegment.calls ((rd_T111 t191 x4_1).f0.f0) ((rd_T111 t191 x4_1).f0.f1) ((rd_T111 t191 x4_1).f1.f0) ((rd_T111 t191 x4_1).f1.f1) true _ A8.out).mono ?_); rintro e w11 ⟨rfl, hb⟩; refine ⟨_, rfl, ?_⟩; replace HO_3 := Aside0.mk (Kd.R_below (Hd.r_ HO_3) hb); replace HB := Aside0.mk (below_step Hd.b_ hb); (try clear hb); (try clear hb2); (try clear hk); (try clear hi)))
       go_loopg [5] k1 (fun kq v5 w' => ∃ (x5_2 : Int), v5 = .int .i64 x5_2 ∧ Aside0 (spec_IsRing.l1 kq t191 x4_1 x5_2 = some r) ∧ Aside0 (kq ≤ k1) ∧ Aside0 (Kd.R k111 111 w' w.heap.size (fun _ => True) (.slice (some ad194) t191.length co10) t191) ∧ Aside0 (Below w.heap.size w w'))
       case atStart => exact ⟨(0), (by first | rfl | (simp; done) | (simp [*]; done)), H', ⟨Nat.le_refl _⟩, ⟨by (with_reducible repeat (first | apply Kd.R_alloc | apply Kd.R_drewN | apply Kd.R_drew)); exact HO_3.out⟩, ⟨Hd.b_⟩⟩
       case round =>
        clear H'
        try clear c1
        try clear p1
        try clear q1
        try clear hx1
        try clear p2
        try clear c3
        try clear c6
        try clear c6b0
        try clear c7
        try clear c7b0
        try clear c8
        try clear c9
        try clear hx194_0
        try clear hx194_1
        try clear hx194_2
        try clear hx194_3
        try clear p194
        try clear p2
        try clear q194
        obtain ⟨x5_2, rfl, HA, HK2, HO_3, HB⟩ := hrel
        cases gk with
        | zero => exact absurd HA.out (by simp [spec_IsRing.l1])
        | succ k2 =>
         have H := HA.out
         clear HA
         simp only [spec_IsRing.l1] at H
         by_cases c12 : x5_2 < x4_1
         ·
          rw [if_pos c12] at H
          have c12b0 : decide (x5_2 < x4_1) = true := decide_eq_true c12
          clear c12
          have HC13 := Aside0.mk H
          clear H
          go_upto_region 13 with (fail)
          go_cut [44] (fun v44 wc => ∃ (kq : Nat) (x44_12 : Bool), v44 = .bool x44_12 ∧ Aside0 (spec_IsRing.j2 kq t191 x4_1 x5_2 0 x44_12 = some r) ∧ Aside0 (kq ≤ k2) ∧ Aside0 (Kd.R k111 111 wc w.heap.size (fun _ => True) (.slice (some ad194) t191.length co10) t191) ∧ Aside0 (Below w.heap.size w wc))
          case first =>
           have H := HC13.out
           clear HC13
           by_cases c14 : (wrap64 (x5_2 + 1)) = x4_1
           ·
            rw [if_pos c14] at H
            have c14b0 : ((wrap64 (x5_2 + 1)) == x4_1) = true := beq_iff_eq.mpr c14
            have c14b1 : ((wrap64 (x5_2 + 1)) != x4_1) = false := bne_eq_false_iff_eq.mpr c14
            clear c14
            (first | rw [c14b0] | (simp only [i64_w, i32_w]; rw [c14b0]) | skip)
            have H' := Aside0.mk H
            clear H
            go_wp2
            go_meet
            case rel => exact ⟨_, (true), (by first | rfl | (simp; done) | (simp [*]; done)), H', ⟨by have := HK1.out; have := HK2.out; first | omega | exact Nat.le_refl _⟩, ⟨by (with_reducible repeat (first | apply Kd.R_alloc | apply Kd.R_drewN | apply Kd.R_drew)); exact HO_3.out⟩, ⟨Hd.b_⟩⟩
           ·
            rw [if_neg c14] at H
            have c14b0 : ((wrap64 (x5_2 + 1)) == x4_1) = false := beq_eq_false_iff_ne.mpr c14
            have c14b1 : ((wrap64 (x5_2 + 1)) != x4_1) = true := bne_iff_ne.mpr c14
            (first | rw [c14b0] | (simp only [i64_w, i32_w]; rw [c14b0]) | skip)
            by_cases c15 : x5_2 = 0
            ·
             rw [if_pos c15] at H
             have c15b0 : (x5_2 == 0) = true := beq_iff_eq.mpr c15
             have c15b1 : (x5_2 != 0) = false := bne_eq_false_iff_eq.mpr c15
             clear c15
             have H' := Aside0.mk H
             clear H
             go_wp2
             go_meet
             case rel => exact ⟨_, (((wrap64 (x4_1 + 1)) == (t191.length : Int))), (by first | rfl | (simp; done) | (simp [*]; done)), H', ⟨by have := HK1.out; have := HK2.out; first | omega | exact Nat.le_refl _⟩, ⟨by (with_reducible repeat (first | apply Kd.R_alloc | apply Kd.R_drewN | apply Kd.R_drew)); exact HO_3.out⟩, ⟨Hd.b_⟩⟩
            ·
             rw [if_neg c15] at H
             have c15b0 : (x5_2 == 0) = false := beq_eq_false_iff_ne.mpr c15
             have c15b1 : (x5_2 != 0) = true := bne_iff_ne.mpr c15
             have H' := Aside0.mk H
             clear H
             go_wp2
             go_meet
             case rel => exact ⟨_, (false), (by first | rfl | (simp; done) | (simp [*]; done)), H', ⟨by have := HK1.out; have := HK2.out; first | omega | exact Nat.le_refl _⟩, ⟨by (with_reducible repeat (first | apply Kd.R_alloc | apply Kd.R_drewN | apply Kd.R_drew)); exact HO_3.out⟩, ⟨Hd.b_⟩⟩
          case rest =>
           clear HC13
           try clear c1
           try clear p1
           try clear q1
           try clear hx1
           try clear p2
           try clear c3
           try clear c6
           try clear c6b0
           try clear p6
           try clear c7
           try clear c7b0
           try clear c8
           try clear c9
           try clear c12
           try clear c12b0
           try clear c13
           try clear c14
           try clear c14b0
           try clear c14b1
           try clear c15
           try clear c15b0
           try clear c15b1
           try clear hx194_0
           try clear hx194_1
           try clear hx194_2
           try clear hx194_3
           try clear p1
           try clear p194
           try clear p2
           try clear q1
           try clear q194
           obtain ⟨kq, x44_12, rfl, HA, HJ12, HO_3, HB⟩ := hcut
           cases kq with
           | zero => exact absurd HA.out (by simp [spec_IsRing.j2])
           | succ kj12 =>
            have H := HA.out
            clear HA
            simp only [spec_IsRing.j2] at H
            by_cases c16 : x44_12 = true
            ·
             subst c16
             have H1 : (if 0 ≤ x4_1 then (if x4_1 < (t191.length : Int) then (if 0 ≤ x5_2 then (if x5_2 < (t191.length : Int) then ((spec_HowMeet.f kj12 ((rd_T111 t191 x4_1).f0.f0) ((rd_T111 t191 x4_1).f0.f1) ((rd_T111 t191 x4_1).f1.f0) ((rd_T111 t191 x4_1).f1.f1) ((rd_T111 t191 x5_2).f0.f0) ((rd_T111 t191 x5_2).f0.f1) ((rd_T111 t191 x5_2).f1.f0) ((rd_T111 t191 x5_2).f1.f1)).bind fun t198 => (if t198 = 1 then (spec_IsRing.l1 kj12 t191 x4_1 (wrap64 (x5_2 + 1))) else (some false))) else (none)) else (none)) else (none)) else (none)) = some r := by rw [if_pos rfl] at H; exact H
             clear H
             have H := H1
             clear H1
             by_cases c17 : 0 ≤ x4_1
             ·
              rw [if_pos c17] at H
              have c17b0 : decide (0 ≤ x4_1) = true := decide_eq_true c17
              clear c17
              by_cases c18 : x4_1 < (t191.length : Int)
              ·
               rw [if_pos c18] at H
               have c18b0 : decide (x4_1 < (t191.length : Int)) = true := decide_eq_true c18
               clear c18
               by_cases c19 : 0 ≤ x5_2
               ·
                rw [if_pos c19] at H
                have c19b0 : decide (0 ≤ x5_2) = true := decide_eq_true c19
                clear c19
                by_cases c20 : x5_2 < (t191.length : Int)
                ·
                 rw [if_pos c20] at H
                 have c20b0 : decide (x5_2 < (t191.length : Int)) = true := decide_eq_true c20
                 clear c20
                 replace H := Option.bind_eq_some_iff.mp H
                 obtain ⟨t198, A210, H⟩ := H
                 replace H : (if t198 = 1 then (spec_IsRing.l1 kj12 t191 x4_1 (wrap64 (x5_2 + 1))) else (some false)) = some r := H
                 have A21 := Aside0.mk A210
                 clear A210
                 by_cases c22 : t198 = 1
                 ·
                  rw [if_pos c22] at H
                  have c22b0 : (t198 == 1) = true := beq_iff_eq.mpr c22
                  have c22b1 : (t198 != 1) = false := bne_eq_false_iff_eq.mpr c22
                  clear c22
                  have H' := Aside0.mk H
                  clear H
                  try go_wp2
                  replace HO_3 := Aside0.mk (Kd.R_drew HO_3.out)
                  replace HB := Aside0.mk (below_drew1 HB.out)
                  have p196 : 0 ≤ (x4_1 : Int) := of_decide_eq_true Hd.a_
                  have q196 : x4_1 < (t191.length : Int) := of_decide_eq_true Hd.a_
                  obtain ⟨ad196, e196, hx196_0, hx196_1, hx196_2, hx196_3⟩ := at_T111 (Kd.R_reads' HO_3.out).2.2 x4_1 p196 q196
                  obtain rfl : ad194 = ad196 := (by injection e196)
                  replace p196 := eq_true p196
                  replace q196 := eq_true q196
                  have p197 : 0 ≤ (x5_2 : Int) := of_decide_eq_true Hd.a_
                  have q197 : x5_2 < (t191.length : Int) := of_decide_eq_true Hd.a_
                  obtain ⟨ad197, e197, hx197_0, hx197_1, hx197_2, hx197_3⟩ := at_T111 (Kd.R_reads' HO_3.out).2.2 x5_2 p197 q197
                  obtain rfl : ad194 = ad197 := (by injection e197)
                  replace p197 := eq_true p197
                  replace q197 := eq_true q197
                  have s0_ := Hd.HW.x (W0 := wc.drew) hx196_0
                  have s1_ := Hd.HW.x (W0 := wc.drew) hx196_1
                  have s2_ := Hd.HW.x (W0 := wc.drew) hx196_2
                  have s3_ := Hd.HW.x (W0 := wc.drew) hx196_3
                  have s4_ := Hd.HW.x (W0 := wc.drew) hx197_0
                  have s5_ := Hd.HW.x (W0 := wc.drew) hx197_1
                  have s6_ := Hd.HW.x (W0 := wc.drew) hx197_2
                  have s7_ := Hd.HW.x (W0 := wc.drew) hx197_3
                  refine Hd.HW.region (by kernel_rfl) (by kernel_rfl) ?_
                  repeat (go_big_quiet_step ((first | (go_at_call 129; with_reducible exact Hd.HW.c (spec_HowMeet.calls kj12 ((rd_T111 t191 x4_1).f0.f0) ((rd_T111 t191 x4_1).f0.f1) ((rd_T111 t191 x4_1).f1.f0) ((rd_T111 t191 x4_1).f1.f1) ((rd_T111 t191 x5_2).f0.f0) ((rd_T111 t191 x5_2).f0.f1) ((rd_T111 t191 x5_2).f1.f0) ((rd_T111 t191 x5_2).f1.f1) t198 _ A21.out)))))
                  refine wpQuiet_nil ?_
                  intro _ hq_
                  obtain ⟨q_, rfl⟩ := hq_
                  clear s0_ s1_ s2_ s3_ s4_ s5_ s6_ s7_
                  replace HO_3 := Aside0.mk (Kd.R_below HO_3.out q_.b)
                  replace HB := Aside0.mk (below_step HB.out q_.b)
                  replace hx196_0 := q_.cell hx196_0
                  replace hx196_1 := q_.cell hx196_1
                  replace hx196_2 := q_.cell hx196_2
                  replace hx196_3 := q_.cell hx196_3
                  replace hx197_0 := q_.cell hx197_0
                  replace hx197_1 := q_.cell hx197_1
                  replace hx197_2 := q_.cell hx197_2
                  replace hx197_3 := q_.cell hx197_3
                  generalize q_.W = w24 at HO_3 HB hx196_0 hx196_1 hx196_2 hx196_3 hx197_0 hx197_1 hx197_2 hx197_3 ⊢
                  try simp only [i64_w, i32_w]
                  try go_wp2
                  go_roundg kj12
                  case measure => have := HK1.out; have := HK2.out; have := HJ12.out; omega
                  case rel => exact ⟨(wrap64 (x5_2 + 1)), (by first | rfl | (simp; done) | (simp [*]; done)), H', ⟨by have := HK1.out; have := HK2.out; have := HJ12.out; omega⟩, ⟨by (with_reducible repeat (first | apply Kd.R_alloc | apply Kd.R_drewN | apply Kd.R_drew)); exact HO_3.out⟩, ⟨Hd.b_⟩⟩
                 ·
                  rw [if_neg c22] at H
                  have c22b0 : (t198 == 1) = false := beq_eq_false_iff_ne.mpr c22
                  have c22b1 : (t198 != 1) = true := bne_iff_ne.mpr c22
                  obtain rfl := Option.some.inj H
                  try go_wp2
                  replace HO_3 := Aside0.mk (Kd.R_drew HO_3.out)
                  replace HB := Aside0.mk (below_drew1 HB.out)
                  have p196 : 0 ≤ (x4_1 : Int) := of_decide_eq_true Hd.a_
                  have q196 : x4_1 < (t191.length : Int) := of_decide_eq_true Hd.a_
                  obtain ⟨ad196, e196, hx196_0, hx196_1, hx196_2, hx196_3⟩ := at_T111 (Kd.R_reads' HO_3.out).2.2 x4_1 p196 q196
                  obtain rfl : ad194 = ad196 := (by injection e196)
                  replace p196 := eq_true p196
                  replace q196 := eq_true q196
                  have p197 : 0 ≤ (x5_2 : Int) := of_decide_eq_true Hd.a_
                  have q197 : x5_2 < (t191.length : Int) := of_decide_eq_true Hd.a_
                  obtain ⟨ad197, e197, hx197_0, hx197_1, hx197_2, hx197_3⟩ := at_T111 (Kd.R_reads' HO_3.out).2.2 x5_2 p197 q197
                  obtain rfl : ad194 = ad197 := (by injection e197)
                  replace p197 := eq_true p197
                  replace q197 := eq_true q197
                  have s0_ := Hd.HW.x (W0 := wc.drew) hx196_0
                  have s1_ := Hd.HW.x (W0 := wc.drew) hx196_1
                  have s2_ := Hd.HW.x (W0 := wc.drew) hx196_2
                  have s3_ := Hd.HW.x (W0 := wc.drew) hx196_3
                  have s4_ := Hd.HW.x (W0 := wc.drew) hx197_0
                  have s5_ := Hd.HW.x (W0 := wc.drew) hx197_1
                  have s6_ := Hd.HW.x (W0 := wc.drew) hx197_2
                  have s7_ := Hd.HW.x (W0 := wc.drew) hx197_3
                  refine Hd.HW.region (by kernel_rfl) (by kernel_rfl) ?_
                  repeat (go_big_quiet_step ((first | (go_at_call 129; with_reducible exact Hd.HW.c (spec_HowMeet.calls kj12 ((rd_T111 t191 x4_1).f0.f0) ((rd_T111 t191 x4_1).f0.f1) ((rd_T111 t191 x4_1).f1.f0) ((rd_T111 t191 x4_1).f1.f1) ((rd_T111 t191 x5_2).f0.f0) ((rd_T111 t191 x5_2).f0.f1) ((rd_T111 t191 x5_2).f1.f0) ((rd_T111 t191 x5_2).f1.f1) t198 _ A21.out)))))
                  refine wpQuiet_nil ?_
                  intro _ hq_
                  obtain ⟨q_, rfl⟩ := hq_
                  clear s0_ s1_ s2_ s3_ s4_ s5_ s6_ s7_
                  replace HO_3 := Aside0.mk (Kd.R_below HO_3.out q_.b)
                  replace HB := Aside0.mk (below_step HB.out q_.b)
                  replace hx196_0 := q_.cell hx196_0
                  replace hx196_1 := q_.cell hx196_1
                  replace hx196_2 := q_.cell hx196_2
                  replace hx196_3 := q_.cell hx196_3
                  replace hx197_0 := q_.cell hx197_0
                  replace hx197_1 := q_.cell hx197_1
                  replace hx197_2 := q_.cell hx197_2
                  replace hx197_3 := q_.cell hx197_3
                  generalize q_.W = w26 at HO_3 HB hx196_0 hx196_1 hx196_2 hx196_3 hx197_0 hx197_1 hx197_2 hx197_3 ⊢
                  try simp only [i64_w, i32_w]
                  try go_wp2
                  go_ret
                  exact ⟨Hd.e_, Hd.b_⟩
                ·
                 rw [if_neg c20] at H
                 exact absurd H (by simp)
               ·
                rw [if_neg c19] at H
                exact absurd H (by simp)
              ·
               rw [if_neg c18] at H
               exact absurd H (by simp)
             ·
              rw [if_neg c17] at H
              exact absurd H (by simp)
            ·
             replace c16 := Bool.eq_false_iff.mpr c16
             subst c16
             have H1 : (if 0 ≤ x4_1 then (if x4_1 < (t191.length : Int) then (if 0 ≤ x5_2 then (if x5_2 < (t191.length : Int) then ((spec_HowMeet.f kj12 ((rd_T111 t191 x4_1).f0.f0) ((rd_T111 t191 x4_1).f0.f1) ((rd_T111 t191 x4_1).f1.f0) ((rd_T111 t191 x4_1).f1.f1) ((rd_T111 t191 x5_2).f0.f0) ((rd_T111 t191 x5_2).f0.f1) ((rd_T111 t191 x5_2).f1.f0) ((rd_T111 t191 x5_2).f1.f1)).bind fun t201 => (if t201 = 0 then (spec_IsRing.l1 kj12 t191 x4_1 (wrap64 (x5_2 + 1))) else (some false))) else (none)) else (none)) else (none)) else (none)) = some r := by rw [if_neg (show ¬ (false = true) by decide)] at H; exact H
             clear H
             have H := H1
             clear H1
             by_cases c27 : 0 ≤ x4_1
             ·
              rw [if_pos c27] at H
              have c27b0 : decide (0 ≤ x4_1) = true := decide_eq_true c27
              clear c27
              by_cases c28 : x4_1 < (t191.length : Int)
              ·
               rw [if_pos c28] at H
               have c28b0 : decide (x4_1 < (t191.length : Int)) = true := decide_eq_true c28
               clear c28
               by_cases c29 : 0 ≤ x5_2
               ·
                rw [if_pos c29] at H
                have c29b0 : decide (0 ≤ x5_2) = true := decide_eq_true c29
                clear c29
                by_cases c30 : x5_2 < (t191.length : Int)
                ·
                 rw [if_pos c30] at H
                 have c30b0 : decide (x5_2 < (t191.length : Int)) = true := decide_eq_true c30
                 clear c30
                 replace H := Option.bind_eq_some_iff.mp H
                 obtain ⟨t201, A310, H⟩ := H
                 replace H : (if t201 = 0 then (spec_IsRing.l1 kj12 t191 x4_1 (wrap64 (x5_2 + 1))) else (some false)) = some r := H
                 have A31 := Aside0.mk A310
                 clear A310
                 by_cases c32 : t201 = 0
                 ·
                  rw [if_pos c32] at H
                  have c32b0 : (t201 == 0) = true := beq_iff_eq.mpr c32
                  have c32b1 : (t201 != 0) = false := bne_eq_false_iff_eq.mpr c32
                  clear c32
                  have H' := Aside0.mk H
                  clear H
                  try go_wp2
                  replace HO_3 := Aside0.mk (Kd.R_drew HO_3.out)
                  replace HB := Aside0.mk (below_drew1 HB.out)
                  have p199 : 0 ≤ (x4_1 : Int) := of_decide_eq_true Hd.a_
                  have q199 : x4_1 < (t191.length : Int) := of_decide_eq_true Hd.a_
                  obtain ⟨ad199, e199, hx199_0, hx199_1, hx199_2, hx199_3⟩ := at_T111 (Kd.R_reads' HO_3.out).2.2 x4_1 p199 q199
                  obtain rfl : ad194 = ad199 := (by injection e199)
                  replace p199 := eq_true p199
                  replace q199 := eq_true q199
                  have p200 : 0 ≤ (x5_2 : Int) := of_decide_eq_true Hd.a_
                  have q200 : x5_2 < (t191.length : Int) := of_decide_eq_true Hd.a_
                  obtain ⟨ad200, e200, hx200_0, hx200_1, hx200_2, hx200_3⟩ := at_T111 (Kd.R_reads' HO_3.out).2.2 x5_2 p200 q200
                  obtain rfl : ad194 = ad200 := (by injection e200)
                  replace p200 := eq_true p200
                  replace q200 := eq_true q200
                  have s0_ := Hd.HW.x (W0 := wc.drew) hx199_0
                  have s1_ := Hd.HW.x (W0 := wc.drew) hx199_1
                  have s2_ := Hd.HW.x (W0 := wc.drew) hx199_2
                  have s3_ := Hd.HW.x (W0 := wc.drew) hx199_3
                  have s4_ := Hd.HW.x (W0 := wc.drew) hx200_0
                  have s5_ := Hd.HW.x (W0 := wc.drew) hx200_1
                  have s6_ := Hd.HW.x (W0 := wc.drew) hx200_2
                  have s7_ := Hd.HW.x (W0 := wc.drew) hx200_3
                  refine Hd.HW.region (by kernel_rfl) (by kernel_rfl) ?_
                  repeat (go_big_quiet_step ((first | (go_at_call 129; with_reducible exact Hd.HW.c (spec_HowMeet.calls kj12 ((rd_T111 t191 x4_1).f0.f0) ((rd_T111 t191 x4_1).f0.f1) ((rd_T111 t191 x4_1).f1.f0) ((rd_T111 t191 x4_1).f1.f1) ((rd_T111 t191 x5_2).f0.f0) ((rd_T111 t191 x5_2).f0.f1) ((rd_T111 t191 x5_2).f1.f0) ((rd_T111 t191 x5_2).f1.f1) t201 _ A31.out)))))
                  refine wpQuiet_nil ?_
                  intro _ hq_
                  obtain ⟨q_, rfl⟩ := hq_
                  clear s0_ s1_ s2_ s3_ s4_ s5_ s6_ s7_
                  replace HO_3 := Aside0.mk (Kd.R_below HO_3.out q_.b)
                  replace HB := Aside0.mk (below_step HB.out q_.b)
                  replace hx199_0 := q_.cell hx199_0
                  replace hx199_1 := q_.cell hx199_1
                  replace hx199_2 := q_.cell hx199_2
                  replace hx199_3 := q_.cell hx199_3
                  replace hx200_0 := q_.cell hx200_0
                  replace hx200_1 := q_.cell hx200_1
                  replace hx200_2 := q_.cell hx200_2
                  replace hx200_3 := q_.cell hx200_3
                  generalize q_.W = w34 at HO_3 HB hx199_0 hx199_1 hx199_2 hx199_3 hx200_0 hx200_1 hx200_2 hx200_3 ⊢
                  try simp only [i64_w, i32_w]
                  try go_wp2
                  go_roundg kj12
                  case measure => have := HK1.out; have := HK2.out; have := HJ12.out; omega
                  case rel => exact ⟨(wrap64 (x5_2 + 1)), (by first | rfl | (simp; done) | (simp [*]; done)), H', ⟨by have := HK1.out; have := HK2.out; have := HJ12.out; omega⟩, ⟨by (with_reducible repeat (first | apply Kd.R_alloc | apply Kd.R_drewN | apply Kd.R_drew)); exact HO_3.out⟩, ⟨Hd.b_⟩⟩
                 ·
                  rw [if_neg c32] at H
                  have c32b0 : (t201 == 0) = false := beq_eq_false_iff_ne.mpr c32
                  have c32b1 : (t201 != 0) = true := bne_iff_ne.mpr c32
                  obtain rfl := Option.some.inj H
                  try go_wp2
                  replace HO_3 := Aside0.mk (Kd.R_drew HO_3.out)
                  replace HB := Aside0.mk (below_drew1 HB.out)
                  have p199 : 0 ≤ (x4_1 : Int) := of_decide_eq_true Hd.a_
                  have q199 : x4_1 < (t191.length : Int) := of_decide_eq_true Hd.a_
                  obtain ⟨ad199, e199, hx199_0, hx199_1, hx199_2, hx199_3⟩ := at_T111 (Kd.R_reads' HO_3.out).2.2 x4_1 p199 q199
                  obtain rfl : ad194 = ad199 := (by injection e199)
                  replace p199 := eq_true p199
                  replace q199 := eq_true q199
                  have p200 : 0 ≤ (x5_2 : Int) := of_decide_eq_true Hd.a_
                  have q200 : x5_2 < (t191.length : Int) := of_decide_eq_true Hd.a_
                  obtain ⟨ad200, e200, hx200_0, hx200_1, hx200_2, hx200_3⟩ := at_T111 (Kd.R_reads' HO_3.out).2.2 x5_2 p200 q200
                  obtain rfl : ad194 = ad200 := (by injection e200)
                  replace p200 := eq_true p200
                  replace q200 := eq_true q200
                  have s0_ := Hd.HW.x (W0 := wc.drew) hx199_0
                  have s1_ := Hd.HW.x (W0 := wc.drew) hx199_1
                  have s2_ := Hd.HW.x (W0 := wc.drew) hx199_2
                  have s3_ := Hd.HW.x (W0 := wc.drew) hx199_3
                  have s4_ := Hd.HW.x (W0 := wc.drew) hx200_0
                  have s5_ := Hd.HW.x (W0 := wc.drew) hx200_1
                  have s6_ := Hd.HW.x (W0 := wc.drew) hx200_2
                  have s7_ := Hd.HW.x (W0 := wc.drew) hx200_3
                  refine Hd.HW.region (by kernel_rfl) (by kernel_rfl) ?_
                  repeat (go_big_quiet_step ((first | (go_at_call 129; with_reducible exact Hd.HW.c (spec_HowMeet.calls kj12 ((rd_T111 t191 x4_1).f0.f0) ((rd_T111 t191 x4_1).f0.f1) ((rd_T111 t191 x4_1).f1.f0) ((rd_T111 t191 x4_1).f1.f1) ((rd_T111 t191 x5_2).f0.f0) ((rd_T111 t191 x5_2).f0.f1) ((rd_T111 t191 x5_2).f1.f0) ((rd_T111 t191 x5_2).f1.f1) t201 _ A31.out)))))
                  refine wpQuiet_nil ?_
                  intro _ hq_
                  obtain ⟨q_, rfl⟩ := hq_
                  clear s0_ s1_ s2_ s3_ s4_ s5_ s6_ s7_
                  replace HO_3 := Aside0.mk (Kd.R_below HO_3.out q_.b)
                  replace HB := Aside0.mk (below_step HB.out q_.b)
                  replace hx199_0 := q_.cell hx199_0
                  replace hx199_1 := q_.cell hx199_1
                  replace hx199_2 := q_.cell hx199_2
                  replace hx199_3 := q_.cell hx199_3
                  replace hx200_0 := q_.cell hx200_0
                  replace hx200_1 := q_.cell hx200_1
                  replace hx200_2 := q_.cell hx200_2
                  replace hx200_3 := q_.cell hx200_3
                  generalize q_.W = w36 at HO_3 HB hx199_0 hx199_1 hx199_2 hx199_3 hx200_0 hx200_1 hx200_2 hx200_3 ⊢
                  try simp only [i64_w, i32_w]
                  try go_wp2
                  go_ret
                  exact ⟨Hd.e_, Hd.b_⟩
                ·
                 rw [if_neg c30] at H
                 exact absurd H (by simp)
               ·
                rw [if_neg c29] at H
                exact absurd H (by simp)
              ·
               rw [if_neg c28] at H
               exact absurd H (by simp)
             ·
              rw [if_neg c27] at H
              exact absurd H (by simp)
         ·
          rw [if_neg c12] at H
          have c12b0 : decide (x5_2 < x4_1) = false := decide_eq_false c12
          clear c12
          have H' := Aside0.mk H
          clear H
          go_wp2
          go_roundg k2
          case measure => have := HK1.out; have := HK2.out; omega
          case rel => exact ⟨(wrap64 (x4_1 + 1)), (by first | rfl | (simp; done) | (simp [*]; done)), H', ⟨by have := HK1.out; have := HK2.out; omega⟩, ⟨by (with_reducible repeat (first | apply Kd.R_alloc | apply Kd.R_drewN | apply Kd.R_drew)); exact HO_3.out⟩, ⟨Hd.b_⟩⟩
      ·
       replace c9 := Bool.eq_false_iff.mpr c9
       subst c9
       have H1 : (some false) = some r := by rw [if_neg (show ¬ (false = true) by decide)] at H; exact H
       clear H
       have H := H1
       clear H1
       obtain rfl := Option.some.inj H
       obtain ⟨Ao37, co37, eo37⟩ := Kd.R_slice HO_3.out
       subst eo37
       have p194 : 0 ≤ (x4_1 : Int) := of_decide_eq_true Hd.a_
       have q194 : x4_1 < (t191.length : Int) := of_decide_eq_true Hd.a_
       obtain ⟨ad194, e194, hx194_0, hx194_1, hx194_2, hx194_3⟩ := at_T111 (Kd.R_reads' HO_3.out).2.2 x4_1 p194 q194
       cases e194
       replace p194 := eq_true p194
       replace q194 := eq_true q194
       go_wp2_with (first | ((with_reducible refine gate_callee (f := 137) rfl ?_); refine goesL_ (some 23) rfl rfl Try.func137 (by kernel_rfl) rfl #[.agg #[.int .i64 ((rd_T111 t191 x4_1).f0.f0), .int .i64 ((rd_T111 t191 x4_1).f0.f1), .int .i64 ((rd_T111 t191 x4_1).f1.f0), .int .i64 ((rd_T111 t191 x4_1).f1.f1)]] rfl Hd.m_ ?_; (with_reducible refine (spec_IsSegment.calls ((rd_T111 t191 x4_1).f0.f0) ((rd_T111 t191 x4_1).f0.f1) ((rd_T111 t191 x4_1).f1.f0) ((rd_T111 t191 x4_1).f1.f1) false _ A8.out).mono ?_); rintro e w38 ⟨rfl, hb⟩; refine ⟨_, rfl, ?_⟩; replace HO_3 := Aside0.mk (Kd.R_below (Hd.r_ HO_3) hb); replace HB := Aside0.mk (below_step Hd.b_ hb); (try clear hb); (try clear hb2); (try clear hk); (try clear hi)))
       go_ret
       exact ⟨Hd.e_, Hd.b_⟩
     ·
      rw [if_neg c7] at H
      exact absurd H (by simp)
    ·
     rw [if_neg c6] at H
     have c6b0 : decide (x4_1 < (t191.length : Int)) = false := decide_eq_false c6
     clear c6
     obtain rfl := Option.some.inj H
     obtain ⟨Ao39, co39, eo39⟩ := Kd.R_slice HO_3.out
     subst eo39
     go_wp2
     go_ret
     exact ⟨Hd.e_, Hd.b_⟩
 ·
  replace c3 := Bool.eq_false_iff.mpr c3
  subst c3
  have H1 : (some false) = some r := by rw [if_neg (show ¬ (false = true) by decide)] at H; exact H
  clear H
  have H := H1
  clear H1
  obtain rfl := Option.some.inj H
  go_enter Try.func82, Try.ntmps82
  go_wp2_with (first | ((with_reducible refine gate_callee (f := 83) rfl ?_); refine goesL_ (some 9) rfl rfl Try.func83 (by kernel_rfl) rfl #[.int .i64 (l0.length : Int), .int .i64 3, .int .i64 10] rfl Hd.m_ ?_; (with_reducible refine (spec_l1In.calls (l0.length : Int) 3 10 false _ A2.out).mono ?_); rintro e w' ⟨rfl, ⟨nd, rfl⟩⟩; refine ⟨_, rfl, ?_⟩))
  go_ret
  exact ⟨Hd.e_, Hd.b_⟩
def spec_TwiceArea.l0 : Nat → List (S49) → Int → List (S111) → Int → Option (Int)
 | 0, _, _, _, _ => none
 | k + 1, x0, x3, x4, x5 => if x5 < (x4.length : Int) then ((spec_IsRing.f k x0).bind fun t205 => (if t205 = true then (if 0 ≤ x5 then (spec_TwiceArea.l0 k x0 (wrap64 ((wrap64 (x3 + (wrap64 (((rd_T111 x4 x5).f0.f0) * ((rd_T111 x4 x5).f1.f1))))) - (wrap64 (((rd_T111 x4 x5).f0.f1) * ((rd_T111 x4 x5).f1.f0))))) x4 (wrap64 (x5 + 1))) else (none)) else (some x3))) else (some x3)
def spec_TwiceArea.f (k : Nat) (l0 : List (S49)) : Option (Int) := (spec_l7Segments.f k l0).bind fun t202 => (spec_TwiceArea.l0 k l0 0 t202 0)
set_option maxHeartbeats 8000000 in
set_option maxRecDepth 100000 in
theorem spec_TwiceArea.calls (k : Nat) (A0 : Option Addr) (c0 : Nat) (l0 : List (S49)) (r : Int) (w : World) (hr0 : Kd.C k49 w A0 l0.length l0) (hc0 : l0.length ≤ c0) (h : spec_TwiceArea.f k l0 = some r) :
  Calls Try.prog 138 #[.slice A0 l0.length c0] w fun e w' => e = .returned (.int .i64 r) ∧ Below w.heap.size w w' := by
 have HR0 := Aside0.mk hr0
 have HC0 := Aside0.mk hc0
 clear hr0 hc0
 have HB := Aside0.mk (Below.refl w.heap.size w)
 have H : ((spec_l7Segments.f k l0).bind fun t202 => (spec_TwiceArea.l0 k l0 0 t202 0)) = some r := h
 clear h
 replace H := Option.bind_eq_some_iff.mp H
 obtain ⟨t202, A20, H⟩ := H
 replace H : (spec_TwiceArea.l0 k l0 0 t202 0) = some r := H
 have A2 := Aside0.mk A20
 clear A20
 have H' := Aside0.mk H
 clear H
 go_enter Try.func138, Try.ntmps138
 go_wp2_with (first | (go_at_call 136; (with_reducible refine (spec_l7Segments.calls k _ _ l0 t202 _ ?side1 ?side2 A2.out).mono ?_); (case side1 => repeat (first | exact HR0.out | (with_reducible refine Kd.C_alloc ?_ _) | (with_reducible refine Kd.C_drewN ?_ _) | (with_reducible refine Kd.C_drew ?_))); (case side2 => exact HC0.out); rintro e w3 ⟨v203, rfl, ho0, hb⟩; have HO204 := Aside0.mk (Kd.R_lower ho0 (below_size Hd.b_)); replace HB := Aside0.mk (below_step Hd.b_ hb); (try clear hb); (try clear hb2); (try clear hk); (try clear hi); (try clear ho0)))
 repeat (go_quiet (first | (go_at_call 136; (with_reducible refine (spec_l7Segments.calls k _ _ l0 t202 _ ?side1 ?side2 A2.out).mono ?_); (case side1 => repeat (first | exact HR0.out | (with_reducible refine Kd.C_alloc ?_ _) | (with_reducible refine Kd.C_drewN ?_ _) | (with_reducible refine Kd.C_drew ?_))); (case side2 => exact HC0.out); rintro e w3 ⟨v203, rfl, ho0, hb⟩; have HO204 := Aside0.mk (Kd.R_lower ho0 (below_size Hd.b_)); replace HB := Aside0.mk (below_step Hd.b_ hb); (try clear hb); (try clear hb2); (try clear hk); (try clear hi); (try clear ho0))); try go_wp2_with (first | (go_at_call 136; (with_reducible refine (spec_l7Segments.calls k _ _ l0 t202 _ ?side1 ?side2 A2.out).mono ?_); (case side1 => repeat (first | exact HR0.out | (with_reducible refine Kd.C_alloc ?_ _) | (with_reducible refine Kd.C_drewN ?_ _) | (with_reducible refine Kd.C_drew ?_))); (case side2 => exact HC0.out); rintro e w3 ⟨v203, rfl, ho0, hb⟩; have HO204 := Aside0.mk (Kd.R_lower ho0 (below_size Hd.b_)); replace HB := Aside0.mk (below_step Hd.b_ hb); (try clear hb); (try clear hb2); (try clear hk); (try clear hi); (try clear ho0))))
 go_loopg [3, 5] k (fun kq v3 v5 w' => ∃ (x3_1 : Int) (x5_1 : Int), v3 = .int .i64 x3_1 ∧ v5 = .int .i64 x5_1 ∧ Aside0 (spec_TwiceArea.l0 kq l0 x3_1 t202 x5_1 = some r) ∧ Aside0 (kq ≤ k) ∧ Aside0 (Kd.R k111 111 w' w.heap.size (fun _ => True) v203 t202) ∧ Aside0 (Below w.heap.size w w'))
 case atStart => exact ⟨(0), (0), (by first | rfl | (simp; done) | (simp [*]; done)), (by first | rfl | (simp; done) | (simp [*]; done)), H', ⟨Nat.le_refl _⟩, ⟨by (with_reducible repeat (first | apply Kd.R_alloc | apply Kd.R_drewN | apply Kd.R_drew)); exact HO204.out⟩, ⟨Hd.b_⟩⟩
 case round =>
  clear H'
  try clear c1
  try clear p2
  obtain ⟨x3_1, x5_1, rfl, rfl, HA, HK1, HO_4, HB⟩ := hrel
  cases gk with
  | zero => exact absurd HA.out (by simp [spec_TwiceArea.l0])
  | succ k1 =>
   have H := HA.out
   clear HA
   simp only [spec_TwiceArea.l0] at H
   by_cases c4 : x5_1 < (t202.length : Int)
   ·
    rw [if_pos c4] at H
    have c4b0 : decide (x5_1 < (t202.length : Int)) = true := decide_eq_true c4
    clear c4
    replace H := Option.bind_eq_some_iff.mp H
    obtain ⟨t205, A50, H⟩ := H
    replace H : (if t205 = true then (if 0 ≤ x5_1 then (spec_TwiceArea.l0 k1 l0 (wrap64 ((wrap64 (x3_1 + (wrap64 (((rd_T111 t202 x5_1).f0.f0) * ((rd_T111 t202 x5_1).f1.f1))))) - (wrap64 (((rd_T111 t202 x5_1).f0.f1) * ((rd_T111 t202 x5_1).f1.f0))))) t202 (wrap64 (x5_1 + 1))) else (none)) else (some x3_1)) = some r := H
    have A5 := Aside0.mk A50
    clear A50
    by_cases c6 : t205 = true
    ·
     subst c6
     have H1 : (if 0 ≤ x5_1 then (spec_TwiceArea.l0 k1 l0 (wrap64 ((wrap64 (x3_1 + (wrap64 (((rd_T111 t202 x5_1).f0.f0) * ((rd_T111 t202 x5_1).f1.f1))))) - (wrap64 (((rd_T111 t202 x5_1).f0.f1) * ((rd_T111 t202 x5_1).f1.f0))))) t202 (wrap64 (x5_1 + 1))) else (none)) = some r := by rw [if_pos rfl] at H; exact H
     clear H
     have H := H1
     clear H1
     by_cases c7 : 0 ≤ x5_1
     ·
      rw [if_pos c7] at H
      have c7b0 : decide (0 ≤ x5_1) = true := decide_eq_true c7
      clear c7
      have H' := Aside0.mk H
      clear H
      obtain ⟨Ao8, co8, eo8⟩ := Kd.R_slice HO_4.out
      subst eo8
      go_wp2_with (first | (go_at_call 82; (with_reducible refine (spec_IsRing.calls k1 _ _ l0 true _ ?side1 ?side2 A5.out).mono ?_); (case side1 => repeat (first | exact (Kd.C_below HR0.out HB.out) | (with_reducible refine Kd.C_alloc ?_ _) | (with_reducible refine Kd.C_drewN ?_ _) | (with_reducible refine Kd.C_drew ?_))); (case side2 => exact HC0.out); rintro e w9 ⟨rfl, hb⟩; replace HO_4 := Aside0.mk (Kd.R_below (Hd.r_ HO_4) hb); replace HB := Aside0.mk (below_step Hd.b_ hb); (try clear hb); (try clear hb2); (try clear hk); (try clear hi); have p206 : 0 ≤ (x5_1 : Int) := of_decide_eq_true Hd.a_; have q206 : x5_1 < (t202.length : Int) := of_decide_eq_true Hd.a_; obtain ⟨ad206, e206, hx206_0, hx206_1, hx206_2, hx206_3⟩ := at_T111 (Kd.R_reads' HO_4.out).2.2 x5_1 p206 q206; cases e206; replace p206 := eq_true p206; replace q206 := eq_true q206; have p207 : 0 ≤ (x5_1 : Int) := of_decide_eq_true Hd.a_; have q207 : x5_1 < (t202.length : Int) := of_decide_eq_true Hd.a_; obtain ⟨ad207, e207, hx207_0, hx207_1, hx207_2, hx207_3⟩ := at_T111 (Kd.R_reads' HO_4.out).2.2 x5_1 p207 q207; obtain rfl : ad206 = ad207 := (by injection e207); replace p207 := eq_true p207; replace q207 := eq_true q207; have p208 : 0 ≤ (x5_1 : Int) := of_decide_eq_true Hd.a_; have q208 : x5_1 < (t202.length : Int) := of_decide_eq_true Hd.a_; obtain ⟨ad208, e208, hx208_0, hx208_1, hx208_2, hx208_3⟩ := at_T111 (Kd.R_reads' HO_4.out).2.2 x5_1 p208 q208; obtain rfl : ad206 = ad208 := (by injection e208); replace p208 := eq_true p208; replace q208 := eq_true q208; have p209 : 0 ≤ (x5_1 : Int) := of_decide_eq_true Hd.a_; have q209 : x5_1 < (t202.length : Int) := of_decide_eq_true Hd.a_; obtain ⟨ad209, e209, hx209_0, hx209_1, hx209_2, hx209_3⟩ := at_T111 (Kd.R_reads' HO_4.out).2.2 x5_1 p209 q209; obtain rfl : ad206 = ad209 := (by injection e209); replace p209 := eq_true p209; replace q209 := eq_true q209))
      repeat (go_quiet (first | (go_at_call 82; (with_reducible refine (spec_IsRing.calls k1 _ _ l0 true _ ?side1 ?side2 A5.out).mono ?_); (case side1 => repeat (first | exact (Kd.C_below HR0.out HB.out) | (with_reducible refine Kd.C_alloc ?_ _) | (with_reducible refine Kd.C_drewN ?_ _) | (with_reducible refine Kd.C_drew ?_))); (case side2 => exact HC0.out); rintro e w9 ⟨rfl, hb⟩; replace HO_4 := Aside0.mk (Kd.R_below (Hd.r_ HO_4) hb); replace HB := Aside0.mk (below_step Hd.b_ hb); (try clear hb); (try clear hb2); (try clear hk); (try clear hi); have p206 : 0 ≤ (x5_1 : Int) := of_decide_eq_true Hd.a_; have q206 : x5_1 < (t202.length : Int) := of_decide_eq_true Hd.a_; obtain ⟨ad206, e206, hx206_0, hx206_1, hx206_2, hx206_3⟩ := at_T111 (Kd.R_reads' HO_4.out).2.2 x5_1 p206 q206; cases e206; replace p206 := eq_true p206; replace q206 := eq_true q206; have p207 : 0 ≤ (x5_1 : Int) := of_decide_eq_true Hd.a_; have q207 : x5_1 < (t202.length : Int) := of_decide_eq_true Hd.a_; obtain ⟨ad207, e207, hx207_0, hx207_1, hx207_2, hx207_3⟩ := at_T111 (Kd.R_reads' HO_4.out).2.2 x5_1 p207 q207; obtain rfl : ad206 = ad207 := (by injection e207); replace p207 := eq_true p207; replace q207 := eq_true q207; have p208 : 0 ≤ (x5_1 : Int) := of_decide_eq_true Hd.a_; have q208 : x5_1 < (t202.length : Int) := of_decide_eq_true Hd.a_; obtain ⟨ad208, e208, hx208_0, hx208_1, hx208_2, hx208_3⟩ := at_T111 (Kd.R_reads' HO_4.out).2.2 x5_1 p208 q208; obtain rfl : ad206 = ad208 := (by injection e208); replace p208 := eq_true p208; replace q208 := eq_true q208; have p209 : 0 ≤ (x5_1 : Int) := of_decide_eq_true Hd.a_; have q209 : x5_1 < (t202.length : Int) := of_decide_eq_true Hd.a_; obtain ⟨ad209, e209, hx209_0, hx209_1, hx209_2, hx209_3⟩ := at_T111 (Kd.R_reads' HO_4.out).2.2 x5_1 p209 q209; obtain rfl : ad206 = ad209 := (by injection e209); replace p209 := eq_true p209; replace q209 := eq_true q209)); try go_wp2_with (first | (go_at_call 82; (with_reducible refine (spec_IsRing.calls k1 _ _ l0 true _ ?side1 ?side2 A5.out).mono ?_); (case side1 => repeat (first | exact (Kd.C_below HR0.out HB.out) | (with_reducible refine Kd.C_alloc ?_ _) | (with_reducible refine Kd.C_drewN ?_ _) | (with_reducible refine Kd.C_drew ?_))); (case side2 => exact HC0.out); rintro e w9 ⟨rfl, hb⟩; replace HO_4 := Aside0.mk (Kd.R_below (Hd.r_ HO_4) hb); replace HB := Aside0.mk (below_step Hd.b_ hb); (try clear hb); (try clear hb2); (try clear hk); (try clear hi); have p206 : 0 ≤ (x5_1 : Int) := of_decide_eq_true Hd.a_; have q206 : x5_1 < (t202.length : Int) := of_decide_eq_true Hd.a_; obtain ⟨ad206, e206, hx206_0, hx206_1, hx206_2, hx206_3⟩ := at_T111 (Kd.R_reads' HO_4.out).2.2 x5_1 p206 q206; cases e206; replace p206 := eq_true p206; replace q206 := eq_true q206; have p207 : 0 ≤ (x5_1 : Int) := of_decide_eq_true Hd.a_; have q207 : x5_1 < (t202.length : Int) := of_decide_eq_true Hd.a_; obtain ⟨ad207, e207, hx207_0, hx207_1, hx207_2, hx207_3⟩ := at_T111 (Kd.R_reads' HO_4.out).2.2 x5_1 p207 q207; obtain rfl : ad206 = ad207 := (by injection e207); replace p207 := eq_true p207; replace q207 := eq_true q207; have p208 : 0 ≤ (x5_1 : Int) := of_decide_eq_true Hd.a_; have q208 : x5_1 < (t202.length : Int) := of_decide_eq_true Hd.a_; obtain ⟨ad208, e208, hx208_0, hx208_1, hx208_2, hx208_3⟩ := at_T111 (Kd.R_reads' HO_4.out).2.2 x5_1 p208 q208; obtain rfl : ad206 = ad208 := (by injection e208); replace p208 := eq_true p208; replace q208 := eq_true q208; have p209 : 0 ≤ (x5_1 : Int) := of_decide_eq_true Hd.a_; have q209 : x5_1 < (t202.length : Int) := of_decide_eq_true Hd.a_; obtain ⟨ad209, e209, hx209_0, hx209_1, hx209_2, hx209_3⟩ := at_T111 (Kd.R_reads' HO_4.out).2.2 x5_1 p209 q209; obtain rfl : ad206 = ad209 := (by injection e209); replace p209 := eq_true p209; replace q209 := eq_true q209)))
      go_roundg k1
      case measure => have := HK1.out; omega
      case rel => exact ⟨(wrap64 ((wrap64 (x3_1 + (wrap64 (((rd_T111 t202 x5_1).f0.f0) * ((rd_T111 t202 x5_1).f1.f1))))) - (wrap64 (((rd_T111 t202 x5_1).f0.f1) * ((rd_T111 t202 x5_1).f1.f0))))), (wrap64 (x5_1 + 1)), (by first | rfl | (simp; done) | (simp [*]; done)), (by first | rfl | (simp; done) | (simp [*]; done)), H', ⟨by have := HK1.out; omega⟩, ⟨by (with_reducible repeat (first | apply Kd.R_alloc | apply Kd.R_drewN | apply Kd.R_drew)); exact HO_4.out⟩, ⟨Hd.b_⟩⟩
     ·
      rw [if_neg c7] at H
      exact absurd H (by simp)
    ·
     replace c6 := Bool.eq_false_iff.mpr c6
     subst c6
     have H1 : (some x3_1) = some r := by rw [if_neg (show ¬ (false = true) by decide)] at H; exact H
     clear H
     have H := H1
     clear H1
     obtain rfl := Option.some.inj H
     obtain ⟨Ao10, co10, eo10⟩ := Kd.R_slice HO_4.out
     subst eo10
     go_wp2_with (first | (go_at_call 82; (with_reducible refine (spec_IsRing.calls k1 _ _ l0 false _ ?side1 ?side2 A5.out).mono ?_); (case side1 => repeat (first | exact (Kd.C_below HR0.out HB.out) | (with_reducible refine Kd.C_alloc ?_ _) | (with_reducible refine Kd.C_drewN ?_ _) | (with_reducible refine Kd.C_drew ?_))); (case side2 => exact HC0.out); rintro e w11 ⟨rfl, hb⟩; replace HO_4 := Aside0.mk (Kd.R_below (Hd.r_ HO_4) hb); replace HB := Aside0.mk (below_step Hd.b_ hb); (try clear hb); (try clear hb2); (try clear hk); (try clear hi)))
     repeat (go_quiet (first | (go_at_call 82; (with_reducible refine (spec_IsRing.calls k1 _ _ l0 false _ ?side1 ?side2 A5.out).mono ?_); (case side1 => repeat (first | exact (Kd.C_below HR0.out HB.out) | (with_reducible refine Kd.C_alloc ?_ _) | (with_reducible refine Kd.C_drewN ?_ _) | (with_reducible refine Kd.C_drew ?_))); (case side2 => exact HC0.out); rintro e w11 ⟨rfl, hb⟩; replace HO_4 := Aside0.mk (Kd.R_below (Hd.r_ HO_4) hb); replace HB := Aside0.mk (below_step Hd.b_ hb); (try clear hb); (try clear hb2); (try clear hk); (try clear hi))); try go_wp2_with (first | (go_at_call 82; (with_reducible refine (spec_IsRing.calls k1 _ _ l0 false _ ?side1 ?side2 A5.out).mono ?_); (case side1 => repeat (first | exact (Kd.C_below HR0.out HB.out) | (with_reducible refine Kd.C_alloc ?_ _) | (with_reducible refine Kd.C_drewN ?_ _) | (with_reducible refine Kd.C_drew ?_))); (case side2 => exact HC0.out); rintro e w11 ⟨rfl, hb⟩; replace HO_4 := Aside0.mk (Kd.R_below (Hd.r_ HO_4) hb); replace HB := Aside0.mk (below_step Hd.b_ hb); (try clear hb); (try clear hb2); (try clear hk); (try clear hi))))
     go_ret
     exact ⟨Hd.e_, Hd.b_⟩
   ·
    rw [if_neg c4] at H
    have c4b0 : decide (x5_1 < (t202.length : Int)) = false := decide_eq_false c4
    clear c4
    obtain rfl := Option.some.inj H
    obtain ⟨Ao12, co12, eo12⟩ := Kd.R_slice HO_4.out
    subst eo12
    go_wp2
    repeat (go_quiet (fail); try go_wp2)
    go_ret
    exact ⟨Hd.e_, Hd.b_⟩
end Go.Proofs.Ytchmbcembbbplac.MFnExactDropCorner
