-- Laid by this session's program pp.py, after the kit's print and texts of the session's own. Not trusted: Lean checks it.
import Derived.Test.YtchmbcembbbplaaZBorderMx0
import Derived.Test.YtchmbcembbbplaaZBorderMx3
import Derived.Test.YtchmbcembbbplaaZBorderMx4
namespace Go.Proofs.Ytchmbcembbbplaa.MFnExactBorder
open Go.RowKit Go.Proofs.YtchmbcembbbplaaW.PrintWords Go.Proofs.YtchmbcembbbplaaW.PrintLast Go.Proofs.YtchmbcembbbplaaW.PrintMore
attribute [local go_sem] max2_int min2_int max_two min_two max_three min_three max_four min_four   -- for this text's walks alone
set_option linter.unusedVariables false
set_option linter.unusedSimpArgs false
mutual
def impl_regions.l0 : Nat → List Int → Int → Int → Int → Int → ByteArray → Option (List Int)
 | 0, _, _, _, _, _, _ => none
 | k + 1, x3, x18, x19, x166000, x166001, x166002 => if x19 < x18 then (if 0 ≤ x19 then (if x19 < (x3.length : Int) then (impl_regions.l0 k (x3.set (x19 : Int).toNat (-1)) x18 (wrap64 (x19 + 1)) x166000 x166001 x166002) else (none)) else (none)) else (impl_regions.l1 k x3 (x3.length : Int) 0 x166000 x166001 x166002)
def impl_regions.l1 : Nat → List Int → Int → Int → Int → Int → ByteArray → Option (List Int)
 | 0, _, _, _, _, _, _ => none
 | k + 1, x3, x27, x28, x166000, x166001, x166002 => if x28 < x27 then (if 0 ≤ x28 then (if x28 < (x3.length : Int) then (if (rd x3 x28) ≥ 0 then (impl_regions.l1 k x3 x27 (wrap64 (x28 + 1)) x166000 x166001 x166002) else (impl_regions.l2 k (x3.set (x28 : Int).toNat x28) x28 (([x28] : List Int)) x27 x28 x166000 x166001 x166002)) else (none)) else (none)) else (some x3)
def impl_regions.l2 : Nat → List Int → Int → List Int → Int → Int → Int → Int → ByteArray → Option (List Int)
 | 0, _, _, _, _, _, _, _, _ => none
 | k + 1, x3, x5, x6, x27, x28, x166000, x166001, x166002 => if (x6.length : Int) > 0 then (if 0 ≤ (wrap64 ((x6.length : Int) - 1)) then (if (wrap64 ((x6.length : Int) - 1)) < (x6.length : Int) then (if (wrap64 ((x6.length : Int) - 1)) ≤ (x6.length : Int) then ((impl_beside.f k x166000 x166001 x166002 (rd x6 (wrap64 ((x6.length : Int) - 1)))).bind fun t180 => (impl_regions.l3 k x3 x5 (x6.take ((wrap64 ((x6.length : Int) - 1)) : Int).toNat) x27 x28 t180 (t180.length : Int) 0 x166000 x166001 x166002)) else (none)) else (none)) else (none)) else (impl_regions.l1 k x3 x27 (wrap64 (x28 + 1)) x166000 x166001 x166002)
def impl_regions.l3 : Nat → List Int → Int → List Int → Int → Int → List Int → Int → Int → Int → Int → ByteArray → Option (List Int)
 | 0, _, _, _, _, _, _, _, _, _, _, _ => none
 | k + 1, x3, x5, x6, x27, x28, x58, x59, x60, x166000, x166001, x166002 => if x60 < x59 then (if 0 ≤ x60 then (if x60 < (x58.length : Int) then (if 0 ≤ (rd x58 x60) then (if (rd x58 x60) < (x3.length : Int) then (if (rd x3 (rd x58 x60)) < 0 then (if (rd x58 x60) < (x166002.size : Int) then (if 0 ≤ x5 then (if x5 < (x166002.size : Int) then (if (bt x166002 (rd x58 x60)) = (bt x166002 x5) then (if x6.length < 17592186044416 then (impl_regions.l3 k (x3.set ((rd x58 x60) : Int).toNat x5) x5 (x6 ++ [rd x58 x60]) x27 x28 x58 x59 (wrap64 (x60 + 1)) x166000 x166001 x166002) else (none)) else (impl_regions.l3 k x3 x5 x6 x27 x28 x58 x59 (wrap64 (x60 + 1)) x166000 x166001 x166002)) else (none)) else (none)) else (none)) else (impl_regions.l3 k x3 x5 x6 x27 x28 x58 x59 (wrap64 (x60 + 1)) x166000 x166001 x166002)) else (none)) else (none)) else (none)) else (none)) else (impl_regions.l2 k x3 x5 x6 x27 x28 x166000 x166001 x166002)
end
def impl_regions.f (k : Nat) (a0_0 : Int) (a0_1 : Int) (a0_2 : ByteArray) : Option (List Int) := (impl_IsCover.f k a0_0 a0_1 a0_2).bind fun t166 => (if t166 = true then (if 0 ≤ (a0_2.size : Int) then (if ((a0_2.size : Int) : Int).toNat ≤ 35184372088832 then ((some (List.replicate ((a0_2.size : Int) : Int).toNat 0 : List Int)).bind fun y167 => (impl_regions.l0 k y167 (y167.length : Int) 0 a0_0 a0_1 a0_2)) else (none)) else (none)) else (some ([] : List Int)))
set_option maxHeartbeats 8000000 in
set_option maxRecDepth 100000 in
theorem impl_regions.calls (k : Nat) (a0_0 : Int) (a0_1 : Int) (a0_2 : ByteArray) (r : List Int) (w : World) (h : impl_regions.f k a0_0 a0_1 a0_2 = some r) :
  Calls Try.prog 117 #[.agg #[.int .i64 a0_0, .int .i64 a0_1, .string a0_2]] w fun e w' => ∃ v0_ : Value, e = .returned (v0_) ∧ Kd.R (Kd.int .i64) 3 w' w.heap.size (fun _ => True) v0_ r ∧ Below w.heap.size w w' := by
 have hu96 := Try.underlying96
 have HB := Aside0.mk (Below.refl w.heap.size w)
 have H : ((impl_IsCover.f k a0_0 a0_1 a0_2).bind fun t166 => (if t166 = true then (if 0 ≤ (a0_2.size : Int) then (if ((a0_2.size : Int) : Int).toNat ≤ 35184372088832 then ((some (List.replicate ((a0_2.size : Int) : Int).toNat 0 : List Int)).bind fun y167 => (impl_regions.l0 k y167 (y167.length : Int) 0 a0_0 a0_1 a0_2)) else (none)) else (none)) else (some ([] : List Int)))) = some r := h
 clear h
 replace H := Option.bind_eq_some_iff.mp H
 obtain ⟨t166, A20, H⟩ := H
 replace H : (if t166 = true then (if 0 ≤ (a0_2.size : Int) then (if ((a0_2.size : Int) : Int).toNat ≤ 35184372088832 then ((some (List.replicate ((a0_2.size : Int) : Int).toNat 0 : List Int)).bind fun y167 => (impl_regions.l0 k y167 (y167.length : Int) 0 a0_0 a0_1 a0_2)) else (none)) else (none)) else (some ([] : List Int))) = some r := H
 have A2 := Aside0.mk A20
 clear A20
 by_cases c3 : t166 = true
 ·
  subst c3
  have H1 : (if 0 ≤ (a0_2.size : Int) then (if ((a0_2.size : Int) : Int).toNat ≤ 35184372088832 then ((some (List.replicate ((a0_2.size : Int) : Int).toNat 0 : List Int)).bind fun y167 => (impl_regions.l0 k y167 (y167.length : Int) 0 a0_0 a0_1 a0_2)) else (none)) else (none)) = some r := by rw [if_pos rfl] at H; exact H
  clear H
  have H := H1
  clear H1
  by_cases c4 : 0 ≤ (a0_2.size : Int)
  ·
   rw [if_pos c4] at H
   have c4b0 := eq_true c4
   have c4b1 : decide (0 ≤ (a0_2.size : Int)) = true := decide_eq_true c4
   clear c4
   by_cases c5 : ((a0_2.size : Int) : Int).toNat ≤ 35184372088832
   ·
    rw [if_pos c5] at H
    have c5b0 := eq_true c5
    have c5b1 : decide (((a0_2.size : Int) : Int).toNat ≤ 35184372088832) = true := decide_eq_true c5
    clear c5
    obtain ⟨y167, hy167⟩ : ∃ y_ : List Int, y_ = (List.replicate ((a0_2.size : Int) : Int).toNat 0) := ⟨_, rfl⟩
    replace H : (impl_regions.l0 k y167 (y167.length : Int) 0 a0_0 a0_1 a0_2) = some r := by first | (rw [hy167]; with_reducible exact H) | (have H2_ := (Option.bind_some _ _).symm.trans H; rw [hy167]; with_reducible exact H2_) | (have H2_ := (Option.bind_some _ _).symm.trans H; with_reducible exact H2_) | with_reducible exact H | (rw [hy167]; exact H) | exact H
    have Ny167 := Aside0.mk hy167
    clear hy167
    have H' := Aside0.mk H
    clear H
    go_enter Try.func117, Try.ntmps117
    go_wp2_with (first | ((with_reducible refine gate_dst (N := 1) rfl ?_); refine Hd.box_ 1 (#[.int .i64 a0_0, .int .i64 a0_1, .string a0_2]) 96 ?_; intro gb165 hg w6 hbox hb; have BK165 := Aside0.mk (hbox); have GW165 := Aside0.mk ((Hd.g_ hg Hd.b_ : w.heap.size ≤ gb165)); have GE165 := Aside0.mk ((Hd.g_ hg Hd.b_ : w.heap.size ≤ gb165)); replace HB := Aside0.mk (below_step Hd.b_ hb); clear hb hbox hg; obtain ⟨hcz7_0, hcz7_1, hcz7_2⟩ := Hd.c3_ BK165.out; obtain ⟨hfz7_0, hfz7_1, hfz7_2⟩ := Hd.f3_ BK165.out) | (go_at_call 142; (with_reducible refine (impl_IsCover.calls k a0_0 a0_1 a0_2 true _ A2.out).mono ?_); rintro e w8 ⟨rfl, hb⟩; replace BK165 := Aside0.mk (Hd.kb_ BK165 hb); replace HB := Aside0.mk (below_step Hd.b_ hb); (try clear hb); (try clear hb2); (try clear hk); (try clear hi); obtain ⟨hcz9_0, hcz9_1, hcz9_2⟩ := Hd.c3_ BK165.out; obtain ⟨hfz9_0, hfz9_1, hfz9_2⟩ := Hd.f3_ BK165.out) | ((with_reducible refine gate_dst (N := 16) rfl ?_); refine Kd.R_make (Kd.int .i64) _ 3 rfl (N := 16) rfl 81 _ _ rfl (a0_2.size : Int) rfl rfl Try.underlying81 (.int .i64 0) 8 info3 rfl (by decide) (by omega) 0 (ok := fun _ => True) (okp := fun _ => True) rfl (fun _ hk => hk) trivial (of_decide_eq_true Hd.a_) (Nat.le_trans (Nat.mul_le_mul_right _ (of_decide_eq_true Hd.a_ : (a0_2.size : Int).toNat ≤ 35184372088832)) (by omega)) (Below.refl _ _) (Nat.le_refl _) ?_; intro v168 w10 ho11 hb hg_ hnew_; clear hg_ hnew_; (first | rw [← Ny167.out] at ho11 | (simp only [Int.reduceToNat] at ho11; rw [← Ny167.out] at ho11)); have HO169 := Aside0.mk (Kd.R_lower ho11 (below_size Hd.b_)); replace BK165 := Aside0.mk (Hd.kb_ BK165 hb); replace HB := Aside0.mk (below_step Hd.b_ hb); clear hb ho11; obtain ⟨Ao12, co12, eo12⟩ := Kd.R_slice HO169.out; subst eo12))
    repeat (go_quiet (first | ((with_reducible refine gate_dst (N := 1) rfl ?_); refine Hd.box_ 1 (#[.int .i64 a0_0, .int .i64 a0_1, .string a0_2]) 96 ?_; intro gb165 hg w6 hbox hb; have BK165 := Aside0.mk (hbox); have GW165 := Aside0.mk ((Hd.g_ hg Hd.b_ : w.heap.size ≤ gb165)); have GE165 := Aside0.mk ((Hd.g_ hg Hd.b_ : w.heap.size ≤ gb165)); replace HB := Aside0.mk (below_step Hd.b_ hb); clear hb hbox hg; obtain ⟨hcz7_0, hcz7_1, hcz7_2⟩ := Hd.c3_ BK165.out; obtain ⟨hfz7_0, hfz7_1, hfz7_2⟩ := Hd.f3_ BK165.out) | (go_at_call 142; (with_reducible refine (impl_IsCover.calls k a0_0 a0_1 a0_2 true _ A2.out).mono ?_); rintro e w8 ⟨rfl, hb⟩; replace BK165 := Aside0.mk (Hd.kb_ BK165 hb); replace HB := Aside0.mk (below_step Hd.b_ hb); (try clear hb); (try clear hb2); (try clear hk); (try clear hi); obtain ⟨hcz9_0, hcz9_1, hcz9_2⟩ := Hd.c3_ BK165.out; obtain ⟨hfz9_0, hfz9_1, hfz9_2⟩ := Hd.f3_ BK165.out) | ((with_reducible refine gate_dst (N := 16) rfl ?_); refine Kd.R_make (Kd.int .i64) _ 3 rfl (N := 16) rfl 81 _ _ rfl (a0_2.size : Int) rfl rfl Try.underlying81 (.int .i64 0) 8 info3 rfl (by decide) (by omega) 0 (ok := fun _ => True) (okp := fun _ => True) rfl (fun _ hk => hk) trivial (of_decide_eq_true Hd.a_) (Nat.le_trans (Nat.mul_le_mul_right _ (of_decide_eq_true Hd.a_ : (a0_2.size : Int).toNat ≤ 35184372088832)) (by omega)) (Below.refl _ _) (Nat.le_refl _) ?_; intro v168 w10 ho11 hb hg_ hnew_; clear hg_ hnew_; (first | rw [← Ny167.out] at ho11 | (simp only [Int.reduceToNat] at ho11; rw [← Ny167.out] at ho11)); have HO169 := Aside0.mk (Kd.R_lower ho11 (below_size Hd.b_)); replace BK165 := Aside0.mk (Hd.kb_ BK165 hb); replace HB := Aside0.mk (below_step Hd.b_ hb); clear hb ho11; obtain ⟨Ao12, co12, eo12⟩ := Kd.R_slice HO169.out; subst eo12)); try go_wp2_with (first | ((with_reducible refine gate_dst (N := 1) rfl ?_); refine Hd.box_ 1 (#[.int .i64 a0_0, .int .i64 a0_1, .string a0_2]) 96 ?_; intro gb165 hg w6 hbox hb; have BK165 := Aside0.mk (hbox); have GW165 := Aside0.mk ((Hd.g_ hg Hd.b_ : w.heap.size ≤ gb165)); have GE165 := Aside0.mk ((Hd.g_ hg Hd.b_ : w.heap.size ≤ gb165)); replace HB := Aside0.mk (below_step Hd.b_ hb); clear hb hbox hg; obtain ⟨hcz7_0, hcz7_1, hcz7_2⟩ := Hd.c3_ BK165.out; obtain ⟨hfz7_0, hfz7_1, hfz7_2⟩ := Hd.f3_ BK165.out) | (go_at_call 142; (with_reducible refine (impl_IsCover.calls k a0_0 a0_1 a0_2 true _ A2.out).mono ?_); rintro e w8 ⟨rfl, hb⟩; replace BK165 := Aside0.mk (Hd.kb_ BK165 hb); replace HB := Aside0.mk (below_step Hd.b_ hb); (try clear hb); (try clear hb2); (try clear hk); (try clear hi); obtain ⟨hcz9_0, hcz9_1, hcz9_2⟩ := Hd.c3_ BK165.out; obtain ⟨hfz9_0, hfz9_1, hfz9_2⟩ := Hd.f3_ BK165.out) | ((with_reducible refine gate_dst (N := 16) rfl ?_); refine Kd.R_make (Kd.int .i64) _ 3 rfl (N := 16) rfl 81 _ _ rfl (a0_2.size : Int) rfl rfl Try.underlying81 (.int .i64 0) 8 info3 rfl (by decide) (by omega) 0 (ok := fun _ => True) (okp := fun _ => True) rfl (fun _ hk => hk) trivial (of_decide_eq_true Hd.a_) (Nat.le_trans (Nat.mul_le_mul_right _ (of_decide_eq_true Hd.a_ : (a0_2.size : Int).toNat ≤ 35184372088832)) (by omega)) (Below.refl _ _) (Nat.le_refl _) ?_; intro v168 w10 ho11 hb hg_ hnew_; clear hg_ hnew_; (first | rw [← Ny167.out] at ho11 | (simp only [Int.reduceToNat] at ho11; rw [← Ny167.out] at ho11)); have HO169 := Aside0.mk (Kd.R_lower ho11 (below_size Hd.b_)); replace BK165 := Aside0.mk (Hd.kb_ BK165 hb); replace HB := Aside0.mk (below_step Hd.b_ hb); clear hb ho11; obtain ⟨Ao12, co12, eo12⟩ := Kd.R_slice HO169.out; subst eo12)))
    go_loopg [19] k (fun kq v19 w' => ∃ (x3_1 : List Int) (x19_1 : Int), v19 = .int .i64 x19_1 ∧ Aside0 (impl_regions.l0 kq x3_1 (y167.length : Int) x19_1 a0_0 a0_1 a0_2 = some r) ∧ Aside0 (kq ≤ k) ∧ Aside0 (Kd.R (Kd.int .i64) 3 w' w.heap.size (fun _ => True) (.slice Ao12 y167.length co12) x3_1) ∧ Aside0 (w'.heap[gb165]? = some (.cells #[.int .i64 a0_0, .int .i64 a0_1, .string a0_2] 96 (0, 0))) ∧ Aside0 (Below w.heap.size w w'))
    case atStart => exact ⟨(y167), (0), (by first | rfl | (simp; done) | (simp [*]; done)), H', ⟨Nat.le_refl _⟩, ⟨by (with_reducible repeat (first | apply Kd.R_alloc | apply Kd.R_drewN | apply Kd.R_drew)); exact HO169.out⟩, ⟨by (with_reducible repeat (first | refine blk_drewN ?_ _ | refine blk_drew ?_ | refine blk_alloc ?_ _)); exact BK165.out⟩, ⟨Hd.b_⟩⟩
    case round =>
     clear H'
     try clear c1
     try clear p2
     try clear c3
     try clear c4
     try clear c4b0
     try clear c4b1
     try clear c5
     try clear c5b0
     try clear c5b1
     try clear c11
     try clear hcz7_0
     try clear hcz7_1
     try clear hcz7_2
     try clear hcz9_0
     try clear hcz9_1
     try clear hcz9_2
     try clear hfz7_0
     try clear hfz7_1
     try clear hfz7_2
     try clear hfz9_0
     try clear hfz9_1
     try clear hfz9_2
     obtain ⟨x3_1, x19_1, rfl, HA, HK1, HO_3, BK165, HB⟩ := hrel
     have hl3_1 := (Kd.R_reads' HO_3.out).1
     rw [hl3_1] at HO_3
     (try simp only [hl3_1])
     (try simp only [hl3_1] at BK165)
     cases gk with
     | zero => exact absurd HA.out (by simp [impl_regions.l0])
     | succ k1 =>
      have H := HA.out
      clear HA
      simp only [impl_regions.l0] at H
      by_cases c13 : x19_1 < (y167.length : Int)
      ·
       rw [if_pos c13] at H
       have c13b0 : decide (x19_1 < (y167.length : Int)) = true := decide_eq_true c13
       (try simp only [hl3_1] at c13b0)
       clear c13
       by_cases c14 : 0 ≤ x19_1
       ·
        rw [if_pos c14] at H
        have c14b0 : decide (0 ≤ x19_1) = true := decide_eq_true c14
        clear c14
        by_cases c15 : x19_1 < (x3_1.length : Int)
        ·
         rw [if_pos c15] at H
         have c15b0 : decide (x19_1 < (x3_1.length : Int)) = true := decide_eq_true c15
         (try simp only [hl3_1] at c15b0)
         clear c15
         obtain ⟨y170, hy170⟩ : ∃ y_ : List Int, y_ = (x3_1.set (x19_1 : Int).toNat (-1)) := ⟨_, rfl⟩
         replace H : (impl_regions.l0 k1 y170 (y167.length : Int) (wrap64 (x19_1 + 1)) a0_0 a0_1 a0_2) = some r := by first | (rw [hy170]; with_reducible exact H) | (have H2_ := (Option.bind_some _ _).symm.trans H; rw [hy170]; with_reducible exact H2_) | (have H2_ := (Option.bind_some _ _).symm.trans H; with_reducible exact H2_) | with_reducible exact H | (rw [hy170]; exact H) | exact H
         have Ny170 := Aside0.mk hy170
         clear hy170
         have H' := Aside0.mk H
         clear H
         have p16 : 0 ≤ (x19_1 : Int) := of_decide_eq_true Hd.a_
         have q16 : (x19_1 : Int) < ((x3_1.length : Int) : Int) := of_decide_eq_true Hd.a_
         obtain ⟨go16, co16, eo16, gb16, gl16, cl16, HG16⟩ := Kd.R_form HO_3.out (by omega)
         (first | cases eo16 | (injection eo16 with ea_ en_ ec_; (first | subst ea_ | (injection ea_ with ea_; subst ea_)); subst ec_; clear en_))
         have GB16 := Aside0.mk gb16
         have GG16 := Aside0.mk HG16
         clear gb16 gl16 HG16
         obtain ⟨hx16_0, hf16_0⟩ := Kd.R_celln 0 HO_3.out (x19_1 : Int) p16 q16
         replace p16 := eq_true p16
         replace q16 := eq_true q16
         have HP17 := Kd.R_putg HO_3.out (x19_1 : Int) (-1)
         go_wp2_with (first | ((with_reducible refine gate_store (t := 3) (p := 24) rfl ?_); (try (rw [drewN_self wr]; generalize hq_ : World.drewN wr _ = wr; have n0_ := Aside0.mk (Kd.R_at hq_ HO_3.out); have n1_ := Aside0.mk (blk_at hq_ BK165.out); have n2_ := Aside0.mk (below_at hq_ HB.out); clear hq_ HO_3 BK165 HB; have HO_3 := n0_; have BK165 := n1_; have HB := n2_; clear n0_ n1_ n2_; (try (have HP17 := Kd.R_putg HO_3.out (x19_1 : Int) (-1))); (try (obtain ⟨hx16_0, hf16_0⟩ := Kd.R_celln 0 HO_3.out (x19_1 : Int) (of_eq_true p16) (of_eq_true q16))))); refine store_event (t := 3) (p := 24) (v := ?vo_w18) (w1 := (wr.setCell ⟨go16, (x19_1 : Int).toNat, none⟩ (.int .i64 (-1)))) ?hg ?ho ?hn ?hr ?_; (case ho => rfl); (case hg => rfl); (case hn => rfl); (case hr => first | (go_simp; done) | (go_simp; rfl)); intro w18 hw; have hg : wr.grownBy w18 (some go16) := (by rw [hw]; exact HP17.2); have hp_ : Kd.R (Kd.int .i64) 3 w18 w.heap.size (fun _ => True) (.slice (some ⟨go16, 0, none⟩) x3_1.length co12) y170 := (by rw [hw, Ny170.out]; exact HP17.1); clear HP17; replace BK165 := Aside0.mk (blk_grown (g := gb165) (o := .cells #[.int .i64 a0_0, .int .i64 a0_1, .string a0_2] 96 (0, 0)) (Hd.k_ BK165) hg (Kd.R_ne HO_3.out BK165.out (by decide))); replace HO_3 := Aside0.mk (hp_); replace HB := Aside0.mk ((by rw [hw]; exact below_set (HB.out) GB16.out : Below w.heap.size w w18)); clear hg hw hp_))
         repeat (go_quiet (first | ((with_reducible refine gate_store (t := 3) (p := 24) rfl ?_); (try (rw [drewN_self wr]; generalize hq_ : World.drewN wr _ = wr; have n0_ := Aside0.mk (Kd.R_at hq_ HO_3.out); have n1_ := Aside0.mk (blk_at hq_ BK165.out); have n2_ := Aside0.mk (below_at hq_ HB.out); clear hq_ HO_3 BK165 HB; have HO_3 := n0_; have BK165 := n1_; have HB := n2_; clear n0_ n1_ n2_; (try (have HP17 := Kd.R_putg HO_3.out (x19_1 : Int) (-1))); (try (obtain ⟨hx16_0, hf16_0⟩ := Kd.R_celln 0 HO_3.out (x19_1 : Int) (of_eq_true p16) (of_eq_true q16))))); refine store_event (t := 3) (p := 24) (v := ?vo_w18) (w1 := (wr.setCell ⟨go16, (x19_1 : Int).toNat, none⟩ (.int .i64 (-1)))) ?hg ?ho ?hn ?hr ?_; (case ho => rfl); (case hg => rfl); (case hn => rfl); (case hr => first | (go_simp; done) | (go_simp; rfl)); intro w18 hw; have hg : wr.grownBy w18 (some go16) := (by rw [hw]; exact HP17.2); have hp_ : Kd.R (Kd.int .i64) 3 w18 w.heap.size (fun _ => True) (.slice (some ⟨go16, 0, none⟩) x3_1.length co12) y170 := (by rw [hw, Ny170.out]; exact HP17.1); clear HP17; replace BK165 := Aside0.mk (blk_grown (g := gb165) (o := .cells #[.int .i64 a0_0, .int .i64 a0_1, .string a0_2] 96 (0, 0)) (Hd.k_ BK165) hg (Kd.R_ne HO_3.out BK165.out (by decide))); replace HO_3 := Aside0.mk (hp_); replace HB := Aside0.mk ((by rw [hw]; exact below_set (HB.out) GB16.out : Below w.heap.size w w18)); clear hg hw hp_)); try go_wp2_with (first | ((with_reducible refine gate_store (t := 3) (p := 24) rfl ?_); (try (rw [drewN_self wr]; generalize hq_ : World.drewN wr _ = wr; have n0_ := Aside0.mk (Kd.R_at hq_ HO_3.out); have n1_ := Aside0.mk (blk_at hq_ BK165.out); have n2_ := Aside0.mk (below_at hq_ HB.out); clear hq_ HO_3 BK165 HB; have HO_3 := n0_; have BK165 := n1_; have HB := n2_; clear n0_ n1_ n2_; (try (have HP17 := Kd.R_putg HO_3.out (x19_1 : Int) (-1))); (try (obtain ⟨hx16_0, hf16_0⟩ := Kd.R_celln 0 HO_3.out (x19_1 : Int) (of_eq_true p16) (of_eq_true q16))))); refine store_event (t := 3) (p := 24) (v := ?vo_w18) (w1 := (wr.setCell ⟨go16, (x19_1 : Int).toNat, none⟩ (.int .i64 (-1)))) ?hg ?ho ?hn ?hr ?_; (case ho => rfl); (case hg => rfl); (case hn => rfl); (case hr => first | (go_simp; done) | (go_simp; rfl)); intro w18 hw; have hg : wr.grownBy w18 (some go16) := (by rw [hw]; exact HP17.2); have hp_ : Kd.R (Kd.int .i64) 3 w18 w.heap.size (fun _ => True) (.slice (some ⟨go16, 0, none⟩) x3_1.length co12) y170 := (by rw [hw, Ny170.out]; exact HP17.1); clear HP17; replace BK165 := Aside0.mk (blk_grown (g := gb165) (o := .cells #[.int .i64 a0_0, .int .i64 a0_1, .string a0_2] 96 (0, 0)) (Hd.k_ BK165) hg (Kd.R_ne HO_3.out BK165.out (by decide))); replace HO_3 := Aside0.mk (hp_); replace HB := Aside0.mk ((by rw [hw]; exact below_set (HB.out) GB16.out : Below w.heap.size w w18)); clear hg hw hp_)))
         (try simp only [← hl3_1])
         go_roundg k1
         case measure => have := HK1.out; omega
         case rel => exact ⟨(y170), (wrap64 (x19_1 + 1)), (by first | rfl | (simp; done) | (simp [*]; done)), H', ⟨by have := HK1.out; omega⟩, ⟨by (try simp only [hl3_1]); (with_reducible repeat (first | apply Kd.R_alloc | apply Kd.R_drewN | apply Kd.R_drew)); exact HO_3.out⟩, ⟨by (try simp only [hl3_1]); (with_reducible repeat (first | refine blk_drewN ?_ _ | refine blk_drew ?_ | refine blk_alloc ?_ _)); exact BK165.out⟩, ⟨Hd.b_⟩⟩
        ·
         rw [if_neg c15] at H
         exact absurd H (by simp)
       ·
        rw [if_neg c14] at H
        exact absurd H (by simp)
      ·
       rw [if_neg c13] at H
       have c13b0 : decide (x19_1 < (y167.length : Int)) = false := decide_eq_false c13
       (try simp only [hl3_1] at c13b0)
       clear c13
       have H' := Aside0.mk H
       clear H
       go_wp2
       repeat (go_quiet (fail); try go_wp2)
       go_loopg [28] k1 (fun kq v28 w' => ∃ (x3_2 : List Int) (x28_2 : Int), v28 = .int .i64 x28_2 ∧ Aside0 (impl_regions.l1 kq x3_2 (x3_1.length : Int) x28_2 a0_0 a0_1 a0_2 = some r) ∧ Aside0 (kq ≤ k1) ∧ Aside0 (Kd.R (Kd.int .i64) 3 w' w.heap.size (fun _ => True) (.slice Ao12 x3_1.length co12) x3_2) ∧ Aside0 (w'.heap[gb165]? = some (.cells #[.int .i64 a0_0, .int .i64 a0_1, .string a0_2] 96 (0, 0))) ∧ Aside0 (Below w.heap.size w w'))
       case atStart => exact ⟨(x3_1), (0), (by first | rfl | (simp; done) | (simp [*]; done)), H', ⟨Nat.le_refl _⟩, ⟨by (try simp only [hl3_1]); (with_reducible repeat (first | apply Kd.R_alloc | apply Kd.R_drewN | apply Kd.R_drew)); exact HO_3.out⟩, ⟨by (try simp only [hl3_1]); (with_reducible repeat (first | refine blk_drewN ?_ _ | refine blk_drew ?_ | refine blk_alloc ?_ _)); exact BK165.out⟩, ⟨Hd.b_⟩⟩
       case round =>
        clear H'
        try clear c1
        try clear p1
        try clear q1
        try clear hx1
        try clear hf1
        try clear p2
        try clear c3
        try clear c4
        try clear c4b0
        try clear c4b1
        try clear c5
        try clear c5b0
        try clear c5b1
        try clear p6
        try clear c11
        try clear c13
        try clear c13b0
        try clear c14
        try clear c14b0
        try clear c15
        try clear c15b0
        try clear p16
        try clear q16
        try clear hx16
        try clear hf16
        try clear hcz7_0
        try clear hcz7_1
        try clear hcz7_2
        try clear hcz9_0
        try clear hcz9_1
        try clear hcz9_2
        try clear hfz7_0
        try clear hfz7_1
        try clear hfz7_2
        try clear hfz9_0
        try clear hfz9_1
        try clear hfz9_2
        try clear hx16_0
        try clear p16
        try clear p2
        try clear q16
        obtain ⟨x3_2, x28_2, rfl, HA, HK2, HO_3, BK165, HB⟩ := hrel
        have hl3_2 := (Kd.R_reads' HO_3.out).1
        rw [hl3_2] at HO_3
        (try simp only [hl3_2])
        (try simp only [hl3_2] at BK165)
        cases gk with
        | zero => exact absurd HA.out (by simp [impl_regions.l1])
        | succ k2 =>
         have H := HA.out
         clear HA
         simp only [impl_regions.l1] at H
         by_cases c19 : x28_2 < (x3_1.length : Int)
         ·
          rw [if_pos c19] at H
          have c19b0 : decide (x28_2 < (x3_1.length : Int)) = true := decide_eq_true c19
          (try simp only [hl3_1, hl3_2] at c19b0)
          clear c19
          by_cases c20 : 0 ≤ x28_2
          ·
           rw [if_pos c20] at H
           have c20b0 : decide (0 ≤ x28_2) = true := decide_eq_true c20
           clear c20
           by_cases c21 : x28_2 < (x3_2.length : Int)
           ·
            rw [if_pos c21] at H
            have c21b0 : decide (x28_2 < (x3_2.length : Int)) = true := decide_eq_true c21
            (try simp only [hl3_1, hl3_2] at c21b0)
            clear c21
            by_cases c22 : (rd x3_2 x28_2) ≥ 0
            ·
             rw [if_pos c22] at H
             have c22b0 : decide (0 ≤ (rd x3_2 x28_2)) = true := decide_eq_true c22
             clear c22
             have H' := Aside0.mk H
             clear H
             have p171 : 0 ≤ (x28_2 : Int) := of_decide_eq_true Hd.a_
             have q171 : x28_2 < (x3_2.length : Int) := of_decide_eq_true Hd.a_
             obtain ⟨ad171, e171, hx171_0⟩ := Kd.at_int (Kd.R_reads' HO_3.out).2.2 x28_2 p171 q171
             cases e171
             replace p171 := eq_true p171
             replace q171 := eq_true q171
             go_wp2
             repeat (go_quiet (fail); try go_wp2)
             (try simp only [← hl3_2])
             go_roundg k2
             case measure => have := HK1.out; have := HK2.out; omega
             case rel => exact ⟨(x3_2), (wrap64 (x28_2 + 1)), (by first | rfl | (simp; done) | (simp [*]; done)), H', ⟨by have := HK1.out; have := HK2.out; omega⟩, ⟨by (try simp only [hl3_1]); (try simp only [hl3_2]); (with_reducible repeat (first | apply Kd.R_alloc | apply Kd.R_drewN | apply Kd.R_drew)); exact HO_3.out⟩, ⟨by (try simp only [hl3_1]); (try simp only [hl3_2]); (with_reducible repeat (first | refine blk_drewN ?_ _ | refine blk_drew ?_ | refine blk_alloc ?_ _)); exact BK165.out⟩, ⟨Hd.b_⟩⟩
            ·
             rw [if_neg c22] at H
             have c22b0 : decide (0 ≤ (rd x3_2 x28_2)) = false := decide_eq_false c22
             clear c22
             obtain ⟨y172, hy172⟩ : ∃ y_ : List Int, y_ = (x3_2.set (x28_2 : Int).toNat x28_2) := ⟨_, rfl⟩
             replace H : (impl_regions.l2 k2 y172 x28_2 (([x28_2] : List Int)) (x3_1.length : Int) x28_2 a0_0 a0_1 a0_2) = some r := by first | (rw [hy172]; with_reducible exact H) | (have H2_ := (Option.bind_some _ _).symm.trans H; rw [hy172]; with_reducible exact H2_) | (have H2_ := (Option.bind_some _ _).symm.trans H; with_reducible exact H2_) | with_reducible exact H | (rw [hy172]; exact H) | exact H
             have Ny172 := Aside0.mk hy172
             clear hy172
             obtain ⟨y173, hy173⟩ : ∃ y_ : List Int, y_ = (([x28_2] : List Int)) := ⟨_, rfl⟩
             replace H : (impl_regions.l2 k2 y172 x28_2 y173 (x3_1.length : Int) x28_2 a0_0 a0_1 a0_2) = some r := by first | (rw [hy173]; with_reducible exact H) | (have H2_ := (Option.bind_some _ _).symm.trans H; rw [hy173]; with_reducible exact H2_) | (have H2_ := (Option.bind_some _ _).symm.trans H; with_reducible exact H2_) | with_reducible exact H | (rw [hy173]; exact H) | exact H
             have Ny173 := Aside0.mk hy173
             clear hy173
             have H' := Aside0.mk H
             clear H
             have p171 : 0 ≤ (x28_2 : Int) := of_decide_eq_true Hd.a_
             have q171 : x28_2 < (x3_2.length : Int) := of_decide_eq_true Hd.a_
             obtain ⟨ad171, e171, hx171_0⟩ := Kd.at_int (Kd.R_reads' HO_3.out).2.2 x28_2 p171 q171
             cases e171
             replace p171 := eq_true p171
             replace q171 := eq_true q171
             have p23 : 0 ≤ (x28_2 : Int) := of_decide_eq_true Hd.a_
             have q23 : (x28_2 : Int) < ((x3_2.length : Int) : Int) := of_decide_eq_true Hd.a_
             obtain ⟨go23, co23, eo23, gb23, gl23, cl23, HG23⟩ := Kd.R_form HO_3.out (by omega)
             (first | cases eo23 | (injection eo23 with ea_ en_ ec_; (first | subst ea_ | (injection ea_ with ea_; subst ea_)); subst ec_; clear en_))
             have GB23 := Aside0.mk gb23
             have GG23 := Aside0.mk HG23
             clear gb23 gl23 HG23
             (first | simp only [add_plain] at hx171_0 | skip)
             obtain ⟨hx23_0, hf23_0⟩ := Kd.R_celln 0 HO_3.out (x28_2 : Int) p23 q23
             replace p23 := eq_true p23
             replace q23 := eq_true q23
             have HP24 := Kd.R_putg HO_3.out (x28_2 : Int) x28_2
             go_wp2_with (first | ((with_reducible refine gate_store (t := 3) (p := 39) rfl ?_); (try (rw [drewN_self wr]; generalize hq_ : World.drewN wr _ = wr; have n0_ := Aside0.mk (Kd.R_at hq_ HO_3.out); have n1_ := Aside0.mk (blk_at hq_ BK165.out); have n2_ := Aside0.mk (below_at hq_ HB.out); clear hq_ HO_3 BK165 HB; have HO_3 := n0_; have BK165 := n1_; have HB := n2_; clear n0_ n1_ n2_; (try (have HP24 := Kd.R_putg HO_3.out (x28_2 : Int) x28_2)); (try (obtain ⟨hx23_0, hf23_0⟩ := Kd.R_celln 0 HO_3.out (x28_2 : Int) (of_eq_true p23) (of_eq_true q23))))); refine store_event (t := 3) (p := 39) (v := ?vo_w25) (w1 := (wr.setCell ⟨go23, (x28_2 : Int).toNat, none⟩ (.int .i64 x28_2))) ?hg ?ho ?hn ?hr ?_; (case ho => rfl); (case hg => rfl); (case hn => rfl); (case hr => first | (go_simp; done) | (go_simp; rfl)); intro w25 hw; have hg : wr.grownBy w25 (some go23) := (by rw [hw]; exact HP24.2); have hp_ : Kd.R (Kd.int .i64) 3 w25 w.heap.size (fun _ => True) (.slice (some ⟨go23, 0, none⟩) x3_2.length co12) y172 := (by rw [hw, Ny172.out]; exact HP24.1); clear HP24; replace BK165 := Aside0.mk (blk_grown (g := gb165) (o := .cells #[.int .i64 a0_0, .int .i64 a0_1, .string a0_2] 96 (0, 0)) (Hd.k_ BK165) hg (Kd.R_ne HO_3.out BK165.out (by decide))); replace HO_3 := Aside0.mk (hp_); replace HB := Aside0.mk ((by rw [hw]; exact below_set (HB.out) GB23.out : Below w.heap.size w w25)); clear hg hw hp_) | ((with_reducible refine gate_dst (N := 41) rfl ?_); refine Kd.R_lit (Kd.int .i64) _ 3 ?hg (N := 41) ?hd (xs := ([x28_2] : List Int)) (inner := [.int .i64 x28_2]) (ok := fun _ => True) (okp := fun _ => True) ?hr ?hp (fun _ hk => hk) trivial (Below.refl _ _) (Nat.le_refl _) (by simp) ?_; (case hd => rfl); (case hg => rfl); (case hr => first | (go_simp; done) | (go_simp; rfl)); (case hp => exact (Reps.one (show Kd.M (Kd.int .i64) _ _ _ x28_2 [.int .i64 x28_2] from rfl) (Reps.none _ _))); intro v174 w26 ho27 hb hg_ hnew_; clear hg_ hnew_; (first | rw [← Ny173.out] at ho27 | (simp only [Int.reduceToNat] at ho27; rw [← Ny173.out] at ho27)); have HO175 := Aside0.mk (Kd.R_lower (Kd.R_new' ho27 (Kd.R_lt (Hd.r_ HO_3))) (below_size Hd.b_)); replace HO_3 := Aside0.mk (Kd.R_elder' (Hd.r_ HO_3) (Kd.R_base ho27) hb); replace BK165 := Aside0.mk (Hd.kb_ BK165 hb); replace HB := Aside0.mk (below_step Hd.b_ hb); clear hb ho27))
             repeat (go_quiet (first | ((with_reducible refine gate_store (t := 3) (p := 39) rfl ?_); (try (rw [drewN_self wr]; generalize hq_ : World.drewN wr _ = wr; have n0_ := Aside0.mk (Kd.R_at hq_ HO_3.out); have n1_ := Aside0.mk (blk_at hq_ BK165.out); have n2_ := Aside0.mk (below_at hq_ HB.out); clear hq_ HO_3 BK165 HB; have HO_3 := n0_; have BK165 := n1_; have HB := n2_; clear n0_ n1_ n2_; (try (have HP24 := Kd.R_putg HO_3.out (x28_2 : Int) x28_2)); (try (obtain ⟨hx23_0, hf23_0⟩ := Kd.R_celln 0 HO_3.out (x28_2 : Int) (of_eq_true p23) (of_eq_true q23))))); refine store_event (t := 3) (p := 39) (v := ?vo_w25) (w1 := (wr.setCell ⟨go23, (x28_2 : Int).toNat, none⟩ (.int .i64 x28_2))) ?hg ?ho ?hn ?hr ?_; (case ho => rfl); (case hg => rfl); (case hn => rfl); (case hr => first | (go_simp; done) | (go_simp; rfl)); intro w25 hw; have hg : wr.grownBy w25 (some go23) := (by rw [hw]; exact HP24.2); have hp_ : Kd.R (Kd.int .i64) 3 w25 w.heap.size (fun _ => True) (.slice (some ⟨go23, 0, none⟩) x3_2.length co12) y172 := (by rw [hw, Ny172.out]; exact HP24.1); clear HP24; replace BK165 := Aside0.mk (blk_grown (g := gb165) (o := .cells #[.int .i64 a0_0, .int .i64 a0_1, .string a0_2] 96 (0, 0)) (Hd.k_ BK165) hg (Kd.R_ne HO_3.out BK165.out (by decide))); replace HO_3 := Aside0.mk (hp_); replace HB := Aside0.mk ((by rw [hw]; exact below_set (HB.out) GB23.out : Below w.heap.size w w25)); clear hg hw hp_) | ((with_reducible refine gate_dst (N := 41) rfl ?_); refine Kd.R_lit (Kd.int .i64) _ 3 ?hg (N := 41) ?hd (xs := ([x28_2] : List Int)) (inner := [.int .i64 x28_2]) (ok := fun _ => True) (okp := fun _ => True) ?hr ?hp (fun _ hk => hk) trivial (Below.refl _ _) (Nat.le_refl _) (by simp) ?_; (case hd => rfl); (case hg => rfl); (case hr => first | (go_simp; done) | (go_simp; rfl)); (case hp => exact (Reps.one (show Kd.M (Kd.int .i64) _ _ _ x28_2 [.int .i64 x28_2] from rfl) (Reps.none _ _))); intro v174 w26 ho27 hb hg_ hnew_; clear hg_ hnew_; (first | rw [← Ny173.out] at ho27 | (simp only [Int.reduceToNat] at ho27; rw [← Ny173.out] at ho27)); have HO175 := Aside0.mk (Kd.R_lower (Kd.R_new' ho27 (Kd.R_lt (Hd.r_ HO_3))) (below_size Hd.b_)); replace HO_3 := Aside0.mk (Kd.R_elder' (Hd.r_ HO_3) (Kd.R_base ho27) hb); replace BK165 := Aside0.mk (Hd.kb_ BK165 hb); replace HB := Aside0.mk (below_step Hd.b_ hb); clear hb ho27)); try go_wp2_with (first | ((with_reducible refine gate_store (t := 3) (p := 39) rfl ?_); (try (rw [drewN_self wr]; generalize hq_ : World.drewN wr _ = wr; have n0_ := Aside0.mk (Kd.R_at hq_ HO_3.out); have n1_ := Aside0.mk (blk_at hq_ BK165.out); have n2_ := Aside0.mk (below_at hq_ HB.out); clear hq_ HO_3 BK165 HB; have HO_3 := n0_; have BK165 := n1_; have HB := n2_; clear n0_ n1_ n2_; (try (have HP24 := Kd.R_putg HO_3.out (x28_2 : Int) x28_2)); (try (obtain ⟨hx23_0, hf23_0⟩ := Kd.R_celln 0 HO_3.out (x28_2 : Int) (of_eq_true p23) (of_eq_true q23))))); refine store_event (t := 3) (p := 39) (v := ?vo_w25) (w1 := (wr.setCell ⟨go23, (x28_2 : Int).toNat, none⟩ (.int .i64 x28_2))) ?hg ?ho ?hn ?hr ?_; (case ho => rfl); (case hg => rfl); (case hn => rfl); (case hr => first | (go_simp; done) | (go_simp; rfl)); intro w25 hw; have hg : wr.grownBy w25 (some go23) := (by rw [hw]; exact HP24.2); have hp_ : Kd.R (Kd.int .i64) 3 w25 w.heap.size (fun _ => True) (.slice (some ⟨go23, 0, none⟩) x3_2.length co12) y172 := (by rw [hw, Ny172.out]; exact HP24.1); clear HP24; replace BK165 := Aside0.mk (blk_grown (g := gb165) (o := .cells #[.int .i64 a0_0, .int .i64 a0_1, .string a0_2] 96 (0, 0)) (Hd.k_ BK165) hg (Kd.R_ne HO_3.out BK165.out (by decide))); replace HO_3 := Aside0.mk (hp_); replace HB := Aside0.mk ((by rw [hw]; exact below_set (HB.out) GB23.out : Below w.heap.size w w25)); clear hg hw hp_) | ((with_reducible refine gate_dst (N := 41) rfl ?_); refine Kd.R_lit (Kd.int .i64) _ 3 ?hg (N := 41) ?hd (xs := ([x28_2] : List Int)) (inner := [.int .i64 x28_2]) (ok := fun _ => True) (okp := fun _ => True) ?hr ?hp (fun _ hk => hk) trivial (Below.refl _ _) (Nat.le_refl _) (by simp) ?_; (case hd => rfl); (case hg => rfl); (case hr => first | (go_simp; done) | (go_simp; rfl)); (case hp => exact (Reps.one (show Kd.M (Kd.int .i64) _ _ _ x28_2 [.int .i64 x28_2] from rfl) (Reps.none _ _))); intro v174 w26 ho27 hb hg_ hnew_; clear hg_ hnew_; (first | rw [← Ny173.out] at ho27 | (simp only [Int.reduceToNat] at ho27; rw [← Ny173.out] at ho27)); have HO175 := Aside0.mk (Kd.R_lower (Kd.R_new' ho27 (Kd.R_lt (Hd.r_ HO_3))) (below_size Hd.b_)); replace HO_3 := Aside0.mk (Kd.R_elder' (Hd.r_ HO_3) (Kd.R_base ho27) hb); replace BK165 := Aside0.mk (Hd.kb_ BK165 hb); replace HB := Aside0.mk (below_step Hd.b_ hb); clear hb ho27)))
             go_loopg [6] k2 (fun kq v6 w' => ∃ (x3_3 : List Int) (x6_3 : List Int), Aside0 (impl_regions.l2 kq x3_3 x28_2 x6_3 (x3_1.length : Int) x28_2 a0_0 a0_1 a0_2 = some r) ∧ Aside0 (kq ≤ k2) ∧ Aside0 (Kd.R (Kd.int .i64) 3 w' w.heap.size (fun k_ => some k_ ≠ (v6 : Value).ownBlock) (.slice (some ⟨go23, 0, none⟩) x3_2.length co12) x3_3) ∧ Aside0 (Kd.R (Kd.int .i64) 3 w' w.heap.size (fun k_ => some k_ ≠ ((.slice (some ⟨go23, 0, none⟩) x3_2.length co12) : Value).ownBlock) v6 x6_3) ∧ Aside0 (w'.heap[gb165]? = some (.cells #[.int .i64 a0_0, .int .i64 a0_1, .string a0_2] 96 (0, 0))) ∧ Aside0 (Below w.heap.size w w'))
             case atStart => exact ⟨(y172), (y173), H', ⟨Nat.le_refl _⟩, ⟨by (try simp only [hl3_1]); (try simp only [hl3_2]); (with_reducible repeat (first | apply Kd.R_alloc | apply Kd.R_drewN | apply Kd.R_drew)); exact Kd.R_mono HO_3.out (fun _ hk => hk.2)⟩, ⟨by (try simp only [hl3_1]); (try simp only [hl3_2]); (with_reducible repeat (first | apply Kd.R_alloc | apply Kd.R_drewN | apply Kd.R_drew)); exact Kd.R_mono HO175.out (fun _ hk => hk.2)⟩, ⟨by (try simp only [hl3_1]); (try simp only [hl3_2]); (with_reducible repeat (first | refine blk_drewN ?_ _ | refine blk_drew ?_ | refine blk_alloc ?_ _)); exact BK165.out⟩, ⟨Hd.b_⟩⟩
             case round =>
              clear H'
              try clear c1
              try clear p1
              try clear q1
              try clear hx1
              try clear hf1
              try clear c2
              try clear p2
              try clear q2
              try clear hx2
              try clear hf2
              try clear c3
              try clear c4
              try clear c4b0
              try clear c4b1
              try clear c5
              try clear c5b0
              try clear c5b1
              try clear p6
              try clear c11
              try clear c13
              try clear c13b0
              try clear c14
              try clear c14b0
              try clear c15
              try clear c15b0
              try clear p16
              try clear q16
              try clear hx16
              try clear hf16
              try clear p17
              try clear q17
              try clear hx17
              try clear c19
              try clear c19b0
              try clear c20
              try clear c20b0
              try clear c21
              try clear c21b0
              try clear c22
              try clear c22b0
              try clear p23
              try clear q23
              try clear hx23
              try clear hf23
              try clear hcz7_0
              try clear hcz7_1
              try clear hcz7_2
              try clear hcz9_0
              try clear hcz9_1
              try clear hcz9_2
              try clear hfz7_0
              try clear hfz7_1
              try clear hfz7_2
              try clear hfz9_0
              try clear hfz9_1
              try clear hfz9_2
              try clear hx16_0
              try clear hx171_0
              try clear hx23_0
              try clear p1
              try clear p16
              try clear p171
              try clear p2
              try clear p23
              try clear p6
              try clear q1
              try clear q16
              try clear q171
              try clear q23
              obtain ⟨x3_3, x6_3, HA, HK3, HO_3, HO_6, BK165, HB⟩ := hrel
              have hl3_3 := (Kd.R_reads' HO_3.out).1
              rw [hl3_3] at HO_3
              (try simp only [hl3_3])
              (try simp only [hl3_3] at BK165)
              (try simp only [hl3_3] at HO_6)
              cases gk with
              | zero => exact absurd HA.out (by simp [impl_regions.l2])
              | succ k3 =>
               have H := HA.out
               clear HA
               simp only [impl_regions.l2] at H
               by_cases c28 : (x6_3.length : Int) > 0
               ·
                rw [if_pos c28] at H
                have c28b0 : decide (0 < (x6_3.length : Int)) = true := decide_eq_true c28
                (try simp only [hl3_1, hl3_2, hl3_3] at c28b0)
                have c28b1 : decide (0 < x6_3.length) = true := decide_eq_true (by omega)
                (try simp only [hl3_1, hl3_2, hl3_3] at c28b1)
                clear c28
                obtain ⟨ji29, hji29⟩ : ∃ j_ : Int, (wrap64 ((x6_3.length : Int) - 1)) = j_ := ⟨_, rfl⟩
                replace H : (if 0 ≤ (ji29) then (if (ji29) < (x6_3.length : Int) then (if (ji29) ≤ (x6_3.length : Int) then ((impl_beside.f k3 a0_0 a0_1 a0_2 (rd x6_3 (ji29))).bind fun t180 => (impl_regions.l3 k3 x3_3 x28_2 (x6_3.take ((ji29) : Int).toNat) (x3_1.length : Int) x28_2 t180 (t180.length : Int) 0 a0_0 a0_1 a0_2)) else (none)) else (none)) else (none)) = some r := by first | (rw [hji29] at H; exact H) | (simp only [hji29] at H ⊢; exact H)
                have hji29w : (IntKind.i64.wrap ((x6_3.length : Int) - 1)) = ji29 := (i64_w _).trans hji29
                by_cases c30 : 0 ≤ (ji29)
                ·
                 rw [if_pos c30] at H
                 have c30b0 : decide (0 ≤ (ji29)) = true := decide_eq_true c30
                 clear c30
                 by_cases c31 : (ji29) < (x6_3.length : Int)
                 ·
                  rw [if_pos c31] at H
                  have c31b0 : decide ((ji29) < (x6_3.length : Int)) = true := decide_eq_true c31
                  (try simp only [hl3_1, hl3_2, hl3_3] at c31b0)
                  clear c31
                  by_cases c32 : (ji29) ≤ (x6_3.length : Int)
                  ·
                   rw [if_pos c32] at H
                   have c32b0 := eq_true c32
                   have c32b1 : decide ((ji29) ≤ (x6_3.length : Int)) = true := decide_eq_true c32
                   (try simp only [hl3_1, hl3_2, hl3_3] at c32b1)
                   clear c32
                   obtain ⟨y177, hy177⟩ : ∃ y_ : List Int, y_ = (x6_3.take ((ji29) : Int).toNat) := ⟨_, rfl⟩
                   replace H : ((impl_beside.f k3 a0_0 a0_1 a0_2 (rd x6_3 (ji29))).bind fun t180 => (impl_regions.l3 k3 x3_3 x28_2 y177 (x3_1.length : Int) x28_2 t180 (t180.length : Int) 0 a0_0 a0_1 a0_2)) = some r := by first | (rw [hy177]; with_reducible exact H) | (have H2_ := (Option.bind_some _ _).symm.trans H; rw [hy177]; with_reducible exact H2_) | (have H2_ := (Option.bind_some _ _).symm.trans H; with_reducible exact H2_) | with_reducible exact H | (rw [hy177]; exact H) | exact H
                   have Ny177 := Aside0.mk hy177
                   clear hy177
                   replace H := Option.bind_eq_some_iff.mp H
                   obtain ⟨t180, A330, H⟩ := H
                   replace H : (impl_regions.l3 k3 x3_3 x28_2 y177 (x3_1.length : Int) x28_2 t180 (t180.length : Int) 0 a0_0 a0_1 a0_2) = some r := H
                   have A33 := Aside0.mk A330
                   clear A330
                   have H' := Aside0.mk H
                   clear H
                   obtain ⟨Ao34, co34, eo34⟩ := Kd.R_slice HO_6.out
                   subst eo34
                   have p176 : 0 ≤ ((ji29) : Int) := of_decide_eq_true Hd.a_
                   have q176 : (ji29) < (x6_3.length : Int) := of_decide_eq_true Hd.a_
                   obtain ⟨ad176, e176, hx176_0⟩ := Kd.at_int (Kd.R_reads' HO_6.out).2.2 (ji29) p176 q176
                   cases e176
                   replace p176 := eq_true p176
                   replace q176 := eq_true q176
                   have q35 : ((ji29) : Int) ≤ ((x6_3.length : Int) : Int) := of_decide_eq_true Hd.a_
                   obtain ⟨i035, hi035, _, hsz35, _⟩ := info_parts info3
                   have hcut35 := cut_to (P := Try.prog) 81 3 .i64 Try.underlying81 hi035 (some ad176) x6_3.length co34 (ji29) (of_decide_eq_true Hd.a_) q35 (Kd.R_reads' HO_6.out).2.1
                   have hr35 := Kd.R_take (m := ((ji29) : Int).toNat) HO_6.out (by omega)
                   have hy35 : y177.length = ((ji29) : Int).toNat := (by rw [Ny177.out, List.length_take]; omega)
                   rw [← Ny177.out] at hr35
                   rw [← hy35] at hr35 hcut35
                   clear hy35 hi035 hsz35 HO_6
                   have HO179 := Aside0.mk hr35
                   clear hr35
                   replace q35 := eq_true q35
                   obtain ⟨hcz36_0, hcz36_1, hcz36_2⟩ := Hd.c3_ BK165.out
                   obtain ⟨hfz36_0, hfz36_1, hfz36_2⟩ := Hd.f3_ BK165.out
                   go_wp2_with (first | (go_at_call 122; (with_reducible refine (impl_beside.calls k3 a0_0 a0_1 a0_2 (rd x6_3 (ji29)) t180 _ A33.out).mono ?_); rintro e w37 ⟨v181, rfl, ho0, hb⟩; have HO182 := Aside0.mk (Kd.R_lower (Kd.R_new' (Kd.R_new' ho0 (Kd.R_lt (Hd.r_ HO_3))) (Kd.R_lt (Hd.r_ HO179))) (below_size Hd.b_)); replace HO_3 := Aside0.mk (Kd.R_elder' (Hd.r_ HO_3) (Kd.R_base ho0) hb); replace HO179 := Aside0.mk (Kd.R_elder' (Hd.r_ HO179) (Kd.R_base ho0) hb); replace BK165 := Aside0.mk (Hd.kb_ BK165 hb); replace HB := Aside0.mk (below_step Hd.b_ hb); (try clear hb); (try clear hb2); (try clear hk); (try clear hi); (try clear ho0); obtain ⟨Ao38, co38, eo38⟩ := Kd.R_slice HO182.out; subst eo38))
                   repeat (go_quiet (first | (go_at_call 122; (with_reducible refine (impl_beside.calls k3 a0_0 a0_1 a0_2 (rd x6_3 (ji29)) t180 _ A33.out).mono ?_); rintro e w37 ⟨v181, rfl, ho0, hb⟩; have HO182 := Aside0.mk (Kd.R_lower (Kd.R_new' (Kd.R_new' ho0 (Kd.R_lt (Hd.r_ HO_3))) (Kd.R_lt (Hd.r_ HO179))) (below_size Hd.b_)); replace HO_3 := Aside0.mk (Kd.R_elder' (Hd.r_ HO_3) (Kd.R_base ho0) hb); replace HO179 := Aside0.mk (Kd.R_elder' (Hd.r_ HO179) (Kd.R_base ho0) hb); replace BK165 := Aside0.mk (Hd.kb_ BK165 hb); replace HB := Aside0.mk (below_step Hd.b_ hb); (try clear hb); (try clear hb2); (try clear hk); (try clear hi); (try clear ho0); obtain ⟨Ao38, co38, eo38⟩ := Kd.R_slice HO182.out; subst eo38)); try go_wp2_with (first | (go_at_call 122; (with_reducible refine (impl_beside.calls k3 a0_0 a0_1 a0_2 (rd x6_3 (ji29)) t180 _ A33.out).mono ?_); rintro e w37 ⟨v181, rfl, ho0, hb⟩; have HO182 := Aside0.mk (Kd.R_lower (Kd.R_new' (Kd.R_new' ho0 (Kd.R_lt (Hd.r_ HO_3))) (Kd.R_lt (Hd.r_ HO179))) (below_size Hd.b_)); replace HO_3 := Aside0.mk (Kd.R_elder' (Hd.r_ HO_3) (Kd.R_base ho0) hb); replace HO179 := Aside0.mk (Kd.R_elder' (Hd.r_ HO179) (Kd.R_base ho0) hb); replace BK165 := Aside0.mk (Hd.kb_ BK165 hb); replace HB := Aside0.mk (below_step Hd.b_ hb); (try clear hb); (try clear hb2); (try clear hk); (try clear hi); (try clear ho0); obtain ⟨Ao38, co38, eo38⟩ := Kd.R_slice HO182.out; subst eo38)))
                   go_loopg [6, 60] k3 (fun kq v6 v60 w' => ∃ (x3_4 : List Int) (x6_4 : List Int) (x60_4 : Int), v60 = .int .i64 x60_4 ∧ Aside0 (impl_regions.l3 kq x3_4 x28_2 x6_4 (x3_1.length : Int) x28_2 t180 (t180.length : Int) x60_4 a0_0 a0_1 a0_2 = some r) ∧ Aside0 (kq ≤ k3) ∧ Aside0 (Kd.R (Kd.int .i64) 3 w' w.heap.size (fun k_ => some k_ ≠ (v6 : Value).ownBlock ∧ some k_ ≠ ((.slice Ao38 t180.length co38) : Value).ownBlock) (.slice (some ⟨go23, 0, none⟩) x3_3.length co12) x3_4) ∧ Aside0 (Kd.R (Kd.int .i64) 3 w' w.heap.size (fun k_ => some k_ ≠ ((.slice (some ⟨go23, 0, none⟩) x3_3.length co12) : Value).ownBlock ∧ some k_ ≠ ((.slice Ao38 t180.length co38) : Value).ownBlock) v6 x6_4) ∧ Aside0 (Kd.R (Kd.int .i64) 3 w' w.heap.size (fun k_ => some k_ ≠ ((.slice (some ⟨go23, 0, none⟩) x3_3.length co12) : Value).ownBlock ∧ some k_ ≠ (v6 : Value).ownBlock) (.slice Ao38 t180.length co38) t180) ∧ Aside0 (w'.heap[gb165]? = some (.cells #[.int .i64 a0_0, .int .i64 a0_1, .string a0_2] 96 (0, 0))) ∧ Aside0 (Below w.heap.size w w'))
                   case atStart => exact ⟨(x3_3), (y177), (0), (by first | rfl | (simp; done) | (simp [*]; done)), H', ⟨Nat.le_refl _⟩, ⟨by (try simp only [hl3_1]); (try simp only [hl3_2]); (try simp only [hl3_3]); (with_reducible repeat (first | apply Kd.R_alloc | apply Kd.R_drewN | apply Kd.R_drew)); exact HO_3.out⟩, ⟨by (try simp only [hl3_1]); (try simp only [hl3_2]); (try simp only [hl3_3]); (with_reducible repeat (first | apply Kd.R_alloc | apply Kd.R_drewN | apply Kd.R_drew)); exact HO179.out⟩, ⟨by (try simp only [hl3_1]); (try simp only [hl3_2]); (try simp only [hl3_3]); (with_reducible repeat (first | apply Kd.R_alloc | apply Kd.R_drewN | apply Kd.R_drew)); exact Kd.R_mono HO182.out (fun _ hk => ⟨hk.1.2, hk.2⟩)⟩, ⟨by (try simp only [hl3_1]); (try simp only [hl3_2]); (try simp only [hl3_3]); (with_reducible repeat (first | refine blk_drewN ?_ _ | refine blk_drew ?_ | refine blk_alloc ?_ _)); exact BK165.out⟩, ⟨Hd.b_⟩⟩
                   case round =>
                    clear H'
                    try clear c1
                    try clear p1
                    try clear q1
                    try clear hx1
                    try clear hf1
                    try clear c2
                    try clear p2
                    try clear q2
                    try clear hx2
                    try clear hf2
                    try clear c3
                    try clear q3
                    try clear c4
                    try clear c4b0
                    try clear c4b1
                    try clear c5
                    try clear c5b0
                    try clear c5b1
                    try clear p6
                    try clear c11
                    try clear c13
                    try clear c13b0
                    try clear c14
                    try clear c14b0
                    try clear c15
                    try clear c15b0
                    try clear p16
                    try clear q16
                    try clear hx16
                    try clear hf16
                    try clear p17
                    try clear q17
                    try clear hx17
                    try clear c19
                    try clear c19b0
                    try clear c20
                    try clear c20b0
                    try clear c21
                    try clear c21b0
                    try clear c22
                    try clear c22b0
                    try clear p23
                    try clear q23
                    try clear hx23
                    try clear hf23
                    try clear c28
                    try clear c28b0
                    try clear c28b1
                    try clear c30
                    try clear c30b0
                    try clear c31
                    try clear c31b0
                    try clear c32
                    try clear c32b0
                    try clear c32b1
                    try clear q35
                    try clear hcz36_0
                    try clear hcz36_1
                    try clear hcz36_2
                    try clear hcz7_0
                    try clear hcz7_1
                    try clear hcz7_2
                    try clear hcz9_0
                    try clear hcz9_1
                    try clear hcz9_2
                    try clear hfz36_0
                    try clear hfz36_1
                    try clear hfz36_2
                    try clear hfz7_0
                    try clear hfz7_1
                    try clear hfz7_2
                    try clear hfz9_0
                    try clear hfz9_1
                    try clear hfz9_2
                    try clear hx16_0
                    try clear hx171_0
                    try clear hx176_0
                    try clear hx23_0
                    try clear p1
                    try clear p16
                    try clear p17
                    try clear p171
                    try clear p176
                    try clear p2
                    try clear p23
                    try clear p6
                    try clear q1
                    try clear q16
                    try clear q17
                    try clear q171
                    try clear q176
                    try clear q2
                    try clear q23
                    try clear q35
                    obtain ⟨x3_4, x6_4, x60_4, rfl, HA, HK4, HO_3, HO_6, HO_58, BK165, HB⟩ := hrel
                    have hl3_4 := (Kd.R_reads' HO_3.out).1
                    rw [hl3_4] at HO_3
                    (try simp only [hl3_4])
                    (try simp only [hl3_4] at BK165)
                    (try simp only [hl3_4] at HO_6)
                    (try simp only [hl3_4] at HO_58)
                    cases gk with
                    | zero => exact absurd HA.out (by simp [impl_regions.l3])
                    | succ k4 =>
                     have H := HA.out
                     clear HA
                     simp only [impl_regions.l3] at H
                     by_cases c39 : x60_4 < (t180.length : Int)
                     ·
                      rw [if_pos c39] at H
                      have c39b0 : decide (x60_4 < (t180.length : Int)) = true := decide_eq_true c39
                      (try simp only [hl3_1, hl3_2, hl3_3, hl3_4] at c39b0)
                      clear c39
                      by_cases c40 : 0 ≤ x60_4
                      ·
                       rw [if_pos c40] at H
                       have c40b0 : decide (0 ≤ x60_4) = true := decide_eq_true c40
                       clear c40
                       by_cases c41 : x60_4 < (t180.length : Int)
                       ·
                        rw [if_pos c41] at H
                        have c41b0 : decide (x60_4 < (t180.length : Int)) = true := decide_eq_true c41
                        (try simp only [hl3_1, hl3_2, hl3_3, hl3_4] at c41b0)
                        clear c41
                        by_cases c42 : 0 ≤ (rd t180 x60_4)
                        ·
                         rw [if_pos c42] at H
                         have c42b0 : decide (0 ≤ (rd t180 x60_4)) = true := decide_eq_true c42
                         clear c42
                         by_cases c43 : (rd t180 x60_4) < (x3_4.length : Int)
                         ·
                          rw [if_pos c43] at H
                          have c43b0 : decide ((rd t180 x60_4) < (x3_4.length : Int)) = true := decide_eq_true c43
                          (try simp only [hl3_1, hl3_2, hl3_3, hl3_4] at c43b0)
                          clear c43
                          by_cases c44 : (rd x3_4 (rd t180 x60_4)) < 0
                          ·
                           rw [if_pos c44] at H
                           have c44b0 : decide ((rd x3_4 (rd t180 x60_4)) < 0) = true := decide_eq_true c44
                           clear c44
                           by_cases c45 : (rd t180 x60_4) < (a0_2.size : Int)
                           ·
                            rw [if_pos c45] at H
                            have c45b0 : decide ((rd t180 x60_4) < (a0_2.size : Int)) = true := decide_eq_true c45
                            clear c45
                            by_cases c47 : 0 ≤ x28_2
                            ·
                             rw [if_pos c47] at H
                             have c47b0 : decide (0 ≤ x28_2) = true := decide_eq_true c47
                             clear c47
                             by_cases c48 : x28_2 < (a0_2.size : Int)
                             ·
                              rw [if_pos c48] at H
                              have c48b0 : decide (x28_2 < (a0_2.size : Int)) = true := decide_eq_true c48
                              clear c48
                              by_cases c50 : (bt a0_2 (rd t180 x60_4)) = (bt a0_2 x28_2)
                              ·
                               rw [if_pos c50] at H
                               have c50b0 : ((bt a0_2 (rd t180 x60_4)) == (bt a0_2 x28_2)) = true := beq_iff_eq.mpr c50
                               have c50b1 : ((bt a0_2 (rd t180 x60_4)) != (bt a0_2 x28_2)) = false := bne_eq_false_iff_eq.mpr c50
                               clear c50
                               obtain ⟨y185, hy185⟩ : ∃ y_ : List Int, y_ = (x3_4.set ((rd t180 x60_4) : Int).toNat x28_2) := ⟨_, rfl⟩
                               replace H : (if x6_4.length < 17592186044416 then (impl_regions.l3 k4 y185 x28_2 (x6_4 ++ [rd t180 x60_4]) (x3_1.length : Int) x28_2 t180 (t180.length : Int) (wrap64 (x60_4 + 1)) a0_0 a0_1 a0_2) else (none)) = some r := by first | (rw [hy185]; with_reducible exact H) | (have H2_ := (Option.bind_some _ _).symm.trans H; rw [hy185]; with_reducible exact H2_) | (have H2_ := (Option.bind_some _ _).symm.trans H; with_reducible exact H2_) | with_reducible exact H | (rw [hy185]; exact H) | exact H
                               have Ny185 := Aside0.mk hy185
                               clear hy185
                               by_cases c52 : x6_4.length < 17592186044416
                               ·
                                rw [if_pos c52] at H
                                have LMc52 := Aside0.mk c52
                                clear c52
                                obtain ⟨y186, hy186⟩ : ∃ y_ : List Int, y_ = (x6_4 ++ [rd t180 x60_4]) := ⟨_, rfl⟩
                                replace H : (impl_regions.l3 k4 y185 x28_2 y186 (x3_1.length : Int) x28_2 t180 (t180.length : Int) (wrap64 (x60_4 + 1)) a0_0 a0_1 a0_2) = some r := by first | (rw [hy186]; with_reducible exact H) | (have H2_ := (Option.bind_some _ _).symm.trans H; rw [hy186]; with_reducible exact H2_) | (have H2_ := (Option.bind_some _ _).symm.trans H; with_reducible exact H2_) | with_reducible exact H | (rw [hy186]; exact H) | exact H
                                have Ny186 := Aside0.mk hy186
                                clear hy186
                                have H' := Aside0.mk H
                                clear H
                                have p183 : 0 ≤ (x60_4 : Int) := of_decide_eq_true Hd.a_
                                have q183 : x60_4 < (t180.length : Int) := of_decide_eq_true Hd.a_
                                obtain ⟨ad183, e183, hx183_0⟩ := Kd.at_int (Kd.R_reads' HO_58.out).2.2 x60_4 p183 q183
                                cases e183
                                replace p183 := eq_true p183
                                replace q183 := eq_true q183
                                have p184 : 0 ≤ ((rd t180 x60_4) : Int) := of_decide_eq_true Hd.a_
                                have q184 : (rd t180 x60_4) < (x3_4.length : Int) := of_decide_eq_true Hd.a_
                                obtain ⟨ad184, e184, hx184_0⟩ := Kd.at_int (Kd.R_reads' HO_3.out).2.2 (rd t180 x60_4) p184 q184
                                obtain rfl : (⟨go23, 0, none⟩ : Addr) = ad184 := (by injection e184)
                                (first | simp only [add_plain] at hx184_0 | simp only [add_at] at hx184_0 | simp only [Addr.add, Nat.zero_add] at hx184_0 | skip)
                                replace p184 := eq_true p184
                                replace q184 := eq_true q184
                                obtain ⟨hcz53_0, hcz53_1, hcz53_2⟩ := Hd.c3_ BK165.out
                                obtain ⟨hfz53_0, hfz53_1, hfz53_2⟩ := Hd.f3_ BK165.out
                                have p46 : 0 ≤ ((rd t180 x60_4) : Int) := of_decide_eq_true Hd.a_
                                have q46 : (rd t180 x60_4) < (a0_2.size : Int) := of_decide_eq_true Hd.a_
                                have hx46 := bt_at a0_2 (rd t180 x60_4)
                                replace p46 := eq_true p46
                                replace q46 := eq_true q46
                                have p49 : 0 ≤ (x28_2 : Int) := of_decide_eq_true Hd.a_
                                have q49 : x28_2 < (a0_2.size : Int) := of_decide_eq_true Hd.a_
                                have hx49 := bt_at a0_2 x28_2
                                replace p49 := eq_true p49
                                replace q49 := eq_true q49
                                have p51 : 0 ≤ ((rd t180 x60_4) : Int) := of_decide_eq_true Hd.a_
                                have q51 : ((rd t180 x60_4) : Int) < ((x3_4.length : Int) : Int) := of_decide_eq_true Hd.a_
                                obtain ⟨hx51_0, hf51_0⟩ := Kd.R_celln 0 HO_3.out ((rd t180 x60_4) : Int) p51 q51
                                replace p51 := eq_true p51
                                replace q51 := eq_true q51
                                have HP54 := Kd.R_putg HO_3.out ((rd t180 x60_4) : Int) x28_2
                                go_wp2_with (first | ((with_reducible refine gate_store (t := 3) (p := 83) rfl ?_); (try (rw [drewN_self wr]; generalize hq_ : World.drewN wr _ = wr; have n0_ := Aside0.mk (Kd.R_at hq_ HO_3.out); have n1_ := Aside0.mk (Kd.R_at hq_ HO_6.out); have n2_ := Aside0.mk (Kd.R_at hq_ HO_58.out); have n3_ := Aside0.mk (blk_at hq_ BK165.out); have n4_ := Aside0.mk (below_at hq_ HB.out); clear hq_ HO_3 HO_6 HO_58 BK165 HB; have HO_3 := n0_; have HO_6 := n1_; have HO_58 := n2_; have BK165 := n3_; have HB := n4_; clear n0_ n1_ n2_ n3_ n4_; (try (have HP54 := Kd.R_putg HO_3.out ((rd t180 x60_4) : Int) x28_2)); (try (obtain ⟨hx51_0, hf51_0⟩ := Kd.R_celln 0 HO_3.out ((rd t180 x60_4) : Int) (of_eq_true p51) (of_eq_true q51))))); refine store_event (t := 3) (p := 83) (v := ?vo_w55) (w1 := (wr.setCell ⟨go23, ((rd t180 x60_4) : Int).toNat, none⟩ (.int .i64 x28_2))) ?hg ?ho ?hn ?hr ?_; (case ho => rfl); (case hg => rfl); (case hn => rfl); (case hr => first | (go_simp; done) | (go_simp; rfl)); intro w55 hw; have hg : wr.grownBy w55 (some go23) := (by rw [hw]; exact HP54.2); have hp_ : Kd.R (Kd.int .i64) 3 w55 w.heap.size (fun k_ => some k_ ≠ (u6 : Value).ownBlock ∧ some k_ ≠ (.slice (some ad183) t180.length co38 : Value).ownBlock) (.slice (some ⟨go23, 0, none⟩) x3_4.length co12) y185 := (by rw [hw, Ny185.out]; exact HP54.1); clear HP54; replace HO_6 := Aside0.mk (Kd.R_after (v := (.slice (some ⟨go23, 0, none⟩) x3_4.length co12)) (v1 := (.slice (some ⟨go23, 0, none⟩) x3_4.length co12)) (ok := (fun k_ => some k_ ≠ (.slice (some ad183) t180.length co38 : Value).ownBlock)) (by (with_reducible repeat (first | apply Kd.R_alloc | apply Kd.R_drewN | apply Kd.R_drew)); exact Kd.R_mono HO_6.out (fun _ hk => ⟨hk.2, hk.1⟩)) hg (.inl rfl)); replace HO_58 := Aside0.mk (Kd.R_after (v := (.slice (some ⟨go23, 0, none⟩) x3_4.length co12)) (v1 := (.slice (some ⟨go23, 0, none⟩) x3_4.length co12)) (ok := (fun k_ => some k_ ≠ (u6 : Value).ownBlock)) (by (with_reducible repeat (first | apply Kd.R_alloc | apply Kd.R_drewN | apply Kd.R_drew)); exact Kd.R_mono HO_58.out (fun _ hk => ⟨hk.2, hk.1⟩)) hg (.inl rfl)); replace BK165 := Aside0.mk (blk_grown (g := gb165) (o := .cells #[.int .i64 a0_0, .int .i64 a0_1, .string a0_2] 96 (0, 0)) (Hd.k_ BK165) hg (Kd.R_ne HO_3.out BK165.out (by decide))); replace HO_3 := Aside0.mk (hp_); replace HB := Aside0.mk ((by rw [hw]; exact below_set (HB.out) GB23.out : Below w.heap.size w w55)); clear hg hw hp_) | ((with_reducible refine gate_builtin (b := .append) (xs := #[.tmp 84, .tmp 86]) rfl ?_); at_builtin; refine Kd.R_append (Kd.int .i64) (w0 := w) w.heap.size rfl (.tmp 84) (.tmp 86) 81 3 (.int .i64 0) 8 rfl Try.underlying81 info3 rfl (by decide) (by omega) u6 x6_4 (rd t180 x60_4) [.int .i64 (rd t180 x60_4)] (fun k_ => some k_ ≠ (.slice (some ⟨go23, 0, none⟩) x3_4.length co12 : Value).ownBlock ∧ some k_ ≠ (.slice (some ad183) t180.length co38 : Value).ownBlock) (fun _ => False) rfl rfl ?aP (fun _ hk => hk.elim) ?aF ?aO ?aB ?aS ?aL ?_; (case aP => exact rfl); (case aB => exact Hd.b_); (case aF => exact (fun k_ hk => ⟨Kd.fresh' (Kd.R_lt (Hd.r_ HO_3)) k_ hk, Kd.fresh' (Kd.R_lt (Hd.r_ HO_58)) k_ hk⟩)); (case aO => exact (by (with_reducible repeat (first | apply Kd.R_alloc | apply Kd.R_drewN | apply Kd.R_drew)); exact Kd.R_mono HO_6.out (fun _ hk => ⟨hk.2, hk.1⟩))); (case aS => exact (below_size Hd.b_)); (case aL => have := LMc52.out; omega); intro v187 w56 ho hb hg hat; rw [← Ny186.out] at ho; have n0_ := Aside0.mk (Kd.R_after (ok := (fun k_ => some k_ ≠ (.slice (some ad183) t180.length co38 : Value).ownBlock)) (by (with_reducible repeat (first | apply Kd.R_alloc | apply Kd.R_drewN | apply Kd.R_drew)); exact Kd.R_mono HO_3.out (fun _ hk => ⟨hk.2, hk.1⟩)) hg hat); have n1_ := Aside0.mk (Kd.R_after (ok := (fun k_ => some k_ ≠ (.slice (some ⟨go23, 0, none⟩) x3_4.length co12 : Value).ownBlock)) (by (with_reducible repeat (first | apply Kd.R_alloc | apply Kd.R_drewN | apply Kd.R_drew)); exact Kd.R_mono HO_58.out (fun _ hk => ⟨hk.2, hk.1⟩)) hg hat); have n2_ := Aside0.mk (blk_grown (g := gb165) (o := .cells #[.int .i64 a0_0, .int .i64 a0_1, .string a0_2] 96 (0, 0)) (Hd.k_ BK165) hg (Kd.R_ne HO_6.out BK165.out (by decide))); have n3_ := Aside0.mk (hb); have n4_ := Aside0.mk (ho); clear HO_3; clear HO_58; clear BK165; clear HB; clear HO_6; have HO_3 := n0_; have HO_58 := n1_; have BK165 := n2_; have HB := n3_; have HO188 := n4_; clear n0_ n1_ n2_ n3_ n4_; clear ho hb hg hat))
                                repeat (go_quiet (first | ((with_reducible refine gate_store (t := 3) (p := 83) rfl ?_); (try (rw [drewN_self wr]; generalize hq_ : World.drewN wr _ = wr; have n0_ := Aside0.mk (Kd.R_at hq_ HO_3.out); have n1_ := Aside0.mk (Kd.R_at hq_ HO_6.out); have n2_ := Aside0.mk (Kd.R_at hq_ HO_58.out); have n3_ := Aside0.mk (blk_at hq_ BK165.out); have n4_ := Aside0.mk (below_at hq_ HB.out); clear hq_ HO_3 HO_6 HO_58 BK165 HB; have HO_3 := n0_; have HO_6 := n1_; have HO_58 := n2_; have BK165 := n3_; have HB := n4_; clear n0_ n1_ n2_ n3_ n4_; (try (have HP54 := Kd.R_putg HO_3.out ((rd t180 x60_4) : Int) x28_2)); (try (obtain ⟨hx51_0, hf51_0⟩ := Kd.R_celln 0 HO_3.out ((rd t180 x60_4) : Int) (of_eq_true p51) (of_eq_true q51))))); refine store_event (t := 3) (p := 83) (v := ?vo_w55) (w1 := (wr.setCell ⟨go23, ((rd t180 x60_4) : Int).toNat, none⟩ (.int .i64 x28_2))) ?hg ?ho ?hn ?hr ?_; (case ho => rfl); (case hg => rfl); (case hn => rfl); (case hr => first | (go_simp; done) | (go_simp; rfl)); intro w55 hw; have hg : wr.grownBy w55 (some go23) := (by rw [hw]; exact HP54.2); have hp_ : Kd.R (Kd.int .i64) 3 w55 w.heap.size (fun k_ => some k_ ≠ (u6 : Value).ownBlock ∧ some k_ ≠ (.slice (some ad183) t180.length co38 : Value).ownBlock) (.slice (some ⟨go23, 0, none⟩) x3_4.length co12) y185 := (by rw [hw, Ny185.out]; exact HP54.1); clear HP54; replace HO_6 := Aside0.mk (Kd.R_after (v := (.slice (some ⟨go23, 0, none⟩) x3_4.length co12)) (v1 := (.slice (some ⟨go23, 0, none⟩) x3_4.length co12)) (ok := (fun k_ => some k_ ≠ (.slice (some ad183) t180.length co38 : Value).ownBlock)) (by (with_reducible repeat (first | apply Kd.R_alloc | apply Kd.R_drewN | apply Kd.R_drew)); exact Kd.R_mono HO_6.out (fun _ hk => ⟨hk.2, hk.1⟩)) hg (.inl rfl)); replace HO_58 := Aside0.mk (Kd.R_after (v := (.slice (some ⟨go23, 0, none⟩) x3_4.length co12)) (v1 := (.slice (some ⟨go23, 0, none⟩) x3_4.length co12)) (ok := (fun k_ => some k_ ≠ (u6 : Value).ownBlock)) (by (with_reducible repeat (first | apply Kd.R_alloc | apply Kd.R_drewN | apply Kd.R_drew)); exact Kd.R_mono HO_58.out (fun _ hk => ⟨hk.2, hk.1⟩)) hg (.inl rfl)); replace BK165 := Aside0.mk (blk_grown (g := gb165) (o := .cells #[.int .i64 a0_0, .int .i64 a0_1, .string a0_2] 96 (0, 0)) (Hd.k_ BK165) hg (Kd.R_ne HO_3.out BK165.out (by decide))); replace HO_3 := Aside0.mk (hp_); replace HB := Aside0.mk ((by rw [hw]; exact below_set (HB.out) GB23.out : Below w.heap.size w w55)); clear hg hw hp_) | ((with_reducible refine gate_builtin (b := .append) (xs := #[.tmp 84, .tmp 86]) rfl ?_); at_builtin; refine Kd.R_append (Kd.int .i64) (w0 := w) w.heap.size rfl (.tmp 84) (.tmp 86) 81 3 (.int .i64 0) 8 rfl Try.underlying81 info3 rfl (by decide) (by omega) u6 x6_4 (rd t180 x60_4) [.int .i64 (rd t180 x60_4)] (fun k_ => some k_ ≠ (.slice (some ⟨go23, 0, none⟩) x3_4.length co12 : Value).ownBlock ∧ some k_ ≠ (.slice (some ad183) t180.length co38 : Value).ownBlock) (fun _ => False) rfl rfl ?aP (fun _ hk => hk.elim) ?aF ?aO ?aB ?aS ?aL ?_; (case aP => exact rfl); (case aB => exact Hd.b_); (case aF => exact (fun k_ hk => ⟨Kd.fresh' (Kd.R_lt (Hd.r_ HO_3)) k_ hk, Kd.fresh' (Kd.R_lt (Hd.r_ HO_58)) k_ hk⟩)); (case aO => exact (by (with_reducible repeat (first | apply Kd.R_alloc | apply Kd.R_drewN | apply Kd.R_drew)); exact Kd.R_mono HO_6.out (fun _ hk => ⟨hk.2, hk.1⟩))); (case aS => exact (below_size Hd.b_)); (case aL => have := LMc52.out; omega); intro v187 w56 ho hb hg hat; rw [← Ny186.out] at ho; have n0_ := Aside0.mk (Kd.R_after (ok := (fun k_ => some k_ ≠ (.slice (some ad183) t180.length co38 : Value).ownBlock)) (by (with_reducible repeat (first | apply Kd.R_alloc | apply Kd.R_drewN | apply Kd.R_drew)); exact Kd.R_mono HO_3.out (fun _ hk => ⟨hk.2, hk.1⟩)) hg hat); have n1_ := Aside0.mk (Kd.R_after (ok := (fun k_ => some k_ ≠ (.slice (some ⟨go23, 0, none⟩) x3_4.length co12 : Value).ownBlock)) (by (with_reducible repeat (first | apply Kd.R_alloc | apply Kd.R_drewN | apply Kd.R_drew)); exact Kd.R_mono HO_58.out (fun _ hk => ⟨hk.2, hk.1⟩)) hg hat); have n2_ := Aside0.mk (blk_grown (g := gb165) (o := .cells #[.int .i64 a0_0, .int .i64 a0_1, .string a0_2] 96 (0, 0)) (Hd.k_ BK165) hg (Kd.R_ne HO_6.out BK165.out (by decide))); have n3_ := Aside0.mk (hb); have n4_ := Aside0.mk (ho); clear HO_3; clear HO_58; clear BK165; clear HB; clear HO_6; have HO_3 := n0_; have HO_58 := n1_; have BK165 := n2_; have HB := n3_; have HO188 := n4_; clear n0_ n1_ n2_ n3_ n4_; clear ho hb hg hat)); try go_wp2_with (first | ((with_reducible refine gate_store (t := 3) (p := 83) rfl ?_); (try (rw [drewN_self wr]; generalize hq_ : World.drewN wr _ = wr; have n0_ := Aside0.mk (Kd.R_at hq_ HO_3.out); have n1_ := Aside0.mk (Kd.R_at hq_ HO_6.out); have n2_ := Aside0.mk (Kd.R_at hq_ HO_58.out); have n3_ := Aside0.mk (blk_at hq_ BK165.out); have n4_ := Aside0.mk (below_at hq_ HB.out); clear hq_ HO_3 HO_6 HO_58 BK165 HB; have HO_3 := n0_; have HO_6 := n1_; have HO_58 := n2_; have BK165 := n3_; have HB := n4_; clear n0_ n1_ n2_ n3_ n4_; (try (have HP54 := Kd.R_putg HO_3.out ((rd t180 x60_4) : Int) x28_2)); (try (obtain ⟨hx51_0, hf51_0⟩ := Kd.R_celln 0 HO_3.out ((rd t180 x60_4) : Int) (of_eq_true p51) (of_eq_true q51))))); refine store_event (t := 3) (p := 83) (v := ?vo_w55) (w1 := (wr.setCell ⟨go23, ((rd t180 x60_4) : Int).toNat, none⟩ (.int .i64 x28_2))) ?hg ?ho ?hn ?hr ?_; (case ho => rfl); (case hg => rfl); (case hn => rfl); (case hr => first | (go_simp; done) | (go_simp; rfl)); intro w55 hw; have hg : wr.grownBy w55 (some go23) := (by rw [hw]; exact HP54.2); have hp_ : Kd.R (Kd.int .i64) 3 w55 w.heap.size (fun k_ => some k_ ≠ (u6 : Value).ownBlock ∧ some k_ ≠ (.slice (some ad183) t180.length co38 : Value).ownBlock) (.slice (some ⟨go23, 0, none⟩) x3_4.length co12) y185 := (by rw [hw, Ny185.out]; exact HP54.1); clear HP54; replace HO_6 := Aside0.mk (Kd.R_after (v := (.slice (some ⟨go23, 0, none⟩) x3_4.length co12)) (v1 := (.slice (some ⟨go23, 0, none⟩) x3_4.length co12)) (ok := (fun k_ => some k_ ≠ (.slice (some ad183) t180.length co38 : Value).ownBlock)) (by (with_reducible repeat (first | apply Kd.R_alloc | apply Kd.R_drewN | apply Kd.R_drew)); exact Kd.R_mono HO_6.out (fun _ hk => ⟨hk.2, hk.1⟩)) hg (.inl rfl)); replace HO_58 := Aside0.mk (Kd.R_after (v := (.slice (some ⟨go23, 0, none⟩) x3_4.length co12)) (v1 := (.slice (some ⟨go23, 0, none⟩) x3_4.length co12)) (ok := (fun k_ => some k_ ≠ (u6 : Value).ownBlock)) (by (with_reducible repeat (first | apply Kd.R_alloc | apply Kd.R_drewN | apply Kd.R_drew)); exact Kd.R_mono HO_58.out (fun _ hk => ⟨hk.2, hk.1⟩)) hg (.inl rfl)); replace BK165 := Aside0.mk (blk_grown (g := gb165) (o := .cells #[.int .i64 a0_0, .int .i64 a0_1, .string a0_2] 96 (0, 0)) (Hd.k_ BK165) hg (Kd.R_ne HO_3.out BK165.out (by decide))); replace HO_3 := Aside0.mk (hp_); replace HB := Aside0.mk ((by rw [hw]; exact below_set (HB.out) GB23.out : Below w.heap.size w w55)); clear hg hw hp_) | ((with_reducible refine gate_builtin (b := .append) (xs := #[.tmp 84, .tmp 86]) rfl ?_); at_builtin; refine Kd.R_append (Kd.int .i64) (w0 := w) w.heap.size rfl (.tmp 84) (.tmp 86) 81 3 (.int .i64 0) 8 rfl Try.underlying81 info3 rfl (by decide) (by omega) u6 x6_4 (rd t180 x60_4) [.int .i64 (rd t180 x60_4)] (fun k_ => some k_ ≠ (.slice (some ⟨go23, 0, none⟩) x3_4.length co12 : Value).ownBlock ∧ some k_ ≠ (.slice (some ad183) t180.length co38 : Value).ownBlock) (fun _ => False) rfl rfl ?aP (fun _ hk => hk.elim) ?aF ?aO ?aB ?aS ?aL ?_; (case aP => exact rfl); (case aB => exact Hd.b_); (case aF => exact (fun k_ hk => ⟨Kd.fresh' (Kd.R_lt (Hd.r_ HO_3)) k_ hk, Kd.fresh' (Kd.R_lt (Hd.r_ HO_58)) k_ hk⟩)); (case aO => exact (by (with_reducible repeat (first | apply Kd.R_alloc | apply Kd.R_drewN | apply Kd.R_drew)); exact Kd.R_mono HO_6.out (fun _ hk => ⟨hk.2, hk.1⟩))); (case aS => exact (below_size Hd.b_)); (case aL => have := LMc52.out; omega); intro v187 w56 ho hb hg hat; rw [← Ny186.out] at ho; have n0_ := Aside0.mk (Kd.R_after (ok := (fun k_ => some k_ ≠ (.slice (some ad183) t180.length co38 : Value).ownBlock)) (by (with_reducible repeat (first | apply Kd.R_alloc | apply Kd.R_drewN | apply Kd.R_drew)); exact Kd.R_mono HO_3.out (fun _ hk => ⟨hk.2, hk.1⟩)) hg hat); have n1_ := Aside0.mk (Kd.R_after (ok := (fun k_ => some k_ ≠ (.slice (some ⟨go23, 0, none⟩) x3_4.length co12 : Value).ownBlock)) (by (with_reducible repeat (first | apply Kd.R_alloc | apply Kd.R_drewN | apply Kd.R_drew)); exact Kd.R_mono HO_58.out (fun _ hk => ⟨hk.2, hk.1⟩)) hg hat); have n2_ := Aside0.mk (blk_grown (g := gb165) (o := .cells #[.int .i64 a0_0, .int .i64 a0_1, .string a0_2] 96 (0, 0)) (Hd.k_ BK165) hg (Kd.R_ne HO_6.out BK165.out (by decide))); have n3_ := Aside0.mk (hb); have n4_ := Aside0.mk (ho); clear HO_3; clear HO_58; clear BK165; clear HB; clear HO_6; have HO_3 := n0_; have HO_58 := n1_; have BK165 := n2_; have HB := n3_; have HO188 := n4_; clear n0_ n1_ n2_ n3_ n4_; clear ho hb hg hat)))
                                (try simp only [← hl3_4])
                                go_roundg k4
                                case measure => have := HK1.out; have := HK2.out; have := HK3.out; have := HK4.out; omega
                                case rel => exact ⟨(y185), (y186), (wrap64 (x60_4 + 1)), (by first | rfl | (simp; done) | (simp [*]; done)), H', ⟨by have := HK1.out; have := HK2.out; have := HK3.out; have := HK4.out; omega⟩, ⟨by (try simp only [hl3_1]); (try simp only [hl3_2]); (try simp only [hl3_3]); (try simp only [hl3_4]); (with_reducible repeat (first | apply Kd.R_alloc | apply Kd.R_drewN | apply Kd.R_drew)); exact Kd.R_mono HO_3.out (fun _ hk => ⟨hk.2, hk.1⟩)⟩, ⟨by (try simp only [hl3_1]); (try simp only [hl3_2]); (try simp only [hl3_3]); (try simp only [hl3_4]); (with_reducible repeat (first | apply Kd.R_alloc | apply Kd.R_drewN | apply Kd.R_drew)); exact HO188.out⟩, ⟨by (try simp only [hl3_1]); (try simp only [hl3_2]); (try simp only [hl3_3]); (try simp only [hl3_4]); (with_reducible repeat (first | apply Kd.R_alloc | apply Kd.R_drewN | apply Kd.R_drew)); exact HO_58.out⟩, ⟨by (try simp only [hl3_1]); (try simp only [hl3_2]); (try simp only [hl3_3]); (try simp only [hl3_4]); (with_reducible repeat (first | refine blk_drewN ?_ _ | refine blk_drew ?_ | refine blk_alloc ?_ _)); exact BK165.out⟩, ⟨Hd.b_⟩⟩
                               ·
                                rw [if_neg c52] at H
                                exact absurd H (by simp)
                              ·
                               rw [if_neg c50] at H
                               have c50b0 : ((bt a0_2 (rd t180 x60_4)) == (bt a0_2 x28_2)) = false := beq_eq_false_iff_ne.mpr c50
                               have c50b1 : ((bt a0_2 (rd t180 x60_4)) != (bt a0_2 x28_2)) = true := bne_iff_ne.mpr c50
                               have H' := Aside0.mk H
                               clear H
                               have p183 : 0 ≤ (x60_4 : Int) := of_decide_eq_true Hd.a_
                               have q183 : x60_4 < (t180.length : Int) := of_decide_eq_true Hd.a_
                               obtain ⟨ad183, e183, hx183_0⟩ := Kd.at_int (Kd.R_reads' HO_58.out).2.2 x60_4 p183 q183
                               cases e183
                               replace p183 := eq_true p183
                               replace q183 := eq_true q183
                               have p184 : 0 ≤ ((rd t180 x60_4) : Int) := of_decide_eq_true Hd.a_
                               have q184 : (rd t180 x60_4) < (x3_4.length : Int) := of_decide_eq_true Hd.a_
                               obtain ⟨ad184, e184, hx184_0⟩ := Kd.at_int (Kd.R_reads' HO_3.out).2.2 (rd t180 x60_4) p184 q184
                               obtain rfl : (⟨go23, 0, none⟩ : Addr) = ad184 := (by injection e184)
                               (first | simp only [add_plain] at hx184_0 | simp only [add_at] at hx184_0 | simp only [Addr.add, Nat.zero_add] at hx184_0 | skip)
                               replace p184 := eq_true p184
                               replace q184 := eq_true q184
                               obtain ⟨hcz57_0, hcz57_1, hcz57_2⟩ := Hd.c3_ BK165.out
                               obtain ⟨hfz57_0, hfz57_1, hfz57_2⟩ := Hd.f3_ BK165.out
                               have p46 : 0 ≤ ((rd t180 x60_4) : Int) := of_decide_eq_true Hd.a_
                               have q46 : (rd t180 x60_4) < (a0_2.size : Int) := of_decide_eq_true Hd.a_
                               have hx46 := bt_at a0_2 (rd t180 x60_4)
                               replace p46 := eq_true p46
                               replace q46 := eq_true q46
                               have p49 : 0 ≤ (x28_2 : Int) := of_decide_eq_true Hd.a_
                               have q49 : x28_2 < (a0_2.size : Int) := of_decide_eq_true Hd.a_
                               have hx49 := bt_at a0_2 x28_2
                               replace p49 := eq_true p49
                               replace q49 := eq_true q49
                               go_wp2
                               repeat (go_quiet (fail); try go_wp2)
                               (try simp only [← hl3_4])
                               go_roundg k4
                               case measure => have := HK1.out; have := HK2.out; have := HK3.out; have := HK4.out; omega
                               case rel => exact ⟨(x3_4), (x6_4), (wrap64 (x60_4 + 1)), (by first | rfl | (simp; done) | (simp [*]; done)), H', ⟨by have := HK1.out; have := HK2.out; have := HK3.out; have := HK4.out; omega⟩, ⟨by (try simp only [hl3_1]); (try simp only [hl3_2]); (try simp only [hl3_3]); (try simp only [hl3_4]); (with_reducible repeat (first | apply Kd.R_alloc | apply Kd.R_drewN | apply Kd.R_drew)); exact HO_3.out⟩, ⟨by (try simp only [hl3_1]); (try simp only [hl3_2]); (try simp only [hl3_3]); (try simp only [hl3_4]); (with_reducible repeat (first | apply Kd.R_alloc | apply Kd.R_drewN | apply Kd.R_drew)); exact HO_6.out⟩, ⟨by (try simp only [hl3_1]); (try simp only [hl3_2]); (try simp only [hl3_3]); (try simp only [hl3_4]); (with_reducible repeat (first | apply Kd.R_alloc | apply Kd.R_drewN | apply Kd.R_drew)); exact HO_58.out⟩, ⟨by (try simp only [hl3_1]); (try simp only [hl3_2]); (try simp only [hl3_3]); (try simp only [hl3_4]); (with_reducible repeat (first | refine blk_drewN ?_ _ | refine blk_drew ?_ | refine blk_alloc ?_ _)); exact BK165.out⟩, ⟨Hd.b_⟩⟩
                             ·
                              rw [if_neg c48] at H
                              exact absurd H (by simp)
                            ·
                             rw [if_neg c47] at H
                             exact absurd H (by simp)
                           ·
                            rw [if_neg c45] at H
                            exact absurd H (by simp)
                          ·
                           rw [if_neg c44] at H
                           have c44b0 : decide ((rd x3_4 (rd t180 x60_4)) < 0) = false := decide_eq_false c44
                           clear c44
                           have H' := Aside0.mk H
                           clear H
                           have p183 : 0 ≤ (x60_4 : Int) := of_decide_eq_true Hd.a_
                           have q183 : x60_4 < (t180.length : Int) := of_decide_eq_true Hd.a_
                           obtain ⟨ad183, e183, hx183_0⟩ := Kd.at_int (Kd.R_reads' HO_58.out).2.2 x60_4 p183 q183
                           cases e183
                           replace p183 := eq_true p183
                           replace q183 := eq_true q183
                           have p184 : 0 ≤ ((rd t180 x60_4) : Int) := of_decide_eq_true Hd.a_
                           have q184 : (rd t180 x60_4) < (x3_4.length : Int) := of_decide_eq_true Hd.a_
                           obtain ⟨ad184, e184, hx184_0⟩ := Kd.at_int (Kd.R_reads' HO_3.out).2.2 (rd t180 x60_4) p184 q184
                           obtain rfl : (⟨go23, 0, none⟩ : Addr) = ad184 := (by injection e184)
                           (first | simp only [add_plain] at hx184_0 | simp only [add_at] at hx184_0 | simp only [Addr.add, Nat.zero_add] at hx184_0 | skip)
                           replace p184 := eq_true p184
                           replace q184 := eq_true q184
                           go_wp2
                           repeat (go_quiet (fail); try go_wp2)
                           (try simp only [← hl3_4])
                           go_roundg k4
                           case measure => have := HK1.out; have := HK2.out; have := HK3.out; have := HK4.out; omega
                           case rel => exact ⟨(x3_4), (x6_4), (wrap64 (x60_4 + 1)), (by first | rfl | (simp; done) | (simp [*]; done)), H', ⟨by have := HK1.out; have := HK2.out; have := HK3.out; have := HK4.out; omega⟩, ⟨by (try simp only [hl3_1]); (try simp only [hl3_2]); (try simp only [hl3_3]); (try simp only [hl3_4]); (with_reducible repeat (first | apply Kd.R_alloc | apply Kd.R_drewN | apply Kd.R_drew)); exact HO_3.out⟩, ⟨by (try simp only [hl3_1]); (try simp only [hl3_2]); (try simp only [hl3_3]); (try simp only [hl3_4]); (with_reducible repeat (first | apply Kd.R_alloc | apply Kd.R_drewN | apply Kd.R_drew)); exact HO_6.out⟩, ⟨by (try simp only [hl3_1]); (try simp only [hl3_2]); (try simp only [hl3_3]); (try simp only [hl3_4]); (with_reducible repeat (first | apply Kd.R_alloc | apply Kd.R_drewN | apply Kd.R_drew)); exact HO_58.out⟩, ⟨by (try simp only [hl3_1]); (try simp only [hl3_2]); (try simp only [hl3_3]); (try simp only [hl3_4]); (with_reducible repeat (first | refine blk_drewN ?_ _ | refine blk_drew ?_ | refine blk_alloc ?_ _)); exact BK165.out⟩, ⟨Hd.b_⟩⟩
                         ·
                          rw [if_neg c43] at H
                          exact absurd H (by simp)
                        ·
                         rw [if_neg c42] at H
                         exact absurd H (by simp)
                       ·
                        rw [if_neg c41] at H
                        exact absurd H (by simp)
                      ·
                       rw [if_neg c40] at H
                       exact absurd H (by simp)
                     ·
                      rw [if_neg c39] at H
                      have c39b0 : decide (x60_4 < (t180.length : Int)) = false := decide_eq_false c39
                      (try simp only [hl3_1, hl3_2, hl3_3, hl3_4] at c39b0)
                      clear c39
                      have H' := Aside0.mk H
                      clear H
                      go_wp2
                      repeat (go_quiet (fail); try go_wp2)
                      (try simp only [← hl3_3, ← hl3_4])
                      go_roundg k4
                      case measure => have := HK1.out; have := HK2.out; have := HK3.out; have := HK4.out; omega
                      case rel => exact ⟨(x3_4), (x6_4), H', ⟨by have := HK1.out; have := HK2.out; have := HK3.out; have := HK4.out; omega⟩, ⟨by (try simp only [hl3_1]); (try simp only [hl3_2]); (try simp only [hl3_3]); (try simp only [hl3_4]); (with_reducible repeat (first | apply Kd.R_alloc | apply Kd.R_drewN | apply Kd.R_drew)); exact Kd.R_mono HO_3.out (fun _ hk => hk.1)⟩, ⟨by (try simp only [hl3_1]); (try simp only [hl3_2]); (try simp only [hl3_3]); (try simp only [hl3_4]); (with_reducible repeat (first | apply Kd.R_alloc | apply Kd.R_drewN | apply Kd.R_drew)); exact Kd.R_mono HO_6.out (fun _ hk => hk.1)⟩, ⟨by (try simp only [hl3_1]); (try simp only [hl3_2]); (try simp only [hl3_3]); (try simp only [hl3_4]); (with_reducible repeat (first | refine blk_drewN ?_ _ | refine blk_drew ?_ | refine blk_alloc ?_ _)); exact BK165.out⟩, ⟨Hd.b_⟩⟩
                  ·
                   rw [if_neg c32] at H
                   exact absurd H (by simp)
                 ·
                  rw [if_neg c31] at H
                  exact absurd H (by simp)
                ·
                 rw [if_neg c30] at H
                 exact absurd H (by simp)
               ·
                rw [if_neg c28] at H
                have c28b0 : decide (0 < (x6_3.length : Int)) = false := decide_eq_false c28
                (try simp only [hl3_1, hl3_2, hl3_3] at c28b0)
                have c28b1 : decide (0 < x6_3.length) = false := decide_eq_false (by omega)
                (try simp only [hl3_1, hl3_2, hl3_3] at c28b1)
                clear c28
                have H' := Aside0.mk H
                clear H
                obtain ⟨Ao58, co58, eo58⟩ := Kd.R_slice HO_6.out
                subst eo58
                go_wp2
                repeat (go_quiet (fail); try go_wp2)
                (try simp only [← hl3_2, ← hl3_3])
                go_roundg k3
                case measure => have := HK1.out; have := HK2.out; have := HK3.out; omega
                case rel => exact ⟨(x3_3), (wrap64 (x28_2 + 1)), (by first | rfl | (simp; done) | (simp [*]; done)), H', ⟨by have := HK1.out; have := HK2.out; have := HK3.out; omega⟩, ⟨by (try simp only [hl3_1]); (try simp only [hl3_2]); (try simp only [hl3_3]); (with_reducible repeat (first | apply Kd.R_alloc | apply Kd.R_drewN | apply Kd.R_drew)); exact Kd.R_mono HO_3.out (fun _ hk => trivial)⟩, ⟨by (try simp only [hl3_1]); (try simp only [hl3_2]); (try simp only [hl3_3]); (with_reducible repeat (first | refine blk_drewN ?_ _ | refine blk_drew ?_ | refine blk_alloc ?_ _)); exact BK165.out⟩, ⟨Hd.b_⟩⟩
           ·
            rw [if_neg c21] at H
            exact absurd H (by simp)
          ·
           rw [if_neg c20] at H
           exact absurd H (by simp)
         ·
          rw [if_neg c19] at H
          have c19b0 : decide (x28_2 < (x3_1.length : Int)) = false := decide_eq_false c19
          (try simp only [hl3_1, hl3_2] at c19b0)
          clear c19
          obtain rfl := Option.some.inj H
          go_wp2
          repeat (go_quiet (fail); try go_wp2)
          go_ret
          exact ⟨_, Hd.e_, by (with_reducible repeat (first | apply Kd.R_alloc | apply Kd.R_drewN | apply Kd.R_drew)); exact HO_3.out, Hd.b_⟩
   ·
    rw [if_neg c5] at H
    exact absurd H (by simp)
  ·
   rw [if_neg c4] at H
   exact absurd H (by simp)
 ·
  replace c3 := Bool.eq_false_iff.mpr c3
  subst c3
  have H1 : (some ([] : List Int)) = some r := by rw [if_neg (show ¬ (false = true) by decide)] at H; exact H
  clear H
  have H := H1
  clear H1
  obtain rfl := Option.some.inj H
  go_enter Try.func117, Try.ntmps117
  go_wp2_with (first | ((with_reducible refine gate_dst (N := 1) rfl ?_); refine Hd.box_ 1 (#[.int .i64 a0_0, .int .i64 a0_1, .string a0_2]) 96 ?_; intro gb165 hg w59 hbox hb; have BK165 := Aside0.mk (hbox); have GW165 := Aside0.mk ((Hd.g_ hg Hd.b_ : w.heap.size ≤ gb165)); have GE165 := Aside0.mk ((Hd.g_ hg Hd.b_ : w.heap.size ≤ gb165)); replace HB := Aside0.mk (below_step Hd.b_ hb); clear hb hbox hg; obtain ⟨hcz60_0, hcz60_1, hcz60_2⟩ := Hd.c3_ BK165.out; obtain ⟨hfz60_0, hfz60_1, hfz60_2⟩ := Hd.f3_ BK165.out) | (go_at_call 142; (with_reducible refine (impl_IsCover.calls k a0_0 a0_1 a0_2 false _ A2.out).mono ?_); rintro e w61 ⟨rfl, hb⟩; replace BK165 := Aside0.mk (Hd.kb_ BK165 hb); replace HB := Aside0.mk (below_step Hd.b_ hb); (try clear hb); (try clear hb2); (try clear hk); (try clear hi)))
  repeat (go_quiet (first | ((with_reducible refine gate_dst (N := 1) rfl ?_); refine Hd.box_ 1 (#[.int .i64 a0_0, .int .i64 a0_1, .string a0_2]) 96 ?_; intro gb165 hg w59 hbox hb; have BK165 := Aside0.mk (hbox); have GW165 := Aside0.mk ((Hd.g_ hg Hd.b_ : w.heap.size ≤ gb165)); have GE165 := Aside0.mk ((Hd.g_ hg Hd.b_ : w.heap.size ≤ gb165)); replace HB := Aside0.mk (below_step Hd.b_ hb); clear hb hbox hg; obtain ⟨hcz60_0, hcz60_1, hcz60_2⟩ := Hd.c3_ BK165.out; obtain ⟨hfz60_0, hfz60_1, hfz60_2⟩ := Hd.f3_ BK165.out) | (go_at_call 142; (with_reducible refine (impl_IsCover.calls k a0_0 a0_1 a0_2 false _ A2.out).mono ?_); rintro e w61 ⟨rfl, hb⟩; replace BK165 := Aside0.mk (Hd.kb_ BK165 hb); replace HB := Aside0.mk (below_step Hd.b_ hb); (try clear hb); (try clear hb2); (try clear hk); (try clear hi))); try go_wp2_with (first | ((with_reducible refine gate_dst (N := 1) rfl ?_); refine Hd.box_ 1 (#[.int .i64 a0_0, .int .i64 a0_1, .string a0_2]) 96 ?_; intro gb165 hg w59 hbox hb; have BK165 := Aside0.mk (hbox); have GW165 := Aside0.mk ((Hd.g_ hg Hd.b_ : w.heap.size ≤ gb165)); have GE165 := Aside0.mk ((Hd.g_ hg Hd.b_ : w.heap.size ≤ gb165)); replace HB := Aside0.mk (below_step Hd.b_ hb); clear hb hbox hg; obtain ⟨hcz60_0, hcz60_1, hcz60_2⟩ := Hd.c3_ BK165.out; obtain ⟨hfz60_0, hfz60_1, hfz60_2⟩ := Hd.f3_ BK165.out) | (go_at_call 142; (with_reducible refine (impl_IsCover.calls k a0_0 a0_1 a0_2 false _ A2.out).mono ?_); rintro e w61 ⟨rfl, hb⟩; replace BK165 := Aside0.mk (Hd.kb_ BK165 hb); replace HB := Aside0.mk (below_step Hd.b_ hb); (try clear hb); (try clear hb2); (try clear hk); (try clear hi))))
  go_ret
  exact ⟨_, Hd.e_, by first | exact Kd.R_nil _ _ _ _ _ | exact Kd.N_nil _ _ _ _ _ | exact Kd.V_nil _ _ _ _ _ | exact Kd.Q_nil _ _ _ _ _ | exact Kd.S_nil _ _ _ _ _, Hd.b_⟩
end Go.Proofs.Ytchmbcembbbplaa.MFnExactBorder
