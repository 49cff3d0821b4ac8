-- Laid by this session's program pp.py, after the kit's print and texts of the session's own. Not trusted: Lean checks it.
import Derived.Test.YtchmbcembbbplaaZBorderMx0
import Derived.Test.YtchmbcembbbplaaZBorderMx1
import Derived.Test.YtchmbcembbbplaaZBorderMx3
import Derived.Test.YtchmbcembbbplaaZBorderMx5
namespace Go.Proofs.Ytchmbcembbbplaa.MFnExactBorder
open Go.RowKit Go.Proofs.YtchmbcembbbplaaW.PrintWords Go.Proofs.YtchmbcembbbplaaW.PrintLast Go.Proofs.YtchmbcembbbplaaW.PrintMore
attribute [local go_sem] max2_int min2_int max_two min_two max_three min_three max_four min_four   -- for this text's walks alone
set_option linter.unusedVariables false
set_option linter.unusedSimpArgs false
mutual
def impl_Border.l0 : Nat → Int → Int → List Int → Int → Int → Int → Int → Int → ByteArray → Option (Int)
 | 0, _, _, _, _, _, _, _, _, _ => none
 | k + 1, x1, x2, x7, x8, x18, x19, x190000, x190001, x190002 => if x19 < x18 then (if 0 ≤ x19 then (if x19 < (x7.length : Int) then (if (rd x7 x19) = x1 then ((impl_beside.f k x190000 x190001 x190002 x19).bind fun t194 => (impl_Border.l1 k x1 x2 x7 x8 x18 x19 t194 (t194.length : Int) 0 x190000 x190001 x190002)) else (impl_Border.l0 k x1 x2 x7 x8 x18 (wrap64 (x19 + 1)) x190000 x190001 x190002)) else (none)) else (none)) else (some x8)
def impl_Border.l1 : Nat → Int → Int → List Int → Int → Int → Int → List Int → Int → Int → Int → Int → ByteArray → Option (Int)
 | 0, _, _, _, _, _, _, _, _, _, _, _, _ => none
 | k + 1, x1, x2, x7, x8, x18, x19, x30, x31, x32, x190000, x190001, x190002 => if x32 < x31 then (if 0 ≤ x32 then (if x32 < (x30.length : Int) then (if 0 ≤ (rd x30 x32) then (if (rd x30 x32) < (x7.length : Int) then (if (rd x7 (rd x30 x32)) = x2 then (impl_Border.l1 k x1 x2 x7 (wrap64 (x8 + 1)) x18 x19 x30 x31 (wrap64 (x32 + 1)) x190000 x190001 x190002) else (impl_Border.l1 k x1 x2 x7 x8 x18 x19 x30 x31 (wrap64 (x32 + 1)) x190000 x190001 x190002)) else (none)) else (none)) else (none)) else (none)) else (impl_Border.l0 k x1 x2 x7 x8 x18 (wrap64 (x19 + 1)) x190000 x190001 x190002)
end
def impl_Border.f (k : Nat) (a0_0 : Int) (a0_1 : Int) (a0_2 : ByteArray) (a1 : Int) (a2 : Int) : Option (Int) := if a1 = a2 then (some 0) else ((impl_regions.f k a0_0 a0_1 a0_2).bind fun t190 => (impl_Border.l0 k a1 a2 t190 0 (t190.length : Int) 0 a0_0 a0_1 a0_2))
set_option maxHeartbeats 8000000 in
set_option maxRecDepth 100000 in
theorem impl_Border.calls (k : Nat) (a0_0 : Int) (a0_1 : Int) (a0_2 : ByteArray) (a1 : Int) (a2 : Int) (r : Int) (w : World) (h : impl_Border.f k a0_0 a0_1 a0_2 a1 a2 = some r) :
  Calls Try.prog 70 #[.agg #[.int .i64 a0_0, .int .i64 a0_1, .string a0_2], .int .i64 a1, .int .i64 a2] w fun e w' => e = .returned (.int .i64 r) ∧ Below w.heap.size w w' := by
 have hu96 := Try.underlying96
 have HB := Aside0.mk (Below.refl w.heap.size w)
 have H : (if a1 = a2 then (some 0) else ((impl_regions.f k a0_0 a0_1 a0_2).bind fun t190 => (impl_Border.l0 k a1 a2 t190 0 (t190.length : Int) 0 a0_0 a0_1 a0_2))) = some r := h
 clear h
 by_cases c4 : a1 = a2
 ·
  rw [if_pos c4] at H
  have c4b0 : (a1 == a2) = true := beq_iff_eq.mpr c4
  have c4b1 : (a1 != a2) = false := bne_eq_false_iff_eq.mpr c4
  clear c4
  obtain rfl := Option.some.inj H
  go_enter Try.func70, Try.ntmps70
  go_wp2_with (first | ((with_reducible refine gate_dst (N := 3) rfl ?_); refine Hd.box_ 3 (#[.int .i64 a0_0, .int .i64 a0_1, .string a0_2]) 96 ?_; intro gb189 hg w5 hbox hb; have BK189 := Aside0.mk (hbox); have GW189 := Aside0.mk ((Hd.g_ hg Hd.b_ : w.heap.size ≤ gb189)); have GE189 := Aside0.mk ((Hd.g_ hg Hd.b_ : w.heap.size ≤ gb189)); replace HB := Aside0.mk (below_step Hd.b_ hb); clear hb hbox hg))
  go_ret
  exact ⟨Hd.e_, Hd.b_⟩
 ·
  rw [if_neg c4] at H
  have c4b0 : (a1 == a2) = false := beq_eq_false_iff_ne.mpr c4
  have c4b1 : (a1 != a2) = true := bne_iff_ne.mpr c4
  replace H := Option.bind_eq_some_iff.mp H
  obtain ⟨t190, A60, H⟩ := H
  replace H : (impl_Border.l0 k a1 a2 t190 0 (t190.length : Int) 0 a0_0 a0_1 a0_2) = some r := H
  have A6 := Aside0.mk A60
  clear A60
  have H' := Aside0.mk H
  clear H
  go_enter Try.func70, Try.ntmps70
  go_wp2_with (first | ((with_reducible refine gate_dst (N := 3) rfl ?_); refine Hd.box_ 3 (#[.int .i64 a0_0, .int .i64 a0_1, .string a0_2]) 96 ?_; intro gb189 hg w7 hbox hb; have BK189 := Aside0.mk (hbox); have GW189 := Aside0.mk ((Hd.g_ hg Hd.b_ : w.heap.size ≤ gb189)); have GE189 := Aside0.mk ((Hd.g_ hg Hd.b_ : w.heap.size ≤ gb189)); replace HB := Aside0.mk (below_step Hd.b_ hb); clear hb hbox hg; obtain ⟨hcz8_0, hcz8_1, hcz8_2⟩ := Hd.c3_ BK189.out; obtain ⟨hfz8_0, hfz8_1, hfz8_2⟩ := Hd.f3_ BK189.out) | ((with_reducible refine gate_callee (f := 117) rfl ?_); refine goesL_ (some 16) rfl rfl Try.func117 (by kernel_rfl) rfl #[.agg #[.int .i64 a0_0, .int .i64 a0_1, .string a0_2]] rfl Hd.m_ ?_; (with_reducible refine (impl_regions.calls k a0_0 a0_1 a0_2 t190 _ A6.out).mono ?_); rintro e w9 ⟨v191, rfl, ho0, hb⟩; refine ⟨_, rfl, ?_⟩; have HO192 := Aside0.mk (Kd.R_lower ho0 (below_size Hd.b_)); replace BK189 := Aside0.mk (Hd.kb_ BK189 hb); replace HB := Aside0.mk (below_step Hd.b_ hb); (try clear hb); (try clear hb2); (try clear hk); (try clear hi); (try clear ho0); obtain ⟨Ao10, co10, eo10⟩ := Kd.R_slice HO192.out; subst eo10))
  go_loopg [8, 19] k (fun kq v8 v19 w' => ∃ (x8_1 : Int) (x19_1 : Int), v8 = .int .i64 x8_1 ∧ v19 = .int .i64 x19_1 ∧ Aside0 (impl_Border.l0 kq a1 a2 t190 x8_1 (t190.length : Int) x19_1 a0_0 a0_1 a0_2 = some r) ∧ Aside0 (kq ≤ k) ∧ Aside0 (Kd.R (Kd.int .i64) 3 w' w.heap.size (fun _ => True) (.slice Ao10 t190.length co10) t190) ∧ Aside0 (w'.heap[gb189]? = some (.cells #[.int .i64 a0_0, .int .i64 a0_1, .string a0_2] 96 (0, 0))) ∧ Aside0 (Below w.heap.size w w'))
  case atStart => exact ⟨(0), (0), (by first | rfl | (simp; done) | (simp [*]; done)), (by first | rfl | (simp; done) | (simp [*]; done)), H', ⟨Nat.le_refl _⟩, ⟨by (with_reducible repeat (first | apply Kd.R_alloc | apply Kd.R_drewN | apply Kd.R_drew)); exact HO192.out⟩, ⟨by (with_reducible repeat (first | refine blk_drewN ?_ _ | refine blk_drew ?_ | refine blk_alloc ?_ _)); exact BK189.out⟩, ⟨Hd.b_⟩⟩
  case round =>
   clear H'
   try clear c1
   try clear p2
   try clear c4
   try clear c4b0
   try clear c4b1
   try clear c7
   try clear hcz8_0
   try clear hcz8_1
   try clear hcz8_2
   try clear hfz8_0
   try clear hfz8_1
   try clear hfz8_2
   obtain ⟨x8_1, x19_1, rfl, rfl, HA, HK1, HO_7, BK189, HB⟩ := hrel
   cases gk with
   | zero => exact absurd HA.out (by simp [impl_Border.l0])
   | succ k1 =>
    have H := HA.out
    clear HA
    simp only [impl_Border.l0] at H
    by_cases c11 : x19_1 < (t190.length : Int)
    ·
     rw [if_pos c11] at H
     have c11b0 : decide (x19_1 < (t190.length : Int)) = true := decide_eq_true c11
     clear c11
     by_cases c12 : 0 ≤ x19_1
     ·
      rw [if_pos c12] at H
      have c12b0 : decide (0 ≤ x19_1) = true := decide_eq_true c12
      clear c12
      by_cases c13 : x19_1 < (t190.length : Int)
      ·
       rw [if_pos c13] at H
       have c13b0 : decide (x19_1 < (t190.length : Int)) = true := decide_eq_true c13
       clear c13
       by_cases c14 : (rd t190 x19_1) = a1
       ·
        rw [if_pos c14] at H
        have c14b0 : ((rd t190 x19_1) == a1) = true := beq_iff_eq.mpr c14
        have c14b1 : ((rd t190 x19_1) != a1) = false := bne_eq_false_iff_eq.mpr c14
        clear c14
        replace H := Option.bind_eq_some_iff.mp H
        obtain ⟨t194, A150, H⟩ := H
        replace H : (impl_Border.l1 k1 a1 a2 t190 x8_1 (t190.length : Int) x19_1 t194 (t194.length : Int) 0 a0_0 a0_1 a0_2) = some r := H
        have A15 := Aside0.mk A150
        clear A150
        have H' := Aside0.mk H
        clear H
        have p193 : 0 ≤ (x19_1 : Int) := of_decide_eq_true Hd.a_
        have q193 : x19_1 < (t190.length : Int) := of_decide_eq_true Hd.a_
        obtain ⟨ad193, e193, hx193_0⟩ := Kd.at_int (Kd.R_reads' HO_7.out).2.2 x19_1 p193 q193
        cases e193
        replace p193 := eq_true p193
        replace q193 := eq_true q193
        obtain ⟨hcz16_0, hcz16_1, hcz16_2⟩ := Hd.c3_ BK189.out
        obtain ⟨hfz16_0, hfz16_1, hfz16_2⟩ := Hd.f3_ BK189.out
        go_wp2_with (first | ((with_reducible refine gate_callee (f := 122) rfl ?_); refine goesL_ (some 30) rfl rfl Try.func122 (by kernel_rfl) rfl #[.agg #[.int .i64 a0_0, .int .i64 a0_1, .string a0_2], .int .i64 x19_1] rfl Hd.m_ ?_; (with_reducible refine (impl_beside.calls k1 a0_0 a0_1 a0_2 x19_1 t194 _ A15.out).mono ?_); rintro e w17 ⟨v195, rfl, ho0, hb⟩; refine ⟨_, rfl, ?_⟩; have HO196 := Aside0.mk (Kd.R_lower (Kd.R_new' ho0 (Kd.R_lt (Hd.r_ HO_7))) (below_size Hd.b_)); replace HO_7 := Aside0.mk (Kd.R_elder' (Hd.r_ HO_7) (Kd.R_base ho0) hb); replace BK189 := Aside0.mk (Hd.kb_ BK189 hb); replace HB := Aside0.mk (below_step Hd.b_ hb); (try clear hb); (try clear hb2); (try clear hk); (try clear hi); (try clear ho0); obtain ⟨Ao18, co18, eo18⟩ := Kd.R_slice HO196.out; subst eo18))
        go_loopg [8, 32] k1 (fun kq v8 v32 w' => ∃ (x8_2 : Int) (x32_2 : Int), v8 = .int .i64 x8_2 ∧ v32 = .int .i64 x32_2 ∧ Aside0 (impl_Border.l1 kq a1 a2 t190 x8_2 (t190.length : Int) x19_1 t194 (t194.length : Int) x32_2 a0_0 a0_1 a0_2 = some r) ∧ Aside0 (kq ≤ k1) ∧ Aside0 (Kd.R (Kd.int .i64) 3 w' w.heap.size (fun k_ => some k_ ≠ ((.slice Ao18 t194.length co18) : Value).ownBlock) (.slice (some ad193) t190.length co10) t190) ∧ Aside0 (Kd.R (Kd.int .i64) 3 w' w.heap.size (fun k_ => some k_ ≠ ((.slice (some ad193) t190.length co10) : Value).ownBlock) (.slice Ao18 t194.length co18) t194) ∧ Aside0 (w'.heap[gb189]? = some (.cells #[.int .i64 a0_0, .int .i64 a0_1, .string a0_2] 96 (0, 0))) ∧ Aside0 (Below w.heap.size w w'))
        case atStart => exact ⟨(x8_1), (0), (by first | rfl | (simp; done) | (simp [*]; done)), (by first | rfl | (simp; done) | (simp [*]; done)), H', ⟨Nat.le_refl _⟩, ⟨by (with_reducible repeat (first | apply Kd.R_alloc | apply Kd.R_drewN | apply Kd.R_drew)); exact Kd.R_mono HO_7.out (fun _ hk => hk.2)⟩, ⟨by (with_reducible repeat (first | apply Kd.R_alloc | apply Kd.R_drewN | apply Kd.R_drew)); exact Kd.R_mono HO196.out (fun _ hk => hk.2)⟩, ⟨by (with_reducible repeat (first | refine blk_drewN ?_ _ | refine blk_drew ?_ | refine blk_alloc ?_ _)); exact BK189.out⟩, ⟨Hd.b_⟩⟩
        case round =>
         clear H'
         try clear c1
         try clear p1
         try clear q1
         try clear hx1
         try clear p2
         try clear c4
         try clear c4b0
         try clear c4b1
         try clear c7
         try clear c11
         try clear c11b0
         try clear c12
         try clear c12b0
         try clear c13
         try clear c13b0
         try clear c14
         try clear c14b0
         try clear c14b1
         try clear hcz16_0
         try clear hcz16_1
         try clear hcz16_2
         try clear hcz8_0
         try clear hcz8_1
         try clear hcz8_2
         try clear hfz16_0
         try clear hfz16_1
         try clear hfz16_2
         try clear hfz8_0
         try clear hfz8_1
         try clear hfz8_2
         try clear hx193_0
         try clear p193
         try clear p2
         try clear q193
         obtain ⟨x8_2, x32_2, rfl, rfl, HA, HK2, HO_7, HO_30, BK189, HB⟩ := hrel
         cases gk with
         | zero => exact absurd HA.out (by simp [impl_Border.l1])
         | succ k2 =>
          have H := HA.out
          clear HA
          simp only [impl_Border.l1] at H
          by_cases c19 : x32_2 < (t194.length : Int)
          ·
           rw [if_pos c19] at H
           have c19b0 : decide (x32_2 < (t194.length : Int)) = true := decide_eq_true c19
           clear c19
           by_cases c20 : 0 ≤ x32_2
           ·
            rw [if_pos c20] at H
            have c20b0 : decide (0 ≤ x32_2) = true := decide_eq_true c20
            clear c20
            by_cases c21 : x32_2 < (t194.length : Int)
            ·
             rw [if_pos c21] at H
             have c21b0 : decide (x32_2 < (t194.length : Int)) = true := decide_eq_true c21
             clear c21
             by_cases c22 : 0 ≤ (rd t194 x32_2)
             ·
              rw [if_pos c22] at H
              have c22b0 : decide (0 ≤ (rd t194 x32_2)) = true := decide_eq_true c22
              clear c22
              by_cases c23 : (rd t194 x32_2) < (t190.length : Int)
              ·
               rw [if_pos c23] at H
               have c23b0 : decide ((rd t194 x32_2) < (t190.length : Int)) = true := decide_eq_true c23
               clear c23
               by_cases c24 : (rd t190 (rd t194 x32_2)) = a2
               ·
                rw [if_pos c24] at H
                have c24b0 : ((rd t190 (rd t194 x32_2)) == a2) = true := beq_iff_eq.mpr c24
                have c24b1 : ((rd t190 (rd t194 x32_2)) != a2) = false := bne_eq_false_iff_eq.mpr c24
                clear c24
                have H' := Aside0.mk H
                clear H
                have p197 : 0 ≤ (x32_2 : Int) := of_decide_eq_true Hd.a_
                have q197 : x32_2 < (t194.length : Int) := of_decide_eq_true Hd.a_
                obtain ⟨ad197, e197, hx197_0⟩ := Kd.at_int (Kd.R_reads' HO_30.out).2.2 x32_2 p197 q197
                cases e197
                replace p197 := eq_true p197
                replace q197 := eq_true q197
                have p198 : 0 ≤ ((rd t194 x32_2) : Int) := of_decide_eq_true Hd.a_
                have q198 : (rd t194 x32_2) < (t190.length : Int) := of_decide_eq_true Hd.a_
                obtain ⟨ad198, e198, hx198_0⟩ := Kd.at_int (Kd.R_reads' HO_7.out).2.2 (rd t194 x32_2) p198 q198
                obtain rfl : ad193 = ad198 := (by injection e198)
                replace p198 := eq_true p198
                replace q198 := eq_true q198
                go_wp2
                go_roundg k2
                case measure => have := HK1.out; have := HK2.out; omega
                case rel => exact ⟨(wrap64 (x8_2 + 1)), (wrap64 (x32_2 + 1)), (by first | rfl | (simp; done) | (simp [*]; done)), (by first | rfl | (simp; done) | (simp [*]; done)), H', ⟨by have := HK1.out; have := HK2.out; omega⟩, ⟨by (with_reducible repeat (first | apply Kd.R_alloc | apply Kd.R_drewN | apply Kd.R_drew)); exact HO_7.out⟩, ⟨by (with_reducible repeat (first | apply Kd.R_alloc | apply Kd.R_drewN | apply Kd.R_drew)); exact HO_30.out⟩, ⟨by (with_reducible repeat (first | refine blk_drewN ?_ _ | refine blk_drew ?_ | refine blk_alloc ?_ _)); exact BK189.out⟩, ⟨Hd.b_⟩⟩
               ·
                rw [if_neg c24] at H
                have c24b0 : ((rd t190 (rd t194 x32_2)) == a2) = false := beq_eq_false_iff_ne.mpr c24
                have c24b1 : ((rd t190 (rd t194 x32_2)) != a2) = true := bne_iff_ne.mpr c24
                have H' := Aside0.mk H
                clear H
                have p197 : 0 ≤ (x32_2 : Int) := of_decide_eq_true Hd.a_
                have q197 : x32_2 < (t194.length : Int) := of_decide_eq_true Hd.a_
                obtain ⟨ad197, e197, hx197_0⟩ := Kd.at_int (Kd.R_reads' HO_30.out).2.2 x32_2 p197 q197
                cases e197
                replace p197 := eq_true p197
                replace q197 := eq_true q197
                have p198 : 0 ≤ ((rd t194 x32_2) : Int) := of_decide_eq_true Hd.a_
                have q198 : (rd t194 x32_2) < (t190.length : Int) := of_decide_eq_true Hd.a_
                obtain ⟨ad198, e198, hx198_0⟩ := Kd.at_int (Kd.R_reads' HO_7.out).2.2 (rd t194 x32_2) p198 q198
                obtain rfl : ad193 = ad198 := (by injection e198)
                replace p198 := eq_true p198
                replace q198 := eq_true q198
                go_wp2
                go_roundg k2
                case measure => have := HK1.out; have := HK2.out; omega
                case rel => exact ⟨(x8_2), (wrap64 (x32_2 + 1)), (by first | rfl | (simp; done) | (simp [*]; done)), (by first | rfl | (simp; done) | (simp [*]; done)), H', ⟨by have := HK1.out; have := HK2.out; omega⟩, ⟨by (with_reducible repeat (first | apply Kd.R_alloc | apply Kd.R_drewN | apply Kd.R_drew)); exact HO_7.out⟩, ⟨by (with_reducible repeat (first | apply Kd.R_alloc | apply Kd.R_drewN | apply Kd.R_drew)); exact HO_30.out⟩, ⟨by (with_reducible repeat (first | refine blk_drewN ?_ _ | refine blk_drew ?_ | refine blk_alloc ?_ _)); exact BK189.out⟩, ⟨Hd.b_⟩⟩
              ·
               rw [if_neg c23] at H
               exact absurd H (by simp)
             ·
              rw [if_neg c22] at H
              exact absurd H (by simp)
            ·
             rw [if_neg c21] at H
             exact absurd H (by simp)
           ·
            rw [if_neg c20] at H
            exact absurd H (by simp)
          ·
           rw [if_neg c19] at H
           have c19b0 : decide (x32_2 < (t194.length : Int)) = false := decide_eq_false c19
           clear c19
           have H' := Aside0.mk H
           clear H
           go_wp2
           go_roundg k2
           case measure => have := HK1.out; have := HK2.out; omega
           case rel => exact ⟨(x8_2), (wrap64 (x19_1 + 1)), (by first | rfl | (simp; done) | (simp [*]; done)), (by first | rfl | (simp; done) | (simp [*]; done)), H', ⟨by have := HK1.out; have := HK2.out; omega⟩, ⟨by (with_reducible repeat (first | apply Kd.R_alloc | apply Kd.R_drewN | apply Kd.R_drew)); exact Kd.R_mono HO_7.out (fun _ hk => trivial)⟩, ⟨by (with_reducible repeat (first | refine blk_drewN ?_ _ | refine blk_drew ?_ | refine blk_alloc ?_ _)); exact BK189.out⟩, ⟨Hd.b_⟩⟩
       ·
        rw [if_neg c14] at H
        have c14b0 : ((rd t190 x19_1) == a1) = false := beq_eq_false_iff_ne.mpr c14
        have c14b1 : ((rd t190 x19_1) != a1) = true := bne_iff_ne.mpr c14
        have H' := Aside0.mk H
        clear H
        have p193 : 0 ≤ (x19_1 : Int) := of_decide_eq_true Hd.a_
        have q193 : x19_1 < (t190.length : Int) := of_decide_eq_true Hd.a_
        obtain ⟨ad193, e193, hx193_0⟩ := Kd.at_int (Kd.R_reads' HO_7.out).2.2 x19_1 p193 q193
        cases e193
        replace p193 := eq_true p193
        replace q193 := eq_true q193
        go_wp2
        go_roundg k1
        case measure => have := HK1.out; omega
        case rel => exact ⟨(x8_1), (wrap64 (x19_1 + 1)), (by first | rfl | (simp; done) | (simp [*]; done)), (by first | rfl | (simp; done) | (simp [*]; done)), H', ⟨by have := HK1.out; omega⟩, ⟨by (with_reducible repeat (first | apply Kd.R_alloc | apply Kd.R_drewN | apply Kd.R_drew)); exact HO_7.out⟩, ⟨by (with_reducible repeat (first | refine blk_drewN ?_ _ | refine blk_drew ?_ | refine blk_alloc ?_ _)); exact BK189.out⟩, ⟨Hd.b_⟩⟩
      ·
       rw [if_neg c13] at H
       exact absurd H (by simp)
     ·
      rw [if_neg c12] at H
      exact absurd H (by simp)
    ·
     rw [if_neg c11] at H
     have c11b0 : decide (x19_1 < (t190.length : Int)) = false := decide_eq_false c11
     clear c11
     obtain rfl := Option.some.inj H
     go_wp2
     go_ret
     exact ⟨Hd.e_, Hd.b_⟩
def laws_FnExactBorder.f (k : Nat) (a0_0 : Int) (a0_1 : Int) (a0_2 : ByteArray) (a1 : Int) (a2 : Int) : Option (Bool) := (laws_szCover.f a0_0 a0_1 a0_2 1048576).bind fun t200 => (if t200 < 0 then (some true) else ((laws_toCover.f a0_0 a0_1 a0_2).bind fun bt201 => ((spec_Border.f k bt201.1 bt201.2.1 bt201.2.2 a1 a2).bind fun t204 => ((laws_toCover.f a0_0 a0_1 a0_2).bind fun bt205 => ((impl_Border.f k bt205.1 bt205.2.1 bt205.2.2 a1 a2).bind fun t208 => (if t208 = t204 then (some true) else (some false)))))))
set_option maxHeartbeats 8000000 in
set_option maxRecDepth 100000 in
theorem laws_FnExactBorder.calls (k : Nat) (a0_0 : Int) (a0_1 : Int) (a0_2 : ByteArray) (a1 : Int) (a2 : Int) (r : Bool) (w : World) (h : laws_FnExactBorder.f k a0_0 a0_1 a0_2 a1 a2 = some r) :
  Calls Try.prog 14 #[.agg #[.int .i64 a0_0, .int .i64 a0_1, .string a0_2], .int .i64 a1, .int .i64 a2] w fun e w' => e = .returned (.bool r) ∧ Below w.heap.size w w' := by
 have hu93 := Try.underlying93
 have HB := Aside0.mk (Below.refl w.heap.size w)
 have H : ((laws_szCover.f a0_0 a0_1 a0_2 1048576).bind fun t200 => (if t200 < 0 then (some true) else ((laws_toCover.f a0_0 a0_1 a0_2).bind fun bt201 => ((spec_Border.f k bt201.1 bt201.2.1 bt201.2.2 a1 a2).bind fun t204 => ((laws_toCover.f a0_0 a0_1 a0_2).bind fun bt205 => ((impl_Border.f k bt205.1 bt205.2.1 bt205.2.2 a1 a2).bind fun t208 => (if t208 = t204 then (some true) else (some false)))))))) = some r := h
 clear h
 replace H := Option.bind_eq_some_iff.mp H
 obtain ⟨t200, A40, H⟩ := H
 replace H : (if t200 < 0 then (some true) else ((laws_toCover.f a0_0 a0_1 a0_2).bind fun bt201 => ((spec_Border.f k bt201.1 bt201.2.1 bt201.2.2 a1 a2).bind fun t204 => ((laws_toCover.f a0_0 a0_1 a0_2).bind fun bt205 => ((impl_Border.f k bt205.1 bt205.2.1 bt205.2.2 a1 a2).bind fun t208 => (if t208 = t204 then (some true) else (some false))))))) = some r := H
 have A4 := Aside0.mk A40
 clear A40
 by_cases c5 : t200 < 0
 ·
  rw [if_pos c5] at H
  have c5b0 : decide (t200 < 0) = true := decide_eq_true c5
  clear c5
  obtain rfl := Option.some.inj H
  go_enter Try.func14, Try.ntmps14
  go_wp2_with (first | ((with_reducible refine gate_dst (N := 3) rfl ?_); refine Hd.box_ 3 (#[.int .i64 a0_0, .int .i64 a0_1, .string a0_2]) 93 ?_; intro gb199 hg w6 hbox hb; have BK199 := Aside0.mk (hbox); have GW199 := Aside0.mk ((Hd.g_ hg Hd.b_ : w.heap.size ≤ gb199)); have GE199 := Aside0.mk ((Hd.g_ hg Hd.b_ : w.heap.size ≤ gb199)); replace HB := Aside0.mk (below_step Hd.b_ hb); clear hb hbox hg; obtain ⟨hcz7_0, hcz7_1, hcz7_2⟩ := Hd.c3_ BK199.out; obtain ⟨hfz7_0, hfz7_1, hfz7_2⟩ := Hd.f3_ BK199.out) | ((with_reducible refine gate_callee (f := 57) rfl ?_); refine goesL_ (some 12) rfl rfl Try.func57 (by kernel_rfl) rfl #[.agg #[.int .i64 a0_0, .int .i64 a0_1, .string a0_2], .int .i64 1048576] rfl Hd.m_ ?_; (with_reducible refine (laws_szCover.calls a0_0 a0_1 a0_2 1048576 t200 _ A4.out).mono ?_); rintro e w8 ⟨rfl, hb⟩; refine ⟨_, rfl, ?_⟩; replace BK199 := Aside0.mk (Hd.kb_ BK199 hb); replace HB := Aside0.mk (below_step Hd.b_ hb); (try clear hb); (try clear hb2); (try clear hk); (try clear hi)))
  go_ret
  exact ⟨Hd.e_, Hd.b_⟩
 ·
  rw [if_neg c5] at H
  have c5b0 : decide (t200 < 0) = false := decide_eq_false c5
  clear c5
  replace H := Option.bind_eq_some_iff.mp H
  obtain ⟨⟨t201, t202, t203⟩, A90, H⟩ := H
  replace H : ((spec_Border.f k t201 t202 t203 a1 a2).bind fun t204 => ((laws_toCover.f a0_0 a0_1 a0_2).bind fun bt205 => ((impl_Border.f k bt205.1 bt205.2.1 bt205.2.2 a1 a2).bind fun t208 => (if t208 = t204 then (some true) else (some false))))) = some r := H
  have A9 := Aside0.mk A90
  clear A90
  replace H := Option.bind_eq_some_iff.mp H
  obtain ⟨t204, A100, H⟩ := H
  replace H : ((laws_toCover.f a0_0 a0_1 a0_2).bind fun bt205 => ((impl_Border.f k bt205.1 bt205.2.1 bt205.2.2 a1 a2).bind fun t208 => (if t208 = t204 then (some true) else (some false)))) = some r := H
  have A10 := Aside0.mk A100
  clear A100
  replace H := Option.bind_eq_some_iff.mp H
  obtain ⟨⟨t205, t206, t207⟩, A110, H⟩ := H
  replace H : ((impl_Border.f k t205 t206 t207 a1 a2).bind fun t208 => (if t208 = t204 then (some true) else (some false))) = some r := H
  have A11 := Aside0.mk A110
  clear A110
  replace H := Option.bind_eq_some_iff.mp H
  obtain ⟨t208, A120, H⟩ := H
  replace H : (if t208 = t204 then (some true) else (some false)) = some r := H
  have A12 := Aside0.mk A120
  clear A120
  by_cases c13 : t208 = t204
  ·
   rw [if_pos c13] at H
   have c13b0 : (t208 == t204) = true := beq_iff_eq.mpr c13
   have c13b1 : (t208 != t204) = false := bne_eq_false_iff_eq.mpr c13
   clear c13
   obtain rfl := Option.some.inj H
   go_enter Try.func14, Try.ntmps14
   go_wp2_with (first | ((with_reducible refine gate_dst (N := 3) rfl ?_); refine Hd.box_ 3 (#[.int .i64 a0_0, .int .i64 a0_1, .string a0_2]) 93 ?_; intro gb199 hg w14 hbox hb; have BK199 := Aside0.mk (hbox); have GW199 := Aside0.mk ((Hd.g_ hg Hd.b_ : w.heap.size ≤ gb199)); have GE199 := Aside0.mk ((Hd.g_ hg Hd.b_ : w.heap.size ≤ gb199)); replace HB := Aside0.mk (below_step Hd.b_ hb); clear hb hbox hg; obtain ⟨hcz15_0, hcz15_1, hcz15_2⟩ := Hd.c3_ BK199.out; obtain ⟨hfz15_0, hfz15_1, hfz15_2⟩ := Hd.f3_ BK199.out) | ((with_reducible refine gate_callee (f := 57) rfl ?_); refine goesL_ (some 12) rfl rfl Try.func57 (by kernel_rfl) rfl #[.agg #[.int .i64 a0_0, .int .i64 a0_1, .string a0_2], .int .i64 1048576] rfl Hd.m_ ?_; (with_reducible refine (laws_szCover.calls a0_0 a0_1 a0_2 1048576 t200 _ A4.out).mono ?_); rintro e w16 ⟨rfl, hb⟩; refine ⟨_, rfl, ?_⟩; replace BK199 := Aside0.mk (Hd.kb_ BK199 hb); replace HB := Aside0.mk (below_step Hd.b_ hb); (try clear hb); (try clear hb2); (try clear hk); (try clear hi); obtain ⟨hcz17_0, hcz17_1, hcz17_2⟩ := Hd.c3_ BK199.out; obtain ⟨hfz17_0, hfz17_1, hfz17_2⟩ := Hd.f3_ BK199.out) | ((with_reducible refine gate_callee (f := 59) rfl ?_); refine goesL_ (some 16) rfl rfl Try.func59 (by kernel_rfl) rfl #[.agg #[.int .i64 a0_0, .int .i64 a0_1, .string a0_2]] rfl Hd.m_ ?_; (with_reducible refine (laws_toCover.calls a0_0 a0_1 a0_2 t201 t202 t203 _ A9.out).mono ?_); rintro e w18 ⟨rfl, hb⟩; refine ⟨_, rfl, ?_⟩; replace BK199 := Aside0.mk (Hd.kb_ BK199 hb); replace HB := Aside0.mk (below_step Hd.b_ hb); (try clear hb); (try clear hb2); (try clear hk); (try clear hi)) | ((with_reducible refine gate_callee (f := 69) rfl ?_); refine goesL_ (some 19) rfl rfl Try.func69 (by kernel_rfl) rfl #[.agg #[.int .i64 t201, .int .i64 t202, .string t203], .int .i64 a1, .int .i64 a2] rfl Hd.m_ ?_; (with_reducible refine (spec_Border.calls k t201 t202 t203 a1 a2 t204 _ A10.out).mono ?_); rintro e w19 ⟨rfl, hb⟩; refine ⟨_, rfl, ?_⟩; replace BK199 := Aside0.mk (Hd.kb_ BK199 hb); replace HB := Aside0.mk (below_step Hd.b_ hb); (try clear hb); (try clear hb2); (try clear hk); (try clear hi); obtain ⟨hcz20_0, hcz20_1, hcz20_2⟩ := Hd.c3_ BK199.out; obtain ⟨hfz20_0, hfz20_1, hfz20_2⟩ := Hd.f3_ BK199.out) | ((with_reducible refine gate_callee (f := 59) rfl ?_); refine goesL_ (some 21) rfl rfl Try.func59 (by kernel_rfl) rfl #[.agg #[.int .i64 a0_0, .int .i64 a0_1, .string a0_2]] rfl Hd.m_ ?_; (with_reducible refine (laws_toCover.calls a0_0 a0_1 a0_2 t205 t206 t207 _ A11.out).mono ?_); rintro e w21 ⟨rfl, hb⟩; refine ⟨_, rfl, ?_⟩; replace BK199 := Aside0.mk (Hd.kb_ BK199 hb); replace HB := Aside0.mk (below_step Hd.b_ hb); (try clear hb); (try clear hb2); (try clear hk); (try clear hi)) | ((with_reducible refine gate_callee (f := 70) rfl ?_); refine goesL_ (some 24) rfl rfl Try.func70 (by kernel_rfl) rfl #[.agg #[.int .i64 t205, .int .i64 t206, .string t207], .int .i64 a1, .int .i64 a2] rfl Hd.m_ ?_; (with_reducible refine (impl_Border.calls k t205 t206 t207 a1 a2 t208 _ A12.out).mono ?_); rintro e w22 ⟨rfl, hb⟩; refine ⟨_, rfl, ?_⟩; replace BK199 := Aside0.mk (Hd.kb_ BK199 hb); replace HB := Aside0.mk (below_step Hd.b_ hb); (try clear hb); (try clear hb2); (try clear hk); (try clear hi)))
   go_ret
   exact ⟨Hd.e_, Hd.b_⟩
  ·
   rw [if_neg c13] at H
   have c13b0 : (t208 == t204) = false := beq_eq_false_iff_ne.mpr c13
   have c13b1 : (t208 != t204) = true := bne_iff_ne.mpr c13
   obtain rfl := Option.some.inj H
   go_enter Try.func14, Try.ntmps14
   go_wp2_with (first | ((with_reducible refine gate_dst (N := 3) rfl ?_); refine Hd.box_ 3 (#[.int .i64 a0_0, .int .i64 a0_1, .string a0_2]) 93 ?_; intro gb199 hg w23 hbox hb; have BK199 := Aside0.mk (hbox); have GW199 := Aside0.mk ((Hd.g_ hg Hd.b_ : w.heap.size ≤ gb199)); have GE199 := Aside0.mk ((Hd.g_ hg Hd.b_ : w.heap.size ≤ gb199)); replace HB := Aside0.mk (below_step Hd.b_ hb); clear hb hbox hg; obtain ⟨hcz24_0, hcz24_1, hcz24_2⟩ := Hd.c3_ BK199.out; obtain ⟨hfz24_0, hfz24_1, hfz24_2⟩ := Hd.f3_ BK199.out) | ((with_reducible refine gate_callee (f := 57) rfl ?_); refine goesL_ (some 12) rfl rfl Try.func57 (by kernel_rfl) rfl #[.agg #[.int .i64 a0_0, .int .i64 a0_1, .string a0_2], .int .i64 1048576] rfl Hd.m_ ?_; (with_reducible refine (laws_szCover.calls a0_0 a0_1 a0_2 1048576 t200 _ A4.out).mono ?_); rintro e w25 ⟨rfl, hb⟩; refine ⟨_, rfl, ?_⟩; replace BK199 := Aside0.mk (Hd.kb_ BK199 hb); replace HB := Aside0.mk (below_step Hd.b_ hb); (try clear hb); (try clear hb2); (try clear hk); (try clear hi); obtain ⟨hcz26_0, hcz26_1, hcz26_2⟩ := Hd.c3_ BK199.out; obtain ⟨hfz26_0, hfz26_1, hfz26_2⟩ := Hd.f3_ BK199.out) | ((with_reducible refine gate_callee (f := 59) rfl ?_); refine goesL_ (some 16) rfl rfl Try.func59 (by kernel_rfl) rfl #[.agg #[.int .i64 a0_0, .int .i64 a0_1, .string a0_2]] rfl Hd.m_ ?_; (with_reducible refine (laws_toCover.calls a0_0 a0_1 a0_2 t201 t202 t203 _ A9.out).mono ?_); rintro e w27 ⟨rfl, hb⟩; refine ⟨_, rfl, ?_⟩; replace BK199 := Aside0.mk (Hd.kb_ BK199 hb); replace HB := Aside0.mk (below_step Hd.b_ hb); (try clear hb); (try clear hb2); (try clear hk); (try clear hi)) | ((with_reducible refine gate_callee (f := 69) rfl ?_); refine goesL_ (some 19) rfl rfl Try.func69 (by kernel_rfl) rfl #[.agg #[.int .i64 t201, .int .i64 t202, .string t203], .int .i64 a1, .int .i64 a2] rfl Hd.m_ ?_; (with_reducible refine (spec_Border.calls k t201 t202 t203 a1 a2 t204 _ A10.out).mono ?_); rintro e w28 ⟨rfl, hb⟩; refine ⟨_, rfl, ?_⟩; replace BK199 := Aside0.mk (Hd.kb_ BK199 hb); replace HB := Aside0.mk (below_step Hd.b_ hb); (try clear hb); (try clear hb2); (try clear hk); (try clear hi); obtain ⟨hcz29_0, hcz29_1, hcz29_2⟩ := Hd.c3_ BK199.out; obtain ⟨hfz29_0, hfz29_1, hfz29_2⟩ := Hd.f3_ BK199.out) | ((with_reducible refine gate_callee (f := 59) rfl ?_); refine goesL_ (some 21) rfl rfl Try.func59 (by kernel_rfl) rfl #[.agg #[.int .i64 a0_0, .int .i64 a0_1, .string a0_2]] rfl Hd.m_ ?_; (with_reducible refine (laws_toCover.calls a0_0 a0_1 a0_2 t205 t206 t207 _ A11.out).mono ?_); rintro e w30 ⟨rfl, hb⟩; refine ⟨_, rfl, ?_⟩; replace BK199 := Aside0.mk (Hd.kb_ BK199 hb); replace HB := Aside0.mk (below_step Hd.b_ hb); (try clear hb); (try clear hb2); (try clear hk); (try clear hi)) | ((with_reducible refine gate_callee (f := 70) rfl ?_); refine goesL_ (some 24) rfl rfl Try.func70 (by kernel_rfl) rfl #[.agg #[.int .i64 t205, .int .i64 t206, .string t207], .int .i64 a1, .int .i64 a2] rfl Hd.m_ ?_; (with_reducible refine (impl_Border.calls k t205 t206 t207 a1 a2 t208 _ A12.out).mono ?_); rintro e w31 ⟨rfl, hb⟩; refine ⟨_, rfl, ?_⟩; replace BK199 := Aside0.mk (Hd.kb_ BK199 hb); replace HB := Aside0.mk (below_step Hd.b_ hb); (try clear hb); (try clear hb2); (try clear hk); (try clear hi)))
   go_ret
   exact ⟨Hd.e_, Hd.b_⟩
end Go.Proofs.Ytchmbcembbbplaa.MFnExactBorder
