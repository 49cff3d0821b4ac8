-- Laid by this session's program pp.py, after the kit's print and texts of the session's own. Not trusted: Lean checks it.
import Derived.Test.YtchmbcembbbplaaZBorderMx0
import Derived.Test.YtchmbcembbbplaaZBorderMx3
namespace Go.Proofs.Ytchmbcembbbplaa.MFnExactBorder
open Go.RowKit Go.Proofs.YtchmbcembbbplaaW.PrintWords Go.Proofs.YtchmbcembbbplaaW.PrintLast Go.Proofs.YtchmbcembbbplaaW.PrintMore
attribute [local go_sem] max2_int min2_int max_two min_two max_three min_three max_four min_four   -- for this text's walks alone
set_option linter.unusedVariables false
set_option linter.unusedSimpArgs false
mutual
def impl_IsCover.j0 : Nat → Bool → Int → Int → ByteArray → Option (Bool)
 | 0, _, _, _, _ => none
 | k + 1, x24, x163000, x163001, x163002 => if x24 = true then (some false) else (impl_IsCover.l0 k (x163002.size : Int) 0 x163000 x163001 x163002)
def impl_IsCover.l0 : Nat → Int → Int → Int → Int → ByteArray → Option (Bool)
 | 0, _, _, _, _, _ => none
 | k + 1, x27, x28, x163000, x163001, x163002 => if x28 < x27 then (if 0 ≤ x28 then (if x28 < (x163002.size : Int) then (if (bt x163002 x28) < 97 then (some false) else (if (bt x163002 x28) > 122 then (some false) else (impl_IsCover.l0 k x27 (wrap64 (x28 + 1)) x163000 x163001 x163002))) else (none)) else (none)) else (some true)
end
def impl_IsCover.f (k : Nat) (a0_0 : Int) (a0_1 : Int) (a0_2 : ByteArray) : Option (Bool) := (impl_InRange.f a0_0 1 6).bind fun t163 => (if t163 = true then ((impl_InRange.f a0_1 1 6).bind fun t164 => (if t164 = true then (impl_IsCover.j0 k ((a0_2.size : Int) != (wrap64 (a0_0 * a0_1))) a0_0 a0_1 a0_2) else (impl_IsCover.j0 k true a0_0 a0_1 a0_2))) else (impl_IsCover.j0 k true a0_0 a0_1 a0_2))
set_option maxHeartbeats 8000000 in
set_option maxRecDepth 100000 in
theorem impl_IsCover.calls (k : Nat) (a0_0 : Int) (a0_1 : Int) (a0_2 : ByteArray) (r : Bool) (w : World) (h : impl_IsCover.f k a0_0 a0_1 a0_2 = some r) :
  Calls Try.prog 142 #[.agg #[.int .i64 a0_0, .int .i64 a0_1, .string a0_2]] w fun e w' => e = .returned (.bool r) ∧ Below w.heap.size w w' := by
 have hu96 := Try.underlying96
 have HB := Aside0.mk (Below.refl w.heap.size w)
 have H : ((impl_InRange.f a0_0 1 6).bind fun t163 => (if t163 = true then ((impl_InRange.f a0_1 1 6).bind fun t164 => (if t164 = true then (impl_IsCover.j0 k ((a0_2.size : Int) != (wrap64 (a0_0 * a0_1))) a0_0 a0_1 a0_2) else (impl_IsCover.j0 k true a0_0 a0_1 a0_2))) else (impl_IsCover.j0 k true a0_0 a0_1 a0_2))) = some r := h
 clear h
 have HC2 := Aside0.mk H
 clear H
 go_enter Try.func142, Try.ntmps142
 go_upto_region 1 with (first | ((with_reducible refine gate_dst (N := 1) rfl ?_); (try (refine gate_guard (by rfl) ?_; dsimp only)); refine Hd.box_ 1 (#[.int .i64 a0_0, .int .i64 a0_1, .string a0_2]) 96 ?_; intro gb162 hg w3 hbox hb; have BK162 := Aside0.mk (hbox); have GW162 := Aside0.mk ((Hd.g_ hg Hd.b_ : w.heap.size ≤ gb162)); have GE162 := Aside0.mk ((Hd.g_ hg Hd.b_ : w.heap.size ≤ gb162)); replace HB := Aside0.mk (below_step Hd.b_ hb); clear hb hbox hg))
 (try simp only [Act.put, List.setIfInBounds_toArray, List.set_cons_zero, List.set_cons_succ])
 go_cut [24] (fun v24 wc => ∃ (kq : Nat) (x24_1 : Bool), v24 = .bool x24_1 ∧ Aside0 (impl_IsCover.j0 kq x24_1 a0_0 a0_1 a0_2 = some r) ∧ Aside0 (kq ≤ k) ∧ Aside0 (wc.heap[gb162]? = some (.cells #[.int .i64 a0_0, .int .i64 a0_1, .string a0_2] 96 (0, 0))) ∧ Aside0 (Below w.heap.size w wc))
 case first =>
  have H := HC2.out
  clear HC2
  replace H := Option.bind_eq_some_iff.mp H
  obtain ⟨t163, A40, H⟩ := H
  replace H : (if t163 = true then ((impl_InRange.f a0_1 1 6).bind fun t164 => (if t164 = true then (impl_IsCover.j0 k ((a0_2.size : Int) != (wrap64 (a0_0 * a0_1))) a0_0 a0_1 a0_2) else (impl_IsCover.j0 k true a0_0 a0_1 a0_2))) else (impl_IsCover.j0 k true a0_0 a0_1 a0_2)) = some r := H
  have A4 := Aside0.mk A40
  clear A40
  by_cases c5 : t163 = true
  ·
   subst c5
   have H1 : ((impl_InRange.f a0_1 1 6).bind fun t164 => (if t164 = true then (impl_IsCover.j0 k ((a0_2.size : Int) != (wrap64 (a0_0 * a0_1))) a0_0 a0_1 a0_2) else (impl_IsCover.j0 k true a0_0 a0_1 a0_2))) = some r := by rw [if_pos rfl] at H; exact H
   clear H
   have H := H1
   clear H1
   replace H := Option.bind_eq_some_iff.mp H
   obtain ⟨t164, A60, H⟩ := H
   replace H : (if t164 = true then (impl_IsCover.j0 k ((a0_2.size : Int) != (wrap64 (a0_0 * a0_1))) a0_0 a0_1 a0_2) else (impl_IsCover.j0 k true a0_0 a0_1 a0_2)) = some r := H
   have A6 := Aside0.mk A60
   clear A60
   by_cases c7 : t164 = true
   ·
    subst c7
    have H1 : (impl_IsCover.j0 k ((a0_2.size : Int) != (wrap64 (a0_0 * a0_1))) a0_0 a0_1 a0_2) = some r := by rw [if_pos rfl] at H; exact H
    clear H
    have H := H1
    clear H1
    have H' := Aside0.mk H
    clear H
    obtain ⟨hcz8_0, hcz8_1, hcz8_2⟩ := Hd.c3_ BK162.out
    obtain ⟨hfz8_0, hfz8_1, hfz8_2⟩ := Hd.f3_ BK162.out
    go_wp2_with (first | ((with_reducible refine gate_callee (f := 92) rfl ?_); refine goesL_ (some 6) rfl rfl Try.func92 (by kernel_rfl) rfl #[.int .i64 a0_0, .int .i64 1, .int .i64 6] rfl Hd.m_ ?_; (with_reducible refine (impl_InRange.calls a0_0 1 6 true _ A4.out).mono ?_); rintro e w' ⟨rfl, ⟨nd, rfl⟩⟩; refine ⟨_, rfl, ?_⟩) | (go_at_call 92; (with_reducible refine (impl_InRange.calls a0_1 1 6 true _ A6.out).mono ?_); rintro e w' ⟨rfl, ⟨nd, rfl⟩⟩))
    go_meet
    case rel => exact ⟨_, (((a0_2.size : Int) != (wrap64 (a0_0 * a0_1)))), (by first | rfl | (simp; done) | (simp [*]; done)), H', ⟨by first | omega | exact Nat.le_refl _⟩, ⟨by (with_reducible repeat (first | refine blk_drewN ?_ _ | refine blk_drew ?_ | refine blk_alloc ?_ _)); exact BK162.out⟩, ⟨Hd.b_⟩⟩
   ·
    replace c7 := Bool.eq_false_iff.mpr c7
    subst c7
    have H1 : (impl_IsCover.j0 k true a0_0 a0_1 a0_2) = some r := by rw [if_neg (show ¬ (false = true) by decide)] at H; exact H
    clear H
    have H := H1
    clear H1
    have H' := Aside0.mk H
    clear H
    obtain ⟨hcz9_0, hcz9_1, hcz9_2⟩ := Hd.c3_ BK162.out
    obtain ⟨hfz9_0, hfz9_1, hfz9_2⟩ := Hd.f3_ BK162.out
    go_wp2_with (first | ((with_reducible refine gate_callee (f := 92) rfl ?_); refine goesL_ (some 6) rfl rfl Try.func92 (by kernel_rfl) rfl #[.int .i64 a0_0, .int .i64 1, .int .i64 6] rfl Hd.m_ ?_; (with_reducible refine (impl_InRange.calls a0_0 1 6 true _ A4.out).mono ?_); rintro e w' ⟨rfl, ⟨nd, rfl⟩⟩; refine ⟨_, rfl, ?_⟩) | (go_at_call 92; (with_reducible refine (impl_InRange.calls a0_1 1 6 false _ A6.out).mono ?_); rintro e w' ⟨rfl, ⟨nd, rfl⟩⟩))
    go_meet
    case rel => exact ⟨_, (true), (by first | rfl | (simp; done) | (simp [*]; done)), H', ⟨by first | omega | exact Nat.le_refl _⟩, ⟨by (with_reducible repeat (first | refine blk_drewN ?_ _ | refine blk_drew ?_ | refine blk_alloc ?_ _)); exact BK162.out⟩, ⟨Hd.b_⟩⟩
  ·
   replace c5 := Bool.eq_false_iff.mpr c5
   subst c5
   have H1 : (impl_IsCover.j0 k true a0_0 a0_1 a0_2) = some r := by rw [if_neg (show ¬ (false = true) by decide)] at H; exact H
   clear H
   have H := H1
   clear H1
   have H' := Aside0.mk H
   clear H
   obtain ⟨hcz10_0, hcz10_1, hcz10_2⟩ := Hd.c3_ BK162.out
   obtain ⟨hfz10_0, hfz10_1, hfz10_2⟩ := Hd.f3_ BK162.out
   go_wp2_with (first | ((with_reducible refine gate_callee (f := 92) rfl ?_); refine goesL_ (some 6) rfl rfl Try.func92 (by kernel_rfl) rfl #[.int .i64 a0_0, .int .i64 1, .int .i64 6] rfl Hd.m_ ?_; (with_reducible refine (impl_InRange.calls a0_0 1 6 false _ A4.out).mono ?_); rintro e w' ⟨rfl, ⟨nd, rfl⟩⟩; refine ⟨_, rfl, ?_⟩))
   go_meet
   case rel => exact ⟨_, (true), (by first | rfl | (simp; done) | (simp [*]; done)), H', ⟨by first | omega | exact Nat.le_refl _⟩, ⟨by (with_reducible repeat (first | refine blk_drewN ?_ _ | refine blk_drew ?_ | refine blk_alloc ?_ _)); exact BK162.out⟩, ⟨Hd.b_⟩⟩
 case rest =>
  clear HC2
  try clear c1
  try clear p2
  try clear c5
  try clear p6
  try clear c7
  try clear c9
  try clear hcz10_0
  try clear hcz10_1
  try clear hcz10_2
  try clear hcz8_0
  try clear hcz8_1
  try clear hcz8_2
  try clear hcz9_0
  try clear hcz9_1
  try clear hcz9_2
  try clear hfz10_0
  try clear hfz10_1
  try clear hfz10_2
  try clear hfz8_0
  try clear hfz8_1
  try clear hfz8_2
  try clear hfz9_0
  try clear hfz9_1
  try clear hfz9_2
  obtain ⟨kq, x24_1, rfl, HA, HJ1, BK162, HB⟩ := hcut
  cases kq with
  | zero => exact absurd HA.out (by simp [impl_IsCover.j0])
  | succ kj1 =>
   have H := HA.out
   clear HA
   simp only [impl_IsCover.j0] at H
   by_cases c11 : x24_1 = true
   ·
    subst c11
    have H1 : (some false) = some r := by rw [if_pos rfl] at H; exact H
    clear H
    have H := H1
    clear H1
    obtain rfl := Option.some.inj H
    go_wp2
    go_ret
    exact ⟨Hd.e_, Hd.b_⟩
   ·
    replace c11 := Bool.eq_false_iff.mpr c11
    subst c11
    have H1 : (impl_IsCover.l0 kj1 (a0_2.size : Int) 0 a0_0 a0_1 a0_2) = some r := by rw [if_neg (show ¬ (false = true) by decide)] at H; exact H
    clear H
    have H := H1
    clear H1
    have H' := Aside0.mk H
    clear H
    obtain ⟨hcz12_0, hcz12_1, hcz12_2⟩ := Hd.c3_ BK162.out
    obtain ⟨hfz12_0, hfz12_1, hfz12_2⟩ := Hd.f3_ BK162.out
    go_wp2
    go_loopg [28] kj1 (fun kq v28 w' => ∃ (x28_2 : Int), v28 = .int .i64 x28_2 ∧ Aside0 (impl_IsCover.l0 kq (a0_2.size : Int) x28_2 a0_0 a0_1 a0_2 = some r) ∧ Aside0 (kq ≤ kj1) ∧ Aside0 (w'.heap[gb162]? = some (.cells #[.int .i64 a0_0, .int .i64 a0_1, .string a0_2] 96 (0, 0))) ∧ Aside0 (Below w.heap.size w w'))
    case atStart => exact ⟨(0), (by first | rfl | (simp; done) | (simp [*]; done)), H', ⟨Nat.le_refl _⟩, ⟨by (with_reducible repeat (first | refine blk_drewN ?_ _ | refine blk_drew ?_ | refine blk_alloc ?_ _)); exact BK162.out⟩, ⟨Hd.b_⟩⟩
    case round =>
     clear H'
     try clear c1
     try clear p2
     try clear c5
     try clear p6
     try clear c7
     try clear c9
     try clear c11
     try clear hcz10_0
     try clear hcz10_1
     try clear hcz10_2
     try clear hcz12_0
     try clear hcz12_1
     try clear hcz12_2
     try clear hcz8_0
     try clear hcz8_1
     try clear hcz8_2
     try clear hcz9_0
     try clear hcz9_1
     try clear hcz9_2
     try clear hfz10_0
     try clear hfz10_1
     try clear hfz10_2
     try clear hfz12_0
     try clear hfz12_1
     try clear hfz12_2
     try clear hfz8_0
     try clear hfz8_1
     try clear hfz8_2
     try clear hfz9_0
     try clear hfz9_1
     try clear hfz9_2
     try clear p2
     try clear p6
     obtain ⟨x28_2, rfl, HA, HK2, BK162, HB⟩ := hrel
     cases gk with
     | zero => exact absurd HA.out (by simp [impl_IsCover.l0])
     | succ k2 =>
      have H := HA.out
      clear HA
      simp only [impl_IsCover.l0] at H
      by_cases c13 : x28_2 < (a0_2.size : Int)
      ·
       rw [if_pos c13] at H
       have c13b0 : decide (x28_2 < (a0_2.size : Int)) = true := decide_eq_true c13
       clear c13
       by_cases c14 : 0 ≤ x28_2
       ·
        rw [if_pos c14] at H
        have c14b0 : decide (0 ≤ x28_2) = true := decide_eq_true c14
        clear c14
        by_cases c15 : x28_2 < (a0_2.size : Int)
        ·
         rw [if_pos c15] at H
         have c15b0 : decide (x28_2 < (a0_2.size : Int)) = true := decide_eq_true c15
         clear c15
         by_cases c17 : (bt a0_2 x28_2) < 97
         ·
          rw [if_pos c17] at H
          have c17b0 : decide ((bt a0_2 x28_2) < 97) = true := decide_eq_true c17
          clear c17
          obtain rfl := Option.some.inj H
          obtain ⟨hcz18_0, hcz18_1, hcz18_2⟩ := Hd.c3_ BK162.out
          obtain ⟨hfz18_0, hfz18_1, hfz18_2⟩ := Hd.f3_ BK162.out
          have p16 : 0 ≤ (x28_2 : Int) := of_decide_eq_true Hd.a_
          have q16 : x28_2 < (a0_2.size : Int) := of_decide_eq_true Hd.a_
          have hx16 := bt_at a0_2 x28_2
          replace p16 := eq_true p16
          replace q16 := eq_true q16
          go_wp2
          go_ret
          exact ⟨Hd.e_, Hd.b_⟩
         ·
          rw [if_neg c17] at H
          have c17b0 : decide ((bt a0_2 x28_2) < 97) = false := decide_eq_false c17
          clear c17
          by_cases c20 : (bt a0_2 x28_2) > 122
          ·
           rw [if_pos c20] at H
           have c20b0 : decide (122 < (bt a0_2 x28_2)) = true := decide_eq_true c20
           clear c20
           obtain rfl := Option.some.inj H
           obtain ⟨hcz21_0, hcz21_1, hcz21_2⟩ := Hd.c3_ BK162.out
           obtain ⟨hfz21_0, hfz21_1, hfz21_2⟩ := Hd.f3_ BK162.out
           have p16 : 0 ≤ (x28_2 : Int) := of_decide_eq_true Hd.a_
           have q16 : x28_2 < (a0_2.size : Int) := of_decide_eq_true Hd.a_
           have hx16 := bt_at a0_2 x28_2
           replace p16 := eq_true p16
           replace q16 := eq_true q16
           have p19 : 0 ≤ (x28_2 : Int) := of_decide_eq_true Hd.a_
           have q19 : x28_2 < (a0_2.size : Int) := of_decide_eq_true Hd.a_
           have hx19 := bt_at a0_2 x28_2
           replace p19 := eq_true p19
           replace q19 := eq_true q19
           go_wp2
           go_ret
           exact ⟨Hd.e_, Hd.b_⟩
          ·
           rw [if_neg c20] at H
           have c20b0 : decide (122 < (bt a0_2 x28_2)) = false := decide_eq_false c20
           clear c20
           have H' := Aside0.mk H
           clear H
           obtain ⟨hcz22_0, hcz22_1, hcz22_2⟩ := Hd.c3_ BK162.out
           obtain ⟨hfz22_0, hfz22_1, hfz22_2⟩ := Hd.f3_ BK162.out
           have p16 : 0 ≤ (x28_2 : Int) := of_decide_eq_true Hd.a_
           have q16 : x28_2 < (a0_2.size : Int) := of_decide_eq_true Hd.a_
           have hx16 := bt_at a0_2 x28_2
           replace p16 := eq_true p16
           replace q16 := eq_true q16
           have p19 : 0 ≤ (x28_2 : Int) := of_decide_eq_true Hd.a_
           have q19 : x28_2 < (a0_2.size : Int) := of_decide_eq_true Hd.a_
           have hx19 := bt_at a0_2 x28_2
           replace p19 := eq_true p19
           replace q19 := eq_true q19
           go_wp2
           go_roundg k2
           case measure => have := HJ1.out; have := HK2.out; omega
           case rel => exact ⟨(wrap64 (x28_2 + 1)), (by first | rfl | (simp; done) | (simp [*]; done)), H', ⟨by have := HJ1.out; have := HK2.out; omega⟩, ⟨by (with_reducible repeat (first | refine blk_drewN ?_ _ | refine blk_drew ?_ | refine blk_alloc ?_ _)); exact BK162.out⟩, ⟨Hd.b_⟩⟩
        ·
         rw [if_neg c15] at H
         exact absurd H (by simp)
       ·
        rw [if_neg c14] at H
        exact absurd H (by simp)
      ·
       rw [if_neg c13] at H
       have c13b0 : decide (x28_2 < (a0_2.size : Int)) = false := decide_eq_false c13
       clear c13
       obtain rfl := Option.some.inj H
       go_wp2
       go_ret
       exact ⟨Hd.e_, Hd.b_⟩
end Go.Proofs.Ytchmbcembbbplaa.MFnExactBorder
