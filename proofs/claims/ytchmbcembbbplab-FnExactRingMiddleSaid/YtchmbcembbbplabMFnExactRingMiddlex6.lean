-- Laid by this session's program pp.py, after the kit's print and texts of the session's own. Not trusted: Lean checks it.
import Derived.Test.YtchmbcembbbplabMFnExactRingMiddlex0
import Derived.Test.YtchmbcembbbplabMFnExactRingMiddlex2
import Derived.Test.YtchmbcembbbplabMFnExactRingMiddlex3
import Derived.Test.YtchmbcembbbplabMFnExactRingMiddlex4
import Derived.Test.YtchmbcembbbplabMFnExactRingMiddlex5
namespace Go.Proofs.Ytchmbcembbbplab.MFnExactRingMiddle
open Go.RowKit Go.Proofs.YtchmbcembbbplabW.PrintWords Go.Proofs.YtchmbcembbbplabW.PrintLast Go.Proofs.YtchmbcembbbplabW.PrintMore
attribute [local go_sem] max2_int min2_int max_two min_two max_three min_three max_four min_four   -- for this text's walks alone
set_option linter.unusedVariables false
set_option linter.unusedSimpArgs false

/-! ### spec_HowMeet: function 127 -/
mutual
def spec_HowMeet.j0 : Nat → Bool → Int → Int → Int → Int → Int → Int → Int → Int → Option (Int)
  | 0, _, _, _, _, _, _, _, _, _ => none
  | k + 1, x12, x172000, x172001, x172002, x172003, x173000, x173001, x173002, x173003 => if x12 = true then (some 0) else ((spec_Max.f x172000 x172002).bind fun t175 => ((spec_Min.f x173000 x173002).bind fun t176 => (if t175 < t176 then (spec_HowMeet.j1 k true x172000 x172001 x172002 x172003 x173000 x173001 x173002 x173003) else ((spec_Max.f x173000 x173002).bind fun t177 => ((spec_Min.f x172000 x172002).bind fun t178 => (if t177 < t178 then (spec_HowMeet.j1 k true x172000 x172001 x172002 x172003 x173000 x173001 x173002 x173003) else ((spec_Max.f x172001 x172003).bind fun t179 => ((spec_Min.f x173001 x173003).bind fun t180 => (if t179 < t180 then (spec_HowMeet.j1 k true x172000 x172001 x172002 x172003 x173000 x173001 x173002 x173003) else ((spec_Max.f x173001 x173003).bind fun t181 => ((spec_Min.f x172001 x172003).bind fun t182 => (spec_HowMeet.j1 k (decide (t181 < t182)) x172000 x172001 x172002 x172003 x173000 x173001 x173002 x173003))))))))))))
def spec_HowMeet.j1 : Nat → Bool → Int → Int → Int → Int → Int → Int → Int → Int → Option (Int)
  | 0, _, _, _, _, _, _, _, _, _ => none
  | k + 1, x78, x172000, x172001, x172002, x172003, x173000, x173001, x173002, x173003 => if x78 = true then (some 0) else ((spec_l5Shared.f k x172000 x172001 x172002 x172003 x173000 x173001 x173002 x173003).bind fun t183 => (if t183 = 0 then ((spec_SideOf.f k x172000 x172001 x172002 x172003 x173000 x173001).bind fun t184 => ((spec_SideOf.f k x172000 x172001 x172002 x172003 x173002 x173003).bind fun t185 => (if (wrap64 (t184 * t185)) < 0 then ((spec_SideOf.f k x173000 x173001 x173002 x173003 x172000 x172001).bind fun t186 => ((spec_SideOf.f k x173000 x173001 x173002 x173003 x172002 x172003).bind fun t187 => (if (wrap64 (t186 * t187)) < 0 then (some 2) else (some 0)))) else (some 0)))) else (if t183 = 1 then (some 1) else (some 3))))
end
def spec_HowMeet.f (k : Nat) (a0_0 : Int) (a0_1 : Int) (a0_2 : Int) (a0_3 : Int) (a1_0 : Int) (a1_1 : Int) (a1_2 : Int) (a1_3 : Int) : Option (Int) := (spec_IsSegment.f a0_0 a0_1 a0_2 a0_3).bind fun t173 => (if t173 = true then ((spec_IsSegment.f a1_0 a1_1 a1_2 a1_3).bind fun t174 => (spec_HowMeet.j0 k (!t174) a0_0 a0_1 a0_2 a0_3 a1_0 a1_1 a1_2 a1_3)) else (spec_HowMeet.j0 k true a0_0 a0_1 a0_2 a0_3 a1_0 a1_1 a1_2 a1_3))
theorem spec_HowMeet.mono_l : ∀ k, (∀ y0 y1 y2 y3 y4 y5 y6 y7 y8, LeO (spec_HowMeet.j0 k y0 y1 y2 y3 y4 y5 y6 y7 y8) (spec_HowMeet.j0 (k + 1) y0 y1 y2 y3 y4 y5 y6 y7 y8)) ∧ (∀ y0 y1 y2 y3 y4 y5 y6 y7 y8, LeO (spec_HowMeet.j1 k y0 y1 y2 y3 y4 y5 y6 y7 y8) (spec_HowMeet.j1 (k + 1) y0 y1 y2 y3 y4 y5 y6 y7 y8))
  | 0 => ⟨fun _ _ _ _ _ _ _ _ _ r h => by simp [spec_HowMeet.j0] at h, fun _ _ _ _ _ _ _ _ _ r h => by simp [spec_HowMeet.j1] at h⟩
  | k + 1 => by
    obtain ⟨ih0, ih1⟩ := spec_HowMeet.mono_l k
    refine ⟨?_, ?_⟩
    · intro y0 y1 y2 y3 y4 y5 y6 y7 y8
      unfold spec_HowMeet.j0
      repeat' first
      | (with_reducible exact ih0 _ _ _ _ _ _ _ _ _)
      | (with_reducible exact ih1 _ _ _ _ _ _ _ _ _)
      | (with_reducible exact spec_SideOf.mono _ _ _ _ _ _ _)
      | (with_reducible exact spec_l5Shared.mono _ _ _ _ _ _ _ _ _)
      | (with_reducible exact LeO.refl _)
      | (with_reducible exact LeO.none _)
      | (with_reducible refine LeO.ite ?_ ?_)
      | (with_reducible refine LeO.bind ?_ (fun _ => ?_))
      | exact ih0 _ _ _ _ _ _ _ _ _
      | exact ih1 _ _ _ _ _ _ _ _ _
      | exact spec_SideOf.mono _ _ _ _ _ _ _
      | exact spec_l5Shared.mono _ _ _ _ _ _ _ _ _
      | exact LeO.none _
      | refine LeO.ite ?_ ?_
      | refine LeO.bind ?_ (fun _ => ?_)
    · intro y0 y1 y2 y3 y4 y5 y6 y7 y8
      unfold spec_HowMeet.j1
      repeat' first
      | (with_reducible exact ih0 _ _ _ _ _ _ _ _ _)
      | (with_reducible exact ih1 _ _ _ _ _ _ _ _ _)
      | (with_reducible exact spec_SideOf.mono _ _ _ _ _ _ _)
      | (with_reducible exact spec_l5Shared.mono _ _ _ _ _ _ _ _ _)
      | (with_reducible exact LeO.refl _)
      | (with_reducible exact LeO.none _)
      | (with_reducible refine LeO.ite ?_ ?_)
      | (with_reducible refine LeO.bind ?_ (fun _ => ?_))
      | exact ih0 _ _ _ _ _ _ _ _ _
      | exact ih1 _ _ _ _ _ _ _ _ _
      | exact spec_SideOf.mono _ _ _ _ _ _ _
      | exact spec_l5Shared.mono _ _ _ _ _ _ _ _ _
      | exact LeO.none _
      | refine LeO.ite ?_ ?_
      | refine LeO.bind ?_ (fun _ => ?_)
theorem spec_HowMeet.mono : ∀ a0 a1 a2 a3 a4 a5 a6 a7 k, LeO (spec_HowMeet.f k a0 a1 a2 a3 a4 a5 a6 a7) (spec_HowMeet.f (k + 1) a0 a1 a2 a3 a4 a5 a6 a7) := by
  intro a0 a1 a2 a3 a4 a5 a6 a7 k
  obtain ⟨ih0, ih1⟩ := spec_HowMeet.mono_l k
  unfold spec_HowMeet.f
  repeat' first
      | (with_reducible exact ih0 _ _ _ _ _ _ _ _ _)
      | (with_reducible exact ih1 _ _ _ _ _ _ _ _ _)
      | (with_reducible exact spec_SideOf.mono _ _ _ _ _ _ _)
      | (with_reducible exact spec_l5Shared.mono _ _ _ _ _ _ _ _ _)
      | (with_reducible exact LeO.refl _)
      | (with_reducible exact LeO.none _)
      | (with_reducible refine LeO.ite ?_ ?_)
      | (with_reducible refine LeO.bind ?_ (fun _ => ?_))
      | exact ih0 _ _ _ _ _ _ _ _ _
      | exact ih1 _ _ _ _ _ _ _ _ _
      | exact spec_SideOf.mono _ _ _ _ _ _ _
      | exact spec_l5Shared.mono _ _ _ _ _ _ _ _ _
      | exact LeO.none _
      | refine LeO.ite ?_ ?_
      | refine LeO.bind ?_ (fun _ => ?_)
def spec_HowMeet.T3 : Bool × List (List Nat × List Nat) := (true, [([], []), ([0], [0]), ([1], [1]), ([], []), ([3], [3]), ([4], [4]), ([2, 5], [2, 5]), ([], []), ([7], [7]), ([8], [8]), ([], []), ([10], [10]), ([11], [11]), ([9, 12, 6], [9, 12]), ([6, 13], [6, 13]), ([14, 13], [14]), ([15], [15]), ([16, 15], [15, 16]), ([17, 15], [15, 17]), ([15], [15]), ([19, 15], [15, 19]), ([20, 15], [15, 20]), ([18, 21, 15, 15], [15, 18, 21]), ([15], [15]), ([23, 15], [15, 23]), ([24, 15], [15, 24]), ([15], [15]), ([26, 15], [15, 26]), ([27, 15], [15, 27]), ([25, 28, 22, 15], [15, 25, 28]), ([22, 29, 15], [15, 22, 29]), ([15, 30], [15, 30]), ([31, 29], [31]), ([32], [32]), ([33, 32], [32, 33]), ([34, 32], [32, 34]), ([32], [32]), ([36, 32], [32, 36]), ([37, 32], [32, 37]), ([35, 38, 32, 32], [32, 35, 38]), ([32], [32]), ([40, 32], [32, 40]), ([41, 32], [32, 41]), ([32], [32]), ([43, 32], [32, 43]), ([44, 32], [32, 44]), ([42, 45, 39, 32], [32, 42, 45]), ([39, 46, 32], [32, 39, 46]), ([32, 47], [32, 47]), ([48, 46], [48]), ([49], [49]), ([50, 49], [49, 50]), ([51, 49], [49, 51]), ([49], [49]), ([53, 49], [49, 53]), ([54, 49], [49, 54]), ([52, 55, 49, 49], [49, 52, 55]), ([49], [49]), ([57, 49], [49, 57]), ([58, 49], [49, 58]), ([49], [49]), ([60, 49], [49, 60]), ([61, 49], [49, 61]), ([59, 62, 56, 49], [49, 59, 62]), ([56, 63, 49], [49, 56, 63]), ([49, 64], [49, 64])])
def spec_HowMeet.B3 : List Nat := [0, 1, 3, 0, 8, 24, 63, 0, 128, 384, 0, 1024, 3072, 8191, 16383, 32767, 65535, 131071, 262143, 65535, 589823, 1638399, 4194303, 65535, 8454143, 25231359, 65535, 67174399, 201392127, 536870911, 1073741823, 2147483647, 4294967295, 8589934591, 17179869183, 34359738367, 8589934591, 77309411327, 214748364799, 549755813887, 8589934591, 1108101562367, 3307124817919, 8589934591, 8804682956799, 26396869001215, 70368744177663, 140737488355327, 281474976710655, 562949953421311, 1125899906842623, 2251799813685247, 4503599627370495, 1125899906842623, 10133099161583615, 28147497671065599, 72057594037927935, 1125899906842623, 145241087982698495, 433471464134410239, 1125899906842623, 1154047404513689599, 3459890413727383551, 9223372036854775807, 18446744073709551615, 36893488147419103231]
theorem spec_HowMeet.tab3 : rtab .any (opsOf Try.f127 3) = spec_HowMeet.T3 := by kernel_rfl
theorem spec_HowMeet.bits3 : waitsOk spec_HowMeet.T3.2 spec_HowMeet.B3 = true := by kernel_rfl
def spec_HowMeet.T7 : Bool × List (List Nat × List Nat) := (true, [([], []), ([0], [0]), ([], []), ([2], [2]), ([], []), ([4], [4]), ([1, 3, 5], [1, 3, 5]), ([], []), ([7], [7]), ([], []), ([9], [9]), ([], []), ([11], [11]), ([8, 10, 12, 6], [8, 10, 12]), ([6, 13], [6, 13]), ([14], [14]), ([15, 13], [15]), ([16], [16]), ([17, 16], [16, 17]), ([16], [16]), ([19, 16], [16, 19]), ([16], [16]), ([21, 16], [16, 21]), ([18, 20, 22, 16, 16], [16, 18, 20, 22]), ([16], [16]), ([24, 16], [16, 24]), ([16], [16]), ([26, 16], [16, 26]), ([16], [16]), ([28, 16], [16, 28]), ([25, 27, 29, 23, 16], [16, 25, 27, 29]), ([23, 30, 16], [16, 23, 30]), ([31, 16], [16, 31]), ([16, 32], [16, 32])])
def spec_HowMeet.B7 : List Nat := [0, 1, 0, 4, 0, 16, 63, 0, 128, 0, 512, 0, 2048, 8191, 16383, 32767, 65535, 131071, 262143, 131071, 655359, 131071, 2228223, 8388607, 131071, 16908287, 131071, 67239935, 131071, 268566527, 1073741823, 2147483647, 4294967295, 8589934591]
theorem spec_HowMeet.tab7 : rtab .any (opsOf Try.f127 7) = spec_HowMeet.T7 := by kernel_rfl
theorem spec_HowMeet.bits7 : waitsOk spec_HowMeet.T7.2 spec_HowMeet.B7 = true := by kernel_rfl
set_option maxHeartbeats 8000000 in
set_option maxRecDepth 100000 in
theorem spec_HowMeet.calls (k : Nat) (a0_0 : Int) (a0_1 : Int) (a0_2 : Int) (a0_3 : Int) (a1_0 : Int) (a1_1 : Int) (a1_2 : Int) (a1_3 : Int) (r : Int) (w : World) (h : spec_HowMeet.f k a0_0 a0_1 a0_2 a0_3 a1_0 a1_1 a1_2 a1_3 = some r) :
    Calls Try.prog 127 #[.agg #[.int .i64 a0_0, .int .i64 a0_1, .int .i64 a0_2, .int .i64 a0_3], .agg #[.int .i64 a1_0, .int .i64 a1_1, .int .i64 a1_2, .int .i64 a1_3]] w fun e w' => e = .returned (.int .i64 r) ∧ Below w.heap.size w w' := by
  have hu60 := Try.underlying60
  have hu27 := Try.underlying27
  have HB := Aside0.mk (Below.refl w.heap.size w)
  have H : ((spec_IsSegment.f a0_0 a0_1 a0_2 a0_3).bind fun t173 => (if t173 = true then ((spec_IsSegment.f a1_0 a1_1 a1_2 a1_3).bind fun t174 => (spec_HowMeet.j0 k (!t174) a0_0 a0_1 a0_2 a0_3 a1_0 a1_1 a1_2 a1_3)) else (spec_HowMeet.j0 k true a0_0 a0_1 a0_2 a0_3 a1_0 a1_1 a1_2 a1_3))) = some r := h
  clear h
  have HC3 := Aside0.mk H
  clear H
  go_enter Try.func127, Try.ntmps127
  go_upto_region 1 with (first | ((with_reducible refine gate_dst (N := 2) rfl ?_); refine box_event ?hg (N := 2) ?hd (cs := #[.int .i64 a0_0, .int .i64 a0_1, .int .i64 a0_2, .int .i64 a0_3]) (t := 60) ?hr ?_; (case hd => rfl); (case hg => rfl); (case hr => first | (go_simp; done) | (go_simp; rfl)); intro gb171 hg w4 hbox hb; have n0_ := Aside0.mk (below_step (by repeat (first | (with_reducible first | exact HB.out | apply below_alloc | apply pw_below_drewN | apply below_drew1) | exact HB.out)) hb); have n1_ := Aside0.mk (hbox); have n2_ := Aside0.mk ((by rw [hg]; exact (below_size (by repeat (first | (with_reducible first | exact HB.out | apply below_alloc | apply pw_below_drewN | apply below_drew1) | exact HB.out))) : w.heap.size ≤ gb171)); have n3_ := Aside0.mk ((by rw [hg]; exact (below_size (by repeat (first | (with_reducible first | exact HB.out | apply below_alloc | apply pw_below_drewN | apply below_drew1) | exact HB.out))) : w.heap.size ≤ gb171)); clear HB; have HB := n0_; have BK171 := n1_; have GW171 := n2_; have GE171 := n3_; clear n0_ n1_ n2_ n3_; clear hb hbox hg) | ((with_reducible refine gate_dst (N := 3) rfl ?_); refine box_event ?hg (N := 3) ?hd (cs := #[.int .i64 a1_0, .int .i64 a1_1, .int .i64 a1_2, .int .i64 a1_3]) (t := 60) ?hr ?_; (case hd => rfl); (case hg => rfl); (case hr => first | (go_simp; done) | (go_simp; rfl)); intro gb172 hg w5 hbox hb; have n0_ := Aside0.mk (blk_below (g := gb171) (o := .cells #[.int .i64 a0_0, .int .i64 a0_1, .int .i64 a0_2, .int .i64 a0_3] 60 (0, 0)) (by (with_reducible repeat (first | refine blk_drewN ?_ _ | refine blk_drew ?_ | refine blk_alloc ?_ _)); exact BK171.out) hb); have n1_ := Aside0.mk (below_step (by repeat (first | (with_reducible first | exact HB.out | apply below_alloc | apply pw_below_drewN | apply below_drew1 | refine below_set ?_ GE171.out) | exact HB.out)) hb); have n2_ := Aside0.mk (hbox); have n3_ := Aside0.mk ((by rw [hg]; exact (below_size (by repeat (first | (with_reducible first | exact HB.out | apply below_alloc | apply pw_below_drewN | apply below_drew1 | refine below_set ?_ GE171.out) | exact HB.out))) : w.heap.size ≤ gb172)); have n4_ := Aside0.mk ((by rw [hg]; exact (below_size (by repeat (first | (with_reducible first | exact HB.out | apply below_alloc | apply pw_below_drewN | apply below_drew1 | refine below_set ?_ GE171.out) | exact HB.out))) : w.heap.size ≤ gb172)); have n5_ := Aside0.mk ((by rw [hg]; exact Nat.ne_of_lt (blk_lt (g := gb171) (o := .cells #[.int .i64 a0_0, .int .i64 a0_1, .int .i64 a0_2, .int .i64 a0_3] 60 (0, 0)) (by (with_reducible repeat (first | refine blk_drewN ?_ _ | refine blk_drew ?_ | refine blk_alloc ?_ _)); exact BK171.out)) : gb171 ≠ gb172)); have n6_ := Aside0.mk ((by rw [hg]; exact Nat.ne_of_gt (blk_lt (g := gb171) (o := .cells #[.int .i64 a0_0, .int .i64 a0_1, .int .i64 a0_2, .int .i64 a0_3] 60 (0, 0)) (by (with_reducible repeat (first | refine blk_drewN ?_ _ | refine blk_drew ?_ | refine blk_alloc ?_ _)); exact BK171.out)) : gb172 ≠ gb171)); clear BK171; clear HB; have BK171 := n0_; have HB := n1_; have BK172 := n2_; have GW172 := n3_; have GE172 := n4_; have NB171_172 := n5_; have NB172_171 := n6_; clear n0_ n1_ n2_ n3_ n4_ n5_ n6_; clear hb hbox hg))
  (try simp only [Act.put, List.setIfInBounds_toArray, List.set_cons_zero, List.set_cons_succ])
  go_cut [12] (fun v12 wc => ∃ (kq : Nat) (x12_2 : Bool), v12 = .bool x12_2 ∧ Aside0 (spec_HowMeet.j0 kq x12_2 a0_0 a0_1 a0_2 a0_3 a1_0 a1_1 a1_2 a1_3 = some r) ∧ Aside0 (kq ≤ k) ∧ Aside0 (wc.heap[gb171]? = some (.cells #[.int .i64 a0_0, .int .i64 a0_1, .int .i64 a0_2, .int .i64 a0_3] 60 (0, 0))) ∧ Aside0 (wc.heap[gb172]? = some (.cells #[.int .i64 a1_0, .int .i64 a1_1, .int .i64 a1_2, .int .i64 a1_3] 60 (0, 0))) ∧ Aside0 (Below w.heap.size w wc))
  case first =>
    have H := HC3.out
    clear HC3
    replace H := Option.bind_eq_some_iff.mp H
    obtain ⟨t173, A60, H⟩ := H
    replace H : (if t173 = true then ((spec_IsSegment.f a1_0 a1_1 a1_2 a1_3).bind fun t174 => (spec_HowMeet.j0 k (!t174) a0_0 a0_1 a0_2 a0_3 a1_0 a1_1 a1_2 a1_3)) else (spec_HowMeet.j0 k true a0_0 a0_1 a0_2 a0_3 a1_0 a1_1 a1_2 a1_3)) = some r := H
    have A6 := Aside0.mk A60
    clear A60
    by_cases c7 : t173 = true
    · subst c7
      have H1 : ((spec_IsSegment.f a1_0 a1_1 a1_2 a1_3).bind fun t174 => (spec_HowMeet.j0 k (!t174) a0_0 a0_1 a0_2 a0_3 a1_0 a1_1 a1_2 a1_3)) = some r := by rw [if_pos rfl] at H; exact H
      clear H
      have H := H1
      clear H1
      replace H := Option.bind_eq_some_iff.mp H
      obtain ⟨t174, A80, H⟩ := H
      replace H : (spec_HowMeet.j0 k (!t174) a0_0 a0_1 a0_2 a0_3 a1_0 a1_1 a1_2 a1_3) = some r := H
      have A8 := Aside0.mk A80
      clear A80
      have H' := Aside0.mk H
      clear H
      have hnb9 := NB171_172.out
      have hnc9 := NB172_171.out
      have hcz10_0 : w5.cell? ⟨gb171, 0, none⟩ = some (.int .i64 a0_0) := (blk_cell BK171.out 0).trans rfl
      have hcz10_1 : w5.cell? ⟨gb171, 1, none⟩ = some (.int .i64 a0_1) := (blk_cell BK171.out 1).trans rfl
      have hcz10_2 : w5.cell? ⟨gb171, 2, none⟩ = some (.int .i64 a0_2) := (blk_cell BK171.out 2).trans rfl
      have hcz10_3 : w5.cell? ⟨gb171, 3, none⟩ = some (.int .i64 a0_3) := (blk_cell BK171.out 3).trans rfl
      have hfz10_0 := blk_frozen BK171.out 0
      have hfz10_1 := blk_frozen BK171.out 1
      have hfz10_2 := blk_frozen BK171.out 2
      have hfz10_3 := blk_frozen BK171.out 3
      go_wp2_with (first | ((with_reducible refine gate_callee (f := 118) rfl ?_); refine goesL_ (some 6) rfl rfl Try.func118 (by kernel_rfl) rfl #[.agg #[.int .i64 a0_0, .int .i64 a0_1, .int .i64 a0_2, .int .i64 a0_3]] rfl (by (try simp only [List.map_toArray, List.map_cons, List.map_nil]); first | done | rfl | (simp only [List.length_drop, List.length_take]; rfl)) ?_; (with_reducible refine (spec_IsSegment.calls a0_0 a0_1 a0_2 a0_3 true _ A6.out).mono ?_); rintro e w11 ⟨rfl, hb⟩; refine ⟨_, rfl, ?_⟩; have n0_ := Aside0.mk (blk_below (g := gb171) (o := .cells #[.int .i64 a0_0, .int .i64 a0_1, .int .i64 a0_2, .int .i64 a0_3] 60 (0, 0)) (by (with_reducible repeat (first | refine blk_drewN ?_ _ | refine blk_drew ?_ | refine blk_alloc ?_ _)); exact BK171.out) hb); have n1_ := Aside0.mk (blk_below (g := gb172) (o := .cells #[.int .i64 a1_0, .int .i64 a1_1, .int .i64 a1_2, .int .i64 a1_3] 60 (0, 0)) (by (with_reducible repeat (first | refine blk_drewN ?_ _ | refine blk_drew ?_ | refine blk_alloc ?_ _)); exact BK172.out) hb); have n2_ := Aside0.mk (below_step (by repeat (first | (with_reducible first | exact HB.out | apply below_alloc | apply pw_below_drewN | apply below_drew1 | refine below_set ?_ GE171.out | refine below_set ?_ GE172.out) | exact HB.out)) hb); clear BK171; clear BK172; clear HB; have BK171 := n0_; have BK172 := n1_; have HB := n2_; clear n0_ n1_ n2_; (try clear hb); (try clear hb2); (try clear hk); (try clear hi); have hcz12_0 : w11.cell? ⟨gb172, 0, none⟩ = some (.int .i64 a1_0) := (blk_cell BK172.out 0).trans rfl; have hcz12_1 : w11.cell? ⟨gb172, 1, none⟩ = some (.int .i64 a1_1) := (blk_cell BK172.out 1).trans rfl; have hcz12_2 : w11.cell? ⟨gb172, 2, none⟩ = some (.int .i64 a1_2) := (blk_cell BK172.out 2).trans rfl; have hcz12_3 : w11.cell? ⟨gb172, 3, none⟩ = some (.int .i64 a1_3) := (blk_cell BK172.out 3).trans rfl; have hfz12_0 := blk_frozen BK172.out 0; have hfz12_1 := blk_frozen BK172.out 1; have hfz12_2 := blk_frozen BK172.out 2; have hfz12_3 := blk_frozen BK172.out 3) | (go_at_call 118; (with_reducible refine (spec_IsSegment.calls a1_0 a1_1 a1_2 a1_3 t174 _ A8.out).mono ?_); rintro e w13 ⟨rfl, hb⟩; have n0_ := Aside0.mk (blk_below (g := gb171) (o := .cells #[.int .i64 a0_0, .int .i64 a0_1, .int .i64 a0_2, .int .i64 a0_3] 60 (0, 0)) (by (with_reducible repeat (first | refine blk_drewN ?_ _ | refine blk_drew ?_ | refine blk_alloc ?_ _)); exact BK171.out) hb); have n1_ := Aside0.mk (blk_below (g := gb172) (o := .cells #[.int .i64 a1_0, .int .i64 a1_1, .int .i64 a1_2, .int .i64 a1_3] 60 (0, 0)) (by (with_reducible repeat (first | refine blk_drewN ?_ _ | refine blk_drew ?_ | refine blk_alloc ?_ _)); exact BK172.out) hb); have n2_ := Aside0.mk (below_step (by repeat (first | (with_reducible first | exact HB.out | apply below_alloc | apply pw_below_drewN | apply below_drew1 | refine below_set ?_ GE171.out | refine below_set ?_ GE172.out) | exact HB.out)) hb); clear BK171; clear BK172; clear HB; have BK171 := n0_; have BK172 := n1_; have HB := n2_; clear n0_ n1_ n2_; (try clear hb); (try clear hb2); (try clear hk); (try clear hi)))
      go_meet
      case rel => exact ⟨_, (!t174), (by first | rfl | (simp; done) | (simp [*]; done)), H', ⟨by first | omega | exact Nat.le_refl _⟩, ⟨by (with_reducible repeat (first | refine blk_drewN ?_ _ | refine blk_drew ?_ | refine blk_alloc ?_ _)); exact BK171.out⟩, ⟨by (with_reducible repeat (first | refine blk_drewN ?_ _ | refine blk_drew ?_ | refine blk_alloc ?_ _)); exact BK172.out⟩, ⟨by repeat (first | (with_reducible first | exact HB.out | apply below_alloc | apply pw_below_drewN | apply below_drew1 | refine below_set ?_ GE171.out | refine below_set ?_ GE172.out) | exact HB.out)⟩⟩
    · replace c7 := Bool.eq_false_iff.mpr c7
      subst c7
      have H1 : (spec_HowMeet.j0 k true a0_0 a0_1 a0_2 a0_3 a1_0 a1_1 a1_2 a1_3) = some r := by rw [if_neg (show ¬ (false = true) by decide)] at H; exact H
      clear H
      have H := H1
      clear H1
      have H' := Aside0.mk H
      clear H
      have hnb14 := NB171_172.out
      have hnc14 := NB172_171.out
      have hcz15_0 : w5.cell? ⟨gb171, 0, none⟩ = some (.int .i64 a0_0) := (blk_cell BK171.out 0).trans rfl
      have hcz15_1 : w5.cell? ⟨gb171, 1, none⟩ = some (.int .i64 a0_1) := (blk_cell BK171.out 1).trans rfl
      have hcz15_2 : w5.cell? ⟨gb171, 2, none⟩ = some (.int .i64 a0_2) := (blk_cell BK171.out 2).trans rfl
      have hcz15_3 : w5.cell? ⟨gb171, 3, none⟩ = some (.int .i64 a0_3) := (blk_cell BK171.out 3).trans rfl
      have hfz15_0 := blk_frozen BK171.out 0
      have hfz15_1 := blk_frozen BK171.out 1
      have hfz15_2 := blk_frozen BK171.out 2
      have hfz15_3 := blk_frozen BK171.out 3
      go_wp2_with (first | ((with_reducible refine gate_callee (f := 118) rfl ?_); refine goesL_ (some 6) rfl rfl Try.func118 (by kernel_rfl) rfl #[.agg #[.int .i64 a0_0, .int .i64 a0_1, .int .i64 a0_2, .int .i64 a0_3]] rfl (by (try simp only [List.map_toArray, List.map_cons, List.map_nil]); first | done | rfl | (simp only [List.length_drop, List.length_take]; rfl)) ?_; (with_reducible refine (spec_IsSegment.calls a0_0 a0_1 a0_2 a0_3 false _ A6.out).mono ?_); rintro e w16 ⟨rfl, hb⟩; refine ⟨_, rfl, ?_⟩; have n0_ := Aside0.mk (blk_below (g := gb171) (o := .cells #[.int .i64 a0_0, .int .i64 a0_1, .int .i64 a0_2, .int .i64 a0_3] 60 (0, 0)) (by (with_reducible repeat (first | refine blk_drewN ?_ _ | refine blk_drew ?_ | refine blk_alloc ?_ _)); exact BK171.out) hb); have n1_ := Aside0.mk (blk_below (g := gb172) (o := .cells #[.int .i64 a1_0, .int .i64 a1_1, .int .i64 a1_2, .int .i64 a1_3] 60 (0, 0)) (by (with_reducible repeat (first | refine blk_drewN ?_ _ | refine blk_drew ?_ | refine blk_alloc ?_ _)); exact BK172.out) hb); have n2_ := Aside0.mk (below_step (by repeat (first | (with_reducible first | exact HB.out | apply below_alloc | apply pw_below_drewN | apply below_drew1 | refine below_set ?_ GE171.out | refine below_set ?_ GE172.out) | exact HB.out)) hb); clear BK171; clear BK172; clear HB; have BK171 := n0_; have BK172 := n1_; have HB := n2_; clear n0_ n1_ n2_; (try clear hb); (try clear hb2); (try clear hk); (try clear hi)))
      go_meet
      case rel => exact ⟨_, (true), (by first | rfl | (simp; done) | (simp [*]; done)), H', ⟨by first | omega | exact Nat.le_refl _⟩, ⟨by (with_reducible repeat (first | refine blk_drewN ?_ _ | refine blk_drew ?_ | refine blk_alloc ?_ _)); exact BK171.out⟩, ⟨by (with_reducible repeat (first | refine blk_drewN ?_ _ | refine blk_drew ?_ | refine blk_alloc ?_ _)); exact BK172.out⟩, ⟨by repeat (first | (with_reducible first | exact HB.out | apply below_alloc | apply pw_below_drewN | apply below_drew1 | refine below_set ?_ GE171.out | refine below_set ?_ GE172.out) | exact HB.out)⟩⟩
  case rest =>
    clear HC3
    try clear c1
    try clear p2
    try clear c7
    try clear c9
    try clear c11
    try clear c12
    try clear c14
    try clear hcz10_0
    try clear hcz10_1
    try clear hcz10_2
    try clear hcz10_3
    try clear hcz12_0
    try clear hcz12_1
    try clear hcz12_2
    try clear hcz12_3
    try clear hcz15_0
    try clear hcz15_1
    try clear hcz15_2
    try clear hcz15_3
    try clear hfz10_0
    try clear hfz10_1
    try clear hfz10_2
    try clear hfz10_3
    try clear hfz12_0
    try clear hfz12_1
    try clear hfz12_2
    try clear hfz12_3
    try clear hfz15_0
    try clear hfz15_1
    try clear hfz15_2
    try clear hfz15_3
    obtain ⟨kq, x12_2, rfl, HA, HJ2, BK171, BK172, HB⟩ := hcut
    cases kq with
    | zero => exact absurd HA.out (by simp [spec_HowMeet.j0])
    | succ kj2 =>
      have H := HA.out
      clear HA
      simp only [spec_HowMeet.j0] at H
      by_cases c17 : x12_2 = true
      · subst c17
        have H1 : (some 0) = some r := by rw [if_pos rfl] at H; exact H
        clear H
        have H := H1
        clear H1
        obtain rfl := Option.some.inj H
        go_wp2
        go_ret
        exact ⟨by first | rfl | (simp [errW_none, errW_some] <;> rfl) | (simp [*, errW_none, errW_some] <;> rfl), by repeat (first | (with_reducible first | exact HB.out | apply below_alloc | apply pw_below_drewN | apply below_drew1 | refine below_set ?_ GE171.out | refine below_set ?_ GE172.out) | exact HB.out)⟩
      · replace c17 := Bool.eq_false_iff.mpr c17
        subst c17
        have H1 : ((spec_Max.f a0_0 a0_2).bind fun t175 => ((spec_Min.f a1_0 a1_2).bind fun t176 => (if t175 < t176 then (spec_HowMeet.j1 kj2 true a0_0 a0_1 a0_2 a0_3 a1_0 a1_1 a1_2 a1_3) else ((spec_Max.f a1_0 a1_2).bind fun t177 => ((spec_Min.f a0_0 a0_2).bind fun t178 => (if t177 < t178 then (spec_HowMeet.j1 kj2 true a0_0 a0_1 a0_2 a0_3 a1_0 a1_1 a1_2 a1_3) else ((spec_Max.f a0_1 a0_3).bind fun t179 => ((spec_Min.f a1_1 a1_3).bind fun t180 => (if t179 < t180 then (spec_HowMeet.j1 kj2 true a0_0 a0_1 a0_2 a0_3 a1_0 a1_1 a1_2 a1_3) else ((spec_Max.f a1_1 a1_3).bind fun t181 => ((spec_Min.f a0_1 a0_3).bind fun t182 => (spec_HowMeet.j1 kj2 (decide (t181 < t182)) a0_0 a0_1 a0_2 a0_3 a1_0 a1_1 a1_2 a1_3)))))))))))) = some r := by rw [if_neg (show ¬ (false = true) by decide)] at H; exact H
        clear H
        have H := H1
        clear H1
        have HC18 := Aside0.mk H
        clear H
        go_upto_region 3 with (fail)
        go_cut [78] (fun v78 wc => ∃ (kq : Nat) (x78_17 : Bool), v78 = .bool x78_17 ∧ Aside0 (spec_HowMeet.j1 kq x78_17 a0_0 a0_1 a0_2 a0_3 a1_0 a1_1 a1_2 a1_3 = some r) ∧ Aside0 (kq ≤ kj2) ∧ Aside0 (wc.heap[gb171]? = some (.cells #[.int .i64 a0_0, .int .i64 a0_1, .int .i64 a0_2, .int .i64 a0_3] 60 (0, 0))) ∧ Aside0 (wc.heap[gb172]? = some (.cells #[.int .i64 a1_0, .int .i64 a1_1, .int .i64 a1_2, .int .i64 a1_3] 60 (0, 0))) ∧ Aside0 (Below w.heap.size w wc))
        case first =>
          have H := HC18.out
          clear HC18
          replace H := Option.bind_eq_some_iff.mp H
          obtain ⟨t175, A190, H⟩ := H
          replace H : ((spec_Min.f a1_0 a1_2).bind fun t176 => (if t175 < t176 then (spec_HowMeet.j1 kj2 true a0_0 a0_1 a0_2 a0_3 a1_0 a1_1 a1_2 a1_3) else ((spec_Max.f a1_0 a1_2).bind fun t177 => ((spec_Min.f a0_0 a0_2).bind fun t178 => (if t177 < t178 then (spec_HowMeet.j1 kj2 true a0_0 a0_1 a0_2 a0_3 a1_0 a1_1 a1_2 a1_3) else ((spec_Max.f a0_1 a0_3).bind fun t179 => ((spec_Min.f a1_1 a1_3).bind fun t180 => (if t179 < t180 then (spec_HowMeet.j1 kj2 true a0_0 a0_1 a0_2 a0_3 a1_0 a1_1 a1_2 a1_3) else ((spec_Max.f a1_1 a1_3).bind fun t181 => ((spec_Min.f a0_1 a0_3).bind fun t182 => (spec_HowMeet.j1 kj2 (decide (t181 < t182)) a0_0 a0_1 a0_2 a0_3 a1_0 a1_1 a1_2 a1_3))))))))))) = some r := H
          have A19 := Aside0.mk A190
          clear A190
          replace H := Option.bind_eq_some_iff.mp H
          obtain ⟨t176, A200, H⟩ := H
          replace H : (if t175 < t176 then (spec_HowMeet.j1 kj2 true a0_0 a0_1 a0_2 a0_3 a1_0 a1_1 a1_2 a1_3) else ((spec_Max.f a1_0 a1_2).bind fun t177 => ((spec_Min.f a0_0 a0_2).bind fun t178 => (if t177 < t178 then (spec_HowMeet.j1 kj2 true a0_0 a0_1 a0_2 a0_3 a1_0 a1_1 a1_2 a1_3) else ((spec_Max.f a0_1 a0_3).bind fun t179 => ((spec_Min.f a1_1 a1_3).bind fun t180 => (if t179 < t180 then (spec_HowMeet.j1 kj2 true a0_0 a0_1 a0_2 a0_3 a1_0 a1_1 a1_2 a1_3) else ((spec_Max.f a1_1 a1_3).bind fun t181 => ((spec_Min.f a0_1 a0_3).bind fun t182 => (spec_HowMeet.j1 kj2 (decide (t181 < t182)) a0_0 a0_1 a0_2 a0_3 a1_0 a1_1 a1_2 a1_3)))))))))) = some r := H
          have A20 := Aside0.mk A200
          clear A200
          by_cases c21 : t175 < t176
          · rw [if_pos c21] at H
            have c21b0 : decide (t175 < t176) = true := decide_eq_true c21
            clear c21
            (first | rw [c21b0] | (simp only [i64_w, i32_w]; rw [c21b0]) | skip)
            have H' := Aside0.mk H
            clear H
            try go_wp2
            have n0_ := Aside0.mk (blk_drew BK171.out)
            have n1_ := Aside0.mk (blk_drew BK172.out)
            have n2_ := Aside0.mk (below_drew1 HB.out)
            clear BK171
            clear BK172
            clear HB
            have BK171 := n0_
            have BK172 := n1_
            have HB := n2_
            clear n0_ n1_ n2_
            have S_ : (fun w' : World => w'.cell? ⟨gb171, 0, none⟩ = some (.int .i64 a0_0) ∧ w'.cell? ⟨gb171, 1, none⟩ = some (.int .i64 a0_1) ∧ w'.cell? ⟨gb171, 2, none⟩ = some (.int .i64 a0_2) ∧ w'.cell? ⟨gb171, 3, none⟩ = some (.int .i64 a0_3) ∧ w'.cell? ⟨gb172, 0, none⟩ = some (.int .i64 a1_0) ∧ w'.cell? ⟨gb172, 1, none⟩ = some (.int .i64 a1_1) ∧ w'.cell? ⟨gb172, 2, none⟩ = some (.int .i64 a1_2) ∧ w'.cell? ⟨gb172, 3, none⟩ = some (.int .i64 a1_3)) wc.drew := ⟨(blk_cell BK171.out 0).trans rfl, (blk_cell BK171.out 1).trans rfl, (blk_cell BK171.out 2).trans rfl, (blk_cell BK171.out 3).trans rfl, (blk_cell BK172.out 0).trans rfl, (blk_cell BK172.out 1).trans rfl, (blk_cell BK172.out 2).trans rfl, (blk_cell BK172.out 3).trans rfl⟩
            obtain ⟨s0_, s1_, s2_, s3_, s4_, s5_, s6_, s7_⟩ := S_
            replace s0_ := fun q : Hd.HW wc.drew => q.cell s0_
            replace s1_ := fun q : Hd.HW wc.drew => q.cell s1_
            replace s2_ := fun q : Hd.HW wc.drew => q.cell s2_
            replace s3_ := fun q : Hd.HW wc.drew => q.cell s3_
            replace s4_ := fun q : Hd.HW wc.drew => q.cell s4_
            replace s5_ := fun q : Hd.HW wc.drew => q.cell s5_
            replace s6_ := fun q : Hd.HW wc.drew => q.cell s6_
            replace s7_ := fun q : Hd.HW wc.drew => q.cell s7_
            refine Hd.HW.region (by kernel_rfl) (by kernel_rfl) ?_
            try dsimp only [List.append]
            repeat (go_big_quiet_step ((first | (go_at_call 100; with_reducible exact Hd.HW.d (spec_Max.calls a0_0 a0_2 t175 _ A19.out)) | (go_at_call 134; with_reducible exact Hd.HW.d (spec_Min.calls a1_0 a1_2 t176 _ A20.out)))))
            refine wpQuiet_nil ?_
            intro _ hq_
            obtain ⟨q_, rfl⟩ := hq_
            clear s0_ s1_ s2_ s3_ s4_ s5_ s6_ s7_
            replace BK171 := Aside0.mk (blk_below BK171.out q_.b)
            replace BK172 := Aside0.mk (blk_below BK172.out q_.b)
            replace HB := Aside0.mk (below_step HB.out q_.b)
            generalize q_.W = w22 at BK171 BK172 HB ⊢
            try simp only [i64_w, i32_w]
            try go_wp2
            go_meet
            case rel => exact ⟨_, (true), (by first | rfl | (simp; done) | (simp [*]; done)), H', ⟨by have := HJ2.out; first | omega | exact Nat.le_refl _⟩, ⟨by (with_reducible repeat (first | refine blk_drewN ?_ _ | refine blk_drew ?_ | refine blk_alloc ?_ _)); exact BK171.out⟩, ⟨by (with_reducible repeat (first | refine blk_drewN ?_ _ | refine blk_drew ?_ | refine blk_alloc ?_ _)); exact BK172.out⟩, ⟨by repeat (first | (with_reducible first | exact HB.out | apply below_alloc | apply pw_below_drewN | apply below_drew1 | refine below_set ?_ GE171.out | refine below_set ?_ GE172.out) | exact HB.out)⟩⟩
          · rw [if_neg c21] at H
            have c21b0 : decide (t175 < t176) = false := decide_eq_false c21
            clear c21
            (first | rw [c21b0] | (simp only [i64_w, i32_w]; rw [c21b0]) | skip)
            replace H := Option.bind_eq_some_iff.mp H
            obtain ⟨t177, A230, H⟩ := H
            replace H : ((spec_Min.f a0_0 a0_2).bind fun t178 => (if t177 < t178 then (spec_HowMeet.j1 kj2 true a0_0 a0_1 a0_2 a0_3 a1_0 a1_1 a1_2 a1_3) else ((spec_Max.f a0_1 a0_3).bind fun t179 => ((spec_Min.f a1_1 a1_3).bind fun t180 => (if t179 < t180 then (spec_HowMeet.j1 kj2 true a0_0 a0_1 a0_2 a0_3 a1_0 a1_1 a1_2 a1_3) else ((spec_Max.f a1_1 a1_3).bind fun t181 => ((spec_Min.f a0_1 a0_3).bind fun t182 => (spec_HowMeet.j1 kj2 (decide (t181 < t182)) a0_0 a0_1 a0_2 a0_3 a1_0 a1_1 a1_2 a1_3)))))))) = some r := H
            have A23 := Aside0.mk A230
            clear A230
            replace H := Option.bind_eq_some_iff.mp H
            obtain ⟨t178, A240, H⟩ := H
            replace H : (if t177 < t178 then (spec_HowMeet.j1 kj2 true a0_0 a0_1 a0_2 a0_3 a1_0 a1_1 a1_2 a1_3) else ((spec_Max.f a0_1 a0_3).bind fun t179 => ((spec_Min.f a1_1 a1_3).bind fun t180 => (if t179 < t180 then (spec_HowMeet.j1 kj2 true a0_0 a0_1 a0_2 a0_3 a1_0 a1_1 a1_2 a1_3) else ((spec_Max.f a1_1 a1_3).bind fun t181 => ((spec_Min.f a0_1 a0_3).bind fun t182 => (spec_HowMeet.j1 kj2 (decide (t181 < t182)) a0_0 a0_1 a0_2 a0_3 a1_0 a1_1 a1_2 a1_3))))))) = some r := H
            have A24 := Aside0.mk A240
            clear A240
            by_cases c25 : t177 < t178
            · rw [if_pos c25] at H
              have c25b0 : decide (t177 < t178) = true := decide_eq_true c25
              clear c25
              have H' := Aside0.mk H
              clear H
              try go_wp2
              have n0_ := Aside0.mk (blk_drew BK171.out)
              have n1_ := Aside0.mk (blk_drew BK172.out)
              have n2_ := Aside0.mk (below_drew1 HB.out)
              clear BK171
              clear BK172
              clear HB
              have BK171 := n0_
              have BK172 := n1_
              have HB := n2_
              clear n0_ n1_ n2_
              have S_ : (fun w' : World => w'.cell? ⟨gb171, 0, none⟩ = some (.int .i64 a0_0) ∧ w'.cell? ⟨gb171, 1, none⟩ = some (.int .i64 a0_1) ∧ w'.cell? ⟨gb171, 2, none⟩ = some (.int .i64 a0_2) ∧ w'.cell? ⟨gb171, 3, none⟩ = some (.int .i64 a0_3) ∧ w'.cell? ⟨gb172, 0, none⟩ = some (.int .i64 a1_0) ∧ w'.cell? ⟨gb172, 1, none⟩ = some (.int .i64 a1_1) ∧ w'.cell? ⟨gb172, 2, none⟩ = some (.int .i64 a1_2) ∧ w'.cell? ⟨gb172, 3, none⟩ = some (.int .i64 a1_3)) wc.drew := ⟨(blk_cell BK171.out 0).trans rfl, (blk_cell BK171.out 1).trans rfl, (blk_cell BK171.out 2).trans rfl, (blk_cell BK171.out 3).trans rfl, (blk_cell BK172.out 0).trans rfl, (blk_cell BK172.out 1).trans rfl, (blk_cell BK172.out 2).trans rfl, (blk_cell BK172.out 3).trans rfl⟩
              obtain ⟨s0_, s1_, s2_, s3_, s4_, s5_, s6_, s7_⟩ := S_
              replace s0_ := fun q : Hd.HW wc.drew => q.cell s0_
              replace s1_ := fun q : Hd.HW wc.drew => q.cell s1_
              replace s2_ := fun q : Hd.HW wc.drew => q.cell s2_
              replace s3_ := fun q : Hd.HW wc.drew => q.cell s3_
              replace s4_ := fun q : Hd.HW wc.drew => q.cell s4_
              replace s5_ := fun q : Hd.HW wc.drew => q.cell s5_
              replace s6_ := fun q : Hd.HW wc.drew => q.cell s6_
              replace s7_ := fun q : Hd.HW wc.drew => q.cell s7_
              refine Hd.HW.region (by kernel_rfl) (by kernel_rfl) ?_
              try dsimp only [List.append]
              repeat (go_big_quiet_step ((first | (go_at_call 100; with_reducible exact Hd.HW.d (spec_Max.calls a0_0 a0_2 t175 _ A19.out)) | (go_at_call 134; with_reducible exact Hd.HW.d (spec_Min.calls a1_0 a1_2 t176 _ A20.out)) | (go_at_call 100; with_reducible exact Hd.HW.d (spec_Max.calls a1_0 a1_2 t177 _ A23.out)) | (go_at_call 134; with_reducible exact Hd.HW.d (spec_Min.calls a0_0 a0_2 t178 _ A24.out)))))
              refine wpQuiet_nil ?_
              intro _ hq_
              obtain ⟨q_, rfl⟩ := hq_
              clear s0_ s1_ s2_ s3_ s4_ s5_ s6_ s7_
              replace BK171 := Aside0.mk (blk_below BK171.out q_.b)
              replace BK172 := Aside0.mk (blk_below BK172.out q_.b)
              replace HB := Aside0.mk (below_step HB.out q_.b)
              generalize q_.W = w26 at BK171 BK172 HB ⊢
              try simp only [i64_w, i32_w]
              try go_wp2
              go_meet
              case rel => exact ⟨_, (true), (by first | rfl | (simp; done) | (simp [*]; done)), H', ⟨by have := HJ2.out; first | omega | exact Nat.le_refl _⟩, ⟨by (with_reducible repeat (first | refine blk_drewN ?_ _ | refine blk_drew ?_ | refine blk_alloc ?_ _)); exact BK171.out⟩, ⟨by (with_reducible repeat (first | refine blk_drewN ?_ _ | refine blk_drew ?_ | refine blk_alloc ?_ _)); exact BK172.out⟩, ⟨by repeat (first | (with_reducible first | exact HB.out | apply below_alloc | apply pw_below_drewN | apply below_drew1 | refine below_set ?_ GE171.out | refine below_set ?_ GE172.out) | exact HB.out)⟩⟩
            · rw [if_neg c25] at H
              have c25b0 : decide (t177 < t178) = false := decide_eq_false c25
              clear c25
              replace H := Option.bind_eq_some_iff.mp H
              obtain ⟨t179, A270, H⟩ := H
              replace H : ((spec_Min.f a1_1 a1_3).bind fun t180 => (if t179 < t180 then (spec_HowMeet.j1 kj2 true a0_0 a0_1 a0_2 a0_3 a1_0 a1_1 a1_2 a1_3) else ((spec_Max.f a1_1 a1_3).bind fun t181 => ((spec_Min.f a0_1 a0_3).bind fun t182 => (spec_HowMeet.j1 kj2 (decide (t181 < t182)) a0_0 a0_1 a0_2 a0_3 a1_0 a1_1 a1_2 a1_3))))) = some r := H
              have A27 := Aside0.mk A270
              clear A270
              replace H := Option.bind_eq_some_iff.mp H
              obtain ⟨t180, A280, H⟩ := H
              replace H : (if t179 < t180 then (spec_HowMeet.j1 kj2 true a0_0 a0_1 a0_2 a0_3 a1_0 a1_1 a1_2 a1_3) else ((spec_Max.f a1_1 a1_3).bind fun t181 => ((spec_Min.f a0_1 a0_3).bind fun t182 => (spec_HowMeet.j1 kj2 (decide (t181 < t182)) a0_0 a0_1 a0_2 a0_3 a1_0 a1_1 a1_2 a1_3)))) = some r := H
              have A28 := Aside0.mk A280
              clear A280
              by_cases c29 : t179 < t180
              · rw [if_pos c29] at H
                have c29b0 : decide (t179 < t180) = true := decide_eq_true c29
                clear c29
                have H' := Aside0.mk H
                clear H
                try go_wp2
                have n0_ := Aside0.mk (blk_drew BK171.out)
                have n1_ := Aside0.mk (blk_drew BK172.out)
                have n2_ := Aside0.mk (below_drew1 HB.out)
                clear BK171
                clear BK172
                clear HB
                have BK171 := n0_
                have BK172 := n1_
                have HB := n2_
                clear n0_ n1_ n2_
                have S_ : (fun w' : World => w'.cell? ⟨gb171, 0, none⟩ = some (.int .i64 a0_0) ∧ w'.cell? ⟨gb171, 1, none⟩ = some (.int .i64 a0_1) ∧ w'.cell? ⟨gb171, 2, none⟩ = some (.int .i64 a0_2) ∧ w'.cell? ⟨gb171, 3, none⟩ = some (.int .i64 a0_3) ∧ w'.cell? ⟨gb172, 0, none⟩ = some (.int .i64 a1_0) ∧ w'.cell? ⟨gb172, 1, none⟩ = some (.int .i64 a1_1) ∧ w'.cell? ⟨gb172, 2, none⟩ = some (.int .i64 a1_2) ∧ w'.cell? ⟨gb172, 3, none⟩ = some (.int .i64 a1_3)) wc.drew := ⟨(blk_cell BK171.out 0).trans rfl, (blk_cell BK171.out 1).trans rfl, (blk_cell BK171.out 2).trans rfl, (blk_cell BK171.out 3).trans rfl, (blk_cell BK172.out 0).trans rfl, (blk_cell BK172.out 1).trans rfl, (blk_cell BK172.out 2).trans rfl, (blk_cell BK172.out 3).trans rfl⟩
                obtain ⟨s0_, s1_, s2_, s3_, s4_, s5_, s6_, s7_⟩ := S_
                replace s0_ := fun q : Hd.HW wc.drew => q.cell s0_
                replace s1_ := fun q : Hd.HW wc.drew => q.cell s1_
                replace s2_ := fun q : Hd.HW wc.drew => q.cell s2_
                replace s3_ := fun q : Hd.HW wc.drew => q.cell s3_
                replace s4_ := fun q : Hd.HW wc.drew => q.cell s4_
                replace s5_ := fun q : Hd.HW wc.drew => q.cell s5_
                replace s6_ := fun q : Hd.HW wc.drew => q.cell s6_
                replace s7_ := fun q : Hd.HW wc.drew => q.cell s7_
                refine Hd.HW.region (by kernel_rfl) (by kernel_rfl) ?_
                try dsimp only [List.append]
                repeat (go_big_quiet_step ((first | (go_at_call 100; with_reducible exact Hd.HW.d (spec_Max.calls a0_0 a0_2 t175 _ A19.out)) | (go_at_call 134; with_reducible exact Hd.HW.d (spec_Min.calls a1_0 a1_2 t176 _ A20.out)) | (go_at_call 100; with_reducible exact Hd.HW.d (spec_Max.calls a1_0 a1_2 t177 _ A23.out)) | (go_at_call 134; with_reducible exact Hd.HW.d (spec_Min.calls a0_0 a0_2 t178 _ A24.out)) | (go_at_call 100; with_reducible exact Hd.HW.d (spec_Max.calls a0_1 a0_3 t179 _ A27.out)) | (go_at_call 134; with_reducible exact Hd.HW.d (spec_Min.calls a1_1 a1_3 t180 _ A28.out)))))
                refine wpQuiet_nil ?_
                intro _ hq_
                obtain ⟨q_, rfl⟩ := hq_
                clear s0_ s1_ s2_ s3_ s4_ s5_ s6_ s7_
                replace BK171 := Aside0.mk (blk_below BK171.out q_.b)
                replace BK172 := Aside0.mk (blk_below BK172.out q_.b)
                replace HB := Aside0.mk (below_step HB.out q_.b)
                generalize q_.W = w30 at BK171 BK172 HB ⊢
                try simp only [i64_w, i32_w]
                try go_wp2
                go_meet
                case rel => exact ⟨_, (true), (by first | rfl | (simp; done) | (simp [*]; done)), H', ⟨by have := HJ2.out; first | omega | exact Nat.le_refl _⟩, ⟨by (with_reducible repeat (first | refine blk_drewN ?_ _ | refine blk_drew ?_ | refine blk_alloc ?_ _)); exact BK171.out⟩, ⟨by (with_reducible repeat (first | refine blk_drewN ?_ _ | refine blk_drew ?_ | refine blk_alloc ?_ _)); exact BK172.out⟩, ⟨by repeat (first | (with_reducible first | exact HB.out | apply below_alloc | apply pw_below_drewN | apply below_drew1 | refine below_set ?_ GE171.out | refine below_set ?_ GE172.out) | exact HB.out)⟩⟩
              · rw [if_neg c29] at H
                have c29b0 : decide (t179 < t180) = false := decide_eq_false c29
                clear c29
                replace H := Option.bind_eq_some_iff.mp H
                obtain ⟨t181, A310, H⟩ := H
                replace H : ((spec_Min.f a0_1 a0_3).bind fun t182 => (spec_HowMeet.j1 kj2 (decide (t181 < t182)) a0_0 a0_1 a0_2 a0_3 a1_0 a1_1 a1_2 a1_3)) = some r := H
                have A31 := Aside0.mk A310
                clear A310
                replace H := Option.bind_eq_some_iff.mp H
                obtain ⟨t182, A320, H⟩ := H
                replace H : (spec_HowMeet.j1 kj2 (decide (t181 < t182)) a0_0 a0_1 a0_2 a0_3 a1_0 a1_1 a1_2 a1_3) = some r := H
                have A32 := Aside0.mk A320
                clear A320
                have H' := Aside0.mk H
                clear H
                try go_wp2
                have n0_ := Aside0.mk (blk_drew BK171.out)
                have n1_ := Aside0.mk (blk_drew BK172.out)
                have n2_ := Aside0.mk (below_drew1 HB.out)
                clear BK171
                clear BK172
                clear HB
                have BK171 := n0_
                have BK172 := n1_
                have HB := n2_
                clear n0_ n1_ n2_
                have S_ : (fun w' : World => w'.cell? ⟨gb171, 0, none⟩ = some (.int .i64 a0_0) ∧ w'.cell? ⟨gb171, 1, none⟩ = some (.int .i64 a0_1) ∧ w'.cell? ⟨gb171, 2, none⟩ = some (.int .i64 a0_2) ∧ w'.cell? ⟨gb171, 3, none⟩ = some (.int .i64 a0_3) ∧ w'.cell? ⟨gb172, 0, none⟩ = some (.int .i64 a1_0) ∧ w'.cell? ⟨gb172, 1, none⟩ = some (.int .i64 a1_1) ∧ w'.cell? ⟨gb172, 2, none⟩ = some (.int .i64 a1_2) ∧ w'.cell? ⟨gb172, 3, none⟩ = some (.int .i64 a1_3)) wc.drew := ⟨(blk_cell BK171.out 0).trans rfl, (blk_cell BK171.out 1).trans rfl, (blk_cell BK171.out 2).trans rfl, (blk_cell BK171.out 3).trans rfl, (blk_cell BK172.out 0).trans rfl, (blk_cell BK172.out 1).trans rfl, (blk_cell BK172.out 2).trans rfl, (blk_cell BK172.out 3).trans rfl⟩
                obtain ⟨s0_, s1_, s2_, s3_, s4_, s5_, s6_, s7_⟩ := S_
                replace s0_ := fun q : Hd.HW wc.drew => q.cell s0_
                replace s1_ := fun q : Hd.HW wc.drew => q.cell s1_
                replace s2_ := fun q : Hd.HW wc.drew => q.cell s2_
                replace s3_ := fun q : Hd.HW wc.drew => q.cell s3_
                replace s4_ := fun q : Hd.HW wc.drew => q.cell s4_
                replace s5_ := fun q : Hd.HW wc.drew => q.cell s5_
                replace s6_ := fun q : Hd.HW wc.drew => q.cell s6_
                replace s7_ := fun q : Hd.HW wc.drew => q.cell s7_
                refine Hd.HW.region (by kernel_rfl) (by kernel_rfl) ?_
                try dsimp only [List.append]
                repeat (go_big_quiet_step ((first | (go_at_call 100; with_reducible exact Hd.HW.d (spec_Max.calls a0_0 a0_2 t175 _ A19.out)) | (go_at_call 134; with_reducible exact Hd.HW.d (spec_Min.calls a1_0 a1_2 t176 _ A20.out)) | (go_at_call 100; with_reducible exact Hd.HW.d (spec_Max.calls a1_0 a1_2 t177 _ A23.out)) | (go_at_call 134; with_reducible exact Hd.HW.d (spec_Min.calls a0_0 a0_2 t178 _ A24.out)) | (go_at_call 100; with_reducible exact Hd.HW.d (spec_Max.calls a0_1 a0_3 t179 _ A27.out)) | (go_at_call 134; with_reducible exact Hd.HW.d (spec_Min.calls a1_1 a1_3 t180 _ A28.out)) | (go_at_call 100; with_reducible exact Hd.HW.d (spec_Max.calls a1_1 a1_3 t181 _ A31.out)) | (go_at_call 134; with_reducible exact Hd.HW.d (spec_Min.calls a0_1 a0_3 t182 _ A32.out)))))
                refine wpQuiet_nil ?_
                intro _ hq_
                obtain ⟨q_, rfl⟩ := hq_
                clear s0_ s1_ s2_ s3_ s4_ s5_ s6_ s7_
                replace BK171 := Aside0.mk (blk_below BK171.out q_.b)
                replace BK172 := Aside0.mk (blk_below BK172.out q_.b)
                replace HB := Aside0.mk (below_step HB.out q_.b)
                generalize q_.W = w33 at BK171 BK172 HB ⊢
                try simp only [i64_w, i32_w]
                try go_wp2
                go_meet
                case rel => exact ⟨_, (decide (t181 < t182)), (by first | rfl | (simp; done) | (simp [*]; done)), H', ⟨by have := HJ2.out; first | omega | exact Nat.le_refl _⟩, ⟨by (with_reducible repeat (first | refine blk_drewN ?_ _ | refine blk_drew ?_ | refine blk_alloc ?_ _)); exact BK171.out⟩, ⟨by (with_reducible repeat (first | refine blk_drewN ?_ _ | refine blk_drew ?_ | refine blk_alloc ?_ _)); exact BK172.out⟩, ⟨by repeat (first | (with_reducible first | exact HB.out | apply below_alloc | apply pw_below_drewN | apply below_drew1 | refine below_set ?_ GE171.out | refine below_set ?_ GE172.out) | exact HB.out)⟩⟩
        case rest =>
          clear HC18
          try clear c1
          try clear c2
          try clear p2
          try clear c10
          try clear c13
          try clear c29
          try clear c29b0
          obtain ⟨kq, x78_17, rfl, HA, HJ17, BK171, BK172, HB⟩ := hcut
          cases kq with
          | zero => exact absurd HA.out (by simp [spec_HowMeet.j1])
          | succ kj17 =>
            have H := HA.out
            clear HA
            simp only [spec_HowMeet.j1] at H
            by_cases c34 : x78_17 = true
            · subst c34
              have H1 : (some 0) = some r := by rw [if_pos rfl] at H; exact H
              clear H
              have H := H1
              clear H1
              obtain rfl := Option.some.inj H
              go_wp2
              go_ret
              exact ⟨by first | rfl | (simp [errW_none, errW_some] <;> rfl) | (simp [*, errW_none, errW_some] <;> rfl), by repeat (first | (with_reducible first | exact HB.out | apply below_alloc | apply pw_below_drewN | apply below_drew1 | refine below_set ?_ GE171.out | refine below_set ?_ GE172.out) | exact HB.out)⟩
            · replace c34 := Bool.eq_false_iff.mpr c34
              subst c34
              have H1 : ((spec_l5Shared.f kj17 a0_0 a0_1 a0_2 a0_3 a1_0 a1_1 a1_2 a1_3).bind fun t183 => (if t183 = 0 then ((spec_SideOf.f kj17 a0_0 a0_1 a0_2 a0_3 a1_0 a1_1).bind fun t184 => ((spec_SideOf.f kj17 a0_0 a0_1 a0_2 a0_3 a1_2 a1_3).bind fun t185 => (if (wrap64 (t184 * t185)) < 0 then ((spec_SideOf.f kj17 a1_0 a1_1 a1_2 a1_3 a0_0 a0_1).bind fun t186 => ((spec_SideOf.f kj17 a1_0 a1_1 a1_2 a1_3 a0_2 a0_3).bind fun t187 => (if (wrap64 (t186 * t187)) < 0 then (some 2) else (some 0)))) else (some 0)))) else (if t183 = 1 then (some 1) else (some 3)))) = some r := by rw [if_neg (show ¬ (false = true) by decide)] at H; exact H
              clear H
              have H := H1
              clear H1
              replace H := Option.bind_eq_some_iff.mp H
              obtain ⟨t183, A350, H⟩ := H
              replace H : (if t183 = 0 then ((spec_SideOf.f kj17 a0_0 a0_1 a0_2 a0_3 a1_0 a1_1).bind fun t184 => ((spec_SideOf.f kj17 a0_0 a0_1 a0_2 a0_3 a1_2 a1_3).bind fun t185 => (if (wrap64 (t184 * t185)) < 0 then ((spec_SideOf.f kj17 a1_0 a1_1 a1_2 a1_3 a0_0 a0_1).bind fun t186 => ((spec_SideOf.f kj17 a1_0 a1_1 a1_2 a1_3 a0_2 a0_3).bind fun t187 => (if (wrap64 (t186 * t187)) < 0 then (some 2) else (some 0)))) else (some 0)))) else (if t183 = 1 then (some 1) else (some 3))) = some r := H
              have A35 := Aside0.mk A350
              clear A350
              by_cases c36 : t183 = 0
              · rw [if_pos c36] at H
                have c36b0 : (t183 == 0) = true := beq_iff_eq.mpr c36
                have c36b1 : (t183 != 0) = false := bne_eq_false_iff_eq.mpr c36
                clear c36
                replace H := Option.bind_eq_some_iff.mp H
                obtain ⟨t184, A370, H⟩ := H
                replace H : ((spec_SideOf.f kj17 a0_0 a0_1 a0_2 a0_3 a1_2 a1_3).bind fun t185 => (if (wrap64 (t184 * t185)) < 0 then ((spec_SideOf.f kj17 a1_0 a1_1 a1_2 a1_3 a0_0 a0_1).bind fun t186 => ((spec_SideOf.f kj17 a1_0 a1_1 a1_2 a1_3 a0_2 a0_3).bind fun t187 => (if (wrap64 (t186 * t187)) < 0 then (some 2) else (some 0)))) else (some 0))) = some r := H
                have A37 := Aside0.mk A370
                clear A370
                replace H := Option.bind_eq_some_iff.mp H
                obtain ⟨t185, A380, H⟩ := H
                replace H : (if (wrap64 (t184 * t185)) < 0 then ((spec_SideOf.f kj17 a1_0 a1_1 a1_2 a1_3 a0_0 a0_1).bind fun t186 => ((spec_SideOf.f kj17 a1_0 a1_1 a1_2 a1_3 a0_2 a0_3).bind fun t187 => (if (wrap64 (t186 * t187)) < 0 then (some 2) else (some 0)))) else (some 0)) = some r := H
                have A38 := Aside0.mk A380
                clear A380
                by_cases c39 : (wrap64 (t184 * t185)) < 0
                · rw [if_pos c39] at H
                  have c39b0 : decide ((wrap64 (t184 * t185)) < 0) = true := decide_eq_true c39
                  clear c39
                  replace H := Option.bind_eq_some_iff.mp H
                  obtain ⟨t186, A400, H⟩ := H
                  replace H : ((spec_SideOf.f kj17 a1_0 a1_1 a1_2 a1_3 a0_2 a0_3).bind fun t187 => (if (wrap64 (t186 * t187)) < 0 then (some 2) else (some 0))) = some r := H
                  have A40 := Aside0.mk A400
                  clear A400
                  replace H := Option.bind_eq_some_iff.mp H
                  obtain ⟨t187, A410, H⟩ := H
                  replace H : (if (wrap64 (t186 * t187)) < 0 then (some 2) else (some 0)) = some r := H
                  have A41 := Aside0.mk A410
                  clear A410
                  by_cases c42 : (wrap64 (t186 * t187)) < 0
                  · rw [if_pos c42] at H
                    have c42b0 : decide ((wrap64 (t186 * t187)) < 0) = true := decide_eq_true c42
                    clear c42
                    obtain rfl := Option.some.inj H
                    have hnb43 := NB171_172.out
                    have hnc43 := NB172_171.out
                    have hcz44_0 : wc.cell? ⟨gb171, 0, none⟩ = some (.int .i64 a0_0) := (blk_cell BK171.out 0).trans rfl
                    have hcz44_1 : wc.cell? ⟨gb171, 1, none⟩ = some (.int .i64 a0_1) := (blk_cell BK171.out 1).trans rfl
                    have hcz44_2 : wc.cell? ⟨gb171, 2, none⟩ = some (.int .i64 a0_2) := (blk_cell BK171.out 2).trans rfl
                    have hcz44_3 : wc.cell? ⟨gb171, 3, none⟩ = some (.int .i64 a0_3) := (blk_cell BK171.out 3).trans rfl
                    have hfz44_0 := blk_frozen BK171.out 0
                    have hfz44_1 := blk_frozen BK171.out 1
                    have hfz44_2 := blk_frozen BK171.out 2
                    have hfz44_3 := blk_frozen BK171.out 3
                    have hcz45_0 : wc.cell? ⟨gb172, 0, none⟩ = some (.int .i64 a1_0) := (blk_cell BK172.out 0).trans rfl
                    have hcz45_1 : wc.cell? ⟨gb172, 1, none⟩ = some (.int .i64 a1_1) := (blk_cell BK172.out 1).trans rfl
                    have hcz45_2 : wc.cell? ⟨gb172, 2, none⟩ = some (.int .i64 a1_2) := (blk_cell BK172.out 2).trans rfl
                    have hcz45_3 : wc.cell? ⟨gb172, 3, none⟩ = some (.int .i64 a1_3) := (blk_cell BK172.out 3).trans rfl
                    have hfz45_0 := blk_frozen BK172.out 0
                    have hfz45_1 := blk_frozen BK172.out 1
                    have hfz45_2 := blk_frozen BK172.out 2
                    have hfz45_3 := blk_frozen BK172.out 3
                    try go_wp2_with (first | ((with_reducible refine gate_callee (f := 136) rfl ?_); refine goesL_ (some 81) rfl rfl Try.func136 (by kernel_rfl) rfl #[.agg #[.int .i64 a0_0, .int .i64 a0_1, .int .i64 a0_2, .int .i64 a0_3], .agg #[.int .i64 a1_0, .int .i64 a1_1, .int .i64 a1_2, .int .i64 a1_3]] rfl (by (try simp only [List.map_toArray, List.map_cons, List.map_nil]); first | done | rfl | (simp only [List.length_drop, List.length_take]; rfl)) ?_; (with_reducible refine (spec_l5Shared.calls kj17 a0_0 a0_1 a0_2 a0_3 a1_0 a1_1 a1_2 a1_3 t183 _ A35.out).mono ?_); rintro e w46 ⟨rfl, hb⟩; refine ⟨_, rfl, ?_⟩; have n0_ := Aside0.mk (blk_below (g := gb171) (o := .cells #[.int .i64 a0_0, .int .i64 a0_1, .int .i64 a0_2, .int .i64 a0_3] 60 (0, 0)) (by (with_reducible repeat (first | refine blk_drewN ?_ _ | refine blk_drew ?_ | refine blk_alloc ?_ _)); exact BK171.out) hb); have n1_ := Aside0.mk (blk_below (g := gb172) (o := .cells #[.int .i64 a1_0, .int .i64 a1_1, .int .i64 a1_2, .int .i64 a1_3] 60 (0, 0)) (by (with_reducible repeat (first | refine blk_drewN ?_ _ | refine blk_drew ?_ | refine blk_alloc ?_ _)); exact BK172.out) hb); have n2_ := Aside0.mk (below_step (by repeat (first | (with_reducible first | exact HB.out | apply below_alloc | apply pw_below_drewN | apply below_drew1 | refine below_set ?_ GE171.out | refine below_set ?_ GE172.out) | exact HB.out)) hb); clear BK171; clear BK172; clear HB; have BK171 := n0_; have BK172 := n1_; have HB := n2_; clear n0_ n1_ n2_; (try clear hb); (try clear hb2); (try clear hk); (try clear hi)))
                    have n0_ := Aside0.mk (blk_drew BK171.out)
                    have n1_ := Aside0.mk (blk_drew BK172.out)
                    have n2_ := Aside0.mk (below_drew1 HB.out)
                    clear BK171
                    clear BK172
                    clear HB
                    have BK171 := n0_
                    have BK172 := n1_
                    have HB := n2_
                    clear n0_ n1_ n2_
                    have S_ : (fun w' : World => w'.cell? ⟨gb171, 0, none⟩ = some (.int .i64 a0_0) ∧ w'.cell? ⟨gb171, 1, none⟩ = some (.int .i64 a0_1) ∧ w'.cell? ⟨gb171, 2, none⟩ = some (.int .i64 a0_2) ∧ w'.cell? ⟨gb171, 3, none⟩ = some (.int .i64 a0_3) ∧ w'.cell? ⟨gb172, 0, none⟩ = some (.int .i64 a1_0) ∧ w'.cell? ⟨gb172, 1, none⟩ = some (.int .i64 a1_1) ∧ w'.cell? ⟨gb172, 2, none⟩ = some (.int .i64 a1_2) ∧ w'.cell? ⟨gb172, 3, none⟩ = some (.int .i64 a1_3)) w46.drew := ⟨(blk_cell BK171.out 0).trans rfl, (blk_cell BK171.out 1).trans rfl, (blk_cell BK171.out 2).trans rfl, (blk_cell BK171.out 3).trans rfl, (blk_cell BK172.out 0).trans rfl, (blk_cell BK172.out 1).trans rfl, (blk_cell BK172.out 2).trans rfl, (blk_cell BK172.out 3).trans rfl⟩
                    obtain ⟨s0_, s1_, s2_, s3_, s4_, s5_, s6_, s7_⟩ := S_
                    replace s0_ := fun q : Hd.HW w46.drew => q.cell s0_
                    replace s1_ := fun q : Hd.HW w46.drew => q.cell s1_
                    replace s2_ := fun q : Hd.HW w46.drew => q.cell s2_
                    replace s3_ := fun q : Hd.HW w46.drew => q.cell s3_
                    replace s4_ := fun q : Hd.HW w46.drew => q.cell s4_
                    replace s5_ := fun q : Hd.HW w46.drew => q.cell s5_
                    replace s6_ := fun q : Hd.HW w46.drew => q.cell s6_
                    replace s7_ := fun q : Hd.HW w46.drew => q.cell s7_
                    refine Hd.HW.region (by kernel_rfl) (by kernel_rfl) ?_
                    try dsimp only [List.append]
                    repeat (go_big_quiet_step ((first | (go_at_call 137; with_reducible exact Hd.HW.c (spec_SideOf.calls kj17 a0_0 a0_1 a0_2 a0_3 a1_0 a1_1 t184 _ A37.out)) | (go_at_call 137; with_reducible exact Hd.HW.c (spec_SideOf.calls kj17 a0_0 a0_1 a0_2 a0_3 a1_2 a1_3 t185 _ A38.out)) | (go_at_call 137; with_reducible exact Hd.HW.c (spec_SideOf.calls kj17 a1_0 a1_1 a1_2 a1_3 a0_0 a0_1 t186 _ A40.out)) | (go_at_call 137; with_reducible exact Hd.HW.c (spec_SideOf.calls kj17 a1_0 a1_1 a1_2 a1_3 a0_2 a0_3 t187 _ A41.out)))))
                    refine wpQuiet_nil ?_
                    intro _ hq_
                    obtain ⟨q_, rfl⟩ := hq_
                    clear s0_ s1_ s2_ s3_ s4_ s5_ s6_ s7_
                    replace BK171 := Aside0.mk (blk_below BK171.out q_.b)
                    replace BK172 := Aside0.mk (blk_below BK172.out q_.b)
                    replace HB := Aside0.mk (below_step HB.out q_.b)
                    generalize q_.W = w51 at BK171 BK172 HB ⊢
                    try simp only [i64_w, i32_w]
                    try go_wp2
                    go_ret
                    exact ⟨by first | rfl | (simp [errW_none, errW_some] <;> rfl) | (simp [*, errW_none, errW_some] <;> rfl), by repeat (first | (with_reducible first | exact HB.out | apply below_alloc | apply pw_below_drewN | apply below_drew1 | refine below_set ?_ GE171.out | refine below_set ?_ GE172.out) | exact HB.out)⟩
                  · rw [if_neg c42] at H
                    have c42b0 : decide ((wrap64 (t186 * t187)) < 0) = false := decide_eq_false c42
                    clear c42
                    obtain rfl := Option.some.inj H
                    have hnb52 := NB171_172.out
                    have hnc52 := NB172_171.out
                    have hcz53_0 : wc.cell? ⟨gb171, 0, none⟩ = some (.int .i64 a0_0) := (blk_cell BK171.out 0).trans rfl
                    have hcz53_1 : wc.cell? ⟨gb171, 1, none⟩ = some (.int .i64 a0_1) := (blk_cell BK171.out 1).trans rfl
                    have hcz53_2 : wc.cell? ⟨gb171, 2, none⟩ = some (.int .i64 a0_2) := (blk_cell BK171.out 2).trans rfl
                    have hcz53_3 : wc.cell? ⟨gb171, 3, none⟩ = some (.int .i64 a0_3) := (blk_cell BK171.out 3).trans rfl
                    have hfz53_0 := blk_frozen BK171.out 0
                    have hfz53_1 := blk_frozen BK171.out 1
                    have hfz53_2 := blk_frozen BK171.out 2
                    have hfz53_3 := blk_frozen BK171.out 3
                    have hcz54_0 : wc.cell? ⟨gb172, 0, none⟩ = some (.int .i64 a1_0) := (blk_cell BK172.out 0).trans rfl
                    have hcz54_1 : wc.cell? ⟨gb172, 1, none⟩ = some (.int .i64 a1_1) := (blk_cell BK172.out 1).trans rfl
                    have hcz54_2 : wc.cell? ⟨gb172, 2, none⟩ = some (.int .i64 a1_2) := (blk_cell BK172.out 2).trans rfl
                    have hcz54_3 : wc.cell? ⟨gb172, 3, none⟩ = some (.int .i64 a1_3) := (blk_cell BK172.out 3).trans rfl
                    have hfz54_0 := blk_frozen BK172.out 0
                    have hfz54_1 := blk_frozen BK172.out 1
                    have hfz54_2 := blk_frozen BK172.out 2
                    have hfz54_3 := blk_frozen BK172.out 3
                    try go_wp2_with (first | ((with_reducible refine gate_callee (f := 136) rfl ?_); refine goesL_ (some 81) rfl rfl Try.func136 (by kernel_rfl) rfl #[.agg #[.int .i64 a0_0, .int .i64 a0_1, .int .i64 a0_2, .int .i64 a0_3], .agg #[.int .i64 a1_0, .int .i64 a1_1, .int .i64 a1_2, .int .i64 a1_3]] rfl (by (try simp only [List.map_toArray, List.map_cons, List.map_nil]); first | done | rfl | (simp only [List.length_drop, List.length_take]; rfl)) ?_; (with_reducible refine (spec_l5Shared.calls kj17 a0_0 a0_1 a0_2 a0_3 a1_0 a1_1 a1_2 a1_3 t183 _ A35.out).mono ?_); rintro e w55 ⟨rfl, hb⟩; refine ⟨_, rfl, ?_⟩; have n0_ := Aside0.mk (blk_below (g := gb171) (o := .cells #[.int .i64 a0_0, .int .i64 a0_1, .int .i64 a0_2, .int .i64 a0_3] 60 (0, 0)) (by (with_reducible repeat (first | refine blk_drewN ?_ _ | refine blk_drew ?_ | refine blk_alloc ?_ _)); exact BK171.out) hb); have n1_ := Aside0.mk (blk_below (g := gb172) (o := .cells #[.int .i64 a1_0, .int .i64 a1_1, .int .i64 a1_2, .int .i64 a1_3] 60 (0, 0)) (by (with_reducible repeat (first | refine blk_drewN ?_ _ | refine blk_drew ?_ | refine blk_alloc ?_ _)); exact BK172.out) hb); have n2_ := Aside0.mk (below_step (by repeat (first | (with_reducible first | exact HB.out | apply below_alloc | apply pw_below_drewN | apply below_drew1 | refine below_set ?_ GE171.out | refine below_set ?_ GE172.out) | exact HB.out)) hb); clear BK171; clear BK172; clear HB; have BK171 := n0_; have BK172 := n1_; have HB := n2_; clear n0_ n1_ n2_; (try clear hb); (try clear hb2); (try clear hk); (try clear hi)))
                    have n0_ := Aside0.mk (blk_drew BK171.out)
                    have n1_ := Aside0.mk (blk_drew BK172.out)
                    have n2_ := Aside0.mk (below_drew1 HB.out)
                    clear BK171
                    clear BK172
                    clear HB
                    have BK171 := n0_
                    have BK172 := n1_
                    have HB := n2_
                    clear n0_ n1_ n2_
                    have S_ : (fun w' : World => w'.cell? ⟨gb171, 0, none⟩ = some (.int .i64 a0_0) ∧ w'.cell? ⟨gb171, 1, none⟩ = some (.int .i64 a0_1) ∧ w'.cell? ⟨gb171, 2, none⟩ = some (.int .i64 a0_2) ∧ w'.cell? ⟨gb171, 3, none⟩ = some (.int .i64 a0_3) ∧ w'.cell? ⟨gb172, 0, none⟩ = some (.int .i64 a1_0) ∧ w'.cell? ⟨gb172, 1, none⟩ = some (.int .i64 a1_1) ∧ w'.cell? ⟨gb172, 2, none⟩ = some (.int .i64 a1_2) ∧ w'.cell? ⟨gb172, 3, none⟩ = some (.int .i64 a1_3)) w55.drew := ⟨(blk_cell BK171.out 0).trans rfl, (blk_cell BK171.out 1).trans rfl, (blk_cell BK171.out 2).trans rfl, (blk_cell BK171.out 3).trans rfl, (blk_cell BK172.out 0).trans rfl, (blk_cell BK172.out 1).trans rfl, (blk_cell BK172.out 2).trans rfl, (blk_cell BK172.out 3).trans rfl⟩
                    obtain ⟨s0_, s1_, s2_, s3_, s4_, s5_, s6_, s7_⟩ := S_
                    replace s0_ := fun q : Hd.HW w55.drew => q.cell s0_
                    replace s1_ := fun q : Hd.HW w55.drew => q.cell s1_
                    replace s2_ := fun q : Hd.HW w55.drew => q.cell s2_
                    replace s3_ := fun q : Hd.HW w55.drew => q.cell s3_
                    replace s4_ := fun q : Hd.HW w55.drew => q.cell s4_
                    replace s5_ := fun q : Hd.HW w55.drew => q.cell s5_
                    replace s6_ := fun q : Hd.HW w55.drew => q.cell s6_
                    replace s7_ := fun q : Hd.HW w55.drew => q.cell s7_
                    refine Hd.HW.region (by kernel_rfl) (by kernel_rfl) ?_
                    try dsimp only [List.append]
                    repeat (go_big_quiet_step ((first | (go_at_call 137; with_reducible exact Hd.HW.c (spec_SideOf.calls kj17 a0_0 a0_1 a0_2 a0_3 a1_0 a1_1 t184 _ A37.out)) | (go_at_call 137; with_reducible exact Hd.HW.c (spec_SideOf.calls kj17 a0_0 a0_1 a0_2 a0_3 a1_2 a1_3 t185 _ A38.out)) | (go_at_call 137; with_reducible exact Hd.HW.c (spec_SideOf.calls kj17 a1_0 a1_1 a1_2 a1_3 a0_0 a0_1 t186 _ A40.out)) | (go_at_call 137; with_reducible exact Hd.HW.c (spec_SideOf.calls kj17 a1_0 a1_1 a1_2 a1_3 a0_2 a0_3 t187 _ A41.out)))))
                    refine wpQuiet_nil ?_
                    intro _ hq_
                    obtain ⟨q_, rfl⟩ := hq_
                    clear s0_ s1_ s2_ s3_ s4_ s5_ s6_ s7_
                    replace BK171 := Aside0.mk (blk_below BK171.out q_.b)
                    replace BK172 := Aside0.mk (blk_below BK172.out q_.b)
                    replace HB := Aside0.mk (below_step HB.out q_.b)
                    generalize q_.W = w60 at BK171 BK172 HB ⊢
                    try simp only [i64_w, i32_w]
                    try go_wp2
                    go_ret
                    exact ⟨by first | rfl | (simp [errW_none, errW_some] <;> rfl) | (simp [*, errW_none, errW_some] <;> rfl), by repeat (first | (with_reducible first | exact HB.out | apply below_alloc | apply pw_below_drewN | apply below_drew1 | refine below_set ?_ GE171.out | refine below_set ?_ GE172.out) | exact HB.out)⟩
                · rw [if_neg c39] at H
                  have c39b0 : decide ((wrap64 (t184 * t185)) < 0) = false := decide_eq_false c39
                  clear c39
                  obtain rfl := Option.some.inj H
                  have hnb61 := NB171_172.out
                  have hnc61 := NB172_171.out
                  have hcz62_0 : wc.cell? ⟨gb171, 0, none⟩ = some (.int .i64 a0_0) := (blk_cell BK171.out 0).trans rfl
                  have hcz62_1 : wc.cell? ⟨gb171, 1, none⟩ = some (.int .i64 a0_1) := (blk_cell BK171.out 1).trans rfl
                  have hcz62_2 : wc.cell? ⟨gb171, 2, none⟩ = some (.int .i64 a0_2) := (blk_cell BK171.out 2).trans rfl
                  have hcz62_3 : wc.cell? ⟨gb171, 3, none⟩ = some (.int .i64 a0_3) := (blk_cell BK171.out 3).trans rfl
                  have hfz62_0 := blk_frozen BK171.out 0
                  have hfz62_1 := blk_frozen BK171.out 1
                  have hfz62_2 := blk_frozen BK171.out 2
                  have hfz62_3 := blk_frozen BK171.out 3
                  have hcz63_0 : wc.cell? ⟨gb172, 0, none⟩ = some (.int .i64 a1_0) := (blk_cell BK172.out 0).trans rfl
                  have hcz63_1 : wc.cell? ⟨gb172, 1, none⟩ = some (.int .i64 a1_1) := (blk_cell BK172.out 1).trans rfl
                  have hcz63_2 : wc.cell? ⟨gb172, 2, none⟩ = some (.int .i64 a1_2) := (blk_cell BK172.out 2).trans rfl
                  have hcz63_3 : wc.cell? ⟨gb172, 3, none⟩ = some (.int .i64 a1_3) := (blk_cell BK172.out 3).trans rfl
                  have hfz63_0 := blk_frozen BK172.out 0
                  have hfz63_1 := blk_frozen BK172.out 1
                  have hfz63_2 := blk_frozen BK172.out 2
                  have hfz63_3 := blk_frozen BK172.out 3
                  try go_wp2_with (first | ((with_reducible refine gate_callee (f := 136) rfl ?_); refine goesL_ (some 81) rfl rfl Try.func136 (by kernel_rfl) rfl #[.agg #[.int .i64 a0_0, .int .i64 a0_1, .int .i64 a0_2, .int .i64 a0_3], .agg #[.int .i64 a1_0, .int .i64 a1_1, .int .i64 a1_2, .int .i64 a1_3]] rfl (by (try simp only [List.map_toArray, List.map_cons, List.map_nil]); first | done | rfl | (simp only [List.length_drop, List.length_take]; rfl)) ?_; (with_reducible refine (spec_l5Shared.calls kj17 a0_0 a0_1 a0_2 a0_3 a1_0 a1_1 a1_2 a1_3 t183 _ A35.out).mono ?_); rintro e w64 ⟨rfl, hb⟩; refine ⟨_, rfl, ?_⟩; have n0_ := Aside0.mk (blk_below (g := gb171) (o := .cells #[.int .i64 a0_0, .int .i64 a0_1, .int .i64 a0_2, .int .i64 a0_3] 60 (0, 0)) (by (with_reducible repeat (first | refine blk_drewN ?_ _ | refine blk_drew ?_ | refine blk_alloc ?_ _)); exact BK171.out) hb); have n1_ := Aside0.mk (blk_below (g := gb172) (o := .cells #[.int .i64 a1_0, .int .i64 a1_1, .int .i64 a1_2, .int .i64 a1_3] 60 (0, 0)) (by (with_reducible repeat (first | refine blk_drewN ?_ _ | refine blk_drew ?_ | refine blk_alloc ?_ _)); exact BK172.out) hb); have n2_ := Aside0.mk (below_step (by repeat (first | (with_reducible first | exact HB.out | apply below_alloc | apply pw_below_drewN | apply below_drew1 | refine below_set ?_ GE171.out | refine below_set ?_ GE172.out) | exact HB.out)) hb); clear BK171; clear BK172; clear HB; have BK171 := n0_; have BK172 := n1_; have HB := n2_; clear n0_ n1_ n2_; (try clear hb); (try clear hb2); (try clear hk); (try clear hi)))
                  have n0_ := Aside0.mk (blk_drew BK171.out)
                  have n1_ := Aside0.mk (blk_drew BK172.out)
                  have n2_ := Aside0.mk (below_drew1 HB.out)
                  clear BK171
                  clear BK172
                  clear HB
                  have BK171 := n0_
                  have BK172 := n1_
                  have HB := n2_
                  clear n0_ n1_ n2_
                  have S_ : (fun w' : World => w'.cell? ⟨gb171, 0, none⟩ = some (.int .i64 a0_0) ∧ w'.cell? ⟨gb171, 1, none⟩ = some (.int .i64 a0_1) ∧ w'.cell? ⟨gb171, 2, none⟩ = some (.int .i64 a0_2) ∧ w'.cell? ⟨gb171, 3, none⟩ = some (.int .i64 a0_3) ∧ w'.cell? ⟨gb172, 0, none⟩ = some (.int .i64 a1_0) ∧ w'.cell? ⟨gb172, 1, none⟩ = some (.int .i64 a1_1) ∧ w'.cell? ⟨gb172, 2, none⟩ = some (.int .i64 a1_2) ∧ w'.cell? ⟨gb172, 3, none⟩ = some (.int .i64 a1_3)) w64.drew := ⟨(blk_cell BK171.out 0).trans rfl, (blk_cell BK171.out 1).trans rfl, (blk_cell BK171.out 2).trans rfl, (blk_cell BK171.out 3).trans rfl, (blk_cell BK172.out 0).trans rfl, (blk_cell BK172.out 1).trans rfl, (blk_cell BK172.out 2).trans rfl, (blk_cell BK172.out 3).trans rfl⟩
                  obtain ⟨s0_, s1_, s2_, s3_, s4_, s5_, s6_, s7_⟩ := S_
                  replace s0_ := fun q : Hd.HW w64.drew => q.cell s0_
                  replace s1_ := fun q : Hd.HW w64.drew => q.cell s1_
                  replace s2_ := fun q : Hd.HW w64.drew => q.cell s2_
                  replace s3_ := fun q : Hd.HW w64.drew => q.cell s3_
                  replace s4_ := fun q : Hd.HW w64.drew => q.cell s4_
                  replace s5_ := fun q : Hd.HW w64.drew => q.cell s5_
                  replace s6_ := fun q : Hd.HW w64.drew => q.cell s6_
                  replace s7_ := fun q : Hd.HW w64.drew => q.cell s7_
                  refine Hd.HW.region (by kernel_rfl) (by kernel_rfl) ?_
                  try dsimp only [List.append]
                  repeat (go_big_quiet_step ((first | (go_at_call 137; with_reducible exact Hd.HW.c (spec_SideOf.calls kj17 a0_0 a0_1 a0_2 a0_3 a1_0 a1_1 t184 _ A37.out)) | (go_at_call 137; with_reducible exact Hd.HW.c (spec_SideOf.calls kj17 a0_0 a0_1 a0_2 a0_3 a1_2 a1_3 t185 _ A38.out)))))
                  refine wpQuiet_nil ?_
                  intro _ hq_
                  obtain ⟨q_, rfl⟩ := hq_
                  clear s0_ s1_ s2_ s3_ s4_ s5_ s6_ s7_
                  replace BK171 := Aside0.mk (blk_below BK171.out q_.b)
                  replace BK172 := Aside0.mk (blk_below BK172.out q_.b)
                  replace HB := Aside0.mk (below_step HB.out q_.b)
                  generalize q_.W = w67 at BK171 BK172 HB ⊢
                  try simp only [i64_w, i32_w]
                  try go_wp2
                  go_ret
                  exact ⟨by first | rfl | (simp [errW_none, errW_some] <;> rfl) | (simp [*, errW_none, errW_some] <;> rfl), by repeat (first | (with_reducible first | exact HB.out | apply below_alloc | apply pw_below_drewN | apply below_drew1 | refine below_set ?_ GE171.out | refine below_set ?_ GE172.out) | exact HB.out)⟩
              · rw [if_neg c36] at H
                have c36b0 : (t183 == 0) = false := beq_eq_false_iff_ne.mpr c36
                have c36b1 : (t183 != 0) = true := bne_iff_ne.mpr c36
                by_cases c68 : t183 = 1
                · rw [if_pos c68] at H
                  have c68b0 : (t183 == 1) = true := beq_iff_eq.mpr c68
                  have c68b1 : (t183 != 1) = false := bne_eq_false_iff_eq.mpr c68
                  clear c68
                  obtain rfl := Option.some.inj H
                  have hnb69 := NB171_172.out
                  have hnc69 := NB172_171.out
                  have hcz70_0 : wc.cell? ⟨gb171, 0, none⟩ = some (.int .i64 a0_0) := (blk_cell BK171.out 0).trans rfl
                  have hcz70_1 : wc.cell? ⟨gb171, 1, none⟩ = some (.int .i64 a0_1) := (blk_cell BK171.out 1).trans rfl
                  have hcz70_2 : wc.cell? ⟨gb171, 2, none⟩ = some (.int .i64 a0_2) := (blk_cell BK171.out 2).trans rfl
                  have hcz70_3 : wc.cell? ⟨gb171, 3, none⟩ = some (.int .i64 a0_3) := (blk_cell BK171.out 3).trans rfl
                  have hfz70_0 := blk_frozen BK171.out 0
                  have hfz70_1 := blk_frozen BK171.out 1
                  have hfz70_2 := blk_frozen BK171.out 2
                  have hfz70_3 := blk_frozen BK171.out 3
                  have hcz71_0 : wc.cell? ⟨gb172, 0, none⟩ = some (.int .i64 a1_0) := (blk_cell BK172.out 0).trans rfl
                  have hcz71_1 : wc.cell? ⟨gb172, 1, none⟩ = some (.int .i64 a1_1) := (blk_cell BK172.out 1).trans rfl
                  have hcz71_2 : wc.cell? ⟨gb172, 2, none⟩ = some (.int .i64 a1_2) := (blk_cell BK172.out 2).trans rfl
                  have hcz71_3 : wc.cell? ⟨gb172, 3, none⟩ = some (.int .i64 a1_3) := (blk_cell BK172.out 3).trans rfl
                  have hfz71_0 := blk_frozen BK172.out 0
                  have hfz71_1 := blk_frozen BK172.out 1
                  have hfz71_2 := blk_frozen BK172.out 2
                  have hfz71_3 := blk_frozen BK172.out 3
                  go_wp2_with (first | ((with_reducible refine gate_callee (f := 136) rfl ?_); refine goesL_ (some 81) rfl rfl Try.func136 (by kernel_rfl) rfl #[.agg #[.int .i64 a0_0, .int .i64 a0_1, .int .i64 a0_2, .int .i64 a0_3], .agg #[.int .i64 a1_0, .int .i64 a1_1, .int .i64 a1_2, .int .i64 a1_3]] rfl (by (try simp only [List.map_toArray, List.map_cons, List.map_nil]); first | done | rfl | (simp only [List.length_drop, List.length_take]; rfl)) ?_; (with_reducible refine (spec_l5Shared.calls kj17 a0_0 a0_1 a0_2 a0_3 a1_0 a1_1 a1_2 a1_3 t183 _ A35.out).mono ?_); rintro e w72 ⟨rfl, hb⟩; refine ⟨_, rfl, ?_⟩; have n0_ := Aside0.mk (blk_below (g := gb171) (o := .cells #[.int .i64 a0_0, .int .i64 a0_1, .int .i64 a0_2, .int .i64 a0_3] 60 (0, 0)) (by (with_reducible repeat (first | refine blk_drewN ?_ _ | refine blk_drew ?_ | refine blk_alloc ?_ _)); exact BK171.out) hb); have n1_ := Aside0.mk (blk_below (g := gb172) (o := .cells #[.int .i64 a1_0, .int .i64 a1_1, .int .i64 a1_2, .int .i64 a1_3] 60 (0, 0)) (by (with_reducible repeat (first | refine blk_drewN ?_ _ | refine blk_drew ?_ | refine blk_alloc ?_ _)); exact BK172.out) hb); have n2_ := Aside0.mk (below_step (by repeat (first | (with_reducible first | exact HB.out | apply below_alloc | apply pw_below_drewN | apply below_drew1 | refine below_set ?_ GE171.out | refine below_set ?_ GE172.out) | exact HB.out)) hb); clear BK171; clear BK172; clear HB; have BK171 := n0_; have BK172 := n1_; have HB := n2_; clear n0_ n1_ n2_; (try clear hb); (try clear hb2); (try clear hk); (try clear hi)))
                  go_ret
                  exact ⟨by first | rfl | (simp [errW_none, errW_some] <;> rfl) | (simp [*, errW_none, errW_some] <;> rfl), by repeat (first | (with_reducible first | exact HB.out | apply below_alloc | apply pw_below_drewN | apply below_drew1 | refine below_set ?_ GE171.out | refine below_set ?_ GE172.out) | exact HB.out)⟩
                · rw [if_neg c68] at H
                  have c68b0 : (t183 == 1) = false := beq_eq_false_iff_ne.mpr c68
                  have c68b1 : (t183 != 1) = true := bne_iff_ne.mpr c68
                  obtain rfl := Option.some.inj H
                  have hnb73 := NB171_172.out
                  have hnc73 := NB172_171.out
                  have hcz74_0 : wc.cell? ⟨gb171, 0, none⟩ = some (.int .i64 a0_0) := (blk_cell BK171.out 0).trans rfl
                  have hcz74_1 : wc.cell? ⟨gb171, 1, none⟩ = some (.int .i64 a0_1) := (blk_cell BK171.out 1).trans rfl
                  have hcz74_2 : wc.cell? ⟨gb171, 2, none⟩ = some (.int .i64 a0_2) := (blk_cell BK171.out 2).trans rfl
                  have hcz74_3 : wc.cell? ⟨gb171, 3, none⟩ = some (.int .i64 a0_3) := (blk_cell BK171.out 3).trans rfl
                  have hfz74_0 := blk_frozen BK171.out 0
                  have hfz74_1 := blk_frozen BK171.out 1
                  have hfz74_2 := blk_frozen BK171.out 2
                  have hfz74_3 := blk_frozen BK171.out 3
                  have hcz75_0 : wc.cell? ⟨gb172, 0, none⟩ = some (.int .i64 a1_0) := (blk_cell BK172.out 0).trans rfl
                  have hcz75_1 : wc.cell? ⟨gb172, 1, none⟩ = some (.int .i64 a1_1) := (blk_cell BK172.out 1).trans rfl
                  have hcz75_2 : wc.cell? ⟨gb172, 2, none⟩ = some (.int .i64 a1_2) := (blk_cell BK172.out 2).trans rfl
                  have hcz75_3 : wc.cell? ⟨gb172, 3, none⟩ = some (.int .i64 a1_3) := (blk_cell BK172.out 3).trans rfl
                  have hfz75_0 := blk_frozen BK172.out 0
                  have hfz75_1 := blk_frozen BK172.out 1
                  have hfz75_2 := blk_frozen BK172.out 2
                  have hfz75_3 := blk_frozen BK172.out 3
                  go_wp2_with (first | ((with_reducible refine gate_callee (f := 136) rfl ?_); refine goesL_ (some 81) rfl rfl Try.func136 (by kernel_rfl) rfl #[.agg #[.int .i64 a0_0, .int .i64 a0_1, .int .i64 a0_2, .int .i64 a0_3], .agg #[.int .i64 a1_0, .int .i64 a1_1, .int .i64 a1_2, .int .i64 a1_3]] rfl (by (try simp only [List.map_toArray, List.map_cons, List.map_nil]); first | done | rfl | (simp only [List.length_drop, List.length_take]; rfl)) ?_; (with_reducible refine (spec_l5Shared.calls kj17 a0_0 a0_1 a0_2 a0_3 a1_0 a1_1 a1_2 a1_3 t183 _ A35.out).mono ?_); rintro e w76 ⟨rfl, hb⟩; refine ⟨_, rfl, ?_⟩; have n0_ := Aside0.mk (blk_below (g := gb171) (o := .cells #[.int .i64 a0_0, .int .i64 a0_1, .int .i64 a0_2, .int .i64 a0_3] 60 (0, 0)) (by (with_reducible repeat (first | refine blk_drewN ?_ _ | refine blk_drew ?_ | refine blk_alloc ?_ _)); exact BK171.out) hb); have n1_ := Aside0.mk (blk_below (g := gb172) (o := .cells #[.int .i64 a1_0, .int .i64 a1_1, .int .i64 a1_2, .int .i64 a1_3] 60 (0, 0)) (by (with_reducible repeat (first | refine blk_drewN ?_ _ | refine blk_drew ?_ | refine blk_alloc ?_ _)); exact BK172.out) hb); have n2_ := Aside0.mk (below_step (by repeat (first | (with_reducible first | exact HB.out | apply below_alloc | apply pw_below_drewN | apply below_drew1 | refine below_set ?_ GE171.out | refine below_set ?_ GE172.out) | exact HB.out)) hb); clear BK171; clear BK172; clear HB; have BK171 := n0_; have BK172 := n1_; have HB := n2_; clear n0_ n1_ n2_; (try clear hb); (try clear hb2); (try clear hk); (try clear hi)))
                  go_ret
                  exact ⟨by first | rfl | (simp [errW_none, errW_some] <;> rfl) | (simp [*, errW_none, errW_some] <;> rfl), by repeat (first | (with_reducible first | exact HB.out | apply below_alloc | apply pw_below_drewN | apply below_drew1 | refine below_set ?_ GE171.out | refine below_set ?_ GE172.out) | exact HB.out)⟩

end Go.Proofs.Ytchmbcembbbplab.MFnExactRingMiddle
