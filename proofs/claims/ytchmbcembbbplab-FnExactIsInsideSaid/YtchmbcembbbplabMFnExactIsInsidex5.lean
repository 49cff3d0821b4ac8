-- Laid by this session's program pp.py, after the kit's print and texts of the session's own. Not trusted: Lean checks it.
import Derived.Test.YtchmbcembbbplabMFnExactIsInsidex0
import Derived.Test.YtchmbcembbbplabMFnExactIsInsidex1
import Derived.Test.YtchmbcembbbplabMFnExactIsInsidex2
import Derived.Test.YtchmbcembbbplabMFnExactIsInsidex3
import Derived.Test.YtchmbcembbbplabMFnExactIsInsidex4
namespace Go.Proofs.Ytchmbcembbbplab.MFnExactIsInside
open Go.RowKit Go.Proofs.YtchmbcembbbplabW.PrintWords Go.Proofs.YtchmbcembbbplabW.PrintLast Go.Proofs.YtchmbcembbbplabW.PrintMore
attribute [local go_sem] max2_int min2_int max_two min_two max_three min_three max_four min_four   -- for this text's walks alone
set_option linter.unusedVariables false
set_option linter.unusedSimpArgs false

attribute [local go_sem high] eqA27
/-! ### impl_HowMeet: function 106 -/
mutual
def impl_HowMeet.j0 : Nat → Bool → Int → Int → Int → Int → Int → Int → Int → Int → Option (Int)
 | 0, _, _, _, _, _, _, _, _, _ => none
 | k + 1, x16, x163000, x163001, x163002, x163003, x164000, x164001, x164002, x164003 => if x16 = true then (some 0) else ((impl_SideOf.f k x163000 x163001 x163002 x163003 x164000 x164001).bind fun t166 => ((impl_SideOf.f k x163000 x163001 x163002 x163003 x164002 x164003).bind fun t167 => (if t166 = 0 then (impl_HowMeet.j1 k t166 t167 (t167 == 0) x163000 x163001 x163002 x163003 x164000 x164001 x164002 x164003) else (impl_HowMeet.j1 k t166 t167 false x163000 x163001 x163002 x163003 x164000 x164001 x164002 x164003))))
def impl_HowMeet.j1 : Nat → Int → Int → Bool → Int → Int → Int → Int → Int → Int → Int → Int → Option (Int)
 | 0, _, _, _, _, _, _, _, _, _, _, _ => none
 | k + 1, x5, x6, x36, x163000, x163001, x163002, x163003, x164000, x164001, x164002, x164003 => if x36 = true then ((impl_forward.f x163000 x163001 x163002 x163003).bind fun bt168 => ((impl_forward.f x164000 x164001 x164002 x164003).bind fun bt172 => ((impl_BeforePoint.f bt168.1 bt168.2.1 bt172.1 bt172.2.1).bind fun t178 => (if t178 = true then (impl_HowMeet.j2 k bt172.1 bt172.2.1 bt172.2.2.1 bt172.2.2.2 bt172.1 bt172.2.1 bt168.2.2.1 bt168.2.2.2) else (impl_HowMeet.j2 k bt172.1 bt172.2.1 bt172.2.2.1 bt172.2.2.2 bt168.1 bt168.2.1 bt168.2.2.1 bt168.2.2.2))))) else (if (wrap64 (x5 * x6)) < 0 then ((impl_SideOf.f k x164000 x164001 x164002 x164003 x163000 x163001).bind fun t181 => ((impl_SideOf.f k x164000 x164001 x164002 x164003 x163002 x163003).bind fun t182 => (impl_HowMeet.j4 k (decide ((wrap64 (t181 * t182)) < 0)) x163000 x163001 x163002 x163003 x164000 x164001 x164002 x164003))) else (impl_HowMeet.j4 k false x163000 x163001 x163002 x163003 x164000 x164001 x164002 x164003))
def impl_HowMeet.j2 : Nat → Int → Int → Int → Int → Int → Int → Int → Int → Option (Int)
 | 0, _, _, _, _, _, _, _, _ => none
 | k + 1, x164000, x164001, x164002, x164003, x177000, x177001, x178000, x178001 => (impl_BeforePoint.f x164002 x164003 x178000 x178001).bind fun t179 => (if t179 = true then (impl_HowMeet.j3 k x177000 x177001 x164002 x164003) else (impl_HowMeet.j3 k x177000 x177001 x178000 x178001))
def impl_HowMeet.j3 : Nat → Int → Int → Int → Int → Option (Int)
 | 0, _, _, _, _ => none
 | k + 1, x177000, x177001, x178000, x178001 => (impl_BeforePoint.f x178000 x178001 x177000 x177001).bind fun t180 => (if t180 = true then (some 0) else (if (x177000 == x178000 && (x177001 == x178001)) = true then (some 1) else (some 3)))
def impl_HowMeet.j4 : Nat → Bool → Int → Int → Int → Int → Int → Int → Int → Int → Option (Int)
 | 0, _, _, _, _, _, _, _, _, _ => none
 | k + 1, x86, x163000, x163001, x163002, x163003, x164000, x164001, x164002, x164003 => if x86 = true then (some 2) else ((impl_IsOn.f k x163000 x163001 x163002 x163003 x164000 x164001).bind fun t183 => (if t183 = true then (some 1) else ((impl_IsOn.f k x163000 x163001 x163002 x163003 x164002 x164003).bind fun t184 => (if t184 = true then (some 1) else ((impl_IsOn.f k x164000 x164001 x164002 x164003 x163000 x163001).bind fun t185 => (if t185 = true then (some 1) else ((impl_IsOn.f k x164000 x164001 x164002 x164003 x163002 x163003).bind fun t186 => (if t186 = true then (some 1) else (some 0)))))))))
end
def impl_HowMeet.f (k : Nat) (a0_0 : Int) (a0_1 : Int) (a0_2 : Int) (a0_3 : Int) (a1_0 : Int) (a1_1 : Int) (a1_2 : Int) (a1_3 : Int) : Option (Int) := (impl_IsSegment.f a0_0 a0_1 a0_2 a0_3).bind fun t164 => (if t164 = true then ((impl_IsSegment.f a1_0 a1_1 a1_2 a1_3).bind fun t165 => (impl_HowMeet.j0 k (!t165) a0_0 a0_1 a0_2 a0_3 a1_0 a1_1 a1_2 a1_3)) else (impl_HowMeet.j0 k true a0_0 a0_1 a0_2 a0_3 a1_0 a1_1 a1_2 a1_3))
theorem impl_HowMeet.mono_l : ∀ k, (∀ y0 y1 y2 y3 y4 y5 y6 y7 y8, LeO (impl_HowMeet.j0 k y0 y1 y2 y3 y4 y5 y6 y7 y8) (impl_HowMeet.j0 (k + 1) y0 y1 y2 y3 y4 y5 y6 y7 y8)) ∧ (∀ y0 y1 y2 y3 y4 y5 y6 y7 y8 y9 y10, LeO (impl_HowMeet.j1 k y0 y1 y2 y3 y4 y5 y6 y7 y8 y9 y10) (impl_HowMeet.j1 (k + 1) y0 y1 y2 y3 y4 y5 y6 y7 y8 y9 y10)) ∧ (∀ y0 y1 y2 y3 y4 y5 y6 y7, LeO (impl_HowMeet.j2 k y0 y1 y2 y3 y4 y5 y6 y7) (impl_HowMeet.j2 (k + 1) y0 y1 y2 y3 y4 y5 y6 y7)) ∧ (∀ y0 y1 y2 y3, LeO (impl_HowMeet.j3 k y0 y1 y2 y3) (impl_HowMeet.j3 (k + 1) y0 y1 y2 y3)) ∧ (∀ y0 y1 y2 y3 y4 y5 y6 y7 y8, LeO (impl_HowMeet.j4 k y0 y1 y2 y3 y4 y5 y6 y7 y8) (impl_HowMeet.j4 (k + 1) y0 y1 y2 y3 y4 y5 y6 y7 y8))
 | 0 => ⟨fun _ _ _ _ _ _ _ _ _ r h => by simp [impl_HowMeet.j0] at h, fun _ _ _ _ _ _ _ _ _ _ _ r h => by simp [impl_HowMeet.j1] at h, fun _ _ _ _ _ _ _ _ r h => by simp [impl_HowMeet.j2] at h, fun _ _ _ _ r h => by simp [impl_HowMeet.j3] at h, fun _ _ _ _ _ _ _ _ _ r h => by simp [impl_HowMeet.j4] at h⟩
 | k + 1 => by
  obtain ⟨ih0, ih1, ih2, ih3, ih4⟩ := impl_HowMeet.mono_l k
  refine ⟨?_, ?_, ?_, ?_, ?_⟩
  ·
   intro y0 y1 y2 y3 y4 y5 y6 y7 y8
   unfold impl_HowMeet.j0
   repeat' first
   | (with_reducible exact ih0 _ _ _ _ _ _ _ _ _)
   | (with_reducible exact ih1 _ _ _ _ _ _ _ _ _ _ _)
   | (with_reducible exact ih2 _ _ _ _ _ _ _ _)
   | (with_reducible exact ih3 _ _ _ _)
   | (with_reducible exact ih4 _ _ _ _ _ _ _ _ _)
   | (with_reducible exact impl_IsOn.mono _ _ _ _ _ _ _)
   | (with_reducible exact impl_SideOf.mono _ _ _ _ _ _ _)
   | (with_reducible exact LeO.refl _)
   | (with_reducible exact LeO.none _)
   | (with_reducible refine LeO.ite ?_ ?_)
   | (with_reducible refine LeO.bind ?_ (fun _ => ?_))
   | exact ih0 _ _ _ _ _ _ _ _ _
   | exact ih1 _ _ _ _ _ _ _ _ _ _ _
   | exact ih2 _ _ _ _ _ _ _ _
   | exact ih3 _ _ _ _
   | exact ih4 _ _ _ _ _ _ _ _ _
   | exact impl_IsOn.mono _ _ _ _ _ _ _
   | exact impl_SideOf.mono _ _ _ _ _ _ _
   | exact LeO.none _
   | refine LeO.ite ?_ ?_
   | refine LeO.bind ?_ (fun _ => ?_)
  ·
   intro y0 y1 y2 y3 y4 y5 y6 y7 y8 y9 y10
   unfold impl_HowMeet.j1
   repeat' first
   | (with_reducible exact ih0 _ _ _ _ _ _ _ _ _)
   | (with_reducible exact ih1 _ _ _ _ _ _ _ _ _ _ _)
   | (with_reducible exact ih2 _ _ _ _ _ _ _ _)
   | (with_reducible exact ih3 _ _ _ _)
   | (with_reducible exact ih4 _ _ _ _ _ _ _ _ _)
   | (with_reducible exact impl_IsOn.mono _ _ _ _ _ _ _)
   | (with_reducible exact impl_SideOf.mono _ _ _ _ _ _ _)
   | (with_reducible exact LeO.refl _)
   | (with_reducible exact LeO.none _)
   | (with_reducible refine LeO.ite ?_ ?_)
   | (with_reducible refine LeO.bind ?_ (fun _ => ?_))
   | exact ih0 _ _ _ _ _ _ _ _ _
   | exact ih1 _ _ _ _ _ _ _ _ _ _ _
   | exact ih2 _ _ _ _ _ _ _ _
   | exact ih3 _ _ _ _
   | exact ih4 _ _ _ _ _ _ _ _ _
   | exact impl_IsOn.mono _ _ _ _ _ _ _
   | exact impl_SideOf.mono _ _ _ _ _ _ _
   | exact LeO.none _
   | refine LeO.ite ?_ ?_
   | refine LeO.bind ?_ (fun _ => ?_)
  ·
   intro y0 y1 y2 y3 y4 y5 y6 y7
   unfold impl_HowMeet.j2
   repeat' first
   | (with_reducible exact ih0 _ _ _ _ _ _ _ _ _)
   | (with_reducible exact ih1 _ _ _ _ _ _ _ _ _ _ _)
   | (with_reducible exact ih2 _ _ _ _ _ _ _ _)
   | (with_reducible exact ih3 _ _ _ _)
   | (with_reducible exact ih4 _ _ _ _ _ _ _ _ _)
   | (with_reducible exact impl_IsOn.mono _ _ _ _ _ _ _)
   | (with_reducible exact impl_SideOf.mono _ _ _ _ _ _ _)
   | (with_reducible exact LeO.refl _)
   | (with_reducible exact LeO.none _)
   | (with_reducible refine LeO.ite ?_ ?_)
   | (with_reducible refine LeO.bind ?_ (fun _ => ?_))
   | exact ih0 _ _ _ _ _ _ _ _ _
   | exact ih1 _ _ _ _ _ _ _ _ _ _ _
   | exact ih2 _ _ _ _ _ _ _ _
   | exact ih3 _ _ _ _
   | exact ih4 _ _ _ _ _ _ _ _ _
   | exact impl_IsOn.mono _ _ _ _ _ _ _
   | exact impl_SideOf.mono _ _ _ _ _ _ _
   | exact LeO.none _
   | refine LeO.ite ?_ ?_
   | refine LeO.bind ?_ (fun _ => ?_)
  ·
   intro y0 y1 y2 y3
   unfold impl_HowMeet.j3
   repeat' first
   | (with_reducible exact ih0 _ _ _ _ _ _ _ _ _)
   | (with_reducible exact ih1 _ _ _ _ _ _ _ _ _ _ _)
   | (with_reducible exact ih2 _ _ _ _ _ _ _ _)
   | (with_reducible exact ih3 _ _ _ _)
   | (with_reducible exact ih4 _ _ _ _ _ _ _ _ _)
   | (with_reducible exact impl_IsOn.mono _ _ _ _ _ _ _)
   | (with_reducible exact impl_SideOf.mono _ _ _ _ _ _ _)
   | (with_reducible exact LeO.refl _)
   | (with_reducible exact LeO.none _)
   | (with_reducible refine LeO.ite ?_ ?_)
   | (with_reducible refine LeO.bind ?_ (fun _ => ?_))
   | exact ih0 _ _ _ _ _ _ _ _ _
   | exact ih1 _ _ _ _ _ _ _ _ _ _ _
   | exact ih2 _ _ _ _ _ _ _ _
   | exact ih3 _ _ _ _
   | exact ih4 _ _ _ _ _ _ _ _ _
   | exact impl_IsOn.mono _ _ _ _ _ _ _
   | exact impl_SideOf.mono _ _ _ _ _ _ _
   | exact LeO.none _
   | refine LeO.ite ?_ ?_
   | refine LeO.bind ?_ (fun _ => ?_)
  ·
   intro y0 y1 y2 y3 y4 y5 y6 y7 y8
   unfold impl_HowMeet.j4
   repeat' first
   | (with_reducible exact ih0 _ _ _ _ _ _ _ _ _)
   | (with_reducible exact ih1 _ _ _ _ _ _ _ _ _ _ _)
   | (with_reducible exact ih2 _ _ _ _ _ _ _ _)
   | (with_reducible exact ih3 _ _ _ _)
   | (with_reducible exact ih4 _ _ _ _ _ _ _ _ _)
   | (with_reducible exact impl_IsOn.mono _ _ _ _ _ _ _)
   | (with_reducible exact impl_SideOf.mono _ _ _ _ _ _ _)
   | (with_reducible exact LeO.refl _)
   | (with_reducible exact LeO.none _)
   | (with_reducible refine LeO.ite ?_ ?_)
   | (with_reducible refine LeO.bind ?_ (fun _ => ?_))
   | exact ih0 _ _ _ _ _ _ _ _ _
   | exact ih1 _ _ _ _ _ _ _ _ _ _ _
   | exact ih2 _ _ _ _ _ _ _ _
   | exact ih3 _ _ _ _
   | exact ih4 _ _ _ _ _ _ _ _ _
   | exact impl_IsOn.mono _ _ _ _ _ _ _
   | exact impl_SideOf.mono _ _ _ _ _ _ _
   | exact LeO.none _
   | refine LeO.ite ?_ ?_
   | refine LeO.bind ?_ (fun _ => ?_)
theorem impl_HowMeet.mono : ∀ a0 a1 a2 a3 a4 a5 a6 a7 k, LeO (impl_HowMeet.f k a0 a1 a2 a3 a4 a5 a6 a7) (impl_HowMeet.f (k + 1) a0 a1 a2 a3 a4 a5 a6 a7) := by
 intro a0 a1 a2 a3 a4 a5 a6 a7 k
 obtain ⟨ih0, ih1, ih2, ih3, ih4⟩ := impl_HowMeet.mono_l k
 unfold impl_HowMeet.f
 repeat' first
   | (with_reducible exact ih0 _ _ _ _ _ _ _ _ _)
   | (with_reducible exact ih1 _ _ _ _ _ _ _ _ _ _ _)
   | (with_reducible exact ih2 _ _ _ _ _ _ _ _)
   | (with_reducible exact ih3 _ _ _ _)
   | (with_reducible exact ih4 _ _ _ _ _ _ _ _ _)
   | (with_reducible exact impl_IsOn.mono _ _ _ _ _ _ _)
   | (with_reducible exact impl_SideOf.mono _ _ _ _ _ _ _)
   | (with_reducible exact LeO.refl _)
   | (with_reducible exact LeO.none _)
   | (with_reducible refine LeO.ite ?_ ?_)
   | (with_reducible refine LeO.bind ?_ (fun _ => ?_))
   | exact ih0 _ _ _ _ _ _ _ _ _
   | exact ih1 _ _ _ _ _ _ _ _ _ _ _
   | exact ih2 _ _ _ _ _ _ _ _
   | exact ih3 _ _ _ _
   | exact ih4 _ _ _ _ _ _ _ _ _
   | exact impl_IsOn.mono _ _ _ _ _ _ _
   | exact impl_SideOf.mono _ _ _ _ _ _ _
   | exact LeO.none _
   | refine LeO.ite ?_ ?_
   | refine LeO.bind ?_ (fun _ => ?_)
def impl_HowMeet.T3 : Bool × List (List Nat × List Nat) := (true, [([], []), ([0], [0]), ([], []), ([2], [2]), ([], []), ([4], [4]), ([1, 3, 5], [1, 3, 5]), ([], []), ([7], [7]), ([], []), ([9], [9]), ([], []), ([11], [11]), ([8, 10, 12, 6], [8, 10, 12]), ([6, 13, 0, 1, 2, 3, 4, 5, 6], [6]), ([13, 14, 0, 1, 2, 3, 4, 5, 6, 7, 8, 9, 10, 11, 12, 13, 14], [13])])
def impl_HowMeet.B3 : List Nat := [0, 1, 0, 4, 0, 16, 63, 0, 128, 0, 512, 0, 2048, 8191, 16383, 32767]
theorem impl_HowMeet.tab3 : rtab .any (opsOf Try.f106 3) = impl_HowMeet.T3 := by kernel_rfl
theorem impl_HowMeet.bits3 : waitsOk impl_HowMeet.T3.2 impl_HowMeet.B3 = true := by kernel_rfl
def impl_HowMeet.T6 : Bool × List (List Nat × List Nat) := (true, [([], []), ([0], [0]), ([], []), ([2], [2]), ([], []), ([], []), ([4, 1, 0, 1, 4, 5], [1, 4]), ([5, 3, 6, 0, 1, 2, 3, 4, 5, 6], [3, 5])])
def impl_HowMeet.B6 : List Nat := [0, 1, 0, 4, 0, 0, 51, 127]
theorem impl_HowMeet.tab6 : rtab .any (opsOf Try.f106 6) = impl_HowMeet.T6 := by kernel_rfl
theorem impl_HowMeet.bits6 : waitsOk impl_HowMeet.T6.2 impl_HowMeet.B6 = true := by kernel_rfl
def impl_HowMeet.T16 : Bool × List (List Nat × List Nat) := (true, [([], []), ([], []), ([0, 1], [0, 1]), ([2], [2]), ([3], [3]), ([4], [4]), ([5, 4], [4, 5]), ([4], [4]), ([7, 4], [4, 7]), ([4], [4]), ([9, 4], [4, 9]), ([6, 8, 10, 4, 4], [4, 6, 8, 10]), ([4], [4]), ([12, 4], [4, 12]), ([4], [4]), ([14, 4], [4, 14]), ([4], [4]), ([16, 4], [4, 16]), ([13, 15, 17, 11, 4], [4, 13, 15, 17]), ([11, 18, 4], [4, 11, 18]), ([19, 4], [4, 19]), ([4, 20], [4, 20])])
def impl_HowMeet.B16 : List Nat := [0, 0, 3, 7, 15, 31, 63, 31, 159, 31, 543, 2047, 31, 4127, 31, 16415, 31, 65567, 262143, 524287, 1048575, 2097151]
theorem impl_HowMeet.tab16 : rtab .any (opsOf Try.f106 16) = impl_HowMeet.T16 := by kernel_rfl
theorem impl_HowMeet.bits16 : waitsOk impl_HowMeet.T16.2 impl_HowMeet.B16 = true := by kernel_rfl
set_option maxHeartbeats 8000000 in
set_option maxRecDepth 100000 in
theorem impl_HowMeet.calls (k : Nat) (a0_0 : Int) (a0_1 : Int) (a0_2 : Int) (a0_3 : Int) (a1_0 : Int) (a1_1 : Int) (a1_2 : Int) (a1_3 : Int) (r : Int) (w : World) (h : impl_HowMeet.f k a0_0 a0_1 a0_2 a0_3 a1_0 a1_1 a1_2 a1_3 = some r) :
  Calls Try.prog 106 #[.agg #[.int .i64 a0_0, .int .i64 a0_1, .int .i64 a0_2, .int .i64 a0_3], .agg #[.int .i64 a1_0, .int .i64 a1_1, .int .i64 a1_2, .int .i64 a1_3]] w fun e w' => e = .returned (.int .i64 r) ∧ Below w.heap.size w w' := by
 have hu60 := Try.underlying60
 have hu27 := Try.underlying27
 have HB := Aside0.mk (Below.refl w.heap.size w)
 have H : ((impl_IsSegment.f a0_0 a0_1 a0_2 a0_3).bind fun t164 => (if t164 = true then ((impl_IsSegment.f a1_0 a1_1 a1_2 a1_3).bind fun t165 => (impl_HowMeet.j0 k (!t165) a0_0 a0_1 a0_2 a0_3 a1_0 a1_1 a1_2 a1_3)) else (impl_HowMeet.j0 k true a0_0 a0_1 a0_2 a0_3 a1_0 a1_1 a1_2 a1_3))) = some r := h
 clear h
 have HC3 := Aside0.mk H
 clear H
 go_enter Try.func106, Try.ntmps106
 go_upto_region 1 with (first | ((with_reducible refine gate_dst (N := 2) rfl ?_); refine Hd.box_ 2 (#[.int .i64 a0_0, .int .i64 a0_1, .int .i64 a0_2, .int .i64 a0_3]) 60 ?_; intro gb162 hg w4 hbox hb; have BK162 := Aside0.mk (hbox); have GW162 := Aside0.mk ((Hd.g_ hg Hd.b_ : w.heap.size ≤ gb162)); have GE162 := Aside0.mk ((Hd.g_ hg Hd.b_ : w.heap.size ≤ gb162)); replace HB := Aside0.mk (below_step Hd.b_ hb); clear hb hbox hg) | ((with_reducible refine gate_dst (N := 3) rfl ?_); refine Hd.box_ 3 (#[.int .i64 a1_0, .int .i64 a1_1, .int .i64 a1_2, .int .i64 a1_3]) 60 ?_; intro gb163 hg w5 hbox hb; have BK163 := Aside0.mk (hbox); have GW163 := Aside0.mk ((Hd.g_ hg Hd.b_ : w.heap.size ≤ gb163)); have GE163 := Aside0.mk ((Hd.g_ hg Hd.b_ : w.heap.size ≤ gb163)); replace HB := Aside0.mk (below_step Hd.b_ hb); have NB162_163 := Aside0.mk ((Hd.lt_ BK162 hg)); have NB163_162 := Aside0.mk ((Hd.gt_ BK162 hg)); replace BK162 := Aside0.mk (Hd.kb_ BK162 hb); clear hb hbox hg))
 (try simp only [Act.put, List.setIfInBounds_toArray, List.set_cons_zero, List.set_cons_succ])
 go_cut [16] (fun v16 wc => ∃ (kq : Nat) (x16_2 : Bool), v16 = .bool x16_2 ∧ Aside0 (impl_HowMeet.j0 kq x16_2 a0_0 a0_1 a0_2 a0_3 a1_0 a1_1 a1_2 a1_3 = some r) ∧ Aside0 (kq ≤ k) ∧ Aside0 (wc.heap[gb162]? = some (.cells #[.int .i64 a0_0, .int .i64 a0_1, .int .i64 a0_2, .int .i64 a0_3] 60 (0, 0))) ∧ Aside0 (wc.heap[gb163]? = some (.cells #[.int .i64 a1_0, .int .i64 a1_1, .int .i64 a1_2, .int .i64 a1_3] 60 (0, 0))) ∧ Aside0 (Below w.heap.size w wc))
 case first =>
  have H := HC3.out
  clear HC3
  replace H := Option.bind_eq_some_iff.mp H
  obtain ⟨t164, A60, H⟩ := H
  replace H : (if t164 = true then ((impl_IsSegment.f a1_0 a1_1 a1_2 a1_3).bind fun t165 => (impl_HowMeet.j0 k (!t165) a0_0 a0_1 a0_2 a0_3 a1_0 a1_1 a1_2 a1_3)) else (impl_HowMeet.j0 k true a0_0 a0_1 a0_2 a0_3 a1_0 a1_1 a1_2 a1_3)) = some r := H
  have A6 := Aside0.mk A60
  clear A60
  by_cases c7 : t164 = true
  ·
   subst c7
   have H1 : ((impl_IsSegment.f a1_0 a1_1 a1_2 a1_3).bind fun t165 => (impl_HowMeet.j0 k (!t165) a0_0 a0_1 a0_2 a0_3 a1_0 a1_1 a1_2 a1_3)) = some r := by rw [if_pos rfl] at H; exact H
   clear H
   have H := H1
   clear H1
   replace H := Option.bind_eq_some_iff.mp H
   obtain ⟨t165, A80, H⟩ := H
   replace H : (impl_HowMeet.j0 k (!t165) a0_0 a0_1 a0_2 a0_3 a1_0 a1_1 a1_2 a1_3) = some r := H
   have A8 := Aside0.mk A80
   clear A80
   have H' := Aside0.mk H
   clear H
   have hnb9 := NB162_163.out
   have hnc9 := NB163_162.out
   obtain ⟨hcz10_0, hcz10_1, hcz10_2, hcz10_3⟩ := Hd.c4_ BK162.out
   obtain ⟨hfz10_0, hfz10_1, hfz10_2, hfz10_3⟩ := Hd.f4_ BK162.out
   go_wp2_with (first | ((with_reducible refine gate_callee (f := 96) rfl ?_); refine goesL_ (some 10) rfl rfl Try.func96 (by kernel_rfl) rfl #[.agg #[.int .i64 a0_0, .int .i64 a0_1, .int .i64 a0_2, .int .i64 a0_3]] rfl Hd.m_ ?_; (with_reducible refine (impl_IsSegment.calls a0_0 a0_1 a0_2 a0_3 true _ A6.out).mono ?_); rintro e w11 ⟨rfl, hb⟩; refine ⟨_, rfl, ?_⟩; replace BK162 := Aside0.mk (Hd.kb_ BK162 hb); replace BK163 := Aside0.mk (Hd.kb_ BK163 hb); replace HB := Aside0.mk (below_step Hd.b_ hb); (try clear hb); (try clear hb2); (try clear hk); (try clear hi); obtain ⟨hcz12_0, hcz12_1, hcz12_2, hcz12_3⟩ := Hd.c4_ BK163.out; obtain ⟨hfz12_0, hfz12_1, hfz12_2, hfz12_3⟩ := Hd.f4_ BK163.out) | (go_at_call 96; (with_reducible refine (impl_IsSegment.calls a1_0 a1_1 a1_2 a1_3 t165 _ A8.out).mono ?_); rintro e w13 ⟨rfl, hb⟩; replace BK162 := Aside0.mk (Hd.kb_ BK162 hb); replace BK163 := Aside0.mk (Hd.kb_ BK163 hb); replace HB := Aside0.mk (below_step Hd.b_ hb); (try clear hb); (try clear hb2); (try clear hk); (try clear hi)))
   go_meet
   case rel => exact ⟨_, (!t165), (by first | rfl | (simp; done) | (simp [*]; done)), H', ⟨by first | omega | exact Nat.le_refl _⟩, ⟨by (with_reducible repeat (first | refine blk_drewN ?_ _ | refine blk_drew ?_ | refine blk_alloc ?_ _)); exact BK162.out⟩, ⟨by (with_reducible repeat (first | refine blk_drewN ?_ _ | refine blk_drew ?_ | refine blk_alloc ?_ _)); exact BK163.out⟩, ⟨Hd.b_⟩⟩
  ·
   replace c7 := Bool.eq_false_iff.mpr c7
   subst c7
   have H1 : (impl_HowMeet.j0 k true a0_0 a0_1 a0_2 a0_3 a1_0 a1_1 a1_2 a1_3) = some r := by rw [if_neg (show ¬ (false = true) by decide)] at H; exact H
   clear H
   have H := H1
   clear H1
   have H' := Aside0.mk H
   clear H
   have hnb14 := NB162_163.out
   have hnc14 := NB163_162.out
   obtain ⟨hcz15_0, hcz15_1, hcz15_2, hcz15_3⟩ := Hd.c4_ BK162.out
   obtain ⟨hfz15_0, hfz15_1, hfz15_2, hfz15_3⟩ := Hd.f4_ BK162.out
   go_wp2_with (first | ((with_reducible refine gate_callee (f := 96) rfl ?_); refine goesL_ (some 10) rfl rfl Try.func96 (by kernel_rfl) rfl #[.agg #[.int .i64 a0_0, .int .i64 a0_1, .int .i64 a0_2, .int .i64 a0_3]] rfl Hd.m_ ?_; (with_reducible refine (impl_IsSegment.calls a0_0 a0_1 a0_2 a0_3 false _ A6.out).mono ?_); rintro e w16 ⟨rfl, hb⟩; refine ⟨_, rfl, ?_⟩; replace BK162 := Aside0.mk (Hd.kb_ BK162 hb); replace BK163 := Aside0.mk (Hd.kb_ BK163 hb); replace HB := Aside0.mk (below_step Hd.b_ hb); (try clear hb); (try clear hb2); (try clear hk); (try clear hi)))
   go_meet
   case rel => exact ⟨_, (true), (by first | rfl | (simp; done) | (simp [*]; done)), H', ⟨by first | omega | exact Nat.le_refl _⟩, ⟨by (with_reducible repeat (first | refine blk_drewN ?_ _ | refine blk_drew ?_ | refine blk_alloc ?_ _)); exact BK162.out⟩, ⟨by (with_reducible repeat (first | refine blk_drewN ?_ _ | refine blk_drew ?_ | refine blk_alloc ?_ _)); exact BK163.out⟩, ⟨Hd.b_⟩⟩
 case rest =>
  clear HC3
  try clear c1
  try clear p2
  try clear c7
  try clear c9
  try clear c10
  try clear c14
  try clear hcz10_0
  try clear hcz10_1
  try clear hcz10_2
  try clear hcz10_3
  try clear hcz12_0
  try clear hcz12_1
  try clear hcz12_2
  try clear hcz12_3
  try clear hcz15_0
  try clear hcz15_1
  try clear hcz15_2
  try clear hcz15_3
  try clear hfz10_0
  try clear hfz10_1
  try clear hfz10_2
  try clear hfz10_3
  try clear hfz12_0
  try clear hfz12_1
  try clear hfz12_2
  try clear hfz12_3
  try clear hfz15_0
  try clear hfz15_1
  try clear hfz15_2
  try clear hfz15_3
  obtain ⟨kq, x16_2, rfl, HA, HJ2, BK162, BK163, HB⟩ := hcut
  cases kq with
  | zero => exact absurd HA.out (by simp [impl_HowMeet.j0])
  | succ kj2 =>
   have H := HA.out
   clear HA
   simp only [impl_HowMeet.j0] at H
   by_cases c17 : x16_2 = true
   ·
    subst c17
    have H1 : (some 0) = some r := by rw [if_pos rfl] at H; exact H
    clear H
    have H := H1
    clear H1
    obtain rfl := Option.some.inj H
    go_wp2
    go_ret
    exact ⟨Hd.e_, Hd.b_⟩
   ·
    replace c17 := Bool.eq_false_iff.mpr c17
    subst c17
    have H1 : ((impl_SideOf.f kj2 a0_0 a0_1 a0_2 a0_3 a1_0 a1_1).bind fun t166 => ((impl_SideOf.f kj2 a0_0 a0_1 a0_2 a0_3 a1_2 a1_3).bind fun t167 => (if t166 = 0 then (impl_HowMeet.j1 kj2 t166 t167 (t167 == 0) a0_0 a0_1 a0_2 a0_3 a1_0 a1_1 a1_2 a1_3) else (impl_HowMeet.j1 kj2 t166 t167 false a0_0 a0_1 a0_2 a0_3 a1_0 a1_1 a1_2 a1_3)))) = some r := by rw [if_neg (show ¬ (false = true) by decide)] at H; exact H
    clear H
    have H := H1
    clear H1
    replace H := Option.bind_eq_some_iff.mp H
    obtain ⟨t166, A180, H⟩ := H
    replace H : ((impl_SideOf.f kj2 a0_0 a0_1 a0_2 a0_3 a1_2 a1_3).bind fun t167 => (if t166 = 0 then (impl_HowMeet.j1 kj2 t166 t167 (t167 == 0) a0_0 a0_1 a0_2 a0_3 a1_0 a1_1 a1_2 a1_3) else (impl_HowMeet.j1 kj2 t166 t167 false a0_0 a0_1 a0_2 a0_3 a1_0 a1_1 a1_2 a1_3))) = some r := H
    have A18 := Aside0.mk A180
    clear A180
    replace H := Option.bind_eq_some_iff.mp H
    obtain ⟨t167, A190, H⟩ := H
    replace H : (if t166 = 0 then (impl_HowMeet.j1 kj2 t166 t167 (t167 == 0) a0_0 a0_1 a0_2 a0_3 a1_0 a1_1 a1_2 a1_3) else (impl_HowMeet.j1 kj2 t166 t167 false a0_0 a0_1 a0_2 a0_3 a1_0 a1_1 a1_2 a1_3)) = some r := H
    have A19 := Aside0.mk A190
    clear A190
    have HC20 := Aside0.mk H
    clear H
    try go_wp2
    replace BK162 := Aside0.mk (blk_drew BK162.out)
    replace BK163 := Aside0.mk (blk_drew BK163.out)
    replace HB := Aside0.mk (below_drew1 HB.out)
    have S_ : (fun w' : World => w'.cell? ⟨gb162, 0, none⟩ = some (.int .i64 a0_0) ∧ w'.cell? ⟨gb162, 1, none⟩ = some (.int .i64 a0_1) ∧ w'.cell? ⟨gb162, 2, none⟩ = some (.int .i64 a0_2) ∧ w'.cell? ⟨gb162, 3, none⟩ = some (.int .i64 a0_3) ∧ w'.cell? ⟨gb163, 0, none⟩ = some (.int .i64 a1_0) ∧ w'.cell? ⟨gb163, 1, none⟩ = some (.int .i64 a1_1) ∧ w'.cell? ⟨gb163, 2, none⟩ = some (.int .i64 a1_2) ∧ w'.cell? ⟨gb163, 3, none⟩ = some (.int .i64 a1_3)) wc.drew := ⟨(blk_cell BK162.out 0).trans rfl, (blk_cell BK162.out 1).trans rfl, (blk_cell BK162.out 2).trans rfl, (blk_cell BK162.out 3).trans rfl, (blk_cell BK163.out 0).trans rfl, (blk_cell BK163.out 1).trans rfl, (blk_cell BK163.out 2).trans rfl, (blk_cell BK163.out 3).trans rfl⟩
    obtain ⟨s0_, s1_, s2_, s3_, s4_, s5_, s6_, s7_⟩ := S_
    replace s0_ := fun q : Hd.HW wc.drew => q.cell s0_
    replace s1_ := fun q : Hd.HW wc.drew => q.cell s1_
    replace s2_ := fun q : Hd.HW wc.drew => q.cell s2_
    replace s3_ := fun q : Hd.HW wc.drew => q.cell s3_
    replace s4_ := fun q : Hd.HW wc.drew => q.cell s4_
    replace s5_ := fun q : Hd.HW wc.drew => q.cell s5_
    replace s6_ := fun q : Hd.HW wc.drew => q.cell s6_
    replace s7_ := fun q : Hd.HW wc.drew => q.cell s7_
    refine Hd.HW.region (by kernel_rfl) (by kernel_rfl) ?_
    repeat (go_big_quiet_step ((first | (go_at_call 110; with_reducible exact Hd.HW.c (impl_SideOf.calls kj2 a0_0 a0_1 a0_2 a0_3 a1_0 a1_1 t166 _ A18.out)) | (go_at_call 110; with_reducible exact Hd.HW.c (impl_SideOf.calls kj2 a0_0 a0_1 a0_2 a0_3 a1_2 a1_3 t167 _ A19.out)))))
    refine wpQuiet_nil ?_
    intro _ hq_
    obtain ⟨q_, rfl⟩ := hq_
    clear s0_ s1_ s2_ s3_ s4_ s5_ s6_ s7_
    replace BK162 := Aside0.mk (blk_below BK162.out q_.b)
    replace BK163 := Aside0.mk (blk_below BK163.out q_.b)
    replace HB := Aside0.mk (below_step HB.out q_.b)
    generalize q_.W = w23 at BK162 BK163 HB ⊢
    try simp only [i64_w, i32_w]
    go_upto_region 4 with (fail)
    go_cut [36] (fun v36 wc => ∃ (kq : Nat) (x36_19 : Bool), v36 = .bool x36_19 ∧ Aside0 (impl_HowMeet.j1 kq t166 t167 x36_19 a0_0 a0_1 a0_2 a0_3 a1_0 a1_1 a1_2 a1_3 = some r) ∧ Aside0 (kq ≤ kj2) ∧ Aside0 (wc.heap[gb162]? = some (.cells #[.int .i64 a0_0, .int .i64 a0_1, .int .i64 a0_2, .int .i64 a0_3] 60 (0, 0))) ∧ Aside0 (wc.heap[gb163]? = some (.cells #[.int .i64 a1_0, .int .i64 a1_1, .int .i64 a1_2, .int .i64 a1_3] 60 (0, 0))) ∧ Aside0 (Below w.heap.size w wc))
    case first =>
     have H := HC20.out
     clear HC20
     by_cases c24 : t166 = 0
     ·
      rw [if_pos c24] at H
      have c24b0 : (t166 == 0) = true := beq_iff_eq.mpr c24
      have c24b1 : (t166 != 0) = false := bne_eq_false_iff_eq.mpr c24
      clear c24
      (first | rw [c24b0] | (simp only [i64_w, i32_w]; rw [c24b0]) | skip)
      have H' := Aside0.mk H
      clear H
      go_wp2
      go_meet
      case rel => exact ⟨_, ((t167 == 0)), (by first | rfl | (simp; done) | (simp [*]; done)), H', ⟨by have := HJ2.out; first | omega | exact Nat.le_refl _⟩, ⟨by (with_reducible repeat (first | refine blk_drewN ?_ _ | refine blk_drew ?_ | refine blk_alloc ?_ _)); exact BK162.out⟩, ⟨by (with_reducible repeat (first | refine blk_drewN ?_ _ | refine blk_drew ?_ | refine blk_alloc ?_ _)); exact BK163.out⟩, ⟨Hd.b_⟩⟩
     ·
      rw [if_neg c24] at H
      have c24b0 : (t166 == 0) = false := beq_eq_false_iff_ne.mpr c24
      have c24b1 : (t166 != 0) = true := bne_iff_ne.mpr c24
      (first | rw [c24b0] | (simp only [i64_w, i32_w]; rw [c24b0]) | skip)
      have H' := Aside0.mk H
      clear H
      go_wp2
      go_meet
      case rel => exact ⟨_, (false), (by first | rfl | (simp; done) | (simp [*]; done)), H', ⟨by have := HJ2.out; first | omega | exact Nat.le_refl _⟩, ⟨by (with_reducible repeat (first | refine blk_drewN ?_ _ | refine blk_drew ?_ | refine blk_alloc ?_ _)); exact BK162.out⟩, ⟨by (with_reducible repeat (first | refine blk_drewN ?_ _ | refine blk_drew ?_ | refine blk_alloc ?_ _)); exact BK163.out⟩, ⟨Hd.b_⟩⟩
    case rest =>
     clear HC20
     try clear c1
     try clear c2
     try clear p2
     try clear c7
     try clear c9
     try clear c10
     try clear c11
     try clear c14
     try clear c17
     try clear c24
     try clear c24b0
     try clear c24b1
     try clear hcz10_0
     try clear hcz10_1
     try clear hcz10_2
     try clear hcz10_3
     try clear hcz12_0
     try clear hcz12_1
     try clear hcz12_2
     try clear hcz12_3
     try clear hcz15_0
     try clear hcz15_1
     try clear hcz15_2
     try clear hcz15_3
     try clear hfz10_0
     try clear hfz10_1
     try clear hfz10_2
     try clear hfz10_3
     try clear hfz12_0
     try clear hfz12_1
     try clear hfz12_2
     try clear hfz12_3
     try clear hfz15_0
     try clear hfz15_1
     try clear hfz15_2
     try clear hfz15_3
     try clear p2
     obtain ⟨kq, x36_19, rfl, HA, HJ19, BK162, BK163, HB⟩ := hcut
     cases kq with
     | zero => exact absurd HA.out (by simp [impl_HowMeet.j1])
     | succ kj19 =>
      have H := HA.out
      clear HA
      simp only [impl_HowMeet.j1] at H
      by_cases c25 : x36_19 = true
      ·
       subst c25
       have H1 : ((impl_forward.f a0_0 a0_1 a0_2 a0_3).bind fun bt168 => ((impl_forward.f a1_0 a1_1 a1_2 a1_3).bind fun bt172 => ((impl_BeforePoint.f bt168.1 bt168.2.1 bt172.1 bt172.2.1).bind fun t178 => (if t178 = true then (impl_HowMeet.j2 kj19 bt172.1 bt172.2.1 bt172.2.2.1 bt172.2.2.2 bt172.1 bt172.2.1 bt168.2.2.1 bt168.2.2.2) else (impl_HowMeet.j2 kj19 bt172.1 bt172.2.1 bt172.2.2.1 bt172.2.2.2 bt168.1 bt168.2.1 bt168.2.2.1 bt168.2.2.2))))) = some r := by rw [if_pos rfl] at H; exact H
       clear H
       have H := H1
       clear H1
       replace H := Option.bind_eq_some_iff.mp H
       obtain ⟨⟨t168, t169, t170, t171⟩, A260, H⟩ := H
       replace H : ((impl_forward.f a1_0 a1_1 a1_2 a1_3).bind fun bt172 => ((impl_BeforePoint.f t168 t169 bt172.1 bt172.2.1).bind fun t178 => (if t178 = true then (impl_HowMeet.j2 kj19 bt172.1 bt172.2.1 bt172.2.2.1 bt172.2.2.2 bt172.1 bt172.2.1 t170 t171) else (impl_HowMeet.j2 kj19 bt172.1 bt172.2.1 bt172.2.2.1 bt172.2.2.2 t168 t169 t170 t171)))) = some r := H
       have A26 := Aside0.mk A260
       clear A260
       replace H := Option.bind_eq_some_iff.mp H
       obtain ⟨⟨t172, t173, t174, t175⟩, A270, H⟩ := H
       replace H : ((impl_BeforePoint.f t168 t169 t172 t173).bind fun t178 => (if t178 = true then (impl_HowMeet.j2 kj19 t172 t173 t174 t175 t172 t173 t170 t171) else (impl_HowMeet.j2 kj19 t172 t173 t174 t175 t168 t169 t170 t171))) = some r := H
       have A27 := Aside0.mk A270
       clear A270
       replace H := Option.bind_eq_some_iff.mp H
       obtain ⟨t178, A280, H⟩ := H
       replace H : (if t178 = true then (impl_HowMeet.j2 kj19 t172 t173 t174 t175 t172 t173 t170 t171) else (impl_HowMeet.j2 kj19 t172 t173 t174 t175 t168 t169 t170 t171)) = some r := H
       have A28 := Aside0.mk A280
       clear A280
       have HC29 := Aside0.mk H
       clear H
       try go_wp2
       replace BK162 := Aside0.mk (blk_drew BK162.out)
       replace BK163 := Aside0.mk (blk_drew BK163.out)
       replace HB := Aside0.mk (below_drew1 HB.out)
       refine start_ (n := 6) (S := fun w' => w'.cell? ⟨gb162, 0, none⟩ = some (.int .i64 a0_0) ∧ w'.cell? ⟨gb162, 1, none⟩ = some (.int .i64 a0_1) ∧ w'.cell? ⟨gb162, 2, none⟩ = some (.int .i64 a0_2) ∧ w'.cell? ⟨gb162, 3, none⟩ = some (.int .i64 a0_3) ∧ w'.cell? ⟨gb163, 0, none⟩ = some (.int .i64 a1_0) ∧ w'.cell? ⟨gb163, 1, none⟩ = some (.int .i64 a1_1) ∧ w'.cell? ⟨gb163, 2, none⟩ = some (.int .i64 a1_2) ∧ w'.cell? ⟨gb163, 3, none⟩ = some (.int .i64 a1_3)) (ds := [4, 5]) #[false, false, false, false, false, false] (by kernel_rfl) rfl rfl ⟨(blk_cell BK162.out 0).trans rfl, (blk_cell BK162.out 1).trans rfl, (blk_cell BK162.out 2).trans rfl, (blk_cell BK162.out 3).trans rfl, (blk_cell BK163.out 0).trans rfl, (blk_cell BK163.out 1).trans rfl, (blk_cell BK163.out 2).trans rfl, (blk_cell BK163.out 3).trans rfl⟩ (fun hHeld => ?_)
       generalize wc.drew = w30 at BK162 BK163 HB hHeld ⊢
       refine take_ (i := 0) (N := some 37) (v := ?_) (a' := ?_) #[true, false, false, false, false, false] rfl rfl (by kernel_rfl) (fun _ _ _ h => h) (Or.inl ⟨by rfl, ?_⟩) hHeld ?_ ?_
       rotate_left
       ·
        rintro w' ⟨s0, s1, s2, s3, s4, s5, s6, s7⟩
        go_simp
        with_reducible rfl
       rotate_left
       ·
        simp only [Act.put, List.setIfInBounds_toArray, List.set_cons_zero, List.set_cons_succ, i64_w, i32_w]
        rfl
       refine take_ (i := 2) (N := some 39) (v := ?_) (a' := ?_) #[true, false, true, false, false, false] rfl rfl (by kernel_rfl) (fun _ _ _ h => h) (Or.inl ⟨by rfl, ?_⟩) hHeld ?_ ?_
       rotate_left
       ·
        rintro w' ⟨s0, s1, s2, s3, s4, s5, s6, s7⟩
        go_simp
        with_reducible rfl
       rotate_left
       ·
        simp only [Act.put, List.setIfInBounds_toArray, List.set_cons_zero, List.set_cons_succ, i64_w, i32_w]
        rfl
       refine one_ (i := 1) (N := some 38) #[true, true, true, false, false, false] rfl rfl (by kernel_rfl) (by decide) (fun K hK => ?_)
       refine goes_ Try.func129 (by kernel_rfl) rfl #[.agg #[.int .i64 a0_0, .int .i64 a0_1, .int .i64 a0_2, .int .i64 a0_3]] (by rfl) rfl rfl Hd.m_ ?_
       with_reducible refine (impl_forward.calls a0_0 a0_1 a0_2 a0_3 t168 t169 t170 t171 _ A26.out).mono ?_
       rintro e w31 ⟨rfl, hb⟩
       refine ⟨_, rfl, ?_⟩
       replace BK162 := Aside0.mk (Hd.kb_ BK162 hb)
       replace BK163 := Aside0.mk (Hd.kb_ BK163 hb)
       replace HB := Aside0.mk (below_step Hd.b_ hb)
       (try clear hb)
       (try clear hb2)
       (try clear hk)
       (try clear hi)
       refine hK.out _ _ ⟨(blk_cell BK162.out 0).trans rfl, (blk_cell BK162.out 1).trans rfl, (blk_cell BK162.out 2).trans rfl, (blk_cell BK162.out 3).trans rfl, (blk_cell BK163.out 0).trans rfl, (blk_cell BK163.out 1).trans rfl, (blk_cell BK163.out 2).trans rfl, (blk_cell BK163.out 3).trans rfl⟩ (fun hHeld => ?_)
       clear hK K
       refine norm_ (a' := ?_) ?_ ?_
       rotate_left
       ·
        show Act.put _ (some 38) _ = _
        simp only [Act.put, List.setIfInBounds_toArray, List.set_cons_zero, List.set_cons_succ, i64_w, i32_w]
        rfl
       refine one_ (i := 3) (N := some 40) #[true, true, true, true, false, false] rfl rfl (by kernel_rfl) (by decide) (fun K hK => ?_)
       refine goes_ Try.func129 (by kernel_rfl) rfl #[.agg #[.int .i64 a1_0, .int .i64 a1_1, .int .i64 a1_2, .int .i64 a1_3]] (by rfl) rfl rfl Hd.m_ ?_
       with_reducible refine (impl_forward.calls a1_0 a1_1 a1_2 a1_3 t172 t173 t174 t175 _ A27.out).mono ?_
       rintro e w32 ⟨rfl, hb⟩
       refine ⟨_, rfl, ?_⟩
       replace BK162 := Aside0.mk (Hd.kb_ BK162 hb)
       replace BK163 := Aside0.mk (Hd.kb_ BK163 hb)
       replace HB := Aside0.mk (below_step Hd.b_ hb)
       (try clear hb)
       (try clear hb2)
       (try clear hk)
       (try clear hi)
       refine hK.out _ _ ⟨(blk_cell BK162.out 0).trans rfl, (blk_cell BK162.out 1).trans rfl, (blk_cell BK162.out 2).trans rfl, (blk_cell BK162.out 3).trans rfl, (blk_cell BK163.out 0).trans rfl, (blk_cell BK163.out 1).trans rfl, (blk_cell BK163.out 2).trans rfl, (blk_cell BK163.out 3).trans rfl⟩ (fun hHeld => ?_)
       clear hK K
       refine norm_ (a' := ?_) ?_ ?_
       rotate_left
       ·
        show Act.put _ (some 40) _ = _
        simp only [Act.put, List.setIfInBounds_toArray, List.set_cons_zero, List.set_cons_succ, i64_w, i32_w]
        rfl
       refine last_ (i := 4) (N := none) #[true, true, true, true, true, false] rfl rfl (by kernel_rfl) (by decide) (fun K hK => ?_)
       have hs33 : w32.cell? ⟨gb162, 0, none⟩ = some (.int .i64 a0_0) := (blk_cell BK162.out 0).trans rfl
       have hfs33 := blk_frozen BK162.out 0
       have hns33_1 := NB163_162.out
       have hms33_1 := NB162_163.out
       have hs34 : w32.cell? ⟨gb162, 1, none⟩ = some (.int .i64 a0_1) := (blk_cell BK162.out 1).trans rfl
       have hfs34 := blk_frozen BK162.out 1
       have hns34_1 := NB163_162.out
       have hms34_1 := NB162_163.out
       have hs35 : w32.cell? ⟨gb162, 2, none⟩ = some (.int .i64 a0_2) := (blk_cell BK162.out 2).trans rfl
       have hfs35 := blk_frozen BK162.out 2
       have hns35_1 := NB163_162.out
       have hms35_1 := NB162_163.out
       have hs36 : w32.cell? ⟨gb162, 3, none⟩ = some (.int .i64 a0_3) := (blk_cell BK162.out 3).trans rfl
       have hfs36 := blk_frozen BK162.out 3
       have hns36_1 := NB163_162.out
       have hms36_1 := NB162_163.out
       refine skip_ (w1 := ?_) (by rfl) rfl ?_ ?_
       rotate_left
       ·
        go_simp
        rfl
       refine hK.out _ _ ?_
       clear hK K
       refine last_ (i := 5) (N := none) #[true, true, true, true, true, true] rfl rfl (by kernel_rfl) (by decide) (fun K hK => ?_)
       have hs37 : w32.cell? ⟨gb163, 0, none⟩ = some (.int .i64 a1_0) := (blk_cell BK163.out 0).trans rfl
       have hfs37 := blk_frozen BK163.out 0
       have hns37_0 := NB162_163.out
       have hms37_0 := NB163_162.out
       have hs38 : w32.cell? ⟨gb163, 1, none⟩ = some (.int .i64 a1_1) := (blk_cell BK163.out 1).trans rfl
       have hfs38 := blk_frozen BK163.out 1
       have hns38_0 := NB162_163.out
       have hms38_0 := NB163_162.out
       have hs39 : w32.cell? ⟨gb163, 2, none⟩ = some (.int .i64 a1_2) := (blk_cell BK163.out 2).trans rfl
       have hfs39 := blk_frozen BK163.out 2
       have hns39_0 := NB162_163.out
       have hms39_0 := NB163_162.out
       have hs40 : w32.cell? ⟨gb163, 3, none⟩ = some (.int .i64 a1_3) := (blk_cell BK163.out 3).trans rfl
       have hfs40 := blk_frozen BK163.out 3
       have hns40_0 := NB162_163.out
       have hms40_0 := NB163_162.out
       refine skip_ (w1 := ?_) (by rfl) rfl ?_ ?_
       rotate_left
       ·
        go_simp
        rfl
       refine hK.out _ _ ?_
       clear hK K
       refine done_ (by kernel_rfl) ?_
       try go_wp2
       have n0_ : Aside0 (((((((((w32.setCell ⟨gb162, 0, none⟩ (.int .i64 t168)).setCell ⟨gb162, 1, none⟩ (.int .i64 t169)).setCell ⟨gb162, 2, none⟩ (.int .i64 t170)).setCell ⟨gb162, 3, none⟩ (.int .i64 t171)).setCell ⟨gb163, 0, none⟩ (.int .i64 t172)).setCell ⟨gb163, 1, none⟩ (.int .i64 t173)).setCell ⟨gb163, 2, none⟩ (.int .i64 t174)).setCell ⟨gb163, 3, none⟩ (.int .i64 t175)).heap[gb162]? = some (.cells #[.int .i64 t168, .int .i64 t169, .int .i64 t170, .int .i64 t171] 60 (0, 0))) := ⟨by (with_reducible repeat (first | refine blk_drewN ?_ _ | refine blk_drew ?_ | refine blk_alloc ?_ _)); refine blk_far ?_ NB162_163.out _; (with_reducible repeat (first | refine blk_drewN ?_ _ | refine blk_drew ?_ | refine blk_alloc ?_ _)); refine blk_far ?_ NB162_163.out _; (with_reducible repeat (first | refine blk_drewN ?_ _ | refine blk_drew ?_ | refine blk_alloc ?_ _)); refine blk_far ?_ NB162_163.out _; (with_reducible repeat (first | refine blk_drewN ?_ _ | refine blk_drew ?_ | refine blk_alloc ?_ _)); refine blk_far ?_ NB162_163.out _; (with_reducible repeat (first | refine blk_drewN ?_ _ | refine blk_drew ?_ | refine blk_alloc ?_ _)); refine blk_put (cs := #[.int .i64 t168, .int .i64 t169, .int .i64 t170, .int .i64 a0_3]) ?_ 3 _ rfl; (with_reducible repeat (first | refine blk_drewN ?_ _ | refine blk_drew ?_ | refine blk_alloc ?_ _)); refine blk_put (cs := #[.int .i64 t168, .int .i64 t169, .int .i64 a0_2, .int .i64 a0_3]) ?_ 2 _ rfl; (with_reducible repeat (first | refine blk_drewN ?_ _ | refine blk_drew ?_ | refine blk_alloc ?_ _)); refine blk_put (cs := #[.int .i64 t168, .int .i64 a0_1, .int .i64 a0_2, .int .i64 a0_3]) ?_ 1 _ rfl; (with_reducible repeat (first | refine blk_drewN ?_ _ | refine blk_drew ?_ | refine blk_alloc ?_ _)); refine blk_put (cs := #[.int .i64 a0_0, .int .i64 a0_1, .int .i64 a0_2, .int .i64 a0_3]) ?_ 0 _ rfl; (with_reducible repeat (first | refine blk_drewN ?_ _ | refine blk_drew ?_ | refine blk_alloc ?_ _)); exact BK162.out⟩
       have n1_ : Aside0 (((((((((w32.setCell ⟨gb162, 0, none⟩ (.int .i64 t168)).setCell ⟨gb162, 1, none⟩ (.int .i64 t169)).setCell ⟨gb162, 2, none⟩ (.int .i64 t170)).setCell ⟨gb162, 3, none⟩ (.int .i64 t171)).setCell ⟨gb163, 0, none⟩ (.int .i64 t172)).setCell ⟨gb163, 1, none⟩ (.int .i64 t173)).setCell ⟨gb163, 2, none⟩ (.int .i64 t174)).setCell ⟨gb163, 3, none⟩ (.int .i64 t175)).heap[gb163]? = some (.cells #[.int .i64 t172, .int .i64 t173, .int .i64 t174, .int .i64 t175] 60 (0, 0))) := ⟨by (with_reducible repeat (first | refine blk_drewN ?_ _ | refine blk_drew ?_ | refine blk_alloc ?_ _)); refine blk_put (cs := #[.int .i64 t172, .int .i64 t173, .int .i64 t174, .int .i64 a1_3]) ?_ 3 _ rfl; (with_reducible repeat (first | refine blk_drewN ?_ _ | refine blk_drew ?_ | refine blk_alloc ?_ _)); refine blk_put (cs := #[.int .i64 t172, .int .i64 t173, .int .i64 a1_2, .int .i64 a1_3]) ?_ 2 _ rfl; (with_reducible repeat (first | refine blk_drewN ?_ _ | refine blk_drew ?_ | refine blk_alloc ?_ _)); refine blk_put (cs := #[.int .i64 t172, .int .i64 a1_1, .int .i64 a1_2, .int .i64 a1_3]) ?_ 1 _ rfl; (with_reducible repeat (first | refine blk_drewN ?_ _ | refine blk_drew ?_ | refine blk_alloc ?_ _)); refine blk_put (cs := #[.int .i64 a1_0, .int .i64 a1_1, .int .i64 a1_2, .int .i64 a1_3]) ?_ 0 _ rfl; (with_reducible repeat (first | refine blk_drewN ?_ _ | refine blk_drew ?_ | refine blk_alloc ?_ _)); refine blk_far ?_ NB163_162.out _; (with_reducible repeat (first | refine blk_drewN ?_ _ | refine blk_drew ?_ | refine blk_alloc ?_ _)); refine blk_far ?_ NB163_162.out _; (with_reducible repeat (first | refine blk_drewN ?_ _ | refine blk_drew ?_ | refine blk_alloc ?_ _)); refine blk_far ?_ NB163_162.out _; (with_reducible repeat (first | refine blk_drewN ?_ _ | refine blk_drew ?_ | refine blk_alloc ?_ _)); refine blk_far ?_ NB163_162.out _; (with_reducible repeat (first | refine blk_drewN ?_ _ | refine blk_drew ?_ | refine blk_alloc ?_ _)); exact BK163.out⟩
       have n2_ : Aside0 (Below w.heap.size w ((((((((w32.setCell ⟨gb162, 0, none⟩ (.int .i64 t168)).setCell ⟨gb162, 1, none⟩ (.int .i64 t169)).setCell ⟨gb162, 2, none⟩ (.int .i64 t170)).setCell ⟨gb162, 3, none⟩ (.int .i64 t171)).setCell ⟨gb163, 0, none⟩ (.int .i64 t172)).setCell ⟨gb163, 1, none⟩ (.int .i64 t173)).setCell ⟨gb163, 2, none⟩ (.int .i64 t174)).setCell ⟨gb163, 3, none⟩ (.int .i64 t175))) := ⟨Hd.b_⟩
       (try clear BK162)
       (try clear BK163)
       (try clear HB)
       generalize ((((((((w32.setCell ⟨gb162, 0, none⟩ (.int .i64 t168)).setCell ⟨gb162, 1, none⟩ (.int .i64 t169)).setCell ⟨gb162, 2, none⟩ (.int .i64 t170)).setCell ⟨gb162, 3, none⟩ (.int .i64 t171)).setCell ⟨gb163, 0, none⟩ (.int .i64 t172)).setCell ⟨gb163, 1, none⟩ (.int .i64 t173)).setCell ⟨gb163, 2, none⟩ (.int .i64 t174)).setCell ⟨gb163, 3, none⟩ (.int .i64 t175)) = w41 at n0_ n1_ n2_ ⊢
       have BK162 := n0_
       have BK163 := n1_
       have HB := n2_
       clear n0_ n1_ n2_
       replace BK162 := Aside0.mk (blk_drew BK162.out)
       replace BK163 := Aside0.mk (blk_drew BK163.out)
       replace HB := Aside0.mk (below_drew1 HB.out)
       refine start_ (n := 8) (S := fun w' => w'.cell? ⟨gb162, 0, none⟩ = some (.int .i64 t168) ∧ w'.cell? ⟨gb162, 1, none⟩ = some (.int .i64 t169) ∧ w'.cell? ⟨gb162, 2, none⟩ = some (.int .i64 t170) ∧ w'.cell? ⟨gb162, 3, none⟩ = some (.int .i64 t171)) (ds := []) #[false, false, false, false, false, false, false, false] (by kernel_rfl) rfl rfl ⟨(blk_cell BK162.out 0).trans rfl, (blk_cell BK162.out 1).trans rfl, (blk_cell BK162.out 2).trans rfl, (blk_cell BK162.out 3).trans rfl⟩ (fun hHeld => ?_); refine with_tabW impl_HowMeet.tab6 impl_HowMeet.bits6 (fun HT_ HW_ => ?_)
       generalize w41.drew = w42 at BK162 BK163 HB hHeld ⊢
       refine pure_ (i := 0) (N := some 41) (v := ?_) (a' := ?_) #[true, false, false, false, false, false, false, false] rfl rfl (any_of HT_.out (by kernel_rfl)) (fun _ _ _ h => h) (Or.inl ⟨by rfl, ?_⟩) ?_ ?_
       rotate_left
       ·
        intro w'
        go_simp
        with_reducible rfl
       rotate_left
       ·
        simp only [Act.put, List.setIfInBounds_toArray, List.set_cons_zero, List.set_cons_succ, i64_w, i32_w]
        rfl
       refine pure_ (i := 2) (N := some 43) (v := ?_) (a' := ?_) #[true, false, true, false, false, false, false, false] rfl rfl (any_of HT_.out (by kernel_rfl)) (fun _ _ _ h => h) (Or.inl ⟨by rfl, ?_⟩) ?_ ?_
       rotate_left
       ·
        intro w'
        go_simp
        with_reducible rfl
       rotate_left
       ·
        simp only [Act.put, List.setIfInBounds_toArray, List.set_cons_zero, List.set_cons_succ, i64_w, i32_w]
        rfl
       refine take_ (i := 1) (N := some 42) (v := ?_) (a' := ?_) #[true, true, true, false, false, false, false, false] rfl rfl (take_ofW HT_.out HW_.out (by kernel_rfl)) (fun _ _ _ h => h) (Or.inl ⟨by rfl, ?_⟩) hHeld ?_ ?_
       rotate_left
       ·
        rintro w' ⟨s0, s1, s2, s3⟩
        go_simp
        with_reducible rfl
       rotate_left
       ·
        simp only [Act.put, List.setIfInBounds_toArray, List.set_cons_zero, List.set_cons_succ, i64_w, i32_w]
        rfl
       refine take_ (i := 3) (N := some 44) (v := ?_) (a' := ?_) #[true, true, true, true, false, false, false, false] rfl rfl (take_ofW HT_.out HW_.out (by kernel_rfl)) (fun _ _ _ h => h) (Or.inl ⟨by rfl, ?_⟩) hHeld ?_ ?_
       rotate_left
       ·
        rintro w' ⟨s0, s1, s2, s3⟩
        go_simp
        with_reducible rfl
       rotate_left
       ·
        simp only [Act.put, List.setIfInBounds_toArray, List.set_cons_zero, List.set_cons_succ, i64_w, i32_w]
        rfl
       refine join_ (σ := Nat × Nat) 2 #[true, true, true, true, true, true, false, false] (fun s_ => [(7, .pointer (some ⟨s_.1, 0, none⟩)), (8, .pointer (some ⟨s_.2, 0, none⟩))]) (fun s_ w' => (w'.cell? ⟨gb162, 0, none⟩ = some (.int .i64 t168) ∧ w'.cell? ⟨gb162, 1, none⟩ = some (.int .i64 t169) ∧ w'.cell? ⟨gb162, 2, none⟩ = some (.int .i64 t170) ∧ w'.cell? ⟨gb162, 3, none⟩ = some (.int .i64 t171)) ∧ (w'.heap[gb162]? = some (.cells #[.int .i64 t168, .int .i64 t169, .int .i64 t170, .int .i64 t171] 60 (0, 0))) ∧ (w'.heap[gb163]? = some (.cells #[.int .i64 t172, .int .i64 t173, .int .i64 t174, .int .i64 t175] 60 (0, 0))) ∧ (w'.heap[s_.1]? = some (.cells #[.int .i64 0, .int .i64 0] 27 (0, 0))) ∧ (w'.heap[s_.2]? = some (.cells #[.int .i64 0, .int .i64 0] 27 (0, 0))) ∧ (w.heap.size ≤ s_.1) ∧ (w.heap.size ≤ s_.1) ∧ (gb162 ≠ s_.1) ∧ (s_.1 ≠ gb162) ∧ (gb163 ≠ s_.1) ∧ (s_.1 ≠ gb163) ∧ (s_.2 ≠ s_.1) ∧ (s_.1 ≠ s_.2) ∧ (w.heap.size ≤ s_.2) ∧ (w.heap.size ≤ s_.2) ∧ (gb162 ≠ s_.2) ∧ (s_.2 ≠ gb162) ∧ (gb163 ≠ s_.2) ∧ (s_.2 ≠ gb163) ∧ (Below w.heap.size w w')) ?_ ?_
       rotate_left
       ·
        intro hCont
        refine two_ (i := 4) (j := 5) (Ni := some 7) (Nj := some 8) #[true, true, true, true, true, false, false, false] #[true, true, true, true, false, true, false, false] rfl rfl rfl rfl (two_of HT_.out (by kernel_rfl)) (by decide) (by decide) (fun K hK => ?_) (fun K hK => ?_)
        ·
         skip
         refine box_step ?hg (N := 7) ?hd (cs := #[.int .i64 0, .int .i64 0]) (t := 27) ?hr ?_; (case hd => rfl); (case hg => rfl); (case hr => first | (go_simp; done) | (go_simp; rfl))
         intro gb176 hg w43 hbox hb
         have BK176 := Aside0.mk (hbox)
         have GW176 := Aside0.mk ((Hd.g_ hg Hd.b_ : w.heap.size ≤ gb176))
         have GE176 := Aside0.mk ((Hd.g_ hg Hd.b_ : w.heap.size ≤ gb176))
         replace HB := Aside0.mk (below_step Hd.b_ hb)
         have NB162_176 := Aside0.mk ((Hd.lt_ BK162 hg))
         have NB176_162 := Aside0.mk ((Hd.gt_ BK162 hg))
         replace BK162 := Aside0.mk (Hd.kb_ BK162 hb)
         have NB163_176 := Aside0.mk ((Hd.lt_ BK163 hg))
         have NB176_163 := Aside0.mk ((Hd.gt_ BK163 hg))
         replace BK163 := Aside0.mk (Hd.kb_ BK163 hb)
         clear hb hbox hg
         refine hK.out _ _ ⟨(blk_cell BK162.out 0).trans rfl, (blk_cell BK162.out 1).trans rfl, (blk_cell BK162.out 2).trans rfl, (blk_cell BK162.out 3).trans rfl⟩ (fun hHeld => ?_)
         clear hK K
         refine norm_ (a' := ?_) ?_ ?_
         rotate_left
         ·
          show Act.put _ (some 7) _ = _
          simp only [Act.put, List.setIfInBounds_toArray, List.set_cons_zero, List.set_cons_succ, i64_w, i32_w]
          rfl
         refine one_ (i := 5) (N := some 8) #[true, true, true, true, true, true, false, false] rfl rfl (one_of HT_.out (by kernel_rfl)) (by decide) (fun K hK => ?_)
         refine box_step ?hg (N := 8) ?hd (cs := #[.int .i64 0, .int .i64 0]) (t := 27) ?hr ?_; (case hd => rfl); (case hg => rfl); (case hr => first | (go_simp; done) | (go_simp; rfl))
         intro gb177 hg w44 hbox hb
         have BK177 := Aside0.mk (hbox)
         have GW177 := Aside0.mk ((Hd.g_ hg Hd.b_ : w.heap.size ≤ gb177))
         have GE177 := Aside0.mk ((Hd.g_ hg Hd.b_ : w.heap.size ≤ gb177))
         replace HB := Aside0.mk (below_step Hd.b_ hb)
         have NB162_177 := Aside0.mk ((Hd.lt_ BK162 hg))
         have NB177_162 := Aside0.mk ((Hd.gt_ BK162 hg))
         replace BK162 := Aside0.mk (Hd.kb_ BK162 hb)
         have NB163_177 := Aside0.mk ((Hd.lt_ BK163 hg))
         have NB177_163 := Aside0.mk ((Hd.gt_ BK163 hg))
         replace BK163 := Aside0.mk (Hd.kb_ BK163 hb)
         have NB176_177 := Aside0.mk ((Hd.lt_ BK176 hg))
         have NB177_176 := Aside0.mk ((Hd.gt_ BK176 hg))
         replace BK176 := Aside0.mk (Hd.kb_ BK176 hb)
         clear hb hbox hg
         refine hK.out _ _ ⟨(blk_cell BK162.out 0).trans rfl, (blk_cell BK162.out 1).trans rfl, (blk_cell BK162.out 2).trans rfl, (blk_cell BK162.out 3).trans rfl⟩ (fun hHeld => ?_)
         clear hK K
         refine norm_ (a' := ?_) ?_ ?_
         rotate_left
         ·
          show Act.put _ (some 8) _ = _
          simp only [Act.put, List.setIfInBounds_toArray, List.set_cons_zero, List.set_cons_succ, i64_w, i32_w]
          rfl
         exact norm_ (by simp only [putAll, Act.put, List.setIfInBounds_toArray, List.set_cons_zero, List.set_cons_succ]) (hCont (gb176, gb177) _ ⟨hHeld, (Hd.k_ BK162), (Hd.k_ BK163), (Hd.k_ BK176), (Hd.k_ BK177), GW176.out, GE176.out, NB162_176.out, NB176_162.out, NB163_176.out, NB176_163.out, NB177_176.out, NB176_177.out, GW177.out, GE177.out, NB162_177.out, NB177_162.out, NB163_177.out, NB177_163.out, Hd.b_⟩)
        ·
         skip
         refine box_step ?hg (N := 8) ?hd (cs := #[.int .i64 0, .int .i64 0]) (t := 27) ?hr ?_; (case hd => rfl); (case hg => rfl); (case hr => first | (go_simp; done) | (go_simp; rfl))
         intro gb177 hg w43 hbox hb
         have BK177 := Aside0.mk (hbox)
         have GW177 := Aside0.mk ((Hd.g_ hg Hd.b_ : w.heap.size ≤ gb177))
         have GE177 := Aside0.mk ((Hd.g_ hg Hd.b_ : w.heap.size ≤ gb177))
         replace HB := Aside0.mk (below_step Hd.b_ hb)
         have NB162_177 := Aside0.mk ((Hd.lt_ BK162 hg))
         have NB177_162 := Aside0.mk ((Hd.gt_ BK162 hg))
         replace BK162 := Aside0.mk (Hd.kb_ BK162 hb)
         have NB163_177 := Aside0.mk ((Hd.lt_ BK163 hg))
         have NB177_163 := Aside0.mk ((Hd.gt_ BK163 hg))
         replace BK163 := Aside0.mk (Hd.kb_ BK163 hb)
         clear hb hbox hg
         refine hK.out _ _ ⟨(blk_cell BK162.out 0).trans rfl, (blk_cell BK162.out 1).trans rfl, (blk_cell BK162.out 2).trans rfl, (blk_cell BK162.out 3).trans rfl⟩ (fun hHeld => ?_)
         clear hK K
         refine norm_ (a' := ?_) ?_ ?_
         rotate_left
         ·
          show Act.put _ (some 8) _ = _
          simp only [Act.put, List.setIfInBounds_toArray, List.set_cons_zero, List.set_cons_succ, i64_w, i32_w]
          rfl
         refine one_ (i := 4) (N := some 7) #[true, true, true, true, true, true, false, false] rfl rfl (one_of HT_.out (by kernel_rfl)) (by decide) (fun K hK => ?_)
         refine box_step ?hg (N := 7) ?hd (cs := #[.int .i64 0, .int .i64 0]) (t := 27) ?hr ?_; (case hd => rfl); (case hg => rfl); (case hr => first | (go_simp; done) | (go_simp; rfl))
         intro gb176 hg w44 hbox hb
         have BK176 := Aside0.mk (hbox)
         have GW176 := Aside0.mk ((Hd.g_ hg Hd.b_ : w.heap.size ≤ gb176))
         have GE176 := Aside0.mk ((Hd.g_ hg Hd.b_ : w.heap.size ≤ gb176))
         replace HB := Aside0.mk (below_step Hd.b_ hb)
         have NB162_176 := Aside0.mk ((Hd.lt_ BK162 hg))
         have NB176_162 := Aside0.mk ((Hd.gt_ BK162 hg))
         replace BK162 := Aside0.mk (Hd.kb_ BK162 hb)
         have NB163_176 := Aside0.mk ((Hd.lt_ BK163 hg))
         have NB176_163 := Aside0.mk ((Hd.gt_ BK163 hg))
         replace BK163 := Aside0.mk (Hd.kb_ BK163 hb)
         have NB177_176 := Aside0.mk ((Hd.lt_ BK177 hg))
         have NB176_177 := Aside0.mk ((Hd.gt_ BK177 hg))
         replace BK177 := Aside0.mk (Hd.kb_ BK177 hb)
         clear hb hbox hg
         refine hK.out _ _ ⟨(blk_cell BK162.out 0).trans rfl, (blk_cell BK162.out 1).trans rfl, (blk_cell BK162.out 2).trans rfl, (blk_cell BK162.out 3).trans rfl⟩ (fun hHeld => ?_)
         clear hK K
         refine norm_ (a' := ?_) ?_ ?_
         rotate_left
         ·
          show Act.put _ (some 7) _ = _
          simp only [Act.put, List.setIfInBounds_toArray, List.set_cons_zero, List.set_cons_succ, i64_w, i32_w]
          rfl
         exact norm_ (by simp only [putAll, Act.put, List.setIfInBounds_toArray, List.set_cons_zero, List.set_cons_succ]) (hCont (gb176, gb177) _ ⟨hHeld, (Hd.k_ BK162), (Hd.k_ BK163), (Hd.k_ BK176), (Hd.k_ BK177), GW176.out, GE176.out, NB162_176.out, NB176_162.out, NB163_176.out, NB176_163.out, NB177_176.out, NB176_177.out, GW177.out, GE177.out, NB162_177.out, NB177_162.out, NB163_177.out, NB177_163.out, Hd.b_⟩)
       rintro ⟨gb176, gb177⟩ w45 ⟨hS_, h0_, h1_, h2_, h3_, h4_, h5_, h6_, h7_, h8_, h9_, h10_, h11_, h12_, h13_, h14_, h15_, h16_, h17_, h18_⟩
       have n0_ : Aside0 (w45.heap[gb162]? = some (.cells #[.int .i64 t168, .int .i64 t169, .int .i64 t170, .int .i64 t171] 60 (0, 0))) := ⟨h0_⟩
       have n1_ : Aside0 (w45.heap[gb163]? = some (.cells #[.int .i64 t172, .int .i64 t173, .int .i64 t174, .int .i64 t175] 60 (0, 0))) := ⟨h1_⟩
       have n2_ : Aside0 (w45.heap[gb176]? = some (.cells #[.int .i64 0, .int .i64 0] 27 (0, 0))) := ⟨h2_⟩
       have n3_ : Aside0 (w45.heap[gb177]? = some (.cells #[.int .i64 0, .int .i64 0] 27 (0, 0))) := ⟨h3_⟩
       have n4_ : Aside0 (w.heap.size ≤ gb176) := ⟨h4_⟩
       have n5_ : Aside0 (w.heap.size ≤ gb176) := ⟨h5_⟩
       have n6_ : Aside0 (gb162 ≠ gb176) := ⟨h6_⟩
       have n7_ : Aside0 (gb176 ≠ gb162) := ⟨h7_⟩
       have n8_ : Aside0 (gb163 ≠ gb176) := ⟨h8_⟩
       have n9_ : Aside0 (gb176 ≠ gb163) := ⟨h9_⟩
       have n10_ : Aside0 (gb177 ≠ gb176) := ⟨h10_⟩
       have n11_ : Aside0 (gb176 ≠ gb177) := ⟨h11_⟩
       have n12_ : Aside0 (w.heap.size ≤ gb177) := ⟨h12_⟩
       have n13_ : Aside0 (w.heap.size ≤ gb177) := ⟨h13_⟩
       have n14_ : Aside0 (gb162 ≠ gb177) := ⟨h14_⟩
       have n15_ : Aside0 (gb177 ≠ gb162) := ⟨h15_⟩
       have n16_ : Aside0 (gb163 ≠ gb177) := ⟨h16_⟩
       have n17_ : Aside0 (gb177 ≠ gb163) := ⟨h17_⟩
       have n18_ : Aside0 (Below w.heap.size w w45) := ⟨h18_⟩
       clear BK162
       clear BK163
       clear HB
       clear h0_ h1_ h2_ h3_ h4_ h5_ h6_ h7_ h8_ h9_ h10_ h11_ h12_ h13_ h14_ h15_ h16_ h17_ h18_
       have BK162 := n0_
       have BK163 := n1_
       have BK176 := n2_
       have BK177 := n3_
       have GW176 := n4_
       have GE176 := n5_
       have NB162_176 := n6_
       have NB176_162 := n7_
       have NB163_176 := n8_
       have NB176_163 := n9_
       have NB177_176 := n10_
       have NB176_177 := n11_
       have GW177 := n12_
       have GE177 := n13_
       have NB162_177 := n14_
       have NB177_162 := n15_
       have NB163_177 := n16_
       have NB177_163 := n17_
       have HB := n18_
       clear n0_ n1_ n2_ n3_ n4_ n5_ n6_ n7_ n8_ n9_ n10_ n11_ n12_ n13_ n14_ n15_ n16_ n17_ n18_
       have hHeld : w45.cell? ⟨gb162, 0, none⟩ = some (.int .i64 t168) ∧ w45.cell? ⟨gb162, 1, none⟩ = some (.int .i64 t169) ∧ w45.cell? ⟨gb162, 2, none⟩ = some (.int .i64 t170) ∧ w45.cell? ⟨gb162, 3, none⟩ = some (.int .i64 t171) := hS_
       refine norm_ (a' := ?_) ?_ ?_
       rotate_left
       ·
        simp only [putAll, Act.put, List.setIfInBounds_toArray, List.set_cons_zero, List.set_cons_succ]
        rfl
       refine one_ (i := 6) (N := none) #[true, true, true, true, true, true, true, false] rfl rfl (one_of HT_.out (by kernel_rfl)) (by decide) (fun K hK => ?_)
       have hs46 : w45.cell? ⟨gb176, 0, none⟩ = some (.int .i64 0) := (blk_cell BK176.out 0).trans rfl
       have hfs46 := blk_frozen BK176.out 0
       have hns46_0 := NB162_176.out
       have hns46_1 := NB163_176.out
       have hns46_3 := NB177_176.out
       have hms46_0 := NB176_162.out
       have hms46_1 := NB176_163.out
       have hms46_3 := NB176_177.out
       have hs47 : w45.cell? ⟨gb176, 1, none⟩ = some (.int .i64 0) := (blk_cell BK176.out 1).trans rfl
       have hfs47 := blk_frozen BK176.out 1
       have hns47_0 := NB162_176.out
       have hns47_1 := NB163_176.out
       have hns47_3 := NB177_176.out
       have hms47_0 := NB176_162.out
       have hms47_1 := NB176_163.out
       have hms47_3 := NB176_177.out
       refine skip_ (w1 := ?_) (by rfl) rfl ?_ ?_
       rotate_left
       ·
        go_simp
        rfl
       refine hK.out _ _ ⟨((cell_far (p := ⟨gb176, _, none⟩) NB162_176.out _).trans (((cell_far (p := ⟨gb176, _, none⟩) NB162_176.out _).trans (hHeld.1)))), ((cell_far (p := ⟨gb176, _, none⟩) NB162_176.out _).trans (((cell_far (p := ⟨gb176, _, none⟩) NB162_176.out _).trans (hHeld.2.1)))), ((cell_far (p := ⟨gb176, _, none⟩) NB162_176.out _).trans (((cell_far (p := ⟨gb176, _, none⟩) NB162_176.out _).trans (hHeld.2.2.1)))), ((cell_far (p := ⟨gb176, _, none⟩) NB162_176.out _).trans (((cell_far (p := ⟨gb176, _, none⟩) NB162_176.out _).trans (hHeld.2.2.2))))⟩ (fun hHeld => ?_)
       clear hK K
       refine one_ (i := 7) (N := none) #[true, true, true, true, true, true, true, true] rfl rfl (one_of HT_.out (by kernel_rfl)) (by decide) (fun K hK => ?_)
       have hs48 : w45.cell? ⟨gb177, 0, none⟩ = some (.int .i64 0) := (blk_cell BK177.out 0).trans rfl
       have hfs48 := blk_frozen BK177.out 0
       have hns48_0 := NB162_177.out
       have hns48_1 := NB163_177.out
       have hns48_2 := NB176_177.out
       have hms48_0 := NB177_162.out
       have hms48_1 := NB177_163.out
       have hms48_2 := NB177_176.out
       have hs49 : w45.cell? ⟨gb177, 1, none⟩ = some (.int .i64 0) := (blk_cell BK177.out 1).trans rfl
       have hfs49 := blk_frozen BK177.out 1
       have hns49_0 := NB162_177.out
       have hns49_1 := NB163_177.out
       have hns49_2 := NB176_177.out
       have hms49_0 := NB177_162.out
       have hms49_1 := NB177_163.out
       have hms49_2 := NB177_176.out
       refine skip_ (w1 := ?_) (by rfl) rfl ?_ ?_
       rotate_left
       ·
        go_simp
        rfl
       refine hK.out _ _ ⟨((cell_far (p := ⟨gb177, _, none⟩) NB162_177.out _).trans (((cell_far (p := ⟨gb177, _, none⟩) NB162_177.out _).trans (hHeld.1)))), ((cell_far (p := ⟨gb177, _, none⟩) NB162_177.out _).trans (((cell_far (p := ⟨gb177, _, none⟩) NB162_177.out _).trans (hHeld.2.1)))), ((cell_far (p := ⟨gb177, _, none⟩) NB162_177.out _).trans (((cell_far (p := ⟨gb177, _, none⟩) NB162_177.out _).trans (hHeld.2.2.1)))), ((cell_far (p := ⟨gb177, _, none⟩) NB162_177.out _).trans (((cell_far (p := ⟨gb177, _, none⟩) NB162_177.out _).trans (hHeld.2.2.2))))⟩ (fun hHeld => ?_)
       clear hK K
       refine done_ (done_of HT_.out (by kernel_rfl)) ?_
       have hnb50 := NB176_162.out
       have hnc50 := NB162_176.out
       have hnb51 := NB176_163.out
       have hnc51 := NB163_176.out
       have hnb52 := NB176_177.out
       have hnc52 := NB177_176.out
       obtain ⟨hcz53_0, hcz53_1⟩ := Hd.c2_ BK176.out
       obtain ⟨hfz53_0, hfz53_1⟩ := Hd.f2_ BK176.out
       have hnb54 := NB163_162.out
       have hnc54 := NB162_163.out
       have hnb55 := NB163_177.out
       have hnc55 := NB177_163.out
       obtain ⟨hcz56_0, hcz56_1, hcz56_2, hcz56_3⟩ := Hd.c4_ BK163.out
       obtain ⟨hfz56_0, hfz56_1, hfz56_2, hfz56_3⟩ := Hd.f4_ BK163.out
       go_upto_if 48 with (first | ((with_reducible refine gate_callee (f := 130) rfl ?_); refine goesL_ (some 48) rfl rfl Try.func130 (by kernel_rfl) rfl #[.agg #[.int .i64 t168, .int .i64 t169], .agg #[.int .i64 t172, .int .i64 t173]] rfl Hd.m_ ?_; (with_reducible refine (impl_BeforePoint.calls t168 t169 t172 t173 t178 _ A28.out).mono ?_); rintro e w57 ⟨rfl, hb⟩; refine ⟨_, rfl, ?_⟩; replace BK162 := Aside0.mk (blk_below (g := gb162) (o := .cells #[.int .i64 t168, .int .i64 t169, .int .i64 t170, .int .i64 t171] 60 (0, 0)) (by (with_reducible repeat (first | refine blk_drewN ?_ _ | refine blk_drew ?_ | refine blk_alloc ?_ _)); refine blk_far ?_ NB162_177.out _; (with_reducible repeat (first | refine blk_drewN ?_ _ | refine blk_drew ?_ | refine blk_alloc ?_ _)); refine blk_far ?_ NB162_177.out _; (with_reducible repeat (first | refine blk_drewN ?_ _ | refine blk_drew ?_ | refine blk_alloc ?_ _)); refine blk_far ?_ NB162_176.out _; (with_reducible repeat (first | refine blk_drewN ?_ _ | refine blk_drew ?_ | refine blk_alloc ?_ _)); refine blk_far ?_ NB162_176.out _; (with_reducible repeat (first | refine blk_drewN ?_ _ | refine blk_drew ?_ | refine blk_alloc ?_ _)); exact BK162.out) hb); replace BK163 := Aside0.mk (blk_below (g := gb163) (o := .cells #[.int .i64 t172, .int .i64 t173, .int .i64 t174, .int .i64 t175] 60 (0, 0)) (by (with_reducible repeat (first | refine blk_drewN ?_ _ | refine blk_drew ?_ | refine blk_alloc ?_ _)); refine blk_far ?_ NB163_177.out _; (with_reducible repeat (first | refine blk_drewN ?_ _ | refine blk_drew ?_ | refine blk_alloc ?_ _)); refine blk_far ?_ NB163_177.out _; (with_reducible repeat (first | refine blk_drewN ?_ _ | refine blk_drew ?_ | refine blk_alloc ?_ _)); refine blk_far ?_ NB163_176.out _; (with_reducible repeat (first | refine blk_drewN ?_ _ | refine blk_drew ?_ | refine blk_alloc ?_ _)); refine blk_far ?_ NB163_176.out _; (with_reducible repeat (first | refine blk_drewN ?_ _ | refine blk_drew ?_ | refine blk_alloc ?_ _)); exact BK163.out) hb); replace BK176 := Aside0.mk (blk_below (g := gb176) (o := .cells #[.int .i64 t168, .int .i64 t169] 27 (0, 0)) (by (with_reducible repeat (first | refine blk_drewN ?_ _ | refine blk_drew ?_ | refine blk_alloc ?_ _)); refine blk_far ?_ NB176_177.out _; (with_reducible repeat (first | refine blk_drewN ?_ _ | refine blk_drew ?_ | refine blk_alloc ?_ _)); refine blk_far ?_ NB176_177.out _; (with_reducible repeat (first | refine blk_drewN ?_ _ | refine blk_drew ?_ | refine blk_alloc ?_ _)); refine blk_put (cs := #[.int .i64 t168, .int .i64 0]) ?_ 1 _ rfl; (with_reducible repeat (first | refine blk_drewN ?_ _ | refine blk_drew ?_ | refine blk_alloc ?_ _)); refine blk_put (cs := #[.int .i64 0, .int .i64 0]) ?_ 0 _ rfl; (with_reducible repeat (first | refine blk_drewN ?_ _ | refine blk_drew ?_ | refine blk_alloc ?_ _)); exact BK176.out) hb); replace BK177 := Aside0.mk (blk_below (g := gb177) (o := .cells #[.int .i64 t170, .int .i64 t171] 27 (0, 0)) (by (with_reducible repeat (first | refine blk_drewN ?_ _ | refine blk_drew ?_ | refine blk_alloc ?_ _)); refine blk_put (cs := #[.int .i64 t170, .int .i64 0]) ?_ 1 _ rfl; (with_reducible repeat (first | refine blk_drewN ?_ _ | refine blk_drew ?_ | refine blk_alloc ?_ _)); refine blk_put (cs := #[.int .i64 0, .int .i64 0]) ?_ 0 _ rfl; (with_reducible repeat (first | refine blk_drewN ?_ _ | refine blk_drew ?_ | refine blk_alloc ?_ _)); refine blk_far ?_ NB177_176.out _; (with_reducible repeat (first | refine blk_drewN ?_ _ | refine blk_drew ?_ | refine blk_alloc ?_ _)); refine blk_far ?_ NB177_176.out _; (with_reducible repeat (first | refine blk_drewN ?_ _ | refine blk_drew ?_ | refine blk_alloc ?_ _)); exact BK177.out) hb); replace HB := Aside0.mk (below_step Hd.b_ hb); (try clear hb); (try clear hb2); (try clear hk); (try clear hi)))
       (try simp only [Act.put, List.setIfInBounds_toArray, List.set_cons_zero, List.set_cons_succ])
       go_cut [] (fun wc => ∃ (kq : Nat) (x177000_28 : Int) (x177001_28 : Int), Aside0 (impl_HowMeet.j2 kq t172 t173 t174 t175 x177000_28 x177001_28 t170 t171 = some r) ∧ Aside0 (kq ≤ kj19) ∧ Aside0 (wc.heap[gb162]? = some (.cells #[.int .i64 t168, .int .i64 t169, .int .i64 t170, .int .i64 t171] 60 (0, 0))) ∧ Aside0 (wc.heap[gb163]? = some (.cells #[.int .i64 t172, .int .i64 t173, .int .i64 t174, .int .i64 t175] 60 (0, 0))) ∧ Aside0 (wc.heap[gb176]? = some (.cells #[.int .i64 x177000_28, .int .i64 x177001_28] 27 (0, 0))) ∧ Aside0 (wc.heap[gb177]? = some (.cells #[.int .i64 t170, .int .i64 t171] 27 (0, 0))) ∧ Aside0 (Below w.heap.size w wc))
       case first =>
        have H := HC29.out
        clear HC29
        by_cases c58 : t178 = true
        ·
         subst c58
         have H1 : (impl_HowMeet.j2 kj19 t172 t173 t174 t175 t172 t173 t170 t171) = some r := by rw [if_pos rfl] at H; exact H
         clear H
         have H := H1
         clear H1
         have H' := Aside0.mk H
         clear H
         have hnb59 := NB163_162.out
         have hnc59 := NB162_163.out
         have hnb60 := NB163_176.out
         have hnc60 := NB176_163.out
         have hnb61 := NB163_177.out
         have hnc61 := NB177_163.out
         obtain ⟨hcz62_0, hcz62_1, hcz62_2, hcz62_3⟩ := Hd.c4_ BK163.out
         obtain ⟨hfz62_0, hfz62_1, hfz62_2, hfz62_3⟩ := Hd.f4_ BK163.out
         have hnb63 := NB176_162.out
         have hnc63 := NB162_176.out
         have hnb64 := NB176_177.out
         have hnc64 := NB177_176.out
         obtain ⟨hcz65_0, hcz65_1⟩ := Hd.c2_ BK176.out
         obtain ⟨hfz65_0, hfz65_1⟩ := Hd.f2_ BK176.out
         go_wp2
         go_meet
         case rel => exact ⟨_, (t172), (t173), H', ⟨by have := HJ2.out; have := HJ19.out; first | omega | exact Nat.le_refl _⟩, ⟨by (with_reducible repeat (first | refine blk_drewN ?_ _ | refine blk_drew ?_ | refine blk_alloc ?_ _)); refine blk_far ?_ NB162_176.out _; (with_reducible repeat (first | refine blk_drewN ?_ _ | refine blk_drew ?_ | refine blk_alloc ?_ _)); refine blk_far ?_ NB162_176.out _; (with_reducible repeat (first | refine blk_drewN ?_ _ | refine blk_drew ?_ | refine blk_alloc ?_ _)); exact BK162.out⟩, ⟨by (with_reducible repeat (first | refine blk_drewN ?_ _ | refine blk_drew ?_ | refine blk_alloc ?_ _)); refine blk_far ?_ NB163_176.out _; (with_reducible repeat (first | refine blk_drewN ?_ _ | refine blk_drew ?_ | refine blk_alloc ?_ _)); refine blk_far ?_ NB163_176.out _; (with_reducible repeat (first | refine blk_drewN ?_ _ | refine blk_drew ?_ | refine blk_alloc ?_ _)); exact BK163.out⟩, ⟨by (with_reducible repeat (first | refine blk_drewN ?_ _ | refine blk_drew ?_ | refine blk_alloc ?_ _)); refine blk_put (cs := #[.int .i64 t172, .int .i64 t169]) ?_ 1 _ rfl; (with_reducible repeat (first | refine blk_drewN ?_ _ | refine blk_drew ?_ | refine blk_alloc ?_ _)); refine blk_put (cs := #[.int .i64 t168, .int .i64 t169]) ?_ 0 _ rfl; (with_reducible repeat (first | refine blk_drewN ?_ _ | refine blk_drew ?_ | refine blk_alloc ?_ _)); exact BK176.out⟩, ⟨by (with_reducible repeat (first | refine blk_drewN ?_ _ | refine blk_drew ?_ | refine blk_alloc ?_ _)); refine blk_far ?_ NB177_176.out _; (with_reducible repeat (first | refine blk_drewN ?_ _ | refine blk_drew ?_ | refine blk_alloc ?_ _)); refine blk_far ?_ NB177_176.out _; (with_reducible repeat (first | refine blk_drewN ?_ _ | refine blk_drew ?_ | refine blk_alloc ?_ _)); exact BK177.out⟩, ⟨Hd.b_⟩⟩
        ·
         replace c58 := Bool.eq_false_iff.mpr c58
         subst c58
         have H1 : (impl_HowMeet.j2 kj19 t172 t173 t174 t175 t168 t169 t170 t171) = some r := by rw [if_neg (show ¬ (false = true) by decide)] at H; exact H
         clear H
         have H := H1
         clear H1
         have H' := Aside0.mk H
         clear H
         go_wp2
         go_meet
         case rel => exact ⟨_, (t168), (t169), H', ⟨by have := HJ2.out; have := HJ19.out; first | omega | exact Nat.le_refl _⟩, ⟨by (with_reducible repeat (first | refine blk_drewN ?_ _ | refine blk_drew ?_ | refine blk_alloc ?_ _)); exact BK162.out⟩, ⟨by (with_reducible repeat (first | refine blk_drewN ?_ _ | refine blk_drew ?_ | refine blk_alloc ?_ _)); exact BK163.out⟩, ⟨by (with_reducible repeat (first | refine blk_drewN ?_ _ | refine blk_drew ?_ | refine blk_alloc ?_ _)); exact BK176.out⟩, ⟨by (with_reducible repeat (first | refine blk_drewN ?_ _ | refine blk_drew ?_ | refine blk_alloc ?_ _)); exact BK177.out⟩, ⟨Hd.b_⟩⟩
       case rest =>
        clear HC29
        try clear c1
        try clear c2
        try clear p2
        try clear c5
        try clear c6
        try clear c7
        try clear c9
        try clear c10
        try clear c11
        try clear c12
        try clear c13
        try clear c14
        try clear c17
        try clear c24
        try clear c24b0
        try clear c24b1
        try clear c25
        try clear c50
        try clear c51
        try clear c52
        try clear c54
        try clear c55
        try clear c58
        try clear c59
        try clear c60
        try clear c61
        try clear c63
        try clear c64
        try clear hcz10_0
        try clear hcz10_1
        try clear hcz10_2
        try clear hcz10_3
        try clear hcz12_0
        try clear hcz12_1
        try clear hcz12_2
        try clear hcz12_3
        try clear hcz15_0
        try clear hcz15_1
        try clear hcz15_2
        try clear hcz15_3
        try clear hcz53_0
        try clear hcz53_1
        try clear hcz56_0
        try clear hcz56_1
        try clear hcz56_2
        try clear hcz56_3
        try clear hcz62_0
        try clear hcz62_1
        try clear hcz62_2
        try clear hcz62_3
        try clear hcz65_0
        try clear hcz65_1
        try clear hfz10_0
        try clear hfz10_1
        try clear hfz10_2
        try clear hfz10_3
        try clear hfz12_0
        try clear hfz12_1
        try clear hfz12_2
        try clear hfz12_3
        try clear hfz15_0
        try clear hfz15_1
        try clear hfz15_2
        try clear hfz15_3
        try clear hfz53_0
        try clear hfz53_1
        try clear hfz56_0
        try clear hfz56_1
        try clear hfz56_2
        try clear hfz56_3
        try clear hfz62_0
        try clear hfz62_1
        try clear hfz62_2
        try clear hfz62_3
        try clear hfz65_0
        try clear hfz65_1
        try clear p2
        obtain ⟨kq, x177000_28, x177001_28, HA, HJ28, BK162, BK163, BK176, BK177, HB⟩ := hcut
        cases kq with
        | zero => exact absurd HA.out (by simp [impl_HowMeet.j2])
        | succ kj28 =>
         have H := HA.out
         clear HA
         simp only [impl_HowMeet.j2] at H
         replace H := Option.bind_eq_some_iff.mp H
         obtain ⟨t179, A660, H⟩ := H
         replace H : (if t179 = true then (impl_HowMeet.j3 kj28 x177000_28 x177001_28 t174 t175) else (impl_HowMeet.j3 kj28 x177000_28 x177001_28 t170 t171)) = some r := H
         have A66 := Aside0.mk A660
         clear A660
         have HC67 := Aside0.mk H
         clear H
         have hnb68 := NB163_162.out
         have hnc68 := NB162_163.out
         have hnb69 := NB163_176.out
         have hnc69 := NB176_163.out
         have hnb70 := NB163_177.out
         have hnc70 := NB177_163.out
         obtain ⟨hcz71_0, hcz71_1, hcz71_2, hcz71_3⟩ := Hd.c4_ BK163.out
         obtain ⟨hfz71_0, hfz71_1, hfz71_2, hfz71_3⟩ := Hd.f4_ BK163.out
         have hnb72 := NB177_162.out
         have hnc72 := NB162_177.out
         have hnb73 := NB177_176.out
         have hnc73 := NB176_177.out
         obtain ⟨hcz74_0, hcz74_1⟩ := Hd.c2_ BK177.out
         obtain ⟨hfz74_0, hfz74_1⟩ := Hd.f2_ BK177.out
         go_upto_if 54 with (first | ((with_reducible refine gate_callee (f := 130) rfl ?_); refine goesL_ (some 54) rfl rfl Try.func130 (by kernel_rfl) rfl #[.agg #[.int .i64 t174, .int .i64 t175], .agg #[.int .i64 t170, .int .i64 t171]] rfl Hd.m_ ?_; (with_reducible refine (impl_BeforePoint.calls t174 t175 t170 t171 t179 _ A66.out).mono ?_); rintro e w75 ⟨rfl, hb⟩; refine ⟨_, rfl, ?_⟩; replace BK162 := Aside0.mk (Hd.kb_ BK162 hb); replace BK163 := Aside0.mk (Hd.kb_ BK163 hb); replace BK176 := Aside0.mk (Hd.kb_ BK176 hb); replace BK177 := Aside0.mk (Hd.kb_ BK177 hb); replace HB := Aside0.mk (below_step Hd.b_ hb); (try clear hb); (try clear hb2); (try clear hk); (try clear hi)))
         (try simp only [Act.put, List.setIfInBounds_toArray, List.set_cons_zero, List.set_cons_succ])
         go_cut [] (fun wc => ∃ (kq : Nat) (x178000_66 : Int) (x178001_66 : Int), Aside0 (impl_HowMeet.j3 kq x177000_28 x177001_28 x178000_66 x178001_66 = some r) ∧ Aside0 (kq ≤ kj28) ∧ Aside0 (wc.heap[gb162]? = some (.cells #[.int .i64 t168, .int .i64 t169, .int .i64 t170, .int .i64 t171] 60 (0, 0))) ∧ Aside0 (wc.heap[gb163]? = some (.cells #[.int .i64 t172, .int .i64 t173, .int .i64 t174, .int .i64 t175] 60 (0, 0))) ∧ Aside0 (wc.heap[gb176]? = some (.cells #[.int .i64 x177000_28, .int .i64 x177001_28] 27 (0, 0))) ∧ Aside0 (wc.heap[gb177]? = some (.cells #[.int .i64 x178000_66, .int .i64 x178001_66] 27 (0, 0))) ∧ Aside0 (Below w.heap.size w wc))
         case first =>
          have H := HC67.out
          clear HC67
          by_cases c76 : t179 = true
          ·
           subst c76
           have H1 : (impl_HowMeet.j3 kj28 x177000_28 x177001_28 t174 t175) = some r := by rw [if_pos rfl] at H; exact H
           clear H
           have H := H1
           clear H1
           have H' := Aside0.mk H
           clear H
           have hnb77 := NB163_162.out
           have hnc77 := NB162_163.out
           have hnb78 := NB163_176.out
           have hnc78 := NB176_163.out
           have hnb79 := NB163_177.out
           have hnc79 := NB177_163.out
           obtain ⟨hcz80_0, hcz80_1, hcz80_2, hcz80_3⟩ := Hd.c4_ BK163.out
           obtain ⟨hfz80_0, hfz80_1, hfz80_2, hfz80_3⟩ := Hd.f4_ BK163.out
           have hnb81 := NB177_162.out
           have hnc81 := NB162_177.out
           have hnb82 := NB177_176.out
           have hnc82 := NB176_177.out
           obtain ⟨hcz83_0, hcz83_1⟩ := Hd.c2_ BK177.out
           obtain ⟨hfz83_0, hfz83_1⟩ := Hd.f2_ BK177.out
           go_wp2
           go_meet
           case rel => exact ⟨_, (t174), (t175), H', ⟨by have := HJ2.out; have := HJ19.out; have := HJ28.out; first | omega | exact Nat.le_refl _⟩, ⟨by (with_reducible repeat (first | refine blk_drewN ?_ _ | refine blk_drew ?_ | refine blk_alloc ?_ _)); refine blk_far ?_ NB162_177.out _; (with_reducible repeat (first | refine blk_drewN ?_ _ | refine blk_drew ?_ | refine blk_alloc ?_ _)); refine blk_far ?_ NB162_177.out _; (with_reducible repeat (first | refine blk_drewN ?_ _ | refine blk_drew ?_ | refine blk_alloc ?_ _)); exact BK162.out⟩, ⟨by (with_reducible repeat (first | refine blk_drewN ?_ _ | refine blk_drew ?_ | refine blk_alloc ?_ _)); refine blk_far ?_ NB163_177.out _; (with_reducible repeat (first | refine blk_drewN ?_ _ | refine blk_drew ?_ | refine blk_alloc ?_ _)); refine blk_far ?_ NB163_177.out _; (with_reducible repeat (first | refine blk_drewN ?_ _ | refine blk_drew ?_ | refine blk_alloc ?_ _)); exact BK163.out⟩, ⟨by (with_reducible repeat (first | refine blk_drewN ?_ _ | refine blk_drew ?_ | refine blk_alloc ?_ _)); refine blk_far ?_ NB176_177.out _; (with_reducible repeat (first | refine blk_drewN ?_ _ | refine blk_drew ?_ | refine blk_alloc ?_ _)); refine blk_far ?_ NB176_177.out _; (with_reducible repeat (first | refine blk_drewN ?_ _ | refine blk_drew ?_ | refine blk_alloc ?_ _)); exact BK176.out⟩, ⟨by (with_reducible repeat (first | refine blk_drewN ?_ _ | refine blk_drew ?_ | refine blk_alloc ?_ _)); refine blk_put (cs := #[.int .i64 t174, .int .i64 t171]) ?_ 1 _ rfl; (with_reducible repeat (first | refine blk_drewN ?_ _ | refine blk_drew ?_ | refine blk_alloc ?_ _)); refine blk_put (cs := #[.int .i64 t170, .int .i64 t171]) ?_ 0 _ rfl; (with_reducible repeat (first | refine blk_drewN ?_ _ | refine blk_drew ?_ | refine blk_alloc ?_ _)); exact BK177.out⟩, ⟨Hd.b_⟩⟩
          ·
           replace c76 := Bool.eq_false_iff.mpr c76
           subst c76
           have H1 : (impl_HowMeet.j3 kj28 x177000_28 x177001_28 t170 t171) = some r := by rw [if_neg (show ¬ (false = true) by decide)] at H; exact H
           clear H
           have H := H1
           clear H1
           have H' := Aside0.mk H
           clear H
           go_wp2
           go_meet
           case rel => exact ⟨_, (t170), (t171), H', ⟨by have := HJ2.out; have := HJ19.out; have := HJ28.out; first | omega | exact Nat.le_refl _⟩, ⟨by (with_reducible repeat (first | refine blk_drewN ?_ _ | refine blk_drew ?_ | refine blk_alloc ?_ _)); exact BK162.out⟩, ⟨by (with_reducible repeat (first | refine blk_drewN ?_ _ | refine blk_drew ?_ | refine blk_alloc ?_ _)); exact BK163.out⟩, ⟨by (with_reducible repeat (first | refine blk_drewN ?_ _ | refine blk_drew ?_ | refine blk_alloc ?_ _)); exact BK176.out⟩, ⟨by (with_reducible repeat (first | refine blk_drewN ?_ _ | refine blk_drew ?_ | refine blk_alloc ?_ _)); exact BK177.out⟩, ⟨Hd.b_⟩⟩
         case rest =>
          clear HC67
          try clear c1
          try clear c2
          try clear p2
          try clear c5
          try clear c6
          try clear c7
          try clear c8
          try clear c9
          try clear c10
          try clear c11
          try clear c12
          try clear c13
          try clear c14
          try clear c17
          try clear c24
          try clear c24b0
          try clear c24b1
          try clear c25
          try clear c50
          try clear c51
          try clear c52
          try clear c54
          try clear c55
          try clear c58
          try clear c59
          try clear c60
          try clear c61
          try clear c63
          try clear c64
          try clear c68
          try clear c69
          try clear c70
          try clear c72
          try clear c73
          try clear c76
          try clear c77
          try clear c78
          try clear c79
          try clear c81
          try clear c82
          try clear hcz10_0
          try clear hcz10_1
          try clear hcz10_2
          try clear hcz10_3
          try clear hcz12_0
          try clear hcz12_1
          try clear hcz12_2
          try clear hcz12_3
          try clear hcz15_0
          try clear hcz15_1
          try clear hcz15_2
          try clear hcz15_3
          try clear hcz53_0
          try clear hcz53_1
          try clear hcz56_0
          try clear hcz56_1
          try clear hcz56_2
          try clear hcz56_3
          try clear hcz62_0
          try clear hcz62_1
          try clear hcz62_2
          try clear hcz62_3
          try clear hcz65_0
          try clear hcz65_1
          try clear hcz71_0
          try clear hcz71_1
          try clear hcz71_2
          try clear hcz71_3
          try clear hcz74_0
          try clear hcz74_1
          try clear hcz80_0
          try clear hcz80_1
          try clear hcz80_2
          try clear hcz80_3
          try clear hcz83_0
          try clear hcz83_1
          try clear hfz10_0
          try clear hfz10_1
          try clear hfz10_2
          try clear hfz10_3
          try clear hfz12_0
          try clear hfz12_1
          try clear hfz12_2
          try clear hfz12_3
          try clear hfz15_0
          try clear hfz15_1
          try clear hfz15_2
          try clear hfz15_3
          try clear hfz53_0
          try clear hfz53_1
          try clear hfz56_0
          try clear hfz56_1
          try clear hfz56_2
          try clear hfz56_3
          try clear hfz62_0
          try clear hfz62_1
          try clear hfz62_2
          try clear hfz62_3
          try clear hfz65_0
          try clear hfz65_1
          try clear hfz71_0
          try clear hfz71_1
          try clear hfz71_2
          try clear hfz71_3
          try clear hfz74_0
          try clear hfz74_1
          try clear hfz80_0
          try clear hfz80_1
          try clear hfz80_2
          try clear hfz80_3
          try clear hfz83_0
          try clear hfz83_1
          try clear p2
          obtain ⟨kq, x178000_66, x178001_66, HA, HJ66, BK162, BK163, BK176, BK177, HB⟩ := hcut
          cases kq with
          | zero => exact absurd HA.out (by simp [impl_HowMeet.j3])
          | succ kj66 =>
           have H := HA.out
           clear HA
           simp only [impl_HowMeet.j3] at H
           replace H := Option.bind_eq_some_iff.mp H
           obtain ⟨t180, A840, H⟩ := H
           replace H : (if t180 = true then (some 0) else (if (x177000_28 == x178000_66 && (x177001_28 == x178001_66)) = true then (some 1) else (some 3))) = some r := H
           have A84 := Aside0.mk A840
           clear A840
           by_cases c85 : t180 = true
           ·
            subst c85
            have H1 : (some 0) = some r := by rw [if_pos rfl] at H; exact H
            clear H
            have H := H1
            clear H1
            obtain rfl := Option.some.inj H
            have hnb86 := NB177_162.out
            have hnc86 := NB162_177.out
            have hnb87 := NB177_163.out
            have hnc87 := NB163_177.out
            have hnb88 := NB177_176.out
            have hnc88 := NB176_177.out
            obtain ⟨hcz89_0, hcz89_1⟩ := Hd.c2_ BK177.out
            obtain ⟨hfz89_0, hfz89_1⟩ := Hd.f2_ BK177.out
            have hnb90 := NB176_162.out
            have hnc90 := NB162_176.out
            have hnb91 := NB176_163.out
            have hnc91 := NB163_176.out
            obtain ⟨hcz92_0, hcz92_1⟩ := Hd.c2_ BK176.out
            obtain ⟨hfz92_0, hfz92_1⟩ := Hd.f2_ BK176.out
            go_wp2_with (first | ((with_reducible refine gate_callee (f := 130) rfl ?_); refine goesL_ (some 60) rfl rfl Try.func130 (by kernel_rfl) rfl #[.agg #[.int .i64 x178000_66, .int .i64 x178001_66], .agg #[.int .i64 x177000_28, .int .i64 x177001_28]] rfl Hd.m_ ?_; (with_reducible refine (impl_BeforePoint.calls x178000_66 x178001_66 x177000_28 x177001_28 true _ A84.out).mono ?_); rintro e w93 ⟨rfl, hb⟩; refine ⟨_, rfl, ?_⟩; replace BK162 := Aside0.mk (Hd.kb_ BK162 hb); replace BK163 := Aside0.mk (Hd.kb_ BK163 hb); replace BK176 := Aside0.mk (Hd.kb_ BK176 hb); replace BK177 := Aside0.mk (Hd.kb_ BK177 hb); replace HB := Aside0.mk (below_step Hd.b_ hb); (try clear hb); (try clear hb2); (try clear hk); (try clear hi)))
            go_ret
            exact ⟨Hd.e_, Hd.b_⟩
           ·
            replace c85 := Bool.eq_false_iff.mpr c85
            subst c85
            have H1 : (if (x177000_28 == x178000_66 && (x177001_28 == x178001_66)) = true then (some 1) else (some 3)) = some r := by rw [if_neg (show ¬ (false = true) by decide)] at H; exact H
            clear H
            have H := H1
            clear H1
            by_cases c94 : (x177000_28 == x178000_66 && (x177001_28 == x178001_66)) = true
            ·
             rw [if_pos c94] at H
             have c94b0 : (x177000_28 == x178000_66 && (x177001_28 == x178001_66)) = true := c94
             (try (have c94b1 : decide (x177000_28 = x178000_66 && (x177001_28 == x178001_66)) = true := by simpa using c94))
             (try (have c94b2 : (x177000_28 == x178000_66 && (x177001_28 == x178001_66)) = true := by simpa using c94))
             clear c94
             obtain rfl := Option.some.inj H
             have hnb95 := NB177_162.out
             have hnc95 := NB162_177.out
             have hnb96 := NB177_163.out
             have hnc96 := NB163_177.out
             have hnb97 := NB177_176.out
             have hnc97 := NB176_177.out
             obtain ⟨hcz98_0, hcz98_1⟩ := Hd.c2_ BK177.out
             obtain ⟨hfz98_0, hfz98_1⟩ := Hd.f2_ BK177.out
             have hnb99 := NB176_162.out
             have hnc99 := NB162_176.out
             have hnb100 := NB176_163.out
             have hnc100 := NB163_176.out
             obtain ⟨hcz101_0, hcz101_1⟩ := Hd.c2_ BK176.out
             obtain ⟨hfz101_0, hfz101_1⟩ := Hd.f2_ BK176.out
             go_wp2_with (first | ((with_reducible refine gate_callee (f := 130) rfl ?_); refine goesL_ (some 60) rfl rfl Try.func130 (by kernel_rfl) rfl #[.agg #[.int .i64 x178000_66, .int .i64 x178001_66], .agg #[.int .i64 x177000_28, .int .i64 x177001_28]] rfl Hd.m_ ?_; (with_reducible refine (impl_BeforePoint.calls x178000_66 x178001_66 x177000_28 x177001_28 false _ A84.out).mono ?_); rintro e w102 ⟨rfl, hb⟩; refine ⟨_, rfl, ?_⟩; replace BK162 := Aside0.mk (Hd.kb_ BK162 hb); replace BK163 := Aside0.mk (Hd.kb_ BK163 hb); replace BK176 := Aside0.mk (Hd.kb_ BK176 hb); replace BK177 := Aside0.mk (Hd.kb_ BK177 hb); replace HB := Aside0.mk (below_step Hd.b_ hb); (try clear hb); (try clear hb2); (try clear hk); (try clear hi); obtain ⟨hcz103_0, hcz103_1⟩ := Hd.c2_ BK176.out; obtain ⟨hfz103_0, hfz103_1⟩ := Hd.f2_ BK176.out; obtain ⟨hcz104_0, hcz104_1⟩ := Hd.c2_ BK177.out; obtain ⟨hfz104_0, hfz104_1⟩ := Hd.f2_ BK177.out))
             go_ret
             exact ⟨Hd.e_, Hd.b_⟩
            ·
             rw [if_neg c94] at H
             have c94b0 : (x177000_28 == x178000_66 && (x177001_28 == x178001_66)) = false := by simpa using c94
             (try (have c94b1 : decide (x177000_28 = x178000_66 && (x177001_28 == x178001_66)) = false := by simpa using c94))
             (try (have c94b2 : (x177000_28 == x178000_66 && (x177001_28 == x178001_66)) = false := by simpa using c94))
             (try (have c94b3 : ¬ (x177000_28 = x178000_66 && (x177001_28 == x178001_66)) := by simpa using c94))
             clear c94
             obtain rfl := Option.some.inj H
             have hnb105 := NB177_162.out
             have hnc105 := NB162_177.out
             have hnb106 := NB177_163.out
             have hnc106 := NB163_177.out
             have hnb107 := NB177_176.out
             have hnc107 := NB176_177.out
             obtain ⟨hcz108_0, hcz108_1⟩ := Hd.c2_ BK177.out
             obtain ⟨hfz108_0, hfz108_1⟩ := Hd.f2_ BK177.out
             have hnb109 := NB176_162.out
             have hnc109 := NB162_176.out
             have hnb110 := NB176_163.out
             have hnc110 := NB163_176.out
             obtain ⟨hcz111_0, hcz111_1⟩ := Hd.c2_ BK176.out
             obtain ⟨hfz111_0, hfz111_1⟩ := Hd.f2_ BK176.out
             go_wp2_with (first | ((with_reducible refine gate_callee (f := 130) rfl ?_); refine goesL_ (some 60) rfl rfl Try.func130 (by kernel_rfl) rfl #[.agg #[.int .i64 x178000_66, .int .i64 x178001_66], .agg #[.int .i64 x177000_28, .int .i64 x177001_28]] rfl Hd.m_ ?_; (with_reducible refine (impl_BeforePoint.calls x178000_66 x178001_66 x177000_28 x177001_28 false _ A84.out).mono ?_); rintro e w112 ⟨rfl, hb⟩; refine ⟨_, rfl, ?_⟩; replace BK162 := Aside0.mk (Hd.kb_ BK162 hb); replace BK163 := Aside0.mk (Hd.kb_ BK163 hb); replace BK176 := Aside0.mk (Hd.kb_ BK176 hb); replace BK177 := Aside0.mk (Hd.kb_ BK177 hb); replace HB := Aside0.mk (below_step Hd.b_ hb); (try clear hb); (try clear hb2); (try clear hk); (try clear hi); obtain ⟨hcz113_0, hcz113_1⟩ := Hd.c2_ BK176.out; obtain ⟨hfz113_0, hfz113_1⟩ := Hd.f2_ BK176.out; obtain ⟨hcz114_0, hcz114_1⟩ := Hd.c2_ BK177.out; obtain ⟨hfz114_0, hfz114_1⟩ := Hd.f2_ BK177.out))
             go_ret
             exact ⟨Hd.e_, Hd.b_⟩
      ·
       replace c25 := Bool.eq_false_iff.mpr c25
       subst c25
       have H1 : (if (wrap64 (t166 * t167)) < 0 then ((impl_SideOf.f kj19 a1_0 a1_1 a1_2 a1_3 a0_0 a0_1).bind fun t181 => ((impl_SideOf.f kj19 a1_0 a1_1 a1_2 a1_3 a0_2 a0_3).bind fun t182 => (impl_HowMeet.j4 kj19 (decide ((wrap64 (t181 * t182)) < 0)) a0_0 a0_1 a0_2 a0_3 a1_0 a1_1 a1_2 a1_3))) else (impl_HowMeet.j4 kj19 false a0_0 a0_1 a0_2 a0_3 a1_0 a1_1 a1_2 a1_3)) = some r := by rw [if_neg (show ¬ (false = true) by decide)] at H; exact H
       clear H
       have H := H1
       clear H1
       have HC115 := Aside0.mk H
       clear H
       go_upto_region 16 with (fail)
       go_cut [86] (fun v86 wc => ∃ (kq : Nat) (x86_114 : Bool), v86 = .bool x86_114 ∧ Aside0 (impl_HowMeet.j4 kq x86_114 a0_0 a0_1 a0_2 a0_3 a1_0 a1_1 a1_2 a1_3 = some r) ∧ Aside0 (kq ≤ kj19) ∧ Aside0 (wc.heap[gb162]? = some (.cells #[.int .i64 a0_0, .int .i64 a0_1, .int .i64 a0_2, .int .i64 a0_3] 60 (0, 0))) ∧ Aside0 (wc.heap[gb163]? = some (.cells #[.int .i64 a1_0, .int .i64 a1_1, .int .i64 a1_2, .int .i64 a1_3] 60 (0, 0))) ∧ Aside0 (Below w.heap.size w wc))
       case first =>
        have H := HC115.out
        clear HC115
        by_cases c116 : (wrap64 (t166 * t167)) < 0
        ·
         rw [if_pos c116] at H
         have c116b0 : decide ((wrap64 (t166 * t167)) < 0) = true := decide_eq_true c116
         clear c116
         (first | rw [c116b0] | (simp only [i64_w, i32_w]; rw [c116b0]) | skip)
         replace H := Option.bind_eq_some_iff.mp H
         obtain ⟨t181, A1170, H⟩ := H
         replace H : ((impl_SideOf.f kj19 a1_0 a1_1 a1_2 a1_3 a0_2 a0_3).bind fun t182 => (impl_HowMeet.j4 kj19 (decide ((wrap64 (t181 * t182)) < 0)) a0_0 a0_1 a0_2 a0_3 a1_0 a1_1 a1_2 a1_3)) = some r := H
         have A117 := Aside0.mk A1170
         clear A1170
         replace H := Option.bind_eq_some_iff.mp H
         obtain ⟨t182, A1180, H⟩ := H
         replace H : (impl_HowMeet.j4 kj19 (decide ((wrap64 (t181 * t182)) < 0)) a0_0 a0_1 a0_2 a0_3 a1_0 a1_1 a1_2 a1_3) = some r := H
         have A118 := Aside0.mk A1180
         clear A1180
         have H' := Aside0.mk H
         clear H
         try go_wp2
         replace BK162 := Aside0.mk (blk_drew BK162.out)
         replace BK163 := Aside0.mk (blk_drew BK163.out)
         replace HB := Aside0.mk (below_drew1 HB.out)
         have S_ : (fun w' : World => w'.cell? ⟨gb163, 0, none⟩ = some (.int .i64 a1_0) ∧ w'.cell? ⟨gb163, 1, none⟩ = some (.int .i64 a1_1) ∧ w'.cell? ⟨gb163, 2, none⟩ = some (.int .i64 a1_2) ∧ w'.cell? ⟨gb163, 3, none⟩ = some (.int .i64 a1_3) ∧ w'.cell? ⟨gb162, 0, none⟩ = some (.int .i64 a0_0) ∧ w'.cell? ⟨gb162, 1, none⟩ = some (.int .i64 a0_1) ∧ w'.cell? ⟨gb162, 2, none⟩ = some (.int .i64 a0_2) ∧ w'.cell? ⟨gb162, 3, none⟩ = some (.int .i64 a0_3)) wc.drew := ⟨(blk_cell BK163.out 0).trans rfl, (blk_cell BK163.out 1).trans rfl, (blk_cell BK163.out 2).trans rfl, (blk_cell BK163.out 3).trans rfl, (blk_cell BK162.out 0).trans rfl, (blk_cell BK162.out 1).trans rfl, (blk_cell BK162.out 2).trans rfl, (blk_cell BK162.out 3).trans rfl⟩
         obtain ⟨s0_, s1_, s2_, s3_, s4_, s5_, s6_, s7_⟩ := S_
         replace s0_ := fun q : Hd.HW wc.drew => q.cell s0_
         replace s1_ := fun q : Hd.HW wc.drew => q.cell s1_
         replace s2_ := fun q : Hd.HW wc.drew => q.cell s2_
         replace s3_ := fun q : Hd.HW wc.drew => q.cell s3_
         replace s4_ := fun q : Hd.HW wc.drew => q.cell s4_
         replace s5_ := fun q : Hd.HW wc.drew => q.cell s5_
         replace s6_ := fun q : Hd.HW wc.drew => q.cell s6_
         replace s7_ := fun q : Hd.HW wc.drew => q.cell s7_
         refine Hd.HW.region (by kernel_rfl) (by kernel_rfl) ?_
         repeat (go_big_quiet_step ((first | (go_at_call 110; with_reducible exact Hd.HW.c (impl_SideOf.calls kj19 a1_0 a1_1 a1_2 a1_3 a0_0 a0_1 t181 _ A117.out)) | (go_at_call 110; with_reducible exact Hd.HW.c (impl_SideOf.calls kj19 a1_0 a1_1 a1_2 a1_3 a0_2 a0_3 t182 _ A118.out)))))
         refine wpQuiet_nil ?_
         intro _ hq_
         obtain ⟨q_, rfl⟩ := hq_
         clear s0_ s1_ s2_ s3_ s4_ s5_ s6_ s7_
         replace BK162 := Aside0.mk (blk_below BK162.out q_.b)
         replace BK163 := Aside0.mk (blk_below BK163.out q_.b)
         replace HB := Aside0.mk (below_step HB.out q_.b)
         generalize q_.W = w121 at BK162 BK163 HB ⊢
         try simp only [i64_w, i32_w]
         try go_wp2
         go_meet
         case rel => exact ⟨_, (decide ((wrap64 (t181 * t182)) < 0)), (by first | rfl | (simp; done) | (simp [*]; done)), H', ⟨by have := HJ2.out; have := HJ19.out; first | omega | exact Nat.le_refl _⟩, ⟨by (with_reducible repeat (first | refine blk_drewN ?_ _ | refine blk_drew ?_ | refine blk_alloc ?_ _)); exact BK162.out⟩, ⟨by (with_reducible repeat (first | refine blk_drewN ?_ _ | refine blk_drew ?_ | refine blk_alloc ?_ _)); exact BK163.out⟩, ⟨Hd.b_⟩⟩
        ·
         rw [if_neg c116] at H
         have c116b0 : decide ((wrap64 (t166 * t167)) < 0) = false := decide_eq_false c116
         clear c116
         (first | rw [c116b0] | (simp only [i64_w, i32_w]; rw [c116b0]) | skip)
         have H' := Aside0.mk H
         clear H
         try go_wp2
         replace BK162 := Aside0.mk (blk_drew BK162.out)
         replace BK163 := Aside0.mk (blk_drew BK163.out)
         replace HB := Aside0.mk (below_drew1 HB.out)
         have S_ : (fun w' : World => True) wc.drew := trivial
         clear S_
         refine Hd.HW.region (by kernel_rfl) (by kernel_rfl) ?_
         repeat (go_big_quiet_step (fail))
         refine wpQuiet_nil ?_
         intro _ hq_
         obtain ⟨q_, rfl⟩ := hq_
         replace BK162 := Aside0.mk (blk_below BK162.out q_.b)
         replace BK163 := Aside0.mk (blk_below BK163.out q_.b)
         replace HB := Aside0.mk (below_step HB.out q_.b)
         generalize q_.W = w122 at BK162 BK163 HB ⊢
         try simp only [i64_w, i32_w]
         try go_wp2
         go_meet
         case rel => exact ⟨_, (false), (by first | rfl | (simp; done) | (simp [*]; done)), H', ⟨by have := HJ2.out; have := HJ19.out; first | omega | exact Nat.le_refl _⟩, ⟨by (with_reducible repeat (first | refine blk_drewN ?_ _ | refine blk_drew ?_ | refine blk_alloc ?_ _)); exact BK162.out⟩, ⟨by (with_reducible repeat (first | refine blk_drewN ?_ _ | refine blk_drew ?_ | refine blk_alloc ?_ _)); exact BK163.out⟩, ⟨Hd.b_⟩⟩
       case rest =>
        clear HC115
        try clear c1
        try clear c2
        try clear p2
        try clear c5
        try clear c6
        try clear p6
        try clear c7
        try clear c8
        try clear c9
        try clear c10
        try clear c11
        try clear c13
        try clear c14
        try clear c17
        try clear c24
        try clear c24b0
        try clear c24b1
        try clear c25
        try clear c50
        try clear c51
        try clear c52
        try clear c54
        try clear c55
        try clear c58
        try clear c59
        try clear c60
        try clear c61
        try clear c63
        try clear c64
        try clear p64
        try clear c68
        try clear c69
        try clear c70
        try clear c72
        try clear c73
        try clear c76
        try clear c77
        try clear c78
        try clear c79
        try clear c81
        try clear c82
        try clear c85
        try clear c86
        try clear c87
        try clear c88
        try clear c90
        try clear c91
        try clear c94
        try clear c94b0
        try clear c94b1
        try clear c94b2
        try clear c95
        try clear c96
        try clear c97
        try clear c99
        try clear c100
        try clear c105
        try clear c106
        try clear c107
        try clear c109
        try clear c110
        try clear c116
        try clear c116b0
        try clear hcz101_0
        try clear hcz101_1
        try clear hcz103_0
        try clear hcz103_1
        try clear hcz104_0
        try clear hcz104_1
        try clear hcz108_0
        try clear hcz108_1
        try clear hcz10_0
        try clear hcz10_1
        try clear hcz10_2
        try clear hcz10_3
        try clear hcz111_0
        try clear hcz111_1
        try clear hcz113_0
        try clear hcz113_1
        try clear hcz114_0
        try clear hcz114_1
        try clear hcz12_0
        try clear hcz12_1
        try clear hcz12_2
        try clear hcz12_3
        try clear hcz15_0
        try clear hcz15_1
        try clear hcz15_2
        try clear hcz15_3
        try clear hcz53_0
        try clear hcz53_1
        try clear hcz56_0
        try clear hcz56_1
        try clear hcz56_2
        try clear hcz56_3
        try clear hcz62_0
        try clear hcz62_1
        try clear hcz62_2
        try clear hcz62_3
        try clear hcz65_0
        try clear hcz65_1
        try clear hcz71_0
        try clear hcz71_1
        try clear hcz71_2
        try clear hcz71_3
        try clear hcz74_0
        try clear hcz74_1
        try clear hcz80_0
        try clear hcz80_1
        try clear hcz80_2
        try clear hcz80_3
        try clear hcz83_0
        try clear hcz83_1
        try clear hcz89_0
        try clear hcz89_1
        try clear hcz92_0
        try clear hcz92_1
        try clear hcz98_0
        try clear hcz98_1
        try clear hfz101_0
        try clear hfz101_1
        try clear hfz103_0
        try clear hfz103_1
        try clear hfz104_0
        try clear hfz104_1
        try clear hfz108_0
        try clear hfz108_1
        try clear hfz10_0
        try clear hfz10_1
        try clear hfz10_2
        try clear hfz10_3
        try clear hfz111_0
        try clear hfz111_1
        try clear hfz113_0
        try clear hfz113_1
        try clear hfz114_0
        try clear hfz114_1
        try clear hfz12_0
        try clear hfz12_1
        try clear hfz12_2
        try clear hfz12_3
        try clear hfz15_0
        try clear hfz15_1
        try clear hfz15_2
        try clear hfz15_3
        try clear hfz53_0
        try clear hfz53_1
        try clear hfz56_0
        try clear hfz56_1
        try clear hfz56_2
        try clear hfz56_3
        try clear hfz62_0
        try clear hfz62_1
        try clear hfz62_2
        try clear hfz62_3
        try clear hfz65_0
        try clear hfz65_1
        try clear hfz71_0
        try clear hfz71_1
        try clear hfz71_2
        try clear hfz71_3
        try clear hfz74_0
        try clear hfz74_1
        try clear hfz80_0
        try clear hfz80_1
        try clear hfz80_2
        try clear hfz80_3
        try clear hfz83_0
        try clear hfz83_1
        try clear hfz89_0
        try clear hfz89_1
        try clear hfz92_0
        try clear hfz92_1
        try clear hfz98_0
        try clear hfz98_1
        try clear p2
        obtain ⟨kq, x86_114, rfl, HA, HJ114, BK162, BK163, HB⟩ := hcut
        cases kq with
        | zero => exact absurd HA.out (by simp [impl_HowMeet.j4])
        | succ kj114 =>
         have H := HA.out
         clear HA
         simp only [impl_HowMeet.j4] at H
         by_cases c123 : x86_114 = true
         ·
          subst c123
          have H1 : (some 2) = some r := by rw [if_pos rfl] at H; exact H
          clear H
          have H := H1
          clear H1
          obtain rfl := Option.some.inj H
          go_wp2
          go_ret
          exact ⟨Hd.e_, Hd.b_⟩
         ·
          replace c123 := Bool.eq_false_iff.mpr c123
          subst c123
          have H1 : ((impl_IsOn.f kj114 a0_0 a0_1 a0_2 a0_3 a1_0 a1_1).bind fun t183 => (if t183 = true then (some 1) else ((impl_IsOn.f kj114 a0_0 a0_1 a0_2 a0_3 a1_2 a1_3).bind fun t184 => (if t184 = true then (some 1) else ((impl_IsOn.f kj114 a1_0 a1_1 a1_2 a1_3 a0_0 a0_1).bind fun t185 => (if t185 = true then (some 1) else ((impl_IsOn.f kj114 a1_0 a1_1 a1_2 a1_3 a0_2 a0_3).bind fun t186 => (if t186 = true then (some 1) else (some 0))))))))) = some r := by rw [if_neg (show ¬ (false = true) by decide)] at H; exact H
          clear H
          have H := H1
          clear H1
          replace H := Option.bind_eq_some_iff.mp H
          obtain ⟨t183, A1240, H⟩ := H
          replace H : (if t183 = true then (some 1) else ((impl_IsOn.f kj114 a0_0 a0_1 a0_2 a0_3 a1_2 a1_3).bind fun t184 => (if t184 = true then (some 1) else ((impl_IsOn.f kj114 a1_0 a1_1 a1_2 a1_3 a0_0 a0_1).bind fun t185 => (if t185 = true then (some 1) else ((impl_IsOn.f kj114 a1_0 a1_1 a1_2 a1_3 a0_2 a0_3).bind fun t186 => (if t186 = true then (some 1) else (some 0)))))))) = some r := H
          have A124 := Aside0.mk A1240
          clear A1240
          by_cases c125 : t183 = true
          ·
           subst c125
           have H1 : (some 1) = some r := by rw [if_pos rfl] at H; exact H
           clear H
           have H := H1
           clear H1
           obtain rfl := Option.some.inj H
           have hnb126 := NB162_163.out
           have hnc126 := NB163_162.out
           obtain ⟨hcz127_0, hcz127_1, hcz127_2, hcz127_3⟩ := Hd.c4_ BK162.out
           obtain ⟨hfz127_0, hfz127_1, hfz127_2, hfz127_3⟩ := Hd.f4_ BK162.out
           obtain ⟨hcz128_0, hcz128_1, hcz128_2, hcz128_3⟩ := Hd.c4_ BK163.out
           obtain ⟨hfz128_0, hfz128_1, hfz128_2, hfz128_3⟩ := Hd.f4_ BK163.out
           go_wp2_with (first | ((with_reducible refine gate_callee (f := 109) rfl ?_); refine goesL_ (some 90) rfl rfl Try.func109 (by kernel_rfl) rfl #[.agg #[.int .i64 a0_0, .int .i64 a0_1, .int .i64 a0_2, .int .i64 a0_3], .agg #[.int .i64 a1_0, .int .i64 a1_1]] rfl Hd.m_ ?_; (with_reducible refine (impl_IsOn.calls kj114 a0_0 a0_1 a0_2 a0_3 a1_0 a1_1 true _ A124.out).mono ?_); rintro e w129 ⟨rfl, hb⟩; refine ⟨_, rfl, ?_⟩; replace BK162 := Aside0.mk (Hd.kb_ BK162 hb); replace BK163 := Aside0.mk (Hd.kb_ BK163 hb); replace HB := Aside0.mk (below_step Hd.b_ hb); (try clear hb); (try clear hb2); (try clear hk); (try clear hi)))
           go_ret
           exact ⟨Hd.e_, Hd.b_⟩
          ·
           replace c125 := Bool.eq_false_iff.mpr c125
           subst c125
           have H1 : ((impl_IsOn.f kj114 a0_0 a0_1 a0_2 a0_3 a1_2 a1_3).bind fun t184 => (if t184 = true then (some 1) else ((impl_IsOn.f kj114 a1_0 a1_1 a1_2 a1_3 a0_0 a0_1).bind fun t185 => (if t185 = true then (some 1) else ((impl_IsOn.f kj114 a1_0 a1_1 a1_2 a1_3 a0_2 a0_3).bind fun t186 => (if t186 = true then (some 1) else (some 0))))))) = some r := by rw [if_neg (show ¬ (false = true) by decide)] at H; exact H
           clear H
           have H := H1
           clear H1
           replace H := Option.bind_eq_some_iff.mp H
           obtain ⟨t184, A1300, H⟩ := H
           replace H : (if t184 = true then (some 1) else ((impl_IsOn.f kj114 a1_0 a1_1 a1_2 a1_3 a0_0 a0_1).bind fun t185 => (if t185 = true then (some 1) else ((impl_IsOn.f kj114 a1_0 a1_1 a1_2 a1_3 a0_2 a0_3).bind fun t186 => (if t186 = true then (some 1) else (some 0)))))) = some r := H
           have A130 := Aside0.mk A1300
           clear A1300
           by_cases c131 : t184 = true
           ·
            subst c131
            have H1 : (some 1) = some r := by rw [if_pos rfl] at H; exact H
            clear H
            have H := H1
            clear H1
            obtain rfl := Option.some.inj H
            have hnb132 := NB162_163.out
            have hnc132 := NB163_162.out
            obtain ⟨hcz133_0, hcz133_1, hcz133_2, hcz133_3⟩ := Hd.c4_ BK162.out
            obtain ⟨hfz133_0, hfz133_1, hfz133_2, hfz133_3⟩ := Hd.f4_ BK162.out
            obtain ⟨hcz134_0, hcz134_1, hcz134_2, hcz134_3⟩ := Hd.c4_ BK163.out
            obtain ⟨hfz134_0, hfz134_1, hfz134_2, hfz134_3⟩ := Hd.f4_ BK163.out
            go_wp2_with (first | ((with_reducible refine gate_callee (f := 109) rfl ?_); refine goesL_ (some 90) rfl rfl Try.func109 (by kernel_rfl) rfl #[.agg #[.int .i64 a0_0, .int .i64 a0_1, .int .i64 a0_2, .int .i64 a0_3], .agg #[.int .i64 a1_0, .int .i64 a1_1]] rfl Hd.m_ ?_; (with_reducible refine (impl_IsOn.calls kj114 a0_0 a0_1 a0_2 a0_3 a1_0 a1_1 false _ A124.out).mono ?_); rintro e w135 ⟨rfl, hb⟩; refine ⟨_, rfl, ?_⟩; replace BK162 := Aside0.mk (Hd.kb_ BK162 hb); replace BK163 := Aside0.mk (Hd.kb_ BK163 hb); replace HB := Aside0.mk (below_step Hd.b_ hb); (try clear hb); (try clear hb2); (try clear hk); (try clear hi); obtain ⟨hcz136_0, hcz136_1, hcz136_2, hcz136_3⟩ := Hd.c4_ BK162.out; obtain ⟨hfz136_0, hfz136_1, hfz136_2, hfz136_3⟩ := Hd.f4_ BK162.out; obtain ⟨hcz137_0, hcz137_1, hcz137_2, hcz137_3⟩ := Hd.c4_ BK163.out; obtain ⟨hfz137_0, hfz137_1, hfz137_2, hfz137_3⟩ := Hd.f4_ BK163.out) | (go_at_call 109; (with_reducible refine (impl_IsOn.calls kj114 a0_0 a0_1 a0_2 a0_3 a1_2 a1_3 true _ A130.out).mono ?_); rintro e w138 ⟨rfl, hb⟩; replace BK162 := Aside0.mk (Hd.kb_ BK162 hb); replace BK163 := Aside0.mk (Hd.kb_ BK163 hb); replace HB := Aside0.mk (below_step Hd.b_ hb); (try clear hb); (try clear hb2); (try clear hk); (try clear hi)))
            go_ret
            exact ⟨Hd.e_, Hd.b_⟩
           ·
            replace c131 := Bool.eq_false_iff.mpr c131
            subst c131
            have H1 : ((impl_IsOn.f kj114 a1_0 a1_1 a1_2 a1_3 a0_0 a0_1).bind fun t185 => (if t185 = true then (some 1) else ((impl_IsOn.f kj114 a1_0 a1_1 a1_2 a1_3 a0_2 a0_3).bind fun t186 => (if t186 = true then (some 1) else (some 0))))) = some r := by rw [if_neg (show ¬ (false = true) by decide)] at H; exact H
            clear H
            have H := H1
            clear H1
            replace H := Option.bind_eq_some_iff.mp H
            obtain ⟨t185, A1390, H⟩ := H
            replace H : (if t185 = true then (some 1) else ((impl_IsOn.f kj114 a1_0 a1_1 a1_2 a1_3 a0_2 a0_3).bind fun t186 => (if t186 = true then (some 1) else (some 0)))) = some r := H
            have A139 := Aside0.mk A1390
            clear A1390
            by_cases c140 : t185 = true
            ·
             subst c140
             have H1 : (some 1) = some r := by rw [if_pos rfl] at H; exact H
             clear H
             have H := H1
             clear H1
             obtain rfl := Option.some.inj H
             have hnb141 := NB162_163.out
             have hnc141 := NB163_162.out
             obtain ⟨hcz142_0, hcz142_1, hcz142_2, hcz142_3⟩ := Hd.c4_ BK162.out
             obtain ⟨hfz142_0, hfz142_1, hfz142_2, hfz142_3⟩ := Hd.f4_ BK162.out
             obtain ⟨hcz143_0, hcz143_1, hcz143_2, hcz143_3⟩ := Hd.c4_ BK163.out
             obtain ⟨hfz143_0, hfz143_1, hfz143_2, hfz143_3⟩ := Hd.f4_ BK163.out
             go_wp2_with (first | ((with_reducible refine gate_callee (f := 109) rfl ?_); refine goesL_ (some 90) rfl rfl Try.func109 (by kernel_rfl) rfl #[.agg #[.int .i64 a0_0, .int .i64 a0_1, .int .i64 a0_2, .int .i64 a0_3], .agg #[.int .i64 a1_0, .int .i64 a1_1]] rfl Hd.m_ ?_; (with_reducible refine (impl_IsOn.calls kj114 a0_0 a0_1 a0_2 a0_3 a1_0 a1_1 false _ A124.out).mono ?_); rintro e w144 ⟨rfl, hb⟩; refine ⟨_, rfl, ?_⟩; replace BK162 := Aside0.mk (Hd.kb_ BK162 hb); replace BK163 := Aside0.mk (Hd.kb_ BK163 hb); replace HB := Aside0.mk (below_step Hd.b_ hb); (try clear hb); (try clear hb2); (try clear hk); (try clear hi); obtain ⟨hcz145_0, hcz145_1, hcz145_2, hcz145_3⟩ := Hd.c4_ BK162.out; obtain ⟨hfz145_0, hfz145_1, hfz145_2, hfz145_3⟩ := Hd.f4_ BK162.out; obtain ⟨hcz146_0, hcz146_1, hcz146_2, hcz146_3⟩ := Hd.c4_ BK163.out; obtain ⟨hfz146_0, hfz146_1, hfz146_2, hfz146_3⟩ := Hd.f4_ BK163.out) | (go_at_call 109; (with_reducible refine (impl_IsOn.calls kj114 a0_0 a0_1 a0_2 a0_3 a1_2 a1_3 false _ A130.out).mono ?_); rintro e w147 ⟨rfl, hb⟩; replace BK162 := Aside0.mk (Hd.kb_ BK162 hb); replace BK163 := Aside0.mk (Hd.kb_ BK163 hb); replace HB := Aside0.mk (below_step Hd.b_ hb); (try clear hb); (try clear hb2); (try clear hk); (try clear hi); obtain ⟨hcz148_0, hcz148_1, hcz148_2, hcz148_3⟩ := Hd.c4_ BK163.out; obtain ⟨hfz148_0, hfz148_1, hfz148_2, hfz148_3⟩ := Hd.f4_ BK163.out; obtain ⟨hcz149_0, hcz149_1, hcz149_2, hcz149_3⟩ := Hd.c4_ BK162.out; obtain ⟨hfz149_0, hfz149_1, hfz149_2, hfz149_3⟩ := Hd.f4_ BK162.out) | (go_at_call 109; (with_reducible refine (impl_IsOn.calls kj114 a1_0 a1_1 a1_2 a1_3 a0_0 a0_1 true _ A139.out).mono ?_); rintro e w150 ⟨rfl, hb⟩; replace BK162 := Aside0.mk (Hd.kb_ BK162 hb); replace BK163 := Aside0.mk (Hd.kb_ BK163 hb); replace HB := Aside0.mk (below_step Hd.b_ hb); (try clear hb); (try clear hb2); (try clear hk); (try clear hi)))
             go_ret
             exact ⟨Hd.e_, Hd.b_⟩
            ·
             replace c140 := Bool.eq_false_iff.mpr c140
             subst c140
             have H1 : ((impl_IsOn.f kj114 a1_0 a1_1 a1_2 a1_3 a0_2 a0_3).bind fun t186 => (if t186 = true then (some 1) else (some 0))) = some r := by rw [if_neg (show ¬ (false = true) by decide)] at H; exact H
             clear H
             have H := H1
             clear H1
             replace H := Option.bind_eq_some_iff.mp H
             obtain ⟨t186, A1510, H⟩ := H
             replace H : (if t186 = true then (some 1) else (some 0)) = some r := H
             have A151 := Aside0.mk A1510
             clear A1510
             by_cases c152 : t186 = true
             ·
              subst c152
              have H1 : (some 1) = some r := by rw [if_pos rfl] at H; exact H
              clear H
              have H := H1
              clear H1
              obtain rfl := Option.some.inj H
              have hnb153 := NB162_163.out
              have hnc153 := NB163_162.out
              obtain ⟨hcz154_0, hcz154_1, hcz154_2, hcz154_3⟩ := Hd.c4_ BK162.out
              obtain ⟨hfz154_0, hfz154_1, hfz154_2, hfz154_3⟩ := Hd.f4_ BK162.out
              obtain ⟨hcz155_0, hcz155_1, hcz155_2, hcz155_3⟩ := Hd.c4_ BK163.out
              obtain ⟨hfz155_0, hfz155_1, hfz155_2, hfz155_3⟩ := Hd.f4_ BK163.out
              go_wp2_with (first | ((with_reducible refine gate_callee (f := 109) rfl ?_); refine goesL_ (some 90) rfl rfl Try.func109 (by kernel_rfl) rfl #[.agg #[.int .i64 a0_0, .int .i64 a0_1, .int .i64 a0_2, .int .i64 a0_3], .agg #[.int .i64 a1_0, .int .i64 a1_1]] rfl Hd.m_ ?_; (with_reducible refine (impl_IsOn.calls kj114 a0_0 a0_1 a0_2 a0_3 a1_0 a1_1 false _ A124.out).mono ?_); rintro e w156 ⟨rfl, hb⟩; refine ⟨_, rfl, ?_⟩; replace BK162 := Aside0.mk (Hd.kb_ BK162 hb); replace BK163 := Aside0.mk (Hd.kb_ BK163 hb); replace HB := Aside0.mk (below_step Hd.b_ hb); (try clear hb); (try clear hb2); (try clear hk); (try clear hi); obtain ⟨hcz157_0, hcz157_1, hcz157_2, hcz157_3⟩ := Hd.c4_ BK162.out; obtain ⟨hfz157_0, hfz157_1, hfz157_2, hfz157_3⟩ := Hd.f4_ BK162.out; obtain ⟨hcz158_0, hcz158_1, hcz158_2, hcz158_3⟩ := Hd.c4_ BK163.out; obtain ⟨hfz158_0, hfz158_1, hfz158_2, hfz158_3⟩ := Hd.f4_ BK163.out) | (go_at_call 109; (with_reducible refine (impl_IsOn.calls kj114 a0_0 a0_1 a0_2 a0_3 a1_2 a1_3 false _ A130.out).mono ?_); rintro e w159 ⟨rfl, hb⟩; replace BK162 := Aside0.mk (Hd.kb_ BK162 hb); replace BK163 := Aside0.mk (Hd.kb_ BK163 hb); replace HB := Aside0.mk (below_step Hd.b_ hb); (try clear hb); (try clear hb2); (try clear hk); (try clear hi); obtain ⟨hcz160_0, hcz160_1, hcz160_2, hcz160_3⟩ := Hd.c4_ BK163.out; obtain ⟨hfz160_0, hfz160_1, hfz160_2, hfz160_3⟩ := Hd.f4_ BK163.out; obtain ⟨hcz161_0, hcz161_1, hcz161_2, hcz161_3⟩ := Hd.c4_ BK162.out; obtain ⟨hfz161_0, hfz161_1, hfz161_2, hfz161_3⟩ := Hd.f4_ BK162.out) | (go_at_call 109; (with_reducible refine (impl_IsOn.calls kj114 a1_0 a1_1 a1_2 a1_3 a0_0 a0_1 false _ A139.out).mono ?_); rintro e w162 ⟨rfl, hb⟩; replace BK162 := Aside0.mk (Hd.kb_ BK162 hb); replace BK163 := Aside0.mk (Hd.kb_ BK163 hb); replace HB := Aside0.mk (below_step Hd.b_ hb); (try clear hb); (try clear hb2); (try clear hk); (try clear hi); obtain ⟨hcz163_0, hcz163_1, hcz163_2, hcz163_3⟩ := Hd.c4_ BK163.out; obtain ⟨hfz163_0, hfz163_1, hfz163_2, hfz163_3⟩ := Hd.f4_ BK163.out; obtain ⟨hcz164_0, hcz164_1, hcz164_2, hcz164_3⟩ := Hd.c4_ BK162.out; obtain ⟨hfz164_0, hfz164_1, hfz164_2, hfz164_3⟩ := Hd.f4_ BK162.out) | (go_at_call 109; (with_reducible refine (impl_IsOn.calls kj114 a1_0 a1_1 a1_2 a1_3 a0_2 a0_3 true _ A151.out).mono ?_); rintro e w165 ⟨rfl, hb⟩; replace BK162 := Aside0.mk (Hd.kb_ BK162 hb); replace BK163 := Aside0.mk (Hd.kb_ BK163 hb); replace HB := Aside0.mk (below_step Hd.b_ hb); (try clear hb); (try clear hb2); (try clear hk); (try clear hi)))
              go_ret
              exact ⟨Hd.e_, Hd.b_⟩
             ·
              replace c152 := Bool.eq_false_iff.mpr c152
              subst c152
              have H1 : (some 0) = some r := by rw [if_neg (show ¬ (false = true) by decide)] at H; exact H
              clear H
              have H := H1
              clear H1
              obtain rfl := Option.some.inj H
              have hnb166 := NB162_163.out
              have hnc166 := NB163_162.out
              obtain ⟨hcz167_0, hcz167_1, hcz167_2, hcz167_3⟩ := Hd.c4_ BK162.out
              obtain ⟨hfz167_0, hfz167_1, hfz167_2, hfz167_3⟩ := Hd.f4_ BK162.out
              obtain ⟨hcz168_0, hcz168_1, hcz168_2, hcz168_3⟩ := Hd.c4_ BK163.out
              obtain ⟨hfz168_0, hfz168_1, hfz168_2, hfz168_3⟩ := Hd.f4_ BK163.out
              go_wp2_with (first | ((with_reducible refine gate_callee (f := 109) rfl ?_); refine goesL_ (some 90) rfl rfl Try.func109 (by kernel_rfl) rfl #[.agg #[.int .i64 a0_0, .int .i64 a0_1, .int .i64 a0_2, .int .i64 a0_3], .agg #[.int .i64 a1_0, .int .i64 a1_1]] rfl Hd.m_ ?_; (with_reducible refine (impl_IsOn.calls kj114 a0_0 a0_1 a0_2 a0_3 a1_0 a1_1 false _ A124.out).mono ?_); rintro e w169 ⟨rfl, hb⟩; refine ⟨_, rfl, ?_⟩; replace BK162 := Aside0.mk (Hd.kb_ BK162 hb); replace BK163 := Aside0.mk (Hd.kb_ BK163 hb); replace HB := Aside0.mk (below_step Hd.b_ hb); (try clear hb); (try clear hb2); (try clear hk); (try clear hi); obtain ⟨hcz170_0, hcz170_1, hcz170_2, hcz170_3⟩ := Hd.c4_ BK162.out; obtain ⟨hfz170_0, hfz170_1, hfz170_2, hfz170_3⟩ := Hd.f4_ BK162.out; obtain ⟨hcz171_0, hcz171_1, hcz171_2, hcz171_3⟩ := Hd.c4_ BK163.out; obtain ⟨hfz171_0, hfz171_1, hfz171_2, hfz171_3⟩ := Hd.f4_ BK163.out) | (go_at_call 109; (with_reducible refine (impl_IsOn.calls kj114 a0_0 a0_1 a0_2 a0_3 a1_2 a1_3 false _ A130.out).mono ?_); rintro e w172 ⟨rfl, hb⟩; replace BK162 := Aside0.mk (Hd.kb_ BK162 hb); replace BK163 := Aside0.mk (Hd.kb_ BK163 hb); replace HB := Aside0.mk (below_step Hd.b_ hb); (try clear hb); (try clear hb2); (try clear hk); (try clear hi); obtain ⟨hcz173_0, hcz173_1, hcz173_2, hcz173_3⟩ := Hd.c4_ BK163.out; obtain ⟨hfz173_0, hfz173_1, hfz173_2, hfz173_3⟩ := Hd.f4_ BK163.out; obtain ⟨hcz174_0, hcz174_1, hcz174_2, hcz174_3⟩ := Hd.c4_ BK162.out; obtain ⟨hfz174_0, hfz174_1, hfz174_2, hfz174_3⟩ := Hd.f4_ BK162.out) | (go_at_call 109; (with_reducible refine (impl_IsOn.calls kj114 a1_0 a1_1 a1_2 a1_3 a0_0 a0_1 false _ A139.out).mono ?_); rintro e w175 ⟨rfl, hb⟩; replace BK162 := Aside0.mk (Hd.kb_ BK162 hb); replace BK163 := Aside0.mk (Hd.kb_ BK163 hb); replace HB := Aside0.mk (below_step Hd.b_ hb); (try clear hb); (try clear hb2); (try clear hk); (try clear hi); obtain ⟨hcz176_0, hcz176_1, hcz176_2, hcz176_3⟩ := Hd.c4_ BK163.out; obtain ⟨hfz176_0, hfz176_1, hfz176_2, hfz176_3⟩ := Hd.f4_ BK163.out; obtain ⟨hcz177_0, hcz177_1, hcz177_2, hcz177_3⟩ := Hd.c4_ BK162.out; obtain ⟨hfz177_0, hfz177_1, hfz177_2, hfz177_3⟩ := Hd.f4_ BK162.out) | (go_at_call 109; (with_reducible refine (impl_IsOn.calls kj114 a1_0 a1_1 a1_2 a1_3 a0_2 a0_3 false _ A151.out).mono ?_); rintro e w178 ⟨rfl, hb⟩; replace BK162 := Aside0.mk (Hd.kb_ BK162 hb); replace BK163 := Aside0.mk (Hd.kb_ BK163 hb); replace HB := Aside0.mk (below_step Hd.b_ hb); (try clear hb); (try clear hb2); (try clear hk); (try clear hi)))
              go_ret
              exact ⟨Hd.e_, Hd.b_⟩

end Go.Proofs.Ytchmbcembbbplab.MFnExactIsInside
