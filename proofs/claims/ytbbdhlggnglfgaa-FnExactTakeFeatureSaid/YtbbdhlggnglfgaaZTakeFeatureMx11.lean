-- Laid by this session's program pp.py, after the kit's print and texts of the session's own. Not trusted: Lean checks it.
import Derived.Test.YtbbdhlggnglfgaaZTakeFeatureMx0
import Derived.Test.YtbbdhlggnglfgaaZTakeFeatureMx1
import Derived.Test.YtbbdhlggnglfgaaZTakeFeatureMx4
import Derived.Test.YtbbdhlggnglfgaaZTakeFeatureMx10
namespace Go.Proofs.Ytbbdhlggnglfgaa.MFnExactTakeFeature
open Go.RowKit Go.Proofs.YtbbdhlggnglfgaaW.PrintWords Go.Proofs.YtbbdhlggnglfgaaW.PrintLast Go.Proofs.YtbbdhlggnglfgaaW.PrintMore
attribute [local go_sem] max2_int min2_int max_two min_two max_three min_three max_four min_four   -- for this text's walks alone
set_option linter.unusedVariables false
set_option linter.unusedSimpArgs false
attribute [local go_sem high] eqA75
def impl_cloneSource.l0 : Nat → List (S34) → List (S34) → Int → Int → Option ((List (S34)))
 | 0, _, _, _, _ => none
 | k + 1, x3, x7, x8, x9 => if x9 < x8 then (if 0 ≤ x9 then (if x9 < (x7.length : Int) then ((impl_cloneFeature.f ((rd_T34 x7 x9).f0) ((rd_T34 x7 x9).f1) ((rd_T34 x7 x9).f2) ((rd_T34 x7 x9).f3) ((rd_T34 x7 x9).f4)).bind fun bt292 => (if x3.length < 2199023255552 then (impl_cloneSource.l0 k (x3 ++ [(⟨bt292.1, bt292.2.1, bt292.2.2.1, bt292.2.2.2.1, bt292.2.2.2.2⟩ : S34)]) x7 x8 (wrap64 (x9 + 1))) else (none))) else (none)) else (none)) else (some x3)
def impl_cloneSource.f (k : Nat) (l0 : List (S34)) : Option ((List (S34))) := impl_cloneSource.l0 k (([] : List (S34))) l0 (l0.length : Int) 0
set_option maxHeartbeats 8000000 in
set_option maxRecDepth 100000 in
theorem impl_cloneSource.calls (k : Nat) (A0 : Option Addr) (c0 : Nat) (l0 : List (S34)) (r : List (S34)) (w : World) (hr0 : Kd.C k34 w A0 l0.length l0) (hc0 : l0.length ≤ c0) (h : impl_cloneSource.f k l0 = some r) :
  Calls Try.prog 38 #[.slice A0 l0.length c0] w fun e w' => ∃ v0_ : Value, e = .returned (v0_) ∧ Kd.S k34 34 w' w.heap.size (fun _ => True) v0_ r ∧ Below w.heap.size w w' := by
 have hu34 := Try.underlying34
 have HR0 := Aside0.mk hr0
 have HC0 := Aside0.mk hc0
 clear hr0 hc0
 have HB := Aside0.mk (Below.refl w.heap.size w)
 have H : (impl_cloneSource.l0 k (([] : List (S34))) l0 (l0.length : Int) 0) = some r := h
 clear h
 obtain ⟨y287, hy287⟩ : ∃ y_ : List (S34), y_ = (([] : List (S34))) := ⟨_, rfl⟩
 replace H : (impl_cloneSource.l0 k y287 l0 (l0.length : Int) 0) = some r := by first | (rw [hy287]; with_reducible exact H) | (have H2_ := (Option.bind_some _ _).symm.trans H; rw [hy287]; with_reducible exact H2_) | (have H2_ := (Option.bind_some _ _).symm.trans H; with_reducible exact H2_) | with_reducible exact H | (rw [hy287]; exact H) | exact H
 have Ny287 := Aside0.mk hy287
 clear hy287
 have H' := Aside0.mk H
 clear H
 go_enter Try.func38, Try.ntmps38
 go_wp2_with (first | ((with_reducible refine gate_dst (N := 6) rfl ?_); refine Kd.S_lit k34 _ 34 ?hg (N := 6) ?hd (xs := ([] : List (S34))) (inner := []) (ok := fun _ => True) (okp := fun _ => True) ?hr ?hp (fun _ hk => hk) trivial (Below.refl _ _) (Nat.le_refl _) (by simp) ?_; (case hd => rfl); (case hg => rfl); (case hr => first | (go_simp; done) | (go_simp; rfl)); (case hp => exact (Reps.none _ _)); intro v288 w2 ho3 hb hg_ hnew_; clear hg_ hnew_; (first | rw [← Ny287.out] at ho3 | (simp only [Int.reduceToNat] at ho3; rw [← Ny287.out] at ho3)); have HO289 := Aside0.mk (Kd.S_lower ho3 (below_size Hd.b_)); replace HB := Aside0.mk (below_step Hd.b_ hb); clear hb ho3))
 go_loopg [3, 9] k (fun kq v3 v9 w' => ∃ (x3_1 : List (S34)) (x9_1 : Int), v9 = .int .i64 x9_1 ∧ Aside0 (impl_cloneSource.l0 kq x3_1 l0 (l0.length : Int) x9_1 = some r) ∧ Aside0 (kq ≤ k) ∧ Aside0 (Kd.S k34 34 w' w.heap.size (fun _ => True) v3 x3_1) ∧ Aside0 (Below w.heap.size w w'))
 case atStart => exact ⟨(y287), (0), (by first | rfl | (simp; done) | (simp [*]; done)), H', ⟨Nat.le_refl _⟩, ⟨by (with_reducible repeat (first | apply Kd.S_alloc | apply Kd.S_drewN | apply Kd.S_drew)); exact HO289.out⟩, ⟨Hd.b_⟩⟩
 case round =>
  clear H'
  try clear p2
  try clear c3
  obtain ⟨x3_1, x9_1, rfl, HA, HK1, HO_3, HB⟩ := hrel
  cases gk with
  | zero => exact absurd HA.out (by simp [impl_cloneSource.l0])
  | succ k1 =>
   have H := HA.out
   clear HA
   simp only [impl_cloneSource.l0] at H
   by_cases c4 : x9_1 < (l0.length : Int)
   ·
    rw [if_pos c4] at H
    have c4b0 : decide (x9_1 < (l0.length : Int)) = true := decide_eq_true c4
    clear c4
    by_cases c5 : 0 ≤ x9_1
    ·
     rw [if_pos c5] at H
     have c5b0 : decide (0 ≤ x9_1) = true := decide_eq_true c5
     clear c5
     by_cases c6 : x9_1 < (l0.length : Int)
     ·
      rw [if_pos c6] at H
      have c6b0 : decide (x9_1 < (l0.length : Int)) = true := decide_eq_true c6
      clear c6
      replace H := Option.bind_eq_some_iff.mp H
      obtain ⟨⟨t292, t293, t294, t295, t296⟩, A70, H⟩ := H
      replace H : (if x3_1.length < 2199023255552 then (impl_cloneSource.l0 k1 (x3_1 ++ [(⟨t292, t293, t294, t295, t296⟩ : S34)]) l0 (l0.length : Int) (wrap64 (x9_1 + 1))) else (none)) = some r := H
      have A7 := Aside0.mk A70
      clear A70
      by_cases c8 : x3_1.length < 2199023255552
      ·
       rw [if_pos c8] at H
       have LMc8 := Aside0.mk c8
       clear c8
       obtain ⟨y299, hy299⟩ : ∃ y_ : List (S34), y_ = (x3_1 ++ [(⟨t292, t293, t294, t295, t296⟩ : S34)]) := ⟨_, rfl⟩
       replace H : (impl_cloneSource.l0 k1 y299 l0 (l0.length : Int) (wrap64 (x9_1 + 1))) = some r := by first | (rw [hy299]; with_reducible exact H) | (have H2_ := (Option.bind_some _ _).symm.trans H; rw [hy299]; with_reducible exact H2_) | (have H2_ := (Option.bind_some _ _).symm.trans H; with_reducible exact H2_) | with_reducible exact H | (rw [hy299]; exact H) | exact H
       have Ny299 := Aside0.mk hy299
       clear hy299
       have H' := Aside0.mk H
       clear H
       have p290 : 0 ≤ (x9_1 : Int) := of_decide_eq_true Hd.a_
       have q290 : x9_1 < (l0.length : Int) := of_decide_eq_true Hd.a_
       obtain ⟨ad290, A290_4, c290_4, e290, hx290_0, hx290_1, hx290_2, hx290_3, hx290_4, hl290_4, hi290_4⟩ := at_T34 HR0.out x9_1 p290 q290
       cases e290
       replace hx290_0 := (HB.out.cell (World.block_lt_of_cell? w _ hx290_0)).trans hx290_0
       replace hx290_1 := (HB.out.cell (World.block_lt_of_cell? w _ hx290_1)).trans hx290_1
       replace hx290_2 := (HB.out.cell (World.block_lt_of_cell? w _ hx290_2)).trans hx290_2
       replace hx290_3 := (HB.out.cell (World.block_lt_of_cell? w _ hx290_3)).trans hx290_3
       replace hx290_4 := (HB.out.cell (World.block_lt_of_cell? w _ hx290_4)).trans hx290_4
       have HR290_4 := Aside0.mk hi290_4
       have HC290_4 := Aside0.mk hl290_4
       clear hi290_4 hl290_4
       replace p290 := eq_true p290
       replace q290 := eq_true q290
       go_wp2_with (first | ((with_reducible refine gate_dst (N := 5) rfl ?_); refine Hd.box_ 5 (#[.int .i64 0, .int .i64 0, .int .i64 0, .string (⟨#[]⟩ : ByteArray), .slice none 0 0]) 34 ?_; intro gb291 hg w9 hbox hb; replace HO_3 := Aside0.mk (Kd.S_below (Kd.S_elderB (by (with_reducible repeat (first | apply Kd.S_alloc | apply Kd.S_drewN | apply Kd.S_drew)); exact HO_3.out) gb291 (Nat.le_of_eq hg.symm)) hb); have BK291 := Aside0.mk (hbox); have GW291 := Aside0.mk ((Hd.g_ hg Hd.b_ : w.heap.size ≤ gb291)); have GE291 := Aside0.mk ((Hd.g_ hg Hd.b_ : w.heap.size ≤ gb291)); replace HB := Aside0.mk (below_step Hd.b_ hb); clear hb hbox hg; obtain ⟨hcz10_0, hcz10_1, hcz10_2, hcz10_3, hcz10_4⟩ := Hd.c5_ BK291.out; obtain ⟨hfz10_0, hfz10_1, hfz10_2, hfz10_3, hfz10_4⟩ := Hd.f5_ BK291.out) | ((with_reducible refine gate_callee (f := 39) rfl ?_); refine goesL_ (some 15) rfl rfl Try.func39 (by kernel_rfl) rfl #[.agg #[.int .i64 ((rd_T34 l0 x9_1).f0), .int .i64 ((rd_T34 l0 x9_1).f1), .int .i64 ((rd_T34 l0 x9_1).f2), .string ((rd_T34 l0 x9_1).f3), .slice A290_4 ((rd_T34 l0 x9_1).f4).length c290_4]] rfl Hd.m_ ?_; (with_reducible refine (impl_cloneFeature.calls ((rd_T34 l0 x9_1).f0) ((rd_T34 l0 x9_1).f1) ((rd_T34 l0 x9_1).f2) ((rd_T34 l0 x9_1).f3) _ _ ((rd_T34 l0 x9_1).f4) t292 t293 t294 t295 t296 _ ?side1 ?side2 A7.out).mono ?_); (case side1 => exact Kd.C_below HR290_4.out Hd.b_); (case side2 => exact HC290_4.out); rintro e w11 ⟨v297, rfl, ho0, hb⟩; refine ⟨_, rfl, ?_⟩; replace HO_3 := Aside0.mk (Kd.S_elder' (by (with_reducible repeat (first | apply Kd.S_alloc | apply Kd.S_drewN | apply Kd.S_drew)); exact (Kd.S_mono (Kd.S_far (p := ⟨gb291, 4, none⟩) (Kd.S_far (p := ⟨gb291, 3, none⟩) (Kd.S_far (p := ⟨gb291, 2, none⟩) (Kd.S_far (p := ⟨gb291, 1, none⟩) (Kd.S_far (p := ⟨gb291, 0, none⟩) (Kd.S_mono HO_3.out (fun k_ hk => (⟨hk, hk.2⟩ : _ ∧ k_ ≠ gb291))) (fun _ hk => hk.2) (.int .i64 ((rd_T34 l0 x9_1).f0))) (fun _ hk => hk.2) (.int .i64 ((rd_T34 l0 x9_1).f1))) (fun _ hk => hk.2) (.int .i64 ((rd_T34 l0 x9_1).f2))) (fun _ hk => hk.2) (.string ((rd_T34 l0 x9_1).f3))) (fun _ hk => hk.2) (.slice A290_4 ((rd_T34 l0 x9_1).f4).length c290_4)) (fun _ h_ => h_.1))) (Kd.R_base ho0) hb); have HO298 := Aside0.mk (Kd.R_lower ho0 (below_size Hd.b_)); replace BK291 := Aside0.mk (blk_below (g := gb291) (o := .cells #[.int .i64 ((rd_T34 l0 x9_1).f0), .int .i64 ((rd_T34 l0 x9_1).f1), .int .i64 ((rd_T34 l0 x9_1).f2), .string ((rd_T34 l0 x9_1).f3), .slice A290_4 ((rd_T34 l0 x9_1).f4).length c290_4] 34 (0, 0)) (by (with_reducible repeat (first | refine blk_drewN ?_ _ | refine blk_drew ?_ | refine blk_alloc ?_ _)); refine blk_put (cs := #[.int .i64 ((rd_T34 l0 x9_1).f0), .int .i64 ((rd_T34 l0 x9_1).f1), .int .i64 ((rd_T34 l0 x9_1).f2), .string ((rd_T34 l0 x9_1).f3), .slice none 0 0]) ?_ 4 _ rfl; (with_reducible repeat (first | refine blk_drewN ?_ _ | refine blk_drew ?_ | refine blk_alloc ?_ _)); refine blk_put (cs := #[.int .i64 ((rd_T34 l0 x9_1).f0), .int .i64 ((rd_T34 l0 x9_1).f1), .int .i64 ((rd_T34 l0 x9_1).f2), .string (⟨#[]⟩ : ByteArray), .slice none 0 0]) ?_ 3 _ rfl; (with_reducible repeat (first | refine blk_drewN ?_ _ | refine blk_drew ?_ | refine blk_alloc ?_ _)); refine blk_put (cs := #[.int .i64 ((rd_T34 l0 x9_1).f0), .int .i64 ((rd_T34 l0 x9_1).f1), .int .i64 0, .string (⟨#[]⟩ : ByteArray), .slice none 0 0]) ?_ 2 _ rfl; (with_reducible repeat (first | refine blk_drewN ?_ _ | refine blk_drew ?_ | refine blk_alloc ?_ _)); refine blk_put (cs := #[.int .i64 ((rd_T34 l0 x9_1).f0), .int .i64 0, .int .i64 0, .string (⟨#[]⟩ : ByteArray), .slice none 0 0]) ?_ 1 _ rfl; (with_reducible repeat (first | refine blk_drewN ?_ _ | refine blk_drew ?_ | refine blk_alloc ?_ _)); refine blk_put (cs := #[.int .i64 0, .int .i64 0, .int .i64 0, .string (⟨#[]⟩ : ByteArray), .slice none 0 0]) ?_ 0 _ rfl; (with_reducible repeat (first | refine blk_drewN ?_ _ | refine blk_drew ?_ | refine blk_alloc ?_ _)); exact BK291.out) hb); replace HB := Aside0.mk (below_step Hd.b_ hb); (try clear hb); (try clear hb2); (try clear hk); (try clear hi); (try clear ho0); obtain ⟨Ao13, co13, eo13⟩ := Kd.R_slice HO298.out; subst eo13) | ((with_reducible refine gate_builtin (b := .append) (xs := #[.tmp 13, .tmp 16]) rfl ?_); at_builtin; refine Kd.S_append k34 (w0 := w) w.heap.size rfl (.tmp 13) (.tmp 16) 28 34 (.agg #[(.int .i64 0), (.int .i64 0), (.int .i64 0), (.string ⟨#[]⟩), (.slice none 0 0)]) 64 rfl Try.underlying28 info34 rfl (by decide) (by omega) u3 x3_1 (⟨t292, t293, t294, t295, t296⟩ : S34) [.int .i64 t292, .int .i64 t293, .int .i64 t294, .string t295, .slice Ao13 t296.length co13] (fun k_ => k_ ≠ gb291) (fun k_ => some k_ = (.slice Ao13 t296.length co13 : Value).ownBlock) rfl rfl ?aP (fun k_ hk_ => ((Kd.R_mono (ok' := fun k_ => ((fun k_ => k_ ≠ gb291)) k_ ∧ some k_ ≠ (u3 : Value).ownBlock) (Kd.R_types (Kd.R_apart' (HO298.out) (Kd.S_typed HO_3.out) (by decide)) BK291.out (by decide)) (fun k_ hk => ⟨hk.2, hk.1.2⟩))).1 k_ hk_.symm) ?aF ?aO ?aB ?aS ?aL ?_; (case aP => exact k34_mkM _ _ _ (⟨t292, t293, t294, t295, t296⟩ : S34) (Kd.R_mono (Kd.R_tight rfl (Kd.R_mono (ok' := fun k_ => ((fun k_ => k_ ≠ gb291)) k_ ∧ some k_ ≠ (u3 : Value).ownBlock) (Kd.R_types (Kd.R_apart' (HO298.out) (Kd.S_typed HO_3.out) (by decide)) BK291.out (by decide)) (fun k_ hk => ⟨hk.2, hk.1.2⟩))) (fun _ h_ => h_))); (case aB => exact Hd.b_); (case aF => exact (fun k_ hk => Kd.freshB (g := gb291) (o := .cells #[.int .i64 ((rd_T34 l0 x9_1).f0), .int .i64 ((rd_T34 l0 x9_1).f1), .int .i64 ((rd_T34 l0 x9_1).f2), .string ((rd_T34 l0 x9_1).f3), .slice A290_4 ((rd_T34 l0 x9_1).f4).length c290_4] 34 (0, 0)) (Hd.k_ BK291) k_ hk)); (case aO => exact (by (with_reducible repeat (first | apply Kd.S_alloc | apply Kd.S_drewN | apply Kd.S_drew)); exact Kd.S_mono HO_3.out (fun k_ hk => ⟨hk.1.2, fun e_ => hk.2 e_⟩))); (case aS => exact (below_size Hd.b_)); (case aL => have := LMc8.out; omega); intro v300 w12 ho hb hg hat; rw [← Ny299.out] at ho; have n0_ := Aside0.mk (blk_grown (g := gb291) (o := .cells #[.int .i64 ((rd_T34 l0 x9_1).f0), .int .i64 ((rd_T34 l0 x9_1).f1), .int .i64 ((rd_T34 l0 x9_1).f2), .string ((rd_T34 l0 x9_1).f3), .slice A290_4 ((rd_T34 l0 x9_1).f4).length c290_4] 34 (0, 0)) (Hd.k_ BK291) hg (Kd.S_away HO_3.out (fun _ hk => hk.1.2))); have n1_ := Aside0.mk (hb); have n2_ := Aside0.mk (ho); clear BK291; clear HB; clear HO_3; clear HO298; have BK291 := n0_; have HB := n1_; have HO301 := n2_; clear n0_ n1_ n2_; clear ho hb hg hat))
       go_roundg k1
       case measure => have := HK1.out; omega
       case rel => exact ⟨(y299), (wrap64 (x9_1 + 1)), (by first | rfl | (simp; done) | (simp [*]; done)), H', ⟨by have := HK1.out; omega⟩, ⟨by (with_reducible repeat (first | apply Kd.S_alloc | apply Kd.S_drewN | apply Kd.S_drew)); exact Kd.S_mono HO301.out (fun _ hk => trivial)⟩, ⟨Hd.b_⟩⟩
      ·
       rw [if_neg c8] at H
       exact absurd H (by simp)
     ·
      rw [if_neg c6] at H
      exact absurd H (by simp)
    ·
     rw [if_neg c5] at H
     exact absurd H (by simp)
   ·
    rw [if_neg c4] at H
    have c4b0 : decide (x9_1 < (l0.length : Int)) = false := decide_eq_false c4
    clear c4
    obtain rfl := Option.some.inj H
    go_wp2
    go_ret
    exact ⟨_, Hd.e_, by (with_reducible repeat (first | apply Kd.S_alloc | apply Kd.S_drewN | apply Kd.S_drew)); exact HO_3.out, Hd.b_⟩
theorem impl_TakeFeature.clr {α : Type} (d : Kd α) {W : World} {g m c e base : Nat} {ok : Nat → Prop} {xs : List α} (HO : d.R e W base ok (.slice (some ⟨g, 0, none⟩) m c) xs) (zs : List Value) (o : Nat) (ho : m * d.sz ≤ o) (hfit : o + zs.length ≤ c * d.sz) :
    d.R e (W.setCells g o zs) base ok (.slice (some ⟨g, 0, none⟩) m c) xs ∧ W.grownBy (W.setCells g o zs) (some g) := by
  obtain ⟨hn, hnc, _⟩ := Kd.R_reads' HO
  obtain ⟨hok, inner, hown, hr⟩ := HO
  subst hn
  have hin : inner.length = xs.length * d.sz := hr.1
  rcases hown.2 with ⟨hv, _⟩ | ⟨g', cap', cur, hv, hb, hh, hnn, hcm, hcs, htake⟩
  · cases hv
  injection hv with ha hl hc
  injection ha with ha
  injection ha with hg
  subst hg; subst hc
  obtain ⟨cur', h3, h4, h5⟩ := setCells_row zs o W cur hh (by omega)
  obtain ⟨s1, s2, s3, s4⟩ := setCells_same g zs o W
  have hfar : ∀ k', k' ≠ g → (W.setCells g o zs).heap[k']? = W.heap[k']? := fun k' hk' => setCells_far zs _ k' hk'
  have hgo : ∀ m, some g = (Value.slice (some ⟨g, 0, none⟩) m c).ownBlock := fun m => by simp [Value.ownBlock]
  have hle : xs.length * d.sz ≤ cur.toList.length := by
    exact Nat.le_trans (Nat.mul_le_mul_right _ hnc) (Nat.le_of_eq (hcs.symm.trans Array.length_toList.symm))
  refine ⟨⟨hok, inner, ⟨hown.1, .inr ⟨g, c, cur', rfl, hb, h3, hnn, hcm, by rw [h4, hcs], ?_⟩⟩, hr.imp_ fun p q hp => d.M_move (fun k' hk' => hfar k' (fun he => hk'.2 (by rw [← hgo, he]))) hp⟩, ⟨s1, s2, s3, by rw [s4]; exact Nat.le_refl _, fun k' _ hk' => hfar k' (fun he => hk' (by rw [he]))⟩⟩
  rw [h5, List.append_assoc, List.take_append_of_le_length (by rw [List.length_take]; omega), List.take_take, Nat.min_eq_left (by omega)]
  exact htake
theorem impl_TakeFeature.runclr (ty : TypeId) (W : World) (g o c : Nat) (cur : Array Value) (hh : W.heap[g]? = some (.cells cur 34 (0, 0))) (hfit : o + 5 ≤ cur.size) :
    (Builtin.clear_ #[28] ty #[.slice (some ⟨g, o, none⟩) 1 c]).run Try.prog W = .ok (.tuple #[]) (W.setCells g o [.int .i64 0, .int .i64 0, .int .i64 0, .string ⟨#[]⟩, .slice none 0 0]) := by
  have hst := run_storeCells_cells (P := Try.prog) g o [.int .i64 0, .int .i64 0, .int .i64 0, .string ⟨#[]⟩, .slice none 0 0] 0 W (fun j hj => by
    have hj : j < 5 := hj
    rw [Nat.add_zero, blk_cell hh, Array.getElem?_eq_getElem (by omega)]; rfl) (fun j _ => blk_frozen hh _) (by intro v hv; simp at hv; rcases hv with rfl | rfl | rfl | rfl | rfl <;> rfl)
  simp only [Nat.add_zero] at hst
  have hz : (Builtin.zeroCells (#[.int .i64 0, .int .i64 0, .int .i64 0, .string ⟨#[]⟩, .slice none 0 0] : Array Value) 1).toList = [.int .i64 0, .int .i64 0, .int .i64 0, .string ⟨#[]⟩, .slice none 0 0] := by kernel_rfl
  simp [Builtin.clear_, run_underlying Try.underlying28, Try.zeroValue34, Value.cells, hz, hst]
theorem impl_TakeFeature.cur {α : Type} {d : Kd α} {W : World} {g m c e base : Nat} {ok : Nat → Prop} {xs : List α} (HO : d.R e W base ok (.slice (some ⟨g, 0, none⟩) m c) xs) : ∃ cur, W.heap[g]? = some (.cells cur e (0, 0)) ∧ cur.size = c * d.sz ∧ base ≤ g := by
  obtain ⟨hok, inner, hown, hr⟩ := HO
  rcases hown.2 with ⟨hv, _⟩ | ⟨g', cap', cur, hv, hb, hh, hnn, hcm, hcs, htake⟩
  · cases hv
  injection hv with ha hl hc
  injection ha with ha
  injection ha with hg
  subst hg; subst hc
  exact ⟨cur, hh, hcs, hb⟩
theorem impl_TakeFeature.max {α : Type} {d : Kd α} {W : World} {g m c e base : Nat} {ok : Nat → Prop} {xs : List α} (HO : d.R e W base ok (.slice (some ⟨g, 0, none⟩) m c) xs) : m ≤ 9223372036854775807 := by
  have h1 := (Kd.R_reads' HO).2.1
  obtain ⟨hok, inner, hown, hr⟩ := HO
  rcases hown.2 with ⟨hv, _⟩ | ⟨g', cap', cur, hv, hb, hh, hnn, hcm, hcs, htake⟩
  · cases hv
  injection hv with ha hl hc
  subst hc
  unfold maxLen at hcm
  omega
set_option maxHeartbeats 8000000 in
set_option maxRecDepth 100000 in
theorem impl_TakeFeature.del (g n c i base : Nat) (ok : Nat → Prop) (xs : List S34) (w0 w : World) (HO : Kd.S k34 34 w base ok (.slice (some ⟨g, 0, none⟩) n c) xs) (hi : i < n) (HB : Below base w0 w) (hbs : base ≤ w.heap.size) :
    Calls Try.prog 54 #[.slice (some ⟨g, 0, none⟩) n c, .int .i64 i, .int .i64 ((i : Int) + 1)] w fun e w' => e = .returned (.slice (some ⟨g, 0, none⟩) (n - 1) c) ∧ Kd.S k34 34 w' base ok (.slice (some ⟨g, 0, none⟩) (n - 1) c) (xs.eraseIdx i) ∧ Below base w0 w' := by
  have hu28 := Try.underlying28
  obtain ⟨i0, hi0, hz0, hz1, hz2⟩ := info_parts info34
  have hnc := (Kd.R_reads' (Kd.S_R HO)).2.1
  have hel : Try.prog.elem 28 = 34 := by simp [Program.elem, hu28]
  have hcut13 : ∀ W : World, (Instr.slice 28 (.slice (some ⟨g, 0, none⟩) n c) (some (.int .i64 i)) (some (.int .i64 ((i : Int) + 1))) (some (.int .i64 n))).run Try.prog W = .ok (sliced (some ⟨g, 0, none⟩) (i : Int).toNat ((i : Int) + 1).toNat (n : Int).toNat i0.size) W := fun W => by
    rw [run_slice_lhm W 28 (some ⟨g, 0, none⟩) n c (by rw [hel]; exact hu28) .i64 .i64 .i64 i ((i : Int) + 1) n (by omega) (by omega) (by omega) (by omega), hel]
    simp [sizeOf, typeInfo, hi0, Result.andThen]
  obtain ⟨X13, hX13⟩ : ∃ X, X = sliced (some ⟨g, 0, none⟩) (i : Int).toNat ((i : Int) + 1).toNat (n : Int).toNat i0.size := ⟨_, rfl⟩
  rw [← hX13] at hcut13
  clear hX13
  have hcut22 := cut_to (P := Try.prog) 28 34 .i64 hu28 hi0 (some ⟨g, 0, none⟩) n c (i : Int) (by omega) (by omega) hnc
  have hcut25 := cut_from (P := Try.prog) 28 34 .i64 hu28 hi0 5 hz1 (some ⟨g, 0, none⟩) n c ((i : Int) + 1) (by omega) (by omega)
  have hcut31 : ∀ W : World, (Instr.slice 28 (.slice (some ⟨g, 0, none⟩) (n - 1) c) (some (.int .i64 ((n - 1 : Nat) : Int))) (some (.int .i64 (n : Int))) none).run Try.prog W = .ok (.slice (some ⟨g, (n - 1) * 5, none⟩) 1 (c - (n - 1))) W := fun W => by
    rw [run_slice_lh W 28 (some ⟨g, 0, none⟩) (n - 1) c (by rw [hel]; exact hu28) .i64 .i64 ((n - 1 : Nat) : Int) n (by omega) (by omega) (by omega), hel]
    have hne : ¬ c = n - 1 := by omega
    simp [sizeOf, typeInfo, hi0, hz1, Result.andThen, sliced, Addr.add, hne]
    omega
  have HO' := Aside0.mk HO
  have HB' := Aside0.mk HB
  have heq : ((i : Int) == (i : Int) + 1) = false := beq_eq_false_iff_ne.2 (by omega)
  clear HO HB
  have e1 : ((i : Int)).toNat = i := by omega
  have e2 : ((i : Int) + 1).toNat = i + 1 := by omega
  rw [e1] at hcut22
  rw [e2] at hcut25
  clear e1 e2
  obtain ⟨A25, hA25⟩ : ∃ A, A = (if c = i + 1 then (some ⟨g, 0, none⟩ : Option Addr) else (some (⟨g, 0, none⟩ : Addr)).map (·.add ((i + 1) * 5))) := ⟨_, rfl⟩
  rw [← hA25] at hcut25
  have HA25 := Aside0.mk hA25
  clear hA25
  go_enter Try.func54, Try.ntmps54
  go_wp2_with fail
  go_region_law (refine Kd.S_delete_step k34 (w0 := w0) base (by rfl) (.tmp 22) (.tmp 25) 28 34 rfl Try.underlying28 (by kernel_rfl) (n := n) (k := i) (c := c) (g := g) (m := n - (i + 1)) (c2 := c - (i + 1)) (A := A25) (by simp [Act.eval, Act.put]) (by simp [Act.eval, Act.put]) HA25.out rfl (Kd.S_drew HO'.out) hi (below_drew1 HB'.out) hbs ?_; intro w1 hS1 hB1 hG1)
  obtain ⟨cur, hcur, hcs, hgb⟩ := impl_TakeFeature.cur (Kd.S_R hS1)
  have hz5 : k34.sz = 5 := rfl
  rw [hz5] at hcs
  have hcl := fun ty => impl_TakeFeature.runclr ty w1 g ((n - 1) * 5) (c - (n - 1)) cur hcur (by omega)
  have HG1 := Aside0.mk (Array.getElem?_eq_some_iff.1 hcur).1
  have HS1 := Aside0.mk hS1
  have HB1 := Aside0.mk hB1
  have HCS := Aside0.mk hcs
  have HGB := Aside0.mk hgb
  clear hS1 hB1 hG1 hcur hcs hgb hz5
  go_wp2
  go_ret
  obtain ⟨f, HR⟩ := HS1.out
  obtain ⟨h1, h2⟩ := impl_TakeFeature.clr _ HR [.int .i64 0, .int .i64 0, .int .i64 0, .string ⟨#[]⟩, .slice none 0 0] ((n - 1) * 5) (Nat.le_refl _) (by show (n - 1) * 5 + 5 ≤ c * 5; omega)
  refine ⟨rfl, ⟨f, h1⟩, ?_⟩
  have hb1 := HB1.out
  exact ⟨h2.os.trans hb1.os, h2.tape.trans hb1.tape, h2.output.trans hb1.output, Nat.le_trans hb1.size h2.size, fun k hk => (h2.block k (by have := HG1.out; have := HGB.out; omega) (by intro e; cases e; have := HGB.out; omega)).trans (hb1.block k hk)⟩
def impl_TakeFeature.f (k : Nat) (l0 : List S34) (a1 : Int) : Option (List S34 × Bool) := (impl_cloneSource.f k l0).bind fun t => (impl_FindFeature.f k l0 a1).bind fun i => (impl_IsSource.f k l0).bind fun b => if b = true then (if i < 0 then some (t, false) else if i < (t.length : Int) then some (t.eraseIdx i.toNat, true) else none) else some (t, false)
set_option maxHeartbeats 8000000 in
set_option maxRecDepth 100000 in
theorem impl_TakeFeature.calls (k : Nat) (A0 : Option Addr) (c0 : Nat) (l0 : List S34) (a1 : Int) (r1 : List S34) (r2 : Bool) (w : World) (hr0 : Kd.C k34 w A0 l0.length l0) (hc0 : l0.length ≤ c0) (h : impl_TakeFeature.f k l0 a1 = some (r1, r2)) :
    Calls Try.prog 23 #[.slice A0 l0.length c0, .int .i64 a1] w fun e w' => ∃ v0_ : Value, e = .returned (.tuple #[v0_, .bool r2]) ∧ Kd.S k34 34 w' w.heap.size (fun _ => True) v0_ r1 ∧ Below w.heap.size w w' := by
  unfold impl_TakeFeature.f at h
  obtain ⟨t, ht, h⟩ := Option.bind_eq_some_iff.1 h
  obtain ⟨i, hi, h⟩ := Option.bind_eq_some_iff.1 h
  obtain ⟨b, hb, h⟩ := Option.bind_eq_some_iff.1 h
  have HT := Aside0.mk ht
  have HI := Aside0.mk hi
  have HBB := Aside0.mk hb
  have HR := Aside0.mk hr0
  have HC := Aside0.mk hc0
  clear ht hi hb hr0 hc0
  by_cases hbt : b = true
  case neg =>
    rw [if_neg hbt] at h
    obtain ⟨rfl, rfl⟩ := Prod.mk.inj (Option.some.inj h)
    obtain rfl := Bool.eq_false_iff.2 hbt
    clear h hbt
    go_enter Try.func23, Try.ntmps23
    go_wp2_with (first | (go_at_call 38; (with_reducible refine (impl_cloneSource.calls k A0 c0 l0 t w HR.out HC.out HT.out).mono ?_); rintro e w1 ⟨v0, rfl, hS, hb⟩; have HS := Aside0.mk hS; have HB := Aside0.mk hb; clear hS hb) | (go_at_call 20; (with_reducible refine (impl_FindFeature.calls k A0 c0 l0 a1 _ w1 (Kd.C_below HR.out HB.out) HC.out HI.out).mono ?_); rintro e w2 ⟨rfl, hb⟩; have HS2 := Aside0.mk (Kd.S_below HS.out hb); have HB2 := Aside0.mk (below_step HB.out hb); clear hb) | (go_at_call 21; (with_reducible refine (impl_IsSource.calls k A0 c0 l0 _ w2 (Kd.C_below HR.out HB2.out) HC.out HBB.out).mono ?_); rintro e w3 ⟨rfl, hb⟩; have HS3 := Aside0.mk (Kd.S_below HS2.out hb); have HB3 := Aside0.mk (below_step HB2.out hb); clear hb))
    go_ret2
    exact ⟨_, rfl, HS3.out, HB3.out⟩
  subst hbt
  rw [if_pos rfl] at h
  by_cases c : i < 0
  · rw [if_pos c] at h
    obtain ⟨rfl, rfl⟩ := Prod.mk.inj (Option.some.inj h)
    have b1 : decide (i < 0) = true := decide_eq_true c
    clear h
    go_enter Try.func23, Try.ntmps23
    go_wp2_with (first | (go_at_call 38; (with_reducible refine (impl_cloneSource.calls k A0 c0 l0 t w HR.out HC.out HT.out).mono ?_); rintro e w1 ⟨v0, rfl, hS, hb⟩; have HS := Aside0.mk hS; have HB := Aside0.mk hb; clear hS hb) | (go_at_call 20; (with_reducible refine (impl_FindFeature.calls k A0 c0 l0 a1 _ w1 (Kd.C_below HR.out HB.out) HC.out HI.out).mono ?_); rintro e w2 ⟨rfl, hb⟩; have HS2 := Aside0.mk (Kd.S_below HS.out hb); have HB2 := Aside0.mk (below_step HB.out hb); clear hb) | (go_at_call 21; (with_reducible refine (impl_IsSource.calls k A0 c0 l0 _ w2 (Kd.C_below HR.out HB2.out) HC.out HBB.out).mono ?_); rintro e w3 ⟨rfl, hb⟩; have HS3 := Aside0.mk (Kd.S_below HS2.out hb); have HB3 := Aside0.mk (below_step HB2.out hb); clear hb))
    go_ret2
    exact ⟨_, rfl, HS3.out, HB3.out⟩
  rw [if_neg c] at h
  by_cases c2 : i < (t.length : Int)
  case neg => rw [if_neg c2] at h; cases h
  rw [if_pos c2] at h
  obtain ⟨rfl, rfl⟩ := Prod.mk.inj (Option.some.inj h)
  obtain ⟨j, rfl⟩ : ∃ j : Nat, i = (j : Int) := ⟨i.toNat, by omega⟩
  have hj : j < t.length := by omega
  have HJ := Aside0.mk hj
  have b1 : decide ((j : Int) < 0) = false := decide_eq_false c
  have ej : ((j : Int)).toNat = j := by omega
  rw [ej]
  clear h c c2 hj ej
  go_enter Try.func23, Try.ntmps23
  go_wp2_with (first | (go_at_call 38; (with_reducible refine (impl_cloneSource.calls k A0 c0 l0 t w HR.out HC.out HT.out).mono ?_); rintro e w1 ⟨v0, rfl, hS, hb⟩; obtain ⟨g, c1, he, hg, hgl, _⟩ := Kd.R_form (Kd.S_R hS) (by have := HJ.out; omega); subst he; have hwp : IntKind.i64.wrap ((j : Int) + 1) = (j : Int) + 1 := (by have h1 := HJ.out; have h2 := impl_TakeFeature.max (Kd.S_R hS); rw [IntKind.wrap_i64]; omega); have HS := Aside0.mk hS; have HB := Aside0.mk hb; clear hS hb hg hgl) | (go_at_call 20; (with_reducible refine (impl_FindFeature.calls k A0 c0 l0 a1 _ w1 (Kd.C_below HR.out HB.out) HC.out HI.out).mono ?_); rintro e w2 ⟨rfl, hb⟩; have HS2 := Aside0.mk (Kd.S_below HS.out hb); have HB2 := Aside0.mk (below_step HB.out hb); clear hb) | (go_at_call 21; (with_reducible refine (impl_IsSource.calls k A0 c0 l0 _ w2 (Kd.C_below HR.out HB2.out) HC.out HBB.out).mono ?_); rintro e w3 ⟨rfl, hb⟩; have HS3 := Aside0.mk (Kd.S_below HS2.out hb); have HB3 := Aside0.mk (below_step HB2.out hb); clear hb) | (go_at_call 54; (with_reducible refine (impl_TakeFeature.del g t.length c1 j w.heap.size _ t w _ HS3.out HJ.out HB3.out HB3.out.size).mono ?_); rintro e w4 ⟨rfl, hS4, hb4⟩; have HS4 := Aside0.mk hS4; have HB4 := Aside0.mk hb4; clear hS4 hb4))
  go_ret2
  exact ⟨_, rfl, HS4.out, HB4.out⟩
def spec_l9Feature.f (a0_0 : Int) (a0_1 : Int) (a0_2 : Int) (a0_3 : ByteArray) (l0_4 : List (S75)) : Option (Int × Int × Int × ByteArray × (List (S75))) := (some (([] : List (S75)) : List (S75))).bind fun y304 => (if y304.length + l0_4.length < 8796093022208 then (some (a0_0, a0_1, a0_2, a0_3, (y304 ++ l0_4))) else (none))
set_option maxHeartbeats 8000000 in
set_option maxRecDepth 100000 in
theorem spec_l9Feature.calls (a0_0 : Int) (a0_1 : Int) (a0_2 : Int) (a0_3 : ByteArray) (A0_4 : Option Addr) (c0_4 : Nat) (l0_4 : List (S75)) (r1 : Int) (r2 : Int) (r3 : Int) (r4 : ByteArray) (r5 : List (S75)) (w : World) (hr0_4 : Kd.C k75 w A0_4 l0_4.length l0_4) (hc0_4 : l0_4.length ≤ c0_4) (h : spec_l9Feature.f a0_0 a0_1 a0_2 a0_3 l0_4 = some (r1, r2, r3, r4, r5)) :
  Calls Try.prog 35 #[.agg #[.int .i64 a0_0, .int .i64 a0_1, .int .i64 a0_2, .string a0_3, .slice A0_4 l0_4.length c0_4]] w fun e w' => ∃ v4_ : Value, e = .returned (.agg #[.int .i64 r1, .int .i64 r2, .int .i64 r3, .string r4, v4_]) ∧ Kd.R k75 75 w' w.heap.size (fun _ => True) v4_ r5 ∧ Below w.heap.size w w' := by
 have hu34 := Try.underlying34
 have HR0_4 := Aside0.mk hr0_4
 have HC0_4 := Aside0.mk hc0_4
 clear hr0_4 hc0_4
 have HB := Aside0.mk (Below.refl w.heap.size w)
 have H : ((some (([] : List (S75)) : List (S75))).bind fun y304 => (if y304.length + l0_4.length < 8796093022208 then (some (a0_0, a0_1, a0_2, a0_3, (y304 ++ l0_4))) else (none))) = some (r1, r2, r3, r4, r5) := h
 clear h
 obtain ⟨y304, hy304⟩ : ∃ y_ : List (S75), y_ = (([] : List (S75))) := ⟨_, rfl⟩
 replace H : (if y304.length + l0_4.length < 8796093022208 then (some (a0_0, a0_1, a0_2, a0_3, (y304 ++ l0_4))) else (none)) = some (r1, r2, r3, r4, r5) := by first | (rw [hy304]; with_reducible exact H) | (have H2_ := (Option.bind_some _ _).symm.trans H; rw [hy304]; with_reducible exact H2_) | (have H2_ := (Option.bind_some _ _).symm.trans H; with_reducible exact H2_) | with_reducible exact H | (rw [hy304]; exact H) | exact H
 have Ny304 := Aside0.mk hy304
 clear hy304
 by_cases c2 : y304.length + l0_4.length < 8796093022208
 ·
  rw [if_pos c2] at H
  have LMc2 := Aside0.mk c2
  clear c2
  obtain ⟨y307, hy307⟩ : ∃ y_ : List (S75), y_ = (y304 ++ l0_4) := ⟨_, rfl⟩
  replace H : (some (a0_0, a0_1, a0_2, a0_3, y307)) = some (r1, r2, r3, r4, r5) := by first | (rw [hy307]; with_reducible exact H) | (have H2_ := (Option.bind_some _ _).symm.trans H; rw [hy307]; with_reducible exact H2_) | (have H2_ := (Option.bind_some _ _).symm.trans H; with_reducible exact H2_) | with_reducible exact H | (rw [hy307]; exact H) | exact H
  have Ny307 := Aside0.mk hy307
  clear hy307
  simp only [Option.some.injEq, Prod.mk.injEq] at H
  obtain ⟨rfl, rfl, rfl, rfl, rfl⟩ := H
  go_enter Try.func35, Try.ntmps35
  go_wp2_with (first | ((with_reducible refine gate_dst (N := 1) rfl ?_); refine Hd.box_ 1 (#[.int .i64 a0_0, .int .i64 a0_1, .int .i64 a0_2, .string a0_3, .slice A0_4 l0_4.length c0_4]) 34 ?_; intro gb302 hg w3 hbox hb; have BK302 := Aside0.mk (hbox); have GW302 := Aside0.mk ((Hd.g_ hg Hd.b_ : w.heap.size ≤ gb302)); have GE302 := Aside0.mk ((Hd.g_ hg Hd.b_ : w.heap.size ≤ gb302)); replace HB := Aside0.mk (below_step Hd.b_ hb); clear hb hbox hg) | ((with_reducible refine gate_dst (N := 2) rfl ?_); refine Hd.box_ 2 (#[.int .i64 0, .int .i64 0, .int .i64 0, .string (⟨#[]⟩ : ByteArray), .slice none 0 0]) 34 ?_; intro gb303 hg w4 hbox hb; have BK303 := Aside0.mk (hbox); have GW303 := Aside0.mk ((Hd.g_ hg Hd.b_ : w.heap.size ≤ gb303)); have GE303 := Aside0.mk ((Hd.g_ hg Hd.b_ : w.heap.size ≤ gb303)); replace HB := Aside0.mk (below_step Hd.b_ hb); have NB302_303 := Aside0.mk ((Hd.lt_ BK302 hg)); have NB303_302 := Aside0.mk ((Hd.gt_ BK302 hg)); replace BK302 := Aside0.mk (Hd.kb_ BK302 hb); clear hb hbox hg) | ((with_reducible refine gate_dst (N := 3) rfl ?_); refine Kd.R_lit k75 _ 75 ?hg (N := 3) ?hd (xs := ([] : List (S75))) (inner := []) (ok := fun _ => True) (okp := fun _ => True) ?hr ?hp (fun _ hk => hk) trivial (Below.refl _ _) (Nat.le_refl _) (by simp) ?_; (case hd => rfl); (case hg => rfl); (case hr => first | (go_simp; done) | (go_simp; rfl)); (case hp => exact (Reps.none _ _)); intro v305 w5 ho6 hb hg_ hnew_; clear hg_ hnew_; (first | rw [← Ny304.out] at ho6 | (simp only [Int.reduceToNat] at ho6; rw [← Ny304.out] at ho6)); have HO306 := Aside0.mk (Kd.R_lower ho6 (below_size Hd.b_)); replace BK302 := Aside0.mk (Hd.kb_ BK302 hb); replace BK303 := Aside0.mk (Hd.kb_ BK303 hb); replace HB := Aside0.mk (below_step Hd.b_ hb); clear hb ho6; have hnb7 := NB302_303.out; have hnc7 := NB303_302.out; obtain ⟨hcz8_0, hcz8_1, hcz8_2, hcz8_3, hcz8_4⟩ := Hd.c5_ BK302.out; obtain ⟨hfz8_0, hfz8_1, hfz8_2, hfz8_3, hfz8_4⟩ := Hd.f5_ BK302.out) | ((with_reducible refine gate_builtin (b := .append) (xs := #[.tmp 3, .tmp 5]) rfl ?_); at_builtin; refine Kd.R_append_rows k75 (w0 := w) w.heap.size rfl (.tmp 3) (.tmp 5) 32 75 (.agg #[(.int .i64 0), (.int .i64 0)]) 16 rfl Try.underlying32 info75 rfl (by decide) (by omega) v305 y304 l0_4 _ _ _ (fun _ => True) (fun _ => False) rfl rfl ?aO ?aR (fun _ _ h => h) (fun _ h => h.elim) ?aF ?aB ?aS ?aL ?_; (case aR => repeat (first | exact (Kd.C_below HR0_4.out HB.out) | (with_reducible refine Kd.C_alloc ?_ _) | (with_reducible refine Kd.C_drewN ?_ _) | (with_reducible refine Kd.C_drew ?_))); (case aB => exact Hd.b_); (case aF => exact (fun _ _ => trivial)); (case aO => exact (Hd.r_ HO306)); (case aS => exact (below_size Hd.b_)); (case aL => have := LMc2.out; omega); intro v308 w9 ho hb hg hat; rw [← Ny307.out] at ho; have n0_ := Aside0.mk (blk_grown (g := gb302) (o := .cells #[.int .i64 a0_0, .int .i64 a0_1, .int .i64 a0_2, .string a0_3, .slice A0_4 l0_4.length c0_4] 34 (0, 0)) (Hd.k_ BK302) hg (Kd.R_ne HO306.out BK302.out (by decide))); have n1_ := Aside0.mk (blk_grown (g := gb303) (o := .cells #[.int .i64 0, .int .i64 0, .int .i64 0, .string (⟨#[]⟩ : ByteArray), .slice none 0 0] 34 (0, 0)) (Hd.k_ BK303) hg (Kd.R_ne HO306.out BK303.out (by decide))); have n2_ := Aside0.mk (hb); have n3_ := Aside0.mk (ho); clear BK302; clear BK303; clear HB; clear HO306; have BK302 := n0_; have BK303 := n1_; have HB := n2_; have HO309 := n3_; clear n0_ n1_ n2_ n3_; clear ho hb hg hat; obtain ⟨Ao10, co10, eo10⟩ := Kd.R_slice HO309.out; subst eo10; obtain ⟨hcz11_0, hcz11_1, hcz11_2, hcz11_3, hcz11_4⟩ := Hd.c5_ BK302.out; obtain ⟨hfz11_0, hfz11_1, hfz11_2, hfz11_3, hfz11_4⟩ := Hd.f5_ BK302.out; obtain ⟨hcz12_0, hcz12_1, hcz12_2, hcz12_3, hcz12_4⟩ := Hd.c5_ BK303.out; obtain ⟨hfz12_0, hfz12_1, hfz12_2, hfz12_3, hfz12_4⟩ := Hd.f5_ BK303.out))
  refine bodyPost_ret (results_cell_row rfl _ _ gb303 34 #[.int .i64 a0_0, .int .i64 a0_1, .int .i64 a0_2, .string a0_3, .slice Ao10 y307.length co10] (0, 0) _ rfl (by (with_reducible repeat (first | refine blk_drewN ?_ _ | refine blk_drew ?_ | refine blk_alloc ?_ _)); refine blk_put (cs := #[.int .i64 a0_0, .int .i64 a0_1, .int .i64 a0_2, .string a0_3, .slice none 0 0]) ?_ 4 _ rfl; (with_reducible repeat (first | refine blk_drewN ?_ _ | refine blk_drew ?_ | refine blk_alloc ?_ _)); refine blk_put (cs := #[.int .i64 a0_0, .int .i64 a0_1, .int .i64 a0_2, .string (⟨#[]⟩ : ByteArray), .slice none 0 0]) ?_ 3 _ rfl; (with_reducible repeat (first | refine blk_drewN ?_ _ | refine blk_drew ?_ | refine blk_alloc ?_ _)); refine blk_put (cs := #[.int .i64 a0_0, .int .i64 a0_1, .int .i64 0, .string (⟨#[]⟩ : ByteArray), .slice none 0 0]) ?_ 2 _ rfl; (with_reducible repeat (first | refine blk_drewN ?_ _ | refine blk_drew ?_ | refine blk_alloc ?_ _)); refine blk_put (cs := #[.int .i64 a0_0, .int .i64 0, .int .i64 0, .string (⟨#[]⟩ : ByteArray), .slice none 0 0]) ?_ 1 _ rfl; (with_reducible repeat (first | refine blk_drewN ?_ _ | refine blk_drew ?_ | refine blk_alloc ?_ _)); refine blk_put (cs := #[.int .i64 0, .int .i64 0, .int .i64 0, .string (⟨#[]⟩ : ByteArray), .slice none 0 0]) ?_ 0 _ rfl; (with_reducible repeat (first | refine blk_drewN ?_ _ | refine blk_drew ?_ | refine blk_alloc ?_ _)); refine blk_far ?_ NB303_302.out _; (with_reducible repeat (first | refine blk_drewN ?_ _ | refine blk_drew ?_ | refine blk_alloc ?_ _)); exact BK303.out) Try.underlying34 rfl (by kernel_rfl)) rfl ?_
  exact ⟨_, Hd.e_, by (with_reducible repeat (first | apply Kd.R_alloc | apply Kd.R_drewN | apply Kd.R_drew)); exact Kd.R_mono (Kd.R_far (p := ⟨gb303, 4, none⟩) (Kd.R_far (p := ⟨gb303, 3, none⟩) (Kd.R_far (p := ⟨gb303, 2, none⟩) (Kd.R_far (p := ⟨gb303, 1, none⟩) (Kd.R_far (p := ⟨gb303, 0, none⟩) (Kd.R_far (p := ⟨gb302, 4, none⟩) (Kd.R_types (Kd.R_types HO309.out BK302.out (by decide)) BK303.out (by decide)) (fun _ hk => hk.1.2) (.slice Ao10 y307.length co10)) (fun _ hk => hk.2) (.int .i64 a0_0)) (fun _ hk => hk.2) (.int .i64 a0_1)) (fun _ hk => hk.2) (.int .i64 a0_2)) (fun _ hk => hk.2) (.string a0_3)) (fun _ hk => hk.2) (.slice Ao10 y307.length co10)) (fun _ hk => trivial), Hd.b_⟩
 ·
  rw [if_neg c2] at H
  exact absurd H (by simp)
def spec_l9Copy.l0 : Nat → List (S34) → List (S34) → Int → Option ((List (S34)))
 | 0, _, _, _ => none
 | k + 1, x0, x3, x4 => if x4 < (x0.length : Int) then (if 0 ≤ x4 then ((spec_l9Feature.f ((rd_T34 x0 x4).f0) ((rd_T34 x0 x4).f1) ((rd_T34 x0 x4).f2) ((rd_T34 x0 x4).f3) ((rd_T34 x0 x4).f4)).bind fun bt314 => (if x3.length < 2199023255552 then (spec_l9Copy.l0 k x0 (x3 ++ [(⟨bt314.1, bt314.2.1, bt314.2.2.1, bt314.2.2.2.1, bt314.2.2.2.2⟩ : S34)]) (wrap64 (x4 + 1))) else (none))) else (none)) else (some x3)
def spec_l9Copy.f (k : Nat) (l0 : List (S34)) : Option ((List (S34))) := spec_l9Copy.l0 k l0 (([] : List (S34))) 0
set_option maxHeartbeats 8000000 in
set_option maxRecDepth 100000 in
theorem spec_l9Copy.calls (k : Nat) (A0 : Option Addr) (c0 : Nat) (l0 : List (S34)) (r : List (S34)) (w : World) (hr0 : Kd.C k34 w A0 l0.length l0) (hc0 : l0.length ≤ c0) (h : spec_l9Copy.f k l0 = some r) :
  Calls Try.prog 34 #[.slice A0 l0.length c0] w fun e w' => ∃ v0_ : Value, e = .returned (v0_) ∧ Kd.S k34 34 w' w.heap.size (fun _ => True) v0_ r ∧ Below w.heap.size w w' := by
 have hu34 := Try.underlying34
 have HR0 := Aside0.mk hr0
 have HC0 := Aside0.mk hc0
 clear hr0 hc0
 have HB := Aside0.mk (Below.refl w.heap.size w)
 have H : (spec_l9Copy.l0 k l0 (([] : List (S34))) 0) = some r := h
 clear h
 obtain ⟨y310, hy310⟩ : ∃ y_ : List (S34), y_ = (([] : List (S34))) := ⟨_, rfl⟩
 replace H : (spec_l9Copy.l0 k l0 y310 0) = some r := by first | (rw [hy310]; with_reducible exact H) | (have H2_ := (Option.bind_some _ _).symm.trans H; rw [hy310]; with_reducible exact H2_) | (have H2_ := (Option.bind_some _ _).symm.trans H; with_reducible exact H2_) | with_reducible exact H | (rw [hy310]; exact H) | exact H
 have Ny310 := Aside0.mk hy310
 clear hy310
 have H' := Aside0.mk H
 clear H
 go_enter Try.func34, Try.ntmps34
 go_wp2_with (first | ((with_reducible refine gate_dst (N := 5) rfl ?_); refine Kd.S_lit k34 _ 34 ?hg (N := 5) ?hd (xs := ([] : List (S34))) (inner := []) (ok := fun _ => True) (okp := fun _ => True) ?hr ?hp (fun _ hk => hk) trivial (Below.refl _ _) (Nat.le_refl _) (by simp) ?_; (case hd => rfl); (case hg => rfl); (case hr => first | (go_simp; done) | (go_simp; rfl)); (case hp => exact (Reps.none _ _)); intro v311 w2 ho3 hb hg_ hnew_; clear hg_ hnew_; (first | rw [← Ny310.out] at ho3 | (simp only [Int.reduceToNat] at ho3; rw [← Ny310.out] at ho3)); have HO312 := Aside0.mk (Kd.S_lower ho3 (below_size Hd.b_)); replace HB := Aside0.mk (below_step Hd.b_ hb); clear hb ho3))
 go_loopg [3, 4] k (fun kq v3 v4 w' => ∃ (x3_1 : List (S34)) (x4_1 : Int), v4 = .int .i64 x4_1 ∧ Aside0 (spec_l9Copy.l0 kq l0 x3_1 x4_1 = some r) ∧ Aside0 (kq ≤ k) ∧ Aside0 (Kd.S k34 34 w' w.heap.size (fun _ => True) v3 x3_1) ∧ Aside0 (Below w.heap.size w w'))
 case atStart => exact ⟨(y310), (0), (by first | rfl | (simp; done) | (simp [*]; done)), H', ⟨Nat.le_refl _⟩, ⟨by (with_reducible repeat (first | apply Kd.S_alloc | apply Kd.S_drewN | apply Kd.S_drew)); exact HO312.out⟩, ⟨Hd.b_⟩⟩
 case round =>
  clear H'
  try clear p2
  try clear c3
  obtain ⟨x3_1, x4_1, rfl, HA, HK1, HO_3, HB⟩ := hrel
  cases gk with
  | zero => exact absurd HA.out (by simp [spec_l9Copy.l0])
  | succ k1 =>
   have H := HA.out
   clear HA
   simp only [spec_l9Copy.l0] at H
   by_cases c4 : x4_1 < (l0.length : Int)
   ·
    rw [if_pos c4] at H
    have c4b0 : decide (x4_1 < (l0.length : Int)) = true := decide_eq_true c4
    clear c4
    by_cases c5 : 0 ≤ x4_1
    ·
     rw [if_pos c5] at H
     have c5b0 : decide (0 ≤ x4_1) = true := decide_eq_true c5
     clear c5
     replace H := Option.bind_eq_some_iff.mp H
     obtain ⟨⟨t314, t315, t316, t317, t318⟩, A60, H⟩ := H
     replace H : (if x3_1.length < 2199023255552 then (spec_l9Copy.l0 k1 l0 (x3_1 ++ [(⟨t314, t315, t316, t317, t318⟩ : S34)]) (wrap64 (x4_1 + 1))) else (none)) = some r := H
     have A6 := Aside0.mk A60
     clear A60
     by_cases c7 : x3_1.length < 2199023255552
     ·
      rw [if_pos c7] at H
      have LMc7 := Aside0.mk c7
      clear c7
      obtain ⟨y321, hy321⟩ : ∃ y_ : List (S34), y_ = (x3_1 ++ [(⟨t314, t315, t316, t317, t318⟩ : S34)]) := ⟨_, rfl⟩
      replace H : (spec_l9Copy.l0 k1 l0 y321 (wrap64 (x4_1 + 1))) = some r := by first | (rw [hy321]; with_reducible exact H) | (have H2_ := (Option.bind_some _ _).symm.trans H; rw [hy321]; with_reducible exact H2_) | (have H2_ := (Option.bind_some _ _).symm.trans H; with_reducible exact H2_) | with_reducible exact H | (rw [hy321]; exact H) | exact H
      have Ny321 := Aside0.mk hy321
      clear hy321
      have H' := Aside0.mk H
      clear H
      have p313 : 0 ≤ (x4_1 : Int) := of_decide_eq_true Hd.a_
      have q313 : x4_1 < (l0.length : Int) := of_decide_eq_true Hd.a_
      obtain ⟨ad313, A313_4, c313_4, e313, hx313_0, hx313_1, hx313_2, hx313_3, hx313_4, hl313_4, hi313_4⟩ := at_T34 HR0.out x4_1 p313 q313
      cases e313
      replace hx313_0 := (HB.out.cell (World.block_lt_of_cell? w _ hx313_0)).trans hx313_0
      replace hx313_1 := (HB.out.cell (World.block_lt_of_cell? w _ hx313_1)).trans hx313_1
      replace hx313_2 := (HB.out.cell (World.block_lt_of_cell? w _ hx313_2)).trans hx313_2
      replace hx313_3 := (HB.out.cell (World.block_lt_of_cell? w _ hx313_3)).trans hx313_3
      replace hx313_4 := (HB.out.cell (World.block_lt_of_cell? w _ hx313_4)).trans hx313_4
      have HR313_4 := Aside0.mk hi313_4
      have HC313_4 := Aside0.mk hl313_4
      clear hi313_4 hl313_4
      replace p313 := eq_true p313
      replace q313 := eq_true q313
      go_wp2_with (first | ((with_reducible refine gate_callee (f := 35) rfl ?_); refine goesL_ (some 17) rfl rfl Try.func35 (by kernel_rfl) rfl #[.agg #[.int .i64 ((rd_T34 l0 x4_1).f0), .int .i64 ((rd_T34 l0 x4_1).f1), .int .i64 ((rd_T34 l0 x4_1).f2), .string ((rd_T34 l0 x4_1).f3), .slice A313_4 ((rd_T34 l0 x4_1).f4).length c313_4]] rfl Hd.m_ ?_; (with_reducible refine (spec_l9Feature.calls ((rd_T34 l0 x4_1).f0) ((rd_T34 l0 x4_1).f1) ((rd_T34 l0 x4_1).f2) ((rd_T34 l0 x4_1).f3) _ _ ((rd_T34 l0 x4_1).f4) t314 t315 t316 t317 t318 _ ?side1 ?side2 A6.out).mono ?_); (case side1 => repeat (first | exact (Kd.C_below HR313_4.out HB.out) | (with_reducible refine Kd.C_alloc ?_ _) | (with_reducible refine Kd.C_drewN ?_ _) | (with_reducible refine Kd.C_drew ?_))); (case side2 => exact HC313_4.out); rintro e w8 ⟨v319, rfl, ho0, hb⟩; refine ⟨_, rfl, ?_⟩; replace HO_3 := Aside0.mk (Kd.S_elder' (by (with_reducible repeat (first | apply Kd.S_alloc | apply Kd.S_drewN | apply Kd.S_drew)); exact HO_3.out) (Kd.R_base ho0) hb); have HO320 := Aside0.mk (Kd.R_lower ho0 (below_size Hd.b_)); replace HB := Aside0.mk (below_step Hd.b_ hb); (try clear hb); (try clear hb2); (try clear hk); (try clear hi); (try clear ho0); obtain ⟨Ao10, co10, eo10⟩ := Kd.R_slice HO320.out; subst eo10) | ((with_reducible refine gate_builtin (b := .append) (xs := #[.tmp 12, .tmp 18]) rfl ?_); at_builtin; refine Kd.S_append k34 (w0 := w) w.heap.size rfl (.tmp 12) (.tmp 18) 28 34 (.agg #[(.int .i64 0), (.int .i64 0), (.int .i64 0), (.string ⟨#[]⟩), (.slice none 0 0)]) 64 rfl Try.underlying28 info34 rfl (by decide) (by omega) u3 x3_1 (⟨t314, t315, t316, t317, t318⟩ : S34) [.int .i64 t314, .int .i64 t315, .int .i64 t316, .string t317, .slice Ao10 t318.length co10] (fun _ => True) (fun k_ => some k_ = (.slice Ao10 t318.length co10 : Value).ownBlock) rfl rfl ?aP (fun k_ hk_ => ((Kd.R_mono (ok' := fun k_ => ((fun _ => True)) k_ ∧ some k_ ≠ (u3 : Value).ownBlock) (Kd.R_apart' (HO320.out) (Kd.S_typed HO_3.out) (by decide)) (fun k_ hk => ⟨trivial, hk.2⟩))).1 k_ hk_.symm) ?aF ?aO ?aB ?aS ?aL ?_; (case aP => exact k34_mkM _ _ _ (⟨t314, t315, t316, t317, t318⟩ : S34) (Kd.R_mono (Kd.R_tight rfl (Kd.R_mono (ok' := fun k_ => ((fun _ => True)) k_ ∧ some k_ ≠ (u3 : Value).ownBlock) (Kd.R_apart' (HO320.out) (Kd.S_typed HO_3.out) (by decide)) (fun k_ hk => ⟨trivial, hk.2⟩))) (fun _ h_ => h_))); (case aB => exact Hd.b_); (case aF => exact (fun _ _ => trivial)); (case aO => exact (by (with_reducible repeat (first | apply Kd.S_alloc | apply Kd.S_drewN | apply Kd.S_drew)); exact Kd.S_mono HO_3.out (fun k_ hk => ⟨trivial, fun e_ => hk.2 e_⟩))); (case aS => exact (below_size Hd.b_)); (case aL => have := LMc7.out; omega); intro v322 w9 ho hb hg hat; rw [← Ny321.out] at ho; have n0_ := Aside0.mk (hb); have n1_ := Aside0.mk (ho); clear HB; clear HO_3; clear HO320; have HB := n0_; have HO323 := n1_; clear n0_ n1_; clear ho hb hg hat))
      go_roundg k1
      case measure => have := HK1.out; omega
      case rel => exact ⟨(y321), (wrap64 (x4_1 + 1)), (by first | rfl | (simp; done) | (simp [*]; done)), H', ⟨by have := HK1.out; omega⟩, ⟨by (with_reducible repeat (first | apply Kd.S_alloc | apply Kd.S_drewN | apply Kd.S_drew)); exact HO323.out⟩, ⟨Hd.b_⟩⟩
     ·
      rw [if_neg c7] at H
      exact absurd H (by simp)
    ·
     rw [if_neg c5] at H
     exact absurd H (by simp)
   ·
    rw [if_neg c4] at H
    have c4b0 : decide (x4_1 < (l0.length : Int)) = false := decide_eq_false c4
    clear c4
    obtain rfl := Option.some.inj H
    go_wp2
    go_ret
    exact ⟨_, Hd.e_, by (with_reducible repeat (first | apply Kd.S_alloc | apply Kd.S_drewN | apply Kd.S_drew)); exact HO_3.out, Hd.b_⟩
def spec_l1In.f (a0 : Int) (a1 : Int) (a2 : Int) : Option (Bool) := if a0 ≥ a1 then (some (decide (a0 ≤ a2))) else (some false)
set_option maxHeartbeats 8000000 in
set_option maxRecDepth 100000 in
theorem spec_l1In.calls (a0 : Int) (a1 : Int) (a2 : Int) (r : Bool) (w : World) (h : spec_l1In.f a0 a1 a2 = some r) :
  Calls Try.prog 79 #[.int .i64 a0, .int .i64 a1, .int .i64 a2] w fun e w' => e = .returned (.bool r) ∧ Drawn0 w w' := by
 have H : (if a0 ≥ a1 then (some (decide (a0 ≤ a2))) else (some false)) = some r := h
 clear h
 by_cases c4 : a0 ≥ a1
 ·
  rw [if_pos c4] at H
  have c4b0 : decide (a1 ≤ a0) = true := decide_eq_true c4
  clear c4
  obtain rfl := Option.some.inj H
  go_enter Try.func79, Try.ntmps79
  go_wp2
  go_ret
  exact ⟨by first | rfl | (simp; done) | (simp [*]; done), by repeat (first | exact Drawn0.refl _ | apply Drawn0.step)⟩
 ·
  rw [if_neg c4] at H
  have c4b0 : decide (a1 ≤ a0) = false := decide_eq_false c4
  clear c4
  obtain rfl := Option.some.inj H
  go_enter Try.func79, Try.ntmps79
  go_wp2
  go_ret
  exact ⟨by first | rfl | (simp; done) | (simp [*]; done), by repeat (first | exact Drawn0.refl _ | apply Drawn0.step)⟩
def spec_IsName.l0 : Nat → ByteArray → Int → Option (Bool)
 | 0, _, _ => none
 | k + 1, x0, x3 => if x3 < (x0.size : Int) then (if 0 ≤ x3 then (if (bt x0 x3) < 97 then (some false) else (if (bt x0 x3) > 122 then (some false) else (spec_IsName.l0 k x0 (wrap64 (x3 + 1))))) else (none)) else ((spec_l1In.f (x0.size : Int) 1 8).bind fun t324 => (some t324))
def spec_IsName.f (k : Nat) (a0 : ByteArray) : Option (Bool) := spec_IsName.l0 k a0 0
set_option maxHeartbeats 8000000 in
set_option maxRecDepth 100000 in
theorem spec_IsName.calls (k : Nat) (a0 : ByteArray) (r : Bool) (w : World) (h : spec_IsName.f k a0 = some r) :
  Calls Try.prog 80 #[.string a0] w fun e w' => e = .returned (.bool r) ∧ Drawn0 w w' := by
 have H : (spec_IsName.l0 k a0 0) = some r := h
 clear h
 have H' := Aside0.mk H
 clear H
 go_enter Try.func80, Try.ntmps80
 go_wp2
 go_loopg [3] k (fun kq v3 w' => ∃ (x3_1 : Int), v3 = .int .i64 x3_1 ∧ Aside0 (spec_IsName.l0 kq a0 x3_1 = some r) ∧ Aside0 (kq ≤ k) ∧ Drawn0 w w')
 case atStart => exact ⟨(0), (by first | rfl | (simp; done) | (simp [*]; done)), H', ⟨Nat.le_refl _⟩, by repeat (first | exact Drawn0.refl _ | apply Drawn0.step)⟩
 case round =>
  clear H'
  obtain ⟨x3_1, rfl, HA, HK1, ⟨m1, rfl⟩⟩ := hrel
  cases gk with
  | zero => exact absurd HA.out (by simp [spec_IsName.l0])
  | succ k1 =>
   have H := HA.out
   clear HA
   simp only [spec_IsName.l0] at H
   by_cases c2 : x3_1 < (a0.size : Int)
   ·
    rw [if_pos c2] at H
    have c2b0 : decide (x3_1 < (a0.size : Int)) = true := decide_eq_true c2
    clear c2
    by_cases c3 : 0 ≤ x3_1
    ·
     rw [if_pos c3] at H
     have c3b0 : decide (0 ≤ x3_1) = true := decide_eq_true c3
     clear c3
     by_cases c5 : (bt a0 x3_1) < 97
     ·
      rw [if_pos c5] at H
      have c5b0 : decide ((bt a0 x3_1) < 97) = true := decide_eq_true c5
      clear c5
      obtain rfl := Option.some.inj H
      have p4 : 0 ≤ (x3_1 : Int) := of_decide_eq_true Hd.a_
      have q4 : x3_1 < (a0.size : Int) := of_decide_eq_true Hd.a_
      have hx4 := bt_at a0 x3_1
      replace p4 := eq_true p4
      replace q4 := eq_true q4
      go_wp2
      go_ret
      exact ⟨by first | rfl | (simp; done) | (simp [*]; done), by repeat (first | exact Drawn0.refl _ | apply Drawn0.step)⟩
     ·
      rw [if_neg c5] at H
      have c5b0 : decide ((bt a0 x3_1) < 97) = false := decide_eq_false c5
      clear c5
      by_cases c7 : (bt a0 x3_1) > 122
      ·
       rw [if_pos c7] at H
       have c7b0 : decide (122 < (bt a0 x3_1)) = true := decide_eq_true c7
       clear c7
       obtain rfl := Option.some.inj H
       have p4 : 0 ≤ (x3_1 : Int) := of_decide_eq_true Hd.a_
       have q4 : x3_1 < (a0.size : Int) := of_decide_eq_true Hd.a_
       have hx4 := bt_at a0 x3_1
       replace p4 := eq_true p4
       replace q4 := eq_true q4
       have p6 : 0 ≤ (x3_1 : Int) := of_decide_eq_true Hd.a_
       have q6 : x3_1 < (a0.size : Int) := of_decide_eq_true Hd.a_
       have hx6 := bt_at a0 x3_1
       replace p6 := eq_true p6
       replace q6 := eq_true q6
       go_wp2
       go_ret
       exact ⟨by first | rfl | (simp; done) | (simp [*]; done), by repeat (first | exact Drawn0.refl _ | apply Drawn0.step)⟩
      ·
       rw [if_neg c7] at H
       have c7b0 : decide (122 < (bt a0 x3_1)) = false := decide_eq_false c7
       clear c7
       have H' := Aside0.mk H
       clear H
       have p4 : 0 ≤ (x3_1 : Int) := of_decide_eq_true Hd.a_
       have q4 : x3_1 < (a0.size : Int) := of_decide_eq_true Hd.a_
       have hx4 := bt_at a0 x3_1
       replace p4 := eq_true p4
       replace q4 := eq_true q4
       have p6 : 0 ≤ (x3_1 : Int) := of_decide_eq_true Hd.a_
       have q6 : x3_1 < (a0.size : Int) := of_decide_eq_true Hd.a_
       have hx6 := bt_at a0 x3_1
       replace p6 := eq_true p6
       replace q6 := eq_true q6
       go_wp2
       go_roundg k1
       case measure => have := HK1.out; omega
       case rel => exact ⟨(wrap64 (x3_1 + 1)), (by first | rfl | (simp; done) | (simp [*]; done)), H', ⟨by have := HK1.out; omega⟩, by repeat (first | exact Drawn0.refl _ | apply Drawn0.step)⟩
    ·
     rw [if_neg c3] at H
     exact absurd H (by simp)
   ·
    rw [if_neg c2] at H
    have c2b0 : decide (x3_1 < (a0.size : Int)) = false := decide_eq_false c2
    clear c2
    replace H := Option.bind_eq_some_iff.mp H
    obtain ⟨t324, A80, H⟩ := H
    replace H : (some t324) = some r := H
    have A8 := Aside0.mk A80
    clear A80
    obtain rfl := Option.some.inj H
    go_wp2_with (first | ((with_reducible refine gate_callee (f := 79) rfl ?_); refine goesL_ (some 22) rfl rfl Try.func79 (by kernel_rfl) rfl #[.int .i64 (a0.size : Int), .int .i64 1, .int .i64 8] rfl Hd.m_ ?_; (with_reducible refine (spec_l1In.calls (a0.size : Int) 1 8 t324 _ A8.out).mono ?_); rintro e w' ⟨rfl, ⟨nd, rfl⟩⟩; refine ⟨_, rfl, ?_⟩))
    go_ret
    exact ⟨by first | rfl | (simp; done) | (simp [*]; done), by repeat (first | exact Drawn0.refl _ | apply Drawn0.step)⟩
def spec_IsPoint.f (a0_0 : Int) (a0_1 : Int) : Option (Bool) := (spec_l1In.f a0_0 0 200).bind fun t326 => (if t326 = true then ((spec_l1In.f a0_1 0 200).bind fun t327 => (some t327)) else (some false))
set_option maxHeartbeats 8000000 in
set_option maxRecDepth 100000 in
theorem spec_IsPoint.calls (a0_0 : Int) (a0_1 : Int) (r : Bool) (w : World) (h : spec_IsPoint.f a0_0 a0_1 = some r) :
  Calls Try.prog 81 #[.agg #[.int .i64 a0_0, .int .i64 a0_1]] w fun e w' => e = .returned (.bool r) ∧ Below w.heap.size w w' := by
 have hu75 := Try.underlying75
 have HB := Aside0.mk (Below.refl w.heap.size w)
 have H : ((spec_l1In.f a0_0 0 200).bind fun t326 => (if t326 = true then ((spec_l1In.f a0_1 0 200).bind fun t327 => (some t327)) else (some false))) = some r := h
 clear h
 replace H := Option.bind_eq_some_iff.mp H
 obtain ⟨t326, A20, H⟩ := H
 replace H : (if t326 = true then ((spec_l1In.f a0_1 0 200).bind fun t327 => (some t327)) else (some false)) = some r := H
 have A2 := Aside0.mk A20
 clear A20
 by_cases c3 : t326 = true
 ·
  subst c3
  have H1 : ((spec_l1In.f a0_1 0 200).bind fun t327 => (some t327)) = some r := by rw [if_pos rfl] at H; exact H
  clear H
  have H := H1
  clear H1
  replace H := Option.bind_eq_some_iff.mp H
  obtain ⟨t327, A40, H⟩ := H
  replace H : (some t327) = some r := H
  have A4 := Aside0.mk A40
  clear A40
  obtain rfl := Option.some.inj H
  go_enter Try.func81, Try.ntmps81
  go_wp2_with (first | ((with_reducible refine gate_dst (N := 1) rfl ?_); refine Hd.box_ 1 (#[.int .i64 a0_0, .int .i64 a0_1]) 75 ?_; intro gb325 hg w5 hbox hb; have BK325 := Aside0.mk (hbox); have GW325 := Aside0.mk ((Hd.g_ hg Hd.b_ : w.heap.size ≤ gb325)); have GE325 := Aside0.mk ((Hd.g_ hg Hd.b_ : w.heap.size ≤ gb325)); replace HB := Aside0.mk (below_step Hd.b_ hb); clear hb hbox hg; obtain ⟨hcz6_0, hcz6_1⟩ := Hd.c2_ BK325.out; obtain ⟨hfz6_0, hfz6_1⟩ := Hd.f2_ BK325.out) | ((with_reducible refine gate_callee (f := 79) rfl ?_); refine goesL_ (some 5) rfl rfl Try.func79 (by kernel_rfl) rfl #[.int .i64 a0_0, .int .i64 0, .int .i64 200] rfl Hd.m_ ?_; (with_reducible refine (spec_l1In.calls a0_0 0 200 true _ A2.out).mono ?_); rintro e w' ⟨rfl, ⟨nd, rfl⟩⟩; refine ⟨_, rfl, ?_⟩) | (go_at_call 79; (with_reducible refine (spec_l1In.calls a0_1 0 200 t327 _ A4.out).mono ?_); rintro e w' ⟨rfl, ⟨nd, rfl⟩⟩))
  go_ret
  exact ⟨Hd.e_, Hd.b_⟩
 ·
  replace c3 := Bool.eq_false_iff.mpr c3
  subst c3
  have H1 : (some false) = some r := by rw [if_neg (show ¬ (false = true) by decide)] at H; exact H
  clear H
  have H := H1
  clear H1
  obtain rfl := Option.some.inj H
  go_enter Try.func81, Try.ntmps81
  go_wp2_with (first | ((with_reducible refine gate_dst (N := 1) rfl ?_); refine Hd.box_ 1 (#[.int .i64 a0_0, .int .i64 a0_1]) 75 ?_; intro gb325 hg w7 hbox hb; have BK325 := Aside0.mk (hbox); have GW325 := Aside0.mk ((Hd.g_ hg Hd.b_ : w.heap.size ≤ gb325)); have GE325 := Aside0.mk ((Hd.g_ hg Hd.b_ : w.heap.size ≤ gb325)); replace HB := Aside0.mk (below_step Hd.b_ hb); clear hb hbox hg; obtain ⟨hcz8_0, hcz8_1⟩ := Hd.c2_ BK325.out; obtain ⟨hfz8_0, hfz8_1⟩ := Hd.f2_ BK325.out) | ((with_reducible refine gate_callee (f := 79) rfl ?_); refine goesL_ (some 5) rfl rfl Try.func79 (by kernel_rfl) rfl #[.int .i64 a0_0, .int .i64 0, .int .i64 200] rfl Hd.m_ ?_; (with_reducible refine (spec_l1In.calls a0_0 0 200 false _ A2.out).mono ?_); rintro e w' ⟨rfl, ⟨nd, rfl⟩⟩; refine ⟨_, rfl, ?_⟩))
  go_ret
  exact ⟨Hd.e_, Hd.b_⟩
def spec_IsLine.l0 : Nat → List (S75) → Int → Option (Bool)
 | 0, _, _ => none
 | k + 1, x0, x3 => if x3 < (x0.length : Int) then (if 0 ≤ x3 then ((spec_IsPoint.f ((rd_T75 x0 x3).f0) ((rd_T75 x0 x3).f1)).bind fun t329 => (if t329 = true then (if x3 > 0 then (if 0 ≤ (wrap64 (x3 - 1)) then (if (wrap64 (x3 - 1)) < (x0.length : Int) then (if (((rd_T75 x0 (wrap64 (x3 - 1))).f0) == ((rd_T75 x0 x3).f0) && (((rd_T75 x0 (wrap64 (x3 - 1))).f1) == ((rd_T75 x0 x3).f1))) = true then (some false) else (spec_IsLine.l0 k x0 (wrap64 (x3 + 1)))) else (none)) else (none)) else (spec_IsLine.l0 k x0 (wrap64 (x3 + 1)))) else (some false))) else (none)) else ((spec_l1In.f (x0.length : Int) 2 10).bind fun t332 => (some t332))
def spec_IsLine.f (k : Nat) (l0 : List (S75)) : Option (Bool) := spec_IsLine.l0 k l0 0
set_option maxHeartbeats 8000000 in
set_option maxRecDepth 100000 in
theorem spec_IsLine.calls (k : Nat) (A0 : Option Addr) (c0 : Nat) (l0 : List (S75)) (r : Bool) (w : World) (hr0 : Kd.C k75 w A0 l0.length l0) (hc0 : l0.length ≤ c0) (h : spec_IsLine.f k l0 = some r) :
  Calls Try.prog 97 #[.slice A0 l0.length c0] w fun e w' => e = .returned (.bool r) ∧ Below w.heap.size w w' := by
 have hu75 := Try.underlying75
 have HR0 := Aside0.mk hr0
 have HC0 := Aside0.mk hc0
 clear hr0 hc0
 have HB := Aside0.mk (Below.refl w.heap.size w)
 have H : (spec_IsLine.l0 k l0 0) = some r := h
 clear h
 have H' := Aside0.mk H
 clear H
 go_enter Try.func97, Try.ntmps97
 go_wp2
 go_loopg [3] k (fun kq v3 w' => ∃ (x3_1 : Int), v3 = .int .i64 x3_1 ∧ Aside0 (spec_IsLine.l0 kq l0 x3_1 = some r) ∧ Aside0 (kq ≤ k) ∧ Aside0 (Below w.heap.size w w'))
 case atStart => exact ⟨(0), (by first | rfl | (simp; done) | (simp [*]; done)), H', ⟨Nat.le_refl _⟩, ⟨Hd.b_⟩⟩
 case round =>
  clear H'
  obtain ⟨x3_1, rfl, HA, HK1, HB⟩ := hrel
  cases gk with
  | zero => exact absurd HA.out (by simp [spec_IsLine.l0])
  | succ k1 =>
   have H := HA.out
   clear HA
   simp only [spec_IsLine.l0] at H
   by_cases c2 : x3_1 < (l0.length : Int)
   ·
    rw [if_pos c2] at H
    have c2b0 : decide (x3_1 < (l0.length : Int)) = true := decide_eq_true c2
    clear c2
    by_cases c3 : 0 ≤ x3_1
    ·
     rw [if_pos c3] at H
     have c3b0 : decide (0 ≤ x3_1) = true := decide_eq_true c3
     clear c3
     replace H := Option.bind_eq_some_iff.mp H
     obtain ⟨t329, A40, H⟩ := H
     replace H : (if t329 = true then (if x3_1 > 0 then (if 0 ≤ (wrap64 (x3_1 - 1)) then (if (wrap64 (x3_1 - 1)) < (l0.length : Int) then (if (((rd_T75 l0 (wrap64 (x3_1 - 1))).f0) == ((rd_T75 l0 x3_1).f0) && (((rd_T75 l0 (wrap64 (x3_1 - 1))).f1) == ((rd_T75 l0 x3_1).f1))) = true then (some false) else (spec_IsLine.l0 k1 l0 (wrap64 (x3_1 + 1)))) else (none)) else (none)) else (spec_IsLine.l0 k1 l0 (wrap64 (x3_1 + 1)))) else (some false)) = some r := H
     have A4 := Aside0.mk A40
     clear A40
     by_cases c5 : t329 = true
     ·
      subst c5
      have H1 : (if x3_1 > 0 then (if 0 ≤ (wrap64 (x3_1 - 1)) then (if (wrap64 (x3_1 - 1)) < (l0.length : Int) then (if (((rd_T75 l0 (wrap64 (x3_1 - 1))).f0) == ((rd_T75 l0 x3_1).f0) && (((rd_T75 l0 (wrap64 (x3_1 - 1))).f1) == ((rd_T75 l0 x3_1).f1))) = true then (some false) else (spec_IsLine.l0 k1 l0 (wrap64 (x3_1 + 1)))) else (none)) else (none)) else (spec_IsLine.l0 k1 l0 (wrap64 (x3_1 + 1)))) = some r := by rw [if_pos rfl] at H; exact H
      clear H
      have H := H1
      clear H1
      by_cases c6 : x3_1 > 0
      ·
       rw [if_pos c6] at H
       have c6b0 : decide (0 < x3_1) = true := decide_eq_true c6
       clear c6
       obtain ⟨ji7, hji7⟩ : ∃ j_ : Int, (wrap64 (x3_1 - 1)) = j_ := ⟨_, rfl⟩
       replace H : (if 0 ≤ (ji7) then (if (ji7) < (l0.length : Int) then (if (((rd_T75 l0 (ji7)).f0) == ((rd_T75 l0 x3_1).f0) && (((rd_T75 l0 (ji7)).f1) == ((rd_T75 l0 x3_1).f1))) = true then (some false) else (spec_IsLine.l0 k1 l0 (wrap64 (x3_1 + 1)))) else (none)) else (none)) = some r := by first | (rw [hji7] at H; exact H) | (simp only [hji7] at H ⊢; exact H)
       (try rw [hji7] at A4)
       have hji7w : (IntKind.i64.wrap (x3_1 - 1)) = ji7 := (i64_w _).trans hji7
       by_cases c8 : 0 ≤ (ji7)
       ·
        rw [if_pos c8] at H
        have c8b0 : decide (0 ≤ (ji7)) = true := decide_eq_true c8
        clear c8
        by_cases c9 : (ji7) < (l0.length : Int)
        ·
         rw [if_pos c9] at H
         have c9b0 : decide ((ji7) < (l0.length : Int)) = true := decide_eq_true c9
         clear c9
         by_cases c10 : (((rd_T75 l0 (ji7)).f0) == ((rd_T75 l0 x3_1).f0) && (((rd_T75 l0 (ji7)).f1) == ((rd_T75 l0 x3_1).f1))) = true
         ·
          rw [if_pos c10] at H
          have c10b0 : (((rd_T75 l0 (ji7)).f0) == ((rd_T75 l0 x3_1).f0) && (((rd_T75 l0 (ji7)).f1) == ((rd_T75 l0 x3_1).f1))) = true := c10
          (try (have c10b1 : decide (((rd_T75 l0 (ji7)).f0) = ((rd_T75 l0 x3_1).f0) && (((rd_T75 l0 (ji7)).f1) == ((rd_T75 l0 x3_1).f1))) = true := by simpa using c10))
          (try (have c10b2 : (((rd_T75 l0 (ji7)).f0) == ((rd_T75 l0 x3_1).f0) && (((rd_T75 l0 (ji7)).f1) == ((rd_T75 l0 x3_1).f1))) = true := by simpa using c10))
          clear c10
          obtain rfl := Option.some.inj H
          try go_wp2
          replace HB := Aside0.mk (below_drew1 HB.out)
          have p328 : 0 ≤ (x3_1 : Int) := of_decide_eq_true Hd.a_
          have q328 : x3_1 < (l0.length : Int) := of_decide_eq_true Hd.a_
          obtain ⟨ad328, e328, hx328_0, hx328_1⟩ := at_T75 HR0.out x3_1 p328 q328
          have hw328_1 := hx328_1
          have hw328_0 := hx328_0
          cases e328
          replace hx328_0 := (HB.out.cell (World.block_lt_of_cell? w _ hx328_0)).trans hx328_0
          replace hx328_1 := (HB.out.cell (World.block_lt_of_cell? w _ hx328_1)).trans hx328_1
          replace p328 := eq_true p328
          replace q328 := eq_true q328
          have p330 : 0 ≤ ((ji7) : Int) := of_decide_eq_true Hd.a_
          have q330 : (ji7) < (l0.length : Int) := of_decide_eq_true Hd.a_
          obtain ⟨ad330, e330, hx330_0, hx330_1⟩ := at_T75 HR0.out (ji7) p330 q330
          have hw330_1 := hx330_1
          have hw330_0 := hx330_0
          obtain rfl : ad328 = ad330 := (by injection e330)
          replace hx330_0 := (HB.out.cell (World.block_lt_of_cell? w _ hx330_0)).trans hx330_0
          replace hx330_1 := (HB.out.cell (World.block_lt_of_cell? w _ hx330_1)).trans hx330_1
          replace p330 := eq_true p330
          replace q330 := eq_true q330
          have p331 : 0 ≤ (x3_1 : Int) := of_decide_eq_true Hd.a_
          have q331 : x3_1 < (l0.length : Int) := of_decide_eq_true Hd.a_
          obtain ⟨ad331, e331, hx331_0, hx331_1⟩ := at_T75 HR0.out x3_1 p331 q331
          have hw331_1 := hx331_1
          have hw331_0 := hx331_0
          obtain rfl : ad328 = ad331 := (by injection e331)
          replace hx331_0 := (HB.out.cell (World.block_lt_of_cell? w _ hx331_0)).trans hx331_0
          replace hx331_1 := (HB.out.cell (World.block_lt_of_cell? w _ hx331_1)).trans hx331_1
          replace p331 := eq_true p331
          replace q331 := eq_true q331
          have s0_ := Hd.HW.x (W0 := wr.drew) ((HB.out.cell (World.block_lt_of_cell? w _ hw328_0)).trans hw328_0)
          have s1_ := Hd.HW.x (W0 := wr.drew) ((HB.out.cell (World.block_lt_of_cell? w _ hw328_1)).trans hw328_1)
          have s2_ := Hd.HW.x (W0 := wr.drew) ((HB.out.cell (World.block_lt_of_cell? w _ hw330_0)).trans hw330_0)
          have s3_ := Hd.HW.x (W0 := wr.drew) ((HB.out.cell (World.block_lt_of_cell? w _ hw330_1)).trans hw330_1)
          have s4_ := Hd.HW.x (W0 := wr.drew) ((HB.out.cell (World.block_lt_of_cell? w _ hw331_0)).trans hw331_0)
          have s5_ := Hd.HW.x (W0 := wr.drew) ((HB.out.cell (World.block_lt_of_cell? w _ hw331_1)).trans hw331_1)
          refine Hd.HW.region (by kernel_rfl) (by kernel_rfl) ?_
          repeat (go_big_quiet_step ((first | (go_at_call 81; with_reducible exact Hd.HW.c (spec_IsPoint.calls ((rd_T75 l0 x3_1).f0) ((rd_T75 l0 x3_1).f1) true _ A4.out)))))
          refine wpQuiet_nil ?_
          intro _ hq_
          obtain ⟨q_, rfl⟩ := hq_
          clear s0_ s1_ s2_ s3_ s4_ s5_
          replace HB := Aside0.mk (below_step HB.out q_.b)
          replace hx328_0 := q_.cell hx328_0
          replace hx328_1 := q_.cell hx328_1
          replace hx330_0 := q_.cell hx330_0
          replace hx330_1 := q_.cell hx330_1
          replace hx331_0 := q_.cell hx331_0
          replace hx331_1 := q_.cell hx331_1
          generalize q_.W = w12 at HB hx328_0 hx328_1 hx330_0 hx330_1 hx331_0 hx331_1 ⊢
          try simp only [i64_w, i32_w]
          try go_wp2
          go_ret
          exact ⟨by first | rfl | (simp [errW_none, errW_some] <;> rfl) | (simp only [← hji7]; first | rfl | (simp [errW_none, errW_some] <;> rfl)) | (simp [*, errW_none, errW_some] <;> rfl), Hd.b_⟩
         ·
          rw [if_neg c10] at H
          have c10b0 : (((rd_T75 l0 (ji7)).f0) == ((rd_T75 l0 x3_1).f0) && (((rd_T75 l0 (ji7)).f1) == ((rd_T75 l0 x3_1).f1))) = false := by simpa using c10
          (try (have c10b1 : decide (((rd_T75 l0 (ji7)).f0) = ((rd_T75 l0 x3_1).f0) && (((rd_T75 l0 (ji7)).f1) == ((rd_T75 l0 x3_1).f1))) = false := by simpa using c10))
          (try (have c10b2 : (((rd_T75 l0 (ji7)).f0) == ((rd_T75 l0 x3_1).f0) && (((rd_T75 l0 (ji7)).f1) == ((rd_T75 l0 x3_1).f1))) = false := by simpa using c10))
          (try (have c10b3 : ¬ (((rd_T75 l0 (ji7)).f0) = ((rd_T75 l0 x3_1).f0) && (((rd_T75 l0 (ji7)).f1) == ((rd_T75 l0 x3_1).f1))) := by simpa using c10))
          clear c10
          have H' := Aside0.mk H
          clear H
          try go_wp2
          replace HB := Aside0.mk (below_drew1 HB.out)
          have p328 : 0 ≤ (x3_1 : Int) := of_decide_eq_true Hd.a_
          have q328 : x3_1 < (l0.length : Int) := of_decide_eq_true Hd.a_
          obtain ⟨ad328, e328, hx328_0, hx328_1⟩ := at_T75 HR0.out x3_1 p328 q328
          have hw328_1 := hx328_1
          have hw328_0 := hx328_0
          cases e328
          replace hx328_0 := (HB.out.cell (World.block_lt_of_cell? w _ hx328_0)).trans hx328_0
          replace hx328_1 := (HB.out.cell (World.block_lt_of_cell? w _ hx328_1)).trans hx328_1
          replace p328 := eq_true p328
          replace q328 := eq_true q328
          have p330 : 0 ≤ ((ji7) : Int) := of_decide_eq_true Hd.a_
          have q330 : (ji7) < (l0.length : Int) := of_decide_eq_true Hd.a_
          obtain ⟨ad330, e330, hx330_0, hx330_1⟩ := at_T75 HR0.out (ji7) p330 q330
          have hw330_1 := hx330_1
          have hw330_0 := hx330_0
          obtain rfl : ad328 = ad330 := (by injection e330)
          replace hx330_0 := (HB.out.cell (World.block_lt_of_cell? w _ hx330_0)).trans hx330_0
          replace hx330_1 := (HB.out.cell (World.block_lt_of_cell? w _ hx330_1)).trans hx330_1
          replace p330 := eq_true p330
          replace q330 := eq_true q330
          have p331 : 0 ≤ (x3_1 : Int) := of_decide_eq_true Hd.a_
          have q331 : x3_1 < (l0.length : Int) := of_decide_eq_true Hd.a_
          obtain ⟨ad331, e331, hx331_0, hx331_1⟩ := at_T75 HR0.out x3_1 p331 q331
          have hw331_1 := hx331_1
          have hw331_0 := hx331_0
          obtain rfl : ad328 = ad331 := (by injection e331)
          replace hx331_0 := (HB.out.cell (World.block_lt_of_cell? w _ hx331_0)).trans hx331_0
          replace hx331_1 := (HB.out.cell (World.block_lt_of_cell? w _ hx331_1)).trans hx331_1
          replace p331 := eq_true p331
          replace q331 := eq_true q331
          have s0_ := Hd.HW.x (W0 := wr.drew) ((HB.out.cell (World.block_lt_of_cell? w _ hw328_0)).trans hw328_0)
          have s1_ := Hd.HW.x (W0 := wr.drew) ((HB.out.cell (World.block_lt_of_cell? w _ hw328_1)).trans hw328_1)
          have s2_ := Hd.HW.x (W0 := wr.drew) ((HB.out.cell (World.block_lt_of_cell? w _ hw330_0)).trans hw330_0)
          have s3_ := Hd.HW.x (W0 := wr.drew) ((HB.out.cell (World.block_lt_of_cell? w _ hw330_1)).trans hw330_1)
          have s4_ := Hd.HW.x (W0 := wr.drew) ((HB.out.cell (World.block_lt_of_cell? w _ hw331_0)).trans hw331_0)
          have s5_ := Hd.HW.x (W0 := wr.drew) ((HB.out.cell (World.block_lt_of_cell? w _ hw331_1)).trans hw331_1)
          refine Hd.HW.region (by kernel_rfl) (by kernel_rfl) ?_
          repeat (go_big_quiet_step ((first | (go_at_call 81; with_reducible exact Hd.HW.c (spec_IsPoint.calls ((rd_T75 l0 x3_1).f0) ((rd_T75 l0 x3_1).f1) true _ A4.out)))))
          refine wpQuiet_nil ?_
          intro _ hq_
          obtain ⟨q_, rfl⟩ := hq_
          clear s0_ s1_ s2_ s3_ s4_ s5_
          replace HB := Aside0.mk (below_step HB.out q_.b)
          replace hx328_0 := q_.cell hx328_0
          replace hx328_1 := q_.cell hx328_1
          replace hx330_0 := q_.cell hx330_0
          replace hx330_1 := q_.cell hx330_1
          replace hx331_0 := q_.cell hx331_0
          replace hx331_1 := q_.cell hx331_1
          generalize q_.W = w14 at HB hx328_0 hx328_1 hx330_0 hx330_1 hx331_0 hx331_1 ⊢
          try simp only [i64_w, i32_w]
          try go_wp2
          go_roundg k1
          case measure => have := HK1.out; omega
          case rel => exact ⟨(wrap64 (x3_1 + 1)), (by first | rfl | (simp; done) | (simp [*]; done)), H', ⟨by have := HK1.out; omega⟩, ⟨Hd.b_⟩⟩
        ·
         rw [if_neg c9] at H
         exact absurd H (by simp)
       ·
        rw [if_neg c8] at H
        exact absurd H (by simp)
      ·
       rw [if_neg c6] at H
       have c6b0 : decide (0 < x3_1) = false := decide_eq_false c6
       clear c6
       have H' := Aside0.mk H
       clear H
       try go_wp2
       replace HB := Aside0.mk (below_drew1 HB.out)
       have p328 : 0 ≤ (x3_1 : Int) := of_decide_eq_true Hd.a_
       have q328 : x3_1 < (l0.length : Int) := of_decide_eq_true Hd.a_
       obtain ⟨ad328, e328, hx328_0, hx328_1⟩ := at_T75 HR0.out x3_1 p328 q328
       have hw328_1 := hx328_1
       have hw328_0 := hx328_0
       cases e328
       replace hx328_0 := (HB.out.cell (World.block_lt_of_cell? w _ hx328_0)).trans hx328_0
       replace hx328_1 := (HB.out.cell (World.block_lt_of_cell? w _ hx328_1)).trans hx328_1
       replace p328 := eq_true p328
       replace q328 := eq_true q328
       have s0_ := Hd.HW.x (W0 := wr.drew) ((HB.out.cell (World.block_lt_of_cell? w _ hw328_0)).trans hw328_0)
       have s1_ := Hd.HW.x (W0 := wr.drew) ((HB.out.cell (World.block_lt_of_cell? w _ hw328_1)).trans hw328_1)
       refine Hd.HW.region (by kernel_rfl) (by kernel_rfl) ?_
       repeat (go_big_quiet_step ((first | (go_at_call 81; with_reducible exact Hd.HW.c (spec_IsPoint.calls ((rd_T75 l0 x3_1).f0) ((rd_T75 l0 x3_1).f1) true _ A4.out)))))
       refine wpQuiet_nil ?_
       intro _ hq_
       obtain ⟨q_, rfl⟩ := hq_
       clear s0_ s1_
       replace HB := Aside0.mk (below_step HB.out q_.b)
       replace hx328_0 := q_.cell hx328_0
       replace hx328_1 := q_.cell hx328_1
       generalize q_.W = w16 at HB hx328_0 hx328_1 ⊢
       try simp only [i64_w, i32_w]
       try go_wp2
       go_roundg k1
       case measure => have := HK1.out; omega
       case rel => exact ⟨(wrap64 (x3_1 + 1)), (by first | rfl | (simp; done) | (simp [*]; done)), H', ⟨by have := HK1.out; omega⟩, ⟨Hd.b_⟩⟩
     ·
      replace c5 := Bool.eq_false_iff.mpr c5
      subst c5
      have H1 : (some false) = some r := by rw [if_neg (show ¬ (false = true) by decide)] at H; exact H
      clear H
      have H := H1
      clear H1
      obtain rfl := Option.some.inj H
      try go_wp2
      replace HB := Aside0.mk (below_drew1 HB.out)
      have p328 : 0 ≤ (x3_1 : Int) := of_decide_eq_true Hd.a_
      have q328 : x3_1 < (l0.length : Int) := of_decide_eq_true Hd.a_
      obtain ⟨ad328, e328, hx328_0, hx328_1⟩ := at_T75 HR0.out x3_1 p328 q328
      have hw328_1 := hx328_1
      have hw328_0 := hx328_0
      cases e328
      replace hx328_0 := (HB.out.cell (World.block_lt_of_cell? w _ hx328_0)).trans hx328_0
      replace hx328_1 := (HB.out.cell (World.block_lt_of_cell? w _ hx328_1)).trans hx328_1
      replace p328 := eq_true p328
      replace q328 := eq_true q328
      have s0_ := Hd.HW.x (W0 := wr.drew) ((HB.out.cell (World.block_lt_of_cell? w _ hw328_0)).trans hw328_0)
      have s1_ := Hd.HW.x (W0 := wr.drew) ((HB.out.cell (World.block_lt_of_cell? w _ hw328_1)).trans hw328_1)
      refine Hd.HW.region (by kernel_rfl) (by kernel_rfl) ?_
      repeat (go_big_quiet_step ((first | (go_at_call 81; with_reducible exact Hd.HW.c (spec_IsPoint.calls ((rd_T75 l0 x3_1).f0) ((rd_T75 l0 x3_1).f1) false _ A4.out)))))
      refine wpQuiet_nil ?_
      intro _ hq_
      obtain ⟨q_, rfl⟩ := hq_
      clear s0_ s1_
      replace HB := Aside0.mk (below_step HB.out q_.b)
      replace hx328_0 := q_.cell hx328_0
      replace hx328_1 := q_.cell hx328_1
      generalize q_.W = w18 at HB hx328_0 hx328_1 ⊢
      try simp only [i64_w, i32_w]
      try go_wp2
      go_ret
      exact ⟨Hd.e_, Hd.b_⟩
    ·
     rw [if_neg c3] at H
     exact absurd H (by simp)
   ·
    rw [if_neg c2] at H
    have c2b0 : decide (x3_1 < (l0.length : Int)) = false := decide_eq_false c2
    clear c2
    replace H := Option.bind_eq_some_iff.mp H
    obtain ⟨t332, A190, H⟩ := H
    replace H : (some t332) = some r := H
    have A19 := Aside0.mk A190
    clear A190
    obtain rfl := Option.some.inj H
    go_wp2_with (first | ((with_reducible refine gate_callee (f := 79) rfl ?_); refine goesL_ (some 34) rfl rfl Try.func79 (by kernel_rfl) rfl #[.int .i64 (l0.length : Int), .int .i64 2, .int .i64 10] rfl Hd.m_ ?_; (with_reducible refine (spec_l1In.calls (l0.length : Int) 2 10 t332 _ A19.out).mono ?_); rintro e w' ⟨rfl, ⟨nd, rfl⟩⟩; refine ⟨_, rfl, ?_⟩))
    go_ret
    exact ⟨Hd.e_, Hd.b_⟩
end Go.Proofs.Ytbbdhlggnglfgaa.MFnExactTakeFeature
