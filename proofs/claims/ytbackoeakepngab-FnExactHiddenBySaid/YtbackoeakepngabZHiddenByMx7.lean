-- Laid by this session's program pp.py, after the kit's print and texts of the session's own. Not trusted: Lean checks it.
import Derived.Test.YtbackoeakepngabZHiddenByMx0
import Derived.Test.YtbackoeakepngabZHiddenByMx1
import Derived.Test.YtbackoeakepngabZHiddenByMx6
namespace Go.Proofs.Ytbackoeakepngab.MFnExactHiddenBy
open Go.RowKit Go.Proofs.YtbackoeakepngabW.PrintWords Go.Proofs.YtbackoeakepngabW.PrintLast Go.Proofs.YtbackoeakepngabW.PrintMore
attribute [local go_sem] max2_int min2_int max_two min_two max_three min_three max_four min_four   -- for this text's walks alone
set_option linter.unusedVariables false
set_option linter.unusedSimpArgs false
attribute [local go_sem high] eqA77
mutual
def impl_keptPlaces.j0 : Nat → List (S77) → Int → List (S77) → Bool → Option ((List (S77)))
 | 0, _, _, _, _ => none
 | k + 1, x0, x1, x5, x19 => if x19 = true then (some x5) else ((impl_fromAbove.f x0).bind fun t300 => (impl_keptPlaces.l0 k x1 x5 t300 (t300.length : Int) 0))
def impl_keptPlaces.l0 : Nat → Int → List (S77) → List (S77) → Int → Int → Option ((List (S77)))
 | 0, _, _, _, _, _ => none
 | k + 1, x1, x5, x22, x23, x24 => if x24 < x23 then (if 0 ≤ x24 then (if x24 < (x22.length : Int) then (impl_keptPlaces.l1 k x1 x5 true x22 x23 x24 (x5.length : Int) 0 ((rd_T77 x22 x24).f0) ((rd_T77 x22 x24).f1.f0) ((rd_T77 x22 x24).f1.f1) ((rd_T77 x22 x24).f2)) else (none)) else (none)) else (some x5)
def impl_keptPlaces.l1 : Nat → Int → List (S77) → Bool → List (S77) → Int → Int → Int → Int → Int → Int → Int → Int → Option ((List (S77)))
 | 0, _, _, _, _, _, _, _, _, _, _, _, _ => none
 | k + 1, x1, x5, x8, x22, x23, x24, x29, x30, x305000, x305001, x305002, x305003 => if x30 < x29 then (if 0 ≤ x30 then (if x30 < (x5.length : Int) then (if x8 = true then ((impl_FarSquared.f x305001 x305002 ((rd_T77 x5 x30).f1.f0) ((rd_T77 x5 x30).f1.f1)).bind fun t307 => (impl_keptPlaces.l1 k x1 x5 (decide (t307 ≥ (wrap64 (x1 * x1)))) x22 x23 x24 x29 (wrap64 (x30 + 1)) x305000 x305001 x305002 x305003)) else (impl_keptPlaces.l1 k x1 x5 false x22 x23 x24 x29 (wrap64 (x30 + 1)) x305000 x305001 x305002 x305003)) else (none)) else (none)) else (if x8 = true then (if x5.length < 4398046511104 then (impl_keptPlaces.l0 k x1 (x5 ++ [(⟨x305000, (⟨x305001, x305002⟩ : S75), x305003⟩ : S77)]) x22 x23 (wrap64 (x24 + 1))) else (none)) else (impl_keptPlaces.l0 k x1 x5 x22 x23 (wrap64 (x24 + 1))))
end
def impl_keptPlaces.f (k : Nat) (l0 : List (S77)) (a1 : Int) : Option ((List (S77))) := (some (([] : List (S77)) : List (S77))).bind fun y295 => ((impl_ArePlaces.f k l0).bind fun t298 => (if t298 = true then ((impl_InRange.f a1 0 200).bind fun t299 => (impl_keptPlaces.j0 k l0 a1 y295 (!t299))) else (impl_keptPlaces.j0 k l0 a1 y295 true)))
set_option maxHeartbeats 8000000 in
set_option maxRecDepth 100000 in
theorem impl_keptPlaces.calls (k : Nat) (A0 : Option Addr) (c0 : Nat) (l0 : List (S77)) (a1 : Int) (r : List (S77)) (w : World) (hr0 : Kd.C k77 w A0 l0.length l0) (hc0 : l0.length ≤ c0) (h : impl_keptPlaces.f k l0 a1 = some r) :
  Calls Try.prog 88 #[.slice A0 l0.length c0, .int .i64 a1] w fun e w' => ∃ v0_ : Value, e = .returned (v0_) ∧ Kd.R k77 77 w' w.heap.size (fun _ => True) v0_ r ∧ Below w.heap.size w w' := by
 have hu77 := Try.underlying77
 have hu75 := Try.underlying75
 have HR0 := Aside0.mk hr0
 have HC0 := Aside0.mk hc0
 clear hr0 hc0
 have HB := Aside0.mk (Below.refl w.heap.size w)
 have H : ((some (([] : List (S77)) : List (S77))).bind fun y295 => ((impl_ArePlaces.f k l0).bind fun t298 => (if t298 = true then ((impl_InRange.f a1 0 200).bind fun t299 => (impl_keptPlaces.j0 k l0 a1 y295 (!t299))) else (impl_keptPlaces.j0 k l0 a1 y295 true)))) = some r := h
 clear h
 obtain ⟨y295, hy295⟩ : ∃ y_ : List (S77), y_ = (([] : List (S77))) := ⟨_, rfl⟩
 replace H : ((impl_ArePlaces.f k l0).bind fun t298 => (if t298 = true then ((impl_InRange.f a1 0 200).bind fun t299 => (impl_keptPlaces.j0 k l0 a1 y295 (!t299))) else (impl_keptPlaces.j0 k l0 a1 y295 true))) = some r := by first | (rw [hy295]; with_reducible exact H) | (have H2_ := (Option.bind_some _ _).symm.trans H; rw [hy295]; with_reducible exact H2_) | (have H2_ := (Option.bind_some _ _).symm.trans H; with_reducible exact H2_) | with_reducible exact H | (rw [hy295]; exact H) | exact H
 have Ny295 := Aside0.mk hy295
 clear hy295
 have HC3 := Aside0.mk H
 clear H
 go_enter Try.func88, Try.ntmps88
 go_upto_region 2 with (first | ((with_reducible refine gate_dst (N := 11) rfl ?_); refine Kd.R_lit k77 _ 77 ?hg (N := 11) ?hd (xs := ([] : List (S77))) (inner := []) (ok := fun _ => True) (okp := fun _ => True) ?hr ?hp (fun _ hk => hk) trivial (Below.refl _ _) (Nat.le_refl _) (by simp) ?_; (case hd => rfl); (case hg => rfl); (case hr => first | (go_simp; done) | (go_simp; rfl)); (case hp => exact (Reps.none _ _)); intro v296 w4 ho5 hb hg_ hnew_; clear hg_ hnew_; (first | rw [← Ny295.out] at ho5 | (simp only [Int.reduceToNat] at ho5; rw [← Ny295.out] at ho5)); have HO297 := Aside0.mk (Kd.R_lower ho5 (below_size Hd.b_)); replace HB := Aside0.mk (below_step Hd.b_ hb); clear hb ho5))
 (try simp only [Act.put, List.setIfInBounds_toArray, List.set_cons_zero, List.set_cons_succ])
 go_cut [19] (fun v19 wc => ∃ (kq : Nat) (x19_2 : Bool), v19 = .bool x19_2 ∧ Aside0 (impl_keptPlaces.j0 kq l0 a1 y295 x19_2 = some r) ∧ Aside0 (kq ≤ k) ∧ Aside0 (Kd.R k77 77 wc w.heap.size (fun _ => True) v296 y295) ∧ Aside0 (Below w.heap.size w wc))
 case first =>
  have H := HC3.out
  clear HC3
  replace H := Option.bind_eq_some_iff.mp H
  obtain ⟨t298, A60, H⟩ := H
  replace H : (if t298 = true then ((impl_InRange.f a1 0 200).bind fun t299 => (impl_keptPlaces.j0 k l0 a1 y295 (!t299))) else (impl_keptPlaces.j0 k l0 a1 y295 true)) = some r := H
  have A6 := Aside0.mk A60
  clear A60
  by_cases c7 : t298 = true
  ·
   subst c7
   have H1 : ((impl_InRange.f a1 0 200).bind fun t299 => (impl_keptPlaces.j0 k l0 a1 y295 (!t299))) = some r := by rw [if_pos rfl] at H; exact H
   clear H
   have H := H1
   clear H1
   replace H := Option.bind_eq_some_iff.mp H
   obtain ⟨t299, A80, H⟩ := H
   replace H : (impl_keptPlaces.j0 k l0 a1 y295 (!t299)) = some r := H
   have A8 := Aside0.mk A80
   clear A80
   have H' := Aside0.mk H
   clear H
   go_wp2_with (first | ((with_reducible refine gate_callee (f := 53) rfl ?_); refine goesL_ (some 13) rfl rfl Try.func53 (by kernel_rfl) rfl #[.slice A0 l0.length c0] rfl Hd.m_ ?_; (with_reducible refine (impl_ArePlaces.calls k _ _ l0 true _ ?side1 ?side2 A6.out).mono ?_); (case side1 => repeat (first | exact (Kd.C_below HR0.out HB.out) | (with_reducible refine Kd.C_alloc ?_ _) | (with_reducible refine Kd.C_drewN ?_ _) | (with_reducible refine Kd.C_drew ?_))); (case side2 => exact HC0.out); rintro e w9 ⟨rfl, hb⟩; refine ⟨_, rfl, ?_⟩; replace HO297 := Aside0.mk (Kd.R_below (Hd.r_ HO297) hb); replace HB := Aside0.mk (below_step Hd.b_ hb); (try clear hb); (try clear hb2); (try clear hk); (try clear hi)) | (go_at_call 98; (with_reducible refine (impl_InRange.calls a1 0 200 t299 _ A8.out).mono ?_); rintro e w' ⟨rfl, ⟨nd, rfl⟩⟩))
   go_meet
   case rel => exact ⟨_, (!t299), (by first | rfl | (simp; done) | (simp [*]; done)), H', ⟨by first | omega | exact Nat.le_refl _⟩, ⟨by (with_reducible repeat (first | apply Kd.R_alloc | apply Kd.R_drewN | apply Kd.R_drew)); exact HO297.out⟩, ⟨Hd.b_⟩⟩
  ·
   replace c7 := Bool.eq_false_iff.mpr c7
   subst c7
   have H1 : (impl_keptPlaces.j0 k l0 a1 y295 true) = some r := by rw [if_neg (show ¬ (false = true) by decide)] at H; exact H
   clear H
   have H := H1
   clear H1
   have H' := Aside0.mk H
   clear H
   go_wp2_with (first | ((with_reducible refine gate_callee (f := 53) rfl ?_); refine goesL_ (some 13) rfl rfl Try.func53 (by kernel_rfl) rfl #[.slice A0 l0.length c0] rfl Hd.m_ ?_; (with_reducible refine (impl_ArePlaces.calls k _ _ l0 false _ ?side1 ?side2 A6.out).mono ?_); (case side1 => repeat (first | exact (Kd.C_below HR0.out HB.out) | (with_reducible refine Kd.C_alloc ?_ _) | (with_reducible refine Kd.C_drewN ?_ _) | (with_reducible refine Kd.C_drew ?_))); (case side2 => exact HC0.out); rintro e w10 ⟨rfl, hb⟩; refine ⟨_, rfl, ?_⟩; replace HO297 := Aside0.mk (Kd.R_below (Hd.r_ HO297) hb); replace HB := Aside0.mk (below_step Hd.b_ hb); (try clear hb); (try clear hb2); (try clear hk); (try clear hi)))
   go_meet
   case rel => exact ⟨_, (true), (by first | rfl | (simp; done) | (simp [*]; done)), H', ⟨by first | omega | exact Nat.le_refl _⟩, ⟨by (with_reducible repeat (first | apply Kd.R_alloc | apply Kd.R_drewN | apply Kd.R_drew)); exact HO297.out⟩, ⟨Hd.b_⟩⟩
 case rest =>
  clear HC3
  try clear p2
  try clear c5
  try clear c7
  try clear c8
  obtain ⟨kq, x19_2, rfl, HA, HJ2, HO_5, HB⟩ := hcut
  cases kq with
  | zero => exact absurd HA.out (by simp [impl_keptPlaces.j0])
  | succ kj2 =>
   have H := HA.out
   clear HA
   simp only [impl_keptPlaces.j0] at H
   by_cases c11 : x19_2 = true
   ·
    subst c11
    have H1 : (some y295) = some r := by rw [if_pos rfl] at H; exact H
    clear H
    have H := H1
    clear H1
    obtain rfl := Option.some.inj H
    go_wp2
    go_ret
    exact ⟨_, Hd.e_, by (with_reducible repeat (first | apply Kd.R_alloc | apply Kd.R_drewN | apply Kd.R_drew)); exact HO_5.out, Hd.b_⟩
   ·
    replace c11 := Bool.eq_false_iff.mpr c11
    subst c11
    have H1 : ((impl_fromAbove.f l0).bind fun t300 => (impl_keptPlaces.l0 kj2 a1 y295 t300 (t300.length : Int) 0)) = some r := by rw [if_neg (show ¬ (false = true) by decide)] at H; exact H
    clear H
    have H := H1
    clear H1
    replace H := Option.bind_eq_some_iff.mp H
    obtain ⟨t300, A120, H⟩ := H
    replace H : (impl_keptPlaces.l0 kj2 a1 y295 t300 (t300.length : Int) 0) = some r := H
    have A12 := Aside0.mk A120
    clear A120
    have H' := Aside0.mk H
    clear H
    go_wp2_with (first | ((with_reducible refine gate_callee (f := 116) rfl ?_); refine goesL_ (some 22) rfl rfl Try.func116 (by kernel_rfl) rfl #[.slice A0 l0.length c0] rfl Hd.m_ ?_; (with_reducible refine (impl_fromAbove.calls _ _ l0 t300 _ ?side1 ?side2 A12.out).mono ?_); (case side1 => repeat (first | exact (Kd.C_below HR0.out HB.out) | (with_reducible refine Kd.C_alloc ?_ _) | (with_reducible refine Kd.C_drewN ?_ _) | (with_reducible refine Kd.C_drew ?_))); (case side2 => exact HC0.out); rintro e w13 ⟨v301, rfl, ho0, hb⟩; refine ⟨_, rfl, ?_⟩; have HO302 := Aside0.mk (Kd.R_lower (Kd.R_new' ho0 (Kd.R_lt (Hd.r_ HO_5))) (below_size Hd.b_)); replace HO_5 := Aside0.mk (Kd.R_elder' (Hd.r_ HO_5) (Kd.R_base ho0) hb); replace HB := Aside0.mk (below_step Hd.b_ hb); (try clear hb); (try clear hb2); (try clear hk); (try clear hi); (try clear ho0); obtain ⟨Ao14, co14, eo14⟩ := Kd.R_slice HO302.out; subst eo14))
    go_loopg [5, 24] kj2 (fun kq v5 v24 w' => ∃ (x5_2 : List (S77)) (x24_2 : Int), v24 = .int .i64 x24_2 ∧ Aside0 (impl_keptPlaces.l0 kq a1 x5_2 t300 (t300.length : Int) x24_2 = some r) ∧ Aside0 (kq ≤ kj2) ∧ Aside0 (Kd.R k77 77 w' w.heap.size (fun k_ => some k_ ≠ ((.slice Ao14 t300.length co14) : Value).ownBlock) v5 x5_2) ∧ Aside0 (Kd.R k77 77 w' w.heap.size (fun k_ => some k_ ≠ (v5 : Value).ownBlock) (.slice Ao14 t300.length co14) t300) ∧ Aside0 (Below w.heap.size w w'))
    case atStart => exact ⟨(y295), (0), (by first | rfl | (simp; done) | (simp [*]; done)), H', ⟨Nat.le_refl _⟩, ⟨by (with_reducible repeat (first | apply Kd.R_alloc | apply Kd.R_drewN | apply Kd.R_drew)); exact Kd.R_mono HO_5.out (fun _ hk => hk.2)⟩, ⟨by (with_reducible repeat (first | apply Kd.R_alloc | apply Kd.R_drewN | apply Kd.R_drew)); exact Kd.R_mono HO302.out (fun _ hk => hk.2)⟩, ⟨Hd.b_⟩⟩
    case round =>
     clear H'
     try clear c1
     try clear p2
     try clear c5
     try clear c7
     try clear c8
     try clear c11
     try clear p2
     obtain ⟨x5_2, x24_2, rfl, HA, HK2, HO_5, HO_22, HB⟩ := hrel
     cases gk with
     | zero => exact absurd HA.out (by simp [impl_keptPlaces.l0])
     | succ k2 =>
      have H := HA.out
      clear HA
      simp only [impl_keptPlaces.l0] at H
      by_cases c15 : x24_2 < (t300.length : Int)
      ·
       rw [if_pos c15] at H
       have c15b0 : decide (x24_2 < (t300.length : Int)) = true := decide_eq_true c15
       clear c15
       by_cases c16 : 0 ≤ x24_2
       ·
        rw [if_pos c16] at H
        have c16b0 : decide (0 ≤ x24_2) = true := decide_eq_true c16
        clear c16
        by_cases c17 : x24_2 < (t300.length : Int)
        ·
         rw [if_pos c17] at H
         have c17b0 : decide (x24_2 < (t300.length : Int)) = true := decide_eq_true c17
         clear c17
         have H' := Aside0.mk H
         clear H
         have p303 : 0 ≤ (x24_2 : Int) := of_decide_eq_true Hd.a_
         have q303 : x24_2 < (t300.length : Int) := of_decide_eq_true Hd.a_
         obtain ⟨ad303, e303, hx303_0, hx303_1, hx303_2, hx303_3⟩ := at_T77 (Kd.R_reads' HO_22.out).2.2 x24_2 p303 q303
         cases e303
         replace p303 := eq_true p303
         replace q303 := eq_true q303
         go_wp2_with (first | ((with_reducible refine gate_dst (N := 7) rfl ?_); refine Hd.box_ 7 (#[.int .i64 0, .int .i64 0, .int .i64 0, .int .i64 0]) 77 ?_; intro gb304 hg w18 hbox hb; replace HO_5 := Aside0.mk (Kd.R_below (Kd.R_elderB (Hd.r_ HO_5) gb304 (Nat.le_of_eq hg.symm)) hb); replace HO_22 := Aside0.mk (Kd.R_below (Kd.R_elderB (Hd.r_ HO_22) gb304 (Nat.le_of_eq hg.symm)) hb); have BK304 := Aside0.mk (hbox); have GW304 := Aside0.mk ((Hd.g_ hg Hd.b_ : w.heap.size ≤ gb304)); have GE304 := Aside0.mk ((Hd.g_ hg Hd.b_ : w.heap.size ≤ gb304)); replace HB := Aside0.mk (below_step Hd.b_ hb); clear hb hbox hg; obtain ⟨hcz19_0, hcz19_1, hcz19_2, hcz19_3⟩ := Hd.c4_ BK304.out; obtain ⟨hfz19_0, hfz19_1, hfz19_2, hfz19_3⟩ := Hd.f4_ BK304.out; obtain ⟨Ao20, co20, eo20⟩ := Kd.R_slice HO_5.out; subst eo20))
         go_loopg [8, 30] k2 (fun kq v8 v30 w' => ∃ (x8_3 : Bool) (x30_3 : Int), v8 = .bool x8_3 ∧ v30 = .int .i64 x30_3 ∧ Aside0 (impl_keptPlaces.l1 kq a1 x5_2 x8_3 t300 (t300.length : Int) x24_2 (x5_2.length : Int) x30_3 ((rd_T77 t300 x24_2).f0) ((rd_T77 t300 x24_2).f1.f0) ((rd_T77 t300 x24_2).f1.f1) ((rd_T77 t300 x24_2).f2) = some r) ∧ Aside0 (kq ≤ k2) ∧ Aside0 (Kd.R k77 77 w' w.heap.size (fun k_ => some k_ ≠ ((.slice (some ad303) t300.length co14) : Value).ownBlock ∧ k_ ≠ gb304) (.slice Ao20 x5_2.length co20) x5_2) ∧ Aside0 (Kd.R k77 77 w' w.heap.size (fun k_ => some k_ ≠ ((.slice Ao20 x5_2.length co20) : Value).ownBlock ∧ k_ ≠ gb304) (.slice (some ad303) t300.length co14) t300) ∧ Aside0 (w'.heap[gb304]? = some (.cells #[.int .i64 ((rd_T77 t300 x24_2).f0), .int .i64 ((rd_T77 t300 x24_2).f1.f0), .int .i64 ((rd_T77 t300 x24_2).f1.f1), .int .i64 ((rd_T77 t300 x24_2).f2)] 77 (0, 0))) ∧ Aside0 (Below w.heap.size w w'))
         case atStart => exact ⟨(true), (0), (by first | rfl | (simp; done) | (simp [*]; done)), (by first | rfl | (simp; done) | (simp [*]; done)), H', ⟨Nat.le_refl _⟩, ⟨by (with_reducible repeat (first | apply Kd.R_alloc | apply Kd.R_drewN | apply Kd.R_drew)); exact Kd.R_mono (Kd.R_far (p := ⟨gb304, 3, none⟩) (Kd.R_far (p := ⟨gb304, 2, none⟩) (Kd.R_far (p := ⟨gb304, 1, none⟩) (Kd.R_far (p := ⟨gb304, 0, none⟩) (Kd.R_mono HO_5.out (fun k_ hk => (⟨hk, hk.2⟩ : _ ∧ k_ ≠ gb304))) (fun _ hk => hk.2) (.int .i64 ((rd_T77 t300 x24_2).f0))) (fun _ hk => hk.2) (.int .i64 ((rd_T77 t300 x24_2).f1.f0))) (fun _ hk => hk.2) (.int .i64 ((rd_T77 t300 x24_2).f1.f1))) (fun _ hk => hk.2) (.int .i64 ((rd_T77 t300 x24_2).f2))) (fun _ hk => ⟨hk.1.1, hk.1.2⟩)⟩, ⟨by (with_reducible repeat (first | apply Kd.R_alloc | apply Kd.R_drewN | apply Kd.R_drew)); exact Kd.R_mono (Kd.R_far (p := ⟨gb304, 3, none⟩) (Kd.R_far (p := ⟨gb304, 2, none⟩) (Kd.R_far (p := ⟨gb304, 1, none⟩) (Kd.R_far (p := ⟨gb304, 0, none⟩) (Kd.R_mono HO_22.out (fun k_ hk => (⟨hk, hk.2⟩ : _ ∧ k_ ≠ gb304))) (fun _ hk => hk.2) (.int .i64 ((rd_T77 t300 x24_2).f0))) (fun _ hk => hk.2) (.int .i64 ((rd_T77 t300 x24_2).f1.f0))) (fun _ hk => hk.2) (.int .i64 ((rd_T77 t300 x24_2).f1.f1))) (fun _ hk => hk.2) (.int .i64 ((rd_T77 t300 x24_2).f2))) (fun _ hk => ⟨hk.1.1, hk.1.2⟩)⟩, ⟨by (with_reducible repeat (first | refine blk_drewN ?_ _ | refine blk_drew ?_ | refine blk_alloc ?_ _)); refine blk_put (cs := #[.int .i64 ((rd_T77 t300 x24_2).f0), .int .i64 ((rd_T77 t300 x24_2).f1.f0), .int .i64 ((rd_T77 t300 x24_2).f1.f1), .int .i64 0]) ?_ 3 _ rfl; (with_reducible repeat (first | refine blk_drewN ?_ _ | refine blk_drew ?_ | refine blk_alloc ?_ _)); refine blk_put (cs := #[.int .i64 ((rd_T77 t300 x24_2).f0), .int .i64 ((rd_T77 t300 x24_2).f1.f0), .int .i64 0, .int .i64 0]) ?_ 2 _ rfl; (with_reducible repeat (first | refine blk_drewN ?_ _ | refine blk_drew ?_ | refine blk_alloc ?_ _)); refine blk_put (cs := #[.int .i64 ((rd_T77 t300 x24_2).f0), .int .i64 0, .int .i64 0, .int .i64 0]) ?_ 1 _ rfl; (with_reducible repeat (first | refine blk_drewN ?_ _ | refine blk_drew ?_ | refine blk_alloc ?_ _)); refine blk_put (cs := #[.int .i64 0, .int .i64 0, .int .i64 0, .int .i64 0]) ?_ 0 _ rfl; (with_reducible repeat (first | refine blk_drewN ?_ _ | refine blk_drew ?_ | refine blk_alloc ?_ _)); exact BK304.out⟩, ⟨Hd.b_⟩⟩
         case round =>
          clear H'
          try clear c1
          try clear p2
          try clear p3
          try clear q3
          try clear hx3
          try clear c5
          try clear c7
          try clear c8
          try clear c11
          try clear c15
          try clear c15b0
          try clear c16
          try clear c16b0
          try clear c17
          try clear c17b0
          try clear hcz19_0
          try clear hcz19_1
          try clear hcz19_2
          try clear hcz19_3
          try clear hfz19_0
          try clear hfz19_1
          try clear hfz19_2
          try clear hfz19_3
          try clear hx303_0
          try clear hx303_1
          try clear hx303_2
          try clear hx303_3
          try clear p2
          try clear p303
          try clear q303
          obtain ⟨x8_3, x30_3, rfl, rfl, HA, HK3, HO_5, HO_22, BK304, HB⟩ := hrel
          cases gk with
          | zero => exact absurd HA.out (by simp [impl_keptPlaces.l1])
          | succ k3 =>
           have H := HA.out
           clear HA
           simp only [impl_keptPlaces.l1] at H
           by_cases c21 : x30_3 < (x5_2.length : Int)
           ·
            rw [if_pos c21] at H
            have c21b0 : decide (x30_3 < (x5_2.length : Int)) = true := decide_eq_true c21
            clear c21
            by_cases c22 : 0 ≤ x30_3
            ·
             rw [if_pos c22] at H
             have c22b0 : decide (0 ≤ x30_3) = true := decide_eq_true c22
             clear c22
             by_cases c23 : x30_3 < (x5_2.length : Int)
             ·
              rw [if_pos c23] at H
              have c23b0 : decide (x30_3 < (x5_2.length : Int)) = true := decide_eq_true c23
              clear c23
              by_cases c24 : x8_3 = true
              ·
               subst c24
               have H1 : ((impl_FarSquared.f ((rd_T77 t300 x24_2).f1.f0) ((rd_T77 t300 x24_2).f1.f1) ((rd_T77 x5_2 x30_3).f1.f0) ((rd_T77 x5_2 x30_3).f1.f1)).bind fun t307 => (impl_keptPlaces.l1 k3 a1 x5_2 (decide (t307 ≥ (wrap64 (a1 * a1)))) t300 (t300.length : Int) x24_2 (x5_2.length : Int) (wrap64 (x30_3 + 1)) ((rd_T77 t300 x24_2).f0) ((rd_T77 t300 x24_2).f1.f0) ((rd_T77 t300 x24_2).f1.f1) ((rd_T77 t300 x24_2).f2))) = some r := by rw [if_pos rfl] at H; exact H
               clear H
               have H := H1
               clear H1
               replace H := Option.bind_eq_some_iff.mp H
               obtain ⟨t307, A250, H⟩ := H
               replace H : (impl_keptPlaces.l1 k3 a1 x5_2 (decide (t307 ≥ (wrap64 (a1 * a1)))) t300 (t300.length : Int) x24_2 (x5_2.length : Int) (wrap64 (x30_3 + 1)) ((rd_T77 t300 x24_2).f0) ((rd_T77 t300 x24_2).f1.f0) ((rd_T77 t300 x24_2).f1.f1) ((rd_T77 t300 x24_2).f2)) = some r := H
               have A25 := Aside0.mk A250
               clear A250
               have H' := Aside0.mk H
               clear H
               have p305 : 0 ≤ (x30_3 : Int) := of_decide_eq_true Hd.a_
               have q305 : x30_3 < (x5_2.length : Int) := of_decide_eq_true Hd.a_
               obtain ⟨ad305, e305, hx305_0, hx305_1, hx305_2, hx305_3⟩ := at_T77 (Kd.R_reads' HO_5.out).2.2 x30_3 p305 q305
               cases e305
               replace p305 := eq_true p305
               replace q305 := eq_true q305
               go_wp2_with (first | ((with_reducible refine gate_dst (N := 10) rfl ?_); refine Hd.box_ 10 (#[.int .i64 0, .int .i64 0, .int .i64 0, .int .i64 0]) 77 ?_; intro gb306 hg w26 hbox hb; replace HO_5 := Aside0.mk (Kd.R_below (Kd.R_elderB (Hd.r_ HO_5) gb306 (Nat.le_of_eq hg.symm)) hb); replace HO_22 := Aside0.mk (Kd.R_below (Kd.R_elderB (Hd.r_ HO_22) gb306 (Nat.le_of_eq hg.symm)) hb); have BK306 := Aside0.mk (hbox); have GW306 := Aside0.mk ((Hd.g_ hg Hd.b_ : w.heap.size ≤ gb306)); have GE306 := Aside0.mk ((Hd.g_ hg Hd.b_ : w.heap.size ≤ gb306)); replace HB := Aside0.mk (below_step Hd.b_ hb); have NB304_306 := Aside0.mk ((Hd.lt_ BK304 hg)); have NB306_304 := Aside0.mk ((Hd.gt_ BK304 hg)); replace BK304 := Aside0.mk (Hd.kb_ BK304 hb); clear hb hbox hg; have hnb27 := NB306_304.out; have hnc27 := NB304_306.out; obtain ⟨hcz28_0, hcz28_1, hcz28_2, hcz28_3⟩ := Hd.c4_ BK306.out; obtain ⟨hfz28_0, hfz28_1, hfz28_2, hfz28_3⟩ := Hd.f4_ BK306.out; obtain ⟨hcz29_0, hcz29_1, hcz29_2, hcz29_3⟩ := Hd.c4_ BK304.out; obtain ⟨hfz29_0, hfz29_1, hfz29_2, hfz29_3⟩ := Hd.f4_ BK304.out) | (go_at_call 51; (with_reducible refine (impl_FarSquared.calls ((rd_T77 t300 x24_2).f1.f0) ((rd_T77 t300 x24_2).f1.f1) ((rd_T77 x5_2 x30_3).f1.f0) ((rd_T77 x5_2 x30_3).f1.f1) t307 _ A25.out).mono ?_); rintro e w30 ⟨rfl, hb⟩; replace HO_5 := Aside0.mk (Kd.R_below (by (with_reducible repeat (first | apply Kd.R_alloc | apply Kd.R_drewN | apply Kd.R_drew)); exact (Kd.R_mono (Kd.R_far (p := ⟨gb306, 3, none⟩) (Kd.R_far (p := ⟨gb306, 2, none⟩) (Kd.R_far (p := ⟨gb306, 1, none⟩) (Kd.R_far (p := ⟨gb306, 0, none⟩) (Kd.R_mono HO_5.out (fun k_ hk => (⟨hk, hk.2⟩ : _ ∧ k_ ≠ gb306))) (fun _ hk => hk.2) (.int .i64 ((rd_T77 x5_2 x30_3).f0))) (fun _ hk => hk.2) (.int .i64 ((rd_T77 x5_2 x30_3).f1.f0))) (fun _ hk => hk.2) (.int .i64 ((rd_T77 x5_2 x30_3).f1.f1))) (fun _ hk => hk.2) (.int .i64 ((rd_T77 x5_2 x30_3).f2))) (fun _ h_ => h_.1))) hb); replace HO_22 := Aside0.mk (Kd.R_below (by (with_reducible repeat (first | apply Kd.R_alloc | apply Kd.R_drewN | apply Kd.R_drew)); exact (Kd.R_mono (Kd.R_far (p := ⟨gb306, 3, none⟩) (Kd.R_far (p := ⟨gb306, 2, none⟩) (Kd.R_far (p := ⟨gb306, 1, none⟩) (Kd.R_far (p := ⟨gb306, 0, none⟩) (Kd.R_mono HO_22.out (fun k_ hk => (⟨hk, hk.2⟩ : _ ∧ k_ ≠ gb306))) (fun _ hk => hk.2) (.int .i64 ((rd_T77 x5_2 x30_3).f0))) (fun _ hk => hk.2) (.int .i64 ((rd_T77 x5_2 x30_3).f1.f0))) (fun _ hk => hk.2) (.int .i64 ((rd_T77 x5_2 x30_3).f1.f1))) (fun _ hk => hk.2) (.int .i64 ((rd_T77 x5_2 x30_3).f2))) (fun _ h_ => h_.1))) hb); replace BK304 := Aside0.mk (blk_below (g := gb304) (o := .cells #[.int .i64 ((rd_T77 t300 x24_2).f0), .int .i64 ((rd_T77 t300 x24_2).f1.f0), .int .i64 ((rd_T77 t300 x24_2).f1.f1), .int .i64 ((rd_T77 t300 x24_2).f2)] 77 (0, 0)) (by (with_reducible repeat (first | refine blk_drewN ?_ _ | refine blk_drew ?_ | refine blk_alloc ?_ _)); refine blk_far ?_ NB304_306.out _; (with_reducible repeat (first | refine blk_drewN ?_ _ | refine blk_drew ?_ | refine blk_alloc ?_ _)); refine blk_far ?_ NB304_306.out _; (with_reducible repeat (first | refine blk_drewN ?_ _ | refine blk_drew ?_ | refine blk_alloc ?_ _)); refine blk_far ?_ NB304_306.out _; (with_reducible repeat (first | refine blk_drewN ?_ _ | refine blk_drew ?_ | refine blk_alloc ?_ _)); refine blk_far ?_ NB304_306.out _; (with_reducible repeat (first | refine blk_drewN ?_ _ | refine blk_drew ?_ | refine blk_alloc ?_ _)); exact BK304.out) hb); replace BK306 := Aside0.mk (blk_below (g := gb306) (o := .cells #[.int .i64 ((rd_T77 x5_2 x30_3).f0), .int .i64 ((rd_T77 x5_2 x30_3).f1.f0), .int .i64 ((rd_T77 x5_2 x30_3).f1.f1), .int .i64 ((rd_T77 x5_2 x30_3).f2)] 77 (0, 0)) (by (with_reducible repeat (first | refine blk_drewN ?_ _ | refine blk_drew ?_ | refine blk_alloc ?_ _)); refine blk_put (cs := #[.int .i64 ((rd_T77 x5_2 x30_3).f0), .int .i64 ((rd_T77 x5_2 x30_3).f1.f0), .int .i64 ((rd_T77 x5_2 x30_3).f1.f1), .int .i64 0]) ?_ 3 _ rfl; (with_reducible repeat (first | refine blk_drewN ?_ _ | refine blk_drew ?_ | refine blk_alloc ?_ _)); refine blk_put (cs := #[.int .i64 ((rd_T77 x5_2 x30_3).f0), .int .i64 ((rd_T77 x5_2 x30_3).f1.f0), .int .i64 0, .int .i64 0]) ?_ 2 _ rfl; (with_reducible repeat (first | refine blk_drewN ?_ _ | refine blk_drew ?_ | refine blk_alloc ?_ _)); refine blk_put (cs := #[.int .i64 ((rd_T77 x5_2 x30_3).f0), .int .i64 0, .int .i64 0, .int .i64 0]) ?_ 1 _ rfl; (with_reducible repeat (first | refine blk_drewN ?_ _ | refine blk_drew ?_ | refine blk_alloc ?_ _)); refine blk_put (cs := #[.int .i64 0, .int .i64 0, .int .i64 0, .int .i64 0]) ?_ 0 _ rfl; (with_reducible repeat (first | refine blk_drewN ?_ _ | refine blk_drew ?_ | refine blk_alloc ?_ _)); exact BK306.out) hb); replace HB := Aside0.mk (below_step Hd.b_ hb); (try clear hb); (try clear hb2); (try clear hk); (try clear hi)))
               go_roundg k3
               case measure => have := HJ2.out; have := HK2.out; have := HK3.out; omega
               case rel => exact ⟨(decide (t307 ≥ (wrap64 (a1 * a1)))), (wrap64 (x30_3 + 1)), (by first | rfl | (simp; done) | (simp [*]; done)), (by first | rfl | (simp; done) | (simp [*]; done)), H', ⟨by have := HJ2.out; have := HK2.out; have := HK3.out; omega⟩, ⟨by (with_reducible repeat (first | apply Kd.R_alloc | apply Kd.R_drewN | apply Kd.R_drew)); exact Kd.R_mono HO_5.out (fun _ hk => ⟨hk.1.1, hk.1.2⟩)⟩, ⟨by (with_reducible repeat (first | apply Kd.R_alloc | apply Kd.R_drewN | apply Kd.R_drew)); exact Kd.R_mono HO_22.out (fun _ hk => ⟨hk.1.1, hk.1.2⟩)⟩, ⟨by (with_reducible repeat (first | refine blk_drewN ?_ _ | refine blk_drew ?_ | refine blk_alloc ?_ _)); exact BK304.out⟩, ⟨Hd.b_⟩⟩
              ·
               replace c24 := Bool.eq_false_iff.mpr c24
               subst c24
               have H1 : (impl_keptPlaces.l1 k3 a1 x5_2 false t300 (t300.length : Int) x24_2 (x5_2.length : Int) (wrap64 (x30_3 + 1)) ((rd_T77 t300 x24_2).f0) ((rd_T77 t300 x24_2).f1.f0) ((rd_T77 t300 x24_2).f1.f1) ((rd_T77 t300 x24_2).f2)) = some r := by rw [if_neg (show ¬ (false = true) by decide)] at H; exact H
               clear H
               have H := H1
               clear H1
               have H' := Aside0.mk H
               clear H
               have p305 : 0 ≤ (x30_3 : Int) := of_decide_eq_true Hd.a_
               have q305 : x30_3 < (x5_2.length : Int) := of_decide_eq_true Hd.a_
               obtain ⟨ad305, e305, hx305_0, hx305_1, hx305_2, hx305_3⟩ := at_T77 (Kd.R_reads' HO_5.out).2.2 x30_3 p305 q305
               cases e305
               replace p305 := eq_true p305
               replace q305 := eq_true q305
               go_wp2_with (first | ((with_reducible refine gate_dst (N := 10) rfl ?_); refine Hd.box_ 10 (#[.int .i64 0, .int .i64 0, .int .i64 0, .int .i64 0]) 77 ?_; intro gb306 hg w31 hbox hb; replace HO_5 := Aside0.mk (Kd.R_below (Kd.R_elderB (Hd.r_ HO_5) gb306 (Nat.le_of_eq hg.symm)) hb); replace HO_22 := Aside0.mk (Kd.R_below (Kd.R_elderB (Hd.r_ HO_22) gb306 (Nat.le_of_eq hg.symm)) hb); have BK306 := Aside0.mk (hbox); have GW306 := Aside0.mk ((Hd.g_ hg Hd.b_ : w.heap.size ≤ gb306)); have GE306 := Aside0.mk ((Hd.g_ hg Hd.b_ : w.heap.size ≤ gb306)); replace HB := Aside0.mk (below_step Hd.b_ hb); have NB304_306 := Aside0.mk ((Hd.lt_ BK304 hg)); have NB306_304 := Aside0.mk ((Hd.gt_ BK304 hg)); replace BK304 := Aside0.mk (Hd.kb_ BK304 hb); clear hb hbox hg; have hnb32 := NB306_304.out; have hnc32 := NB304_306.out; obtain ⟨hcz33_0, hcz33_1, hcz33_2, hcz33_3⟩ := Hd.c4_ BK306.out; obtain ⟨hfz33_0, hfz33_1, hfz33_2, hfz33_3⟩ := Hd.f4_ BK306.out))
               go_roundg k3
               case measure => have := HJ2.out; have := HK2.out; have := HK3.out; omega
               case rel => exact ⟨(false), (wrap64 (x30_3 + 1)), (by first | rfl | (simp; done) | (simp [*]; done)), (by first | rfl | (simp; done) | (simp [*]; done)), H', ⟨by have := HJ2.out; have := HK2.out; have := HK3.out; omega⟩, ⟨by (with_reducible repeat (first | apply Kd.R_alloc | apply Kd.R_drewN | apply Kd.R_drew)); exact Kd.R_mono (Kd.R_far (p := ⟨gb306, 3, none⟩) (Kd.R_far (p := ⟨gb306, 2, none⟩) (Kd.R_far (p := ⟨gb306, 1, none⟩) (Kd.R_far (p := ⟨gb306, 0, none⟩) (Kd.R_mono HO_5.out (fun k_ hk => (⟨hk, hk.2⟩ : _ ∧ k_ ≠ gb306))) (fun _ hk => hk.2) (.int .i64 ((rd_T77 x5_2 x30_3).f0))) (fun _ hk => hk.2) (.int .i64 ((rd_T77 x5_2 x30_3).f1.f0))) (fun _ hk => hk.2) (.int .i64 ((rd_T77 x5_2 x30_3).f1.f1))) (fun _ hk => hk.2) (.int .i64 ((rd_T77 x5_2 x30_3).f2))) (fun _ hk => ⟨hk.1.1.1, hk.1.1.2⟩)⟩, ⟨by (with_reducible repeat (first | apply Kd.R_alloc | apply Kd.R_drewN | apply Kd.R_drew)); exact Kd.R_mono (Kd.R_far (p := ⟨gb306, 3, none⟩) (Kd.R_far (p := ⟨gb306, 2, none⟩) (Kd.R_far (p := ⟨gb306, 1, none⟩) (Kd.R_far (p := ⟨gb306, 0, none⟩) (Kd.R_mono HO_22.out (fun k_ hk => (⟨hk, hk.2⟩ : _ ∧ k_ ≠ gb306))) (fun _ hk => hk.2) (.int .i64 ((rd_T77 x5_2 x30_3).f0))) (fun _ hk => hk.2) (.int .i64 ((rd_T77 x5_2 x30_3).f1.f0))) (fun _ hk => hk.2) (.int .i64 ((rd_T77 x5_2 x30_3).f1.f1))) (fun _ hk => hk.2) (.int .i64 ((rd_T77 x5_2 x30_3).f2))) (fun _ hk => ⟨hk.1.1.1, hk.1.1.2⟩)⟩, ⟨by (with_reducible repeat (first | refine blk_drewN ?_ _ | refine blk_drew ?_ | refine blk_alloc ?_ _)); refine blk_far ?_ NB304_306.out _; (with_reducible repeat (first | refine blk_drewN ?_ _ | refine blk_drew ?_ | refine blk_alloc ?_ _)); refine blk_far ?_ NB304_306.out _; (with_reducible repeat (first | refine blk_drewN ?_ _ | refine blk_drew ?_ | refine blk_alloc ?_ _)); refine blk_far ?_ NB304_306.out _; (with_reducible repeat (first | refine blk_drewN ?_ _ | refine blk_drew ?_ | refine blk_alloc ?_ _)); refine blk_far ?_ NB304_306.out _; (with_reducible repeat (first | refine blk_drewN ?_ _ | refine blk_drew ?_ | refine blk_alloc ?_ _)); exact BK304.out⟩, ⟨Hd.b_⟩⟩
             ·
              rw [if_neg c23] at H
              exact absurd H (by simp)
            ·
             rw [if_neg c22] at H
             exact absurd H (by simp)
           ·
            rw [if_neg c21] at H
            have c21b0 : decide (x30_3 < (x5_2.length : Int)) = false := decide_eq_false c21
            clear c21
            by_cases c34 : x8_3 = true
            ·
             subst c34
             have H1 : (if x5_2.length < 4398046511104 then (impl_keptPlaces.l0 k3 a1 (x5_2 ++ [(⟨((rd_T77 t300 x24_2).f0), (⟨((rd_T77 t300 x24_2).f1.f0), ((rd_T77 t300 x24_2).f1.f1)⟩ : S75), ((rd_T77 t300 x24_2).f2)⟩ : S77)]) t300 (t300.length : Int) (wrap64 (x24_2 + 1))) else (none)) = some r := by rw [if_pos rfl] at H; exact H
             clear H
             have H := H1
             clear H1
             by_cases c35 : x5_2.length < 4398046511104
             ·
              rw [if_pos c35] at H
              have LMc35 := Aside0.mk c35
              clear c35
              obtain ⟨y308, hy308⟩ : ∃ y_ : List (S77), y_ = (x5_2 ++ [(⟨((rd_T77 t300 x24_2).f0), (⟨((rd_T77 t300 x24_2).f1.f0), ((rd_T77 t300 x24_2).f1.f1)⟩ : S75), ((rd_T77 t300 x24_2).f2)⟩ : S77)]) := ⟨_, rfl⟩
              replace H : (impl_keptPlaces.l0 k3 a1 y308 t300 (t300.length : Int) (wrap64 (x24_2 + 1))) = some r := by first | (rw [hy308]; with_reducible exact H) | (have H2_ := (Option.bind_some _ _).symm.trans H; rw [hy308]; with_reducible exact H2_) | (have H2_ := (Option.bind_some _ _).symm.trans H; with_reducible exact H2_) | with_reducible exact H | (rw [hy308]; exact H) | exact H
              have Ny308 := Aside0.mk hy308
              clear hy308
              have H' := Aside0.mk H
              clear H
              obtain ⟨hcz36_0, hcz36_1, hcz36_2, hcz36_3⟩ := Hd.c4_ BK304.out
              obtain ⟨hfz36_0, hfz36_1, hfz36_2, hfz36_3⟩ := Hd.f4_ BK304.out
              go_wp2_with (first | ((with_reducible refine gate_builtin (b := .append) (xs := #[.tmp 48, .tmp 50]) rfl ?_); at_builtin; refine Kd.R_append k77 (w0 := w) w.heap.size rfl (.tmp 48) (.tmp 50) 61 77 (.agg #[(.int .i64 0), (.int .i64 0), (.int .i64 0), (.int .i64 0)]) 32 rfl Try.underlying61 info77 rfl (by decide) (by omega) (.slice Ao20 x5_2.length co20) x5_2 (⟨((rd_T77 t300 x24_2).f0), (⟨((rd_T77 t300 x24_2).f1.f0), ((rd_T77 t300 x24_2).f1.f1)⟩ : S75), ((rd_T77 t300 x24_2).f2)⟩ : S77) [.int .i64 ((rd_T77 t300 x24_2).f0), .int .i64 ((rd_T77 t300 x24_2).f1.f0), .int .i64 ((rd_T77 t300 x24_2).f1.f1), .int .i64 ((rd_T77 t300 x24_2).f2)] (fun k_ => some k_ ≠ (.slice (some ad303) t300.length co14 : Value).ownBlock ∧ k_ ≠ gb304) (fun _ => False) rfl rfl ?aP (fun _ hk => hk.elim) ?aF ?aO ?aB ?aS ?aL ?_; (case aP => exact k77_mkM _ _ _ (⟨((rd_T77 t300 x24_2).f0), (⟨((rd_T77 t300 x24_2).f1.f0), ((rd_T77 t300 x24_2).f1.f1)⟩ : S75), ((rd_T77 t300 x24_2).f2)⟩ : S77)); (case aB => exact Hd.b_); (case aF => exact (fun k_ hk => ⟨Kd.fresh' (Kd.R_lt (Hd.r_ HO_22)) k_ hk, Kd.freshB (g := gb304) (o := .cells #[.int .i64 ((rd_T77 t300 x24_2).f0), .int .i64 ((rd_T77 t300 x24_2).f1.f0), .int .i64 ((rd_T77 t300 x24_2).f1.f1), .int .i64 ((rd_T77 t300 x24_2).f2)] 77 (0, 0)) (Hd.k_ BK304) k_ hk⟩)); (case aO => exact (Hd.r_ HO_5)); (case aS => exact (below_size Hd.b_)); (case aL => have := LMc35.out; omega); intro v309 w37 ho hb hg hat; rw [← Ny308.out] at ho; have n0_ := Aside0.mk (Kd.R_after (ok := (fun k_ => k_ ≠ gb304)) (by (with_reducible repeat (first | apply Kd.R_alloc | apply Kd.R_drewN | apply Kd.R_drew)); exact Kd.R_mono HO_22.out (fun _ hk => ⟨hk.2, hk.1⟩)) hg hat); have n1_ := Aside0.mk (blk_grown (g := gb304) (o := .cells #[.int .i64 ((rd_T77 t300 x24_2).f0), .int .i64 ((rd_T77 t300 x24_2).f1.f0), .int .i64 ((rd_T77 t300 x24_2).f1.f1), .int .i64 ((rd_T77 t300 x24_2).f2)] 77 (0, 0)) (Hd.k_ BK304) hg (Kd.R_away HO_5.out (fun _ hk => hk.2))); have n2_ := Aside0.mk (hb); have n3_ := Aside0.mk (ho); clear HO_22; clear BK304; clear HB; clear HO_5; have HO_22 := n0_; have BK304 := n1_; have HB := n2_; have HO310 := n3_; clear n0_ n1_ n2_ n3_; clear ho hb hg hat))
              go_roundg k3
              case measure => have := HJ2.out; have := HK2.out; have := HK3.out; omega
              case rel => exact ⟨(y308), (wrap64 (x24_2 + 1)), (by first | rfl | (simp; done) | (simp [*]; done)), H', ⟨by have := HJ2.out; have := HK2.out; have := HK3.out; omega⟩, ⟨by (with_reducible repeat (first | apply Kd.R_alloc | apply Kd.R_drewN | apply Kd.R_drew)); exact Kd.R_mono HO310.out (fun _ hk => hk.1)⟩, ⟨by (with_reducible repeat (first | apply Kd.R_alloc | apply Kd.R_drewN | apply Kd.R_drew)); exact Kd.R_mono HO_22.out (fun _ hk => hk.2)⟩, ⟨Hd.b_⟩⟩
             ·
              rw [if_neg c35] at H
              exact absurd H (by simp)
            ·
             replace c34 := Bool.eq_false_iff.mpr c34
             subst c34
             have H1 : (impl_keptPlaces.l0 k3 a1 x5_2 t300 (t300.length : Int) (wrap64 (x24_2 + 1))) = some r := by rw [if_neg (show ¬ (false = true) by decide)] at H; exact H
             clear H
             have H := H1
             clear H1
             have H' := Aside0.mk H
             clear H
             go_wp2
             go_roundg k3
             case measure => have := HJ2.out; have := HK2.out; have := HK3.out; omega
             case rel => exact ⟨(x5_2), (wrap64 (x24_2 + 1)), (by first | rfl | (simp; done) | (simp [*]; done)), H', ⟨by have := HJ2.out; have := HK2.out; have := HK3.out; omega⟩, ⟨by (with_reducible repeat (first | apply Kd.R_alloc | apply Kd.R_drewN | apply Kd.R_drew)); exact Kd.R_mono HO_5.out (fun _ hk => hk.1)⟩, ⟨by (with_reducible repeat (first | apply Kd.R_alloc | apply Kd.R_drewN | apply Kd.R_drew)); exact Kd.R_mono HO_22.out (fun _ hk => hk.1)⟩, ⟨Hd.b_⟩⟩
        ·
         rw [if_neg c17] at H
         exact absurd H (by simp)
       ·
        rw [if_neg c16] at H
        exact absurd H (by simp)
      ·
       rw [if_neg c15] at H
       have c15b0 : decide (x24_2 < (t300.length : Int)) = false := decide_eq_false c15
       clear c15
       obtain rfl := Option.some.inj H
       go_wp2
       go_ret
       exact ⟨_, Hd.e_, by (with_reducible repeat (first | apply Kd.R_alloc | apply Kd.R_drewN | apply Kd.R_drew)); exact Kd.R_mono HO_5.out (fun _ hk => trivial), Hd.b_⟩
def impl_Place_89.l0 : Nat → List S77 → Int → Int → Option Int
  | 0, _, _, _ => none
  | k + 1, x0, x1, x8 => if x8 < (x0.length : Int) then (if 0 ≤ x8 then (if (rd_T77 x0 x8).f0 = x1 then some x8 else impl_Place_89.l0 k x0 x1 (wrap64 (x8 + 1))) else none) else some (-1)
def impl_Place_89.f (k : Nat) (l0 : List S77) (a1 : Int) : Option Int := impl_Place_89.l0 k l0 a1 0
set_option maxHeartbeats 8000000 in
set_option maxRecDepth 100000 in
theorem impl_Place_89.lit (x0 x1 x2 x3 : Int) (id : Int) (g : Nat) (w : World) (hc : w.cell? ⟨g, 0, none⟩ = some (.int .i64 id)) :
    Calls Try.prog 90 #[.agg #[.int .i64 x0, .int .i64 x1, .int .i64 x2, .int .i64 x3], .pointer (some ⟨g, 0, none⟩)] w fun e w' => e = .returned (.bool (decide (x0 = id))) ∧ Below w.heap.size w w' := by
  have hu77 := Try.underlying77
  have hc2 : ∀ o, (w.alloc o).cell? ⟨g, 0, none⟩ = some (.int .i64 id) := fun o => (World.cell?_alloc_lt _ _ _ (World.block_lt_of_cell? _ _ hc)).trans hc
  go_enter Try.func90, Try.ntmps90
  go_wp2
  go_ret
  exact ⟨by first | rfl | (simp; done) | (simp [beq_eq_decide]; done), below_alloc (Below.refl _ _) _⟩
set_option maxHeartbeats 8000000 in
set_option maxRecDepth 100000 in
theorem impl_Place_89.idx (k : Nat) (A : Option Addr) (c : Nat) (l0 : List S77) (id r : Int) (g : Nat) (w : World) (hr0 : Kd.C k77 w A l0.length l0) (hc : w.cell? ⟨g, 0, none⟩ = some (.int .i64 id)) (h : impl_Place_89.f k l0 id = some r) :
    Calls Try.prog 89 #[.slice A l0.length c, .func (.func 90) #[] #[.pointer (some ⟨g, 0, none⟩)]] w fun e w' => e = .returned (.int .i64 r) ∧ Below w.heap.size w w' := by
  have hu77 := Try.underlying77
  have HR := Aside0.mk hr0
  have HC := Aside0.mk hc
  have HB := Aside0.mk (Below.refl w.heap.size w)
  have H' := Aside0.mk h
  clear h hr0 hc
  go_enter Try.func89, Try.ntmps89
  go_wp2
  go_loopg [8] k (fun kq v8 w' => ∃ (x8_1 : Int), v8 = .int .i64 x8_1 ∧ Aside0 (impl_Place_89.l0 kq l0 id x8_1 = some r) ∧ Aside0 (kq ≤ k) ∧ Aside0 (Below w.heap.size w w'))
  case atStart => exact ⟨0, rfl, H', ⟨Nat.le_refl _⟩, HB⟩
  case round =>
    clear H' HB
    obtain ⟨x8_1, rfl, HA, HK1, HB⟩ := hrel
    cases gk with
    | zero => exact absurd HA.out (by simp [impl_Place_89.l0])
    | succ k1 =>
      have H := HA.out
      clear HA
      simp only [impl_Place_89.l0] at H
      by_cases c3 : x8_1 < (l0.length : Int)
      · rw [if_pos c3] at H
        by_cases c4 : 0 ≤ x8_1
        · rw [if_pos c4] at H
          obtain ⟨ad, e1, hx0, hx1, hx2, hx3⟩ := at_T77 HR.out x8_1 c4 c3
          subst e1
          replace hx0 := (HB.out.cell (World.block_lt_of_cell? w _ hx0)).trans hx0
          replace hx1 := (HB.out.cell (World.block_lt_of_cell? w _ hx1)).trans hx1
          replace hx2 := (HB.out.cell (World.block_lt_of_cell? w _ hx2)).trans hx2
          replace hx3 := (HB.out.cell (World.block_lt_of_cell? w _ hx3)).trans hx3
          have hcw := (HB.out.cell (World.block_lt_of_cell? w _ HC.out)).trans HC.out
          have b3 : decide (x8_1 < (l0.length : Int)) = true := decide_eq_true c3
          have b4 : decide (0 ≤ x8_1) = true := decide_eq_true c4
          have b3' := eq_true c3
          have b4' := eq_true c4
          clear c3 c4
          by_cases c5 : (rd_T77 l0 x8_1).f0 = id
          · rw [if_pos c5] at H
            obtain rfl := Option.some.inj H
            have HD := Aside0.mk (decide_eq_true c5)
            clear c5 H
            go_wp2_with (first | (go_at_call 90; (with_reducible refine (impl_Place_89.lit _ _ _ _ id g _ hcw).mono ?_); rintro e w2 ⟨rfl, hb⟩; rw [HD.out]))
            go_ret
            exact ⟨rfl, below_step HB.out hb⟩
          · rw [if_neg c5] at H
            have HD := Aside0.mk (decide_eq_false c5)
            have H' := Aside0.mk H
            clear c5 H
            go_wp2_with (first | (go_at_call 90; (with_reducible refine (impl_Place_89.lit _ _ _ _ id g _ hcw).mono ?_); rintro e w2 ⟨rfl, hb⟩; rw [HD.out]))
            go_roundg k1
            case measure => have := HK1.out; omega
            case rel => exact ⟨_, rfl, H', ⟨by have := HK1.out; omega⟩, ⟨below_step HB.out hb⟩⟩
        · rw [if_neg c4] at H; cases H
      · rw [if_neg c3] at H
        obtain rfl := Option.some.inj H
        have b3 : decide (x8_1 < (l0.length : Int)) = false := decide_eq_false c3
        go_wp2
        go_ret
        exact ⟨rfl, HB.out⟩
theorem impl_Place_89.celb {w W : World} {v : Value} {t : TypeId} (hb : Below (w.alloc (.cells #[v] t)).heap.size (w.alloc (.cells #[v] t)) W) : W.cell? ⟨w.heap.size, 0, none⟩ = some v :=
  (hb.cell (World.block_lt_of_cell? _ ⟨w.heap.size, 0, none⟩ ((blk_cell (blk_new w _) 0).trans rfl))).trans ((blk_cell (blk_new w _) 0).trans rfl)
def impl_Place_117.l0 : Nat → List (S77) → Int → Int → Int → Int → Int → Int → Option (Int)
 | 0, _, _, _, _, _, _, _ => none
 | k + 1, x0, x7, x8, x312000, x312001, x312002, x312003 => if x8 < x7 then (if 0 ≤ x8 then (if x8 < (x0.length : Int) then (if (x312000 == ((rd_T77 x0 x8).f0) && ((x312001 == ((rd_T77 x0 x8).f1.f0) && (x312002 == ((rd_T77 x0 x8).f1.f1))) && (x312003 == ((rd_T77 x0 x8).f2)))) = true then (some x8) else (impl_Place_117.l0 k x0 x7 (wrap64 (x8 + 1)) x312000 x312001 x312002 x312003)) else (none)) else (none)) else (some (-1))
def impl_Place_117.f (k : Nat) (l0 : List (S77)) (a1_0 : Int) (a1_1 : Int) (a1_2 : Int) (a1_3 : Int) : Option (Int) := impl_Place_117.l0 k l0 (l0.length : Int) 0 a1_0 a1_1 a1_2 a1_3
set_option maxHeartbeats 8000000 in
set_option maxRecDepth 100000 in
theorem impl_Place_117.calls (k : Nat) (A0 : Option Addr) (c0 : Nat) (l0 : List (S77)) (a1_0 : Int) (a1_1 : Int) (a1_2 : Int) (a1_3 : Int) (r : Int) (w : World) (hr0 : Kd.C k77 w A0 l0.length l0) (hc0 : l0.length ≤ c0) (h : impl_Place_117.f k l0 a1_0 a1_1 a1_2 a1_3 = some r) :
  Calls Try.prog 117 #[.slice A0 l0.length c0, .agg #[.int .i64 a1_0, .int .i64 a1_1, .int .i64 a1_2, .int .i64 a1_3]] w fun e w' => e = .returned (.int .i64 r) ∧ Below w.heap.size w w' := by
 have hu77 := Try.underlying77
 have HR0 := Aside0.mk hr0
 have HC0 := Aside0.mk hc0
 clear hr0 hc0
 have HB := Aside0.mk (Below.refl w.heap.size w)
 have H : (impl_Place_117.l0 k l0 (l0.length : Int) 0 a1_0 a1_1 a1_2 a1_3) = some r := h
 clear h
 have H' := Aside0.mk H
 clear H
 go_enter Try.func117, Try.ntmps117
 go_wp2_with (first | ((with_reducible refine gate_dst (N := 3) rfl ?_); refine Hd.box_ 3 (#[.int .i64 a1_0, .int .i64 a1_1, .int .i64 a1_2, .int .i64 a1_3]) 77 ?_; intro gb311 hg w3 hbox hb; have BK311 := Aside0.mk (hbox); have GW311 := Aside0.mk ((Hd.g_ hg Hd.b_ : w.heap.size ≤ gb311)); have GE311 := Aside0.mk ((Hd.g_ hg Hd.b_ : w.heap.size ≤ gb311)); replace HB := Aside0.mk (below_step Hd.b_ hb); clear hb hbox hg))
 repeat (go_quiet (first | ((with_reducible refine gate_dst (N := 3) rfl ?_); refine Hd.box_ 3 (#[.int .i64 a1_0, .int .i64 a1_1, .int .i64 a1_2, .int .i64 a1_3]) 77 ?_; intro gb311 hg w3 hbox hb; have BK311 := Aside0.mk (hbox); have GW311 := Aside0.mk ((Hd.g_ hg Hd.b_ : w.heap.size ≤ gb311)); have GE311 := Aside0.mk ((Hd.g_ hg Hd.b_ : w.heap.size ≤ gb311)); replace HB := Aside0.mk (below_step Hd.b_ hb); clear hb hbox hg)); try go_wp2_with (first | ((with_reducible refine gate_dst (N := 3) rfl ?_); refine Hd.box_ 3 (#[.int .i64 a1_0, .int .i64 a1_1, .int .i64 a1_2, .int .i64 a1_3]) 77 ?_; intro gb311 hg w3 hbox hb; have BK311 := Aside0.mk (hbox); have GW311 := Aside0.mk ((Hd.g_ hg Hd.b_ : w.heap.size ≤ gb311)); have GE311 := Aside0.mk ((Hd.g_ hg Hd.b_ : w.heap.size ≤ gb311)); replace HB := Aside0.mk (below_step Hd.b_ hb); clear hb hbox hg)))
 go_loopg [8] k (fun kq v8 w' => ∃ (x8_1 : Int), v8 = .int .i64 x8_1 ∧ Aside0 (impl_Place_117.l0 kq l0 (l0.length : Int) x8_1 a1_0 a1_1 a1_2 a1_3 = some r) ∧ Aside0 (kq ≤ k) ∧ Aside0 (w'.heap[gb311]? = some (.cells #[.int .i64 a1_0, .int .i64 a1_1, .int .i64 a1_2, .int .i64 a1_3] 77 (0, 0))) ∧ Aside0 (Below w.heap.size w w'))
 case atStart => exact ⟨(0), (by first | rfl | (simp; done) | (simp [*]; done)), H', ⟨Nat.le_refl _⟩, ⟨by (with_reducible repeat (first | refine blk_drewN ?_ _ | refine blk_drew ?_ | refine blk_alloc ?_ _)); exact BK311.out⟩, ⟨Hd.b_⟩⟩
 case round =>
  clear H'
  try clear c1
  try clear p2
  obtain ⟨x8_1, rfl, HA, HK1, BK311, HB⟩ := hrel
  cases gk with
  | zero => exact absurd HA.out (by simp [impl_Place_117.l0])
  | succ k1 =>
   have H := HA.out
   clear HA
   simp only [impl_Place_117.l0] at H
   by_cases c4 : x8_1 < (l0.length : Int)
   ·
    rw [if_pos c4] at H
    have c4b0 : decide (x8_1 < (l0.length : Int)) = true := decide_eq_true c4
    clear c4
    by_cases c5 : 0 ≤ x8_1
    ·
     rw [if_pos c5] at H
     have c5b0 : decide (0 ≤ x8_1) = true := decide_eq_true c5
     clear c5
     by_cases c6 : x8_1 < (l0.length : Int)
     ·
      rw [if_pos c6] at H
      have c6b0 : decide (x8_1 < (l0.length : Int)) = true := decide_eq_true c6
      clear c6
      by_cases c7 : (a1_0 == ((rd_T77 l0 x8_1).f0) && ((a1_1 == ((rd_T77 l0 x8_1).f1.f0) && (a1_2 == ((rd_T77 l0 x8_1).f1.f1))) && (a1_3 == ((rd_T77 l0 x8_1).f2)))) = true
      ·
       rw [if_pos c7] at H
       have c7b0 : (a1_0 == ((rd_T77 l0 x8_1).f0) && ((a1_1 == ((rd_T77 l0 x8_1).f1.f0) && (a1_2 == ((rd_T77 l0 x8_1).f1.f1))) && (a1_3 == ((rd_T77 l0 x8_1).f2)))) = true := c7
       (try (have c7b1 : decide (a1_0 = ((rd_T77 l0 x8_1).f0) && ((a1_1 == ((rd_T77 l0 x8_1).f1.f0) && (a1_2 == ((rd_T77 l0 x8_1).f1.f1))) && (a1_3 == ((rd_T77 l0 x8_1).f2)))) = true := by simpa using c7))
       (try (have c7b2 : (a1_0 == ((rd_T77 l0 x8_1).f0) && ((a1_1 == ((rd_T77 l0 x8_1).f1.f0) && (a1_2 == ((rd_T77 l0 x8_1).f1.f1))) && (a1_3 == ((rd_T77 l0 x8_1).f2)))) = true := by simpa using c7))
       clear c7
       obtain rfl := Option.some.inj H
       obtain ⟨hcz8_0, hcz8_1, hcz8_2, hcz8_3⟩ := Hd.c4_ BK311.out
       obtain ⟨hfz8_0, hfz8_1, hfz8_2, hfz8_3⟩ := Hd.f4_ BK311.out
       have p312 : 0 ≤ (x8_1 : Int) := of_decide_eq_true Hd.a_
       have q312 : x8_1 < (l0.length : Int) := of_decide_eq_true Hd.a_
       obtain ⟨ad312, e312, hx312_0, hx312_1, hx312_2, hx312_3⟩ := at_T77 HR0.out x8_1 p312 q312
       cases e312
       replace hx312_0 := (HB.out.cell (World.block_lt_of_cell? w _ hx312_0)).trans hx312_0
       replace hx312_1 := (HB.out.cell (World.block_lt_of_cell? w _ hx312_1)).trans hx312_1
       replace hx312_2 := (HB.out.cell (World.block_lt_of_cell? w _ hx312_2)).trans hx312_2
       replace hx312_3 := (HB.out.cell (World.block_lt_of_cell? w _ hx312_3)).trans hx312_3
       replace p312 := eq_true p312
       replace q312 := eq_true q312
       go_wp2
       repeat (go_quiet (fail); try go_wp2)
       go_ret
       exact ⟨Hd.e_, Hd.b_⟩
      ·
       rw [if_neg c7] at H
       have c7b0 : (a1_0 == ((rd_T77 l0 x8_1).f0) && ((a1_1 == ((rd_T77 l0 x8_1).f1.f0) && (a1_2 == ((rd_T77 l0 x8_1).f1.f1))) && (a1_3 == ((rd_T77 l0 x8_1).f2)))) = false := by simpa using c7
       (try (have c7b1 : decide (a1_0 = ((rd_T77 l0 x8_1).f0) && ((a1_1 == ((rd_T77 l0 x8_1).f1.f0) && (a1_2 == ((rd_T77 l0 x8_1).f1.f1))) && (a1_3 == ((rd_T77 l0 x8_1).f2)))) = false := by simpa using c7))
       (try (have c7b2 : (a1_0 == ((rd_T77 l0 x8_1).f0) && ((a1_1 == ((rd_T77 l0 x8_1).f1.f0) && (a1_2 == ((rd_T77 l0 x8_1).f1.f1))) && (a1_3 == ((rd_T77 l0 x8_1).f2)))) = false := by simpa using c7))
       (try (have c7b3 : ¬ (a1_0 = ((rd_T77 l0 x8_1).f0) && ((a1_1 == ((rd_T77 l0 x8_1).f1.f0) && (a1_2 == ((rd_T77 l0 x8_1).f1.f1))) && (a1_3 == ((rd_T77 l0 x8_1).f2)))) := by simpa using c7))
       clear c7
       have H' := Aside0.mk H
       clear H
       obtain ⟨hcz9_0, hcz9_1, hcz9_2, hcz9_3⟩ := Hd.c4_ BK311.out
       obtain ⟨hfz9_0, hfz9_1, hfz9_2, hfz9_3⟩ := Hd.f4_ BK311.out
       have p312 : 0 ≤ (x8_1 : Int) := of_decide_eq_true Hd.a_
       have q312 : x8_1 < (l0.length : Int) := of_decide_eq_true Hd.a_
       obtain ⟨ad312, e312, hx312_0, hx312_1, hx312_2, hx312_3⟩ := at_T77 HR0.out x8_1 p312 q312
       cases e312
       replace hx312_0 := (HB.out.cell (World.block_lt_of_cell? w _ hx312_0)).trans hx312_0
       replace hx312_1 := (HB.out.cell (World.block_lt_of_cell? w _ hx312_1)).trans hx312_1
       replace hx312_2 := (HB.out.cell (World.block_lt_of_cell? w _ hx312_2)).trans hx312_2
       replace hx312_3 := (HB.out.cell (World.block_lt_of_cell? w _ hx312_3)).trans hx312_3
       replace p312 := eq_true p312
       replace q312 := eq_true q312
       go_wp2
       repeat (go_quiet (fail); try go_wp2)
       go_roundg k1
       case measure => have := HK1.out; omega
       case rel => exact ⟨(wrap64 (x8_1 + 1)), (by first | rfl | (simp; done) | (simp [*]; done)), H', ⟨by have := HK1.out; omega⟩, ⟨by (with_reducible repeat (first | refine blk_drewN ?_ _ | refine blk_drew ?_ | refine blk_alloc ?_ _)); exact BK311.out⟩, ⟨Hd.b_⟩⟩
     ·
      rw [if_neg c6] at H
      exact absurd H (by simp)
    ·
     rw [if_neg c5] at H
     exact absurd H (by simp)
   ·
    rw [if_neg c4] at H
    have c4b0 : decide (x8_1 < (l0.length : Int)) = false := decide_eq_false c4
    clear c4
    obtain rfl := Option.some.inj H
    go_wp2
    repeat (go_quiet (fail); try go_wp2)
    go_ret
    exact ⟨Hd.e_, Hd.b_⟩
def impl_Place_91.f (k : Nat) (l0 : List (S77)) (a1_0 : Int) (a1_1 : Int) (a1_2 : Int) (a1_3 : Int) : Option (Bool) := (impl_Place_117.f k l0 a1_0 a1_1 a1_2 a1_3).bind fun t314 => (some (decide (t314 ≥ 0)))
set_option maxHeartbeats 8000000 in
set_option maxRecDepth 100000 in
theorem impl_Place_91.calls (k : Nat) (A0 : Option Addr) (c0 : Nat) (l0 : List (S77)) (a1_0 : Int) (a1_1 : Int) (a1_2 : Int) (a1_3 : Int) (r : Bool) (w : World) (hr0 : Kd.C k77 w A0 l0.length l0) (hc0 : l0.length ≤ c0) (h : impl_Place_91.f k l0 a1_0 a1_1 a1_2 a1_3 = some r) :
  Calls Try.prog 91 #[.slice A0 l0.length c0, .agg #[.int .i64 a1_0, .int .i64 a1_1, .int .i64 a1_2, .int .i64 a1_3]] w fun e w' => e = .returned (.bool r) ∧ Below w.heap.size w w' := by
 have hu77 := Try.underlying77
 have HR0 := Aside0.mk hr0
 have HC0 := Aside0.mk hc0
 clear hr0 hc0
 have HB := Aside0.mk (Below.refl w.heap.size w)
 have H : ((impl_Place_117.f k l0 a1_0 a1_1 a1_2 a1_3).bind fun t314 => (some (decide (t314 ≥ 0)))) = some r := h
 clear h
 replace H := Option.bind_eq_some_iff.mp H
 obtain ⟨t314, A30, H⟩ := H
 replace H : (some (decide (t314 ≥ 0))) = some r := H
 have A3 := Aside0.mk A30
 clear A30
 obtain rfl := Option.some.inj H
 go_enter Try.func91, Try.ntmps91
 go_wp2_with (first | ((with_reducible refine gate_dst (N := 3) rfl ?_); refine Hd.box_ 3 (#[.int .i64 a1_0, .int .i64 a1_1, .int .i64 a1_2, .int .i64 a1_3]) 77 ?_; intro gb313 hg w4 hbox hb; have BK313 := Aside0.mk (hbox); have GW313 := Aside0.mk ((Hd.g_ hg Hd.b_ : w.heap.size ≤ gb313)); have GE313 := Aside0.mk ((Hd.g_ hg Hd.b_ : w.heap.size ≤ gb313)); replace HB := Aside0.mk (below_step Hd.b_ hb); clear hb hbox hg; obtain ⟨hcz5_0, hcz5_1, hcz5_2, hcz5_3⟩ := Hd.c4_ BK313.out; obtain ⟨hfz5_0, hfz5_1, hfz5_2, hfz5_3⟩ := Hd.f4_ BK313.out) | ((with_reducible refine gate_callee (f := 117) rfl ?_); refine goesL_ (some 7) rfl rfl Try.func117 (by kernel_rfl) rfl #[.slice A0 l0.length c0, .agg #[.int .i64 a1_0, .int .i64 a1_1, .int .i64 a1_2, .int .i64 a1_3]] rfl Hd.m_ ?_; (with_reducible refine (impl_Place_117.calls k _ _ l0 a1_0 a1_1 a1_2 a1_3 t314 _ ?side1 ?side2 A3.out).mono ?_); (case side1 => repeat (first | exact (Kd.C_below HR0.out HB.out) | (with_reducible refine Kd.C_alloc ?_ _) | (with_reducible refine Kd.C_drewN ?_ _) | (with_reducible refine Kd.C_drew ?_))); (case side2 => exact HC0.out); rintro e w6 ⟨rfl, hb⟩; refine ⟨_, rfl, ?_⟩; replace BK313 := Aside0.mk (Hd.kb_ BK313 hb); replace HB := Aside0.mk (below_step Hd.b_ hb); (try clear hb); (try clear hb2); (try clear hk); (try clear hi)))
 go_ret
 exact ⟨Hd.e_, Hd.b_⟩
end Go.Proofs.Ytbackoeakepngab.MFnExactHiddenBy
