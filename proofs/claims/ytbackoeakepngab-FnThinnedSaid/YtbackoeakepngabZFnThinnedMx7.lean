-- Laid by this session's program pp.py, after the kit's print and texts of the session's own. Not trusted: Lean checks it.
import Derived.Test.YtbackoeakepngabZFnThinnedMx0
import Derived.Test.YtbackoeakepngabZFnThinnedMx4
import Derived.Test.YtbackoeakepngabZFnThinnedMx5
import Derived.Test.YtbackoeakepngabZFnThinnedMx6
namespace Go.Proofs.Ytbackoeakepngab.MFnThinned
open Go.RowKit Go.Proofs.YtbackoeakepngabW.PrintWords Go.Proofs.YtbackoeakepngabW.PrintLast Go.Proofs.YtbackoeakepngabW.PrintMore
attribute [local go_sem] max2_int min2_int max_two min_two max_three min_three max_four min_four   -- for this text's walks alone
set_option linter.unusedVariables false
set_option linter.unusedSimpArgs false
def spec_l14Put.l0 : Nat → List Int → Int → Int → Option (List Int)
 | 0, _, _, _ => none
 | k + 1, x0, x1, x5 => if x5 < (x0.length : Int) then (if 0 ≤ x5 then (if (rd x0 x5) < x1 then (spec_l14Put.l0 k x0 x1 (wrap64 (x5 + 1))) else (if (rd x0 x5) = x1 then ((some (([] : List Int) : List Int)).bind fun y240 => (if y240.length + x0.length < 17592186044416 then (some (y240 ++ x0)) else (none))) else ((some (([] : List Int) : List Int)).bind fun y246 => (if x5 ≤ (x0.length : Int) then (if y246.length + (x0.take (x5 : Int).toNat).length < 17592186044416 then ((some (y246 ++ (x0.take (x5 : Int).toNat) : List Int)).bind fun y250 => ((some (([x1] : List Int) : List Int)).bind fun y253 => (if y250.length + y253.length < 17592186044416 then ((some (y250 ++ y253 : List Int)).bind fun y256 => (if y256.length + (x0.drop (x5 : Int).toNat).length < 17592186044416 then (some (y256 ++ (x0.drop (x5 : Int).toNat))) else (none))) else (none)))) else (none)) else (none))))) else (none)) else ((some (([] : List Int) : List Int)).bind fun y263 => (if 0 ≤ x5 then (if x5 ≤ (x0.length : Int) then (if y263.length + (x0.take (x5 : Int).toNat).length < 17592186044416 then ((some (y263 ++ (x0.take (x5 : Int).toNat) : List Int)).bind fun y267 => ((some (([x1] : List Int) : List Int)).bind fun y270 => (if y267.length + y270.length < 17592186044416 then ((some (y267 ++ y270 : List Int)).bind fun y273 => (if y273.length + (x0.drop (x5 : Int).toNat).length < 17592186044416 then (some (y273 ++ (x0.drop (x5 : Int).toNat))) else (none))) else (none)))) else (none)) else (none)) else (none)))
def spec_l14Put.f (k : Nat) (l0 : List Int) (a1 : Int) : Option (List Int) := spec_l14Put.l0 k l0 a1 0
def spec_l14Put.T6 : Bool × List (List Nat × List Nat) := (true, [([], []), ([], []), ([], []), ([1, 2], [1, 2]), ([0, 3], [0, 3]), ([], []), ([5], [5]), ([4, 6, 4], [4, 6]), ([], []), ([], []), ([8, 9], [8, 9]), ([7, 10, 7], [7, 10]), ([11, 11, 0, 1, 2, 3, 4, 5, 6, 7, 8, 9, 10, 11], [11])])
def spec_l14Put.B6 : List Nat := [0, 0, 0, 6, 15, 0, 32, 127, 0, 0, 768, 2047, 4095]
theorem spec_l14Put.tab6 : rtab .any (opsOf Try.f93 6) = spec_l14Put.T6 := by kernel_rfl
theorem spec_l14Put.bits6 : waitsOk spec_l14Put.T6.2 spec_l14Put.B6 = true := by kernel_rfl
set_option maxHeartbeats 8000000 in
set_option maxRecDepth 100000 in
theorem spec_l14Put.calls (k : Nat) (A0 : Option Addr) (c0 : Nat) (l0 : List Int) (a1 : Int) (r : List Int) (w : World) (hr0 : Kd.C (Kd.int .i64) w A0 l0.length l0) (hc0 : l0.length ≤ c0) (h : spec_l14Put.f k l0 a1 = some r) :
  Calls Try.prog 93 #[.slice A0 l0.length c0, .int .i64 a1] w fun e w' => ∃ v0_ : Value, e = .returned (v0_) ∧ Kd.R (Kd.int .i64) 3 w' w.heap.size (fun _ => True) v0_ r ∧ Below w.heap.size w w' := by
 have HR0 := Aside0.mk hr0
 have HC0 := Aside0.mk hc0
 clear hr0 hc0
 have HB := Aside0.mk (Below.refl w.heap.size w)
 have H : (spec_l14Put.l0 k l0 a1 0) = some r := h
 clear h
 have H' := Aside0.mk H
 clear H
 go_enter Try.func93, Try.ntmps93
 go_wp2
 go_loopg [5] k (fun kq v5 w' => ∃ (x5_1 : Int), v5 = .int .i64 x5_1 ∧ Aside0 (spec_l14Put.l0 kq l0 a1 x5_1 = some r) ∧ Aside0 (kq ≤ k) ∧ Aside0 (Below w.heap.size w w'))
 case atStart => exact ⟨(0), (by first | rfl | (simp; done) | (simp [*]; done)), H', ⟨Nat.le_refl _⟩, ⟨Hd.b_⟩⟩
 case round =>
  clear H'
  try clear p2
  obtain ⟨x5_1, rfl, HA, HK1, HB⟩ := hrel
  cases gk with
  | zero => exact absurd HA.out (by simp [spec_l14Put.l0])
  | succ k1 =>
   have H := HA.out
   clear HA
   simp only [spec_l14Put.l0] at H
   by_cases c3 : x5_1 < (l0.length : Int)
   ·
    rw [if_pos c3] at H
    have c3b0 : decide (x5_1 < (l0.length : Int)) = true := decide_eq_true c3
    clear c3
    by_cases c4 : 0 ≤ x5_1
    ·
     rw [if_pos c4] at H
     have c4b0 : decide (0 ≤ x5_1) = true := decide_eq_true c4
     clear c4
     by_cases c5 : (rd l0 x5_1) < a1
     ·
      rw [if_pos c5] at H
      have c5b0 : decide ((rd l0 x5_1) < a1) = true := decide_eq_true c5
      clear c5
      have H' := Aside0.mk H
      clear H
      have p238 : 0 ≤ (x5_1 : Int) := of_decide_eq_true Hd.a_
      have q238 : x5_1 < (l0.length : Int) := of_decide_eq_true Hd.a_
      obtain ⟨ad238, e238, hx238_0⟩ := Kd.at_int HR0.out x5_1 p238 q238
      cases e238
      replace hx238_0 := (HB.out.cell (World.block_lt_of_cell? w _ hx238_0)).trans hx238_0
      replace p238 := eq_true p238
      replace q238 := eq_true q238
      go_wp2
      go_roundg k1
      case measure => have := HK1.out; omega
      case rel => exact ⟨(wrap64 (x5_1 + 1)), (by first | rfl | (simp; done) | (simp [*]; done)), H', ⟨by have := HK1.out; omega⟩, ⟨Hd.b_⟩⟩
     ·
      rw [if_neg c5] at H
      have c5b0 : decide ((rd l0 x5_1) < a1) = false := decide_eq_false c5
      clear c5
      by_cases c6 : (rd l0 x5_1) = a1
      ·
       rw [if_pos c6] at H
       have c6b0 : ((rd l0 x5_1) == a1) = true := beq_iff_eq.mpr c6
       have c6b1 : ((rd l0 x5_1) != a1) = false := bne_eq_false_iff_eq.mpr c6
       clear c6
       obtain ⟨y240, hy240⟩ : ∃ y_ : List Int, y_ = (([] : List Int)) := ⟨_, rfl⟩
       replace H : (if y240.length + l0.length < 17592186044416 then (some (y240 ++ l0)) else (none)) = some r := by first | (rw [hy240]; with_reducible exact H) | (have H2_ := (Option.bind_some _ _).symm.trans H; rw [hy240]; with_reducible exact H2_) | (have H2_ := (Option.bind_some _ _).symm.trans H; with_reducible exact H2_) | with_reducible exact H | (rw [hy240]; exact H) | exact H
       have Ny240 := Aside0.mk hy240
       clear hy240
       by_cases c7 : y240.length + l0.length < 17592186044416
       ·
        rw [if_pos c7] at H
        have LMc7 := Aside0.mk c7
        clear c7
        obtain ⟨y243, hy243⟩ : ∃ y_ : List Int, y_ = (y240 ++ l0) := ⟨_, rfl⟩
        replace H : (some y243) = some r := by first | (rw [hy243]; with_reducible exact H) | (have H2_ := (Option.bind_some _ _).symm.trans H; rw [hy243]; with_reducible exact H2_) | (have H2_ := (Option.bind_some _ _).symm.trans H; with_reducible exact H2_) | with_reducible exact H | (rw [hy243]; exact H) | exact H
        have Ny243 := Aside0.mk hy243
        clear hy243
        obtain rfl := Option.some.inj H
        have p238 : 0 ≤ (x5_1 : Int) := of_decide_eq_true Hd.a_
        have q238 : x5_1 < (l0.length : Int) := of_decide_eq_true Hd.a_
        obtain ⟨ad238, e238, hx238_0⟩ := Kd.at_int HR0.out x5_1 p238 q238
        cases e238
        replace hx238_0 := (HB.out.cell (World.block_lt_of_cell? w _ hx238_0)).trans hx238_0
        replace p238 := eq_true p238
        replace q238 := eq_true q238
        have p239 : 0 ≤ (x5_1 : Int) := of_decide_eq_true Hd.a_
        have q239 : x5_1 < (l0.length : Int) := of_decide_eq_true Hd.a_
        obtain ⟨ad239, e239, hx239_0⟩ := Kd.at_int HR0.out x5_1 p239 q239
        obtain rfl : ad238 = ad239 := (by injection e239)
        replace hx239_0 := (HB.out.cell (World.block_lt_of_cell? w _ hx239_0)).trans hx239_0
        replace p239 := eq_true p239
        replace q239 := eq_true q239
        go_wp2_with (first | ((with_reducible refine gate_dst (N := 32) rfl ?_); refine Kd.R_lit (Kd.int .i64) _ 3 ?hg (N := 32) ?hd (xs := ([] : List Int)) (inner := []) (ok := fun _ => True) (okp := fun _ => True) ?hr ?hp (fun _ hk => hk) trivial (Below.refl _ _) (Nat.le_refl _) (by simp) ?_; (case hd => rfl); (case hg => rfl); (case hr => first | (go_simp; done) | (go_simp; rfl)); (case hp => exact (Reps.none _ _)); intro v241 w8 ho9 hb hg_ hnew_; clear hg_ hnew_; (first | rw [← Ny240.out] at ho9 | (simp only [Int.reduceToNat] at ho9; rw [← Ny240.out] at ho9)); have HO242 := Aside0.mk (Kd.R_lower ho9 (below_size Hd.b_)); replace HB := Aside0.mk (below_step Hd.b_ hb); clear hb ho9) | ((with_reducible refine gate_builtin (b := .append) (xs := #[.tmp 32, .tmp 33]) rfl ?_); at_builtin; refine Kd.R_append_rows (Kd.int .i64) (w0 := w) w.heap.size rfl (.tmp 32) (.tmp 33) 65 3 (.int .i64 0) 8 rfl Try.underlying65 info3 rfl (by decide) (by omega) v241 y240 l0 _ _ _ (fun _ => True) (fun _ => False) rfl rfl ?aO ?aR (fun _ _ h => h) (fun _ h => h.elim) ?aF ?aB ?aS ?aL ?_; (case aR => repeat (first | exact (Kd.C_below HR0.out HB.out) | (with_reducible refine Kd.C_alloc ?_ _) | (with_reducible refine Kd.C_drewN ?_ _) | (with_reducible refine Kd.C_drew ?_))); (case aB => exact Hd.b_); (case aF => exact (fun _ _ => trivial)); (case aO => exact (Hd.r_ HO242)); (case aS => exact (below_size Hd.b_)); (case aL => have := LMc7.out; omega); intro v244 w10 ho hb hg hat; rw [← Ny243.out] at ho; have n0_ := Aside0.mk (hb); have n1_ := Aside0.mk (ho); clear HB; clear HO242; have HB := n0_; have HO245 := n1_; clear n0_ n1_; clear ho hb hg hat))
        go_ret
        exact ⟨_, Hd.e_, by (with_reducible repeat (first | apply Kd.R_alloc | apply Kd.R_drewN | apply Kd.R_drew)); exact HO245.out, Hd.b_⟩
       ·
        rw [if_neg c7] at H
        exact absurd H (by simp)
      ·
       rw [if_neg c6] at H
       have c6b0 : ((rd l0 x5_1) == a1) = false := beq_eq_false_iff_ne.mpr c6
       have c6b1 : ((rd l0 x5_1) != a1) = true := bne_iff_ne.mpr c6
       obtain ⟨y246, hy246⟩ : ∃ y_ : List Int, y_ = (([] : List Int)) := ⟨_, rfl⟩
       replace H : (if x5_1 ≤ (l0.length : Int) then (if y246.length + (l0.take (x5_1 : Int).toNat).length < 17592186044416 then ((some (y246 ++ (l0.take (x5_1 : Int).toNat) : List Int)).bind fun y250 => ((some (([a1] : List Int) : List Int)).bind fun y253 => (if y250.length + y253.length < 17592186044416 then ((some (y250 ++ y253 : List Int)).bind fun y256 => (if y256.length + (l0.drop (x5_1 : Int).toNat).length < 17592186044416 then (some (y256 ++ (l0.drop (x5_1 : Int).toNat))) else (none))) else (none)))) else (none)) else (none)) = some r := by first | (rw [hy246]; with_reducible exact H) | (have H2_ := (Option.bind_some _ _).symm.trans H; rw [hy246]; with_reducible exact H2_) | (have H2_ := (Option.bind_some _ _).symm.trans H; with_reducible exact H2_) | with_reducible exact H | (rw [hy246]; exact H) | exact H
       have Ny246 := Aside0.mk hy246
       clear hy246
       have c11b0 := eq_true (of_decide_eq_true Hd.a_ : 0 ≤ x5_1)
       by_cases c12 : x5_1 ≤ (l0.length : Int)
       ·
        rw [if_pos c12] at H
        have c12b0 := eq_true c12
        have c12b1 : decide (x5_1 ≤ (l0.length : Int)) = true := decide_eq_true c12
        clear c12
        by_cases c13 : y246.length + (l0.take (x5_1 : Int).toNat).length < 17592186044416
        ·
         rw [if_pos c13] at H
         have LMc13 := Aside0.mk c13
         clear c13
         obtain ⟨y250, hy250⟩ : ∃ y_ : List Int, y_ = (y246 ++ (l0.take (x5_1 : Int).toNat)) := ⟨_, rfl⟩
         replace H : ((some (([a1] : List Int) : List Int)).bind fun y253 => (if y250.length + y253.length < 17592186044416 then ((some (y250 ++ y253 : List Int)).bind fun y256 => (if y256.length + (l0.drop (x5_1 : Int).toNat).length < 17592186044416 then (some (y256 ++ (l0.drop (x5_1 : Int).toNat))) else (none))) else (none))) = some r := by first | (rw [hy250]; with_reducible exact H) | (have H2_ := (Option.bind_some _ _).symm.trans H; rw [hy250]; with_reducible exact H2_) | (have H2_ := (Option.bind_some _ _).symm.trans H; with_reducible exact H2_) | with_reducible exact H | (rw [hy250]; exact H) | exact H
         have Ny250 := Aside0.mk hy250
         clear hy250
         obtain ⟨y253, hy253⟩ : ∃ y_ : List Int, y_ = (([a1] : List Int)) := ⟨_, rfl⟩
         replace H : (if y250.length + y253.length < 17592186044416 then ((some (y250 ++ y253 : List Int)).bind fun y256 => (if y256.length + (l0.drop (x5_1 : Int).toNat).length < 17592186044416 then (some (y256 ++ (l0.drop (x5_1 : Int).toNat))) else (none))) else (none)) = some r := by first | (rw [hy253]; with_reducible exact H) | (have H2_ := (Option.bind_some _ _).symm.trans H; rw [hy253]; with_reducible exact H2_) | (have H2_ := (Option.bind_some _ _).symm.trans H; with_reducible exact H2_) | with_reducible exact H | (rw [hy253]; exact H) | exact H
         have Ny253 := Aside0.mk hy253
         clear hy253
         by_cases c14 : y250.length + y253.length < 17592186044416
         ·
          rw [if_pos c14] at H
          have LMc14 := Aside0.mk c14
          clear c14
          obtain ⟨y256, hy256⟩ : ∃ y_ : List Int, y_ = (y250 ++ y253) := ⟨_, rfl⟩
          replace H : (if y256.length + (l0.drop (x5_1 : Int).toNat).length < 17592186044416 then (some (y256 ++ (l0.drop (x5_1 : Int).toNat))) else (none)) = some r := by first | (rw [hy256]; with_reducible exact H) | (have H2_ := (Option.bind_some _ _).symm.trans H; rw [hy256]; with_reducible exact H2_) | (have H2_ := (Option.bind_some _ _).symm.trans H; with_reducible exact H2_) | with_reducible exact H | (rw [hy256]; exact H) | exact H
          have Ny256 := Aside0.mk hy256
          clear hy256
          have c15b0 := eq_true (of_decide_eq_true Hd.a_ : 0 ≤ x5_1)
          have c16b0 := eq_true (of_decide_eq_true Hd.a_ : x5_1 ≤ (l0.length : Int))
          by_cases c17 : y256.length + (l0.drop (x5_1 : Int).toNat).length < 17592186044416
          ·
           rw [if_pos c17] at H
           have LMc17 := Aside0.mk c17
           clear c17
           obtain ⟨y260, hy260⟩ : ∃ y_ : List Int, y_ = (y256 ++ (l0.drop (x5_1 : Int).toNat)) := ⟨_, rfl⟩
           replace H : (some y260) = some r := by first | (rw [hy260]; with_reducible exact H) | (have H2_ := (Option.bind_some _ _).symm.trans H; rw [hy260]; with_reducible exact H2_) | (have H2_ := (Option.bind_some _ _).symm.trans H; with_reducible exact H2_) | with_reducible exact H | (rw [hy260]; exact H) | exact H
           have Ny260 := Aside0.mk hy260
           clear hy260
           obtain rfl := Option.some.inj H
           have p238 : 0 ≤ (x5_1 : Int) := of_decide_eq_true Hd.a_
           have q238 : x5_1 < (l0.length : Int) := of_decide_eq_true Hd.a_
           obtain ⟨ad238, e238, hx238_0⟩ := Kd.at_int HR0.out x5_1 p238 q238
           cases e238
           replace hx238_0 := (HB.out.cell (World.block_lt_of_cell? w _ hx238_0)).trans hx238_0
           replace p238 := eq_true p238
           replace q238 := eq_true q238
           have p239 : 0 ≤ (x5_1 : Int) := of_decide_eq_true Hd.a_
           have q239 : x5_1 < (l0.length : Int) := of_decide_eq_true Hd.a_
           obtain ⟨ad239, e239, hx239_0⟩ := Kd.at_int HR0.out x5_1 p239 q239
           obtain rfl : ad238 = ad239 := (by injection e239)
           replace hx239_0 := (HB.out.cell (World.block_lt_of_cell? w _ hx239_0)).trans hx239_0
           replace p239 := eq_true p239
           replace q239 := eq_true q239
           try go_wp2
           replace HB := Aside0.mk (below_drew1 HB.out)
           obtain ⟨i019, hi019, _, hsz19, _⟩ := info_parts info3
           obtain ⟨hcut19, hA19, hC19⟩ := print_take_of (P := Try.prog) (Value.int .i64) 0 65 3 .i64 Try.underlying65 hi019 hsz19 (some ad238) c0 l0 x5_1 (of_decide_eq_true Hd.a_) (of_decide_eq_true Hd.a_) HC0.out
           have HR249 := Aside0.mk (Kd.C_of_reads (h1 := fun _ => rfl) (hA19 _ (Kd.reads_of_C HR0.out)))
           have HC249 := Aside0.mk hC19
           clear hA19 hC19 hi019 hsz19
           obtain ⟨i020, hi020, _, hsz20, _⟩ := info_parts info3
           obtain ⟨A20, hcut20, hA20, hC20⟩ := print_drop_of (P := Try.prog) (Value.int .i64) 0 65 3 .i64 Try.underlying65 hi020 hsz20 (some ad238) c0 l0 x5_1 (of_decide_eq_true Hd.a_) (of_decide_eq_true Hd.a_) HC0.out
           have HR259 := Aside0.mk (Kd.C_of_reads (h1 := fun _ => rfl) (hA20 _ (Kd.reads_of_C HR0.out)))
           have HC259 := Aside0.mk hC20
           clear hA20 hC20 hi020 hsz20
           refine start_ (n := 13) (S := fun w' => True) (ds := []) #[false, false, false, false, false, false, false, false, false, false, false, false, false] (by kernel_rfl) rfl rfl trivial (fun hHeld => ?_); refine with_tabW spec_l14Put.tab6 spec_l14Put.bits6 (fun HT_ HW_ => ?_)
           generalize wr.drew = w18 at HB HR249 HR259 hHeld ⊢
           refine Hd.p_ HT_ 1 (some 36) #[false, true, false, false, false, false, false, false, false, false, false, false, false] ?_
           refine Hd.p_ HT_ 2 (some 37) #[false, true, true, false, false, false, false, false, false, false, false, false, false] ?_
           refine Hd.p_ HT_ 3 (some 38) #[false, true, true, true, false, false, false, false, false, false, false, false, false] ?_
           refine Hd.p_ HT_ 5 (some 40) #[false, true, true, true, false, true, false, false, false, false, false, false, false] ?_
           refine Hd.p_ HT_ 8 (some 43) #[false, true, true, true, false, true, false, false, true, false, false, false, false] ?_
           refine Hd.p_ HT_ 9 (some 44) #[false, true, true, true, false, true, false, false, true, true, false, false, false] ?_
           refine Hd.p_ HT_ 10 (some 45) #[false, true, true, true, false, true, false, false, true, true, true, false, false] ?_
           refine join_ (σ := Value × Value × Value) 3 #[true, true, true, true, true, true, true, false, true, true, true, false, false] (fun s_ => [(35, s_.1), (39, s_.2.1), (41, s_.2.2)]) (fun s_ w' => (Kd.R (Kd.int .i64) 3 w' w.heap.size (fun k_ => some k_ ≠ (s_.2.2 : Value).ownBlock) s_.2.1 y250) ∧ (Kd.R (Kd.int .i64) 3 w' w.heap.size (fun k_ => some k_ ≠ (s_.2.1 : Value).ownBlock) s_.2.2 y253) ∧ (Below w.heap.size w w')) ?_ ?_
           rotate_left
           ·
            intro hCont
            refine two_ (i := 0) (j := 6) (Ni := some 35) (Nj := some 41) #[true, true, true, true, false, true, false, false, true, true, true, false, false] #[false, true, true, true, false, true, true, false, true, true, true, false, false] rfl rfl rfl rfl (two_of HT_.out (by kernel_rfl)) (by decide) (by decide) (fun K hK => ?_) (fun K hK => ?_)
            ·
             skip
             refine Kd.R_lit_step (Kd.int .i64) _ 3 ?hg (N := 35) ?hd (xs := ([] : List Int)) (inner := []) (ok := fun _ => True) (okp := fun _ => True) ?hr ?hp (fun _ hk => hk) trivial (Below.refl _ _) (Nat.le_refl _) (by simp) ?_; (case hd => rfl); (case hg => rfl); (case hr => first | (go_simp; done) | (go_simp; rfl)); (case hp => exact (Reps.none _ _))
             intro v247 w21 ho22 hb hg_ hnew_
             clear hg_ hnew_
             (first | rw [← Ny246.out] at ho22 | (simp only [Int.reduceToNat] at ho22; rw [← Ny246.out] at ho22))
             have HO248 := Aside0.mk (Kd.R_lower ho22 (below_size Hd.b_))
             replace HB := Aside0.mk (below_step Hd.b_ hb)
             clear hb ho22
             refine hK.out _ _ trivial (fun hHeld => ?_)
             clear hK K
             refine Hd.n_ (some 35) ?_
             refine two_ (i := 4) (j := 6) (Ni := some 39) (Nj := some 41) #[true, true, true, true, true, true, false, false, true, true, true, false, false] #[true, true, true, true, false, true, true, false, true, true, true, false, false] rfl rfl rfl rfl (two_of HT_.out (by kernel_rfl)) (by decide) (by decide) (fun K hK => ?_) (fun K hK => ?_)
             ·
              skip
              refine Kd.R_append_rows_step (Kd.int .i64) (w0 := w) w.heap.size (by rfl) (.tmp 35) (.tmp 38) 65 3 (.int .i64 0) 8 rfl Try.underlying65 info3 rfl (by decide) (by omega) v247 y246 (l0.take (x5_1 : Int).toNat) _ _ _ (fun _ => True) (fun _ => False) rfl rfl ?aO ?aR (fun _ _ h => h) (fun _ h => h.elim) ?aF ?aB ?aS ?aL ?_
              (case aR => first | (refine Hd.len_ (Kd.int .i64) (show (l0.take (x5_1 : Int).toNat).length = x5_1.toNat from (by rw [List.length_take]; have h_ : (x5_1 : Int) ≤ (l0.length : Int) := of_decide_eq_true Hd.a_; omega)) ?_; repeat (first | exact (Kd.C_below HR249.out HB.out) | (with_reducible refine Kd.C_alloc ?_ _) | (with_reducible refine Kd.C_drewN ?_ _) | (with_reducible refine Kd.C_drew ?_)); done) | (rw [← show (l0.take (x5_1 : Int).toNat).length = x5_1.toNat from (by rw [List.length_take]; have h_ : (x5_1 : Int) ≤ (l0.length : Int) := of_decide_eq_true Hd.a_; omega)]; repeat (first | exact (Kd.C_below HR249.out HB.out) | (with_reducible refine Kd.C_alloc ?_ _) | (with_reducible refine Kd.C_drewN ?_ _) | (with_reducible refine Kd.C_drew ?_)); done) | (repeat (first | exact (Kd.C_below HR249.out HB.out) | (with_reducible refine Kd.C_alloc ?_ _) | (with_reducible refine Kd.C_drewN ?_ _) | (with_reducible refine Kd.C_drew ?_))))
              (case aB => exact Hd.b_)
              (case aF => exact (fun _ _ => trivial))
              (case aO => exact (Hd.r_ HO248))
              (case aS => exact (below_size Hd.b_))
              (case aL => have := LMc13.out; have hlx_ := (show (l0.take (x5_1 : Int).toNat).length = x5_1.toNat from (by rw [List.length_take]; have h_ : (x5_1 : Int) ≤ (l0.length : Int) := of_decide_eq_true Hd.a_; omega)); omega)
              intro v251 w23 ho hb hg hat
              rw [← Ny250.out] at ho
              have n0_ := Aside0.mk (hb)
              have n1_ := Aside0.mk (ho)
              clear HB
              clear HO248
              have HB := n0_
              have HO252 := n1_
              clear n0_ n1_
              clear ho hb hg hat
              refine hK.out _ _ trivial (fun hHeld => ?_)
              clear hK K
              refine Hd.n_ (some 39) ?_
              refine Hd.o_ HT_ 6 (some 41) #[true, true, true, true, true, true, true, false, true, true, true, false, false] (fun K hK => ?_)
              refine Kd.R_lit_step (Kd.int .i64) _ 3 ?hg (N := 41) ?hd (xs := ([a1] : List Int)) (inner := [.int .i64 a1]) (ok := fun _ => True) (okp := fun _ => True) ?hr ?hp (fun _ hk => hk) trivial (Below.refl _ _) (Nat.le_refl _) (by simp) ?_; (case hd => rfl); (case hg => rfl); (case hr => first | (go_simp; done) | (go_simp; rfl)); (case hp => exact (Reps.one (show Kd.M (Kd.int .i64) _ _ _ a1 [.int .i64 a1] from rfl) (Reps.none _ _)))
              intro v254 w24 ho25 hb hg_ hnew_
              clear hg_ hnew_
              (first | rw [← Ny253.out] at ho25 | (simp only [Int.reduceToNat] at ho25; rw [← Ny253.out] at ho25))
              have HO255 := Aside0.mk (Kd.R_lower (Kd.R_new' ho25 (Kd.R_lt (Hd.r_ HO252))) (below_size Hd.b_))
              replace HO252 := Aside0.mk (Kd.R_elder' (Hd.r_ HO252) (Kd.R_base ho25) hb)
              replace HB := Aside0.mk (below_step Hd.b_ hb)
              clear hb ho25
              refine hK.out _ _ trivial (fun hHeld => ?_)
              clear hK K
              refine Hd.n_ (some 41) ?_
              exact norm_ (by simp only [putAll, Act.put, List.setIfInBounds_toArray, List.set_cons_zero, List.set_cons_succ]) (hCont (v247, v251, v254) _ ⟨(by (with_reducible repeat (first | apply Kd.R_alloc | apply Kd.R_drewN | apply Kd.R_drew)); exact Kd.R_mono HO252.out (fun _ hk => hk.2)), (by (with_reducible repeat (first | apply Kd.R_alloc | apply Kd.R_drewN | apply Kd.R_drew)); exact Kd.R_mono HO255.out (fun _ hk => hk.2)), Hd.b_⟩)
             ·
              skip
              refine Kd.R_lit_step (Kd.int .i64) _ 3 ?hg (N := 41) ?hd (xs := ([a1] : List Int)) (inner := [.int .i64 a1]) (ok := fun _ => True) (okp := fun _ => True) ?hr ?hp (fun _ hk => hk) trivial (Below.refl _ _) (Nat.le_refl _) (by simp) ?_; (case hd => rfl); (case hg => rfl); (case hr => first | (go_simp; done) | (go_simp; rfl)); (case hp => exact (Reps.one (show Kd.M (Kd.int .i64) _ _ _ a1 [.int .i64 a1] from rfl) (Reps.none _ _)))
              intro v254 w23 ho24 hb hg_ hnew_
              clear hg_ hnew_
              (first | rw [← Ny253.out] at ho24 | (simp only [Int.reduceToNat] at ho24; rw [← Ny253.out] at ho24))
              have HO255 := Aside0.mk (Kd.R_lower (Kd.R_new' ho24 (Kd.R_lt (Hd.r_ HO248))) (below_size Hd.b_))
              replace HO248 := Aside0.mk (Kd.R_elder' (Hd.r_ HO248) (Kd.R_base ho24) hb)
              replace HB := Aside0.mk (below_step Hd.b_ hb)
              clear hb ho24
              refine hK.out _ _ trivial (fun hHeld => ?_)
              clear hK K
              refine Hd.n_ (some 41) ?_
              refine Hd.o_ HT_ 4 (some 39) #[true, true, true, true, true, true, true, false, true, true, true, false, false] (fun K hK => ?_)
              refine Kd.R_append_rows_step (Kd.int .i64) (w0 := w) w.heap.size (by rfl) (.tmp 35) (.tmp 38) 65 3 (.int .i64 0) 8 rfl Try.underlying65 info3 rfl (by decide) (by omega) v247 y246 (l0.take (x5_1 : Int).toNat) _ _ _ (fun k_ => some k_ ≠ (v254 : Value).ownBlock) (fun _ => False) rfl rfl ?aO ?aR (fun _ _ h => h) (fun _ h => h.elim) ?aF ?aB ?aS ?aL ?_
              (case aR => first | (refine Hd.len_ (Kd.int .i64) (show (l0.take (x5_1 : Int).toNat).length = x5_1.toNat from (by rw [List.length_take]; have h_ : (x5_1 : Int) ≤ (l0.length : Int) := of_decide_eq_true Hd.a_; omega)) ?_; repeat (first | exact (Kd.C_below HR249.out HB.out) | (with_reducible refine Kd.C_alloc ?_ _) | (with_reducible refine Kd.C_drewN ?_ _) | (with_reducible refine Kd.C_drew ?_)); done) | (rw [← show (l0.take (x5_1 : Int).toNat).length = x5_1.toNat from (by rw [List.length_take]; have h_ : (x5_1 : Int) ≤ (l0.length : Int) := of_decide_eq_true Hd.a_; omega)]; repeat (first | exact (Kd.C_below HR249.out HB.out) | (with_reducible refine Kd.C_alloc ?_ _) | (with_reducible refine Kd.C_drewN ?_ _) | (with_reducible refine Kd.C_drew ?_)); done) | (repeat (first | exact (Kd.C_below HR249.out HB.out) | (with_reducible refine Kd.C_alloc ?_ _) | (with_reducible refine Kd.C_drewN ?_ _) | (with_reducible refine Kd.C_drew ?_))))
              (case aB => exact Hd.b_)
              (case aF => exact (fun k_ hk => Kd.fresh' (Kd.R_lt (Hd.r_ HO255)) k_ hk))
              (case aO => exact (by (with_reducible repeat (first | apply Kd.R_alloc | apply Kd.R_drewN | apply Kd.R_drew)); exact Kd.R_mono HO248.out (fun _ hk => hk.2)))
              (case aS => exact (below_size Hd.b_))
              (case aL => have := LMc13.out; have hlx_ := (show (l0.take (x5_1 : Int).toNat).length = x5_1.toNat from (by rw [List.length_take]; have h_ : (x5_1 : Int) ≤ (l0.length : Int) := of_decide_eq_true Hd.a_; omega)); omega)
              intro v251 w25 ho hb hg hat
              rw [← Ny250.out] at ho
              have n0_ := Aside0.mk (Kd.R_after (ok := (fun _ => True)) (Hd.r_ HO255) hg hat)
              have n1_ := Aside0.mk (hb)
              have n2_ := Aside0.mk (ho)
              clear HO255
              clear HB
              clear HO248
              have HO255 := n0_
              have HB := n1_
              have HO252 := n2_
              clear n0_ n1_ n2_
              clear ho hb hg hat
              refine hK.out _ _ trivial (fun hHeld => ?_)
              clear hK K
              refine Hd.n_ (some 39) ?_
              exact norm_ (by simp only [putAll, Act.put, List.setIfInBounds_toArray, List.set_cons_zero, List.set_cons_succ]) (hCont (v247, v251, v254) _ ⟨(Hd.r_ HO252), (by (with_reducible repeat (first | apply Kd.R_alloc | apply Kd.R_drewN | apply Kd.R_drew)); exact Kd.R_mono HO255.out (fun _ hk => hk.2)), Hd.b_⟩)
            ·
             skip
             refine Kd.R_lit_step (Kd.int .i64) _ 3 ?hg (N := 41) ?hd (xs := ([a1] : List Int)) (inner := [.int .i64 a1]) (ok := fun _ => True) (okp := fun _ => True) ?hr ?hp (fun _ hk => hk) trivial (Below.refl _ _) (Nat.le_refl _) (by simp) ?_; (case hd => rfl); (case hg => rfl); (case hr => first | (go_simp; done) | (go_simp; rfl)); (case hp => exact (Reps.one (show Kd.M (Kd.int .i64) _ _ _ a1 [.int .i64 a1] from rfl) (Reps.none _ _)))
             intro v254 w21 ho22 hb hg_ hnew_
             clear hg_ hnew_
             (first | rw [← Ny253.out] at ho22 | (simp only [Int.reduceToNat] at ho22; rw [← Ny253.out] at ho22))
             have HO255 := Aside0.mk (Kd.R_lower ho22 (below_size Hd.b_))
             replace HB := Aside0.mk (below_step Hd.b_ hb)
             clear hb ho22
             refine hK.out _ _ trivial (fun hHeld => ?_)
             clear hK K
             refine Hd.n_ (some 41) ?_
             refine Hd.o_ HT_ 0 (some 35) #[true, true, true, true, false, true, true, false, true, true, true, false, false] (fun K hK => ?_)
             refine Kd.R_lit_step (Kd.int .i64) _ 3 ?hg (N := 35) ?hd (xs := ([] : List Int)) (inner := []) (ok := fun _ => True) (okp := fun _ => True) ?hr ?hp (fun _ hk => hk) trivial (Below.refl _ _) (Nat.le_refl _) (by simp) ?_; (case hd => rfl); (case hg => rfl); (case hr => first | (go_simp; done) | (go_simp; rfl)); (case hp => exact (Reps.none _ _))
             intro v247 w23 ho24 hb hg_ hnew_
             clear hg_ hnew_
             (first | rw [← Ny246.out] at ho24 | (simp only [Int.reduceToNat] at ho24; rw [← Ny246.out] at ho24))
             have HO248 := Aside0.mk (Kd.R_lower (Kd.R_new' ho24 (Kd.R_lt (Hd.r_ HO255))) (below_size Hd.b_))
             replace HO255 := Aside0.mk (Kd.R_elder' (Hd.r_ HO255) (Kd.R_base ho24) hb)
             replace HB := Aside0.mk (below_step Hd.b_ hb)
             clear hb ho24
             refine hK.out _ _ trivial (fun hHeld => ?_)
             clear hK K
             refine Hd.n_ (some 35) ?_
             refine Hd.o_ HT_ 4 (some 39) #[true, true, true, true, true, true, true, false, true, true, true, false, false] (fun K hK => ?_)
             refine Kd.R_append_rows_step (Kd.int .i64) (w0 := w) w.heap.size (by rfl) (.tmp 35) (.tmp 38) 65 3 (.int .i64 0) 8 rfl Try.underlying65 info3 rfl (by decide) (by omega) v247 y246 (l0.take (x5_1 : Int).toNat) _ _ _ (fun k_ => some k_ ≠ (v254 : Value).ownBlock) (fun _ => False) rfl rfl ?aO ?aR (fun _ _ h => h) (fun _ h => h.elim) ?aF ?aB ?aS ?aL ?_
             (case aR => first | (refine Hd.len_ (Kd.int .i64) (show (l0.take (x5_1 : Int).toNat).length = x5_1.toNat from (by rw [List.length_take]; have h_ : (x5_1 : Int) ≤ (l0.length : Int) := of_decide_eq_true Hd.a_; omega)) ?_; repeat (first | exact (Kd.C_below HR249.out HB.out) | (with_reducible refine Kd.C_alloc ?_ _) | (with_reducible refine Kd.C_drewN ?_ _) | (with_reducible refine Kd.C_drew ?_)); done) | (rw [← show (l0.take (x5_1 : Int).toNat).length = x5_1.toNat from (by rw [List.length_take]; have h_ : (x5_1 : Int) ≤ (l0.length : Int) := of_decide_eq_true Hd.a_; omega)]; repeat (first | exact (Kd.C_below HR249.out HB.out) | (with_reducible refine Kd.C_alloc ?_ _) | (with_reducible refine Kd.C_drewN ?_ _) | (with_reducible refine Kd.C_drew ?_)); done) | (repeat (first | exact (Kd.C_below HR249.out HB.out) | (with_reducible refine Kd.C_alloc ?_ _) | (with_reducible refine Kd.C_drewN ?_ _) | (with_reducible refine Kd.C_drew ?_))))
             (case aB => exact Hd.b_)
             (case aF => exact (fun k_ hk => Kd.fresh' (Kd.R_lt (Hd.r_ HO255)) k_ hk))
             (case aO => exact (by (with_reducible repeat (first | apply Kd.R_alloc | apply Kd.R_drewN | apply Kd.R_drew)); exact Kd.R_mono HO248.out (fun _ hk => hk.2)))
             (case aS => exact (below_size Hd.b_))
             (case aL => have := LMc13.out; have hlx_ := (show (l0.take (x5_1 : Int).toNat).length = x5_1.toNat from (by rw [List.length_take]; have h_ : (x5_1 : Int) ≤ (l0.length : Int) := of_decide_eq_true Hd.a_; omega)); omega)
             intro v251 w25 ho hb hg hat
             rw [← Ny250.out] at ho
             have n0_ := Aside0.mk (Kd.R_after (ok := (fun _ => True)) (Hd.r_ HO255) hg hat)
             have n1_ := Aside0.mk (hb)
             have n2_ := Aside0.mk (ho)
             clear HO255
             clear HB
             clear HO248
             have HO255 := n0_
             have HB := n1_
             have HO252 := n2_
             clear n0_ n1_ n2_
             clear ho hb hg hat
             refine hK.out _ _ trivial (fun hHeld => ?_)
             clear hK K
             refine Hd.n_ (some 39) ?_
             exact norm_ (by simp only [putAll, Act.put, List.setIfInBounds_toArray, List.set_cons_zero, List.set_cons_succ]) (hCont (v247, v251, v254) _ ⟨(Hd.r_ HO252), (by (with_reducible repeat (first | apply Kd.R_alloc | apply Kd.R_drewN | apply Kd.R_drew)); exact Kd.R_mono HO255.out (fun _ hk => hk.2)), Hd.b_⟩)
           rintro ⟨v247, v251, v254⟩ w26 ⟨h0_, h1_, h2_⟩
           have n0_ : Aside0 (Kd.R (Kd.int .i64) 3 w26 w.heap.size (fun k_ => some k_ ≠ (v254 : Value).ownBlock) v251 y250) := ⟨h0_⟩
           have n1_ : Aside0 (Kd.R (Kd.int .i64) 3 w26 w.heap.size (fun k_ => some k_ ≠ (v251 : Value).ownBlock) v254 y253) := ⟨h1_⟩
           have n2_ : Aside0 (Below w.heap.size w w26) := ⟨h2_⟩
           clear HB
           clear h0_ h1_ h2_
           have HO252 := n0_
           have HO255 := n1_
           have HB := n2_
           clear n0_ n1_ n2_
           have hHeld := trivial
           obtain ⟨Ao28, co28, eo28⟩ := Kd.R_slice HO255.out
           (first | subst eo28 | (injection eo28 with f1_ f2_ f3_; have f4_ := f1_.symm; have f5_ := f3_.symm; clear f1_ f2_ f3_; subst f4_; subst f5_))
           refine norm_ (a' := ?_) ?_ ?_
           rotate_left
           ·
            simp only [putAll, Act.put, List.setIfInBounds_toArray, List.set_cons_zero, List.set_cons_succ]
            rfl
           refine Hd.o_ HT_ 7 (some 42) #[true, true, true, true, true, true, true, true, true, true, true, false, false] (fun K hK => ?_)
           refine Kd.R_append_rows_step (Kd.int .i64) (w0 := w) w.heap.size (by rfl) (.tmp 39) (.tmp 41) 65 3 (.int .i64 0) 8 rfl Try.underlying65 info3 rfl (by decide) (by omega) v251 y250 y253 _ _ _ (fun k_ => some k_ ≠ (.slice Ao28 y253.length co28 : Value).ownBlock) (fun _ => False) rfl rfl ?aO ?aR (fun _ _ h => h) (fun _ h => h.elim) ?aF ?aB ?aS ?aL ?_
           (case aR => repeat (first | exact (Kd.R_reads' HO255.out).2.2 | (with_reducible refine Kd.C_alloc ?_ _) | (with_reducible refine Kd.C_drewN ?_ _) | (with_reducible refine Kd.C_drew ?_)))
           (case aB => exact Hd.b_)
           (case aF => exact (fun k_ hk => Kd.fresh' (Kd.R_lt (Hd.r_ HO255)) k_ hk))
           (case aO => exact (Hd.r_ HO252))
           (case aS => exact (below_size Hd.b_))
           (case aL => have := LMc14.out; omega)
           intro v257 w27 ho hb hg hat
           rw [← Ny256.out] at ho
           have n0_ := Aside0.mk (Kd.R_after (ok := (fun _ => True)) (by (with_reducible repeat (first | apply Kd.R_alloc | apply Kd.R_drewN | apply Kd.R_drew)); exact Kd.R_mono HO255.out (fun _ hk => ⟨trivial, hk⟩)) hg hat)
           have n1_ := Aside0.mk (hb)
           have n2_ := Aside0.mk (ho)
           clear HO255
           clear HB
           clear HO252
           have HO255 := n0_
           have HB := n1_
           have HO258 := n2_
           clear n0_ n1_ n2_
           clear ho hb hg hat
           refine hK.out _ _ trivial (fun hHeld => ?_)
           clear hK K
           refine Hd.n_ (some 42) ?_
           refine Hd.o_ HT_ 11 (some 46) #[true, true, true, true, true, true, true, true, true, true, true, true, false] (fun K hK => ?_)
           refine Kd.R_append_rows_step (Kd.int .i64) (w0 := w) w.heap.size (by rfl) (.tmp 42) (.tmp 45) 65 3 (.int .i64 0) 8 rfl Try.underlying65 info3 rfl (by decide) (by omega) v257 y256 (l0.drop (x5_1 : Int).toNat) _ _ _ (fun k_ => some k_ ≠ (.slice Ao28 y253.length co28 : Value).ownBlock) (fun _ => False) rfl rfl ?aO ?aR (fun _ _ h => h) (fun _ h => h.elim) ?aF ?aB ?aS ?aL ?_
           (case aR => first | (rw [← show (l0.drop (x5_1 : Int).toNat).length = (l0.length - x5_1.toNat) from List.length_drop]; repeat (first | exact (Kd.C_below HR259.out HB.out) | (with_reducible refine Kd.C_alloc ?_ _) | (with_reducible refine Kd.C_drewN ?_ _) | (with_reducible refine Kd.C_drew ?_))) | (repeat (first | exact (Kd.C_below HR259.out HB.out) | (with_reducible refine Kd.C_alloc ?_ _) | (with_reducible refine Kd.C_drewN ?_ _) | (with_reducible refine Kd.C_drew ?_))))
           (case aB => exact Hd.b_)
           (case aF => exact (fun k_ hk => Kd.fresh' (Kd.R_lt (Hd.r_ HO255)) k_ hk))
           (case aO => exact (Hd.r_ HO258))
           (case aS => exact (below_size Hd.b_))
           (case aL => have := LMc17.out; have hlx_ := (show (l0.drop (x5_1 : Int).toNat).length = (l0.length - x5_1.toNat) from List.length_drop); omega)
           intro v261 w29 ho hb hg hat
           rw [← Ny260.out] at ho
           have n0_ := Aside0.mk (Kd.R_after (ok := (fun _ => True)) (Hd.r_ HO255) hg hat)
           have n1_ := Aside0.mk (hb)
           have n2_ := Aside0.mk (ho)
           clear HO255
           clear HB
           clear HO258
           have HO255 := n0_
           have HB := n1_
           have HO262 := n2_
           clear n0_ n1_ n2_
           clear ho hb hg hat
           refine hK.out _ _ trivial (fun hHeld => ?_)
           clear hK K
           refine Hd.n_ (some 46) ?_
           refine Hd.p_ HT_ 12 (some 4) #[true, true, true, true, true, true, true, true, true, true, true, true, true] ?_
           refine done_ (done_of HT_.out (by kernel_rfl)) ?_
           try go_wp2
           go_ret
           exact ⟨_, Hd.e_, by (with_reducible repeat (first | apply Kd.R_alloc | apply Kd.R_drewN | apply Kd.R_drew)); exact Kd.R_mono HO262.out (fun _ hk => trivial), Hd.b_⟩
          ·
           rw [if_neg c17] at H
           exact absurd H (by simp)
         ·
          rw [if_neg c14] at H
          exact absurd H (by simp)
        ·
         rw [if_neg c13] at H
         exact absurd H (by simp)
       ·
        rw [if_neg c12] at H
        exact absurd H (by simp)
    ·
     rw [if_neg c4] at H
     exact absurd H (by simp)
   ·
    rw [if_neg c3] at H
    have c3b0 : decide (x5_1 < (l0.length : Int)) = false := decide_eq_false c3
    clear c3
    obtain ⟨y263, hy263⟩ : ∃ y_ : List Int, y_ = (([] : List Int)) := ⟨_, rfl⟩
    replace H : (if 0 ≤ x5_1 then (if x5_1 ≤ (l0.length : Int) then (if y263.length + (l0.take (x5_1 : Int).toNat).length < 17592186044416 then ((some (y263 ++ (l0.take (x5_1 : Int).toNat) : List Int)).bind fun y267 => ((some (([a1] : List Int) : List Int)).bind fun y270 => (if y267.length + y270.length < 17592186044416 then ((some (y267 ++ y270 : List Int)).bind fun y273 => (if y273.length + (l0.drop (x5_1 : Int).toNat).length < 17592186044416 then (some (y273 ++ (l0.drop (x5_1 : Int).toNat))) else (none))) else (none)))) else (none)) else (none)) else (none)) = some r := by first | (rw [hy263]; with_reducible exact H) | (have H2_ := (Option.bind_some _ _).symm.trans H; rw [hy263]; with_reducible exact H2_) | (have H2_ := (Option.bind_some _ _).symm.trans H; with_reducible exact H2_) | with_reducible exact H | (rw [hy263]; exact H) | exact H
    have Ny263 := Aside0.mk hy263
    clear hy263
    by_cases c30 : 0 ≤ x5_1
    ·
     rw [if_pos c30] at H
     have c30b0 := eq_true c30
     have c30b1 : decide (0 ≤ x5_1) = true := decide_eq_true c30
     clear c30
     by_cases c31 : x5_1 ≤ (l0.length : Int)
     ·
      rw [if_pos c31] at H
      have c31b0 := eq_true c31
      have c31b1 : decide (x5_1 ≤ (l0.length : Int)) = true := decide_eq_true c31
      clear c31
      by_cases c32 : y263.length + (l0.take (x5_1 : Int).toNat).length < 17592186044416
      ·
       rw [if_pos c32] at H
       have LMc32 := Aside0.mk c32
       clear c32
       obtain ⟨y267, hy267⟩ : ∃ y_ : List Int, y_ = (y263 ++ (l0.take (x5_1 : Int).toNat)) := ⟨_, rfl⟩
       replace H : ((some (([a1] : List Int) : List Int)).bind fun y270 => (if y267.length + y270.length < 17592186044416 then ((some (y267 ++ y270 : List Int)).bind fun y273 => (if y273.length + (l0.drop (x5_1 : Int).toNat).length < 17592186044416 then (some (y273 ++ (l0.drop (x5_1 : Int).toNat))) else (none))) else (none))) = some r := by first | (rw [hy267]; with_reducible exact H) | (have H2_ := (Option.bind_some _ _).symm.trans H; rw [hy267]; with_reducible exact H2_) | (have H2_ := (Option.bind_some _ _).symm.trans H; with_reducible exact H2_) | with_reducible exact H | (rw [hy267]; exact H) | exact H
       have Ny267 := Aside0.mk hy267
       clear hy267
       obtain ⟨y270, hy270⟩ : ∃ y_ : List Int, y_ = (([a1] : List Int)) := ⟨_, rfl⟩
       replace H : (if y267.length + y270.length < 17592186044416 then ((some (y267 ++ y270 : List Int)).bind fun y273 => (if y273.length + (l0.drop (x5_1 : Int).toNat).length < 17592186044416 then (some (y273 ++ (l0.drop (x5_1 : Int).toNat))) else (none))) else (none)) = some r := by first | (rw [hy270]; with_reducible exact H) | (have H2_ := (Option.bind_some _ _).symm.trans H; rw [hy270]; with_reducible exact H2_) | (have H2_ := (Option.bind_some _ _).symm.trans H; with_reducible exact H2_) | with_reducible exact H | (rw [hy270]; exact H) | exact H
       have Ny270 := Aside0.mk hy270
       clear hy270
       by_cases c33 : y267.length + y270.length < 17592186044416
       ·
        rw [if_pos c33] at H
        have LMc33 := Aside0.mk c33
        clear c33
        obtain ⟨y273, hy273⟩ : ∃ y_ : List Int, y_ = (y267 ++ y270) := ⟨_, rfl⟩
        replace H : (if y273.length + (l0.drop (x5_1 : Int).toNat).length < 17592186044416 then (some (y273 ++ (l0.drop (x5_1 : Int).toNat))) else (none)) = some r := by first | (rw [hy273]; with_reducible exact H) | (have H2_ := (Option.bind_some _ _).symm.trans H; rw [hy273]; with_reducible exact H2_) | (have H2_ := (Option.bind_some _ _).symm.trans H; with_reducible exact H2_) | with_reducible exact H | (rw [hy273]; exact H) | exact H
        have Ny273 := Aside0.mk hy273
        clear hy273
        have c34b0 := eq_true (of_decide_eq_true Hd.a_ : 0 ≤ x5_1)
        have c35b0 := eq_true (of_decide_eq_true Hd.a_ : x5_1 ≤ (l0.length : Int))
        by_cases c36 : y273.length + (l0.drop (x5_1 : Int).toNat).length < 17592186044416
        ·
         rw [if_pos c36] at H
         have LMc36 := Aside0.mk c36
         clear c36
         obtain ⟨y277, hy277⟩ : ∃ y_ : List Int, y_ = (y273 ++ (l0.drop (x5_1 : Int).toNat)) := ⟨_, rfl⟩
         replace H : (some y277) = some r := by first | (rw [hy277]; with_reducible exact H) | (have H2_ := (Option.bind_some _ _).symm.trans H; rw [hy277]; with_reducible exact H2_) | (have H2_ := (Option.bind_some _ _).symm.trans H; with_reducible exact H2_) | with_reducible exact H | (rw [hy277]; exact H) | exact H
         have Ny277 := Aside0.mk hy277
         clear hy277
         obtain rfl := Option.some.inj H
         try go_wp2
         replace HB := Aside0.mk (below_drew1 HB.out)
         obtain ⟨i038, hi038, _, hsz38, _⟩ := info_parts info3
         obtain ⟨hcut38, hA38, hC38⟩ := print_take_of (P := Try.prog) (Value.int .i64) 0 65 3 .i64 Try.underlying65 hi038 hsz38 A0 c0 l0 x5_1 (of_decide_eq_true Hd.a_) (of_decide_eq_true Hd.a_) HC0.out
         have HR266 := Aside0.mk (Kd.C_of_reads (h1 := fun _ => rfl) (hA38 _ (Kd.reads_of_C HR0.out)))
         have HC266 := Aside0.mk hC38
         clear hA38 hC38 hi038 hsz38
         obtain ⟨i039, hi039, _, hsz39, _⟩ := info_parts info3
         obtain ⟨A39, hcut39, hA39, hC39⟩ := print_drop_of (P := Try.prog) (Value.int .i64) 0 65 3 .i64 Try.underlying65 hi039 hsz39 A0 c0 l0 x5_1 (of_decide_eq_true Hd.a_) (of_decide_eq_true Hd.a_) HC0.out
         have HR276 := Aside0.mk (Kd.C_of_reads (h1 := fun _ => rfl) (hA39 _ (Kd.reads_of_C HR0.out)))
         have HC276 := Aside0.mk hC39
         clear hA39 hC39 hi039 hsz39
         refine start_ (n := 13) (S := fun w' => True) (ds := []) #[false, false, false, false, false, false, false, false, false, false, false, false, false] (by kernel_rfl) rfl rfl trivial (fun hHeld => ?_); refine with_tabW spec_l14Put.tab6 spec_l14Put.bits6 (fun HT_ HW_ => ?_)
         generalize wr.drew = w37 at HB HR266 HR276 hHeld ⊢
         refine Hd.p_ HT_ 1 (some 36) #[false, true, false, false, false, false, false, false, false, false, false, false, false] ?_
         refine Hd.p_ HT_ 2 (some 37) #[false, true, true, false, false, false, false, false, false, false, false, false, false] ?_
         refine Hd.p_ HT_ 3 (some 38) #[false, true, true, true, false, false, false, false, false, false, false, false, false] ?_
         refine Hd.p_ HT_ 5 (some 40) #[false, true, true, true, false, true, false, false, false, false, false, false, false] ?_
         refine Hd.p_ HT_ 8 (some 43) #[false, true, true, true, false, true, false, false, true, false, false, false, false] ?_
         refine Hd.p_ HT_ 9 (some 44) #[false, true, true, true, false, true, false, false, true, true, false, false, false] ?_
         refine Hd.p_ HT_ 10 (some 45) #[false, true, true, true, false, true, false, false, true, true, true, false, false] ?_
         refine join_ (σ := Value × Value × Value) 3 #[true, true, true, true, true, true, true, false, true, true, true, false, false] (fun s_ => [(35, s_.1), (39, s_.2.1), (41, s_.2.2)]) (fun s_ w' => (Kd.R (Kd.int .i64) 3 w' w.heap.size (fun k_ => some k_ ≠ (s_.2.2 : Value).ownBlock) s_.2.1 y267) ∧ (Kd.R (Kd.int .i64) 3 w' w.heap.size (fun k_ => some k_ ≠ (s_.2.1 : Value).ownBlock) s_.2.2 y270) ∧ (Below w.heap.size w w')) ?_ ?_
         rotate_left
         ·
          intro hCont
          refine two_ (i := 0) (j := 6) (Ni := some 35) (Nj := some 41) #[true, true, true, true, false, true, false, false, true, true, true, false, false] #[false, true, true, true, false, true, true, false, true, true, true, false, false] rfl rfl rfl rfl (two_of HT_.out (by kernel_rfl)) (by decide) (by decide) (fun K hK => ?_) (fun K hK => ?_)
          ·
           skip
           refine Kd.R_lit_step (Kd.int .i64) _ 3 ?hg (N := 35) ?hd (xs := ([] : List Int)) (inner := []) (ok := fun _ => True) (okp := fun _ => True) ?hr ?hp (fun _ hk => hk) trivial (Below.refl _ _) (Nat.le_refl _) (by simp) ?_; (case hd => rfl); (case hg => rfl); (case hr => first | (go_simp; done) | (go_simp; rfl)); (case hp => exact (Reps.none _ _))
           intro v264 w40 ho41 hb hg_ hnew_
           clear hg_ hnew_
           (first | rw [← Ny263.out] at ho41 | (simp only [Int.reduceToNat] at ho41; rw [← Ny263.out] at ho41))
           have HO265 := Aside0.mk (Kd.R_lower ho41 (below_size Hd.b_))
           replace HB := Aside0.mk (below_step Hd.b_ hb)
           clear hb ho41
           refine hK.out _ _ trivial (fun hHeld => ?_)
           clear hK K
           refine Hd.n_ (some 35) ?_
           refine two_ (i := 4) (j := 6) (Ni := some 39) (Nj := some 41) #[true, true, true, true, true, true, false, false, true, true, true, false, false] #[true, true, true, true, false, true, true, false, true, true, true, false, false] rfl rfl rfl rfl (two_of HT_.out (by kernel_rfl)) (by decide) (by decide) (fun K hK => ?_) (fun K hK => ?_)
           ·
            skip
            refine Kd.R_append_rows_step (Kd.int .i64) (w0 := w) w.heap.size (by rfl) (.tmp 35) (.tmp 38) 65 3 (.int .i64 0) 8 rfl Try.underlying65 info3 rfl (by decide) (by omega) v264 y263 (l0.take (x5_1 : Int).toNat) _ _ _ (fun _ => True) (fun _ => False) rfl rfl ?aO ?aR (fun _ _ h => h) (fun _ h => h.elim) ?aF ?aB ?aS ?aL ?_
            (case aR => first | (refine Hd.len_ (Kd.int .i64) (show (l0.take (x5_1 : Int).toNat).length = x5_1.toNat from (by rw [List.length_take]; have h_ : (x5_1 : Int) ≤ (l0.length : Int) := of_decide_eq_true Hd.a_; omega)) ?_; repeat (first | exact (Kd.C_below HR266.out HB.out) | (with_reducible refine Kd.C_alloc ?_ _) | (with_reducible refine Kd.C_drewN ?_ _) | (with_reducible refine Kd.C_drew ?_)); done) | (rw [← show (l0.take (x5_1 : Int).toNat).length = x5_1.toNat from (by rw [List.length_take]; have h_ : (x5_1 : Int) ≤ (l0.length : Int) := of_decide_eq_true Hd.a_; omega)]; repeat (first | exact (Kd.C_below HR266.out HB.out) | (with_reducible refine Kd.C_alloc ?_ _) | (with_reducible refine Kd.C_drewN ?_ _) | (with_reducible refine Kd.C_drew ?_)); done) | (repeat (first | exact (Kd.C_below HR266.out HB.out) | (with_reducible refine Kd.C_alloc ?_ _) | (with_reducible refine Kd.C_drewN ?_ _) | (with_reducible refine Kd.C_drew ?_))))
            (case aB => exact Hd.b_)
            (case aF => exact (fun _ _ => trivial))
            (case aO => exact (Hd.r_ HO265))
            (case aS => exact (below_size Hd.b_))
            (case aL => have := LMc32.out; have hlx_ := (show (l0.take (x5_1 : Int).toNat).length = x5_1.toNat from (by rw [List.length_take]; have h_ : (x5_1 : Int) ≤ (l0.length : Int) := of_decide_eq_true Hd.a_; omega)); omega)
            intro v268 w42 ho hb hg hat
            rw [← Ny267.out] at ho
            have n0_ := Aside0.mk (hb)
            have n1_ := Aside0.mk (ho)
            clear HB
            clear HO265
            have HB := n0_
            have HO269 := n1_
            clear n0_ n1_
            clear ho hb hg hat
            refine hK.out _ _ trivial (fun hHeld => ?_)
            clear hK K
            refine Hd.n_ (some 39) ?_
            refine Hd.o_ HT_ 6 (some 41) #[true, true, true, true, true, true, true, false, true, true, true, false, false] (fun K hK => ?_)
            refine Kd.R_lit_step (Kd.int .i64) _ 3 ?hg (N := 41) ?hd (xs := ([a1] : List Int)) (inner := [.int .i64 a1]) (ok := fun _ => True) (okp := fun _ => True) ?hr ?hp (fun _ hk => hk) trivial (Below.refl _ _) (Nat.le_refl _) (by simp) ?_; (case hd => rfl); (case hg => rfl); (case hr => first | (go_simp; done) | (go_simp; rfl)); (case hp => exact (Reps.one (show Kd.M (Kd.int .i64) _ _ _ a1 [.int .i64 a1] from rfl) (Reps.none _ _)))
            intro v271 w43 ho44 hb hg_ hnew_
            clear hg_ hnew_
            (first | rw [← Ny270.out] at ho44 | (simp only [Int.reduceToNat] at ho44; rw [← Ny270.out] at ho44))
            have HO272 := Aside0.mk (Kd.R_lower (Kd.R_new' ho44 (Kd.R_lt (Hd.r_ HO269))) (below_size Hd.b_))
            replace HO269 := Aside0.mk (Kd.R_elder' (Hd.r_ HO269) (Kd.R_base ho44) hb)
            replace HB := Aside0.mk (below_step Hd.b_ hb)
            clear hb ho44
            refine hK.out _ _ trivial (fun hHeld => ?_)
            clear hK K
            refine Hd.n_ (some 41) ?_
            exact norm_ (by simp only [putAll, Act.put, List.setIfInBounds_toArray, List.set_cons_zero, List.set_cons_succ]) (hCont (v264, v268, v271) _ ⟨(by (with_reducible repeat (first | apply Kd.R_alloc | apply Kd.R_drewN | apply Kd.R_drew)); exact Kd.R_mono HO269.out (fun _ hk => hk.2)), (by (with_reducible repeat (first | apply Kd.R_alloc | apply Kd.R_drewN | apply Kd.R_drew)); exact Kd.R_mono HO272.out (fun _ hk => hk.2)), Hd.b_⟩)
           ·
            skip
            refine Kd.R_lit_step (Kd.int .i64) _ 3 ?hg (N := 41) ?hd (xs := ([a1] : List Int)) (inner := [.int .i64 a1]) (ok := fun _ => True) (okp := fun _ => True) ?hr ?hp (fun _ hk => hk) trivial (Below.refl _ _) (Nat.le_refl _) (by simp) ?_; (case hd => rfl); (case hg => rfl); (case hr => first | (go_simp; done) | (go_simp; rfl)); (case hp => exact (Reps.one (show Kd.M (Kd.int .i64) _ _ _ a1 [.int .i64 a1] from rfl) (Reps.none _ _)))
            intro v271 w42 ho43 hb hg_ hnew_
            clear hg_ hnew_
            (first | rw [← Ny270.out] at ho43 | (simp only [Int.reduceToNat] at ho43; rw [← Ny270.out] at ho43))
            have HO272 := Aside0.mk (Kd.R_lower (Kd.R_new' ho43 (Kd.R_lt (Hd.r_ HO265))) (below_size Hd.b_))
            replace HO265 := Aside0.mk (Kd.R_elder' (Hd.r_ HO265) (Kd.R_base ho43) hb)
            replace HB := Aside0.mk (below_step Hd.b_ hb)
            clear hb ho43
            refine hK.out _ _ trivial (fun hHeld => ?_)
            clear hK K
            refine Hd.n_ (some 41) ?_
            refine Hd.o_ HT_ 4 (some 39) #[true, true, true, true, true, true, true, false, true, true, true, false, false] (fun K hK => ?_)
            refine Kd.R_append_rows_step (Kd.int .i64) (w0 := w) w.heap.size (by rfl) (.tmp 35) (.tmp 38) 65 3 (.int .i64 0) 8 rfl Try.underlying65 info3 rfl (by decide) (by omega) v264 y263 (l0.take (x5_1 : Int).toNat) _ _ _ (fun k_ => some k_ ≠ (v271 : Value).ownBlock) (fun _ => False) rfl rfl ?aO ?aR (fun _ _ h => h) (fun _ h => h.elim) ?aF ?aB ?aS ?aL ?_
            (case aR => first | (refine Hd.len_ (Kd.int .i64) (show (l0.take (x5_1 : Int).toNat).length = x5_1.toNat from (by rw [List.length_take]; have h_ : (x5_1 : Int) ≤ (l0.length : Int) := of_decide_eq_true Hd.a_; omega)) ?_; repeat (first | exact (Kd.C_below HR266.out HB.out) | (with_reducible refine Kd.C_alloc ?_ _) | (with_reducible refine Kd.C_drewN ?_ _) | (with_reducible refine Kd.C_drew ?_)); done) | (rw [← show (l0.take (x5_1 : Int).toNat).length = x5_1.toNat from (by rw [List.length_take]; have h_ : (x5_1 : Int) ≤ (l0.length : Int) := of_decide_eq_true Hd.a_; omega)]; repeat (first | exact (Kd.C_below HR266.out HB.out) | (with_reducible refine Kd.C_alloc ?_ _) | (with_reducible refine Kd.C_drewN ?_ _) | (with_reducible refine Kd.C_drew ?_)); done) | (repeat (first | exact (Kd.C_below HR266.out HB.out) | (with_reducible refine Kd.C_alloc ?_ _) | (with_reducible refine Kd.C_drewN ?_ _) | (with_reducible refine Kd.C_drew ?_))))
            (case aB => exact Hd.b_)
            (case aF => exact (fun k_ hk => Kd.fresh' (Kd.R_lt (Hd.r_ HO272)) k_ hk))
            (case aO => exact (by (with_reducible repeat (first | apply Kd.R_alloc | apply Kd.R_drewN | apply Kd.R_drew)); exact Kd.R_mono HO265.out (fun _ hk => hk.2)))
            (case aS => exact (below_size Hd.b_))
            (case aL => have := LMc32.out; have hlx_ := (show (l0.take (x5_1 : Int).toNat).length = x5_1.toNat from (by rw [List.length_take]; have h_ : (x5_1 : Int) ≤ (l0.length : Int) := of_decide_eq_true Hd.a_; omega)); omega)
            intro v268 w44 ho hb hg hat
            rw [← Ny267.out] at ho
            have n0_ := Aside0.mk (Kd.R_after (ok := (fun _ => True)) (Hd.r_ HO272) hg hat)
            have n1_ := Aside0.mk (hb)
            have n2_ := Aside0.mk (ho)
            clear HO272
            clear HB
            clear HO265
            have HO272 := n0_
            have HB := n1_
            have HO269 := n2_
            clear n0_ n1_ n2_
            clear ho hb hg hat
            refine hK.out _ _ trivial (fun hHeld => ?_)
            clear hK K
            refine Hd.n_ (some 39) ?_
            exact norm_ (by simp only [putAll, Act.put, List.setIfInBounds_toArray, List.set_cons_zero, List.set_cons_succ]) (hCont (v264, v268, v271) _ ⟨(Hd.r_ HO269), (by (with_reducible repeat (first | apply Kd.R_alloc | apply Kd.R_drewN | apply Kd.R_drew)); exact Kd.R_mono HO272.out (fun _ hk => hk.2)), Hd.b_⟩)
          ·
           skip
           refine Kd.R_lit_step (Kd.int .i64) _ 3 ?hg (N := 41) ?hd (xs := ([a1] : List Int)) (inner := [.int .i64 a1]) (ok := fun _ => True) (okp := fun _ => True) ?hr ?hp (fun _ hk => hk) trivial (Below.refl _ _) (Nat.le_refl _) (by simp) ?_; (case hd => rfl); (case hg => rfl); (case hr => first | (go_simp; done) | (go_simp; rfl)); (case hp => exact (Reps.one (show Kd.M (Kd.int .i64) _ _ _ a1 [.int .i64 a1] from rfl) (Reps.none _ _)))
           intro v271 w40 ho41 hb hg_ hnew_
           clear hg_ hnew_
           (first | rw [← Ny270.out] at ho41 | (simp only [Int.reduceToNat] at ho41; rw [← Ny270.out] at ho41))
           have HO272 := Aside0.mk (Kd.R_lower ho41 (below_size Hd.b_))
           replace HB := Aside0.mk (below_step Hd.b_ hb)
           clear hb ho41
           refine hK.out _ _ trivial (fun hHeld => ?_)
           clear hK K
           refine Hd.n_ (some 41) ?_
           refine Hd.o_ HT_ 0 (some 35) #[true, true, true, true, false, true, true, false, true, true, true, false, false] (fun K hK => ?_)
           refine Kd.R_lit_step (Kd.int .i64) _ 3 ?hg (N := 35) ?hd (xs := ([] : List Int)) (inner := []) (ok := fun _ => True) (okp := fun _ => True) ?hr ?hp (fun _ hk => hk) trivial (Below.refl _ _) (Nat.le_refl _) (by simp) ?_; (case hd => rfl); (case hg => rfl); (case hr => first | (go_simp; done) | (go_simp; rfl)); (case hp => exact (Reps.none _ _))
           intro v264 w42 ho43 hb hg_ hnew_
           clear hg_ hnew_
           (first | rw [← Ny263.out] at ho43 | (simp only [Int.reduceToNat] at ho43; rw [← Ny263.out] at ho43))
           have HO265 := Aside0.mk (Kd.R_lower (Kd.R_new' ho43 (Kd.R_lt (Hd.r_ HO272))) (below_size Hd.b_))
           replace HO272 := Aside0.mk (Kd.R_elder' (Hd.r_ HO272) (Kd.R_base ho43) hb)
           replace HB := Aside0.mk (below_step Hd.b_ hb)
           clear hb ho43
           refine hK.out _ _ trivial (fun hHeld => ?_)
           clear hK K
           refine Hd.n_ (some 35) ?_
           refine Hd.o_ HT_ 4 (some 39) #[true, true, true, true, true, true, true, false, true, true, true, false, false] (fun K hK => ?_)
           refine Kd.R_append_rows_step (Kd.int .i64) (w0 := w) w.heap.size (by rfl) (.tmp 35) (.tmp 38) 65 3 (.int .i64 0) 8 rfl Try.underlying65 info3 rfl (by decide) (by omega) v264 y263 (l0.take (x5_1 : Int).toNat) _ _ _ (fun k_ => some k_ ≠ (v271 : Value).ownBlock) (fun _ => False) rfl rfl ?aO ?aR (fun _ _ h => h) (fun _ h => h.elim) ?aF ?aB ?aS ?aL ?_
           (case aR => first | (refine Hd.len_ (Kd.int .i64) (show (l0.take (x5_1 : Int).toNat).length = x5_1.toNat from (by rw [List.length_take]; have h_ : (x5_1 : Int) ≤ (l0.length : Int) := of_decide_eq_true Hd.a_; omega)) ?_; repeat (first | exact (Kd.C_below HR266.out HB.out) | (with_reducible refine Kd.C_alloc ?_ _) | (with_reducible refine Kd.C_drewN ?_ _) | (with_reducible refine Kd.C_drew ?_)); done) | (rw [← show (l0.take (x5_1 : Int).toNat).length = x5_1.toNat from (by rw [List.length_take]; have h_ : (x5_1 : Int) ≤ (l0.length : Int) := of_decide_eq_true Hd.a_; omega)]; repeat (first | exact (Kd.C_below HR266.out HB.out) | (with_reducible refine Kd.C_alloc ?_ _) | (with_reducible refine Kd.C_drewN ?_ _) | (with_reducible refine Kd.C_drew ?_)); done) | (repeat (first | exact (Kd.C_below HR266.out HB.out) | (with_reducible refine Kd.C_alloc ?_ _) | (with_reducible refine Kd.C_drewN ?_ _) | (with_reducible refine Kd.C_drew ?_))))
           (case aB => exact Hd.b_)
           (case aF => exact (fun k_ hk => Kd.fresh' (Kd.R_lt (Hd.r_ HO272)) k_ hk))
           (case aO => exact (by (with_reducible repeat (first | apply Kd.R_alloc | apply Kd.R_drewN | apply Kd.R_drew)); exact Kd.R_mono HO265.out (fun _ hk => hk.2)))
           (case aS => exact (below_size Hd.b_))
           (case aL => have := LMc32.out; have hlx_ := (show (l0.take (x5_1 : Int).toNat).length = x5_1.toNat from (by rw [List.length_take]; have h_ : (x5_1 : Int) ≤ (l0.length : Int) := of_decide_eq_true Hd.a_; omega)); omega)
           intro v268 w44 ho hb hg hat
           rw [← Ny267.out] at ho
           have n0_ := Aside0.mk (Kd.R_after (ok := (fun _ => True)) (Hd.r_ HO272) hg hat)
           have n1_ := Aside0.mk (hb)
           have n2_ := Aside0.mk (ho)
           clear HO272
           clear HB
           clear HO265
           have HO272 := n0_
           have HB := n1_
           have HO269 := n2_
           clear n0_ n1_ n2_
           clear ho hb hg hat
           refine hK.out _ _ trivial (fun hHeld => ?_)
           clear hK K
           refine Hd.n_ (some 39) ?_
           exact norm_ (by simp only [putAll, Act.put, List.setIfInBounds_toArray, List.set_cons_zero, List.set_cons_succ]) (hCont (v264, v268, v271) _ ⟨(Hd.r_ HO269), (by (with_reducible repeat (first | apply Kd.R_alloc | apply Kd.R_drewN | apply Kd.R_drew)); exact Kd.R_mono HO272.out (fun _ hk => hk.2)), Hd.b_⟩)
         rintro ⟨v264, v268, v271⟩ w45 ⟨h0_, h1_, h2_⟩
         have n0_ : Aside0 (Kd.R (Kd.int .i64) 3 w45 w.heap.size (fun k_ => some k_ ≠ (v271 : Value).ownBlock) v268 y267) := ⟨h0_⟩
         have n1_ : Aside0 (Kd.R (Kd.int .i64) 3 w45 w.heap.size (fun k_ => some k_ ≠ (v268 : Value).ownBlock) v271 y270) := ⟨h1_⟩
         have n2_ : Aside0 (Below w.heap.size w w45) := ⟨h2_⟩
         clear HB
         clear h0_ h1_ h2_
         have HO269 := n0_
         have HO272 := n1_
         have HB := n2_
         clear n0_ n1_ n2_
         have hHeld := trivial
         obtain ⟨Ao47, co47, eo47⟩ := Kd.R_slice HO272.out
         (first | subst eo47 | (injection eo47 with f1_ f2_ f3_; have f4_ := f1_.symm; have f5_ := f3_.symm; clear f1_ f2_ f3_; subst f4_; subst f5_))
         refine norm_ (a' := ?_) ?_ ?_
         rotate_left
         ·
          simp only [putAll, Act.put, List.setIfInBounds_toArray, List.set_cons_zero, List.set_cons_succ]
          rfl
         refine Hd.o_ HT_ 7 (some 42) #[true, true, true, true, true, true, true, true, true, true, true, false, false] (fun K hK => ?_)
         refine Kd.R_append_rows_step (Kd.int .i64) (w0 := w) w.heap.size (by rfl) (.tmp 39) (.tmp 41) 65 3 (.int .i64 0) 8 rfl Try.underlying65 info3 rfl (by decide) (by omega) v268 y267 y270 _ _ _ (fun k_ => some k_ ≠ (.slice Ao47 y270.length co47 : Value).ownBlock) (fun _ => False) rfl rfl ?aO ?aR (fun _ _ h => h) (fun _ h => h.elim) ?aF ?aB ?aS ?aL ?_
         (case aR => repeat (first | exact (Kd.R_reads' HO272.out).2.2 | (with_reducible refine Kd.C_alloc ?_ _) | (with_reducible refine Kd.C_drewN ?_ _) | (with_reducible refine Kd.C_drew ?_)))
         (case aB => exact Hd.b_)
         (case aF => exact (fun k_ hk => Kd.fresh' (Kd.R_lt (Hd.r_ HO272)) k_ hk))
         (case aO => exact (Hd.r_ HO269))
         (case aS => exact (below_size Hd.b_))
         (case aL => have := LMc33.out; omega)
         intro v274 w46 ho hb hg hat
         rw [← Ny273.out] at ho
         have n0_ := Aside0.mk (Kd.R_after (ok := (fun _ => True)) (by (with_reducible repeat (first | apply Kd.R_alloc | apply Kd.R_drewN | apply Kd.R_drew)); exact Kd.R_mono HO272.out (fun _ hk => ⟨trivial, hk⟩)) hg hat)
         have n1_ := Aside0.mk (hb)
         have n2_ := Aside0.mk (ho)
         clear HO272
         clear HB
         clear HO269
         have HO272 := n0_
         have HB := n1_
         have HO275 := n2_
         clear n0_ n1_ n2_
         clear ho hb hg hat
         refine hK.out _ _ trivial (fun hHeld => ?_)
         clear hK K
         refine Hd.n_ (some 42) ?_
         refine Hd.o_ HT_ 11 (some 46) #[true, true, true, true, true, true, true, true, true, true, true, true, false] (fun K hK => ?_)
         refine Kd.R_append_rows_step (Kd.int .i64) (w0 := w) w.heap.size (by rfl) (.tmp 42) (.tmp 45) 65 3 (.int .i64 0) 8 rfl Try.underlying65 info3 rfl (by decide) (by omega) v274 y273 (l0.drop (x5_1 : Int).toNat) _ _ _ (fun k_ => some k_ ≠ (.slice Ao47 y270.length co47 : Value).ownBlock) (fun _ => False) rfl rfl ?aO ?aR (fun _ _ h => h) (fun _ h => h.elim) ?aF ?aB ?aS ?aL ?_
         (case aR => first | (rw [← show (l0.drop (x5_1 : Int).toNat).length = (l0.length - x5_1.toNat) from List.length_drop]; repeat (first | exact (Kd.C_below HR276.out HB.out) | (with_reducible refine Kd.C_alloc ?_ _) | (with_reducible refine Kd.C_drewN ?_ _) | (with_reducible refine Kd.C_drew ?_))) | (repeat (first | exact (Kd.C_below HR276.out HB.out) | (with_reducible refine Kd.C_alloc ?_ _) | (with_reducible refine Kd.C_drewN ?_ _) | (with_reducible refine Kd.C_drew ?_))))
         (case aB => exact Hd.b_)
         (case aF => exact (fun k_ hk => Kd.fresh' (Kd.R_lt (Hd.r_ HO272)) k_ hk))
         (case aO => exact (Hd.r_ HO275))
         (case aS => exact (below_size Hd.b_))
         (case aL => have := LMc36.out; have hlx_ := (show (l0.drop (x5_1 : Int).toNat).length = (l0.length - x5_1.toNat) from List.length_drop); omega)
         intro v278 w48 ho hb hg hat
         rw [← Ny277.out] at ho
         have n0_ := Aside0.mk (Kd.R_after (ok := (fun _ => True)) (Hd.r_ HO272) hg hat)
         have n1_ := Aside0.mk (hb)
         have n2_ := Aside0.mk (ho)
         clear HO272
         clear HB
         clear HO275
         have HO272 := n0_
         have HB := n1_
         have HO279 := n2_
         clear n0_ n1_ n2_
         clear ho hb hg hat
         refine hK.out _ _ trivial (fun hHeld => ?_)
         clear hK K
         refine Hd.n_ (some 46) ?_
         refine Hd.p_ HT_ 12 (some 4) #[true, true, true, true, true, true, true, true, true, true, true, true, true] ?_
         refine done_ (done_of HT_.out (by kernel_rfl)) ?_
         try go_wp2
         go_ret
         exact ⟨_, Hd.e_, by (with_reducible repeat (first | apply Kd.R_alloc | apply Kd.R_drewN | apply Kd.R_drew)); exact Kd.R_mono HO279.out (fun _ hk => trivial), Hd.b_⟩
        ·
         rw [if_neg c36] at H
         exact absurd H (by simp)
       ·
        rw [if_neg c33] at H
        exact absurd H (by simp)
      ·
       rw [if_neg c32] at H
       exact absurd H (by simp)
     ·
      rw [if_neg c31] at H
      exact absurd H (by simp)
    ·
     rw [if_neg c30] at H
     exact absurd H (by simp)
mutual
def spec_ThinPlaces.j0 : Nat → List (S77) → Int → List Int → Bool → Option (List Int)
 | 0, _, _, _, _ => none
 | k + 1, x0, x1, x5, x16 => if x16 = true then (some x5) else ((spec_l14Kept.f k x0 x1).bind fun t285 => (spec_ThinPlaces.l0 k x5 t285 0))
def spec_ThinPlaces.l0 : Nat → List Int → List (S77) → Int → Option (List Int)
 | 0, _, _, _ => none
 | k + 1, x5, x6, x7 => if x7 < (x6.length : Int) then (if 0 ≤ x7 then ((spec_l14Put.f k x5 ((rd_T77 x6 x7).f0)).bind fun t289 => (spec_ThinPlaces.l0 k t289 x6 (wrap64 (x7 + 1)))) else (none)) else (some x5)
end
def spec_ThinPlaces.f (k : Nat) (l0 : List (S77)) (a1 : Int) : Option (List Int) := (some (([] : List Int) : List Int)).bind fun y280 => ((spec_ArePlaces.f k l0).bind fun t283 => (if t283 = true then ((spec_l1In.f a1 0 200).bind fun t284 => (spec_ThinPlaces.j0 k l0 a1 y280 (!t284))) else (spec_ThinPlaces.j0 k l0 a1 y280 true)))
set_option maxHeartbeats 8000000 in
set_option maxRecDepth 100000 in
theorem spec_ThinPlaces.calls (k : Nat) (A0 : Option Addr) (c0 : Nat) (l0 : List (S77)) (a1 : Int) (r : List Int) (w : World) (hr0 : Kd.C k77 w A0 l0.length l0) (hc0 : l0.length ≤ c0) (h : spec_ThinPlaces.f k l0 a1 = some r) :
  Calls Try.prog 41 #[.slice A0 l0.length c0, .int .i64 a1] w fun e w' => ∃ v0_ : Value, e = .returned (v0_) ∧ Kd.R (Kd.int .i64) 3 w' w.heap.size (fun _ => True) v0_ r ∧ Below w.heap.size w w' := by
 have HR0 := Aside0.mk hr0
 have HC0 := Aside0.mk hc0
 clear hr0 hc0
 have HB := Aside0.mk (Below.refl w.heap.size w)
 have H : ((some (([] : List Int) : List Int)).bind fun y280 => ((spec_ArePlaces.f k l0).bind fun t283 => (if t283 = true then ((spec_l1In.f a1 0 200).bind fun t284 => (spec_ThinPlaces.j0 k l0 a1 y280 (!t284))) else (spec_ThinPlaces.j0 k l0 a1 y280 true)))) = some r := h
 clear h
 obtain ⟨y280, hy280⟩ : ∃ y_ : List Int, y_ = (([] : List Int)) := ⟨_, rfl⟩
 replace H : ((spec_ArePlaces.f k l0).bind fun t283 => (if t283 = true then ((spec_l1In.f a1 0 200).bind fun t284 => (spec_ThinPlaces.j0 k l0 a1 y280 (!t284))) else (spec_ThinPlaces.j0 k l0 a1 y280 true))) = some r := by first | (rw [hy280]; with_reducible exact H) | (have H2_ := (Option.bind_some _ _).symm.trans H; rw [hy280]; with_reducible exact H2_) | (have H2_ := (Option.bind_some _ _).symm.trans H; with_reducible exact H2_) | with_reducible exact H | (rw [hy280]; exact H) | exact H
 have Ny280 := Aside0.mk hy280
 clear hy280
 have HC3 := Aside0.mk H
 clear H
 go_enter Try.func41, Try.ntmps41
 go_upto_region 2 with (first | ((with_reducible refine gate_dst (N := 8) rfl ?_); refine Kd.R_lit (Kd.int .i64) _ 3 ?hg (N := 8) ?hd (xs := ([] : List Int)) (inner := []) (ok := fun _ => True) (okp := fun _ => True) ?hr ?hp (fun _ hk => hk) trivial (Below.refl _ _) (Nat.le_refl _) (by simp) ?_; (case hd => rfl); (case hg => rfl); (case hr => first | (go_simp; done) | (go_simp; rfl)); (case hp => exact (Reps.none _ _)); intro v281 w4 ho5 hb hg_ hnew_; clear hg_ hnew_; (first | rw [← Ny280.out] at ho5 | (simp only [Int.reduceToNat] at ho5; rw [← Ny280.out] at ho5)); have HO282 := Aside0.mk (Kd.R_lower ho5 (below_size Hd.b_)); replace HB := Aside0.mk (below_step Hd.b_ hb); clear hb ho5))
 (try simp only [Act.put, List.setIfInBounds_toArray, List.set_cons_zero, List.set_cons_succ])
 go_cut [16] (fun v16 wc => ∃ (kq : Nat) (x16_2 : Bool), v16 = .bool x16_2 ∧ Aside0 (spec_ThinPlaces.j0 kq l0 a1 y280 x16_2 = some r) ∧ Aside0 (kq ≤ k) ∧ Aside0 (Kd.R (Kd.int .i64) 3 wc w.heap.size (fun _ => True) v281 y280) ∧ Aside0 (Below w.heap.size w wc))
 case first =>
  have H := HC3.out
  clear HC3
  replace H := Option.bind_eq_some_iff.mp H
  obtain ⟨t283, A60, H⟩ := H
  replace H : (if t283 = true then ((spec_l1In.f a1 0 200).bind fun t284 => (spec_ThinPlaces.j0 k l0 a1 y280 (!t284))) else (spec_ThinPlaces.j0 k l0 a1 y280 true)) = some r := H
  have A6 := Aside0.mk A60
  clear A60
  by_cases c7 : t283 = true
  ·
   subst c7
   have H1 : ((spec_l1In.f a1 0 200).bind fun t284 => (spec_ThinPlaces.j0 k l0 a1 y280 (!t284))) = some r := by rw [if_pos rfl] at H; exact H
   clear H
   have H := H1
   clear H1
   replace H := Option.bind_eq_some_iff.mp H
   obtain ⟨t284, A80, H⟩ := H
   replace H : (spec_ThinPlaces.j0 k l0 a1 y280 (!t284)) = some r := H
   have A8 := Aside0.mk A80
   clear A80
   have H' := Aside0.mk H
   clear H
   go_wp2_with (first | ((with_reducible refine gate_callee (f := 81) rfl ?_); refine goesL_ (some 10) rfl rfl Try.func81 (by kernel_rfl) rfl #[.slice A0 l0.length c0] rfl Hd.m_ ?_; (with_reducible refine (spec_ArePlaces.calls k _ _ l0 true _ ?side1 ?side2 A6.out).mono ?_); (case side1 => repeat (first | exact (Kd.C_below HR0.out HB.out) | (with_reducible refine Kd.C_alloc ?_ _) | (with_reducible refine Kd.C_drewN ?_ _) | (with_reducible refine Kd.C_drew ?_))); (case side2 => exact HC0.out); rintro e w9 ⟨rfl, hb⟩; refine ⟨_, rfl, ?_⟩; replace HO282 := Aside0.mk (Kd.R_below (Hd.r_ HO282) hb); replace HB := Aside0.mk (below_step Hd.b_ hb); (try clear hb); (try clear hb2); (try clear hk); (try clear hi)) | (go_at_call 82; (with_reducible refine (spec_l1In.calls a1 0 200 t284 _ A8.out).mono ?_); rintro e w' ⟨rfl, ⟨nd, rfl⟩⟩))
   go_meet
   case rel => exact ⟨_, (!t284), (by first | rfl | (simp; done) | (simp [*]; done)), H', ⟨by first | omega | exact Nat.le_refl _⟩, ⟨by (with_reducible repeat (first | apply Kd.R_alloc | apply Kd.R_drewN | apply Kd.R_drew)); exact HO282.out⟩, ⟨Hd.b_⟩⟩
  ·
   replace c7 := Bool.eq_false_iff.mpr c7
   subst c7
   have H1 : (spec_ThinPlaces.j0 k l0 a1 y280 true) = some r := by rw [if_neg (show ¬ (false = true) by decide)] at H; exact H
   clear H
   have H := H1
   clear H1
   have H' := Aside0.mk H
   clear H
   go_wp2_with (first | ((with_reducible refine gate_callee (f := 81) rfl ?_); refine goesL_ (some 10) rfl rfl Try.func81 (by kernel_rfl) rfl #[.slice A0 l0.length c0] rfl Hd.m_ ?_; (with_reducible refine (spec_ArePlaces.calls k _ _ l0 false _ ?side1 ?side2 A6.out).mono ?_); (case side1 => repeat (first | exact (Kd.C_below HR0.out HB.out) | (with_reducible refine Kd.C_alloc ?_ _) | (with_reducible refine Kd.C_drewN ?_ _) | (with_reducible refine Kd.C_drew ?_))); (case side2 => exact HC0.out); rintro e w10 ⟨rfl, hb⟩; refine ⟨_, rfl, ?_⟩; replace HO282 := Aside0.mk (Kd.R_below (Hd.r_ HO282) hb); replace HB := Aside0.mk (below_step Hd.b_ hb); (try clear hb); (try clear hb2); (try clear hk); (try clear hi)))
   go_meet
   case rel => exact ⟨_, (true), (by first | rfl | (simp; done) | (simp [*]; done)), H', ⟨by first | omega | exact Nat.le_refl _⟩, ⟨by (with_reducible repeat (first | apply Kd.R_alloc | apply Kd.R_drewN | apply Kd.R_drew)); exact HO282.out⟩, ⟨Hd.b_⟩⟩
 case rest =>
  clear HC3
  try clear p2
  try clear c4
  try clear c7
  try clear c8
  obtain ⟨kq, x16_2, rfl, HA, HJ2, HO_5, HB⟩ := hcut
  cases kq with
  | zero => exact absurd HA.out (by simp [spec_ThinPlaces.j0])
  | succ kj2 =>
   have H := HA.out
   clear HA
   simp only [spec_ThinPlaces.j0] at H
   by_cases c11 : x16_2 = true
   ·
    subst c11
    have H1 : (some y280) = some r := by rw [if_pos rfl] at H; exact H
    clear H
    have H := H1
    clear H1
    obtain rfl := Option.some.inj H
    go_wp2
    go_ret
    exact ⟨_, Hd.e_, by (with_reducible repeat (first | apply Kd.R_alloc | apply Kd.R_drewN | apply Kd.R_drew)); exact HO_5.out, Hd.b_⟩
   ·
    replace c11 := Bool.eq_false_iff.mpr c11
    subst c11
    have H1 : ((spec_l14Kept.f kj2 l0 a1).bind fun t285 => (spec_ThinPlaces.l0 kj2 y280 t285 0)) = some r := by rw [if_neg (show ¬ (false = true) by decide)] at H; exact H
    clear H
    have H := H1
    clear H1
    replace H := Option.bind_eq_some_iff.mp H
    obtain ⟨t285, A120, H⟩ := H
    replace H : (spec_ThinPlaces.l0 kj2 y280 t285 0) = some r := H
    have A12 := Aside0.mk A120
    clear A120
    have H' := Aside0.mk H
    clear H
    go_wp2_with (first | ((with_reducible refine gate_callee (f := 84) rfl ?_); refine goesL_ (some 20) rfl rfl Try.func84 (by kernel_rfl) rfl #[.slice A0 l0.length c0, .int .i64 a1] rfl Hd.m_ ?_; (with_reducible refine (spec_l14Kept.calls kj2 _ _ l0 a1 t285 _ ?side1 ?side2 A12.out).mono ?_); (case side1 => repeat (first | exact (Kd.C_below HR0.out HB.out) | (with_reducible refine Kd.C_alloc ?_ _) | (with_reducible refine Kd.C_drewN ?_ _) | (with_reducible refine Kd.C_drew ?_))); (case side2 => exact HC0.out); rintro e w13 ⟨v286, rfl, ho0, hb⟩; refine ⟨_, rfl, ?_⟩; replace HO_5 := Aside0.mk (Kd.R_below (Hd.r_ HO_5) hb); have HO287 := Aside0.mk (Kd.R_lower ho0 (below_size Hd.b_)); replace HB := Aside0.mk (below_step Hd.b_ hb); (try clear hb); (try clear hb2); (try clear hk); (try clear hi); (try clear ho0)))
    go_loopg [5, 7] kj2 (fun kq v5 v7 w' => ∃ (x5_2 : List Int) (x7_2 : Int), v7 = .int .i64 x7_2 ∧ Aside0 (spec_ThinPlaces.l0 kq x5_2 t285 x7_2 = some r) ∧ Aside0 (kq ≤ kj2) ∧ Aside0 (Kd.R (Kd.int .i64) 3 w' w.heap.size (fun _ => True) v5 x5_2) ∧ Aside0 (Kd.R k77 77 w' w.heap.size (fun _ => True) v286 t285) ∧ Aside0 (Below w.heap.size w w'))
    case atStart => exact ⟨(y280), (0), (by first | rfl | (simp; done) | (simp [*]; done)), H', ⟨Nat.le_refl _⟩, ⟨by (with_reducible repeat (first | apply Kd.R_alloc | apply Kd.R_drewN | apply Kd.R_drew)); exact HO_5.out⟩, ⟨by (with_reducible repeat (first | apply Kd.R_alloc | apply Kd.R_drewN | apply Kd.R_drew)); exact HO287.out⟩, ⟨Hd.b_⟩⟩
    case round =>
     clear H'
     try clear c1
     try clear p2
     try clear c4
     try clear c7
     try clear c8
     try clear c11
     try clear p2
     obtain ⟨x5_2, x7_2, rfl, HA, HK2, HO_5, HO_6, HB⟩ := hrel
     cases gk with
     | zero => exact absurd HA.out (by simp [spec_ThinPlaces.l0])
     | succ k2 =>
      have H := HA.out
      clear HA
      simp only [spec_ThinPlaces.l0] at H
      by_cases c14 : x7_2 < (t285.length : Int)
      ·
       rw [if_pos c14] at H
       have c14b0 : decide (x7_2 < (t285.length : Int)) = true := decide_eq_true c14
       clear c14
       by_cases c15 : 0 ≤ x7_2
       ·
        rw [if_pos c15] at H
        have c15b0 : decide (0 ≤ x7_2) = true := decide_eq_true c15
        clear c15
        replace H := Option.bind_eq_some_iff.mp H
        obtain ⟨t289, A160, H⟩ := H
        replace H : (spec_ThinPlaces.l0 k2 t289 t285 (wrap64 (x7_2 + 1))) = some r := H
        have A16 := Aside0.mk A160
        clear A160
        have H' := Aside0.mk H
        clear H
        obtain ⟨Ao17, co17, eo17⟩ := Kd.R_slice HO_6.out
        subst eo17
        have p288 : 0 ≤ (x7_2 : Int) := of_decide_eq_true Hd.a_
        have q288 : x7_2 < (t285.length : Int) := of_decide_eq_true Hd.a_
        obtain ⟨ad288, e288, hx288_0, hx288_1, hx288_2, hx288_3⟩ := at_T77 (Kd.R_reads' HO_6.out).2.2 x7_2 p288 q288
        cases e288
        replace p288 := eq_true p288
        replace q288 := eq_true q288
        obtain ⟨Ao18, co18, eo18⟩ := Kd.R_slice HO_5.out
        subst eo18
        go_wp2_with (first | ((with_reducible refine gate_callee (f := 93) rfl ?_); refine goesL_ (some 33) rfl rfl Try.func93 (by kernel_rfl) rfl #[.slice Ao18 x5_2.length co18, .int .i64 ((rd_T77 t285 x7_2).f0)] rfl Hd.m_ ?_; (with_reducible refine (spec_l14Put.calls k2 _ _ x5_2 ((rd_T77 t285 x7_2).f0) t289 _ ?side1 ?side2 A16.out).mono ?_); (case side1 => repeat (first | exact (Kd.R_reads' HO_5.out).2.2 | (with_reducible refine Kd.C_alloc ?_ _) | (with_reducible refine Kd.C_drewN ?_ _) | (with_reducible refine Kd.C_drew ?_))); (case side2 => exact (Kd.R_reads' HO_5.out).2.1); rintro e w19 ⟨v290, rfl, ho0, hb⟩; refine ⟨_, rfl, ?_⟩; replace HO_6 := Aside0.mk (Kd.R_below (Hd.r_ HO_6) hb); have HO291 := Aside0.mk (Kd.R_lower (Kd.R_new' ho0 (Kd.R_lt (Hd.r_ HO_5))) (below_size Hd.b_)); replace HO_5 := Aside0.mk (Kd.R_elder' (Hd.r_ HO_5) (Kd.R_base ho0) hb); replace HB := Aside0.mk (below_step Hd.b_ hb); (try clear hb); (try clear hb2); (try clear hk); (try clear hi); (try clear ho0)))
        go_roundg k2
        case measure => have := HJ2.out; have := HK2.out; omega
        case rel => exact ⟨(t289), (wrap64 (x7_2 + 1)), (by first | rfl | (simp; done) | (simp [*]; done)), H', ⟨by have := HJ2.out; have := HK2.out; omega⟩, ⟨by (with_reducible repeat (first | apply Kd.R_alloc | apply Kd.R_drewN | apply Kd.R_drew)); exact Kd.R_mono HO291.out (fun _ hk => trivial)⟩, ⟨by (with_reducible repeat (first | apply Kd.R_alloc | apply Kd.R_drewN | apply Kd.R_drew)); exact HO_6.out⟩, ⟨Hd.b_⟩⟩
       ·
        rw [if_neg c15] at H
        exact absurd H (by simp)
      ·
       rw [if_neg c14] at H
       have c14b0 : decide (x7_2 < (t285.length : Int)) = false := decide_eq_false c14
       clear c14
       obtain rfl := Option.some.inj H
       obtain ⟨Ao20, co20, eo20⟩ := Kd.R_slice HO_6.out
       subst eo20
       go_wp2
       go_ret
       exact ⟨_, Hd.e_, by (with_reducible repeat (first | apply Kd.R_alloc | apply Kd.R_drewN | apply Kd.R_drew)); exact HO_5.out, Hd.b_⟩
end Go.Proofs.Ytbackoeakepngab.MFnThinned
