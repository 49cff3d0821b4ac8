-- Laid by this session's program pp.py, after the kit's print and texts of the session's own. Not trusted: Lean checks it.
import Derived.Test.YtbackoeakepngaaZCountLeftOutMx0
import Derived.Test.YtbackoeakepngaaZCountLeftOutMx2
namespace Go.Proofs.Ytbackoeakepngaa.MFnExactCountLeftOut
open Go.RowKit Go.Proofs.YtbackoeakepngaaW.PrintWords Go.Proofs.YtbackoeakepngaaW.PrintLast Go.Proofs.YtbackoeakepngaaW.PrintMore
attribute [local go_sem] max2_int min2_int max_two min_two max_three min_three max_four min_four   -- for this text's walks alone
set_option linter.unusedVariables false
set_option linter.unusedSimpArgs false
mutual
def spec_l11Between.l0 : Nat → List (S27) → Int → Int → Int → List Bool → Int → Int → Int → Int → Option (List Bool)
 | 0, _, _, _, _, _, _, _, _, _ => none
 | k + 1, x0, x1, x2, x3, x4, x11, x12, x13, x14 => if x14 < x2 then (if 0 ≤ x1 then (if x1 < (x0.length : Int) then (if 0 ≤ x2 then (if x2 < (x0.length : Int) then (if 0 ≤ x14 then (if x14 < (x0.length : Int) then ((spec_l11Far.f ((rd_T27 x0 x1).f0) ((rd_T27 x0 x1).f1) ((rd_T27 x0 x2).f0) ((rd_T27 x0 x2).f1) ((rd_T27 x0 x14).f0) ((rd_T27 x0 x14).f1)).bind fun bt125 => (if bt125.1 > (wrap64 ((wrap64 (x3 * x3)) * bt125.2)) then (if x11 < 0 then (spec_l11Between.l0 k x0 x1 x2 x3 x4 x14 bt125.1 bt125.2 (wrap64 (x14 + 1))) else (if (wrap64 (bt125.1 * x13)) > (wrap64 (x12 * bt125.2)) then (spec_l11Between.l0 k x0 x1 x2 x3 x4 x14 bt125.1 bt125.2 (wrap64 (x14 + 1))) else (spec_l11Between.l0 k x0 x1 x2 x3 x4 x11 x12 x13 (wrap64 (x14 + 1))))) else (spec_l11Between.l0 k x0 x1 x2 x3 x4 x11 x12 x13 (wrap64 (x14 + 1))))) else (none)) else (none)) else (none)) else (none)) else (none)) else (none)) else (if x11 < 0 then (some x4) else (if 0 ≤ x11 then (if x11 < (x4.length : Int) then ((spec_l11Between.f k x0 x1 x11 x3 (x4.set (x11 : Int).toNat true)).bind fun t128 => ((spec_l11Between.f k x0 x11 x2 x3 t128).bind fun t131 => (some t131))) else (none)) else (none)))
def spec_l11Between.f : Nat → List (S27) → Int → Int → Int → List Bool → Option (List Bool)
 | 0, _, _, _, _, _ => none
 | k + 1, l0, a1, a2, a3, l4 => spec_l11Between.l0 k l0 a1 a2 a3 l4 (-1) 0 1 (wrap64 (a1 + 1))
end
def spec_l11Between.T7 : Bool × List (List Nat × List Nat) := (true, [([], []), ([], []), ([0, 1], [0, 1]), ([2], [2]), ([], []), ([], []), ([4, 5], [4, 5]), ([6], [6]), ([], []), ([], []), ([8, 9], [8, 9]), ([10], [10]), ([3, 7, 11], [3, 7, 11]), ([12], [12]), ([13], [13]), ([13], [13]), ([14, 12, 0, 1, 2, 3, 4, 5, 6, 7, 8, 9, 10, 11, 12, 13, 14], [14]), ([15, 16, 0, 1, 2, 3, 4, 5, 6, 7, 8, 9, 10, 11, 12, 13, 14, 15, 16], [15])])
def spec_l11Between.B7 : List Nat := [0, 0, 3, 7, 0, 0, 48, 112, 0, 0, 768, 1792, 4095, 8191, 16383, 16383, 32767, 131071]
theorem spec_l11Between.tab7 : rtab .any (opsOf Try.f75 7) = spec_l11Between.T7 := by kernel_rfl
theorem spec_l11Between.bits7 : waitsOk spec_l11Between.T7.2 spec_l11Between.B7 = true := by kernel_rfl
set_option maxHeartbeats 8000000 in
set_option maxRecDepth 100000 in
theorem spec_l11Between.calls (k : Nat) : ∀ (A0 : Option Addr) (c0 : Nat) (l0 : List (S27)) (a1 : Int) (a2 : Int) (a3 : Int) (P4_ : Nat → Prop) (u9000_ : Value) (l4 : List Bool) (r : List Bool) (w0 w : World) (hB : Below w0.heap.size w0 w) (hr0 : ∀ W_, Kept w W_ (fun k_ => P4_ k_) → Kd.C k27 W_ A0 l0.length l0) (hc0 : l0.length ≤ c0) (ho4 : Kd.R Kd.bool 4 w w0.heap.size P4_ u9000_ l4) (h : spec_l11Between.f k l0 a1 a2 a3 l4 = some r),
  Calls Try.prog 75 #[.slice A0 l0.length c0, .int .i64 a1, .int .i64 a2, .int .i64 a3, u9000_] w fun e w' => ∃ v0_ : Value, e = .returned (v0_) ∧ Kd.R Kd.bool 4 w' w0.heap.size (fun k_ => (P4_ k_ ∨ w.heap.size ≤ k_)) v0_ r ∧ Below w0.heap.size w0 w' ∧ Kept w w' (fun k_ => P4_ k_) := by
 induction k using Nat.strongRecOn with
 | _ k ih =>
 intro A0 c0 l0 a1 a2 a3 P4_ u9000_ l4 r w0 w hB hr0 hc0 ho4 h
 cases k with
 | zero => exact absurd h (by simp [spec_l11Between.f])
 | succ k =>
 simp only [spec_l11Between.f] at h
 have hu27 := Try.underlying27
 have HR0 := Aside0.mk hr0
 have HC0 := Aside0.mk hc0
 clear hr0 hc0
 have HO4 := Aside0.mk (show Kd.R Kd.bool 4 w w0.heap.size (fun k_ => (P4_ k_ ∨ w.heap.size ≤ k_)) u9000_ l4 from Kd.R_mono ho4 (fun k_ hk => (.inl hk)))
 have HK := Aside0.mk (Kept.refl w (fun k_ => P4_ k_))
 have HW0 := Aside0.mk hB.size
 have HB := Aside0.mk hB
 clear hB
 have H : (spec_l11Between.l0 k l0 a1 a2 a3 l4 (-1) 0 1 (wrap64 (a1 + 1))) = some r := h
 clear h
 have H' := Aside0.mk H
 clear H
 go_enter Try.func75, Try.ntmps75
 go_wp2
 go_loopg [11, 12, 13, 14] k (fun kq v11 v12 v13 v14 w' => ∃ (x11_1 : Int) (x12_1 : Int) (x13_1 : Int) (x14_1 : Int), v11 = .int .i64 x11_1 ∧ v12 = .int .i64 x12_1 ∧ v13 = .int .i64 x13_1 ∧ v14 = .int .i64 x14_1 ∧ Aside0 (spec_l11Between.l0 kq l0 a1 a2 a3 l4 x11_1 x12_1 x13_1 x14_1 = some r) ∧ Aside0 (kq ≤ k) ∧ Aside0 (Kd.R Kd.bool 4 w' w0.heap.size (fun k_ => (P4_ k_ ∨ w.heap.size ≤ k_)) u9000_ l4) ∧ Aside0 (Kept w w' (fun k_ => P4_ k_)) ∧ Aside0 (Below w0.heap.size w0 w'))
 case atStart => exact ⟨((-1)), (0), (1), (wrap64 (a1 + 1)), (by first | rfl | (simp; done) | (simp [*]; done)), (by first | rfl | (simp; done) | (simp [*]; done)), (by first | rfl | (simp; done) | (simp [*]; done)), (by first | rfl | (simp; done) | (simp [*]; done)), H', ⟨Nat.le_refl _⟩, ⟨by (with_reducible repeat (first | apply Kd.R_alloc | apply Kd.R_drewN | apply Kd.R_drew)); exact HO4.out⟩, ⟨by repeat (first | (with_reducible first | exact HK.out | apply Kept.alloc | apply Kept.drewN | apply Kept.drew) | exact HK.out)⟩, ⟨Hd.b_⟩⟩
 case round =>
  clear H'
  try clear p2
  obtain ⟨x11_1, x12_1, x13_1, x14_1, rfl, rfl, rfl, rfl, HA, HK1, HO_4, HK, HB⟩ := hrel
  cases gk with
  | zero => exact absurd HA.out (by simp [spec_l11Between.l0])
  | succ k1 =>
   have H := HA.out
   clear HA
   simp only [spec_l11Between.l0] at H
   by_cases c6 : x14_1 < a2
   ·
    rw [if_pos c6] at H
    have c6b0 : decide (x14_1 < a2) = true := decide_eq_true c6
    clear c6
    by_cases c7 : 0 ≤ a1
    ·
     rw [if_pos c7] at H
     have c7b0 : decide (0 ≤ a1) = true := decide_eq_true c7
     clear c7
     by_cases c8 : a1 < (l0.length : Int)
     ·
      rw [if_pos c8] at H
      have c8b0 : decide (a1 < (l0.length : Int)) = true := decide_eq_true c8
      clear c8
      by_cases c9 : 0 ≤ a2
      ·
       rw [if_pos c9] at H
       have c9b0 : decide (0 ≤ a2) = true := decide_eq_true c9
       clear c9
       by_cases c10 : a2 < (l0.length : Int)
       ·
        rw [if_pos c10] at H
        have c10b0 : decide (a2 < (l0.length : Int)) = true := decide_eq_true c10
        clear c10
        by_cases c11 : 0 ≤ x14_1
        ·
         rw [if_pos c11] at H
         have c11b0 : decide (0 ≤ x14_1) = true := decide_eq_true c11
         clear c11
         by_cases c12 : x14_1 < (l0.length : Int)
         ·
          rw [if_pos c12] at H
          have c12b0 : decide (x14_1 < (l0.length : Int)) = true := decide_eq_true c12
          clear c12
          replace H := Option.bind_eq_some_iff.mp H
          obtain ⟨⟨t125, t126⟩, A130, H⟩ := H
          replace H : (if t125 > (wrap64 ((wrap64 (a3 * a3)) * t126)) then (if x11_1 < 0 then (spec_l11Between.l0 k1 l0 a1 a2 a3 l4 x14_1 t125 t126 (wrap64 (x14_1 + 1))) else (if (wrap64 (t125 * x13_1)) > (wrap64 (x12_1 * t126)) then (spec_l11Between.l0 k1 l0 a1 a2 a3 l4 x14_1 t125 t126 (wrap64 (x14_1 + 1))) else (spec_l11Between.l0 k1 l0 a1 a2 a3 l4 x11_1 x12_1 x13_1 (wrap64 (x14_1 + 1))))) else (spec_l11Between.l0 k1 l0 a1 a2 a3 l4 x11_1 x12_1 x13_1 (wrap64 (x14_1 + 1)))) = some r := H
          have A13 := Aside0.mk A130
          clear A130
          by_cases c14 : t125 > (wrap64 ((wrap64 (a3 * a3)) * t126))
          ·
           rw [if_pos c14] at H
           have c14b0 : decide ((wrap64 ((wrap64 (a3 * a3)) * t126)) < t125) = true := decide_eq_true c14
           clear c14
           by_cases c15 : x11_1 < 0
           ·
            rw [if_pos c15] at H
            have c15b0 : decide (x11_1 < 0) = true := decide_eq_true c15
            clear c15
            have H' := Aside0.mk H
            clear H
            try go_wp2
            replace HO_4 := Aside0.mk (Kd.R_drew HO_4.out)
            replace HK := Aside0.mk (Kept.drew HK.out)
            replace HB := Aside0.mk (below_drew1 HB.out)
            have p122 : 0 ≤ (a1 : Int) := of_decide_eq_true Hd.a_
            have q122 : a1 < (l0.length : Int) := of_decide_eq_true Hd.a_
            obtain ⟨ad122, e122, hx122_0, hx122_1⟩ := at_T27 (Kd.C_kept_now HR0.out HK.out) a1 p122 q122
            have hw122_1 := hx122_1
            have hw122_0 := hx122_0
            cases e122
            replace p122 := eq_true p122
            replace q122 := eq_true q122
            have p123 : 0 ≤ (a2 : Int) := of_decide_eq_true Hd.a_
            have q123 : a2 < (l0.length : Int) := of_decide_eq_true Hd.a_
            obtain ⟨ad123, e123, hx123_0, hx123_1⟩ := at_T27 (Kd.C_kept_now HR0.out HK.out) a2 p123 q123
            have hw123_1 := hx123_1
            have hw123_0 := hx123_0
            obtain rfl : ad122 = ad123 := (by injection e123)
            replace p123 := eq_true p123
            replace q123 := eq_true q123
            have p124 : 0 ≤ (x14_1 : Int) := of_decide_eq_true Hd.a_
            have q124 : x14_1 < (l0.length : Int) := of_decide_eq_true Hd.a_
            obtain ⟨ad124, e124, hx124_0, hx124_1⟩ := at_T27 (Kd.C_kept_now HR0.out HK.out) x14_1 p124 q124
            have hw124_1 := hx124_1
            have hw124_0 := hx124_0
            obtain rfl : ad122 = ad124 := (by injection e124)
            replace p124 := eq_true p124
            replace q124 := eq_true q124
            refine start_ (n := 18) (S := fun w' => w'.cell? (ad122.add ((a1).toNat * 2)) = some (.int .i64 ((rd_T27 l0 a1).f0)) ∧ w'.cell? ⟨(ad122.add ((a1).toNat * 2)).block, (ad122.add ((a1).toNat * 2)).off + 1, none⟩ = some (.int .i64 ((rd_T27 l0 a1).f1)) ∧ w'.cell? (ad122.add ((a2).toNat * 2)) = some (.int .i64 ((rd_T27 l0 a2).f0)) ∧ w'.cell? ⟨(ad122.add ((a2).toNat * 2)).block, (ad122.add ((a2).toNat * 2)).off + 1, none⟩ = some (.int .i64 ((rd_T27 l0 a2).f1)) ∧ w'.cell? (ad122.add ((x14_1).toNat * 2)) = some (.int .i64 ((rd_T27 l0 x14_1).f0)) ∧ w'.cell? ⟨(ad122.add ((x14_1).toNat * 2)).block, (ad122.add ((x14_1).toNat * 2)).off + 1, none⟩ = some (.int .i64 ((rd_T27 l0 x14_1).f1))) (ds := []) #[false, false, false, false, false, false, false, false, false, false, false, false, false, false, false, false, false, false] (by kernel_rfl) rfl rfl ⟨((fun W_ hC_ => (by obtain ⟨ad_, e_, h0_, h1_⟩ := at_T27 hC_ a1 (of_eq_true p122) (of_eq_true q122); obtain rfl : _ = ad_ := (by injection e_); exact h0_) : ∀ W_ : World, Kd.C _ W_ _ _ _ → W_.cell? (ad122.add ((a1).toNat * 2)) = some (.int .i64 ((rd_T27 l0 a1).f0))) _ (HR0.out _ (by repeat (first | exact HK.out | apply Kept.alloc | apply Kept.drewN | apply Kept.drew)))), ((fun W_ hC_ => (by obtain ⟨ad_, e_, h0_, h1_⟩ := at_T27 hC_ a1 (of_eq_true p122) (of_eq_true q122); obtain rfl : _ = ad_ := (by injection e_); exact h1_) : ∀ W_ : World, Kd.C _ W_ _ _ _ → W_.cell? ⟨(ad122.add ((a1).toNat * 2)).block, (ad122.add ((a1).toNat * 2)).off + 1, none⟩ = some (.int .i64 ((rd_T27 l0 a1).f1))) _ (HR0.out _ (by repeat (first | exact HK.out | apply Kept.alloc | apply Kept.drewN | apply Kept.drew)))), ((fun W_ hC_ => (by obtain ⟨ad_, e_, h0_, h1_⟩ := at_T27 hC_ a2 (of_eq_true p123) (of_eq_true q123); obtain rfl : _ = ad_ := (by injection e_); exact h0_) : ∀ W_ : World, Kd.C _ W_ _ _ _ → W_.cell? (ad122.add ((a2).toNat * 2)) = some (.int .i64 ((rd_T27 l0 a2).f0))) _ (HR0.out _ (by repeat (first | exact HK.out | apply Kept.alloc | apply Kept.drewN | apply Kept.drew)))), ((fun W_ hC_ => (by obtain ⟨ad_, e_, h0_, h1_⟩ := at_T27 hC_ a2 (of_eq_true p123) (of_eq_true q123); obtain rfl : _ = ad_ := (by injection e_); exact h1_) : ∀ W_ : World, Kd.C _ W_ _ _ _ → W_.cell? ⟨(ad122.add ((a2).toNat * 2)).block, (ad122.add ((a2).toNat * 2)).off + 1, none⟩ = some (.int .i64 ((rd_T27 l0 a2).f1))) _ (HR0.out _ (by repeat (first | exact HK.out | apply Kept.alloc | apply Kept.drewN | apply Kept.drew)))), ((fun W_ hC_ => (by obtain ⟨ad_, e_, h0_, h1_⟩ := at_T27 hC_ x14_1 (of_eq_true p124) (of_eq_true q124); obtain rfl : _ = ad_ := (by injection e_); exact h0_) : ∀ W_ : World, Kd.C _ W_ _ _ _ → W_.cell? (ad122.add ((x14_1).toNat * 2)) = some (.int .i64 ((rd_T27 l0 x14_1).f0))) _ (HR0.out _ (by repeat (first | exact HK.out | apply Kept.alloc | apply Kept.drewN | apply Kept.drew)))), ((fun W_ hC_ => (by obtain ⟨ad_, e_, h0_, h1_⟩ := at_T27 hC_ x14_1 (of_eq_true p124) (of_eq_true q124); obtain rfl : _ = ad_ := (by injection e_); exact h1_) : ∀ W_ : World, Kd.C _ W_ _ _ _ → W_.cell? ⟨(ad122.add ((x14_1).toNat * 2)).block, (ad122.add ((x14_1).toNat * 2)).off + 1, none⟩ = some (.int .i64 ((rd_T27 l0 x14_1).f1))) _ (HR0.out _ (by repeat (first | exact HK.out | apply Kept.alloc | apply Kept.drewN | apply Kept.drew))))⟩ (fun hHeld => ?_); refine with_tabW spec_l11Between.tab7 spec_l11Between.bits7 (fun HT_ HW_ => ?_)
            generalize wr.drew = w16 at HO_4 HK HB hx122_0 hx122_1 hx123_0 hx123_1 hx124_0 hx124_1 hHeld ⊢
            refine Hd.p_ HT_ 0 (some 25) #[true, false, false, false, false, false, false, false, false, false, false, false, false, false, false, false, false, false] ?_
            refine Hd.p_ HT_ 1 (some 26) #[true, true, false, false, false, false, false, false, false, false, false, false, false, false, false, false, false, false] ?_
            refine Hd.p_ HT_ 2 (some 27) #[true, true, true, false, false, false, false, false, false, false, false, false, false, false, false, false, false, false] ?_
            refine Hd.p_ HT_ 4 (some 29) #[true, true, true, false, true, false, false, false, false, false, false, false, false, false, false, false, false, false] ?_
            refine Hd.p_ HT_ 5 (some 30) #[true, true, true, false, true, true, false, false, false, false, false, false, false, false, false, false, false, false] ?_
            refine Hd.p_ HT_ 6 (some 31) #[true, true, true, false, true, true, true, false, false, false, false, false, false, false, false, false, false, false] ?_
            refine Hd.p_ HT_ 8 (some 33) #[true, true, true, false, true, true, true, false, true, false, false, false, false, false, false, false, false, false] ?_
            refine Hd.p_ HT_ 9 (some 34) #[true, true, true, false, true, true, true, false, true, true, false, false, false, false, false, false, false, false] ?_
            refine Hd.p_ HT_ 10 (some 35) #[true, true, true, false, true, true, true, false, true, true, true, false, false, false, false, false, false, false] ?_
            refine Hd.t_ HT_ HW_ hHeld 3 (some 28) #[true, true, true, true, true, true, true, false, true, true, true, false, false, false, false, false, false, false] ?_
            refine Hd.t_ HT_ HW_ hHeld 7 (some 32) #[true, true, true, true, true, true, true, true, true, true, true, false, false, false, false, false, false, false] ?_
            refine Hd.t_ HT_ HW_ hHeld 11 (some 36) #[true, true, true, true, true, true, true, true, true, true, true, true, false, false, false, false, false, false] ?_
            refine Hd.o_ HT_ 12 (some 37) #[true, true, true, true, true, true, true, true, true, true, true, true, true, false, false, false, false, false] (fun K hK => ?_)
            refine goes_ Try.func103 (by kernel_rfl) rfl #[.agg #[.int .i64 ((rd_T27 l0 a1).f0), .int .i64 ((rd_T27 l0 a1).f1)], .agg #[.int .i64 ((rd_T27 l0 a2).f0), .int .i64 ((rd_T27 l0 a2).f1)], .agg #[.int .i64 ((rd_T27 l0 x14_1).f0), .int .i64 ((rd_T27 l0 x14_1).f1)]] (by rfl) rfl rfl Hd.m_ ?_
            with_reducible refine (spec_l11Far.calls ((rd_T27 l0 a1).f0) ((rd_T27 l0 a1).f1) ((rd_T27 l0 a2).f0) ((rd_T27 l0 a2).f1) ((rd_T27 l0 x14_1).f0) ((rd_T27 l0 x14_1).f1) t125 t126 _ A13.out).mono ?_
            rintro e w17 ⟨rfl, hb⟩
            refine ⟨_, rfl, ?_⟩
            replace HO_4 := Aside0.mk (Kd.R_below (Hd.r_ HO_4) hb)
            replace HK := Aside0.mk (Kept.below (S := (fun k_ => P4_ k_)) (by repeat (first | (with_reducible first | exact HK.out | apply Kept.alloc | apply Kept.drewN | apply Kept.drew) | exact HK.out)) hb)
            replace HB := Aside0.mk (below_step Hd.b_ hb)
            (try clear hb)
            (try clear hb2)
            (try clear hk)
            (try clear hi)
            refine hK.out _ _ ⟨((fun W_ hC_ => (by obtain ⟨ad_, e_, h0_, h1_⟩ := at_T27 hC_ a1 (of_eq_true p122) (of_eq_true q122); obtain rfl : _ = ad_ := (by injection e_); exact h0_) : ∀ W_ : World, Kd.C _ W_ _ _ _ → W_.cell? (ad122.add ((a1).toNat * 2)) = some (.int .i64 ((rd_T27 l0 a1).f0))) _ (HR0.out _ (by repeat (first | exact HK.out | apply Kept.alloc | apply Kept.drewN | apply Kept.drew)))), ((fun W_ hC_ => (by obtain ⟨ad_, e_, h0_, h1_⟩ := at_T27 hC_ a1 (of_eq_true p122) (of_eq_true q122); obtain rfl : _ = ad_ := (by injection e_); exact h1_) : ∀ W_ : World, Kd.C _ W_ _ _ _ → W_.cell? ⟨(ad122.add ((a1).toNat * 2)).block, (ad122.add ((a1).toNat * 2)).off + 1, none⟩ = some (.int .i64 ((rd_T27 l0 a1).f1))) _ (HR0.out _ (by repeat (first | exact HK.out | apply Kept.alloc | apply Kept.drewN | apply Kept.drew)))), ((fun W_ hC_ => (by obtain ⟨ad_, e_, h0_, h1_⟩ := at_T27 hC_ a2 (of_eq_true p123) (of_eq_true q123); obtain rfl : _ = ad_ := (by injection e_); exact h0_) : ∀ W_ : World, Kd.C _ W_ _ _ _ → W_.cell? (ad122.add ((a2).toNat * 2)) = some (.int .i64 ((rd_T27 l0 a2).f0))) _ (HR0.out _ (by repeat (first | exact HK.out | apply Kept.alloc | apply Kept.drewN | apply Kept.drew)))), ((fun W_ hC_ => (by obtain ⟨ad_, e_, h0_, h1_⟩ := at_T27 hC_ a2 (of_eq_true p123) (of_eq_true q123); obtain rfl : _ = ad_ := (by injection e_); exact h1_) : ∀ W_ : World, Kd.C _ W_ _ _ _ → W_.cell? ⟨(ad122.add ((a2).toNat * 2)).block, (ad122.add ((a2).toNat * 2)).off + 1, none⟩ = some (.int .i64 ((rd_T27 l0 a2).f1))) _ (HR0.out _ (by repeat (first | exact HK.out | apply Kept.alloc | apply Kept.drewN | apply Kept.drew)))), ((fun W_ hC_ => (by obtain ⟨ad_, e_, h0_, h1_⟩ := at_T27 hC_ x14_1 (of_eq_true p124) (of_eq_true q124); obtain rfl : _ = ad_ := (by injection e_); exact h0_) : ∀ W_ : World, Kd.C _ W_ _ _ _ → W_.cell? (ad122.add ((x14_1).toNat * 2)) = some (.int .i64 ((rd_T27 l0 x14_1).f0))) _ (HR0.out _ (by repeat (first | exact HK.out | apply Kept.alloc | apply Kept.drewN | apply Kept.drew)))), ((fun W_ hC_ => (by obtain ⟨ad_, e_, h0_, h1_⟩ := at_T27 hC_ x14_1 (of_eq_true p124) (of_eq_true q124); obtain rfl : _ = ad_ := (by injection e_); exact h1_) : ∀ W_ : World, Kd.C _ W_ _ _ _ → W_.cell? ⟨(ad122.add ((x14_1).toNat * 2)).block, (ad122.add ((x14_1).toNat * 2)).off + 1, none⟩ = some (.int .i64 ((rd_T27 l0 x14_1).f1))) _ (HR0.out _ (by repeat (first | exact HK.out | apply Kept.alloc | apply Kept.drewN | apply Kept.drew))))⟩ (fun hHeld => ?_)
            clear hK K
            refine Hd.n_ (some 37) ?_
            refine Hd.p_ HT_ 13 (some 24) #[true, true, true, true, true, true, true, true, true, true, true, true, true, true, false, false, false, false] ?_
            refine Hd.p_ HT_ 14 (some 38) #[true, true, true, true, true, true, true, true, true, true, true, true, true, true, true, false, false, false] ?_
            refine Hd.p_ HT_ 15 (some 39) #[true, true, true, true, true, true, true, true, true, true, true, true, true, true, true, true, false, false] ?_
            refine Hd.p_ HT_ 16 (some 15) #[true, true, true, true, true, true, true, true, true, true, true, true, true, true, true, true, true, false] ?_
            refine Hd.p_ HT_ 17 (some 16) #[true, true, true, true, true, true, true, true, true, true, true, true, true, true, true, true, true, true] ?_
            refine done_ (done_of HT_.out (by kernel_rfl)) ?_
            try go_wp2
            go_roundg k1
            case measure => have := HK1.out; omega
            case rel => exact ⟨(x14_1), (t125), (t126), (wrap64 (x14_1 + 1)), (by first | rfl | (simp; done) | (simp [*]; done)), (by first | rfl | (simp; done) | (simp [*]; done)), (by first | rfl | (simp; done) | (simp [*]; done)), (by first | rfl | (simp; done) | (simp [*]; done)), H', ⟨by have := HK1.out; omega⟩, ⟨by (with_reducible repeat (first | apply Kd.R_alloc | apply Kd.R_drewN | apply Kd.R_drew)); exact HO_4.out⟩, ⟨by repeat (first | (with_reducible first | exact HK.out | apply Kept.alloc | apply Kept.drewN | apply Kept.drew) | exact HK.out)⟩, ⟨Hd.b_⟩⟩
           ·
            rw [if_neg c15] at H
            have c15b0 : decide (x11_1 < 0) = false := decide_eq_false c15
            clear c15
            by_cases c18 : (wrap64 (t125 * x13_1)) > (wrap64 (x12_1 * t126))
            ·
             rw [if_pos c18] at H
             have c18b0 : decide ((wrap64 (x12_1 * t126)) < (wrap64 (t125 * x13_1))) = true := decide_eq_true c18
             clear c18
             have H' := Aside0.mk H
             clear H
             try go_wp2
             replace HO_4 := Aside0.mk (Kd.R_drew HO_4.out)
             replace HK := Aside0.mk (Kept.drew HK.out)
             replace HB := Aside0.mk (below_drew1 HB.out)
             have p122 : 0 ≤ (a1 : Int) := of_decide_eq_true Hd.a_
             have q122 : a1 < (l0.length : Int) := of_decide_eq_true Hd.a_
             obtain ⟨ad122, e122, hx122_0, hx122_1⟩ := at_T27 (Kd.C_kept_now HR0.out HK.out) a1 p122 q122
             have hw122_1 := hx122_1
             have hw122_0 := hx122_0
             cases e122
             replace p122 := eq_true p122
             replace q122 := eq_true q122
             have p123 : 0 ≤ (a2 : Int) := of_decide_eq_true Hd.a_
             have q123 : a2 < (l0.length : Int) := of_decide_eq_true Hd.a_
             obtain ⟨ad123, e123, hx123_0, hx123_1⟩ := at_T27 (Kd.C_kept_now HR0.out HK.out) a2 p123 q123
             have hw123_1 := hx123_1
             have hw123_0 := hx123_0
             obtain rfl : ad122 = ad123 := (by injection e123)
             replace p123 := eq_true p123
             replace q123 := eq_true q123
             have p124 : 0 ≤ (x14_1 : Int) := of_decide_eq_true Hd.a_
             have q124 : x14_1 < (l0.length : Int) := of_decide_eq_true Hd.a_
             obtain ⟨ad124, e124, hx124_0, hx124_1⟩ := at_T27 (Kd.C_kept_now HR0.out HK.out) x14_1 p124 q124
             have hw124_1 := hx124_1
             have hw124_0 := hx124_0
             obtain rfl : ad122 = ad124 := (by injection e124)
             replace p124 := eq_true p124
             replace q124 := eq_true q124
             refine start_ (n := 18) (S := fun w' => w'.cell? (ad122.add ((a1).toNat * 2)) = some (.int .i64 ((rd_T27 l0 a1).f0)) ∧ w'.cell? ⟨(ad122.add ((a1).toNat * 2)).block, (ad122.add ((a1).toNat * 2)).off + 1, none⟩ = some (.int .i64 ((rd_T27 l0 a1).f1)) ∧ w'.cell? (ad122.add ((a2).toNat * 2)) = some (.int .i64 ((rd_T27 l0 a2).f0)) ∧ w'.cell? ⟨(ad122.add ((a2).toNat * 2)).block, (ad122.add ((a2).toNat * 2)).off + 1, none⟩ = some (.int .i64 ((rd_T27 l0 a2).f1)) ∧ w'.cell? (ad122.add ((x14_1).toNat * 2)) = some (.int .i64 ((rd_T27 l0 x14_1).f0)) ∧ w'.cell? ⟨(ad122.add ((x14_1).toNat * 2)).block, (ad122.add ((x14_1).toNat * 2)).off + 1, none⟩ = some (.int .i64 ((rd_T27 l0 x14_1).f1))) (ds := []) #[false, false, false, false, false, false, false, false, false, false, false, false, false, false, false, false, false, false] (by kernel_rfl) rfl rfl ⟨((fun W_ hC_ => (by obtain ⟨ad_, e_, h0_, h1_⟩ := at_T27 hC_ a1 (of_eq_true p122) (of_eq_true q122); obtain rfl : _ = ad_ := (by injection e_); exact h0_) : ∀ W_ : World, Kd.C _ W_ _ _ _ → W_.cell? (ad122.add ((a1).toNat * 2)) = some (.int .i64 ((rd_T27 l0 a1).f0))) _ (HR0.out _ (by repeat (first | exact HK.out | apply Kept.alloc | apply Kept.drewN | apply Kept.drew)))), ((fun W_ hC_ => (by obtain ⟨ad_, e_, h0_, h1_⟩ := at_T27 hC_ a1 (of_eq_true p122) (of_eq_true q122); obtain rfl : _ = ad_ := (by injection e_); exact h1_) : ∀ W_ : World, Kd.C _ W_ _ _ _ → W_.cell? ⟨(ad122.add ((a1).toNat * 2)).block, (ad122.add ((a1).toNat * 2)).off + 1, none⟩ = some (.int .i64 ((rd_T27 l0 a1).f1))) _ (HR0.out _ (by repeat (first | exact HK.out | apply Kept.alloc | apply Kept.drewN | apply Kept.drew)))), ((fun W_ hC_ => (by obtain ⟨ad_, e_, h0_, h1_⟩ := at_T27 hC_ a2 (of_eq_true p123) (of_eq_true q123); obtain rfl : _ = ad_ := (by injection e_); exact h0_) : ∀ W_ : World, Kd.C _ W_ _ _ _ → W_.cell? (ad122.add ((a2).toNat * 2)) = some (.int .i64 ((rd_T27 l0 a2).f0))) _ (HR0.out _ (by repeat (first | exact HK.out | apply Kept.alloc | apply Kept.drewN | apply Kept.drew)))), ((fun W_ hC_ => (by obtain ⟨ad_, e_, h0_, h1_⟩ := at_T27 hC_ a2 (of_eq_true p123) (of_eq_true q123); obtain rfl : _ = ad_ := (by injection e_); exact h1_) : ∀ W_ : World, Kd.C _ W_ _ _ _ → W_.cell? ⟨(ad122.add ((a2).toNat * 2)).block, (ad122.add ((a2).toNat * 2)).off + 1, none⟩ = some (.int .i64 ((rd_T27 l0 a2).f1))) _ (HR0.out _ (by repeat (first | exact HK.out | apply Kept.alloc | apply Kept.drewN | apply Kept.drew)))), ((fun W_ hC_ => (by obtain ⟨ad_, e_, h0_, h1_⟩ := at_T27 hC_ x14_1 (of_eq_true p124) (of_eq_true q124); obtain rfl : _ = ad_ := (by injection e_); exact h0_) : ∀ W_ : World, Kd.C _ W_ _ _ _ → W_.cell? (ad122.add ((x14_1).toNat * 2)) = some (.int .i64 ((rd_T27 l0 x14_1).f0))) _ (HR0.out _ (by repeat (first | exact HK.out | apply Kept.alloc | apply Kept.drewN | apply Kept.drew)))), ((fun W_ hC_ => (by obtain ⟨ad_, e_, h0_, h1_⟩ := at_T27 hC_ x14_1 (of_eq_true p124) (of_eq_true q124); obtain rfl : _ = ad_ := (by injection e_); exact h1_) : ∀ W_ : World, Kd.C _ W_ _ _ _ → W_.cell? ⟨(ad122.add ((x14_1).toNat * 2)).block, (ad122.add ((x14_1).toNat * 2)).off + 1, none⟩ = some (.int .i64 ((rd_T27 l0 x14_1).f1))) _ (HR0.out _ (by repeat (first | exact HK.out | apply Kept.alloc | apply Kept.drewN | apply Kept.drew))))⟩ (fun hHeld => ?_); refine with_tabW spec_l11Between.tab7 spec_l11Between.bits7 (fun HT_ HW_ => ?_)
             generalize wr.drew = w19 at HO_4 HK HB hx122_0 hx122_1 hx123_0 hx123_1 hx124_0 hx124_1 hHeld ⊢
             refine Hd.p_ HT_ 0 (some 25) #[true, false, false, false, false, false, false, false, false, false, false, false, false, false, false, false, false, false] ?_
             refine Hd.p_ HT_ 1 (some 26) #[true, true, false, false, false, false, false, false, false, false, false, false, false, false, false, false, false, false] ?_
             refine Hd.p_ HT_ 2 (some 27) #[true, true, true, false, false, false, false, false, false, false, false, false, false, false, false, false, false, false] ?_
             refine Hd.p_ HT_ 4 (some 29) #[true, true, true, false, true, false, false, false, false, false, false, false, false, false, false, false, false, false] ?_
             refine Hd.p_ HT_ 5 (some 30) #[true, true, true, false, true, true, false, false, false, false, false, false, false, false, false, false, false, false] ?_
             refine Hd.p_ HT_ 6 (some 31) #[true, true, true, false, true, true, true, false, false, false, false, false, false, false, false, false, false, false] ?_
             refine Hd.p_ HT_ 8 (some 33) #[true, true, true, false, true, true, true, false, true, false, false, false, false, false, false, false, false, false] ?_
             refine Hd.p_ HT_ 9 (some 34) #[true, true, true, false, true, true, true, false, true, true, false, false, false, false, false, false, false, false] ?_
             refine Hd.p_ HT_ 10 (some 35) #[true, true, true, false, true, true, true, false, true, true, true, false, false, false, false, false, false, false] ?_
             refine Hd.t_ HT_ HW_ hHeld 3 (some 28) #[true, true, true, true, true, true, true, false, true, true, true, false, false, false, false, false, false, false] ?_
             refine Hd.t_ HT_ HW_ hHeld 7 (some 32) #[true, true, true, true, true, true, true, true, true, true, true, false, false, false, false, false, false, false] ?_
             refine Hd.t_ HT_ HW_ hHeld 11 (some 36) #[true, true, true, true, true, true, true, true, true, true, true, true, false, false, false, false, false, false] ?_
             refine Hd.o_ HT_ 12 (some 37) #[true, true, true, true, true, true, true, true, true, true, true, true, true, false, false, false, false, false] (fun K hK => ?_)
             refine goes_ Try.func103 (by kernel_rfl) rfl #[.agg #[.int .i64 ((rd_T27 l0 a1).f0), .int .i64 ((rd_T27 l0 a1).f1)], .agg #[.int .i64 ((rd_T27 l0 a2).f0), .int .i64 ((rd_T27 l0 a2).f1)], .agg #[.int .i64 ((rd_T27 l0 x14_1).f0), .int .i64 ((rd_T27 l0 x14_1).f1)]] (by rfl) rfl rfl Hd.m_ ?_
             with_reducible refine (spec_l11Far.calls ((rd_T27 l0 a1).f0) ((rd_T27 l0 a1).f1) ((rd_T27 l0 a2).f0) ((rd_T27 l0 a2).f1) ((rd_T27 l0 x14_1).f0) ((rd_T27 l0 x14_1).f1) t125 t126 _ A13.out).mono ?_
             rintro e w20 ⟨rfl, hb⟩
             refine ⟨_, rfl, ?_⟩
             replace HO_4 := Aside0.mk (Kd.R_below (Hd.r_ HO_4) hb)
             replace HK := Aside0.mk (Kept.below (S := (fun k_ => P4_ k_)) (by repeat (first | (with_reducible first | exact HK.out | apply Kept.alloc | apply Kept.drewN | apply Kept.drew) | exact HK.out)) hb)
             replace HB := Aside0.mk (below_step Hd.b_ hb)
             (try clear hb)
             (try clear hb2)
             (try clear hk)
             (try clear hi)
             refine hK.out _ _ ⟨((fun W_ hC_ => (by obtain ⟨ad_, e_, h0_, h1_⟩ := at_T27 hC_ a1 (of_eq_true p122) (of_eq_true q122); obtain rfl : _ = ad_ := (by injection e_); exact h0_) : ∀ W_ : World, Kd.C _ W_ _ _ _ → W_.cell? (ad122.add ((a1).toNat * 2)) = some (.int .i64 ((rd_T27 l0 a1).f0))) _ (HR0.out _ (by repeat (first | exact HK.out | apply Kept.alloc | apply Kept.drewN | apply Kept.drew)))), ((fun W_ hC_ => (by obtain ⟨ad_, e_, h0_, h1_⟩ := at_T27 hC_ a1 (of_eq_true p122) (of_eq_true q122); obtain rfl : _ = ad_ := (by injection e_); exact h1_) : ∀ W_ : World, Kd.C _ W_ _ _ _ → W_.cell? ⟨(ad122.add ((a1).toNat * 2)).block, (ad122.add ((a1).toNat * 2)).off + 1, none⟩ = some (.int .i64 ((rd_T27 l0 a1).f1))) _ (HR0.out _ (by repeat (first | exact HK.out | apply Kept.alloc | apply Kept.drewN | apply Kept.drew)))), ((fun W_ hC_ => (by obtain ⟨ad_, e_, h0_, h1_⟩ := at_T27 hC_ a2 (of_eq_true p123) (of_eq_true q123); obtain rfl : _ = ad_ := (by injection e_); exact h0_) : ∀ W_ : World, Kd.C _ W_ _ _ _ → W_.cell? (ad122.add ((a2).toNat * 2)) = some (.int .i64 ((rd_T27 l0 a2).f0))) _ (HR0.out _ (by repeat (first | exact HK.out | apply Kept.alloc | apply Kept.drewN | apply Kept.drew)))), ((fun W_ hC_ => (by obtain ⟨ad_, e_, h0_, h1_⟩ := at_T27 hC_ a2 (of_eq_true p123) (of_eq_true q123); obtain rfl : _ = ad_ := (by injection e_); exact h1_) : ∀ W_ : World, Kd.C _ W_ _ _ _ → W_.cell? ⟨(ad122.add ((a2).toNat * 2)).block, (ad122.add ((a2).toNat * 2)).off + 1, none⟩ = some (.int .i64 ((rd_T27 l0 a2).f1))) _ (HR0.out _ (by repeat (first | exact HK.out | apply Kept.alloc | apply Kept.drewN | apply Kept.drew)))), ((fun W_ hC_ => (by obtain ⟨ad_, e_, h0_, h1_⟩ := at_T27 hC_ x14_1 (of_eq_true p124) (of_eq_true q124); obtain rfl : _ = ad_ := (by injection e_); exact h0_) : ∀ W_ : World, Kd.C _ W_ _ _ _ → W_.cell? (ad122.add ((x14_1).toNat * 2)) = some (.int .i64 ((rd_T27 l0 x14_1).f0))) _ (HR0.out _ (by repeat (first | exact HK.out | apply Kept.alloc | apply Kept.drewN | apply Kept.drew)))), ((fun W_ hC_ => (by obtain ⟨ad_, e_, h0_, h1_⟩ := at_T27 hC_ x14_1 (of_eq_true p124) (of_eq_true q124); obtain rfl : _ = ad_ := (by injection e_); exact h1_) : ∀ W_ : World, Kd.C _ W_ _ _ _ → W_.cell? ⟨(ad122.add ((x14_1).toNat * 2)).block, (ad122.add ((x14_1).toNat * 2)).off + 1, none⟩ = some (.int .i64 ((rd_T27 l0 x14_1).f1))) _ (HR0.out _ (by repeat (first | exact HK.out | apply Kept.alloc | apply Kept.drewN | apply Kept.drew))))⟩ (fun hHeld => ?_)
             clear hK K
             refine Hd.n_ (some 37) ?_
             refine Hd.p_ HT_ 13 (some 24) #[true, true, true, true, true, true, true, true, true, true, true, true, true, true, false, false, false, false] ?_
             refine Hd.p_ HT_ 14 (some 38) #[true, true, true, true, true, true, true, true, true, true, true, true, true, true, true, false, false, false] ?_
             refine Hd.p_ HT_ 15 (some 39) #[true, true, true, true, true, true, true, true, true, true, true, true, true, true, true, true, false, false] ?_
             refine Hd.p_ HT_ 16 (some 15) #[true, true, true, true, true, true, true, true, true, true, true, true, true, true, true, true, true, false] ?_
             refine Hd.p_ HT_ 17 (some 16) #[true, true, true, true, true, true, true, true, true, true, true, true, true, true, true, true, true, true] ?_
             refine done_ (done_of HT_.out (by kernel_rfl)) ?_
             try go_wp2
             go_roundg k1
             case measure => have := HK1.out; omega
             case rel => exact ⟨(x14_1), (t125), (t126), (wrap64 (x14_1 + 1)), (by first | rfl | (simp; done) | (simp [*]; done)), (by first | rfl | (simp; done) | (simp [*]; done)), (by first | rfl | (simp; done) | (simp [*]; done)), (by first | rfl | (simp; done) | (simp [*]; done)), H', ⟨by have := HK1.out; omega⟩, ⟨by (with_reducible repeat (first | apply Kd.R_alloc | apply Kd.R_drewN | apply Kd.R_drew)); exact HO_4.out⟩, ⟨by repeat (first | (with_reducible first | exact HK.out | apply Kept.alloc | apply Kept.drewN | apply Kept.drew) | exact HK.out)⟩, ⟨Hd.b_⟩⟩
            ·
             rw [if_neg c18] at H
             have c18b0 : decide ((wrap64 (x12_1 * t126)) < (wrap64 (t125 * x13_1))) = false := decide_eq_false c18
             clear c18
             have H' := Aside0.mk H
             clear H
             try go_wp2
             replace HO_4 := Aside0.mk (Kd.R_drew HO_4.out)
             replace HK := Aside0.mk (Kept.drew HK.out)
             replace HB := Aside0.mk (below_drew1 HB.out)
             have p122 : 0 ≤ (a1 : Int) := of_decide_eq_true Hd.a_
             have q122 : a1 < (l0.length : Int) := of_decide_eq_true Hd.a_
             obtain ⟨ad122, e122, hx122_0, hx122_1⟩ := at_T27 (Kd.C_kept_now HR0.out HK.out) a1 p122 q122
             have hw122_1 := hx122_1
             have hw122_0 := hx122_0
             cases e122
             replace p122 := eq_true p122
             replace q122 := eq_true q122
             have p123 : 0 ≤ (a2 : Int) := of_decide_eq_true Hd.a_
             have q123 : a2 < (l0.length : Int) := of_decide_eq_true Hd.a_
             obtain ⟨ad123, e123, hx123_0, hx123_1⟩ := at_T27 (Kd.C_kept_now HR0.out HK.out) a2 p123 q123
             have hw123_1 := hx123_1
             have hw123_0 := hx123_0
             obtain rfl : ad122 = ad123 := (by injection e123)
             replace p123 := eq_true p123
             replace q123 := eq_true q123
             have p124 : 0 ≤ (x14_1 : Int) := of_decide_eq_true Hd.a_
             have q124 : x14_1 < (l0.length : Int) := of_decide_eq_true Hd.a_
             obtain ⟨ad124, e124, hx124_0, hx124_1⟩ := at_T27 (Kd.C_kept_now HR0.out HK.out) x14_1 p124 q124
             have hw124_1 := hx124_1
             have hw124_0 := hx124_0
             obtain rfl : ad122 = ad124 := (by injection e124)
             replace p124 := eq_true p124
             replace q124 := eq_true q124
             refine start_ (n := 18) (S := fun w' => w'.cell? (ad122.add ((a1).toNat * 2)) = some (.int .i64 ((rd_T27 l0 a1).f0)) ∧ w'.cell? ⟨(ad122.add ((a1).toNat * 2)).block, (ad122.add ((a1).toNat * 2)).off + 1, none⟩ = some (.int .i64 ((rd_T27 l0 a1).f1)) ∧ w'.cell? (ad122.add ((a2).toNat * 2)) = some (.int .i64 ((rd_T27 l0 a2).f0)) ∧ w'.cell? ⟨(ad122.add ((a2).toNat * 2)).block, (ad122.add ((a2).toNat * 2)).off + 1, none⟩ = some (.int .i64 ((rd_T27 l0 a2).f1)) ∧ w'.cell? (ad122.add ((x14_1).toNat * 2)) = some (.int .i64 ((rd_T27 l0 x14_1).f0)) ∧ w'.cell? ⟨(ad122.add ((x14_1).toNat * 2)).block, (ad122.add ((x14_1).toNat * 2)).off + 1, none⟩ = some (.int .i64 ((rd_T27 l0 x14_1).f1))) (ds := []) #[false, false, false, false, false, false, false, false, false, false, false, false, false, false, false, false, false, false] (by kernel_rfl) rfl rfl ⟨((fun W_ hC_ => (by obtain ⟨ad_, e_, h0_, h1_⟩ := at_T27 hC_ a1 (of_eq_true p122) (of_eq_true q122); obtain rfl : _ = ad_ := (by injection e_); exact h0_) : ∀ W_ : World, Kd.C _ W_ _ _ _ → W_.cell? (ad122.add ((a1).toNat * 2)) = some (.int .i64 ((rd_T27 l0 a1).f0))) _ (HR0.out _ (by repeat (first | exact HK.out | apply Kept.alloc | apply Kept.drewN | apply Kept.drew)))), ((fun W_ hC_ => (by obtain ⟨ad_, e_, h0_, h1_⟩ := at_T27 hC_ a1 (of_eq_true p122) (of_eq_true q122); obtain rfl : _ = ad_ := (by injection e_); exact h1_) : ∀ W_ : World, Kd.C _ W_ _ _ _ → W_.cell? ⟨(ad122.add ((a1).toNat * 2)).block, (ad122.add ((a1).toNat * 2)).off + 1, none⟩ = some (.int .i64 ((rd_T27 l0 a1).f1))) _ (HR0.out _ (by repeat (first | exact HK.out | apply Kept.alloc | apply Kept.drewN | apply Kept.drew)))), ((fun W_ hC_ => (by obtain ⟨ad_, e_, h0_, h1_⟩ := at_T27 hC_ a2 (of_eq_true p123) (of_eq_true q123); obtain rfl : _ = ad_ := (by injection e_); exact h0_) : ∀ W_ : World, Kd.C _ W_ _ _ _ → W_.cell? (ad122.add ((a2).toNat * 2)) = some (.int .i64 ((rd_T27 l0 a2).f0))) _ (HR0.out _ (by repeat (first | exact HK.out | apply Kept.alloc | apply Kept.drewN | apply Kept.drew)))), ((fun W_ hC_ => (by obtain ⟨ad_, e_, h0_, h1_⟩ := at_T27 hC_ a2 (of_eq_true p123) (of_eq_true q123); obtain rfl : _ = ad_ := (by injection e_); exact h1_) : ∀ W_ : World, Kd.C _ W_ _ _ _ → W_.cell? ⟨(ad122.add ((a2).toNat * 2)).block, (ad122.add ((a2).toNat * 2)).off + 1, none⟩ = some (.int .i64 ((rd_T27 l0 a2).f1))) _ (HR0.out _ (by repeat (first | exact HK.out | apply Kept.alloc | apply Kept.drewN | apply Kept.drew)))), ((fun W_ hC_ => (by obtain ⟨ad_, e_, h0_, h1_⟩ := at_T27 hC_ x14_1 (of_eq_true p124) (of_eq_true q124); obtain rfl : _ = ad_ := (by injection e_); exact h0_) : ∀ W_ : World, Kd.C _ W_ _ _ _ → W_.cell? (ad122.add ((x14_1).toNat * 2)) = some (.int .i64 ((rd_T27 l0 x14_1).f0))) _ (HR0.out _ (by repeat (first | exact HK.out | apply Kept.alloc | apply Kept.drewN | apply Kept.drew)))), ((fun W_ hC_ => (by obtain ⟨ad_, e_, h0_, h1_⟩ := at_T27 hC_ x14_1 (of_eq_true p124) (of_eq_true q124); obtain rfl : _ = ad_ := (by injection e_); exact h1_) : ∀ W_ : World, Kd.C _ W_ _ _ _ → W_.cell? ⟨(ad122.add ((x14_1).toNat * 2)).block, (ad122.add ((x14_1).toNat * 2)).off + 1, none⟩ = some (.int .i64 ((rd_T27 l0 x14_1).f1))) _ (HR0.out _ (by repeat (first | exact HK.out | apply Kept.alloc | apply Kept.drewN | apply Kept.drew))))⟩ (fun hHeld => ?_); refine with_tabW spec_l11Between.tab7 spec_l11Between.bits7 (fun HT_ HW_ => ?_)
             generalize wr.drew = w21 at HO_4 HK HB hx122_0 hx122_1 hx123_0 hx123_1 hx124_0 hx124_1 hHeld ⊢
             refine Hd.p_ HT_ 0 (some 25) #[true, false, false, false, false, false, false, false, false, false, false, false, false, false, false, false, false, false] ?_
             refine Hd.p_ HT_ 1 (some 26) #[true, true, false, false, false, false, false, false, false, false, false, false, false, false, false, false, false, false] ?_
             refine Hd.p_ HT_ 2 (some 27) #[true, true, true, false, false, false, false, false, false, false, false, false, false, false, false, false, false, false] ?_
             refine Hd.p_ HT_ 4 (some 29) #[true, true, true, false, true, false, false, false, false, false, false, false, false, false, false, false, false, false] ?_
             refine Hd.p_ HT_ 5 (some 30) #[true, true, true, false, true, true, false, false, false, false, false, false, false, false, false, false, false, false] ?_
             refine Hd.p_ HT_ 6 (some 31) #[true, true, true, false, true, true, true, false, false, false, false, false, false, false, false, false, false, false] ?_
             refine Hd.p_ HT_ 8 (some 33) #[true, true, true, false, true, true, true, false, true, false, false, false, false, false, false, false, false, false] ?_
             refine Hd.p_ HT_ 9 (some 34) #[true, true, true, false, true, true, true, false, true, true, false, false, false, false, false, false, false, false] ?_
             refine Hd.p_ HT_ 10 (some 35) #[true, true, true, false, true, true, true, false, true, true, true, false, false, false, false, false, false, false] ?_
             refine Hd.t_ HT_ HW_ hHeld 3 (some 28) #[true, true, true, true, true, true, true, false, true, true, true, false, false, false, false, false, false, false] ?_
             refine Hd.t_ HT_ HW_ hHeld 7 (some 32) #[true, true, true, true, true, true, true, true, true, true, true, false, false, false, false, false, false, false] ?_
             refine Hd.t_ HT_ HW_ hHeld 11 (some 36) #[true, true, true, true, true, true, true, true, true, true, true, true, false, false, false, false, false, false] ?_
             refine Hd.o_ HT_ 12 (some 37) #[true, true, true, true, true, true, true, true, true, true, true, true, true, false, false, false, false, false] (fun K hK => ?_)
             refine goes_ Try.func103 (by kernel_rfl) rfl #[.agg #[.int .i64 ((rd_T27 l0 a1).f0), .int .i64 ((rd_T27 l0 a1).f1)], .agg #[.int .i64 ((rd_T27 l0 a2).f0), .int .i64 ((rd_T27 l0 a2).f1)], .agg #[.int .i64 ((rd_T27 l0 x14_1).f0), .int .i64 ((rd_T27 l0 x14_1).f1)]] (by rfl) rfl rfl Hd.m_ ?_
             with_reducible refine (spec_l11Far.calls ((rd_T27 l0 a1).f0) ((rd_T27 l0 a1).f1) ((rd_T27 l0 a2).f0) ((rd_T27 l0 a2).f1) ((rd_T27 l0 x14_1).f0) ((rd_T27 l0 x14_1).f1) t125 t126 _ A13.out).mono ?_
             rintro e w22 ⟨rfl, hb⟩
             refine ⟨_, rfl, ?_⟩
             replace HO_4 := Aside0.mk (Kd.R_below (Hd.r_ HO_4) hb)
             replace HK := Aside0.mk (Kept.below (S := (fun k_ => P4_ k_)) (by repeat (first | (with_reducible first | exact HK.out | apply Kept.alloc | apply Kept.drewN | apply Kept.drew) | exact HK.out)) hb)
             replace HB := Aside0.mk (below_step Hd.b_ hb)
             (try clear hb)
             (try clear hb2)
             (try clear hk)
             (try clear hi)
             refine hK.out _ _ ⟨((fun W_ hC_ => (by obtain ⟨ad_, e_, h0_, h1_⟩ := at_T27 hC_ a1 (of_eq_true p122) (of_eq_true q122); obtain rfl : _ = ad_ := (by injection e_); exact h0_) : ∀ W_ : World, Kd.C _ W_ _ _ _ → W_.cell? (ad122.add ((a1).toNat * 2)) = some (.int .i64 ((rd_T27 l0 a1).f0))) _ (HR0.out _ (by repeat (first | exact HK.out | apply Kept.alloc | apply Kept.drewN | apply Kept.drew)))), ((fun W_ hC_ => (by obtain ⟨ad_, e_, h0_, h1_⟩ := at_T27 hC_ a1 (of_eq_true p122) (of_eq_true q122); obtain rfl : _ = ad_ := (by injection e_); exact h1_) : ∀ W_ : World, Kd.C _ W_ _ _ _ → W_.cell? ⟨(ad122.add ((a1).toNat * 2)).block, (ad122.add ((a1).toNat * 2)).off + 1, none⟩ = some (.int .i64 ((rd_T27 l0 a1).f1))) _ (HR0.out _ (by repeat (first | exact HK.out | apply Kept.alloc | apply Kept.drewN | apply Kept.drew)))), ((fun W_ hC_ => (by obtain ⟨ad_, e_, h0_, h1_⟩ := at_T27 hC_ a2 (of_eq_true p123) (of_eq_true q123); obtain rfl : _ = ad_ := (by injection e_); exact h0_) : ∀ W_ : World, Kd.C _ W_ _ _ _ → W_.cell? (ad122.add ((a2).toNat * 2)) = some (.int .i64 ((rd_T27 l0 a2).f0))) _ (HR0.out _ (by repeat (first | exact HK.out | apply Kept.alloc | apply Kept.drewN | apply Kept.drew)))), ((fun W_ hC_ => (by obtain ⟨ad_, e_, h0_, h1_⟩ := at_T27 hC_ a2 (of_eq_true p123) (of_eq_true q123); obtain rfl : _ = ad_ := (by injection e_); exact h1_) : ∀ W_ : World, Kd.C _ W_ _ _ _ → W_.cell? ⟨(ad122.add ((a2).toNat * 2)).block, (ad122.add ((a2).toNat * 2)).off + 1, none⟩ = some (.int .i64 ((rd_T27 l0 a2).f1))) _ (HR0.out _ (by repeat (first | exact HK.out | apply Kept.alloc | apply Kept.drewN | apply Kept.drew)))), ((fun W_ hC_ => (by obtain ⟨ad_, e_, h0_, h1_⟩ := at_T27 hC_ x14_1 (of_eq_true p124) (of_eq_true q124); obtain rfl : _ = ad_ := (by injection e_); exact h0_) : ∀ W_ : World, Kd.C _ W_ _ _ _ → W_.cell? (ad122.add ((x14_1).toNat * 2)) = some (.int .i64 ((rd_T27 l0 x14_1).f0))) _ (HR0.out _ (by repeat (first | exact HK.out | apply Kept.alloc | apply Kept.drewN | apply Kept.drew)))), ((fun W_ hC_ => (by obtain ⟨ad_, e_, h0_, h1_⟩ := at_T27 hC_ x14_1 (of_eq_true p124) (of_eq_true q124); obtain rfl : _ = ad_ := (by injection e_); exact h1_) : ∀ W_ : World, Kd.C _ W_ _ _ _ → W_.cell? ⟨(ad122.add ((x14_1).toNat * 2)).block, (ad122.add ((x14_1).toNat * 2)).off + 1, none⟩ = some (.int .i64 ((rd_T27 l0 x14_1).f1))) _ (HR0.out _ (by repeat (first | exact HK.out | apply Kept.alloc | apply Kept.drewN | apply Kept.drew))))⟩ (fun hHeld => ?_)
             clear hK K
             refine Hd.n_ (some 37) ?_
             refine Hd.p_ HT_ 13 (some 24) #[true, true, true, true, true, true, true, true, true, true, true, true, true, true, false, false, false, false] ?_
             refine Hd.p_ HT_ 14 (some 38) #[true, true, true, true, true, true, true, true, true, true, true, true, true, true, true, false, false, false] ?_
             refine Hd.p_ HT_ 15 (some 39) #[true, true, true, true, true, true, true, true, true, true, true, true, true, true, true, true, false, false] ?_
             refine Hd.p_ HT_ 16 (some 15) #[true, true, true, true, true, true, true, true, true, true, true, true, true, true, true, true, true, false] ?_
             refine Hd.p_ HT_ 17 (some 16) #[true, true, true, true, true, true, true, true, true, true, true, true, true, true, true, true, true, true] ?_
             refine done_ (done_of HT_.out (by kernel_rfl)) ?_
             try go_wp2
             go_roundg k1
             case measure => have := HK1.out; omega
             case rel => exact ⟨(x11_1), (x12_1), (x13_1), (wrap64 (x14_1 + 1)), (by first | rfl | (simp; done) | (simp [*]; done)), (by first | rfl | (simp; done) | (simp [*]; done)), (by first | rfl | (simp; done) | (simp [*]; done)), (by first | rfl | (simp; done) | (simp [*]; done)), H', ⟨by have := HK1.out; omega⟩, ⟨by (with_reducible repeat (first | apply Kd.R_alloc | apply Kd.R_drewN | apply Kd.R_drew)); exact HO_4.out⟩, ⟨by repeat (first | (with_reducible first | exact HK.out | apply Kept.alloc | apply Kept.drewN | apply Kept.drew) | exact HK.out)⟩, ⟨Hd.b_⟩⟩
          ·
           rw [if_neg c14] at H
           have c14b0 : decide ((wrap64 ((wrap64 (a3 * a3)) * t126)) < t125) = false := decide_eq_false c14
           clear c14
           have H' := Aside0.mk H
           clear H
           try go_wp2
           replace HO_4 := Aside0.mk (Kd.R_drew HO_4.out)
           replace HK := Aside0.mk (Kept.drew HK.out)
           replace HB := Aside0.mk (below_drew1 HB.out)
           have p122 : 0 ≤ (a1 : Int) := of_decide_eq_true Hd.a_
           have q122 : a1 < (l0.length : Int) := of_decide_eq_true Hd.a_
           obtain ⟨ad122, e122, hx122_0, hx122_1⟩ := at_T27 (Kd.C_kept_now HR0.out HK.out) a1 p122 q122
           have hw122_1 := hx122_1
           have hw122_0 := hx122_0
           cases e122
           replace p122 := eq_true p122
           replace q122 := eq_true q122
           have p123 : 0 ≤ (a2 : Int) := of_decide_eq_true Hd.a_
           have q123 : a2 < (l0.length : Int) := of_decide_eq_true Hd.a_
           obtain ⟨ad123, e123, hx123_0, hx123_1⟩ := at_T27 (Kd.C_kept_now HR0.out HK.out) a2 p123 q123
           have hw123_1 := hx123_1
           have hw123_0 := hx123_0
           obtain rfl : ad122 = ad123 := (by injection e123)
           replace p123 := eq_true p123
           replace q123 := eq_true q123
           have p124 : 0 ≤ (x14_1 : Int) := of_decide_eq_true Hd.a_
           have q124 : x14_1 < (l0.length : Int) := of_decide_eq_true Hd.a_
           obtain ⟨ad124, e124, hx124_0, hx124_1⟩ := at_T27 (Kd.C_kept_now HR0.out HK.out) x14_1 p124 q124
           have hw124_1 := hx124_1
           have hw124_0 := hx124_0
           obtain rfl : ad122 = ad124 := (by injection e124)
           replace p124 := eq_true p124
           replace q124 := eq_true q124
           refine start_ (n := 18) (S := fun w' => w'.cell? (ad122.add ((a1).toNat * 2)) = some (.int .i64 ((rd_T27 l0 a1).f0)) ∧ w'.cell? ⟨(ad122.add ((a1).toNat * 2)).block, (ad122.add ((a1).toNat * 2)).off + 1, none⟩ = some (.int .i64 ((rd_T27 l0 a1).f1)) ∧ w'.cell? (ad122.add ((a2).toNat * 2)) = some (.int .i64 ((rd_T27 l0 a2).f0)) ∧ w'.cell? ⟨(ad122.add ((a2).toNat * 2)).block, (ad122.add ((a2).toNat * 2)).off + 1, none⟩ = some (.int .i64 ((rd_T27 l0 a2).f1)) ∧ w'.cell? (ad122.add ((x14_1).toNat * 2)) = some (.int .i64 ((rd_T27 l0 x14_1).f0)) ∧ w'.cell? ⟨(ad122.add ((x14_1).toNat * 2)).block, (ad122.add ((x14_1).toNat * 2)).off + 1, none⟩ = some (.int .i64 ((rd_T27 l0 x14_1).f1))) (ds := []) #[false, false, false, false, false, false, false, false, false, false, false, false, false, false, false, false, false, false] (by kernel_rfl) rfl rfl ⟨((fun W_ hC_ => (by obtain ⟨ad_, e_, h0_, h1_⟩ := at_T27 hC_ a1 (of_eq_true p122) (of_eq_true q122); obtain rfl : _ = ad_ := (by injection e_); exact h0_) : ∀ W_ : World, Kd.C _ W_ _ _ _ → W_.cell? (ad122.add ((a1).toNat * 2)) = some (.int .i64 ((rd_T27 l0 a1).f0))) _ (HR0.out _ (by repeat (first | exact HK.out | apply Kept.alloc | apply Kept.drewN | apply Kept.drew)))), ((fun W_ hC_ => (by obtain ⟨ad_, e_, h0_, h1_⟩ := at_T27 hC_ a1 (of_eq_true p122) (of_eq_true q122); obtain rfl : _ = ad_ := (by injection e_); exact h1_) : ∀ W_ : World, Kd.C _ W_ _ _ _ → W_.cell? ⟨(ad122.add ((a1).toNat * 2)).block, (ad122.add ((a1).toNat * 2)).off + 1, none⟩ = some (.int .i64 ((rd_T27 l0 a1).f1))) _ (HR0.out _ (by repeat (first | exact HK.out | apply Kept.alloc | apply Kept.drewN | apply Kept.drew)))), ((fun W_ hC_ => (by obtain ⟨ad_, e_, h0_, h1_⟩ := at_T27 hC_ a2 (of_eq_true p123) (of_eq_true q123); obtain rfl : _ = ad_ := (by injection e_); exact h0_) : ∀ W_ : World, Kd.C _ W_ _ _ _ → W_.cell? (ad122.add ((a2).toNat * 2)) = some (.int .i64 ((rd_T27 l0 a2).f0))) _ (HR0.out _ (by repeat (first | exact HK.out | apply Kept.alloc | apply Kept.drewN | apply Kept.drew)))), ((fun W_ hC_ => (by obtain ⟨ad_, e_, h0_, h1_⟩ := at_T27 hC_ a2 (of_eq_true p123) (of_eq_true q123); obtain rfl : _ = ad_ := (by injection e_); exact h1_) : ∀ W_ : World, Kd.C _ W_ _ _ _ → W_.cell? ⟨(ad122.add ((a2).toNat * 2)).block, (ad122.add ((a2).toNat * 2)).off + 1, none⟩ = some (.int .i64 ((rd_T27 l0 a2).f1))) _ (HR0.out _ (by repeat (first | exact HK.out | apply Kept.alloc | apply Kept.drewN | apply Kept.drew)))), ((fun W_ hC_ => (by obtain ⟨ad_, e_, h0_, h1_⟩ := at_T27 hC_ x14_1 (of_eq_true p124) (of_eq_true q124); obtain rfl : _ = ad_ := (by injection e_); exact h0_) : ∀ W_ : World, Kd.C _ W_ _ _ _ → W_.cell? (ad122.add ((x14_1).toNat * 2)) = some (.int .i64 ((rd_T27 l0 x14_1).f0))) _ (HR0.out _ (by repeat (first | exact HK.out | apply Kept.alloc | apply Kept.drewN | apply Kept.drew)))), ((fun W_ hC_ => (by obtain ⟨ad_, e_, h0_, h1_⟩ := at_T27 hC_ x14_1 (of_eq_true p124) (of_eq_true q124); obtain rfl : _ = ad_ := (by injection e_); exact h1_) : ∀ W_ : World, Kd.C _ W_ _ _ _ → W_.cell? ⟨(ad122.add ((x14_1).toNat * 2)).block, (ad122.add ((x14_1).toNat * 2)).off + 1, none⟩ = some (.int .i64 ((rd_T27 l0 x14_1).f1))) _ (HR0.out _ (by repeat (first | exact HK.out | apply Kept.alloc | apply Kept.drewN | apply Kept.drew))))⟩ (fun hHeld => ?_); refine with_tabW spec_l11Between.tab7 spec_l11Between.bits7 (fun HT_ HW_ => ?_)
           generalize wr.drew = w23 at HO_4 HK HB hx122_0 hx122_1 hx123_0 hx123_1 hx124_0 hx124_1 hHeld ⊢
           refine Hd.p_ HT_ 0 (some 25) #[true, false, false, false, false, false, false, false, false, false, false, false, false, false, false, false, false, false] ?_
           refine Hd.p_ HT_ 1 (some 26) #[true, true, false, false, false, false, false, false, false, false, false, false, false, false, false, false, false, false] ?_
           refine Hd.p_ HT_ 2 (some 27) #[true, true, true, false, false, false, false, false, false, false, false, false, false, false, false, false, false, false] ?_
           refine Hd.p_ HT_ 4 (some 29) #[true, true, true, false, true, false, false, false, false, false, false, false, false, false, false, false, false, false] ?_
           refine Hd.p_ HT_ 5 (some 30) #[true, true, true, false, true, true, false, false, false, false, false, false, false, false, false, false, false, false] ?_
           refine Hd.p_ HT_ 6 (some 31) #[true, true, true, false, true, true, true, false, false, false, false, false, false, false, false, false, false, false] ?_
           refine Hd.p_ HT_ 8 (some 33) #[true, true, true, false, true, true, true, false, true, false, false, false, false, false, false, false, false, false] ?_
           refine Hd.p_ HT_ 9 (some 34) #[true, true, true, false, true, true, true, false, true, true, false, false, false, false, false, false, false, false] ?_
           refine Hd.p_ HT_ 10 (some 35) #[true, true, true, false, true, true, true, false, true, true, true, false, false, false, false, false, false, false] ?_
           refine Hd.t_ HT_ HW_ hHeld 3 (some 28) #[true, true, true, true, true, true, true, false, true, true, true, false, false, false, false, false, false, false] ?_
           refine Hd.t_ HT_ HW_ hHeld 7 (some 32) #[true, true, true, true, true, true, true, true, true, true, true, false, false, false, false, false, false, false] ?_
           refine Hd.t_ HT_ HW_ hHeld 11 (some 36) #[true, true, true, true, true, true, true, true, true, true, true, true, false, false, false, false, false, false] ?_
           refine Hd.o_ HT_ 12 (some 37) #[true, true, true, true, true, true, true, true, true, true, true, true, true, false, false, false, false, false] (fun K hK => ?_)
           refine goes_ Try.func103 (by kernel_rfl) rfl #[.agg #[.int .i64 ((rd_T27 l0 a1).f0), .int .i64 ((rd_T27 l0 a1).f1)], .agg #[.int .i64 ((rd_T27 l0 a2).f0), .int .i64 ((rd_T27 l0 a2).f1)], .agg #[.int .i64 ((rd_T27 l0 x14_1).f0), .int .i64 ((rd_T27 l0 x14_1).f1)]] (by rfl) rfl rfl Hd.m_ ?_
           with_reducible refine (spec_l11Far.calls ((rd_T27 l0 a1).f0) ((rd_T27 l0 a1).f1) ((rd_T27 l0 a2).f0) ((rd_T27 l0 a2).f1) ((rd_T27 l0 x14_1).f0) ((rd_T27 l0 x14_1).f1) t125 t126 _ A13.out).mono ?_
           rintro e w24 ⟨rfl, hb⟩
           refine ⟨_, rfl, ?_⟩
           replace HO_4 := Aside0.mk (Kd.R_below (Hd.r_ HO_4) hb)
           replace HK := Aside0.mk (Kept.below (S := (fun k_ => P4_ k_)) (by repeat (first | (with_reducible first | exact HK.out | apply Kept.alloc | apply Kept.drewN | apply Kept.drew) | exact HK.out)) hb)
           replace HB := Aside0.mk (below_step Hd.b_ hb)
           (try clear hb)
           (try clear hb2)
           (try clear hk)
           (try clear hi)
           refine hK.out _ _ ⟨((fun W_ hC_ => (by obtain ⟨ad_, e_, h0_, h1_⟩ := at_T27 hC_ a1 (of_eq_true p122) (of_eq_true q122); obtain rfl : _ = ad_ := (by injection e_); exact h0_) : ∀ W_ : World, Kd.C _ W_ _ _ _ → W_.cell? (ad122.add ((a1).toNat * 2)) = some (.int .i64 ((rd_T27 l0 a1).f0))) _ (HR0.out _ (by repeat (first | exact HK.out | apply Kept.alloc | apply Kept.drewN | apply Kept.drew)))), ((fun W_ hC_ => (by obtain ⟨ad_, e_, h0_, h1_⟩ := at_T27 hC_ a1 (of_eq_true p122) (of_eq_true q122); obtain rfl : _ = ad_ := (by injection e_); exact h1_) : ∀ W_ : World, Kd.C _ W_ _ _ _ → W_.cell? ⟨(ad122.add ((a1).toNat * 2)).block, (ad122.add ((a1).toNat * 2)).off + 1, none⟩ = some (.int .i64 ((rd_T27 l0 a1).f1))) _ (HR0.out _ (by repeat (first | exact HK.out | apply Kept.alloc | apply Kept.drewN | apply Kept.drew)))), ((fun W_ hC_ => (by obtain ⟨ad_, e_, h0_, h1_⟩ := at_T27 hC_ a2 (of_eq_true p123) (of_eq_true q123); obtain rfl : _ = ad_ := (by injection e_); exact h0_) : ∀ W_ : World, Kd.C _ W_ _ _ _ → W_.cell? (ad122.add ((a2).toNat * 2)) = some (.int .i64 ((rd_T27 l0 a2).f0))) _ (HR0.out _ (by repeat (first | exact HK.out | apply Kept.alloc | apply Kept.drewN | apply Kept.drew)))), ((fun W_ hC_ => (by obtain ⟨ad_, e_, h0_, h1_⟩ := at_T27 hC_ a2 (of_eq_true p123) (of_eq_true q123); obtain rfl : _ = ad_ := (by injection e_); exact h1_) : ∀ W_ : World, Kd.C _ W_ _ _ _ → W_.cell? ⟨(ad122.add ((a2).toNat * 2)).block, (ad122.add ((a2).toNat * 2)).off + 1, none⟩ = some (.int .i64 ((rd_T27 l0 a2).f1))) _ (HR0.out _ (by repeat (first | exact HK.out | apply Kept.alloc | apply Kept.drewN | apply Kept.drew)))), ((fun W_ hC_ => (by obtain ⟨ad_, e_, h0_, h1_⟩ := at_T27 hC_ x14_1 (of_eq_true p124) (of_eq_true q124); obtain rfl : _ = ad_ := (by injection e_); exact h0_) : ∀ W_ : World, Kd.C _ W_ _ _ _ → W_.cell? (ad122.add ((x14_1).toNat * 2)) = some (.int .i64 ((rd_T27 l0 x14_1).f0))) _ (HR0.out _ (by repeat (first | exact HK.out | apply Kept.alloc | apply Kept.drewN | apply Kept.drew)))), ((fun W_ hC_ => (by obtain ⟨ad_, e_, h0_, h1_⟩ := at_T27 hC_ x14_1 (of_eq_true p124) (of_eq_true q124); obtain rfl : _ = ad_ := (by injection e_); exact h1_) : ∀ W_ : World, Kd.C _ W_ _ _ _ → W_.cell? ⟨(ad122.add ((x14_1).toNat * 2)).block, (ad122.add ((x14_1).toNat * 2)).off + 1, none⟩ = some (.int .i64 ((rd_T27 l0 x14_1).f1))) _ (HR0.out _ (by repeat (first | exact HK.out | apply Kept.alloc | apply Kept.drewN | apply Kept.drew))))⟩ (fun hHeld => ?_)
           clear hK K
           refine Hd.n_ (some 37) ?_
           refine Hd.p_ HT_ 13 (some 24) #[true, true, true, true, true, true, true, true, true, true, true, true, true, true, false, false, false, false] ?_
           refine Hd.p_ HT_ 14 (some 38) #[true, true, true, true, true, true, true, true, true, true, true, true, true, true, true, false, false, false] ?_
           refine Hd.p_ HT_ 15 (some 39) #[true, true, true, true, true, true, true, true, true, true, true, true, true, true, true, true, false, false] ?_
           refine Hd.p_ HT_ 16 (some 15) #[true, true, true, true, true, true, true, true, true, true, true, true, true, true, true, true, true, false] ?_
           refine Hd.p_ HT_ 17 (some 16) #[true, true, true, true, true, true, true, true, true, true, true, true, true, true, true, true, true, true] ?_
           refine done_ (done_of HT_.out (by kernel_rfl)) ?_
           try go_wp2
           go_roundg k1
           case measure => have := HK1.out; omega
           case rel => exact ⟨(x11_1), (x12_1), (x13_1), (wrap64 (x14_1 + 1)), (by first | rfl | (simp; done) | (simp [*]; done)), (by first | rfl | (simp; done) | (simp [*]; done)), (by first | rfl | (simp; done) | (simp [*]; done)), (by first | rfl | (simp; done) | (simp [*]; done)), H', ⟨by have := HK1.out; omega⟩, ⟨by (with_reducible repeat (first | apply Kd.R_alloc | apply Kd.R_drewN | apply Kd.R_drew)); exact HO_4.out⟩, ⟨by repeat (first | (with_reducible first | exact HK.out | apply Kept.alloc | apply Kept.drewN | apply Kept.drew) | exact HK.out)⟩, ⟨Hd.b_⟩⟩
         ·
          rw [if_neg c12] at H
          exact absurd H (by simp)
        ·
         rw [if_neg c11] at H
         exact absurd H (by simp)
       ·
        rw [if_neg c10] at H
        exact absurd H (by simp)
      ·
       rw [if_neg c9] at H
       exact absurd H (by simp)
     ·
      rw [if_neg c8] at H
      exact absurd H (by simp)
    ·
     rw [if_neg c7] at H
     exact absurd H (by simp)
   ·
    rw [if_neg c6] at H
    have c6b0 : decide (x14_1 < a2) = false := decide_eq_false c6
    clear c6
    by_cases c25 : x11_1 < 0
    ·
     rw [if_pos c25] at H
     have c25b0 : decide (x11_1 < 0) = true := decide_eq_true c25
     clear c25
     obtain rfl := Option.some.inj H
     go_wp2
     go_ret
     exact ⟨_, Hd.e_, by (with_reducible repeat (first | apply Kd.R_alloc | apply Kd.R_drewN | apply Kd.R_drew)); exact HO_4.out, Hd.b_, by repeat (first | (with_reducible first | exact HK.out | apply Kept.alloc | apply Kept.drewN | apply Kept.drew) | exact HK.out)⟩
    ·
     rw [if_neg c25] at H
     have c25b0 : decide (x11_1 < 0) = false := decide_eq_false c25
     clear c25
     by_cases c26 : 0 ≤ x11_1
     ·
      rw [if_pos c26] at H
      have c26b0 : decide (0 ≤ x11_1) = true := decide_eq_true c26
      clear c26
      by_cases c27 : x11_1 < (l4.length : Int)
      ·
       rw [if_pos c27] at H
       have c27b0 : decide (x11_1 < (l4.length : Int)) = true := decide_eq_true c27
       clear c27
       obtain ⟨y127, hy127⟩ : ∃ y_ : List Bool, y_ = (l4.set (x11_1 : Int).toNat true) := ⟨_, rfl⟩
       replace H : ((spec_l11Between.f k1 l0 a1 x11_1 a3 y127).bind fun t128 => ((spec_l11Between.f k1 l0 x11_1 a2 a3 t128).bind fun t131 => (some t131))) = some r := by first | (rw [hy127]; with_reducible exact H) | (have H2_ := (Option.bind_some _ _).symm.trans H; rw [hy127]; with_reducible exact H2_) | (have H2_ := (Option.bind_some _ _).symm.trans H; with_reducible exact H2_) | with_reducible exact H | (rw [hy127]; exact H) | exact H
       have Ny127 := Aside0.mk hy127
       clear hy127
       replace H := Option.bind_eq_some_iff.mp H
       obtain ⟨t128, A290, H⟩ := H
       replace H : ((spec_l11Between.f k1 l0 x11_1 a2 a3 t128).bind fun t131 => (some t131)) = some r := H
       have A29 := Aside0.mk A290
       clear A290
       replace H := Option.bind_eq_some_iff.mp H
       obtain ⟨t131, A300, H⟩ := H
       replace H : (some t131) = some r := H
       have A30 := Aside0.mk A300
       clear A300
       obtain rfl := Option.some.inj H
       have p28 : 0 ≤ (x11_1 : Int) := of_decide_eq_true Hd.a_
       have q28 : (x11_1 : Int) < ((l4.length : Int) : Int) := of_decide_eq_true Hd.a_
       obtain ⟨go28, co28, eo28, gb28, gl28, cl28, HG28⟩ := Kd.R_form HO_4.out (by omega)
       (first | cases eo28 | (injection eo28 with ea_ en_ ec_; (first | subst ea_ | (injection ea_ with ea_; subst ea_)); subst ec_; clear en_))
       have GB28 := Aside0.mk gb28
       have GG28 := Aside0.mk HG28
       clear gb28 gl28 HG28
       have HMgo28 := Aside0.mk (show (P4_ go28 ∨ w.heap.size ≤ go28) from (HO_4.out.1 _ rfl))
       obtain ⟨hx28_0, hf28_0⟩ := Kd.R_celln false HO_4.out (x11_1 : Int) p28 q28
       replace p28 := eq_true p28
       replace q28 := eq_true q28
       have HP31 := Kd.R_putg HO_4.out (x11_1 : Int) true
       go_wp2_with (first | ((with_reducible refine gate_store (t := 4) (p := 68) rfl ?_); refine store_event (t := 4) (p := 68) (v := ?vo_w32) (w1 := (wr.setCell ⟨go28, (x11_1 : Int).toNat, none⟩ (.bool true))) ?hg ?ho ?hn ?hr ?_; (case ho => rfl); (case hg => rfl); (case hn => rfl); (case hr => first | (go_simp; done) | (go_simp; rfl)); intro w32 hw; have hg : wr.grownBy w32 (some go28) := (by rw [hw]; exact HP31.2); have hp_ : Kd.R Kd.bool 4 w32 w0.heap.size (fun k_ => (P4_ k_ ∨ w.heap.size ≤ k_)) (.slice (some ⟨go28, 0, none⟩) l4.length co28) y127 := (by rw [hw, Ny127.out]; exact HP31.1); clear HP31; replace HB := Aside0.mk ((by rw [hw]; exact below_set (HB.out) GB28.out : Below w0.heap.size w0 w32)); replace HK := Aside0.mk (Kept.of_grown (S := (fun k_ => P4_ k_)) hg (by repeat (first | (with_reducible first | exact HK.out | apply Kept.alloc | apply Kept.drewN | apply Kept.drew) | exact HK.out)) (fun k_ e_ => (HO_4.out.1 k_ e_))); replace HO_4 := Aside0.mk (hp_); clear hg hw hp_) | ((with_reducible refine gate_callee (f := 75) rfl ?_); refine goesL_ (some 74) rfl rfl Try.func75 (by kernel_rfl) rfl #[.slice A0 l0.length c0, .int .i64 a1, .int .i64 x11_1, .int .i64 a3, .slice (some ⟨go28, 0, none⟩) l4.length co28] rfl Hd.m_ ?_; (with_reducible refine (ih k1 (by have := HK1.out; omega) _ _ l0 a1 x11_1 a3 (fun k_ => some k_ = (.slice (some ⟨go28, 0, none⟩) l4.length co28 : Value).ownBlock) (.slice (some ⟨go28, 0, none⟩) l4.length co28) y127 t128 w0 _ ?side1 ?side2 ?side3 ?side4 A29.out).mono ?_); (case side1 => repeat (first | (with_reducible first | exact HB.out | apply below_alloc | apply pw_below_drewN | apply below_drew1) | exact HB.out)); (case side2 => exact Kd.C_kept_call HR0.out (by repeat (first | (with_reducible first | exact HK.out | apply Kept.alloc | apply Kept.drewN | apply Kept.drew) | exact HK.out)) (fun k_ hs_ => (fun e_ => (HO_4.out.1 k_ e_.symm)) hs_)); (case side3 => exact HC0.out); (case side4 => exact Kd.R_tight rfl HO_4.out); rintro e w33 ⟨v129, rfl, ho0, hb, hkp⟩; refine ⟨_, rfl, ?_⟩; have n0_ := Aside0.mk (Kd.R_mono (ok' := fun k_ => (P4_ k_ ∨ w.heap.size ≤ k_)) ho0 (fun k_ hk_ => Or.elim hk_ (fun hs_ => (HO_4.out.1 k_ (hs_).symm)) (fun hn_ => (.inr (Nat.le_trans (by first | exact HK.out.1 | exact (show Kept w _ (fun k_ => P4_ k_) from by repeat (first | (with_reducible first | exact HK.out | apply Kept.alloc | apply Kept.drewN | apply Kept.drew) | exact HK.out)).1) hn_))))); have n1_ := Aside0.mk (Kept.then_ (S := (fun k_ => P4_ k_)) (by repeat (first | (with_reducible first | exact HK.out | apply Kept.alloc | apply Kept.drewN | apply Kept.drew) | exact HK.out)) hkp (fun k_ hs_ => (fun e_ => (HO_4.out.1 k_ e_.symm)) hs_)); have n2_ := Aside0.mk (hb); clear HK; clear HB; clear HO_4; have HO130 := n0_; have HK := n1_; have HB := n2_; clear n0_ n1_ n2_; (try clear hb); (try clear hkp); (try clear ho0); obtain ⟨Ao34, co34, eo34⟩ := Kd.R_slice HO130.out; subst eo34) | ((with_reducible refine gate_callee (f := 75) rfl ?_); refine goesL_ (some 80) rfl rfl Try.func75 (by kernel_rfl) rfl #[.slice A0 l0.length c0, .int .i64 x11_1, .int .i64 a2, .int .i64 a3, .slice Ao34 t128.length co34] rfl Hd.m_ ?_; (with_reducible refine (ih k1 (by have := HK1.out; omega) _ _ l0 x11_1 a2 a3 (fun k_ => some k_ = (.slice Ao34 t128.length co34 : Value).ownBlock) (.slice Ao34 t128.length co34) t128 t131 w0 _ ?side1 ?side2 ?side3 ?side4 A30.out).mono ?_); (case side1 => repeat (first | (with_reducible first | exact HB.out | apply below_alloc | apply pw_below_drewN | apply below_drew1) | exact HB.out)); (case side2 => exact Kd.C_kept_call HR0.out (by repeat (first | (with_reducible first | exact HK.out | apply Kept.alloc | apply Kept.drewN | apply Kept.drew) | exact HK.out)) (fun k_ hs_ => (fun e_ => (HO130.out.1 k_ e_.symm)) hs_)); (case side3 => exact HC0.out); (case side4 => exact Kd.R_tight rfl HO130.out); rintro e w35 ⟨v132, rfl, ho0, hb, hkp⟩; refine ⟨_, rfl, ?_⟩; have n0_ := Aside0.mk (Kd.R_mono (ok' := fun k_ => (P4_ k_ ∨ w.heap.size ≤ k_)) ho0 (fun k_ hk_ => Or.elim hk_ (fun hs_ => (HO130.out.1 k_ (hs_).symm)) (fun hn_ => (.inr (Nat.le_trans (by first | exact HK.out.1 | exact (show Kept w _ (fun k_ => P4_ k_) from by repeat (first | (with_reducible first | exact HK.out | apply Kept.alloc | apply Kept.drewN | apply Kept.drew) | exact HK.out)).1) hn_))))); have n1_ := Aside0.mk (Kept.then_ (S := (fun k_ => P4_ k_)) (by repeat (first | (with_reducible first | exact HK.out | apply Kept.alloc | apply Kept.drewN | apply Kept.drew) | exact HK.out)) hkp (fun k_ hs_ => (fun e_ => (HO130.out.1 k_ e_.symm)) hs_)); have n2_ := Aside0.mk (hb); clear HK; clear HB; clear HO130; have HO133 := n0_; have HK := n1_; have HB := n2_; clear n0_ n1_ n2_; (try clear hb); (try clear hkp); (try clear ho0)))
       go_ret
       exact ⟨_, Hd.e_, by (with_reducible repeat (first | apply Kd.R_alloc | apply Kd.R_drewN | apply Kd.R_drew)); exact HO133.out, Hd.b_, by repeat (first | (with_reducible first | exact HK.out | apply Kept.alloc | apply Kept.drewN | apply Kept.drew) | exact HK.out)⟩
      ·
       rw [if_neg c27] at H
       exact absurd H (by simp)
     ·
      rw [if_neg c26] at H
      exact absurd H (by simp)
mutual
def spec_SimplifyLine.j0 : Nat → List (S27) → Int → Bool → Option ((List (S27)))
 | 0, _, _, _ => none
 | k + 1, x0, x1, x16 => if x16 = true then ((some (([] : List (S27)) : List (S27))).bind fun y136 => (if y136.length + x0.length < 8796093022208 then (some (y136 ++ x0)) else (none))) else (spec_SimplifyLine.l0 k x0 x1 (([] : List Bool)) 0)
def spec_SimplifyLine.l0 : Nat → List (S27) → Int → List Bool → Int → Option ((List (S27)))
 | 0, _, _, _, _ => none
 | k + 1, x0, x1, x5, x6 => if x6 < (x0.length : Int) then (if x6 = 0 then (if x5.length < 140737488355328 then (spec_SimplifyLine.l0 k x0 x1 (x5 ++ [true]) (wrap64 (x6 + 1))) else (none)) else (if x5.length < 140737488355328 then (spec_SimplifyLine.l0 k x0 x1 (x5 ++ [((wrap64 (x6 + 1)) == (x0.length : Int))]) (wrap64 (x6 + 1))) else (none))) else ((spec_l11Between.f k x0 0 (wrap64 ((x0.length : Int) - 1)) x1 x5).bind fun t151 => (spec_SimplifyLine.l1 k x0 t151 (([] : List (S27))) 0))
def spec_SimplifyLine.l1 : Nat → List (S27) → List Bool → List (S27) → Int → Option ((List (S27)))
 | 0, _, _, _, _ => none
 | k + 1, x0, x5, x7, x8 => if x8 < (x0.length : Int) then (if 0 ≤ x8 then (if x8 < (x5.length : Int) then (if rdOf false x5 x8 = true then (if x7.length < 8796093022208 then (spec_SimplifyLine.l1 k x0 x5 (x7 ++ [(⟨(rd_T27 x0 x8).f0, (rd_T27 x0 x8).f1⟩ : S27)]) (wrap64 (x8 + 1))) else (none)) else (spec_SimplifyLine.l1 k x0 x5 x7 (wrap64 (x8 + 1)))) else (none)) else (none)) else (some x7)
end
def spec_SimplifyLine.f (k : Nat) (l0 : List (S27)) (a1 : Int) : Option ((List (S27))) := (spec_IsLine.f k l0).bind fun t134 => (if t134 = true then ((spec_l1In.f a1 0 200).bind fun t135 => (spec_SimplifyLine.j0 k l0 a1 (!t135))) else (spec_SimplifyLine.j0 k l0 a1 true))
set_option maxHeartbeats 8000000 in
set_option maxRecDepth 100000 in
theorem spec_SimplifyLine.calls (k : Nat) (A0 : Option Addr) (c0 : Nat) (l0 : List (S27)) (a1 : Int) (r : List (S27)) (w : World) (hr0 : Kd.C k27 w A0 l0.length l0) (hc0 : l0.length ≤ c0) (h : spec_SimplifyLine.f k l0 a1 = some r) :
  Calls Try.prog 27 #[.slice A0 l0.length c0, .int .i64 a1] w fun e w' => ∃ v0_ : Value, e = .returned (v0_) ∧ Kd.R k27 27 w' w.heap.size (fun _ => True) v0_ r ∧ Below w.heap.size w w' := by
 have hu27 := Try.underlying27
 have HR0 := Aside0.mk hr0
 have HC0 := Aside0.mk hc0
 clear hr0 hc0
 have HB := Aside0.mk (Below.refl w.heap.size w)
 have H : ((spec_IsLine.f k l0).bind fun t134 => (if t134 = true then ((spec_l1In.f a1 0 200).bind fun t135 => (spec_SimplifyLine.j0 k l0 a1 (!t135))) else (spec_SimplifyLine.j0 k l0 a1 true))) = some r := h
 clear h
 have HC3 := Aside0.mk H
 clear H
 go_enter Try.func27, Try.ntmps27
 go_upto_region 1 with (fail)
 go_cut [16] (fun v16 wc => ∃ (kq : Nat) (x16_2 : Bool), v16 = .bool x16_2 ∧ Aside0 (spec_SimplifyLine.j0 kq l0 a1 x16_2 = some r) ∧ Aside0 (kq ≤ k) ∧ Aside0 (Below w.heap.size w wc))
 case first =>
  have H := HC3.out
  clear HC3
  replace H := Option.bind_eq_some_iff.mp H
  obtain ⟨t134, A40, H⟩ := H
  replace H : (if t134 = true then ((spec_l1In.f a1 0 200).bind fun t135 => (spec_SimplifyLine.j0 k l0 a1 (!t135))) else (spec_SimplifyLine.j0 k l0 a1 true)) = some r := H
  have A4 := Aside0.mk A40
  clear A40
  by_cases c5 : t134 = true
  ·
   subst c5
   have H1 : ((spec_l1In.f a1 0 200).bind fun t135 => (spec_SimplifyLine.j0 k l0 a1 (!t135))) = some r := by rw [if_pos rfl] at H; exact H
   clear H
   have H := H1
   clear H1
   replace H := Option.bind_eq_some_iff.mp H
   obtain ⟨t135, A60, H⟩ := H
   replace H : (spec_SimplifyLine.j0 k l0 a1 (!t135)) = some r := H
   have A6 := Aside0.mk A60
   clear A60
   have H' := Aside0.mk H
   clear H
   go_wp2_with (first | ((with_reducible refine gate_callee (f := 73) rfl ?_); refine goesL_ (some 10) rfl rfl Try.func73 (by kernel_rfl) rfl #[.slice A0 l0.length c0] rfl Hd.m_ ?_; (with_reducible refine (spec_IsLine.calls k _ _ l0 true _ ?side1 ?side2 A4.out).mono ?_); (case side1 => repeat (first | exact (Kd.C_below HR0.out HB.out) | (with_reducible refine Kd.C_alloc ?_ _) | (with_reducible refine Kd.C_drewN ?_ _) | (with_reducible refine Kd.C_drew ?_))); (case side2 => exact HC0.out); rintro e w7 ⟨rfl, hb⟩; refine ⟨_, rfl, ?_⟩; replace HB := Aside0.mk (below_step Hd.b_ hb); (try clear hb); (try clear hb2); (try clear hk); (try clear hi)) | (go_at_call 74; (with_reducible refine (spec_l1In.calls a1 0 200 t135 _ A6.out).mono ?_); rintro e w' ⟨rfl, ⟨nd, rfl⟩⟩))
   go_meet
   case rel => exact ⟨_, (!t135), (by first | rfl | (simp; done) | (simp [*]; done)), H', ⟨by first | omega | exact Nat.le_refl _⟩, ⟨Hd.b_⟩⟩
  ·
   replace c5 := Bool.eq_false_iff.mpr c5
   subst c5
   have H1 : (spec_SimplifyLine.j0 k l0 a1 true) = some r := by rw [if_neg (show ¬ (false = true) by decide)] at H; exact H
   clear H
   have H := H1
   clear H1
   have H' := Aside0.mk H
   clear H
   go_wp2_with (first | ((with_reducible refine gate_callee (f := 73) rfl ?_); refine goesL_ (some 10) rfl rfl Try.func73 (by kernel_rfl) rfl #[.slice A0 l0.length c0] rfl Hd.m_ ?_; (with_reducible refine (spec_IsLine.calls k _ _ l0 false _ ?side1 ?side2 A4.out).mono ?_); (case side1 => repeat (first | exact (Kd.C_below HR0.out HB.out) | (with_reducible refine Kd.C_alloc ?_ _) | (with_reducible refine Kd.C_drewN ?_ _) | (with_reducible refine Kd.C_drew ?_))); (case side2 => exact HC0.out); rintro e w8 ⟨rfl, hb⟩; refine ⟨_, rfl, ?_⟩; replace HB := Aside0.mk (below_step Hd.b_ hb); (try clear hb); (try clear hb2); (try clear hk); (try clear hi)))
   go_meet
   case rel => exact ⟨_, (true), (by first | rfl | (simp; done) | (simp [*]; done)), H', ⟨by first | omega | exact Nat.le_refl _⟩, ⟨Hd.b_⟩⟩
 case rest =>
  clear HC3
  try clear c2
  try clear p2
  try clear c5
  try clear c7
  obtain ⟨kq, x16_2, rfl, HA, HJ2, HB⟩ := hcut
  cases kq with
  | zero => exact absurd HA.out (by simp [spec_SimplifyLine.j0])
  | succ kj2 =>
   have H := HA.out
   clear HA
   simp only [spec_SimplifyLine.j0] at H
   by_cases c9 : x16_2 = true
   ·
    subst c9
    have H1 : ((some (([] : List (S27)) : List (S27))).bind fun y136 => (if y136.length + l0.length < 8796093022208 then (some (y136 ++ l0)) else (none))) = some r := by rw [if_pos rfl] at H; exact H
    clear H
    have H := H1
    clear H1
    obtain ⟨y136, hy136⟩ : ∃ y_ : List (S27), y_ = (([] : List (S27))) := ⟨_, rfl⟩
    replace H : (if y136.length + l0.length < 8796093022208 then (some (y136 ++ l0)) else (none)) = some r := by first | (rw [hy136]; with_reducible exact H) | (have H2_ := (Option.bind_some _ _).symm.trans H; rw [hy136]; with_reducible exact H2_) | (have H2_ := (Option.bind_some _ _).symm.trans H; with_reducible exact H2_) | with_reducible exact H | (rw [hy136]; exact H) | exact H
    have Ny136 := Aside0.mk hy136
    clear hy136
    by_cases c10 : y136.length + l0.length < 8796093022208
    ·
     rw [if_pos c10] at H
     have LMc10 := Aside0.mk c10
     clear c10
     obtain ⟨y139, hy139⟩ : ∃ y_ : List (S27), y_ = (y136 ++ l0) := ⟨_, rfl⟩
     replace H : (some y139) = some r := by first | (rw [hy139]; with_reducible exact H) | (have H2_ := (Option.bind_some _ _).symm.trans H; rw [hy139]; with_reducible exact H2_) | (have H2_ := (Option.bind_some _ _).symm.trans H; with_reducible exact H2_) | with_reducible exact H | (rw [hy139]; exact H) | exact H
     have Ny139 := Aside0.mk hy139
     clear hy139
     obtain rfl := Option.some.inj H
     go_wp2_with (first | ((with_reducible refine gate_dst (N := 17) rfl ?_); (try (refine gate_guard (by rfl) ?_; dsimp only)); refine Kd.R_lit k27 _ 27 ?hg (N := 17) ?hd (xs := ([] : List (S27))) (inner := []) (ok := fun _ => True) (okp := fun _ => True) ?hr ?hp (fun _ hk => hk) trivial (Below.refl _ _) (Nat.le_refl _) (by simp) ?_; (case hd => rfl); (case hg => rfl); (case hr => first | (go_simp; done) | (go_simp; rfl)); (case hp => exact (Reps.none _ _)); intro v137 w11 ho12 hb hg_ hnew_; clear hg_ hnew_; (first | rw [← Ny136.out] at ho12 | (simp only [Int.reduceToNat] at ho12; rw [← Ny136.out] at ho12)); have HO138 := Aside0.mk (Kd.R_lower ho12 (below_size Hd.b_)); replace HB := Aside0.mk (below_step Hd.b_ hb); clear hb ho12) | ((with_reducible refine gate_builtin (b := .append) (xs := #[.tmp 17, .tmp 18]) rfl ?_); (try (refine gate_guard (by rfl) ?_; dsimp only)); at_builtin; refine Kd.R_append_rows k27 (w0 := w) w.heap.size rfl (.tmp 17) (.tmp 18) 24 27 (.agg #[(.int .i64 0), (.int .i64 0)]) 16 rfl Try.underlying24 info27 rfl (by decide) (by omega) v137 y136 l0 _ _ _ (fun _ => True) (fun _ => False) rfl rfl ?aO ?aR (fun _ _ h => h) (fun _ h => h.elim) ?aF ?aB ?aS ?aL ?_; (case aR => repeat (first | exact (Kd.C_below HR0.out HB.out) | (with_reducible refine Kd.C_alloc ?_ _) | (with_reducible refine Kd.C_drewN ?_ _) | (with_reducible refine Kd.C_drew ?_))); (case aB => exact Hd.b_); (case aF => exact (fun _ _ => trivial)); (case aO => exact (Hd.r_ HO138)); (case aS => exact (below_size Hd.b_)); (case aL => have := LMc10.out; omega); intro v140 w13 ho hb hg hat; rw [← Ny139.out] at ho; have n0_ := Aside0.mk (hb); have n1_ := Aside0.mk (ho); clear HB; clear HO138; have HB := n0_; have HO141 := n1_; clear n0_ n1_; clear ho hb hg hat))
     go_ret
     exact ⟨_, Hd.e_, by (with_reducible repeat (first | apply Kd.R_alloc | apply Kd.R_drewN | apply Kd.R_drew)); exact HO141.out, Hd.b_⟩
    ·
     rw [if_neg c10] at H
     exact absurd H (by simp)
   ·
    replace c9 := Bool.eq_false_iff.mpr c9
    subst c9
    have H1 : (spec_SimplifyLine.l0 kj2 l0 a1 (([] : List Bool)) 0) = some r := by rw [if_neg (show ¬ (false = true) by decide)] at H; exact H
    clear H
    have H := H1
    clear H1
    obtain ⟨y142, hy142⟩ : ∃ y_ : List Bool, y_ = (([] : List Bool)) := ⟨_, rfl⟩
    replace H : (spec_SimplifyLine.l0 kj2 l0 a1 y142 0) = some r := by first | (rw [hy142]; with_reducible exact H) | (have H2_ := (Option.bind_some _ _).symm.trans H; rw [hy142]; with_reducible exact H2_) | (have H2_ := (Option.bind_some _ _).symm.trans H; with_reducible exact H2_) | with_reducible exact H | (rw [hy142]; exact H) | exact H
    have Ny142 := Aside0.mk hy142
    clear hy142
    have H' := Aside0.mk H
    clear H
    go_wp2_with (first | ((with_reducible refine gate_dst (N := 20) rfl ?_); (try (refine gate_guard (by rfl) ?_; dsimp only)); refine Kd.R_lit Kd.bool _ 4 ?hg (N := 20) ?hd (xs := ([] : List Bool)) (inner := []) (ok := fun _ => True) (okp := fun _ => True) ?hr ?hp (fun _ hk => hk) trivial (Below.refl _ _) (Nat.le_refl _) (by simp) ?_; (case hd => rfl); (case hg => rfl); (case hr => first | (go_simp; done) | (go_simp; rfl)); (case hp => exact (Reps.none _ _)); intro v143 w14 ho15 hb hg_ hnew_; clear hg_ hnew_; (first | rw [← Ny142.out] at ho15 | (simp only [Int.reduceToNat] at ho15; rw [← Ny142.out] at ho15)); have HO144 := Aside0.mk (Kd.R_lower ho15 (below_size Hd.b_)); replace HB := Aside0.mk (below_step Hd.b_ hb); clear hb ho15))
    go_loopg [5, 6] kj2 (fun kq v5 v6 w' => ∃ (x5_2 : List Bool) (x6_2 : Int), v6 = .int .i64 x6_2 ∧ Aside0 (spec_SimplifyLine.l0 kq l0 a1 x5_2 x6_2 = some r) ∧ Aside0 (kq ≤ kj2) ∧ Aside0 (Kd.R Kd.bool 4 w' w.heap.size (fun _ => True) v5 x5_2) ∧ Aside0 (Below w.heap.size w w'))
    case atStart => exact ⟨(y142), (0), (by first | rfl | (simp; done) | (simp [*]; done)), H', ⟨Nat.le_refl _⟩, ⟨by (with_reducible repeat (first | apply Kd.R_alloc | apply Kd.R_drewN | apply Kd.R_drew)); exact HO144.out⟩, ⟨Hd.b_⟩⟩
    case round =>
     clear H'
     try clear c1
     try clear c2
     try clear p2
     try clear c5
     try clear c7
     try clear c9
     try clear c10
     try clear p2
     obtain ⟨x5_2, x6_2, rfl, HA, HK2, HO_5, HB⟩ := hrel
     cases gk with
     | zero => exact absurd HA.out (by simp [spec_SimplifyLine.l0])
     | succ k2 =>
      have H := HA.out
      clear HA
      simp only [spec_SimplifyLine.l0] at H
      by_cases c16 : x6_2 < (l0.length : Int)
      ·
       rw [if_pos c16] at H
       have c16b0 : decide (x6_2 < (l0.length : Int)) = true := decide_eq_true c16
       clear c16
       by_cases c17 : x6_2 = 0
       ·
        rw [if_pos c17] at H
        have c17b0 : (x6_2 == 0) = true := beq_iff_eq.mpr c17
        have c17b1 : (x6_2 != 0) = false := bne_eq_false_iff_eq.mpr c17
        clear c17
        by_cases c18 : x5_2.length < 140737488355328
        ·
         rw [if_pos c18] at H
         have LMc18 := Aside0.mk c18
         clear c18
         obtain ⟨y145, hy145⟩ : ∃ y_ : List Bool, y_ = (x5_2 ++ [true]) := ⟨_, rfl⟩
         replace H : (spec_SimplifyLine.l0 k2 l0 a1 y145 (wrap64 (x6_2 + 1))) = some r := by first | (rw [hy145]; with_reducible exact H) | (have H2_ := (Option.bind_some _ _).symm.trans H; rw [hy145]; with_reducible exact H2_) | (have H2_ := (Option.bind_some _ _).symm.trans H; with_reducible exact H2_) | with_reducible exact H | (rw [hy145]; exact H) | exact H
         have Ny145 := Aside0.mk hy145
         clear hy145
         have H' := Aside0.mk H
         clear H
         go_wp2_with (first | ((with_reducible refine gate_builtin (b := .append) (xs := #[.tmp 27, .tmp 37]) rfl ?_); (try (refine gate_guard (by rfl) ?_; dsimp only)); at_builtin; refine Kd.R_append Kd.bool (w0 := w) w.heap.size rfl (.tmp 27) (.tmp 37) 89 4 (.bool false) 1 rfl Try.underlying89 info4 rfl (by decide) (by omega) u5 x5_2 true [.bool true] (fun _ => True) (fun _ => False) rfl rfl ?aP (fun _ hk => hk.elim) ?aF ?aO ?aB ?aS ?aL ?_; (case aP => exact rfl); (case aB => exact Hd.b_); (case aF => exact (fun _ _ => trivial)); (case aO => exact (Hd.r_ HO_5)); (case aS => exact (below_size Hd.b_)); (case aL => have := LMc18.out; omega); intro v146 w19 ho hb hg hat; rw [← Ny145.out] at ho; have n0_ := Aside0.mk (hb); have n1_ := Aside0.mk (ho); clear HB; clear HO_5; have HB := n0_; have HO147 := n1_; clear n0_ n1_; clear ho hb hg hat))
         go_roundg k2
         case measure => have := HJ2.out; have := HK2.out; omega
         case rel => exact ⟨(y145), (wrap64 (x6_2 + 1)), (by first | rfl | (simp; done) | (simp [*]; done)), H', ⟨by have := HJ2.out; have := HK2.out; omega⟩, ⟨by (with_reducible repeat (first | apply Kd.R_alloc | apply Kd.R_drewN | apply Kd.R_drew)); exact HO147.out⟩, ⟨Hd.b_⟩⟩
        ·
         rw [if_neg c18] at H
         exact absurd H (by simp)
       ·
        rw [if_neg c17] at H
        have c17b0 : (x6_2 == 0) = false := beq_eq_false_iff_ne.mpr c17
        have c17b1 : (x6_2 != 0) = true := bne_iff_ne.mpr c17
        by_cases c20 : x5_2.length < 140737488355328
        ·
         rw [if_pos c20] at H
         have LMc20 := Aside0.mk c20
         clear c20
         obtain ⟨y148, hy148⟩ : ∃ y_ : List Bool, y_ = (x5_2 ++ [((wrap64 (x6_2 + 1)) == (l0.length : Int))]) := ⟨_, rfl⟩
         replace H : (spec_SimplifyLine.l0 k2 l0 a1 y148 (wrap64 (x6_2 + 1))) = some r := by first | (rw [hy148]; with_reducible exact H) | (have H2_ := (Option.bind_some _ _).symm.trans H; rw [hy148]; with_reducible exact H2_) | (have H2_ := (Option.bind_some _ _).symm.trans H; with_reducible exact H2_) | with_reducible exact H | (rw [hy148]; exact H) | exact H
         have Ny148 := Aside0.mk hy148
         clear hy148
         have H' := Aside0.mk H
         clear H
         go_wp2_with (first | ((with_reducible refine gate_builtin (b := .append) (xs := #[.tmp 27, .tmp 37]) rfl ?_); (try (refine gate_guard (by rfl) ?_; dsimp only)); at_builtin; refine Kd.R_append Kd.bool (w0 := w) w.heap.size rfl (.tmp 27) (.tmp 37) 89 4 (.bool false) 1 rfl Try.underlying89 info4 rfl (by decide) (by omega) u5 x5_2 ((wrap64 (x6_2 + 1)) == (l0.length : Int)) [.bool ((wrap64 (x6_2 + 1)) == (l0.length : Int))] (fun _ => True) (fun _ => False) rfl rfl ?aP (fun _ hk => hk.elim) ?aF ?aO ?aB ?aS ?aL ?_; (case aP => exact rfl); (case aB => exact Hd.b_); (case aF => exact (fun _ _ => trivial)); (case aO => exact (Hd.r_ HO_5)); (case aS => exact (below_size Hd.b_)); (case aL => have := LMc20.out; omega); intro v149 w21 ho hb hg hat; rw [← Ny148.out] at ho; have n0_ := Aside0.mk (hb); have n1_ := Aside0.mk (ho); clear HB; clear HO_5; have HB := n0_; have HO150 := n1_; clear n0_ n1_; clear ho hb hg hat))
         go_roundg k2
         case measure => have := HJ2.out; have := HK2.out; omega
         case rel => exact ⟨(y148), (wrap64 (x6_2 + 1)), (by first | rfl | (simp; done) | (simp [*]; done)), H', ⟨by have := HJ2.out; have := HK2.out; omega⟩, ⟨by (with_reducible repeat (first | apply Kd.R_alloc | apply Kd.R_drewN | apply Kd.R_drew)); exact HO150.out⟩, ⟨Hd.b_⟩⟩
        ·
         rw [if_neg c20] at H
         exact absurd H (by simp)
      ·
       rw [if_neg c16] at H
       have c16b0 : decide (x6_2 < (l0.length : Int)) = false := decide_eq_false c16
       clear c16
       replace H := Option.bind_eq_some_iff.mp H
       obtain ⟨t151, A220, H⟩ := H
       replace H : (spec_SimplifyLine.l1 k2 l0 t151 (([] : List (S27))) 0) = some r := H
       have A22 := Aside0.mk A220
       clear A220
       obtain ⟨y154, hy154⟩ : ∃ y_ : List (S27), y_ = (([] : List (S27))) := ⟨_, rfl⟩
       replace H : (spec_SimplifyLine.l1 k2 l0 t151 y154 0) = some r := by first | (rw [hy154]; with_reducible exact H) | (have H2_ := (Option.bind_some _ _).symm.trans H; rw [hy154]; with_reducible exact H2_) | (have H2_ := (Option.bind_some _ _).symm.trans H; with_reducible exact H2_) | with_reducible exact H | (rw [hy154]; exact H) | exact H
       have Ny154 := Aside0.mk hy154
       clear hy154
       have H' := Aside0.mk H
       clear H
       obtain ⟨Ao23, co23, eo23⟩ := Kd.R_slice HO_5.out
       subst eo23
       go_wp2_with (first | ((with_reducible refine gate_callee (f := 75) rfl ?_); refine goesL_ (some 45) rfl rfl Try.func75 (by kernel_rfl) rfl #[.slice A0 l0.length c0, .int .i64 0, .int .i64 (wrap64 ((l0.length : Int) - 1)), .int .i64 a1, .slice Ao23 x5_2.length co23] rfl Hd.m_ ?_; (with_reducible refine (spec_l11Between.calls k2 _ _ l0 0 (wrap64 ((l0.length : Int) - 1)) a1 (fun k_ => some k_ = (.slice Ao23 x5_2.length co23 : Value).ownBlock) (.slice Ao23 x5_2.length co23) x5_2 t151 w _ ?side1 ?side2 ?side3 ?side4 A22.out).mono ?_); (case side1 => repeat (first | (with_reducible first | exact HB.out | apply below_alloc | apply pw_below_drewN | apply below_drew1) | exact HB.out)); (case side2 => exact Kd.C_kept_came k27_heap HR0.out Hd.b_ (fun k_ hs_ => (fun e_ => Kd.R_base HO_5.out k_ e_.symm) hs_)); (case side3 => exact HC0.out); (case side4 => exact Kd.R_tight rfl HO_5.out); rintro e w24 ⟨v152, rfl, ho0, hb, hkp⟩; refine ⟨_, rfl, ?_⟩; have n0_ := Aside0.mk (Kd.R_mono (ok' := fun k_ => True) ho0 (fun k_ hk_ => trivial)); have n1_ := Aside0.mk (hb); clear HB; clear HO_5; have HO153 := n0_; have HB := n1_; clear n0_ n1_; (try clear hb); (try clear hkp); (try clear ho0)) | ((with_reducible refine gate_dst (N := 46) rfl ?_); (try (refine gate_guard (by rfl) ?_; dsimp only)); refine Kd.R_lit k27 _ 27 ?hg (N := 46) ?hd (xs := ([] : List (S27))) (inner := []) (ok := fun _ => True) (okp := fun _ => True) ?hr ?hp (fun _ hk => hk) trivial (Below.refl _ _) (Nat.le_refl _) (by simp) ?_; (case hd => rfl); (case hg => rfl); (case hr => first | (go_simp; done) | (go_simp; rfl)); (case hp => exact (Reps.none _ _)); intro v155 w25 ho26 hb hg_ hnew_; clear hg_ hnew_; (first | rw [← Ny154.out] at ho26 | (simp only [Int.reduceToNat] at ho26; rw [← Ny154.out] at ho26)); replace HO153 := Aside0.mk (Kd.R_below (Hd.r_ HO153) hb); have HO156 := Aside0.mk (Kd.R_lower ho26 (below_size Hd.b_)); replace HB := Aside0.mk (below_step Hd.b_ hb); clear hb ho26))
       go_loopg [7, 8] k2 (fun kq v7 v8 w' => ∃ (x7_3 : List (S27)) (x8_3 : Int), v8 = .int .i64 x8_3 ∧ Aside0 (spec_SimplifyLine.l1 kq l0 t151 x7_3 x8_3 = some r) ∧ Aside0 (kq ≤ k2) ∧ Aside0 (Kd.R Kd.bool 4 w' w.heap.size (fun _ => True) v152 t151) ∧ Aside0 (Kd.R k27 27 w' w.heap.size (fun _ => True) v7 x7_3) ∧ Aside0 (Below w.heap.size w w'))
       case atStart => exact ⟨(y154), (0), (by first | rfl | (simp; done) | (simp [*]; done)), H', ⟨Nat.le_refl _⟩, ⟨by (with_reducible repeat (first | apply Kd.R_alloc | apply Kd.R_drewN | apply Kd.R_drew)); exact HO153.out⟩, ⟨by (with_reducible repeat (first | apply Kd.R_alloc | apply Kd.R_drewN | apply Kd.R_drew)); exact HO156.out⟩, ⟨Hd.b_⟩⟩
       case round =>
        clear H'
        try clear c1
        try clear c2
        try clear p2
        try clear c5
        try clear p6
        try clear c7
        try clear c9
        try clear c10
        try clear c16
        try clear c16b0
        try clear c17
        try clear c17b0
        try clear c17b1
        try clear c18
        try clear c20
        try clear p2
        obtain ⟨x7_3, x8_3, rfl, HA, HK3, HO_5, HO_7, HB⟩ := hrel
        cases gk with
        | zero => exact absurd HA.out (by simp [spec_SimplifyLine.l1])
        | succ k3 =>
         have H := HA.out
         clear HA
         simp only [spec_SimplifyLine.l1] at H
         by_cases c27 : x8_3 < (l0.length : Int)
         ·
          rw [if_pos c27] at H
          have c27b0 : decide (x8_3 < (l0.length : Int)) = true := decide_eq_true c27
          clear c27
          by_cases c28 : 0 ≤ x8_3
          ·
           rw [if_pos c28] at H
           have c28b0 : decide (0 ≤ x8_3) = true := decide_eq_true c28
           clear c28
           by_cases c29 : x8_3 < (t151.length : Int)
           ·
            rw [if_pos c29] at H
            have c29b0 : decide (x8_3 < (t151.length : Int)) = true := decide_eq_true c29
            clear c29
            obtain ⟨bq30, hbq30⟩ : ∃ b_ : Bool, b_ = (rdOf false t151 x8_3) := ⟨_, rfl⟩
            replace H : (if bq30 = true then (if x7_3.length < 8796093022208 then (spec_SimplifyLine.l1 k3 l0 t151 (x7_3 ++ [(⟨(rd_T27 l0 x8_3).f0, (rd_T27 l0 x8_3).f1⟩ : S27)]) (wrap64 (x8_3 + 1))) else (none)) else (spec_SimplifyLine.l1 k3 l0 t151 x7_3 (wrap64 (x8_3 + 1)))) = some r := by rw [← hbq30] at H; exact H
            have Nbq30 := Aside0.mk hbq30
            clear hbq30
            by_cases c31 : bq30 = true
            ·
             subst c31
             have H1 : (if x7_3.length < 8796093022208 then (spec_SimplifyLine.l1 k3 l0 t151 (x7_3 ++ [(⟨(rd_T27 l0 x8_3).f0, (rd_T27 l0 x8_3).f1⟩ : S27)]) (wrap64 (x8_3 + 1))) else (none)) = some r := by rw [if_pos rfl] at H; exact H
             clear H
             have H := H1
             clear H1
             by_cases c32 : x7_3.length < 8796093022208
             ·
              rw [if_pos c32] at H
              have LMc32 := Aside0.mk c32
              clear c32
              obtain ⟨y159, hy159⟩ : ∃ y_ : List (S27), y_ = (x7_3 ++ [(⟨(rd_T27 l0 x8_3).f0, (rd_T27 l0 x8_3).f1⟩ : S27)]) := ⟨_, rfl⟩
              replace H : (spec_SimplifyLine.l1 k3 l0 t151 y159 (wrap64 (x8_3 + 1))) = some r := by first | (rw [hy159]; with_reducible exact H) | (have H2_ := (Option.bind_some _ _).symm.trans H; rw [hy159]; with_reducible exact H2_) | (have H2_ := (Option.bind_some _ _).symm.trans H; with_reducible exact H2_) | with_reducible exact H | (rw [hy159]; exact H) | exact H
              have Ny159 := Aside0.mk hy159
              clear hy159
              have H' := Aside0.mk H
              clear H
              obtain ⟨Ao33, co33, eo33⟩ := Kd.R_slice HO_5.out
              subst eo33
              have p157 : 0 ≤ (x8_3 : Int) := of_decide_eq_true Hd.a_
              have q157 : x8_3 < (t151.length : Int) := of_decide_eq_true Hd.a_
              obtain ⟨ad157, e157, hx157_0⟩ := Kd.at_bool (Kd.R_reads' HO_5.out).2.2 x8_3 p157 q157
              (try rw [← Nbq30.out] at hx157_0)
              cases e157
              replace p157 := eq_true p157
              replace q157 := eq_true q157
              have p158 : 0 ≤ (x8_3 : Int) := of_decide_eq_true Hd.a_
              have q158 : x8_3 < (l0.length : Int) := of_decide_eq_true Hd.a_
              obtain ⟨ad158, e158, hx158_0, hx158_1⟩ := at_T27 HR0.out x8_3 p158 q158
              cases e158
              replace hx158_0 := (HB.out.cell (World.block_lt_of_cell? w _ hx158_0)).trans hx158_0
              replace hx158_1 := (HB.out.cell (World.block_lt_of_cell? w _ hx158_1)).trans hx158_1
              replace p158 := eq_true p158
              replace q158 := eq_true q158
              go_wp2_with (first | ((with_reducible refine gate_builtin (b := .append) (xs := #[.tmp 57, .tmp 62]) rfl ?_); (try (refine gate_guard (by rfl) ?_; dsimp only)); at_builtin; refine Kd.R_append k27 (w0 := w) w.heap.size rfl (.tmp 57) (.tmp 62) 24 27 (.agg #[(.int .i64 0), (.int .i64 0)]) 16 rfl Try.underlying24 info27 rfl (by decide) (by omega) u7 x7_3 (⟨(rd_T27 l0 x8_3).f0, (rd_T27 l0 x8_3).f1⟩ : S27) [.int .i64 ((rd_T27 l0 x8_3).f0), .int .i64 ((rd_T27 l0 x8_3).f1)] (fun _ => True) (fun _ => False) rfl rfl ?aP (fun _ hk => hk.elim) ?aF ?aO ?aB ?aS ?aL ?_; (case aP => exact k27_mkM _ _ _ (⟨(rd_T27 l0 x8_3).f0, (rd_T27 l0 x8_3).f1⟩ : S27)); (case aB => exact Hd.b_); (case aF => exact (fun _ _ => trivial)); (case aO => exact (Hd.r_ HO_7)); (case aS => exact (below_size Hd.b_)); (case aL => have := LMc32.out; omega); intro v160 w34 ho hb hg hat; rw [← Ny159.out] at ho; have n0_ := Aside0.mk (Kd.R_over' (Hd.r_ HO_5) (Kd.R_typed (Hd.r_ HO_7)) (by decide) hg); have n1_ := Aside0.mk (hb); have n2_ := Aside0.mk (ho); clear HO_5; clear HB; clear HO_7; have HO_5 := n0_; have HB := n1_; have HO161 := n2_; clear n0_ n1_ n2_; clear ho hb hg hat))
              go_roundg k3
              case measure => have := HJ2.out; have := HK2.out; have := HK3.out; omega
              case rel => exact ⟨(y159), (wrap64 (x8_3 + 1)), (by first | rfl | (simp; done) | (simp [*]; done)), H', ⟨by have := HJ2.out; have := HK2.out; have := HK3.out; omega⟩, ⟨by (with_reducible repeat (first | apply Kd.R_alloc | apply Kd.R_drewN | apply Kd.R_drew)); exact HO_5.out⟩, ⟨by (with_reducible repeat (first | apply Kd.R_alloc | apply Kd.R_drewN | apply Kd.R_drew)); exact HO161.out⟩, ⟨Hd.b_⟩⟩
             ·
              rw [if_neg c32] at H
              exact absurd H (by simp)
            ·
             replace c31 := Bool.eq_false_iff.mpr c31
             subst c31
             have H1 : (spec_SimplifyLine.l1 k3 l0 t151 x7_3 (wrap64 (x8_3 + 1))) = some r := by rw [if_neg (show ¬ (false = true) by decide)] at H; exact H
             clear H
             have H := H1
             clear H1
             have H' := Aside0.mk H
             clear H
             obtain ⟨Ao35, co35, eo35⟩ := Kd.R_slice HO_5.out
             subst eo35
             have p157 : 0 ≤ (x8_3 : Int) := of_decide_eq_true Hd.a_
             have q157 : x8_3 < (t151.length : Int) := of_decide_eq_true Hd.a_
             obtain ⟨ad157, e157, hx157_0⟩ := Kd.at_bool (Kd.R_reads' HO_5.out).2.2 x8_3 p157 q157
             (try rw [← Nbq30.out] at hx157_0)
             cases e157
             replace p157 := eq_true p157
             replace q157 := eq_true q157
             go_wp2
             go_roundg k3
             case measure => have := HJ2.out; have := HK2.out; have := HK3.out; omega
             case rel => exact ⟨(x7_3), (wrap64 (x8_3 + 1)), (by first | rfl | (simp; done) | (simp [*]; done)), H', ⟨by have := HJ2.out; have := HK2.out; have := HK3.out; omega⟩, ⟨by (with_reducible repeat (first | apply Kd.R_alloc | apply Kd.R_drewN | apply Kd.R_drew)); exact HO_5.out⟩, ⟨by (with_reducible repeat (first | apply Kd.R_alloc | apply Kd.R_drewN | apply Kd.R_drew)); exact HO_7.out⟩, ⟨Hd.b_⟩⟩
           ·
            rw [if_neg c29] at H
            exact absurd H (by simp)
          ·
           rw [if_neg c28] at H
           exact absurd H (by simp)
         ·
          rw [if_neg c27] at H
          have c27b0 : decide (x8_3 < (l0.length : Int)) = false := decide_eq_false c27
          clear c27
          obtain rfl := Option.some.inj H
          go_wp2
          go_ret
          exact ⟨_, Hd.e_, by (with_reducible repeat (first | apply Kd.R_alloc | apply Kd.R_drewN | apply Kd.R_drew)); exact HO_7.out, Hd.b_⟩
def spec_CountLeftOut.f (k : Nat) (l0 : List (S27)) (a1 : Int) : Option (Int) := (spec_SimplifyLine.f k l0 a1).bind fun t162 => (some (wrap64 ((l0.length : Int) - (t162.length : Int))))
set_option maxHeartbeats 8000000 in
set_option maxRecDepth 100000 in
theorem spec_CountLeftOut.calls (k : Nat) (A0 : Option Addr) (c0 : Nat) (l0 : List (S27)) (a1 : Int) (r : Int) (w : World) (hr0 : Kd.C k27 w A0 l0.length l0) (hc0 : l0.length ≤ c0) (h : spec_CountLeftOut.f k l0 a1 = some r) :
  Calls Try.prog 23 #[.slice A0 l0.length c0, .int .i64 a1] w fun e w' => e = .returned (.int .i64 r) ∧ Below w.heap.size w w' := by
 have HR0 := Aside0.mk hr0
 have HC0 := Aside0.mk hc0
 clear hr0 hc0
 have HB := Aside0.mk (Below.refl w.heap.size w)
 have H : ((spec_SimplifyLine.f k l0 a1).bind fun t162 => (some (wrap64 ((l0.length : Int) - (t162.length : Int))))) = some r := h
 clear h
 replace H := Option.bind_eq_some_iff.mp H
 obtain ⟨t162, A30, H⟩ := H
 replace H : (some (wrap64 ((l0.length : Int) - (t162.length : Int)))) = some r := H
 have A3 := Aside0.mk A30
 clear A30
 obtain rfl := Option.some.inj H
 go_enter Try.func23, Try.ntmps23
 go_wp2_with (first | ((with_reducible refine gate_callee (f := 27) rfl ?_); refine goesL_ (some 9) rfl rfl Try.func27 (by kernel_rfl) rfl #[.slice A0 l0.length c0, .int .i64 a1] rfl Hd.m_ ?_; (with_reducible refine (spec_SimplifyLine.calls k _ _ l0 a1 t162 _ ?side1 ?side2 A3.out).mono ?_); (case side1 => repeat (first | exact HR0.out | (with_reducible refine Kd.C_alloc ?_ _) | (with_reducible refine Kd.C_drewN ?_ _) | (with_reducible refine Kd.C_drew ?_))); (case side2 => exact HC0.out); rintro e w4 ⟨v163, rfl, ho0, hb⟩; refine ⟨_, rfl, ?_⟩; have HO164 := Aside0.mk (Kd.R_lower ho0 (below_size Hd.b_)); replace HB := Aside0.mk (below_step Hd.b_ hb); (try clear hb); (try clear hb2); (try clear hk); (try clear hi); (try clear ho0); obtain ⟨Ao5, co5, eo5⟩ := Kd.R_slice HO164.out; subst eo5))
 go_ret
 exact ⟨Hd.e_, Hd.b_⟩
def laws_toPoint.f (a0_0 : Int) (a0_1 : Int) : Option (Int × Int) := some (a0_0, a0_1)
set_option maxHeartbeats 8000000 in
set_option maxRecDepth 100000 in
theorem laws_toPoint.calls (a0_0 : Int) (a0_1 : Int) (r1 : Int) (r2 : Int) (w : World) (h : laws_toPoint.f a0_0 a0_1 = some (r1, r2)) :
  Calls Try.prog 71 #[.agg #[.int .i64 a0_0, .int .i64 a0_1]] w fun e w' => e = .returned (.agg #[.int .i64 r1, .int .i64 r2]) ∧ Below w.heap.size w w' := by
 have hu87 := Try.underlying87
 have hu27 := Try.underlying27
 have HB := Aside0.mk (Below.refl w.heap.size w)
 have H : (some (a0_0, a0_1)) = some (r1, r2) := h
 clear h
 simp only [Option.some.injEq, Prod.mk.injEq] at H
 obtain ⟨rfl, rfl⟩ := H
 go_enter Try.func71, Try.ntmps71
 go_wp2_with (first | ((with_reducible refine gate_dst (N := 1) rfl ?_); refine Hd.box_ 1 (#[.int .i64 a0_0, .int .i64 a0_1]) 87 ?_; intro gb165 hg w2 hbox hb; have BK165 := Aside0.mk (hbox); have GW165 := Aside0.mk ((Hd.g_ hg Hd.b_ : w.heap.size ≤ gb165)); have GE165 := Aside0.mk ((Hd.g_ hg Hd.b_ : w.heap.size ≤ gb165)); replace HB := Aside0.mk (below_step Hd.b_ hb); clear hb hbox hg) | ((with_reducible refine gate_dst (N := 2) rfl ?_); refine Hd.box_ 2 (#[.int .i64 0, .int .i64 0]) 27 ?_; intro gb166 hg w3 hbox hb; have BK166 := Aside0.mk (hbox); have GW166 := Aside0.mk ((Hd.g_ hg Hd.b_ : w.heap.size ≤ gb166)); have GE166 := Aside0.mk ((Hd.g_ hg Hd.b_ : w.heap.size ≤ gb166)); replace HB := Aside0.mk (below_step Hd.b_ hb); have NB165_166 := Aside0.mk ((Hd.lt_ BK165 hg)); have NB166_165 := Aside0.mk ((Hd.gt_ BK165 hg)); replace BK165 := Aside0.mk (Hd.kb_ BK165 hb); clear hb hbox hg) | ((with_reducible refine gate_dst (N := 3) rfl ?_); refine Hd.box_ 3 (#[.int .i64 0, .int .i64 0]) 27 ?_; intro gb167 hg w4 hbox hb; have BK167 := Aside0.mk (hbox); have GW167 := Aside0.mk ((Hd.g_ hg Hd.b_ : w.heap.size ≤ gb167)); have GE167 := Aside0.mk ((Hd.g_ hg Hd.b_ : w.heap.size ≤ gb167)); replace HB := Aside0.mk (below_step Hd.b_ hb); have NB165_167 := Aside0.mk ((Hd.lt_ BK165 hg)); have NB167_165 := Aside0.mk ((Hd.gt_ BK165 hg)); replace BK165 := Aside0.mk (Hd.kb_ BK165 hb); have NB166_167 := Aside0.mk ((Hd.lt_ BK166 hg)); have NB167_166 := Aside0.mk ((Hd.gt_ BK166 hg)); replace BK166 := Aside0.mk (Hd.kb_ BK166 hb); clear hb hbox hg; have hnb5 := NB165_166.out; have hnc5 := NB166_165.out; have hnb6 := NB165_167.out; have hnc6 := NB167_165.out; obtain ⟨hcz7_0, hcz7_1⟩ := Hd.c2_ BK165.out; obtain ⟨hfz7_0, hfz7_1⟩ := Hd.f2_ BK165.out; have hnb8 := NB167_166.out; have hnc8 := NB166_167.out; obtain ⟨hcz9_0, hcz9_1⟩ := Hd.c2_ BK167.out; obtain ⟨hfz9_0, hfz9_1⟩ := Hd.f2_ BK167.out; obtain ⟨hcz10_0, hcz10_1⟩ := Hd.c2_ BK166.out; obtain ⟨hfz10_0, hfz10_1⟩ := Hd.f2_ BK166.out))
 refine bodyPost_ret (results_cell_row rfl _ _ gb166 27 #[.int .i64 a0_0, .int .i64 a0_1] (0, 0) _ rfl (by (with_reducible repeat (first | refine blk_drewN ?_ _ | refine blk_drew ?_ | refine blk_alloc ?_ _)); refine blk_put (cs := #[.int .i64 a0_0, .int .i64 0]) ?_ 1 _ rfl; (with_reducible repeat (first | refine blk_drewN ?_ _ | refine blk_drew ?_ | refine blk_alloc ?_ _)); refine blk_put (cs := #[.int .i64 0, .int .i64 0]) ?_ 0 _ rfl; (with_reducible repeat (first | refine blk_drewN ?_ _ | refine blk_drew ?_ | refine blk_alloc ?_ _)); refine blk_far ?_ NB166_167.out _; (with_reducible repeat (first | refine blk_drewN ?_ _ | refine blk_drew ?_ | refine blk_alloc ?_ _)); refine blk_far ?_ NB166_167.out _; (with_reducible repeat (first | refine blk_drewN ?_ _ | refine blk_drew ?_ | refine blk_alloc ?_ _)); exact BK166.out) Try.underlying27 rfl (by kernel_rfl)) rfl ?_
 exact ⟨Hd.e_, Hd.b_⟩
end Go.Proofs.Ytbackoeakepngaa.MFnExactCountLeftOut
