-- Laid by this session's program pp.py, after the kit's print and texts of the session's own. Not trusted: Lean checks it.
import Derived.Test.YtbackoeakepngaaZFnSimplifiedMx0
import Derived.Test.YtbackoeakepngaaZFnSimplifiedMx2
namespace Go.Proofs.Ytbackoeakepngaa.MFnSimplified
open Go.RowKit Go.Proofs.YtbackoeakepngaaW.PrintWords Go.Proofs.YtbackoeakepngaaW.PrintLast Go.Proofs.YtbackoeakepngaaW.PrintMore
attribute [local go_sem] max2_int min2_int max_two min_two max_three min_three max_four min_four   -- for this text's walks alone
set_option linter.unusedVariables false
set_option linter.unusedSimpArgs false
mutual
def impl_keepBetween.l0 : Nat → List (S27) → List Bool → Int → Int → Int → Int → Int → Int → Int → Int → Int → Int → Option (List Bool)
 | 0, _, _, _, _, _, _, _, _, _, _, _, _ => none
 | k + 1, x0, x1, x2, x3, x4, x10, x11, x13, x131000, x131001, x131002, x131003 => if x13 < x3 then (if 0 ≤ x13 then (if x13 < (x0.length : Int) then ((impl_farness.f x131000 x131001 x131002 x131003 ((rd_T27 x0 x13).f0) ((rd_T27 x0 x13).f1)).bind fun bt132 => (if bt132.1 > (wrap64 ((wrap64 (x4 * x4)) * bt132.2)) then (if x10 < 0 then (impl_keepBetween.l0 k x0 x1 x2 x3 x4 x13 bt132.1 (wrap64 (x13 + 1)) x131000 x131001 x131002 x131003) else (if bt132.1 > x11 then (impl_keepBetween.l0 k x0 x1 x2 x3 x4 x13 bt132.1 (wrap64 (x13 + 1)) x131000 x131001 x131002 x131003) else (impl_keepBetween.l0 k x0 x1 x2 x3 x4 x10 x11 (wrap64 (x13 + 1)) x131000 x131001 x131002 x131003))) else (impl_keepBetween.l0 k x0 x1 x2 x3 x4 x10 x11 (wrap64 (x13 + 1)) x131000 x131001 x131002 x131003))) else (none)) else (none)) else (if x10 < 0 then (some x1) else (if 0 ≤ x10 then (if x10 < (x1.length : Int) then ((impl_keepBetween.f k x0 (x1.set (x10 : Int).toNat true) x2 x10 x4).bind fun t135 => ((impl_keepBetween.f k x0 t135 x10 x3 x4).bind fun t136 => (some t136))) else (none)) else (none)))
def impl_keepBetween.f : Nat → List (S27) → List Bool → Int → Int → Int → Option (List Bool)
 | 0, _, _, _, _, _ => none
 | k + 1, l0, l1, a2, a3, a4 => if 0 ≤ a2 then (if a2 < (l0.length : Int) then (if 0 ≤ a3 then (if a3 < (l0.length : Int) then (impl_keepBetween.l0 k l0 l1 a2 a3 a4 (-1) 0 (wrap64 (a2 + 1)) ((rd_T27 l0 a2).f0) ((rd_T27 l0 a2).f1) ((rd_T27 l0 a3).f0) ((rd_T27 l0 a3).f1)) else (none)) else (none)) else (none)) else (none)
end
def impl_keepBetween.T1 : Bool × List (List Nat × List Nat) := (true, [([], []), ([], []), ([0, 1], [0, 1]), ([2], [2]), ([], []), ([], []), ([4, 5], [4, 5]), ([6], [6]), ([3, 7], [3, 7]), ([], []), ([9, 8, 0, 1, 2, 3, 4, 5, 6, 7, 8, 9], [8, 9])])
def impl_keepBetween.B1 : List Nat := [0, 0, 3, 7, 0, 0, 48, 112, 255, 0, 1023]
theorem impl_keepBetween.tab1 : rtab .any (opsOf Try.f77 1) = impl_keepBetween.T1 := by kernel_rfl
theorem impl_keepBetween.bits1 : waitsOk impl_keepBetween.T1.2 impl_keepBetween.B1 = true := by kernel_rfl
def impl_keepBetween.T5 : Bool × List (List Nat × List Nat) := (true, [([], []), ([], []), ([], []), ([1, 2], [1, 2]), ([3], [3]), ([0, 4], [0, 4]), ([5], [5]), ([6], [6]), ([6], [6]), ([7, 5, 0, 1, 2, 3, 4, 5, 6, 7], [7]), ([8, 9, 0, 1, 2, 3, 4, 5, 6, 7, 8, 9], [8])])
def impl_keepBetween.B5 : List Nat := [0, 0, 0, 6, 14, 31, 63, 127, 127, 255, 1023]
theorem impl_keepBetween.tab5 : rtab .any (opsOf Try.f77 5) = impl_keepBetween.T5 := by kernel_rfl
theorem impl_keepBetween.bits5 : waitsOk impl_keepBetween.T5.2 impl_keepBetween.B5 = true := by kernel_rfl
set_option maxHeartbeats 8000000 in
set_option maxRecDepth 100000 in
theorem impl_keepBetween.calls (k : Nat) : ∀ (A0 : Option Addr) (c0 : Nat) (l0 : List (S27)) (P1_ : Nat → Prop) (u9000_ : Value) (l1 : List Bool) (a2 : Int) (a3 : Int) (a4 : Int) (r : List Bool) (w0 w : World) (hB : Below w0.heap.size w0 w) (hr0 : ∀ W_, Kept w W_ (fun k_ => P1_ k_) → Kd.C k27 W_ A0 l0.length l0) (hc0 : l0.length ≤ c0) (ho1 : Kd.R Kd.bool 4 w w0.heap.size P1_ u9000_ l1) (h : impl_keepBetween.f k l0 l1 a2 a3 a4 = some r),
  Calls Try.prog 77 #[.slice A0 l0.length c0, u9000_, .int .i64 a2, .int .i64 a3, .int .i64 a4] w fun e w' => e = .returned (.tuple #[]) ∧ Kd.R Kd.bool 4 w' w0.heap.size (fun k_ => (P1_ k_ ∨ w.heap.size ≤ k_)) u9000_ r ∧ Below w0.heap.size w0 w' ∧ Kept w w' (fun k_ => P1_ k_) := by
 induction k using Nat.strongRecOn with
 | _ k ih =>
 intro A0 c0 l0 P1_ u9000_ l1 a2 a3 a4 r w0 w hB hr0 hc0 ho1 h
 cases k with
 | zero => exact absurd h (by simp [impl_keepBetween.f])
 | succ k =>
 simp only [impl_keepBetween.f] at h
 have hu27 := Try.underlying27
 have hu53 := Try.underlying53
 have HR0 := Aside0.mk hr0
 have HC0 := Aside0.mk hc0
 clear hr0 hc0
 have HO1 := Aside0.mk (show Kd.R Kd.bool 4 w w0.heap.size (fun k_ => (P1_ k_ ∨ w.heap.size ≤ k_)) u9000_ l1 from Kd.R_mono ho1 (fun k_ hk => (.inl hk)))
 have HK := Aside0.mk (Kept.refl w (fun k_ => P1_ k_))
 have HW0 := Aside0.mk hB.size
 have HB := Aside0.mk hB
 clear hB
 have H : (if 0 ≤ a2 then (if a2 < (l0.length : Int) then (if 0 ≤ a3 then (if a3 < (l0.length : Int) then (impl_keepBetween.l0 k l0 l1 a2 a3 a4 (-1) 0 (wrap64 (a2 + 1)) ((rd_T27 l0 a2).f0) ((rd_T27 l0 a2).f1) ((rd_T27 l0 a3).f0) ((rd_T27 l0 a3).f1)) else (none)) else (none)) else (none)) else (none)) = some r := h
 clear h
 by_cases c6 : 0 ≤ a2
 ·
  rw [if_pos c6] at H
  have c6b0 : decide (0 ≤ a2) = true := decide_eq_true c6
  clear c6
  by_cases c7 : a2 < (l0.length : Int)
  ·
   rw [if_pos c7] at H
   have c7b0 : decide (a2 < (l0.length : Int)) = true := decide_eq_true c7
   clear c7
   by_cases c8 : 0 ≤ a3
   ·
    rw [if_pos c8] at H
    have c8b0 : decide (0 ≤ a3) = true := decide_eq_true c8
    clear c8
    by_cases c9 : a3 < (l0.length : Int)
    ·
     rw [if_pos c9] at H
     have c9b0 : decide (a3 < (l0.length : Int)) = true := decide_eq_true c9
     clear c9
     have H' := Aside0.mk H
     clear H
     go_enter Try.func77, Try.ntmps77
     try go_wp2
     replace HO1 := Aside0.mk (Kd.R_drew HO1.out)
     replace HK := Aside0.mk (Kept.drew HK.out)
     replace HB := Aside0.mk (below_drew1 HB.out)
     have p128 : 0 ≤ (a2 : Int) := of_decide_eq_true Hd.a_
     have q128 : a2 < (l0.length : Int) := of_decide_eq_true Hd.a_
     obtain ⟨ad128, e128, hx128_0, hx128_1⟩ := at_T27 (Kd.C_kept_now HR0.out HK.out) a2 p128 q128
     have hw128_1 := hx128_1
     have hw128_0 := hx128_0
     cases e128
     replace p128 := eq_true p128
     replace q128 := eq_true q128
     have p129 : 0 ≤ (a3 : Int) := of_decide_eq_true Hd.a_
     have q129 : a3 < (l0.length : Int) := of_decide_eq_true Hd.a_
     obtain ⟨ad129, e129, hx129_0, hx129_1⟩ := at_T27 (Kd.C_kept_now HR0.out HK.out) a3 p129 q129
     have hw129_1 := hx129_1
     have hw129_0 := hx129_0
     obtain rfl : ad128 = ad129 := (by injection e129)
     replace p129 := eq_true p129
     replace q129 := eq_true q129
     refine start_ (n := 11) (S := fun w' => w'.cell? (ad128.add ((a2).toNat * 2)) = some (.int .i64 ((rd_T27 l0 a2).f0)) ∧ w'.cell? ⟨(ad128.add ((a2).toNat * 2)).block, (ad128.add ((a2).toNat * 2)).off + 1, none⟩ = some (.int .i64 ((rd_T27 l0 a2).f1)) ∧ w'.cell? (ad128.add ((a3).toNat * 2)) = some (.int .i64 ((rd_T27 l0 a3).f0)) ∧ w'.cell? ⟨(ad128.add ((a3).toNat * 2)).block, (ad128.add ((a3).toNat * 2)).off + 1, none⟩ = some (.int .i64 ((rd_T27 l0 a3).f1))) (ds := []) #[false, false, false, false, false, false, false, false, false, false, false] (by kernel_rfl) rfl rfl ⟨((fun W_ hC_ => (by obtain ⟨ad_, e_, h0_, h1_⟩ := at_T27 hC_ a2 (of_eq_true p128) (of_eq_true q128); obtain rfl : _ = ad_ := (by injection e_); exact h0_) : ∀ W_ : World, Kd.C _ W_ _ _ _ → W_.cell? (ad128.add ((a2).toNat * 2)) = some (.int .i64 ((rd_T27 l0 a2).f0))) _ (HR0.out _ (by repeat (first | exact HK.out | apply Kept.alloc | apply Kept.drewN | apply Kept.drew | refine Kept.setCell ?_ (.inr GW130.out) _ | refine Kept.setCell ?_ (.inr GW130.out) _ | refine Kept.setCell ?_ (.inr GW130.out) _ | refine Kept.setCell ?_ (.inr GW130.out) _)))), ((fun W_ hC_ => (by obtain ⟨ad_, e_, h0_, h1_⟩ := at_T27 hC_ a2 (of_eq_true p128) (of_eq_true q128); obtain rfl : _ = ad_ := (by injection e_); exact h1_) : ∀ W_ : World, Kd.C _ W_ _ _ _ → W_.cell? ⟨(ad128.add ((a2).toNat * 2)).block, (ad128.add ((a2).toNat * 2)).off + 1, none⟩ = some (.int .i64 ((rd_T27 l0 a2).f1))) _ (HR0.out _ (by repeat (first | exact HK.out | apply Kept.alloc | apply Kept.drewN | apply Kept.drew | refine Kept.setCell ?_ (.inr GW130.out) _ | refine Kept.setCell ?_ (.inr GW130.out) _ | refine Kept.setCell ?_ (.inr GW130.out) _ | refine Kept.setCell ?_ (.inr GW130.out) _)))), ((fun W_ hC_ => (by obtain ⟨ad_, e_, h0_, h1_⟩ := at_T27 hC_ a3 (of_eq_true p129) (of_eq_true q129); obtain rfl : _ = ad_ := (by injection e_); exact h0_) : ∀ W_ : World, Kd.C _ W_ _ _ _ → W_.cell? (ad128.add ((a3).toNat * 2)) = some (.int .i64 ((rd_T27 l0 a3).f0))) _ (HR0.out _ (by repeat (first | exact HK.out | apply Kept.alloc | apply Kept.drewN | apply Kept.drew | refine Kept.setCell ?_ (.inr GW130.out) _ | refine Kept.setCell ?_ (.inr GW130.out) _ | refine Kept.setCell ?_ (.inr GW130.out) _ | refine Kept.setCell ?_ (.inr GW130.out) _)))), ((fun W_ hC_ => (by obtain ⟨ad_, e_, h0_, h1_⟩ := at_T27 hC_ a3 (of_eq_true p129) (of_eq_true q129); obtain rfl : _ = ad_ := (by injection e_); exact h1_) : ∀ W_ : World, Kd.C _ W_ _ _ _ → W_.cell? ⟨(ad128.add ((a3).toNat * 2)).block, (ad128.add ((a3).toNat * 2)).off + 1, none⟩ = some (.int .i64 ((rd_T27 l0 a3).f1))) _ (HR0.out _ (by repeat (first | exact HK.out | apply Kept.alloc | apply Kept.drewN | apply Kept.drew | refine Kept.setCell ?_ (.inr GW130.out) _ | refine Kept.setCell ?_ (.inr GW130.out) _ | refine Kept.setCell ?_ (.inr GW130.out) _ | refine Kept.setCell ?_ (.inr GW130.out) _))))⟩ (fun hHeld => ?_); refine with_tabW impl_keepBetween.tab1 impl_keepBetween.bits1 (fun HT_ HW_ => ?_)
     generalize w.drew = w10 at HO1 HK HB hx128_0 hx128_1 hx129_0 hx129_1 hHeld ⊢
     refine Hd.p_ HT_ 0 (some 16) #[true, false, false, false, false, false, false, false, false, false, false] ?_
     refine Hd.p_ HT_ 1 (some 17) #[true, true, false, false, false, false, false, false, false, false, false] ?_
     refine Hd.p_ HT_ 2 (some 18) #[true, true, true, false, false, false, false, false, false, false, false] ?_
     refine Hd.p_ HT_ 4 (some 20) #[true, true, true, false, true, false, false, false, false, false, false] ?_
     refine Hd.p_ HT_ 5 (some 21) #[true, true, true, false, true, true, false, false, false, false, false] ?_
     refine Hd.p_ HT_ 6 (some 22) #[true, true, true, false, true, true, true, false, false, false, false] ?_
     refine Hd.t_ HT_ HW_ hHeld 3 (some 19) #[true, true, true, true, true, true, true, false, false, false, false] ?_
     refine Hd.t_ HT_ HW_ hHeld 7 (some 23) #[true, true, true, true, true, true, true, true, false, false, false] ?_
     refine Hd.p_ HT_ 8 (some 24) #[true, true, true, true, true, true, true, true, true, false, false] ?_
     refine Hd.o_ HT_ 9 (some 12) #[true, true, true, true, true, true, true, true, true, true, false] (fun K hK => ?_)
     refine box_step ?hg (N := 12) ?hd (cs := #[.int .i64 0, .int .i64 0, .int .i64 0, .int .i64 0]) (t := 53) ?hr ?_; (case hd => rfl); (case hg => rfl); (case hr => first | (go_simp; done) | (go_simp; rfl))
     intro gb130 hg w11 hbox hb
     replace HO1 := Aside0.mk (Kd.R_below (Hd.r_ HO1) hb)
     have BK130 := Aside0.mk (hbox)
     have GW130 := Aside0.mk ((by rw [hg]; exact (by first | exact HK.out.1 | exact (show Kept w _ (fun k_ => P1_ k_) from by repeat (first | (with_reducible first | exact HK.out | apply Kept.alloc | apply Kept.drewN | apply Kept.drew) | exact HK.out)).1) : w.heap.size ≤ gb130))
     replace HK := Aside0.mk (Kept.below (S := (fun k_ => P1_ k_)) (by repeat (first | (with_reducible first | exact HK.out | apply Kept.alloc | apply Kept.drewN | apply Kept.drew) | exact HK.out)) hb)
     have GE130 := Aside0.mk ((Hd.g_ hg Hd.b_ : w0.heap.size ≤ gb130))
     replace HB := Aside0.mk (below_step Hd.b_ hb)
     clear hb hbox hg
     refine hK.out _ _ ⟨((fun W_ hC_ => (by obtain ⟨ad_, e_, h0_, h1_⟩ := at_T27 hC_ a2 (of_eq_true p128) (of_eq_true q128); obtain rfl : _ = ad_ := (by injection e_); exact h0_) : ∀ W_ : World, Kd.C _ W_ _ _ _ → W_.cell? (ad128.add ((a2).toNat * 2)) = some (.int .i64 ((rd_T27 l0 a2).f0))) _ (HR0.out _ (by repeat (first | exact HK.out | apply Kept.alloc | apply Kept.drewN | apply Kept.drew | refine Kept.setCell ?_ (.inr GW130.out) _ | refine Kept.setCell ?_ (.inr GW130.out) _ | refine Kept.setCell ?_ (.inr GW130.out) _ | refine Kept.setCell ?_ (.inr GW130.out) _)))), ((fun W_ hC_ => (by obtain ⟨ad_, e_, h0_, h1_⟩ := at_T27 hC_ a2 (of_eq_true p128) (of_eq_true q128); obtain rfl : _ = ad_ := (by injection e_); exact h1_) : ∀ W_ : World, Kd.C _ W_ _ _ _ → W_.cell? ⟨(ad128.add ((a2).toNat * 2)).block, (ad128.add ((a2).toNat * 2)).off + 1, none⟩ = some (.int .i64 ((rd_T27 l0 a2).f1))) _ (HR0.out _ (by repeat (first | exact HK.out | apply Kept.alloc | apply Kept.drewN | apply Kept.drew | refine Kept.setCell ?_ (.inr GW130.out) _ | refine Kept.setCell ?_ (.inr GW130.out) _ | refine Kept.setCell ?_ (.inr GW130.out) _ | refine Kept.setCell ?_ (.inr GW130.out) _)))), ((fun W_ hC_ => (by obtain ⟨ad_, e_, h0_, h1_⟩ := at_T27 hC_ a3 (of_eq_true p129) (of_eq_true q129); obtain rfl : _ = ad_ := (by injection e_); exact h0_) : ∀ W_ : World, Kd.C _ W_ _ _ _ → W_.cell? (ad128.add ((a3).toNat * 2)) = some (.int .i64 ((rd_T27 l0 a3).f0))) _ (HR0.out _ (by repeat (first | exact HK.out | apply Kept.alloc | apply Kept.drewN | apply Kept.drew | refine Kept.setCell ?_ (.inr GW130.out) _ | refine Kept.setCell ?_ (.inr GW130.out) _ | refine Kept.setCell ?_ (.inr GW130.out) _ | refine Kept.setCell ?_ (.inr GW130.out) _)))), ((fun W_ hC_ => (by obtain ⟨ad_, e_, h0_, h1_⟩ := at_T27 hC_ a3 (of_eq_true p129) (of_eq_true q129); obtain rfl : _ = ad_ := (by injection e_); exact h1_) : ∀ W_ : World, Kd.C _ W_ _ _ _ → W_.cell? ⟨(ad128.add ((a3).toNat * 2)).block, (ad128.add ((a3).toNat * 2)).off + 1, none⟩ = some (.int .i64 ((rd_T27 l0 a3).f1))) _ (HR0.out _ (by repeat (first | exact HK.out | apply Kept.alloc | apply Kept.drewN | apply Kept.drew | refine Kept.setCell ?_ (.inr GW130.out) _ | refine Kept.setCell ?_ (.inr GW130.out) _ | refine Kept.setCell ?_ (.inr GW130.out) _ | refine Kept.setCell ?_ (.inr GW130.out) _))))⟩ (fun hHeld => ?_)
     clear hK K
     refine Hd.n_ (some 12) ?_
     refine Hd.o_ HT_ 10 (none) #[true, true, true, true, true, true, true, true, true, true, true] (fun K hK => ?_)
     have hs12 : w11.cell? ⟨gb130, 0, none⟩ = some (.int .i64 0) := (blk_cell BK130.out 0).trans rfl
     have hfs12 := blk_frozen BK130.out 0
     have hs13 : w11.cell? ⟨gb130, 1, none⟩ = some (.int .i64 0) := (blk_cell BK130.out 1).trans rfl
     have hfs13 := blk_frozen BK130.out 1
     have hs14 : w11.cell? ⟨gb130, 2, none⟩ = some (.int .i64 0) := (blk_cell BK130.out 2).trans rfl
     have hfs14 := blk_frozen BK130.out 2
     have hs15 : w11.cell? ⟨gb130, 3, none⟩ = some (.int .i64 0) := (blk_cell BK130.out 3).trans rfl
     have hfs15 := blk_frozen BK130.out 3
     refine skip_ (w1 := ?_) (by rfl) rfl ?_ ?_
     rotate_left
     ·
      go_simp
      rfl
     refine hK.out _ _ ⟨((fun W_ hC_ => (by obtain ⟨ad_, e_, h0_, h1_⟩ := at_T27 hC_ a2 (of_eq_true p128) (of_eq_true q128); obtain rfl : _ = ad_ := (by injection e_); exact h0_) : ∀ W_ : World, Kd.C _ W_ _ _ _ → W_.cell? (ad128.add ((a2).toNat * 2)) = some (.int .i64 ((rd_T27 l0 a2).f0))) _ (HR0.out _ (by repeat (first | exact HK.out | apply Kept.alloc | apply Kept.drewN | apply Kept.drew | refine Kept.setCell ?_ (.inr GW130.out) _ | refine Kept.setCell ?_ (.inr GW130.out) _ | refine Kept.setCell ?_ (.inr GW130.out) _ | refine Kept.setCell ?_ (.inr GW130.out) _)))), ((fun W_ hC_ => (by obtain ⟨ad_, e_, h0_, h1_⟩ := at_T27 hC_ a2 (of_eq_true p128) (of_eq_true q128); obtain rfl : _ = ad_ := (by injection e_); exact h1_) : ∀ W_ : World, Kd.C _ W_ _ _ _ → W_.cell? ⟨(ad128.add ((a2).toNat * 2)).block, (ad128.add ((a2).toNat * 2)).off + 1, none⟩ = some (.int .i64 ((rd_T27 l0 a2).f1))) _ (HR0.out _ (by repeat (first | exact HK.out | apply Kept.alloc | apply Kept.drewN | apply Kept.drew | refine Kept.setCell ?_ (.inr GW130.out) _ | refine Kept.setCell ?_ (.inr GW130.out) _ | refine Kept.setCell ?_ (.inr GW130.out) _ | refine Kept.setCell ?_ (.inr GW130.out) _)))), ((fun W_ hC_ => (by obtain ⟨ad_, e_, h0_, h1_⟩ := at_T27 hC_ a3 (of_eq_true p129) (of_eq_true q129); obtain rfl : _ = ad_ := (by injection e_); exact h0_) : ∀ W_ : World, Kd.C _ W_ _ _ _ → W_.cell? (ad128.add ((a3).toNat * 2)) = some (.int .i64 ((rd_T27 l0 a3).f0))) _ (HR0.out _ (by repeat (first | exact HK.out | apply Kept.alloc | apply Kept.drewN | apply Kept.drew | refine Kept.setCell ?_ (.inr GW130.out) _ | refine Kept.setCell ?_ (.inr GW130.out) _ | refine Kept.setCell ?_ (.inr GW130.out) _ | refine Kept.setCell ?_ (.inr GW130.out) _)))), ((fun W_ hC_ => (by obtain ⟨ad_, e_, h0_, h1_⟩ := at_T27 hC_ a3 (of_eq_true p129) (of_eq_true q129); obtain rfl : _ = ad_ := (by injection e_); exact h1_) : ∀ W_ : World, Kd.C _ W_ _ _ _ → W_.cell? ⟨(ad128.add ((a3).toNat * 2)).block, (ad128.add ((a3).toNat * 2)).off + 1, none⟩ = some (.int .i64 ((rd_T27 l0 a3).f1))) _ (HR0.out _ (by repeat (first | exact HK.out | apply Kept.alloc | apply Kept.drewN | apply Kept.drew | refine Kept.setCell ?_ (.inr GW130.out) _ | refine Kept.setCell ?_ (.inr GW130.out) _ | refine Kept.setCell ?_ (.inr GW130.out) _ | refine Kept.setCell ?_ (.inr GW130.out) _))))⟩ (fun hHeld => ?_)
     clear hK K
     refine done_ (done_of HT_.out (by kernel_rfl)) ?_
     try go_wp2
     go_loopg [10, 11, 13] k (fun kq v10 v11 v13 w' => ∃ (x10_1 : Int) (x11_1 : Int) (x13_1 : Int), v10 = .int .i64 x10_1 ∧ v11 = .int .i64 x11_1 ∧ v13 = .int .i64 x13_1 ∧ Aside0 (impl_keepBetween.l0 kq l0 l1 a2 a3 a4 x10_1 x11_1 x13_1 ((rd_T27 l0 a2).f0) ((rd_T27 l0 a2).f1) ((rd_T27 l0 a3).f0) ((rd_T27 l0 a3).f1) = some r) ∧ Aside0 (kq ≤ k) ∧ Aside0 (Kd.R Kd.bool 4 w' w0.heap.size (fun k_ => (P1_ k_ ∨ w.heap.size ≤ k_)) u9000_ l1) ∧ Aside0 (w'.heap[gb130]? = some (.cells #[.int .i64 ((rd_T27 l0 a2).f0), .int .i64 ((rd_T27 l0 a2).f1), .int .i64 ((rd_T27 l0 a3).f0), .int .i64 ((rd_T27 l0 a3).f1)] 53 (0, 0))) ∧ Aside0 (Kept w w' (fun k_ => P1_ k_)) ∧ Aside0 (Below w0.heap.size w0 w'))
     case atStart => exact ⟨((-1)), (0), (wrap64 (a2 + 1)), (by first | rfl | (simp; done) | (simp [*]; done)), (by first | rfl | (simp; done) | (simp [*]; done)), (by first | rfl | (simp; done) | (simp [*]; done)), H', ⟨Nat.le_refl _⟩, ⟨by (with_reducible repeat (first | apply Kd.R_alloc | apply Kd.R_drewN | apply Kd.R_drew)); exact Kd.R_mono (Kd.R_far (p := ⟨gb130, 3, none⟩) (Kd.R_far (p := ⟨gb130, 2, none⟩) (Kd.R_far (p := ⟨gb130, 1, none⟩) (Kd.R_far (p := ⟨gb130, 0, none⟩) (Kd.R_types HO1.out BK130.out (by decide)) (fun _ hk => hk.2) (.int .i64 ((rd_T27 l0 a2).f0))) (fun _ hk => hk.2) (.int .i64 ((rd_T27 l0 a2).f1))) (fun _ hk => hk.2) (.int .i64 ((rd_T27 l0 a3).f0))) (fun _ hk => hk.2) (.int .i64 ((rd_T27 l0 a3).f1))) (fun _ hk => hk.1)⟩, ⟨by (with_reducible repeat (first | refine blk_drewN ?_ _ | refine blk_drew ?_ | refine blk_alloc ?_ _)); refine blk_put (cs := #[.int .i64 ((rd_T27 l0 a2).f0), .int .i64 ((rd_T27 l0 a2).f1), .int .i64 ((rd_T27 l0 a3).f0), .int .i64 0]) ?_ 3 _ rfl; (with_reducible repeat (first | refine blk_drewN ?_ _ | refine blk_drew ?_ | refine blk_alloc ?_ _)); refine blk_put (cs := #[.int .i64 ((rd_T27 l0 a2).f0), .int .i64 ((rd_T27 l0 a2).f1), .int .i64 0, .int .i64 0]) ?_ 2 _ rfl; (with_reducible repeat (first | refine blk_drewN ?_ _ | refine blk_drew ?_ | refine blk_alloc ?_ _)); refine blk_put (cs := #[.int .i64 ((rd_T27 l0 a2).f0), .int .i64 0, .int .i64 0, .int .i64 0]) ?_ 1 _ rfl; (with_reducible repeat (first | refine blk_drewN ?_ _ | refine blk_drew ?_ | refine blk_alloc ?_ _)); refine blk_put (cs := #[.int .i64 0, .int .i64 0, .int .i64 0, .int .i64 0]) ?_ 0 _ rfl; (with_reducible repeat (first | refine blk_drewN ?_ _ | refine blk_drew ?_ | refine blk_alloc ?_ _)); exact BK130.out⟩, ⟨by repeat (first | (with_reducible first | exact HK.out | apply Kept.alloc | apply Kept.drewN | apply Kept.drew | refine Kept.setCell ?_ (.inr GW130.out) _) | exact HK.out)⟩, ⟨Hd.b_⟩⟩
     case round =>
      clear H'
      try clear p1
      try clear q1
      try clear hx1
      try clear p2
      try clear c6
      try clear c6b0
      try clear p6
      try clear c7
      try clear c7b0
      try clear c8
      try clear c8b0
      try clear c9
      try clear c9b0
      try clear p12
      try clear q12
      try clear hx12
      try clear hx128_0
      try clear hx128_1
      try clear hx129_0
      try clear hx129_1
      try clear p128
      try clear p129
      try clear q128
      try clear q129
      obtain ⟨x10_1, x11_1, x13_1, rfl, rfl, rfl, HA, HK1, HO_1, BK130, HK, HB⟩ := hrel
      cases gk with
      | zero => exact absurd HA.out (by simp [impl_keepBetween.l0])
      | succ k1 =>
       have H := HA.out
       clear HA
       simp only [impl_keepBetween.l0] at H
       by_cases c16 : x13_1 < a3
       ·
        rw [if_pos c16] at H
        have c16b0 : decide (x13_1 < a3) = true := decide_eq_true c16
        clear c16
        by_cases c17 : 0 ≤ x13_1
        ·
         rw [if_pos c17] at H
         have c17b0 : decide (0 ≤ x13_1) = true := decide_eq_true c17
         clear c17
         by_cases c18 : x13_1 < (l0.length : Int)
         ·
          rw [if_pos c18] at H
          have c18b0 : decide (x13_1 < (l0.length : Int)) = true := decide_eq_true c18
          clear c18
          replace H := Option.bind_eq_some_iff.mp H
          obtain ⟨⟨t132, t133⟩, A190, H⟩ := H
          replace H : (if t132 > (wrap64 ((wrap64 (a4 * a4)) * t133)) then (if x10_1 < 0 then (impl_keepBetween.l0 k1 l0 l1 a2 a3 a4 x13_1 t132 (wrap64 (x13_1 + 1)) ((rd_T27 l0 a2).f0) ((rd_T27 l0 a2).f1) ((rd_T27 l0 a3).f0) ((rd_T27 l0 a3).f1)) else (if t132 > x11_1 then (impl_keepBetween.l0 k1 l0 l1 a2 a3 a4 x13_1 t132 (wrap64 (x13_1 + 1)) ((rd_T27 l0 a2).f0) ((rd_T27 l0 a2).f1) ((rd_T27 l0 a3).f0) ((rd_T27 l0 a3).f1)) else (impl_keepBetween.l0 k1 l0 l1 a2 a3 a4 x10_1 x11_1 (wrap64 (x13_1 + 1)) ((rd_T27 l0 a2).f0) ((rd_T27 l0 a2).f1) ((rd_T27 l0 a3).f0) ((rd_T27 l0 a3).f1)))) else (impl_keepBetween.l0 k1 l0 l1 a2 a3 a4 x10_1 x11_1 (wrap64 (x13_1 + 1)) ((rd_T27 l0 a2).f0) ((rd_T27 l0 a2).f1) ((rd_T27 l0 a3).f0) ((rd_T27 l0 a3).f1))) = some r := H
          have A19 := Aside0.mk A190
          clear A190
          by_cases c20 : t132 > (wrap64 ((wrap64 (a4 * a4)) * t133))
          ·
           rw [if_pos c20] at H
           have c20b0 : decide ((wrap64 ((wrap64 (a4 * a4)) * t133)) < t132) = true := decide_eq_true c20
           clear c20
           by_cases c21 : x10_1 < 0
           ·
            rw [if_pos c21] at H
            have c21b0 : decide (x10_1 < 0) = true := decide_eq_true c21
            clear c21
            have H' := Aside0.mk H
            clear H
            try go_wp2
            replace HO_1 := Aside0.mk (Kd.R_drew HO_1.out)
            replace BK130 := Aside0.mk (blk_drew BK130.out)
            replace HK := Aside0.mk (Kept.drew HK.out)
            replace HB := Aside0.mk (below_drew1 HB.out)
            have p131 : 0 ≤ (x13_1 : Int) := of_decide_eq_true Hd.a_
            have q131 : x13_1 < (l0.length : Int) := of_decide_eq_true Hd.a_
            obtain ⟨ad131, e131, hx131_0, hx131_1⟩ := at_T27 (Kd.C_kept_now HR0.out HK.out) x13_1 p131 q131
            have hw131_1 := hx131_1
            have hw131_0 := hx131_0
            obtain rfl : ad128 = ad131 := (by injection e131)
            replace p131 := eq_true p131
            replace q131 := eq_true q131
            refine start_ (n := 11) (S := fun w' => w'.cell? ⟨gb130, 0, none⟩ = some (.int .i64 ((rd_T27 l0 a2).f0)) ∧ w'.cell? ⟨gb130, 1, none⟩ = some (.int .i64 ((rd_T27 l0 a2).f1)) ∧ w'.cell? ⟨gb130, 2, none⟩ = some (.int .i64 ((rd_T27 l0 a3).f0)) ∧ w'.cell? ⟨gb130, 3, none⟩ = some (.int .i64 ((rd_T27 l0 a3).f1)) ∧ w'.cell? (ad128.add ((x13_1).toNat * 2)) = some (.int .i64 ((rd_T27 l0 x13_1).f0)) ∧ w'.cell? ⟨(ad128.add ((x13_1).toNat * 2)).block, (ad128.add ((x13_1).toNat * 2)).off + 1, none⟩ = some (.int .i64 ((rd_T27 l0 x13_1).f1))) (ds := []) #[false, false, false, false, false, false, false, false, false, false, false] (by kernel_rfl) rfl rfl ⟨(blk_cell BK130.out 0).trans rfl, (blk_cell BK130.out 1).trans rfl, (blk_cell BK130.out 2).trans rfl, (blk_cell BK130.out 3).trans rfl, ((fun W_ hC_ => (by obtain ⟨ad_, e_, h0_, h1_⟩ := at_T27 hC_ x13_1 (of_eq_true p131) (of_eq_true q131); obtain rfl : _ = ad_ := (by injection e_); exact h0_) : ∀ W_ : World, Kd.C _ W_ _ _ _ → W_.cell? (ad128.add ((x13_1).toNat * 2)) = some (.int .i64 ((rd_T27 l0 x13_1).f0))) _ (HR0.out _ (by repeat (first | exact HK.out | apply Kept.alloc | apply Kept.drewN | apply Kept.drew)))), ((fun W_ hC_ => (by obtain ⟨ad_, e_, h0_, h1_⟩ := at_T27 hC_ x13_1 (of_eq_true p131) (of_eq_true q131); obtain rfl : _ = ad_ := (by injection e_); exact h1_) : ∀ W_ : World, Kd.C _ W_ _ _ _ → W_.cell? ⟨(ad128.add ((x13_1).toNat * 2)).block, (ad128.add ((x13_1).toNat * 2)).off + 1, none⟩ = some (.int .i64 ((rd_T27 l0 x13_1).f1))) _ (HR0.out _ (by repeat (first | exact HK.out | apply Kept.alloc | apply Kept.drewN | apply Kept.drew))))⟩ (fun hHeld => ?_); refine with_tabW impl_keepBetween.tab5 impl_keepBetween.bits5 (fun HT_ HW_ => ?_)
            generalize wr.drew = w22 at HO_1 BK130 HK HB hx131_0 hx131_1 hHeld ⊢
            refine Hd.p_ HT_ 1 (some 34) #[false, true, false, false, false, false, false, false, false, false, false] ?_
            refine Hd.p_ HT_ 2 (some 35) #[false, true, true, false, false, false, false, false, false, false, false] ?_
            refine Hd.p_ HT_ 3 (some 36) #[false, true, true, true, false, false, false, false, false, false, false] ?_
            refine Hd.t_ HT_ HW_ hHeld 0 (some 33) #[true, true, true, true, false, false, false, false, false, false, false] ?_
            refine Hd.t_ HT_ HW_ hHeld 4 (some 37) #[true, true, true, true, true, false, false, false, false, false, false] ?_
            refine Hd.o_ HT_ 5 (some 38) #[true, true, true, true, true, true, false, false, false, false, false] (fun K hK => ?_)
            refine goes_ Try.func84 (by kernel_rfl) rfl #[.agg #[.int .i64 ((rd_T27 l0 a2).f0), .int .i64 ((rd_T27 l0 a2).f1), .int .i64 ((rd_T27 l0 a3).f0), .int .i64 ((rd_T27 l0 a3).f1)], .agg #[.int .i64 ((rd_T27 l0 x13_1).f0), .int .i64 ((rd_T27 l0 x13_1).f1)]] (by rfl) rfl rfl Hd.m_ ?_
            with_reducible refine (impl_farness.calls ((rd_T27 l0 a2).f0) ((rd_T27 l0 a2).f1) ((rd_T27 l0 a3).f0) ((rd_T27 l0 a3).f1) ((rd_T27 l0 x13_1).f0) ((rd_T27 l0 x13_1).f1) t132 t133 _ A19.out).mono ?_
            rintro e w23 ⟨rfl, hb⟩
            refine ⟨_, rfl, ?_⟩
            replace HO_1 := Aside0.mk (Kd.R_below (Hd.r_ HO_1) hb)
            replace BK130 := Aside0.mk (Hd.kb_ BK130 hb)
            replace HK := Aside0.mk (Kept.below (S := (fun k_ => P1_ k_)) (by repeat (first | (with_reducible first | exact HK.out | apply Kept.alloc | apply Kept.drewN | apply Kept.drew | refine Kept.setCell ?_ (.inr GW130.out) _) | exact HK.out)) hb)
            replace HB := Aside0.mk (below_step Hd.b_ hb)
            (try clear hb)
            (try clear hb2)
            (try clear hk)
            (try clear hi)
            refine hK.out _ _ ⟨(blk_cell BK130.out 0).trans rfl, (blk_cell BK130.out 1).trans rfl, (blk_cell BK130.out 2).trans rfl, (blk_cell BK130.out 3).trans rfl, ((fun W_ hC_ => (by obtain ⟨ad_, e_, h0_, h1_⟩ := at_T27 hC_ x13_1 (of_eq_true p131) (of_eq_true q131); obtain rfl : _ = ad_ := (by injection e_); exact h0_) : ∀ W_ : World, Kd.C _ W_ _ _ _ → W_.cell? (ad128.add ((x13_1).toNat * 2)) = some (.int .i64 ((rd_T27 l0 x13_1).f0))) _ (HR0.out _ (by repeat (first | exact HK.out | apply Kept.alloc | apply Kept.drewN | apply Kept.drew)))), ((fun W_ hC_ => (by obtain ⟨ad_, e_, h0_, h1_⟩ := at_T27 hC_ x13_1 (of_eq_true p131) (of_eq_true q131); obtain rfl : _ = ad_ := (by injection e_); exact h1_) : ∀ W_ : World, Kd.C _ W_ _ _ _ → W_.cell? ⟨(ad128.add ((x13_1).toNat * 2)).block, (ad128.add ((x13_1).toNat * 2)).off + 1, none⟩ = some (.int .i64 ((rd_T27 l0 x13_1).f1))) _ (HR0.out _ (by repeat (first | exact HK.out | apply Kept.alloc | apply Kept.drewN | apply Kept.drew))))⟩ (fun hHeld => ?_)
            clear hK K
            refine Hd.n_ (some 38) ?_
            refine Hd.p_ HT_ 6 (some 32) #[true, true, true, true, true, true, true, false, false, false, false] ?_
            refine Hd.p_ HT_ 7 (some 39) #[true, true, true, true, true, true, true, true, false, false, false] ?_
            refine Hd.p_ HT_ 8 (some 40) #[true, true, true, true, true, true, true, true, true, false, false] ?_
            refine Hd.p_ HT_ 9 (some 14) #[true, true, true, true, true, true, true, true, true, true, false] ?_
            refine Hd.p_ HT_ 10 (some 15) #[true, true, true, true, true, true, true, true, true, true, true] ?_
            refine done_ (done_of HT_.out (by kernel_rfl)) ?_
            try go_wp2
            go_roundg k1
            case measure => have := HK1.out; omega
            case rel => exact ⟨(x13_1), (t132), (wrap64 (x13_1 + 1)), (by first | rfl | (simp; done) | (simp [*]; done)), (by first | rfl | (simp; done) | (simp [*]; done)), (by first | rfl | (simp; done) | (simp [*]; done)), H', ⟨by have := HK1.out; omega⟩, ⟨by (with_reducible repeat (first | apply Kd.R_alloc | apply Kd.R_drewN | apply Kd.R_drew)); exact HO_1.out⟩, ⟨by (with_reducible repeat (first | refine blk_drewN ?_ _ | refine blk_drew ?_ | refine blk_alloc ?_ _)); exact BK130.out⟩, ⟨by repeat (first | (with_reducible first | exact HK.out | apply Kept.alloc | apply Kept.drewN | apply Kept.drew | refine Kept.setCell ?_ (.inr GW130.out) _) | exact HK.out)⟩, ⟨Hd.b_⟩⟩
           ·
            rw [if_neg c21] at H
            have c21b0 : decide (x10_1 < 0) = false := decide_eq_false c21
            clear c21
            by_cases c24 : t132 > x11_1
            ·
             rw [if_pos c24] at H
             have c24b0 : decide (x11_1 < t132) = true := decide_eq_true c24
             clear c24
             have H' := Aside0.mk H
             clear H
             try go_wp2
             replace HO_1 := Aside0.mk (Kd.R_drew HO_1.out)
             replace BK130 := Aside0.mk (blk_drew BK130.out)
             replace HK := Aside0.mk (Kept.drew HK.out)
             replace HB := Aside0.mk (below_drew1 HB.out)
             have p131 : 0 ≤ (x13_1 : Int) := of_decide_eq_true Hd.a_
             have q131 : x13_1 < (l0.length : Int) := of_decide_eq_true Hd.a_
             obtain ⟨ad131, e131, hx131_0, hx131_1⟩ := at_T27 (Kd.C_kept_now HR0.out HK.out) x13_1 p131 q131
             have hw131_1 := hx131_1
             have hw131_0 := hx131_0
             obtain rfl : ad128 = ad131 := (by injection e131)
             replace p131 := eq_true p131
             replace q131 := eq_true q131
             refine start_ (n := 11) (S := fun w' => w'.cell? ⟨gb130, 0, none⟩ = some (.int .i64 ((rd_T27 l0 a2).f0)) ∧ w'.cell? ⟨gb130, 1, none⟩ = some (.int .i64 ((rd_T27 l0 a2).f1)) ∧ w'.cell? ⟨gb130, 2, none⟩ = some (.int .i64 ((rd_T27 l0 a3).f0)) ∧ w'.cell? ⟨gb130, 3, none⟩ = some (.int .i64 ((rd_T27 l0 a3).f1)) ∧ w'.cell? (ad128.add ((x13_1).toNat * 2)) = some (.int .i64 ((rd_T27 l0 x13_1).f0)) ∧ w'.cell? ⟨(ad128.add ((x13_1).toNat * 2)).block, (ad128.add ((x13_1).toNat * 2)).off + 1, none⟩ = some (.int .i64 ((rd_T27 l0 x13_1).f1))) (ds := []) #[false, false, false, false, false, false, false, false, false, false, false] (by kernel_rfl) rfl rfl ⟨(blk_cell BK130.out 0).trans rfl, (blk_cell BK130.out 1).trans rfl, (blk_cell BK130.out 2).trans rfl, (blk_cell BK130.out 3).trans rfl, ((fun W_ hC_ => (by obtain ⟨ad_, e_, h0_, h1_⟩ := at_T27 hC_ x13_1 (of_eq_true p131) (of_eq_true q131); obtain rfl : _ = ad_ := (by injection e_); exact h0_) : ∀ W_ : World, Kd.C _ W_ _ _ _ → W_.cell? (ad128.add ((x13_1).toNat * 2)) = some (.int .i64 ((rd_T27 l0 x13_1).f0))) _ (HR0.out _ (by repeat (first | exact HK.out | apply Kept.alloc | apply Kept.drewN | apply Kept.drew)))), ((fun W_ hC_ => (by obtain ⟨ad_, e_, h0_, h1_⟩ := at_T27 hC_ x13_1 (of_eq_true p131) (of_eq_true q131); obtain rfl : _ = ad_ := (by injection e_); exact h1_) : ∀ W_ : World, Kd.C _ W_ _ _ _ → W_.cell? ⟨(ad128.add ((x13_1).toNat * 2)).block, (ad128.add ((x13_1).toNat * 2)).off + 1, none⟩ = some (.int .i64 ((rd_T27 l0 x13_1).f1))) _ (HR0.out _ (by repeat (first | exact HK.out | apply Kept.alloc | apply Kept.drewN | apply Kept.drew))))⟩ (fun hHeld => ?_); refine with_tabW impl_keepBetween.tab5 impl_keepBetween.bits5 (fun HT_ HW_ => ?_)
             generalize wr.drew = w25 at HO_1 BK130 HK HB hx131_0 hx131_1 hHeld ⊢
             refine Hd.p_ HT_ 1 (some 34) #[false, true, false, false, false, false, false, false, false, false, false] ?_
             refine Hd.p_ HT_ 2 (some 35) #[false, true, true, false, false, false, false, false, false, false, false] ?_
             refine Hd.p_ HT_ 3 (some 36) #[false, true, true, true, false, false, false, false, false, false, false] ?_
             refine Hd.t_ HT_ HW_ hHeld 0 (some 33) #[true, true, true, true, false, false, false, false, false, false, false] ?_
             refine Hd.t_ HT_ HW_ hHeld 4 (some 37) #[true, true, true, true, true, false, false, false, false, false, false] ?_
             refine Hd.o_ HT_ 5 (some 38) #[true, true, true, true, true, true, false, false, false, false, false] (fun K hK => ?_)
             refine goes_ Try.func84 (by kernel_rfl) rfl #[.agg #[.int .i64 ((rd_T27 l0 a2).f0), .int .i64 ((rd_T27 l0 a2).f1), .int .i64 ((rd_T27 l0 a3).f0), .int .i64 ((rd_T27 l0 a3).f1)], .agg #[.int .i64 ((rd_T27 l0 x13_1).f0), .int .i64 ((rd_T27 l0 x13_1).f1)]] (by rfl) rfl rfl Hd.m_ ?_
             with_reducible refine (impl_farness.calls ((rd_T27 l0 a2).f0) ((rd_T27 l0 a2).f1) ((rd_T27 l0 a3).f0) ((rd_T27 l0 a3).f1) ((rd_T27 l0 x13_1).f0) ((rd_T27 l0 x13_1).f1) t132 t133 _ A19.out).mono ?_
             rintro e w26 ⟨rfl, hb⟩
             refine ⟨_, rfl, ?_⟩
             replace HO_1 := Aside0.mk (Kd.R_below (Hd.r_ HO_1) hb)
             replace BK130 := Aside0.mk (Hd.kb_ BK130 hb)
             replace HK := Aside0.mk (Kept.below (S := (fun k_ => P1_ k_)) (by repeat (first | (with_reducible first | exact HK.out | apply Kept.alloc | apply Kept.drewN | apply Kept.drew | refine Kept.setCell ?_ (.inr GW130.out) _) | exact HK.out)) hb)
             replace HB := Aside0.mk (below_step Hd.b_ hb)
             (try clear hb)
             (try clear hb2)
             (try clear hk)
             (try clear hi)
             refine hK.out _ _ ⟨(blk_cell BK130.out 0).trans rfl, (blk_cell BK130.out 1).trans rfl, (blk_cell BK130.out 2).trans rfl, (blk_cell BK130.out 3).trans rfl, ((fun W_ hC_ => (by obtain ⟨ad_, e_, h0_, h1_⟩ := at_T27 hC_ x13_1 (of_eq_true p131) (of_eq_true q131); obtain rfl : _ = ad_ := (by injection e_); exact h0_) : ∀ W_ : World, Kd.C _ W_ _ _ _ → W_.cell? (ad128.add ((x13_1).toNat * 2)) = some (.int .i64 ((rd_T27 l0 x13_1).f0))) _ (HR0.out _ (by repeat (first | exact HK.out | apply Kept.alloc | apply Kept.drewN | apply Kept.drew)))), ((fun W_ hC_ => (by obtain ⟨ad_, e_, h0_, h1_⟩ := at_T27 hC_ x13_1 (of_eq_true p131) (of_eq_true q131); obtain rfl : _ = ad_ := (by injection e_); exact h1_) : ∀ W_ : World, Kd.C _ W_ _ _ _ → W_.cell? ⟨(ad128.add ((x13_1).toNat * 2)).block, (ad128.add ((x13_1).toNat * 2)).off + 1, none⟩ = some (.int .i64 ((rd_T27 l0 x13_1).f1))) _ (HR0.out _ (by repeat (first | exact HK.out | apply Kept.alloc | apply Kept.drewN | apply Kept.drew))))⟩ (fun hHeld => ?_)
             clear hK K
             refine Hd.n_ (some 38) ?_
             refine Hd.p_ HT_ 6 (some 32) #[true, true, true, true, true, true, true, false, false, false, false] ?_
             refine Hd.p_ HT_ 7 (some 39) #[true, true, true, true, true, true, true, true, false, false, false] ?_
             refine Hd.p_ HT_ 8 (some 40) #[true, true, true, true, true, true, true, true, true, false, false] ?_
             refine Hd.p_ HT_ 9 (some 14) #[true, true, true, true, true, true, true, true, true, true, false] ?_
             refine Hd.p_ HT_ 10 (some 15) #[true, true, true, true, true, true, true, true, true, true, true] ?_
             refine done_ (done_of HT_.out (by kernel_rfl)) ?_
             try go_wp2
             go_roundg k1
             case measure => have := HK1.out; omega
             case rel => exact ⟨(x13_1), (t132), (wrap64 (x13_1 + 1)), (by first | rfl | (simp; done) | (simp [*]; done)), (by first | rfl | (simp; done) | (simp [*]; done)), (by first | rfl | (simp; done) | (simp [*]; done)), H', ⟨by have := HK1.out; omega⟩, ⟨by (with_reducible repeat (first | apply Kd.R_alloc | apply Kd.R_drewN | apply Kd.R_drew)); exact HO_1.out⟩, ⟨by (with_reducible repeat (first | refine blk_drewN ?_ _ | refine blk_drew ?_ | refine blk_alloc ?_ _)); exact BK130.out⟩, ⟨by repeat (first | (with_reducible first | exact HK.out | apply Kept.alloc | apply Kept.drewN | apply Kept.drew | refine Kept.setCell ?_ (.inr GW130.out) _) | exact HK.out)⟩, ⟨Hd.b_⟩⟩
            ·
             rw [if_neg c24] at H
             have c24b0 : decide (x11_1 < t132) = false := decide_eq_false c24
             clear c24
             have H' := Aside0.mk H
             clear H
             try go_wp2
             replace HO_1 := Aside0.mk (Kd.R_drew HO_1.out)
             replace BK130 := Aside0.mk (blk_drew BK130.out)
             replace HK := Aside0.mk (Kept.drew HK.out)
             replace HB := Aside0.mk (below_drew1 HB.out)
             have p131 : 0 ≤ (x13_1 : Int) := of_decide_eq_true Hd.a_
             have q131 : x13_1 < (l0.length : Int) := of_decide_eq_true Hd.a_
             obtain ⟨ad131, e131, hx131_0, hx131_1⟩ := at_T27 (Kd.C_kept_now HR0.out HK.out) x13_1 p131 q131
             have hw131_1 := hx131_1
             have hw131_0 := hx131_0
             obtain rfl : ad128 = ad131 := (by injection e131)
             replace p131 := eq_true p131
             replace q131 := eq_true q131
             refine start_ (n := 11) (S := fun w' => w'.cell? ⟨gb130, 0, none⟩ = some (.int .i64 ((rd_T27 l0 a2).f0)) ∧ w'.cell? ⟨gb130, 1, none⟩ = some (.int .i64 ((rd_T27 l0 a2).f1)) ∧ w'.cell? ⟨gb130, 2, none⟩ = some (.int .i64 ((rd_T27 l0 a3).f0)) ∧ w'.cell? ⟨gb130, 3, none⟩ = some (.int .i64 ((rd_T27 l0 a3).f1)) ∧ w'.cell? (ad128.add ((x13_1).toNat * 2)) = some (.int .i64 ((rd_T27 l0 x13_1).f0)) ∧ w'.cell? ⟨(ad128.add ((x13_1).toNat * 2)).block, (ad128.add ((x13_1).toNat * 2)).off + 1, none⟩ = some (.int .i64 ((rd_T27 l0 x13_1).f1))) (ds := []) #[false, false, false, false, false, false, false, false, false, false, false] (by kernel_rfl) rfl rfl ⟨(blk_cell BK130.out 0).trans rfl, (blk_cell BK130.out 1).trans rfl, (blk_cell BK130.out 2).trans rfl, (blk_cell BK130.out 3).trans rfl, ((fun W_ hC_ => (by obtain ⟨ad_, e_, h0_, h1_⟩ := at_T27 hC_ x13_1 (of_eq_true p131) (of_eq_true q131); obtain rfl : _ = ad_ := (by injection e_); exact h0_) : ∀ W_ : World, Kd.C _ W_ _ _ _ → W_.cell? (ad128.add ((x13_1).toNat * 2)) = some (.int .i64 ((rd_T27 l0 x13_1).f0))) _ (HR0.out _ (by repeat (first | exact HK.out | apply Kept.alloc | apply Kept.drewN | apply Kept.drew)))), ((fun W_ hC_ => (by obtain ⟨ad_, e_, h0_, h1_⟩ := at_T27 hC_ x13_1 (of_eq_true p131) (of_eq_true q131); obtain rfl : _ = ad_ := (by injection e_); exact h1_) : ∀ W_ : World, Kd.C _ W_ _ _ _ → W_.cell? ⟨(ad128.add ((x13_1).toNat * 2)).block, (ad128.add ((x13_1).toNat * 2)).off + 1, none⟩ = some (.int .i64 ((rd_T27 l0 x13_1).f1))) _ (HR0.out _ (by repeat (first | exact HK.out | apply Kept.alloc | apply Kept.drewN | apply Kept.drew))))⟩ (fun hHeld => ?_); refine with_tabW impl_keepBetween.tab5 impl_keepBetween.bits5 (fun HT_ HW_ => ?_)
             generalize wr.drew = w27 at HO_1 BK130 HK HB hx131_0 hx131_1 hHeld ⊢
             refine Hd.p_ HT_ 1 (some 34) #[false, true, false, false, false, false, false, false, false, false, false] ?_
             refine Hd.p_ HT_ 2 (some 35) #[false, true, true, false, false, false, false, false, false, false, false] ?_
             refine Hd.p_ HT_ 3 (some 36) #[false, true, true, true, false, false, false, false, false, false, false] ?_
             refine Hd.t_ HT_ HW_ hHeld 0 (some 33) #[true, true, true, true, false, false, false, false, false, false, false] ?_
             refine Hd.t_ HT_ HW_ hHeld 4 (some 37) #[true, true, true, true, true, false, false, false, false, false, false] ?_
             refine Hd.o_ HT_ 5 (some 38) #[true, true, true, true, true, true, false, false, false, false, false] (fun K hK => ?_)
             refine goes_ Try.func84 (by kernel_rfl) rfl #[.agg #[.int .i64 ((rd_T27 l0 a2).f0), .int .i64 ((rd_T27 l0 a2).f1), .int .i64 ((rd_T27 l0 a3).f0), .int .i64 ((rd_T27 l0 a3).f1)], .agg #[.int .i64 ((rd_T27 l0 x13_1).f0), .int .i64 ((rd_T27 l0 x13_1).f1)]] (by rfl) rfl rfl Hd.m_ ?_
             with_reducible refine (impl_farness.calls ((rd_T27 l0 a2).f0) ((rd_T27 l0 a2).f1) ((rd_T27 l0 a3).f0) ((rd_T27 l0 a3).f1) ((rd_T27 l0 x13_1).f0) ((rd_T27 l0 x13_1).f1) t132 t133 _ A19.out).mono ?_
             rintro e w28 ⟨rfl, hb⟩
             refine ⟨_, rfl, ?_⟩
             replace HO_1 := Aside0.mk (Kd.R_below (Hd.r_ HO_1) hb)
             replace BK130 := Aside0.mk (Hd.kb_ BK130 hb)
             replace HK := Aside0.mk (Kept.below (S := (fun k_ => P1_ k_)) (by repeat (first | (with_reducible first | exact HK.out | apply Kept.alloc | apply Kept.drewN | apply Kept.drew | refine Kept.setCell ?_ (.inr GW130.out) _) | exact HK.out)) hb)
             replace HB := Aside0.mk (below_step Hd.b_ hb)
             (try clear hb)
             (try clear hb2)
             (try clear hk)
             (try clear hi)
             refine hK.out _ _ ⟨(blk_cell BK130.out 0).trans rfl, (blk_cell BK130.out 1).trans rfl, (blk_cell BK130.out 2).trans rfl, (blk_cell BK130.out 3).trans rfl, ((fun W_ hC_ => (by obtain ⟨ad_, e_, h0_, h1_⟩ := at_T27 hC_ x13_1 (of_eq_true p131) (of_eq_true q131); obtain rfl : _ = ad_ := (by injection e_); exact h0_) : ∀ W_ : World, Kd.C _ W_ _ _ _ → W_.cell? (ad128.add ((x13_1).toNat * 2)) = some (.int .i64 ((rd_T27 l0 x13_1).f0))) _ (HR0.out _ (by repeat (first | exact HK.out | apply Kept.alloc | apply Kept.drewN | apply Kept.drew)))), ((fun W_ hC_ => (by obtain ⟨ad_, e_, h0_, h1_⟩ := at_T27 hC_ x13_1 (of_eq_true p131) (of_eq_true q131); obtain rfl : _ = ad_ := (by injection e_); exact h1_) : ∀ W_ : World, Kd.C _ W_ _ _ _ → W_.cell? ⟨(ad128.add ((x13_1).toNat * 2)).block, (ad128.add ((x13_1).toNat * 2)).off + 1, none⟩ = some (.int .i64 ((rd_T27 l0 x13_1).f1))) _ (HR0.out _ (by repeat (first | exact HK.out | apply Kept.alloc | apply Kept.drewN | apply Kept.drew))))⟩ (fun hHeld => ?_)
             clear hK K
             refine Hd.n_ (some 38) ?_
             refine Hd.p_ HT_ 6 (some 32) #[true, true, true, true, true, true, true, false, false, false, false] ?_
             refine Hd.p_ HT_ 7 (some 39) #[true, true, true, true, true, true, true, true, false, false, false] ?_
             refine Hd.p_ HT_ 8 (some 40) #[true, true, true, true, true, true, true, true, true, false, false] ?_
             refine Hd.p_ HT_ 9 (some 14) #[true, true, true, true, true, true, true, true, true, true, false] ?_
             refine Hd.p_ HT_ 10 (some 15) #[true, true, true, true, true, true, true, true, true, true, true] ?_
             refine done_ (done_of HT_.out (by kernel_rfl)) ?_
             try go_wp2
             go_roundg k1
             case measure => have := HK1.out; omega
             case rel => exact ⟨(x10_1), (x11_1), (wrap64 (x13_1 + 1)), (by first | rfl | (simp; done) | (simp [*]; done)), (by first | rfl | (simp; done) | (simp [*]; done)), (by first | rfl | (simp; done) | (simp [*]; done)), H', ⟨by have := HK1.out; omega⟩, ⟨by (with_reducible repeat (first | apply Kd.R_alloc | apply Kd.R_drewN | apply Kd.R_drew)); exact HO_1.out⟩, ⟨by (with_reducible repeat (first | refine blk_drewN ?_ _ | refine blk_drew ?_ | refine blk_alloc ?_ _)); exact BK130.out⟩, ⟨by repeat (first | (with_reducible first | exact HK.out | apply Kept.alloc | apply Kept.drewN | apply Kept.drew | refine Kept.setCell ?_ (.inr GW130.out) _) | exact HK.out)⟩, ⟨Hd.b_⟩⟩
          ·
           rw [if_neg c20] at H
           have c20b0 : decide ((wrap64 ((wrap64 (a4 * a4)) * t133)) < t132) = false := decide_eq_false c20
           clear c20
           have H' := Aside0.mk H
           clear H
           try go_wp2
           replace HO_1 := Aside0.mk (Kd.R_drew HO_1.out)
           replace BK130 := Aside0.mk (blk_drew BK130.out)
           replace HK := Aside0.mk (Kept.drew HK.out)
           replace HB := Aside0.mk (below_drew1 HB.out)
           have p131 : 0 ≤ (x13_1 : Int) := of_decide_eq_true Hd.a_
           have q131 : x13_1 < (l0.length : Int) := of_decide_eq_true Hd.a_
           obtain ⟨ad131, e131, hx131_0, hx131_1⟩ := at_T27 (Kd.C_kept_now HR0.out HK.out) x13_1 p131 q131
           have hw131_1 := hx131_1
           have hw131_0 := hx131_0
           obtain rfl : ad128 = ad131 := (by injection e131)
           replace p131 := eq_true p131
           replace q131 := eq_true q131
           refine start_ (n := 11) (S := fun w' => w'.cell? ⟨gb130, 0, none⟩ = some (.int .i64 ((rd_T27 l0 a2).f0)) ∧ w'.cell? ⟨gb130, 1, none⟩ = some (.int .i64 ((rd_T27 l0 a2).f1)) ∧ w'.cell? ⟨gb130, 2, none⟩ = some (.int .i64 ((rd_T27 l0 a3).f0)) ∧ w'.cell? ⟨gb130, 3, none⟩ = some (.int .i64 ((rd_T27 l0 a3).f1)) ∧ w'.cell? (ad128.add ((x13_1).toNat * 2)) = some (.int .i64 ((rd_T27 l0 x13_1).f0)) ∧ w'.cell? ⟨(ad128.add ((x13_1).toNat * 2)).block, (ad128.add ((x13_1).toNat * 2)).off + 1, none⟩ = some (.int .i64 ((rd_T27 l0 x13_1).f1))) (ds := []) #[false, false, false, false, false, false, false, false, false, false, false] (by kernel_rfl) rfl rfl ⟨(blk_cell BK130.out 0).trans rfl, (blk_cell BK130.out 1).trans rfl, (blk_cell BK130.out 2).trans rfl, (blk_cell BK130.out 3).trans rfl, ((fun W_ hC_ => (by obtain ⟨ad_, e_, h0_, h1_⟩ := at_T27 hC_ x13_1 (of_eq_true p131) (of_eq_true q131); obtain rfl : _ = ad_ := (by injection e_); exact h0_) : ∀ W_ : World, Kd.C _ W_ _ _ _ → W_.cell? (ad128.add ((x13_1).toNat * 2)) = some (.int .i64 ((rd_T27 l0 x13_1).f0))) _ (HR0.out _ (by repeat (first | exact HK.out | apply Kept.alloc | apply Kept.drewN | apply Kept.drew)))), ((fun W_ hC_ => (by obtain ⟨ad_, e_, h0_, h1_⟩ := at_T27 hC_ x13_1 (of_eq_true p131) (of_eq_true q131); obtain rfl : _ = ad_ := (by injection e_); exact h1_) : ∀ W_ : World, Kd.C _ W_ _ _ _ → W_.cell? ⟨(ad128.add ((x13_1).toNat * 2)).block, (ad128.add ((x13_1).toNat * 2)).off + 1, none⟩ = some (.int .i64 ((rd_T27 l0 x13_1).f1))) _ (HR0.out _ (by repeat (first | exact HK.out | apply Kept.alloc | apply Kept.drewN | apply Kept.drew))))⟩ (fun hHeld => ?_); refine with_tabW impl_keepBetween.tab5 impl_keepBetween.bits5 (fun HT_ HW_ => ?_)
           generalize wr.drew = w29 at HO_1 BK130 HK HB hx131_0 hx131_1 hHeld ⊢
           refine Hd.p_ HT_ 1 (some 34) #[false, true, false, false, false, false, false, false, false, false, false] ?_
           refine Hd.p_ HT_ 2 (some 35) #[false, true, true, false, false, false, false, false, false, false, false] ?_
           refine Hd.p_ HT_ 3 (some 36) #[false, true, true, true, false, false, false, false, false, false, false] ?_
           refine Hd.t_ HT_ HW_ hHeld 0 (some 33) #[true, true, true, true, false, false, false, false, false, false, false] ?_
           refine Hd.t_ HT_ HW_ hHeld 4 (some 37) #[true, true, true, true, true, false, false, false, false, false, false] ?_
           refine Hd.o_ HT_ 5 (some 38) #[true, true, true, true, true, true, false, false, false, false, false] (fun K hK => ?_)
           refine goes_ Try.func84 (by kernel_rfl) rfl #[.agg #[.int .i64 ((rd_T27 l0 a2).f0), .int .i64 ((rd_T27 l0 a2).f1), .int .i64 ((rd_T27 l0 a3).f0), .int .i64 ((rd_T27 l0 a3).f1)], .agg #[.int .i64 ((rd_T27 l0 x13_1).f0), .int .i64 ((rd_T27 l0 x13_1).f1)]] (by rfl) rfl rfl Hd.m_ ?_
           with_reducible refine (impl_farness.calls ((rd_T27 l0 a2).f0) ((rd_T27 l0 a2).f1) ((rd_T27 l0 a3).f0) ((rd_T27 l0 a3).f1) ((rd_T27 l0 x13_1).f0) ((rd_T27 l0 x13_1).f1) t132 t133 _ A19.out).mono ?_
           rintro e w30 ⟨rfl, hb⟩
           refine ⟨_, rfl, ?_⟩
           replace HO_1 := Aside0.mk (Kd.R_below (Hd.r_ HO_1) hb)
           replace BK130 := Aside0.mk (Hd.kb_ BK130 hb)
           replace HK := Aside0.mk (Kept.below (S := (fun k_ => P1_ k_)) (by repeat (first | (with_reducible first | exact HK.out | apply Kept.alloc | apply Kept.drewN | apply Kept.drew | refine Kept.setCell ?_ (.inr GW130.out) _) | exact HK.out)) hb)
           replace HB := Aside0.mk (below_step Hd.b_ hb)
           (try clear hb)
           (try clear hb2)
           (try clear hk)
           (try clear hi)
           refine hK.out _ _ ⟨(blk_cell BK130.out 0).trans rfl, (blk_cell BK130.out 1).trans rfl, (blk_cell BK130.out 2).trans rfl, (blk_cell BK130.out 3).trans rfl, ((fun W_ hC_ => (by obtain ⟨ad_, e_, h0_, h1_⟩ := at_T27 hC_ x13_1 (of_eq_true p131) (of_eq_true q131); obtain rfl : _ = ad_ := (by injection e_); exact h0_) : ∀ W_ : World, Kd.C _ W_ _ _ _ → W_.cell? (ad128.add ((x13_1).toNat * 2)) = some (.int .i64 ((rd_T27 l0 x13_1).f0))) _ (HR0.out _ (by repeat (first | exact HK.out | apply Kept.alloc | apply Kept.drewN | apply Kept.drew)))), ((fun W_ hC_ => (by obtain ⟨ad_, e_, h0_, h1_⟩ := at_T27 hC_ x13_1 (of_eq_true p131) (of_eq_true q131); obtain rfl : _ = ad_ := (by injection e_); exact h1_) : ∀ W_ : World, Kd.C _ W_ _ _ _ → W_.cell? ⟨(ad128.add ((x13_1).toNat * 2)).block, (ad128.add ((x13_1).toNat * 2)).off + 1, none⟩ = some (.int .i64 ((rd_T27 l0 x13_1).f1))) _ (HR0.out _ (by repeat (first | exact HK.out | apply Kept.alloc | apply Kept.drewN | apply Kept.drew))))⟩ (fun hHeld => ?_)
           clear hK K
           refine Hd.n_ (some 38) ?_
           refine Hd.p_ HT_ 6 (some 32) #[true, true, true, true, true, true, true, false, false, false, false] ?_
           refine Hd.p_ HT_ 7 (some 39) #[true, true, true, true, true, true, true, true, false, false, false] ?_
           refine Hd.p_ HT_ 8 (some 40) #[true, true, true, true, true, true, true, true, true, false, false] ?_
           refine Hd.p_ HT_ 9 (some 14) #[true, true, true, true, true, true, true, true, true, true, false] ?_
           refine Hd.p_ HT_ 10 (some 15) #[true, true, true, true, true, true, true, true, true, true, true] ?_
           refine done_ (done_of HT_.out (by kernel_rfl)) ?_
           try go_wp2
           go_roundg k1
           case measure => have := HK1.out; omega
           case rel => exact ⟨(x10_1), (x11_1), (wrap64 (x13_1 + 1)), (by first | rfl | (simp; done) | (simp [*]; done)), (by first | rfl | (simp; done) | (simp [*]; done)), (by first | rfl | (simp; done) | (simp [*]; done)), H', ⟨by have := HK1.out; omega⟩, ⟨by (with_reducible repeat (first | apply Kd.R_alloc | apply Kd.R_drewN | apply Kd.R_drew)); exact HO_1.out⟩, ⟨by (with_reducible repeat (first | refine blk_drewN ?_ _ | refine blk_drew ?_ | refine blk_alloc ?_ _)); exact BK130.out⟩, ⟨by repeat (first | (with_reducible first | exact HK.out | apply Kept.alloc | apply Kept.drewN | apply Kept.drew | refine Kept.setCell ?_ (.inr GW130.out) _) | exact HK.out)⟩, ⟨Hd.b_⟩⟩
         ·
          rw [if_neg c18] at H
          exact absurd H (by simp)
        ·
         rw [if_neg c17] at H
         exact absurd H (by simp)
       ·
        rw [if_neg c16] at H
        have c16b0 : decide (x13_1 < a3) = false := decide_eq_false c16
        clear c16
        by_cases c31 : x10_1 < 0
        ·
         rw [if_pos c31] at H
         have c31b0 : decide (x10_1 < 0) = true := decide_eq_true c31
         clear c31
         obtain rfl := Option.some.inj H
         go_wp2
         first | go_end0 | ((try simp only [Exit.inBlock, Exit.then]); refine bodyPost_ret (results_none rfl _ _ _) rfl ?_)
         exact ⟨Hd.e_, by (with_reducible repeat (first | apply Kd.R_alloc | apply Kd.R_drewN | apply Kd.R_drew)); exact HO_1.out, Hd.b_, by repeat (first | (with_reducible first | exact HK.out | apply Kept.alloc | apply Kept.drewN | apply Kept.drew | refine Kept.setCell ?_ (.inr GW130.out) _) | exact HK.out)⟩
        ·
         rw [if_neg c31] at H
         have c31b0 : decide (x10_1 < 0) = false := decide_eq_false c31
         clear c31
         by_cases c32 : 0 ≤ x10_1
         ·
          rw [if_pos c32] at H
          have c32b0 : decide (0 ≤ x10_1) = true := decide_eq_true c32
          clear c32
          by_cases c33 : x10_1 < (l1.length : Int)
          ·
           rw [if_pos c33] at H
           have c33b0 : decide (x10_1 < (l1.length : Int)) = true := decide_eq_true c33
           clear c33
           obtain ⟨y134, hy134⟩ : ∃ y_ : List Bool, y_ = (l1.set (x10_1 : Int).toNat true) := ⟨_, rfl⟩
           replace H : ((impl_keepBetween.f k1 l0 y134 a2 x10_1 a4).bind fun t135 => ((impl_keepBetween.f k1 l0 t135 x10_1 a3 a4).bind fun t136 => (some t136))) = some r := by first | (rw [hy134]; with_reducible exact H) | (have H2_ := (Option.bind_some _ _).symm.trans H; rw [hy134]; with_reducible exact H2_) | (have H2_ := (Option.bind_some _ _).symm.trans H; with_reducible exact H2_) | with_reducible exact H | (rw [hy134]; exact H) | exact H
           have Ny134 := Aside0.mk hy134
           clear hy134
           replace H := Option.bind_eq_some_iff.mp H
           obtain ⟨t135, A350, H⟩ := H
           replace H : ((impl_keepBetween.f k1 l0 t135 x10_1 a3 a4).bind fun t136 => (some t136)) = some r := H
           have A35 := Aside0.mk A350
           clear A350
           replace H := Option.bind_eq_some_iff.mp H
           obtain ⟨t136, A360, H⟩ := H
           replace H : (some t136) = some r := H
           have A36 := Aside0.mk A360
           clear A360
           obtain rfl := Option.some.inj H
           have p34 : 0 ≤ (x10_1 : Int) := of_decide_eq_true Hd.a_
           have q34 : (x10_1 : Int) < ((l1.length : Int) : Int) := of_decide_eq_true Hd.a_
           obtain ⟨go34, co34, eo34, gb34, gl34, cl34, HG34⟩ := Kd.R_form HO_1.out (by omega)
           (first | cases eo34 | (injection eo34 with ea_ en_ ec_; (first | subst ea_ | (injection ea_ with ea_; subst ea_)); subst ec_; clear en_))
           have GB34 := Aside0.mk gb34
           have GG34 := Aside0.mk HG34
           clear gb34 gl34 HG34
           have HMgo34 := Aside0.mk (show (P1_ go34 ∨ w.heap.size ≤ go34) from (HO_1.out.1 _ rfl))
           obtain ⟨hx34_0, hf34_0⟩ := Kd.R_celln false HO_1.out (x10_1 : Int) p34 q34
           replace p34 := eq_true p34
           replace q34 := eq_true q34
           have HP37 := Kd.R_putg HO_1.out (x10_1 : Int) true
           go_wp2_with (first | ((with_reducible refine gate_store (t := 4) (p := 63) rfl ?_); refine store_event (t := 4) (p := 63) (v := ?vo_w38) (w1 := (wr.setCell ⟨go34, (x10_1 : Int).toNat, none⟩ (.bool true))) ?hg ?ho ?hn ?hr ?_; (case ho => rfl); (case hg => rfl); (case hn => rfl); (case hr => first | (go_simp; done) | (go_simp; rfl)); intro w38 hw; have hg : wr.grownBy w38 (some go34) := (by rw [hw]; exact HP37.2); have hp_ : Kd.R Kd.bool 4 w38 w0.heap.size (fun k_ => (P1_ k_ ∨ w.heap.size ≤ k_)) (.slice (some ⟨go34, 0, none⟩) l1.length co34) y134 := (by rw [hw, Ny134.out]; exact HP37.1); clear HP37; replace BK130 := Aside0.mk (blk_grown (g := gb130) (o := .cells #[.int .i64 ((rd_T27 l0 a2).f0), .int .i64 ((rd_T27 l0 a2).f1), .int .i64 ((rd_T27 l0 a3).f0), .int .i64 ((rd_T27 l0 a3).f1)] 53 (0, 0)) (Hd.k_ BK130) hg (Kd.R_ne HO_1.out BK130.out (by decide))); replace HB := Aside0.mk ((by rw [hw]; exact below_set (HB.out) GB34.out : Below w0.heap.size w0 w38)); replace HK := Aside0.mk (Kept.of_grown (S := (fun k_ => P1_ k_)) hg (by repeat (first | (with_reducible first | exact HK.out | apply Kept.alloc | apply Kept.drewN | apply Kept.drew | refine Kept.setCell ?_ (.inr GW130.out) _) | exact HK.out)) (fun k_ e_ => (HO_1.out.1 k_ e_))); replace HO_1 := Aside0.mk (hp_); clear hg hw hp_) | ((with_reducible refine gate_callee (f := 77) rfl ?_); refine goesL_ (some 69) rfl rfl Try.func77 (by kernel_rfl) rfl #[.slice (some ad128) l0.length c0, .slice (some ⟨go34, 0, none⟩) l1.length co34, .int .i64 a2, .int .i64 x10_1, .int .i64 a4] rfl Hd.m_ ?_; (with_reducible refine (ih k1 (by have := HK1.out; omega) _ _ l0 (fun k_ => some k_ = (.slice (some ⟨go34, 0, none⟩) l1.length co34 : Value).ownBlock) (.slice (some ⟨go34, 0, none⟩) l1.length co34) y134 a2 x10_1 a4 t135 w0 _ ?side1 ?side2 ?side3 ?side4 A35.out).mono ?_); (case side1 => repeat (first | (with_reducible first | exact HB.out | apply below_alloc | apply pw_below_drewN | apply below_drew1 | refine below_set ?_ GE130.out) | exact HB.out)); (case side2 => exact Kd.C_kept_call HR0.out (by repeat (first | (with_reducible first | exact HK.out | apply Kept.alloc | apply Kept.drewN | apply Kept.drew | refine Kept.setCell ?_ (.inr GW130.out) _) | exact HK.out)) (fun k_ hs_ => (fun e_ => (HO_1.out.1 k_ e_.symm)) hs_)); (case side3 => exact HC0.out); (case side4 => exact Kd.R_tight rfl HO_1.out); rintro e w39 ⟨rfl, hy0, hb, hkp⟩; refine ⟨_, rfl, ?_⟩; replace BK130 := Aside0.mk (blk_kept (Hd.k_ BK130) hkp (fun hs_ => (fun e_ => (Kd.R_ne HO_1.out BK130.out (by decide)) e_) hs_)); replace HK := Aside0.mk (Kept.then_ (S := (fun k_ => P1_ k_)) (by repeat (first | (with_reducible first | exact HK.out | apply Kept.alloc | apply Kept.drewN | apply Kept.drew | refine Kept.setCell ?_ (.inr GW130.out) _) | exact HK.out)) hkp (fun k_ hs_ => (fun e_ => (HO_1.out.1 k_ e_.symm)) hs_)); replace HO_1 := Aside0.mk (Kd.R_reok rfl hy0 (fun k_ e_ => HO_1.out.1 k_ e_)); replace HB := Aside0.mk (hb); (try clear hb); (try clear hkp); (try clear hy0)) | ((with_reducible refine gate_callee (f := 77) rfl ?_); refine goesL_ (some 75) rfl rfl Try.func77 (by kernel_rfl) rfl #[.slice (some ad128) l0.length c0, .slice (some ⟨go34, 0, none⟩) l1.length co34, .int .i64 x10_1, .int .i64 a3, .int .i64 a4] rfl Hd.m_ ?_; (with_reducible refine (ih k1 (by have := HK1.out; omega) _ _ l0 (fun k_ => some k_ = (.slice (some ⟨go34, 0, none⟩) l1.length co34 : Value).ownBlock) (.slice (some ⟨go34, 0, none⟩) l1.length co34) t135 x10_1 a3 a4 t136 w0 _ ?side1 ?side2 ?side3 ?side4 A36.out).mono ?_); (case side1 => repeat (first | (with_reducible first | exact HB.out | apply below_alloc | apply pw_below_drewN | apply below_drew1 | refine below_set ?_ GE130.out) | exact HB.out)); (case side2 => exact Kd.C_kept_call HR0.out (by repeat (first | (with_reducible first | exact HK.out | apply Kept.alloc | apply Kept.drewN | apply Kept.drew | refine Kept.setCell ?_ (.inr GW130.out) _) | exact HK.out)) (fun k_ hs_ => (fun e_ => (HO_1.out.1 k_ e_.symm)) hs_)); (case side3 => exact HC0.out); (case side4 => exact Kd.R_tight rfl HO_1.out); rintro e w40 ⟨rfl, hy0, hb, hkp⟩; refine ⟨_, rfl, ?_⟩; replace BK130 := Aside0.mk (blk_kept (Hd.k_ BK130) hkp (fun hs_ => (fun e_ => (Kd.R_ne HO_1.out BK130.out (by decide)) e_) hs_)); replace HK := Aside0.mk (Kept.then_ (S := (fun k_ => P1_ k_)) (by repeat (first | (with_reducible first | exact HK.out | apply Kept.alloc | apply Kept.drewN | apply Kept.drew | refine Kept.setCell ?_ (.inr GW130.out) _) | exact HK.out)) hkp (fun k_ hs_ => (fun e_ => (HO_1.out.1 k_ e_.symm)) hs_)); replace HO_1 := Aside0.mk (Kd.R_reok rfl hy0 (fun k_ e_ => HO_1.out.1 k_ e_)); replace HB := Aside0.mk (hb); (try clear hb); (try clear hkp); (try clear hy0)))
           first | go_end0 | ((try simp only [Exit.inBlock, Exit.then]); refine bodyPost_ret (results_none rfl _ _ _) rfl ?_)
           exact ⟨Hd.e_, by (with_reducible repeat (first | apply Kd.R_alloc | apply Kd.R_drewN | apply Kd.R_drew)); exact HO_1.out, Hd.b_, by repeat (first | (with_reducible first | exact HK.out | apply Kept.alloc | apply Kept.drewN | apply Kept.drew | refine Kept.setCell ?_ (.inr GW130.out) _) | exact HK.out)⟩
          ·
           rw [if_neg c33] at H
           exact absurd H (by simp)
         ·
          rw [if_neg c32] at H
          exact absurd H (by simp)
    ·
     rw [if_neg c9] at H
     exact absurd H (by simp)
   ·
    rw [if_neg c8] at H
    exact absurd H (by simp)
  ·
   rw [if_neg c7] at H
   exact absurd H (by simp)
 ·
  rw [if_neg c6] at H
  exact absurd H (by simp)
mutual
def impl_SimplifyLine.j0 : Nat → List (S27) → Int → Bool → Option ((List (S27)))
 | 0, _, _, _ => none
 | k + 1, x0, x1, x16 => if x16 = true then ((impl_Point.f x0).bind fun t139 => (some t139)) else (if 0 ≤ (x0.length : Int) then (if ((x0.length : Int) : Int).toNat ≤ 281474976710656 then ((some (List.replicate ((x0.length : Int) : Int).toNat false : List Bool)).bind fun y142 => (if 0 < (y142.length : Int) then (if 0 ≤ (wrap64 ((x0.length : Int) - 1)) then (if (wrap64 ((x0.length : Int) - 1)) < (y142.length : Int) then ((impl_keepBetween.f k x0 ((y142.set (0 : Int).toNat true).set ((wrap64 ((x0.length : Int) - 1)) : Int).toNat true) 0 (wrap64 ((x0.length : Int) - 1)) x1).bind fun t147 => (impl_SimplifyLine.l0 k t147 (([] : List (S27))) x0 (x0.length : Int) 0)) else (none)) else (none)) else (none))) else (none)) else (none))
def impl_SimplifyLine.l0 : Nat → List Bool → List (S27) → List (S27) → Int → Int → Option ((List (S27)))
 | 0, _, _, _, _, _ => none
 | k + 1, x5, x6, x37, x38, x39 => if x39 < x38 then (if 0 ≤ x39 then (if x39 < (x37.length : Int) then (if x39 < (x5.length : Int) then (if rdOf false x5 x39 = true then (if x6.length < 8796093022208 then (impl_SimplifyLine.l0 k x5 (x6 ++ [(⟨(rd_T27 x37 x39).f0, (rd_T27 x37 x39).f1⟩ : S27)]) x37 x38 (wrap64 (x39 + 1))) else (none)) else (impl_SimplifyLine.l0 k x5 x6 x37 x38 (wrap64 (x39 + 1)))) else (none)) else (none)) else (none)) else (some x6)
end
def impl_SimplifyLine.f (k : Nat) (l0 : List (S27)) (a1 : Int) : Option ((List (S27))) := (impl_IsLine.f k l0).bind fun t137 => (if t137 = true then ((impl_InRange.f a1 0 200).bind fun t138 => (impl_SimplifyLine.j0 k l0 a1 (!t138))) else (impl_SimplifyLine.j0 k l0 a1 true))
set_option maxHeartbeats 8000000 in
set_option maxRecDepth 100000 in
theorem impl_SimplifyLine.calls (k : Nat) (A0 : Option Addr) (c0 : Nat) (l0 : List (S27)) (a1 : Int) (r : List (S27)) (w : World) (hr0 : Kd.C k27 w A0 l0.length l0) (hc0 : l0.length ≤ c0) (h : impl_SimplifyLine.f k l0 a1 = some r) :
  Calls Try.prog 28 #[.slice A0 l0.length c0, .int .i64 a1] w fun e w' => ∃ v0_ : Value, e = .returned (v0_) ∧ Kd.R k27 27 w' w.heap.size (fun _ => True) v0_ r ∧ Below w.heap.size w w' := by
 have hu27 := Try.underlying27
 have HR0 := Aside0.mk hr0
 have HC0 := Aside0.mk hc0
 clear hr0 hc0
 have HB := Aside0.mk (Below.refl w.heap.size w)
 have H : ((impl_IsLine.f k l0).bind fun t137 => (if t137 = true then ((impl_InRange.f a1 0 200).bind fun t138 => (impl_SimplifyLine.j0 k l0 a1 (!t138))) else (impl_SimplifyLine.j0 k l0 a1 true))) = some r := h
 clear h
 have HC3 := Aside0.mk H
 clear H
 go_enter Try.func28, Try.ntmps28
 go_upto_region 1 with (fail)
 go_cut [16] (fun v16 wc => ∃ (kq : Nat) (x16_2 : Bool), v16 = .bool x16_2 ∧ Aside0 (impl_SimplifyLine.j0 kq l0 a1 x16_2 = some r) ∧ Aside0 (kq ≤ k) ∧ Aside0 (Below w.heap.size w wc))
 case first =>
  have H := HC3.out
  clear HC3
  replace H := Option.bind_eq_some_iff.mp H
  obtain ⟨t137, A40, H⟩ := H
  replace H : (if t137 = true then ((impl_InRange.f a1 0 200).bind fun t138 => (impl_SimplifyLine.j0 k l0 a1 (!t138))) else (impl_SimplifyLine.j0 k l0 a1 true)) = some r := H
  have A4 := Aside0.mk A40
  clear A40
  by_cases c5 : t137 = true
  ·
   subst c5
   have H1 : ((impl_InRange.f a1 0 200).bind fun t138 => (impl_SimplifyLine.j0 k l0 a1 (!t138))) = some r := by rw [if_pos rfl] at H; exact H
   clear H
   have H := H1
   clear H1
   replace H := Option.bind_eq_some_iff.mp H
   obtain ⟨t138, A60, H⟩ := H
   replace H : (impl_SimplifyLine.j0 k l0 a1 (!t138)) = some r := H
   have A6 := Aside0.mk A60
   clear A60
   have H' := Aside0.mk H
   clear H
   go_wp2_with (first | ((with_reducible refine gate_callee (f := 33) rfl ?_); refine goesL_ (some 10) rfl rfl Try.func33 (by kernel_rfl) rfl #[.slice A0 l0.length c0] rfl Hd.m_ ?_; (with_reducible refine (impl_IsLine.calls k _ _ l0 true _ ?side1 ?side2 A4.out).mono ?_); (case side1 => repeat (first | exact (Kd.C_below HR0.out HB.out) | (with_reducible refine Kd.C_alloc ?_ _) | (with_reducible refine Kd.C_drewN ?_ _) | (with_reducible refine Kd.C_drew ?_))); (case side2 => exact HC0.out); rintro e w7 ⟨rfl, hb⟩; refine ⟨_, rfl, ?_⟩; replace HB := Aside0.mk (below_step Hd.b_ hb); (try clear hb); (try clear hb2); (try clear hk); (try clear hi)) | (go_at_call 65; (with_reducible refine (impl_InRange.calls a1 0 200 t138 _ A6.out).mono ?_); rintro e w' ⟨rfl, ⟨nd, rfl⟩⟩))
   go_meet
   case rel => exact ⟨_, (!t138), (by first | rfl | (simp; done) | (simp [*]; done)), H', ⟨by first | omega | exact Nat.le_refl _⟩, ⟨Hd.b_⟩⟩
  ·
   replace c5 := Bool.eq_false_iff.mpr c5
   subst c5
   have H1 : (impl_SimplifyLine.j0 k l0 a1 true) = some r := by rw [if_neg (show ¬ (false = true) by decide)] at H; exact H
   clear H
   have H := H1
   clear H1
   have H' := Aside0.mk H
   clear H
   go_wp2_with (first | ((with_reducible refine gate_callee (f := 33) rfl ?_); refine goesL_ (some 10) rfl rfl Try.func33 (by kernel_rfl) rfl #[.slice A0 l0.length c0] rfl Hd.m_ ?_; (with_reducible refine (impl_IsLine.calls k _ _ l0 false _ ?side1 ?side2 A4.out).mono ?_); (case side1 => repeat (first | exact (Kd.C_below HR0.out HB.out) | (with_reducible refine Kd.C_alloc ?_ _) | (with_reducible refine Kd.C_drewN ?_ _) | (with_reducible refine Kd.C_drew ?_))); (case side2 => exact HC0.out); rintro e w8 ⟨rfl, hb⟩; refine ⟨_, rfl, ?_⟩; replace HB := Aside0.mk (below_step Hd.b_ hb); (try clear hb); (try clear hb2); (try clear hk); (try clear hi)))
   go_meet
   case rel => exact ⟨_, (true), (by first | rfl | (simp; done) | (simp [*]; done)), H', ⟨by first | omega | exact Nat.le_refl _⟩, ⟨Hd.b_⟩⟩
 case rest =>
  clear HC3
  try clear c2
  try clear p2
  try clear c3
  try clear c5
  obtain ⟨kq, x16_2, rfl, HA, HJ2, HB⟩ := hcut
  cases kq with
  | zero => exact absurd HA.out (by simp [impl_SimplifyLine.j0])
  | succ kj2 =>
   have H := HA.out
   clear HA
   simp only [impl_SimplifyLine.j0] at H
   by_cases c9 : x16_2 = true
   ·
    subst c9
    have H1 : ((impl_Point.f l0).bind fun t139 => (some t139)) = some r := by rw [if_pos rfl] at H; exact H
    clear H
    have H := H1
    clear H1
    replace H := Option.bind_eq_some_iff.mp H
    obtain ⟨t139, A100, H⟩ := H
    replace H : (some t139) = some r := H
    have A10 := Aside0.mk A100
    clear A100
    obtain rfl := Option.some.inj H
    go_wp2_with (first | ((with_reducible refine gate_callee (f := 76) rfl ?_); refine goesL_ (some 18) rfl rfl Try.func76 (by kernel_rfl) rfl #[.slice A0 l0.length c0] rfl Hd.m_ ?_; (with_reducible refine (impl_Point.calls _ _ l0 t139 _ ?side1 ?side2 A10.out).mono ?_); (case side1 => repeat (first | exact (Kd.C_below HR0.out HB.out) | (with_reducible refine Kd.C_alloc ?_ _) | (with_reducible refine Kd.C_drewN ?_ _) | (with_reducible refine Kd.C_drew ?_))); (case side2 => exact HC0.out); rintro e w11 ⟨v140, rfl, ho0, hb⟩; refine ⟨_, rfl, ?_⟩; have HO141 := Aside0.mk (Kd.R_lower ho0 (below_size Hd.b_)); replace HB := Aside0.mk (below_step Hd.b_ hb); (try clear hb); (try clear hb2); (try clear hk); (try clear hi); (try clear ho0)))
    go_ret
    exact ⟨_, Hd.e_, by (with_reducible repeat (first | apply Kd.R_alloc | apply Kd.R_drewN | apply Kd.R_drew)); exact HO141.out, Hd.b_⟩
   ·
    replace c9 := Bool.eq_false_iff.mpr c9
    subst c9
    have H1 : (if 0 ≤ (l0.length : Int) then (if ((l0.length : Int) : Int).toNat ≤ 281474976710656 then ((some (List.replicate ((l0.length : Int) : Int).toNat false : List Bool)).bind fun y142 => (if 0 < (y142.length : Int) then (if 0 ≤ (wrap64 ((l0.length : Int) - 1)) then (if (wrap64 ((l0.length : Int) - 1)) < (y142.length : Int) then ((impl_keepBetween.f kj2 l0 ((y142.set (0 : Int).toNat true).set ((wrap64 ((l0.length : Int) - 1)) : Int).toNat true) 0 (wrap64 ((l0.length : Int) - 1)) a1).bind fun t147 => (impl_SimplifyLine.l0 kj2 t147 (([] : List (S27))) l0 (l0.length : Int) 0)) else (none)) else (none)) else (none))) else (none)) else (none)) = some r := by rw [if_neg (show ¬ (false = true) by decide)] at H; exact H
    clear H
    have H := H1
    clear H1
    by_cases c12 : 0 ≤ (l0.length : Int)
    ·
     rw [if_pos c12] at H
     have c12b0 := eq_true c12
     have c12b1 : decide (0 ≤ (l0.length : Int)) = true := decide_eq_true c12
     clear c12
     by_cases c13 : ((l0.length : Int) : Int).toNat ≤ 281474976710656
     ·
      rw [if_pos c13] at H
      have c13b0 := eq_true c13
      have c13b1 : decide (((l0.length : Int) : Int).toNat ≤ 281474976710656) = true := decide_eq_true c13
      clear c13
      obtain ⟨y142, hy142⟩ : ∃ y_ : List Bool, y_ = (List.replicate ((l0.length : Int) : Int).toNat false) := ⟨_, rfl⟩
      replace H : (if 0 < (y142.length : Int) then (if 0 ≤ (wrap64 ((l0.length : Int) - 1)) then (if (wrap64 ((l0.length : Int) - 1)) < (y142.length : Int) then ((impl_keepBetween.f kj2 l0 ((y142.set (0 : Int).toNat true).set ((wrap64 ((l0.length : Int) - 1)) : Int).toNat true) 0 (wrap64 ((l0.length : Int) - 1)) a1).bind fun t147 => (impl_SimplifyLine.l0 kj2 t147 (([] : List (S27))) l0 (l0.length : Int) 0)) else (none)) else (none)) else (none)) = some r := by first | (rw [hy142]; with_reducible exact H) | (have H2_ := (Option.bind_some _ _).symm.trans H; rw [hy142]; with_reducible exact H2_) | (have H2_ := (Option.bind_some _ _).symm.trans H; with_reducible exact H2_) | with_reducible exact H | (rw [hy142]; exact H) | exact H
      have Ny142 := Aside0.mk hy142
      clear hy142
      by_cases c14 : 0 < (y142.length : Int)
      ·
       rw [if_pos c14] at H
       have c14b0 : decide (0 < (y142.length : Int)) = true := decide_eq_true c14
       have c14b1 : decide (0 < y142.length) = true := decide_eq_true (by omega)
       clear c14
       obtain ⟨y145, hy145⟩ : ∃ y_ : List Bool, y_ = (y142.set (0 : Int).toNat true) := ⟨_, rfl⟩
       replace H : (if 0 ≤ (wrap64 ((l0.length : Int) - 1)) then (if (wrap64 ((l0.length : Int) - 1)) < (y142.length : Int) then ((impl_keepBetween.f kj2 l0 (y145.set ((wrap64 ((l0.length : Int) - 1)) : Int).toNat true) 0 (wrap64 ((l0.length : Int) - 1)) a1).bind fun t147 => (impl_SimplifyLine.l0 kj2 t147 (([] : List (S27))) l0 (l0.length : Int) 0)) else (none)) else (none)) = some r := by first | (rw [hy145]; with_reducible exact H) | (have H2_ := (Option.bind_some _ _).symm.trans H; rw [hy145]; with_reducible exact H2_) | (have H2_ := (Option.bind_some _ _).symm.trans H; with_reducible exact H2_) | with_reducible exact H | (rw [hy145]; exact H) | exact H
       have Ny145 := Aside0.mk hy145
       clear hy145
       obtain ⟨ji16, hji16⟩ : ∃ j_ : Int, (wrap64 ((l0.length : Int) - 1)) = j_ := ⟨_, rfl⟩
       replace H : (if 0 ≤ (ji16) then (if (ji16) < (y142.length : Int) then ((impl_keepBetween.f kj2 l0 (y145.set ((ji16) : Int).toNat true) 0 (ji16) a1).bind fun t147 => (impl_SimplifyLine.l0 kj2 t147 (([] : List (S27))) l0 (l0.length : Int) 0)) else (none)) else (none)) = some r := by first | (rw [hji16] at H; exact H) | (simp only [hji16] at H ⊢; exact H)
       have hji16w : (IntKind.i64.wrap ((l0.length : Int) - 1)) = ji16 := (i64_w _).trans hji16
       by_cases c17 : 0 ≤ (ji16)
       ·
        rw [if_pos c17] at H
        have c17b0 : decide (0 ≤ (ji16)) = true := decide_eq_true c17
        clear c17
        by_cases c18 : (ji16) < (y142.length : Int)
        ·
         rw [if_pos c18] at H
         have c18b0 : decide ((ji16) < (y142.length : Int)) = true := decide_eq_true c18
         clear c18
         obtain ⟨y146, hy146⟩ : ∃ y_ : List Bool, y_ = (y145.set ((ji16) : Int).toNat true) := ⟨_, rfl⟩
         replace H : ((impl_keepBetween.f kj2 l0 y146 0 (ji16) a1).bind fun t147 => (impl_SimplifyLine.l0 kj2 t147 (([] : List (S27))) l0 (l0.length : Int) 0)) = some r := by first | (rw [hy146]; with_reducible exact H) | (have H2_ := (Option.bind_some _ _).symm.trans H; rw [hy146]; with_reducible exact H2_) | (have H2_ := (Option.bind_some _ _).symm.trans H; with_reducible exact H2_) | with_reducible exact H | (rw [hy146]; exact H) | exact H
         have Ny146 := Aside0.mk hy146
         clear hy146
         replace H := Option.bind_eq_some_iff.mp H
         obtain ⟨t147, A200, H⟩ := H
         replace H : (impl_SimplifyLine.l0 kj2 t147 (([] : List (S27))) l0 (l0.length : Int) 0) = some r := H
         have A20 := Aside0.mk A200
         clear A200
         obtain ⟨y148, hy148⟩ : ∃ y_ : List (S27), y_ = (([] : List (S27))) := ⟨_, rfl⟩
         replace H : (impl_SimplifyLine.l0 kj2 t147 y148 l0 (l0.length : Int) 0) = some r := by first | (rw [hy148]; with_reducible exact H) | (have H2_ := (Option.bind_some _ _).symm.trans H; rw [hy148]; with_reducible exact H2_) | (have H2_ := (Option.bind_some _ _).symm.trans H; with_reducible exact H2_) | with_reducible exact H | (rw [hy148]; exact H) | exact H
         have Ny148 := Aside0.mk hy148
         clear hy148
         have H' := Aside0.mk H
         clear H
         go_wp2_with (first | ((with_reducible refine gate_dst (N := 21) rfl ?_); refine Kd.R_make Kd.bool _ 4 rfl (N := 21) rfl 89 _ _ rfl (l0.length : Int) rfl rfl Try.underlying89 (.bool false) 1 info4 rfl (by decide) (by omega) false (ok := fun _ => True) (okp := fun _ => True) rfl (fun _ hk => hk) trivial (of_decide_eq_true Hd.a_) (Nat.le_trans (Nat.mul_le_mul_right _ (of_decide_eq_true Hd.a_ : (l0.length : Int).toNat ≤ 281474976710656)) (by omega)) (Below.refl _ _) (Nat.le_refl _) ?_; intro v143 w21 ho22 hb hg_ hnew_; clear hg_ hnew_; (first | rw [← Ny142.out] at ho22 | (simp only [Int.reduceToNat] at ho22; rw [← Ny142.out] at ho22)); have HO144 := Aside0.mk (Kd.R_lower ho22 (below_size Hd.b_)); replace HB := Aside0.mk (below_step Hd.b_ hb); clear hb ho22; have p15 : 0 ≤ (0 : Int) := (by omega); have q15 : (0 : Int) < ((y142.length : Int) : Int) := of_decide_eq_true Hd.a_; have qi15 : (0 < y142.length) = True := eq_true (by omega); obtain ⟨go15, co15, eo15, gb15, gl15, cl15, HG15⟩ := Kd.R_form HO144.out (by omega); (first | cases eo15 | (injection eo15 with ea_ en_ ec_; (first | subst ea_ | (injection ea_ with ea_; subst ea_)); subst ec_; clear en_)); have GB15 := Aside0.mk gb15; have GG15 := Aside0.mk HG15; clear gb15 gl15 HG15; obtain ⟨hx15_0, hf15_0⟩ := Kd.R_celln false HO144.out (0 : Int) p15 q15; (try rw [show ((0 : Int)).toNat = 0 from rfl] at hx15_0); (try simp only [Nat.reduceMul, Nat.zero_mul, Nat.zero_add, Nat.reduceAdd] at hx15_0); (try rw [show ((0 : Int)).toNat = 0 from rfl] at hf15_0); (try simp only [Nat.reduceMul, Nat.zero_mul, Nat.zero_add, Nat.reduceAdd] at hf15_0); replace p15 := eq_true p15; replace q15 := eq_true q15; obtain ⟨hy23_, hz23_⟩ := Kd.R_celln false HO144.out (0 : Int) (by omega) (of_decide_eq_true Hd.a_); (try simp only [Int.reduceToNat, Int.toNat_zero, Int.toNat_ofNat, Nat.reduceMul, Nat.zero_mul, Nat.zero_add] at hy23_ hz23_); (try rw [show ((0 : Int)).toNat = 0 from rfl] at hy23_); (try rw [show ((0 : Int)).toNat = 0 from rfl] at hz23_); have HP23 := Kd.R_putg HO144.out (0 : Int) true) | ((with_reducible refine gate_store (t := 4) (p := 27) rfl ?_); refine store_event (t := 4) (p := 27) (v := ?vo_w24) (w1 := (w21.setCell ⟨go15, (0 : Int).toNat, none⟩ (.bool true))) ?hg ?ho ?hn ?hr ?_; (case ho => rfl); (case hg => rfl); (case hn => rfl); (case hr => first | (go_simp; done) | (go_simp; rfl)); intro w24 hw; have hg : w21.grownBy w24 (some go15) := (by rw [hw]; exact HP23.2); have hp_ : Kd.R Kd.bool 4 w24 w.heap.size (fun _ => True) (.slice (some ⟨go15, 0, none⟩) y142.length co15) y145 := (by rw [hw, Ny145.out]; exact HP23.1); clear HP23; replace HO144 := Aside0.mk (hp_); replace HB := Aside0.mk ((by rw [hw]; exact below_set (HB.out) GB15.out : Below w.heap.size w w24)); clear hg hw hp_; have p19 : 0 ≤ ((ji16) : Int) := of_decide_eq_true Hd.a_; have q19 : ((ji16) : Int) < ((y142.length : Int) : Int) := of_decide_eq_true Hd.a_; obtain ⟨hx19_0, hf19_0⟩ := Kd.R_celln false HO144.out ((ji16) : Int) p19 q19; replace p19 := eq_true p19; replace q19 := eq_true q19; obtain ⟨hy25_, hz25_⟩ := Kd.R_celln false HO144.out ((ji16) : Int) (of_decide_eq_true Hd.a_) (of_decide_eq_true Hd.a_); have HP25 := Kd.R_putg HO144.out ((ji16) : Int) true) | ((with_reducible refine gate_store (t := 4) (p := 28) rfl ?_); refine store_event (t := 4) (p := 28) (v := ?vo_w26) (w1 := (w24.setCell ⟨go15, ((ji16) : Int).toNat, none⟩ (.bool true))) ?hg ?ho ?hn ?hr ?_; (case ho => rfl); (case hg => rfl); (case hn => rfl); (case hr => first | (go_simp; done) | (go_simp; rfl)); intro w26 hw; have hg : w24.grownBy w26 (some go15) := (by rw [hw]; exact HP25.2); have hp_ : Kd.R Kd.bool 4 w26 w.heap.size (fun _ => True) (.slice (some ⟨go15, 0, none⟩) y142.length co15) y146 := (by rw [hw, Ny146.out]; exact HP25.1); clear HP25; replace HO144 := Aside0.mk (hp_); replace HB := Aside0.mk ((by rw [hw]; exact below_set (HB.out) GB15.out : Below w.heap.size w w26)); clear hg hw hp_) | ((with_reducible refine gate_callee (f := 77) rfl ?_); refine goesL_ (some 35) rfl rfl Try.func77 (by kernel_rfl) rfl #[.slice A0 l0.length c0, .slice (some ⟨go15, 0, none⟩) y142.length co15, .int .i64 0, .int .i64 ji16, .int .i64 a1] rfl (by (try simp only [List.map_toArray, List.map_cons, List.map_nil]); first | done | (simp only [hji16]; rfl) | rfl | (simp only [List.length_drop, List.length_take]; rfl)) ?_; (with_reducible refine (impl_keepBetween.calls kj2 _ _ l0 (fun k_ => some k_ = (.slice (some ⟨go15, 0, none⟩) y142.length co15 : Value).ownBlock) (.slice (some ⟨go15, 0, none⟩) y142.length co15) y146 0 ji16 a1 t147 w _ ?side1 ?side2 ?side3 ?side4 A20.out).mono ?_); (case side1 => repeat (first | (with_reducible first | exact HB.out | apply below_alloc | apply pw_below_drewN | apply below_drew1) | exact HB.out)); (case side2 => exact Kd.C_kept_came k27_heap HR0.out Hd.b_ (fun k_ hs_ => (fun e_ => Kd.R_base HO144.out k_ e_.symm) hs_)); (case side3 => exact HC0.out); (case side4 => exact Kd.R_tight rfl HO144.out); rintro e w27 ⟨rfl, hy0, hb, hkp⟩; refine ⟨_, rfl, ?_⟩; replace HO144 := Aside0.mk (Kd.R_reok rfl hy0 (fun k_ e_ => HO144.out.1 k_ e_)); replace HB := Aside0.mk (hb); (try clear hb); (try clear hkp); (try clear hy0)) | ((with_reducible refine gate_dst (N := 36) rfl ?_); refine Kd.R_lit k27 _ 27 ?hg (N := 36) ?hd (xs := ([] : List (S27))) (inner := []) (ok := fun _ => True) (okp := fun _ => True) ?hr ?hp (fun _ hk => hk) trivial (Below.refl _ _) (Nat.le_refl _) (by simp) ?_; (case hd => rfl); (case hg => rfl); (case hr => first | (go_simp; done) | (go_simp; rfl)); (case hp => exact (Reps.none _ _)); intro v149 w28 ho29 hb hg_ hnew_; clear hg_ hnew_; (first | rw [← Ny148.out] at ho29 | (simp only [Int.reduceToNat] at ho29; rw [← Ny148.out] at ho29)); replace HO144 := Aside0.mk (Kd.R_below (Hd.r_ HO144) hb); have HO150 := Aside0.mk (Kd.R_lower ho29 (below_size Hd.b_)); replace HB := Aside0.mk (below_step Hd.b_ hb); clear hb ho29))
         go_loopg [6, 39] kj2 (fun kq v6 v39 w' => ∃ (x6_2 : List (S27)) (x39_2 : Int), v39 = .int .i64 x39_2 ∧ Aside0 (impl_SimplifyLine.l0 kq t147 x6_2 l0 (l0.length : Int) x39_2 = some r) ∧ Aside0 (kq ≤ kj2) ∧ Aside0 (Kd.R Kd.bool 4 w' w.heap.size (fun _ => True) (.slice (some ⟨go15, 0, none⟩) y142.length co15) t147) ∧ Aside0 (Kd.R k27 27 w' w.heap.size (fun _ => True) v6 x6_2) ∧ Aside0 (Below w.heap.size w w'))
         case atStart => exact ⟨(y148), (0), (by first | rfl | (simp; done) | (simp [*]; done)), H', ⟨Nat.le_refl _⟩, ⟨by (with_reducible repeat (first | apply Kd.R_alloc | apply Kd.R_drewN | apply Kd.R_drew)); exact HO144.out⟩, ⟨by (with_reducible repeat (first | apply Kd.R_alloc | apply Kd.R_drewN | apply Kd.R_drew)); exact HO150.out⟩, ⟨Hd.b_⟩⟩
         case round =>
          clear H'
          try clear c1
          try clear p1
          try clear q1
          try clear hx1
          try clear qi1
          try clear c2
          try clear p2
          try clear c3
          try clear c5
          try clear p6
          try clear c7
          try clear c9
          try clear c12
          try clear c12b0
          try clear c12b1
          try clear c13
          try clear c13b0
          try clear c13b1
          try clear c14
          try clear c14b0
          try clear c14b1
          try clear p15
          try clear q15
          try clear hx15
          try clear qi15
          try clear hf15
          try clear c17
          try clear c17b0
          try clear c18
          try clear c18b0
          try clear p19
          try clear q19
          try clear hx19
          try clear hf19
          try clear c28
          try clear hx15_0
          try clear hx19_0
          try clear p15
          try clear p19
          try clear p2
          try clear q15
          try clear q19
          obtain ⟨x6_2, x39_2, rfl, HA, HK2, HO_5, HO_6, HB⟩ := hrel
          have hl5_2 := (Kd.R_reads' HO_5.out).1
          rw [hl5_2] at HO_5
          (try simp only [hl5_2])
          (try simp only [hl5_2] at HO_6)
          cases gk with
          | zero => exact absurd HA.out (by simp [impl_SimplifyLine.l0])
          | succ k2 =>
           have H := HA.out
           clear HA
           simp only [impl_SimplifyLine.l0] at H
           by_cases c30 : x39_2 < (l0.length : Int)
           ·
            rw [if_pos c30] at H
            have c30b0 : decide (x39_2 < (l0.length : Int)) = true := decide_eq_true c30
            clear c30
            by_cases c31 : 0 ≤ x39_2
            ·
             rw [if_pos c31] at H
             have c31b0 : decide (0 ≤ x39_2) = true := decide_eq_true c31
             clear c31
             by_cases c32 : x39_2 < (l0.length : Int)
             ·
              rw [if_pos c32] at H
              have c32b0 : decide (x39_2 < (l0.length : Int)) = true := decide_eq_true c32
              clear c32
              by_cases c33 : x39_2 < (t147.length : Int)
              ·
               rw [if_pos c33] at H
               have c33b0 : decide (x39_2 < (t147.length : Int)) = true := decide_eq_true c33
               clear c33
               obtain ⟨bq34, hbq34⟩ : ∃ b_ : Bool, b_ = (rdOf false t147 x39_2) := ⟨_, rfl⟩
               replace H : (if bq34 = true then (if x6_2.length < 8796093022208 then (impl_SimplifyLine.l0 k2 t147 (x6_2 ++ [(⟨(rd_T27 l0 x39_2).f0, (rd_T27 l0 x39_2).f1⟩ : S27)]) l0 (l0.length : Int) (wrap64 (x39_2 + 1))) else (none)) else (impl_SimplifyLine.l0 k2 t147 x6_2 l0 (l0.length : Int) (wrap64 (x39_2 + 1)))) = some r := by rw [← hbq34] at H; exact H
               have Nbq34 := Aside0.mk hbq34
               clear hbq34
               by_cases c35 : bq34 = true
               ·
                subst c35
                have H1 : (if x6_2.length < 8796093022208 then (impl_SimplifyLine.l0 k2 t147 (x6_2 ++ [(⟨(rd_T27 l0 x39_2).f0, (rd_T27 l0 x39_2).f1⟩ : S27)]) l0 (l0.length : Int) (wrap64 (x39_2 + 1))) else (none)) = some r := by rw [if_pos rfl] at H; exact H
                clear H
                have H := H1
                clear H1
                by_cases c36 : x6_2.length < 8796093022208
                ·
                 rw [if_pos c36] at H
                 have LMc36 := Aside0.mk c36
                 clear c36
                 obtain ⟨y154, hy154⟩ : ∃ y_ : List (S27), y_ = (x6_2 ++ [(⟨(rd_T27 l0 x39_2).f0, (rd_T27 l0 x39_2).f1⟩ : S27)]) := ⟨_, rfl⟩
                 replace H : (impl_SimplifyLine.l0 k2 t147 y154 l0 (l0.length : Int) (wrap64 (x39_2 + 1))) = some r := by first | (rw [hy154]; with_reducible exact H) | (have H2_ := (Option.bind_some _ _).symm.trans H; rw [hy154]; with_reducible exact H2_) | (have H2_ := (Option.bind_some _ _).symm.trans H; with_reducible exact H2_) | with_reducible exact H | (rw [hy154]; exact H) | exact H
                 have Ny154 := Aside0.mk hy154
                 clear hy154
                 have H' := Aside0.mk H
                 clear H
                 have p151 : 0 ≤ (x39_2 : Int) := of_decide_eq_true Hd.a_
                 have q151 : x39_2 < (l0.length : Int) := of_decide_eq_true Hd.a_
                 obtain ⟨ad151, e151, hx151_0, hx151_1⟩ := at_T27 HR0.out x39_2 p151 q151
                 cases e151
                 replace hx151_0 := (HB.out.cell (World.block_lt_of_cell? w _ hx151_0)).trans hx151_0
                 replace hx151_1 := (HB.out.cell (World.block_lt_of_cell? w _ hx151_1)).trans hx151_1
                 replace p151 := eq_true p151
                 replace q151 := eq_true q151
                 go_wp2_with (first | ((with_reducible refine gate_dst (N := 8) rfl ?_); refine Hd.box_ 8 (#[.int .i64 0, .int .i64 0]) 27 ?_; intro gb152 hg w37 hbox hb; replace HO_5 := Aside0.mk (Kd.R_below (Hd.r_ HO_5) hb); replace HO_6 := Aside0.mk (Kd.R_below (Kd.R_elderB (Hd.r_ HO_6) gb152 (Nat.le_of_eq hg.symm)) hb); have BK152 := Aside0.mk (hbox); have GW152 := Aside0.mk ((Hd.g_ hg Hd.b_ : w.heap.size ≤ gb152)); have GE152 := Aside0.mk ((Hd.g_ hg Hd.b_ : w.heap.size ≤ gb152)); replace HB := Aside0.mk (below_step Hd.b_ hb); clear hb hbox hg; obtain ⟨hcz38_0, hcz38_1⟩ := Hd.c2_ BK152.out; obtain ⟨hfz38_0, hfz38_1⟩ := Hd.f2_ BK152.out; have p153 : 0 ≤ (x39_2 : Int) := of_decide_eq_true Hd.a_; have q153 : x39_2 < (t147.length : Int) := of_decide_eq_true Hd.a_; obtain ⟨ad153, e153, hx153_0⟩ := Kd.at_bool (Kd.R_reads' HO_5.out).2.2 x39_2 p153 q153; (try rw [← Nbq34.out] at hx153_0); obtain rfl : (⟨go15, 0, none⟩ : Addr) = ad153 := (by injection e153); (first | simp only [add_plain] at hx153_0 | simp only [add_at] at hx153_0 | simp only [Addr.add, Nat.zero_add] at hx153_0 | skip); have hn153_0 : (⟨go15, 0, none⟩ : Addr).block ≠ gb152 := Kd.own_blk (Kd.R_ne HO_5.out BK152.out (by decide)); have hn153_1 : (⟨go15, 0, none⟩ : Addr).block ≠ gb152 := Kd.own_blk (Kd.R_ne HO_5.out BK152.out (by decide)); replace hx153_0 := (cell_far (p := ⟨gb152, 0, none⟩) (by first | (rw [add_block]; exact hn153_0) | (show (Addr.add _ _).block ≠ _; rw [add_block]; exact hn153_0) | exact hn153_0) (.int .i64 ((rd_T27 l0 x39_2).f0))).trans hx153_0; replace hx153_0 := (cell_far (p := ⟨gb152, 1, none⟩) (by first | (rw [add_block]; exact hn153_1) | (show (Addr.add _ _).block ≠ _; rw [add_block]; exact hn153_1) | exact hn153_1) (.int .i64 ((rd_T27 l0 x39_2).f1))).trans hx153_0; clear hn153_0; clear hn153_1; replace p153 := eq_true p153; replace q153 := eq_true q153) | ((with_reducible refine gate_builtin (b := .append) (xs := #[.tmp 48, .tmp 50]) rfl ?_); at_builtin; refine Kd.R_append k27 (w0 := w) w.heap.size rfl (.tmp 48) (.tmp 50) 24 27 (.agg #[(.int .i64 0), (.int .i64 0)]) 16 rfl Try.underlying24 info27 rfl (by decide) (by omega) u6 x6_2 (⟨(rd_T27 l0 x39_2).f0, (rd_T27 l0 x39_2).f1⟩ : S27) [.int .i64 ((rd_T27 l0 x39_2).f0), .int .i64 ((rd_T27 l0 x39_2).f1)] (fun k_ => k_ ≠ gb152) (fun _ => False) rfl (by first | (go_simp; done) | (go_simp; rfl)) ?aP (fun _ hk => hk.elim) ?aF ?aO ?aB ?aS ?aL ?_; (case aP => exact k27_mkM _ _ _ (⟨(rd_T27 l0 x39_2).f0, (rd_T27 l0 x39_2).f1⟩ : S27)); (case aB => exact Hd.b_); (case aF => exact (fun k_ hk => Kd.freshB (g := gb152) (o := .cells #[.int .i64 ((rd_T27 l0 x39_2).f0), .int .i64 ((rd_T27 l0 x39_2).f1)] 27 (0, 0)) (by (with_reducible repeat (first | refine blk_drewN ?_ _ | refine blk_drew ?_ | refine blk_alloc ?_ _)); refine blk_put (cs := #[.int .i64 ((rd_T27 l0 x39_2).f0), .int .i64 0]) ?_ 1 _ rfl; (with_reducible repeat (first | refine blk_drewN ?_ _ | refine blk_drew ?_ | refine blk_alloc ?_ _)); refine blk_put (cs := #[.int .i64 0, .int .i64 0]) ?_ 0 _ rfl; (with_reducible repeat (first | refine blk_drewN ?_ _ | refine blk_drew ?_ | refine blk_alloc ?_ _)); exact BK152.out) k_ hk)); (case aO => exact (by (with_reducible repeat (first | apply Kd.R_alloc | apply Kd.R_drewN | apply Kd.R_drew)); exact Kd.R_mono (Kd.R_far (p := ⟨gb152, 1, none⟩) (Kd.R_far (p := ⟨gb152, 0, none⟩) (Kd.R_mono HO_6.out (fun k_ hk => (⟨hk, hk.2⟩ : _ ∧ k_ ≠ gb152))) (fun _ hk => hk.2) (.int .i64 ((rd_T27 l0 x39_2).f0))) (fun _ hk => hk.2) (.int .i64 ((rd_T27 l0 x39_2).f1))) (fun _ hk => hk.1.2))); (case aS => exact (below_size Hd.b_)); (case aL => have := LMc36.out; omega); intro v155 w39 ho hb hg hat; rw [← Ny154.out] at ho; have n0_ := Aside0.mk (Kd.R_over' (by (with_reducible repeat (first | apply Kd.R_alloc | apply Kd.R_drewN | apply Kd.R_drew)); exact (Kd.R_mono (Kd.R_far (p := ⟨gb152, 1, none⟩) (Kd.R_far (p := ⟨gb152, 0, none⟩) (Kd.R_types HO_5.out BK152.out (by decide)) (fun _ hk => hk.2) (.int .i64 ((rd_T27 l0 x39_2).f0))) (fun _ hk => hk.2) (.int .i64 ((rd_T27 l0 x39_2).f1))) (fun _ h_ => h_.1))) (Kd.R_typed (by (with_reducible repeat (first | apply Kd.R_alloc | apply Kd.R_drewN | apply Kd.R_drew)); exact (Kd.R_mono (Kd.R_far (p := ⟨gb152, 1, none⟩) (Kd.R_far (p := ⟨gb152, 0, none⟩) (Kd.R_mono HO_6.out (fun k_ hk => (⟨hk, hk.2⟩ : _ ∧ k_ ≠ gb152))) (fun _ hk => hk.2) (.int .i64 ((rd_T27 l0 x39_2).f0))) (fun _ hk => hk.2) (.int .i64 ((rd_T27 l0 x39_2).f1))) (fun _ h_ => h_.1)))) (by decide) hg); have n1_ := Aside0.mk (blk_grown (g := gb152) (o := .cells #[.int .i64 ((rd_T27 l0 x39_2).f0), .int .i64 ((rd_T27 l0 x39_2).f1)] 27 (0, 0)) (by (with_reducible repeat (first | refine blk_drewN ?_ _ | refine blk_drew ?_ | refine blk_alloc ?_ _)); refine blk_put (cs := #[.int .i64 ((rd_T27 l0 x39_2).f0), .int .i64 0]) ?_ 1 _ rfl; (with_reducible repeat (first | refine blk_drewN ?_ _ | refine blk_drew ?_ | refine blk_alloc ?_ _)); refine blk_put (cs := #[.int .i64 0, .int .i64 0]) ?_ 0 _ rfl; (with_reducible repeat (first | refine blk_drewN ?_ _ | refine blk_drew ?_ | refine blk_alloc ?_ _)); exact BK152.out) hg (Kd.R_away HO_6.out (fun _ hk => hk.2))); have n2_ := Aside0.mk (hb); have n3_ := Aside0.mk (ho); clear HO_5; clear BK152; clear HB; clear HO_6; have HO_5 := n0_; have BK152 := n1_; have HB := n2_; have HO156 := n3_; clear n0_ n1_ n2_ n3_; clear ho hb hg hat))
                 (try simp only [← hl5_2])
                 go_roundg k2
                 case measure => have := HJ2.out; have := HK2.out; omega
                 case rel => exact ⟨(y154), (wrap64 (x39_2 + 1)), (by first | rfl | (simp; done) | (simp [*]; done)), H', ⟨by have := HJ2.out; have := HK2.out; omega⟩, ⟨by (try simp only [hl5_2]); (with_reducible repeat (first | apply Kd.R_alloc | apply Kd.R_drewN | apply Kd.R_drew)); exact HO_5.out⟩, ⟨by (try simp only [hl5_2]); (with_reducible repeat (first | apply Kd.R_alloc | apply Kd.R_drewN | apply Kd.R_drew)); exact Kd.R_mono HO156.out (fun _ hk => trivial)⟩, ⟨Hd.b_⟩⟩
                ·
                 rw [if_neg c36] at H
                 exact absurd H (by simp)
               ·
                replace c35 := Bool.eq_false_iff.mpr c35
                subst c35
                have H1 : (impl_SimplifyLine.l0 k2 t147 x6_2 l0 (l0.length : Int) (wrap64 (x39_2 + 1))) = some r := by rw [if_neg (show ¬ (false = true) by decide)] at H; exact H
                clear H
                have H := H1
                clear H1
                have H' := Aside0.mk H
                clear H
                have p151 : 0 ≤ (x39_2 : Int) := of_decide_eq_true Hd.a_
                have q151 : x39_2 < (l0.length : Int) := of_decide_eq_true Hd.a_
                obtain ⟨ad151, e151, hx151_0, hx151_1⟩ := at_T27 HR0.out x39_2 p151 q151
                cases e151
                replace hx151_0 := (HB.out.cell (World.block_lt_of_cell? w _ hx151_0)).trans hx151_0
                replace hx151_1 := (HB.out.cell (World.block_lt_of_cell? w _ hx151_1)).trans hx151_1
                replace p151 := eq_true p151
                replace q151 := eq_true q151
                go_wp2_with (first | ((with_reducible refine gate_dst (N := 8) rfl ?_); refine Hd.box_ 8 (#[.int .i64 0, .int .i64 0]) 27 ?_; intro gb152 hg w40 hbox hb; replace HO_5 := Aside0.mk (Kd.R_below (Hd.r_ HO_5) hb); replace HO_6 := Aside0.mk (Kd.R_below (Kd.R_elderB (Hd.r_ HO_6) gb152 (Nat.le_of_eq hg.symm)) hb); have BK152 := Aside0.mk (hbox); have GW152 := Aside0.mk ((Hd.g_ hg Hd.b_ : w.heap.size ≤ gb152)); have GE152 := Aside0.mk ((Hd.g_ hg Hd.b_ : w.heap.size ≤ gb152)); replace HB := Aside0.mk (below_step Hd.b_ hb); clear hb hbox hg; obtain ⟨hcz41_0, hcz41_1⟩ := Hd.c2_ BK152.out; obtain ⟨hfz41_0, hfz41_1⟩ := Hd.f2_ BK152.out; have p153 : 0 ≤ (x39_2 : Int) := of_decide_eq_true Hd.a_; have q153 : x39_2 < (t147.length : Int) := of_decide_eq_true Hd.a_; obtain ⟨ad153, e153, hx153_0⟩ := Kd.at_bool (Kd.R_reads' HO_5.out).2.2 x39_2 p153 q153; (try rw [← Nbq34.out] at hx153_0); obtain rfl : (⟨go15, 0, none⟩ : Addr) = ad153 := (by injection e153); (first | simp only [add_plain] at hx153_0 | simp only [add_at] at hx153_0 | simp only [Addr.add, Nat.zero_add] at hx153_0 | skip); have hn153_0 : (⟨go15, 0, none⟩ : Addr).block ≠ gb152 := Kd.own_blk (Kd.R_ne HO_5.out BK152.out (by decide)); have hn153_1 : (⟨go15, 0, none⟩ : Addr).block ≠ gb152 := Kd.own_blk (Kd.R_ne HO_5.out BK152.out (by decide)); replace hx153_0 := (cell_far (p := ⟨gb152, 0, none⟩) (by first | (rw [add_block]; exact hn153_0) | (show (Addr.add _ _).block ≠ _; rw [add_block]; exact hn153_0) | exact hn153_0) (.int .i64 ((rd_T27 l0 x39_2).f0))).trans hx153_0; replace hx153_0 := (cell_far (p := ⟨gb152, 1, none⟩) (by first | (rw [add_block]; exact hn153_1) | (show (Addr.add _ _).block ≠ _; rw [add_block]; exact hn153_1) | exact hn153_1) (.int .i64 ((rd_T27 l0 x39_2).f1))).trans hx153_0; clear hn153_0; clear hn153_1; replace p153 := eq_true p153; replace q153 := eq_true q153))
                (try simp only [← hl5_2])
                go_roundg k2
                case measure => have := HJ2.out; have := HK2.out; omega
                case rel => exact ⟨(x6_2), (wrap64 (x39_2 + 1)), (by first | rfl | (simp; done) | (simp [*]; done)), H', ⟨by have := HJ2.out; have := HK2.out; omega⟩, ⟨by (try simp only [hl5_2]); (with_reducible repeat (first | apply Kd.R_alloc | apply Kd.R_drewN | apply Kd.R_drew)); exact Kd.R_mono (Kd.R_far (p := ⟨gb152, 1, none⟩) (Kd.R_far (p := ⟨gb152, 0, none⟩) (Kd.R_types HO_5.out BK152.out (by decide)) (fun _ hk => hk.2) (.int .i64 ((rd_T27 l0 x39_2).f0))) (fun _ hk => hk.2) (.int .i64 ((rd_T27 l0 x39_2).f1))) (fun _ hk => trivial)⟩, ⟨by (try simp only [hl5_2]); (with_reducible repeat (first | apply Kd.R_alloc | apply Kd.R_drewN | apply Kd.R_drew)); exact Kd.R_mono (Kd.R_far (p := ⟨gb152, 1, none⟩) (Kd.R_far (p := ⟨gb152, 0, none⟩) (Kd.R_mono HO_6.out (fun k_ hk => (⟨hk, hk.2⟩ : _ ∧ k_ ≠ gb152))) (fun _ hk => hk.2) (.int .i64 ((rd_T27 l0 x39_2).f0))) (fun _ hk => hk.2) (.int .i64 ((rd_T27 l0 x39_2).f1))) (fun _ hk => trivial)⟩, ⟨Hd.b_⟩⟩
              ·
               rw [if_neg c33] at H
               exact absurd H (by simp)
             ·
              rw [if_neg c32] at H
              exact absurd H (by simp)
            ·
             rw [if_neg c31] at H
             exact absurd H (by simp)
           ·
            rw [if_neg c30] at H
            have c30b0 : decide (x39_2 < (l0.length : Int)) = false := decide_eq_false c30
            clear c30
            obtain rfl := Option.some.inj H
            go_wp2
            go_ret
            exact ⟨_, by first | rfl | (simp [errW_none, errW_some] <;> rfl) | (simp only [← hji16]; first | rfl | (simp [errW_none, errW_some] <;> rfl)) | (simp [*, errW_none, errW_some] <;> rfl), by (with_reducible repeat (first | apply Kd.R_alloc | apply Kd.R_drewN | apply Kd.R_drew)); exact HO_6.out, Hd.b_⟩
        ·
         rw [if_neg c18] at H
         exact absurd H (by simp)
       ·
        rw [if_neg c17] at H
        exact absurd H (by simp)
      ·
       rw [if_neg c14] at H
       exact absurd H (by simp)
     ·
      rw [if_neg c13] at H
      exact absurd H (by simp)
    ·
     rw [if_neg c12] at H
     exact absurd H (by simp)
def impl_CountLeftOut.f (k : Nat) (l0 : List (S27)) (a1 : Int) : Option (Int) := (impl_SimplifyLine.f k l0 a1).bind fun t157 => (some (wrap64 ((l0.length : Int) - (t157.length : Int))))
set_option maxHeartbeats 8000000 in
set_option maxRecDepth 100000 in
theorem impl_CountLeftOut.calls (k : Nat) (A0 : Option Addr) (c0 : Nat) (l0 : List (S27)) (a1 : Int) (r : Int) (w : World) (hr0 : Kd.C k27 w A0 l0.length l0) (hc0 : l0.length ≤ c0) (h : impl_CountLeftOut.f k l0 a1 = some r) :
  Calls Try.prog 25 #[.slice A0 l0.length c0, .int .i64 a1] w fun e w' => e = .returned (.int .i64 r) ∧ Below w.heap.size w w' := by
 have HR0 := Aside0.mk hr0
 have HC0 := Aside0.mk hc0
 clear hr0 hc0
 have HB := Aside0.mk (Below.refl w.heap.size w)
 have H : ((impl_SimplifyLine.f k l0 a1).bind fun t157 => (some (wrap64 ((l0.length : Int) - (t157.length : Int))))) = some r := h
 clear h
 replace H := Option.bind_eq_some_iff.mp H
 obtain ⟨t157, A30, H⟩ := H
 replace H : (some (wrap64 ((l0.length : Int) - (t157.length : Int)))) = some r := H
 have A3 := Aside0.mk A30
 clear A30
 obtain rfl := Option.some.inj H
 go_enter Try.func25, Try.ntmps25
 go_wp2_with (first | ((with_reducible refine gate_callee (f := 28) rfl ?_); refine goesL_ (some 9) rfl rfl Try.func28 (by kernel_rfl) rfl #[.slice A0 l0.length c0, .int .i64 a1] rfl Hd.m_ ?_; (with_reducible refine (impl_SimplifyLine.calls k _ _ l0 a1 t157 _ ?side1 ?side2 A3.out).mono ?_); (case side1 => repeat (first | exact HR0.out | (with_reducible refine Kd.C_alloc ?_ _) | (with_reducible refine Kd.C_drewN ?_ _) | (with_reducible refine Kd.C_drew ?_))); (case side2 => exact HC0.out); rintro e w4 ⟨v158, rfl, ho0, hb⟩; refine ⟨_, rfl, ?_⟩; have HO159 := Aside0.mk (Kd.R_lower ho0 (below_size Hd.b_)); replace HB := Aside0.mk (below_step Hd.b_ hb); (try clear hb); (try clear hb2); (try clear hk); (try clear hi); (try clear ho0); obtain ⟨Ao5, co5, eo5⟩ := Kd.R_slice HO159.out; subst eo5))
 go_ret
 exact ⟨Hd.e_, Hd.b_⟩
end Go.Proofs.Ytbackoeakepngaa.MFnSimplified
