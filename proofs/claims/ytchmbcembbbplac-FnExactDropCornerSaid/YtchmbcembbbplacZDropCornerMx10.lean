-- Laid by this session's program pp.py, after the kit's print and texts of the session's own. Not trusted: Lean checks it.
import Derived.Test.YtchmbcembbbplacZDropCornerMx0
import Derived.Test.YtchmbcembbbplacZDropCornerMx6
import Derived.Test.YtchmbcembbbplacZDropCornerMx7
import Derived.Test.YtchmbcembbbplacZDropCornerMx9
namespace Go.Proofs.Ytchmbcembbbplac.MFnExactDropCorner
open Go.RowKit Go.Proofs.YtchmbcembbbplacW.PrintWords Go.Proofs.YtchmbcembbbplacW.PrintLast Go.Proofs.YtchmbcembbbplacW.PrintMore
attribute [local go_sem] max2_int min2_int max_two min_two max_three min_three max_four min_four   -- for this text's walks alone
set_option linter.unusedVariables false
set_option linter.unusedSimpArgs false
set_option maxHeartbeats 8000000 in
set_option maxRecDepth 100000 in
theorem impl_without.grow (n : Int) (h0 : 0 ≤ n) (hn : n ≤ 2199023255552) (w : World) :
    Calls Try.prog 159 #[.slice none 0 0, .int .i64 n] w fun e w' => ∃ v, e = .returned v ∧ Kd.R k49 49 w' w.heap.size (fun _ => True) v ([] : List S49) ∧ Below w.heap.size w w' := by
  have hu28 := Try.underlying28
  have b0 : decide (n < 0) = false := decide_eq_false (by omega)
  by_cases h : 0 < n
  · obtain ⟨m, rfl⟩ := Int.eq_ofNat_of_zero_le h0
    have b1 : decide ((m : Int) > 0) = true := decide_eq_true h
    have b2 : decide (0 < (m : Int)) = true := decide_eq_true h
    obtain ⟨i0, hi, hzz⟩ := Option.map_eq_some_iff.1 info49
    simp only [Prod.mk.injEq] at hzz
    obtain ⟨hz0, hz1, hz2⟩ := hzz
    have hr := Lib.run_append_nil_zeros (P := Try.prog) w 28 3 28 49 _ _ .i64 .i64 hu28 Try.underlying3 hi hz0 m (by omega) (by omega) (by omega) (by rw [hz2]; omega)
    have hcut := cut_to (P := Try.prog) 28 49 .i64 hu28 hi (some ⟨w.heap.size, 0, none⟩) m (grownCap w m 0 49) 0 (by omega) (by omega) (grownCap_ge w m 0 49)
    go_enter Try.func159, Try.ntmps159
    go_wp2_with (first | ((with_reducible refine gate_builtin (b := .append) rfl ?_); refine Lib.wpList_append_run _ rfl _ _ _ _ rfl _ _ rfl rfl _ _ hr ?_))
    go_ret
    refine ⟨_, rfl, ⟨fun _ _ => trivial, [], ⟨by simp, .inr ⟨w.heap.size, _, _, rfl, Nat.le_refl _, heap_alloc_new w _, Nat.zero_le _, grownCap_le_maxLen w m 0 49 (by unfold maxLen; omega), ?_, by simp⟩⟩, Reps.none _ _⟩, by repeat (first | exact Below.refl _ _ | apply below_alloc | apply pw_below_drewN | apply below_drew1)⟩
    have := grownCap_ge w m 0 49
    simp [size_zeroCells]
    show _ = grownCap w m 0 49 * 2
    omega
  · obtain rfl : n = 0 := by omega
    go_enter Try.func159, Try.ntmps159
    go_wp2
    go_ret
    exact ⟨_, rfl, Kd.R_nil _ _ _ _ _, Below.refl _ _⟩
set_option maxHeartbeats 8000000 in
set_option maxRecDepth 100000 in
theorem impl_without.concat (A : Addr) (c : Nat) (A1 A2 : Option Addr) (c1 c2 : Nat) (x1 x2 : List S49) (w : World) (h1 : w.cell? A = some (.slice A1 x1.length c1)) (h2 : w.cell? ⟨A.block, A.off + 1, none⟩ = some (.slice A2 x2.length c2))
    (hr1 : Kd.C k49 w A1 x1.length x1) (hr2 : Kd.C k49 w A2 x2.length x2) (hl : x1.length + x2.length ≤ 2199023255552) :
    Calls Try.prog 139 #[.slice (some A) 2 c] w fun e w' => ∃ v, e = .returned v ∧ Kd.R k49 49 w' w.heap.size (fun _ => True) v (x1 ++ x2) ∧ Below w.heap.size w w' := by
  have hu28 := Try.underlying28
  have hu30 := Try.underlying30
  go_enter Try.func139, Try.ntmps139
  go_wp2
  go_loopg [3, 11] 3 (fun kq v3 v11 w' => ∃ i : Nat, i + kq = 3 ∧ i ≤ 2 ∧ v11 = .int .i64 i ∧ w' = w ∧ v3 = .int .i64 (if i = 0 then 0 else if i = 1 then x1.length else x1.length + x2.length))
  case atStart => exact ⟨0, rfl, by decide, rfl, rfl, rfl⟩
  case round =>
    obtain ⟨i, hi, hi2, rfl, hwr, rfl⟩ := hrel
    have hwr := hwr.symm
    subst hwr
    rcases (by omega : i = 0 ∨ i = 1 ∨ i = 2) with rfl | rfl | rfl
    · obtain rfl : gk = 2 + 1 := by omega
      have d1 : decide (wrap64 (0 + (x1.length : Int)) < 0) = false := decide_eq_false (by unfold wrap64; omega)
      go_wp2
      go_roundg 2
      case measure => omega
      case rel => exact ⟨1, rfl, by decide, rfl, rfl, by simp⟩
    · obtain rfl : gk = 1 + 1 := by omega
      have d1 : decide (wrap64 ((x1.length : Int) + x2.length) < 0) = false := decide_eq_false (by unfold wrap64; omega)
      go_wp2
      go_roundg 1
      case measure => omega
      case rel => exact ⟨2, rfl, by decide, rfl, rfl, by simp⟩
    · obtain rfl : gk = 0 + 1 := by omega
      go_wp2_with (first | (go_at_call 159; (with_reducible refine (impl_without.grow _ (by omega) (by omega) _).mono ?_); rintro e w1 ⟨v0, rfl, hR, hb⟩))
      go_loopg [6, 27] 3 (fun kq v6 v27 w' => ∃ (i : Nat) (l : List S49), i + kq = 3 ∧ i ≤ 2 ∧ v27 = .int .i64 i ∧ l = (if i = 0 then [] else if i = 1 then x1 else x1 ++ x2) ∧ Kd.R k49 49 w' w.heap.size (fun _ => True) v6 l ∧ Below w.heap.size w w')
      case atStart => exact ⟨0, [], rfl, by decide, rfl, rfl, hR, hb⟩
      case round =>
        clear hR hb
        obtain ⟨i, l, hi, hi2, rfl, hl2, hR, hb⟩ := hrel
        rcases (by omega : i = 0 ∨ i = 1 ∨ i = 2) with rfl | rfl | rfl
        · obtain rfl : gk = 2 + 1 := by omega
          obtain rfl : l = [] := hl2
          have h1' := (hb.cell (World.block_lt_of_cell? w _ h1)).trans h1
          go_wp2_with (first | ((with_reducible refine gate_builtin (b := .append) rfl ?_); at_builtin; refine Kd.R_append_rows k49 (w0 := w) w.heap.size rfl (.tmp 31) (.tmp 32) 28 49 (.agg #[(.int .i64 0), (.int .i64 0)]) 16 rfl Try.underlying28 info49 rfl (by decide) (by omega) _ [] x1 _ _ _ (fun _ => True) (fun _ => False) rfl rfl hR ?aR (fun _ _ h => h) (fun _ h => h.elim) (fun _ _ => trivial) hb (below_size hb) ?aL ?_; (case aR => exact Kd.C_below hr1 hb); (case aL => (try simp only [List.length_nil]); omega); intro v1 w5 ho hb2 _ _))
          go_roundg 2
          case measure => omega
          case rel => exact ⟨1, _, rfl, by decide, rfl, rfl, ho, hb2⟩
        · obtain rfl : gk = 1 + 1 := by omega
          obtain rfl : l = x1 := hl2
          have h2' := (hb.cell (World.block_lt_of_cell? w _ h2)).trans h2
          go_wp2_with (first | ((with_reducible refine gate_builtin (b := .append) rfl ?_); at_builtin; refine Kd.R_append_rows k49 (w0 := w) w.heap.size rfl (.tmp 31) (.tmp 32) 28 49 (.agg #[(.int .i64 0), (.int .i64 0)]) 16 rfl Try.underlying28 info49 rfl (by decide) (by omega) _ l x2 _ _ _ (fun _ => True) (fun _ => False) rfl rfl hR ?aR (fun _ _ h => h) (fun _ h => h.elim) (fun _ _ => trivial) hb (below_size hb) ?aL ?_; (case aR => exact Kd.C_below hr2 hb); (case aL => (try simp only [List.length_nil]); omega); intro v1 w5 ho hb2 _ _))
          go_roundg 1
          case measure => omega
          case rel => exact ⟨2, _, rfl, by decide, rfl, rfl, ho, hb2⟩
        · obtain rfl : gk = 0 + 1 := by omega
          obtain rfl : l = x1 ++ x2 := hl2
          go_wp2
          go_ret
          exact ⟨_, rfl, hR, hb⟩
def impl_without.f (l0 : List S49) (a1 : Int) : Option (List S49) := if 0 ≤ a1 then (if a1 < (l0.length : Int) then (if l0.length ≤ 2199023255552 then some (l0.take a1.toNat ++ l0.drop (a1.toNat + 1)) else none) else none) else none
def impl_without.T1 : Bool × List (List Nat × List Nat) := (true, [([], []), ([], []), ([0, 1], [0, 1]), ([], []), ([], []), ([4], [4]), ([3, 5], [3, 5]), ([2, 6], [2, 6]), ([7], [7]), ([8, 8, 0, 1, 2, 3, 4, 5, 6, 7, 8], [8])])
def impl_without.B1 : List Nat := [0, 0, 3, 0, 0, 16, 56, 127, 255, 511]
theorem impl_without.bits1 : waitsOk impl_without.T1.2 impl_without.B1 = true := by kernel_rfl
theorem impl_without.tab1 : rtab .any (opsOf Try.f87 1) = impl_without.T1 := by kernel_rfl
set_option maxHeartbeats 8000000 in
set_option maxRecDepth 100000 in
theorem impl_without.calls (A0 : Option Addr) (c0 : Nat) (l0 : List (S49)) (a1 : Int) (r : List (S49)) (w : World) (hr0 : Kd.C k49 w A0 l0.length l0) (hc0 : l0.length ≤ c0) (h : impl_without.f l0 a1 = some r) :
    Calls Try.prog 87 #[.slice A0 l0.length c0, .int .i64 a1] w fun e w' => ∃ v0_ : Value, e = .returned (v0_) ∧ Kd.R k49 49 w' w.heap.size (fun _ => True) v0_ r ∧ Below w.heap.size w w' := by
  unfold impl_without.f at h
  by_cases h1 : 0 ≤ a1
  · rw [if_pos h1] at h
    by_cases h2 : a1 < (l0.length : Int)
    · rw [if_pos h2] at h
      by_cases h3 : l0.length ≤ 2199023255552
      · rw [if_pos h3] at h
        obtain rfl := Option.some.inj h
        have hu28 := Try.underlying28
        have hu30 := Try.underlying30
        obtain ⟨i0, hi, hzz⟩ := Option.map_eq_some_iff.1 info49
        simp only [Prod.mk.injEq] at hzz
        obtain ⟨hz0, hz1, hz2⟩ := hzz
        have hcut1 := cut_to (P := Try.prog) 28 49 .i64 hu28 hi A0 l0.length c0 a1 h1 (by omega) hc0
        have hcut2 := cut_from (P := Try.prog) 28 49 .i64 hu28 hi 2 hz1 A0 l0.length c0 (wrap64 (a1 + 1)) (by unfold wrap64; omega) (by unfold wrap64; omega)
        have e1 : (wrap64 (a1 + 1)).toNat = a1.toNat + 1 := by unfold wrap64; omega
        rw [e1] at hcut2
        have HN := Aside0.mk (show a1.toNat + 1 ≤ l0.length by omega)
        have hC2 := Kd.C_drop hr0 HN.out hc0
        change Kd.C k49 w (if c0 = a1.toNat + 1 then A0 else A0.map (·.add ((a1.toNat + 1) * 2))) _ _ at hC2
        generalize (if c0 = a1.toNat + 1 then A0 else A0.map (·.add ((a1.toNat + 1) * 2))) = A1 at hcut2 hC2
        have HC2 := Aside0.mk hC2
        clear h1 h2 h hC2
        go_enter Try.func87, Try.ntmps87
        go_wp2
        refine start_ (n := 10) (S := fun w' => True) (ds := []) #[false, false, false, false, false, false, false, false, false, false] (by kernel_rfl) rfl rfl trivial (fun hHeld => ?_); refine with_tabW impl_without.tab1 impl_without.bits1 (fun HT_ HW_ => ?_)
        refine Hd.p_ HT_ 0 (some 5) #[true, false, false, false, false, false, false, false, false, false] ?_
        refine Hd.p_ HT_ 1 (some 6) #[true, true, false, false, false, false, false, false, false, false] ?_
        refine Hd.p_ HT_ 2 (some 7) #[true, true, true, false, false, false, false, false, false, false] ?_
        refine Hd.p_ HT_ 3 (some 8) #[true, true, true, true, false, false, false, false, false, false] ?_
        refine Hd.p_ HT_ 4 (some 9) #[true, true, true, true, true, false, false, false, false, false] ?_
        refine Hd.p_ HT_ 5 (some 10) #[true, true, true, true, true, true, false, false, false, false] ?_
        refine Hd.p_ HT_ 6 (some 11) #[true, true, true, true, true, true, true, false, false, false] ?_
        refine Hd.o_ HT_ 7 (some 12) #[true, true, true, true, true, true, true, true, false, false] (fun K hK => ?_)
        refine value_ (w1 := ?_) (v := ?_) (by rfl) rfl ?_ ?_
        rotate_left 2
        · go_simp
          constructor
          · rfl
          · rfl
        refine hK.out _ _ trivial (fun hHeld => ?_)
        clear hK K
        refine Hd.n_ (some 12) ?_
        refine Hd.o_ HT_ 8 (some 13) #[true, true, true, true, true, true, true, true, true, false] (fun K hK => ?_)
        refine goes_ Try.func139 (by kernel_rfl) rfl #[.slice (some ⟨w.heap.size, 0, none⟩) 2 2] (by rfl) rfl rfl Hd.m_ ?_
        have hx1 : (l0.take a1.toNat).length = a1.toNat := by have := HN.out; rw [List.length_take]; omega
        have hx2 : (l0.drop (a1.toNat + 1)).length = l0.length - (a1.toNat + 1) := List.length_drop
        refine (impl_without.concat ⟨w.heap.size, 0, none⟩ 2 A0 _ c0 _ (l0.take a1.toNat) (l0.drop (a1.toNat + 1)) _ (by rw [hx1]; exact (blk_cell (blk_drew (blk_new w _)) 0).trans rfl) (by rw [hx2]; exact (blk_cell (blk_drew (blk_new w _)) 1).trans rfl) (Kd.C_below (Kd.C_take hr0 (by have := HN.out; omega)) (below_drew (below_alloc (Below.refl _ _) _))) (Kd.C_below HC2.out (below_drew (below_alloc (Below.refl _ _) _))) (by have := HN.out; rw [hx1, hx2]; omega)).mono ?_
        rintro e w2 ⟨v0, rfl, hR, hb⟩
        refine ⟨_, rfl, ?_⟩
        refine hK.out _ _ trivial (fun hHeld => ?_)
        clear hK K
        refine Hd.n_ (some 13) ?_
        refine Hd.p_ HT_ 9 (some 4) #[true, true, true, true, true, true, true, true, true, true] ?_
        refine done_ (done_of HT_.out (by kernel_rfl)) ?_
        have hb2 : Below w.heap.size w w2 := below_step (below_drew (below_alloc (Below.refl _ _) _)) hb
        try go_wp2
        go_ret
        exact ⟨_, rfl, Kd.R_lower hR (below_size (below_drew (below_alloc (Below.refl _ _) _))), hb2⟩
      · rw [if_neg h3] at h; cases h
    · rw [if_neg h2] at h; cases h
  · rw [if_neg h1] at h; cases h
def impl_RingSegments.f (k : Nat) (l0 : List (S49)) : Option ((List (S111))) := (impl_IsRing.f k l0).bind fun t340 => (if t340 = true then ((impl_around.f k l0).bind fun t341 => (some t341)) else (some (([] : List (S111)))))
set_option maxHeartbeats 8000000 in
set_option maxRecDepth 100000 in
theorem impl_RingSegments.calls (k : Nat) (A0 : Option Addr) (c0 : Nat) (l0 : List (S49)) (r : List (S111)) (w : World) (hr0 : Kd.C k49 w A0 l0.length l0) (hc0 : l0.length ≤ c0) (h : impl_RingSegments.f k l0 = some r) :
  Calls Try.prog 134 #[.slice A0 l0.length c0] w fun e w' => ∃ v0_ : Value, e = .returned (v0_) ∧ Kd.R k111 111 w' w.heap.size (fun _ => True) v0_ r ∧ Below w.heap.size w w' := by
 have HR0 := Aside0.mk hr0
 have HC0 := Aside0.mk hc0
 clear hr0 hc0
 have HB := Aside0.mk (Below.refl w.heap.size w)
 have H : ((impl_IsRing.f k l0).bind fun t340 => (if t340 = true then ((impl_around.f k l0).bind fun t341 => (some t341)) else (some (([] : List (S111)))))) = some r := h
 clear h
 replace H := Option.bind_eq_some_iff.mp H
 obtain ⟨t340, A20, H⟩ := H
 replace H : (if t340 = true then ((impl_around.f k l0).bind fun t341 => (some t341)) else (some (([] : List (S111))))) = some r := H
 have A2 := Aside0.mk A20
 clear A20
 by_cases c3 : t340 = true
 ·
  subst c3
  have H1 : ((impl_around.f k l0).bind fun t341 => (some t341)) = some r := by rw [if_pos rfl] at H; exact H
  clear H
  have H := H1
  clear H1
  replace H := Option.bind_eq_some_iff.mp H
  obtain ⟨t341, A40, H⟩ := H
  replace H : (some t341) = some r := H
  have A4 := Aside0.mk A40
  clear A40
  obtain rfl := Option.some.inj H
  go_enter Try.func134, Try.ntmps134
  go_wp2_with (first | ((with_reducible refine gate_callee (f := 44) rfl ?_); refine goesL_ (some 4) rfl rfl Try.func44 (by kernel_rfl) rfl #[.slice A0 l0.length c0] rfl Hd.m_ ?_; (with_reducible refine (impl_IsRing.calls k _ _ l0 true _ ?side1 ?side2 A2.out).mono ?_); (case side1 => repeat (first | exact HR0.out | (with_reducible refine Kd.C_alloc ?_ _) | (with_reducible refine Kd.C_drewN ?_ _) | (with_reducible refine Kd.C_drew ?_))); (case side2 => exact HC0.out); rintro e w5 ⟨rfl, hb⟩; refine ⟨_, rfl, ?_⟩; replace HB := Aside0.mk (below_step Hd.b_ hb); (try clear hb); (try clear hb2); (try clear hk); (try clear hi)) | ((with_reducible refine gate_callee (f := 101) rfl ?_); refine goesL_ (some 8) rfl rfl Try.func101 (by kernel_rfl) rfl #[.slice A0 l0.length c0] rfl Hd.m_ ?_; (with_reducible refine (impl_around.calls k _ _ l0 t341 _ ?side1 ?side2 A4.out).mono ?_); (case side1 => repeat (first | exact (Kd.C_below HR0.out HB.out) | (with_reducible refine Kd.C_alloc ?_ _) | (with_reducible refine Kd.C_drewN ?_ _) | (with_reducible refine Kd.C_drew ?_))); (case side2 => exact HC0.out); rintro e w6 ⟨v342, rfl, ho0, hb⟩; refine ⟨_, rfl, ?_⟩; have HO343 := Aside0.mk (Kd.R_lower ho0 (below_size Hd.b_)); replace HB := Aside0.mk (below_step Hd.b_ hb); (try clear hb); (try clear hb2); (try clear hk); (try clear hi); (try clear ho0)))
  go_ret
  exact ⟨_, Hd.e_, by (with_reducible repeat (first | apply Kd.R_alloc | apply Kd.R_drewN | apply Kd.R_drew)); exact HO343.out, Hd.b_⟩
 ·
  replace c3 := Bool.eq_false_iff.mpr c3
  subst c3
  have H1 : (some (([] : List (S111)))) = some r := by rw [if_neg (show ¬ (false = true) by decide)] at H; exact H
  clear H
  have H := H1
  clear H1
  obtain ⟨y344, hy344⟩ : ∃ y_ : List (S111), y_ = (([] : List (S111))) := ⟨_, rfl⟩
  replace H : (some y344) = some r := by first | (rw [hy344]; with_reducible exact H) | (have H2_ := (Option.bind_some _ _).symm.trans H; rw [hy344]; with_reducible exact H2_) | (have H2_ := (Option.bind_some _ _).symm.trans H; with_reducible exact H2_) | with_reducible exact H | (rw [hy344]; exact H) | exact H
  have Ny344 := Aside0.mk hy344
  clear hy344
  obtain rfl := Option.some.inj H
  go_enter Try.func134, Try.ntmps134
  go_wp2_with (first | ((with_reducible refine gate_callee (f := 44) rfl ?_); refine goesL_ (some 4) rfl rfl Try.func44 (by kernel_rfl) rfl #[.slice A0 l0.length c0] rfl Hd.m_ ?_; (with_reducible refine (impl_IsRing.calls k _ _ l0 false _ ?side1 ?side2 A2.out).mono ?_); (case side1 => repeat (first | exact HR0.out | (with_reducible refine Kd.C_alloc ?_ _) | (with_reducible refine Kd.C_drewN ?_ _) | (with_reducible refine Kd.C_drew ?_))); (case side2 => exact HC0.out); rintro e w7 ⟨rfl, hb⟩; refine ⟨_, rfl, ?_⟩; replace HB := Aside0.mk (below_step Hd.b_ hb); (try clear hb); (try clear hb2); (try clear hk); (try clear hi)) | ((with_reducible refine gate_dst (N := 6) rfl ?_); refine Kd.R_lit k111 _ 111 ?hg (N := 6) ?hd (xs := ([] : List (S111))) (inner := []) (ok := fun _ => True) (okp := fun _ => True) ?hr ?hp (fun _ hk => hk) trivial (Below.refl _ _) (Nat.le_refl _) (by simp) ?_; (case hd => rfl); (case hg => rfl); (case hr => first | (go_simp; done) | (go_simp; rfl)); (case hp => exact (Reps.none _ _)); intro v345 w8 ho9 hb hg_ hnew_; clear hg_ hnew_; (first | rw [← Ny344.out] at ho9 | (simp only [Int.reduceToNat] at ho9; rw [← Ny344.out] at ho9)); have HO346 := Aside0.mk (Kd.R_lower ho9 (below_size Hd.b_)); replace HB := Aside0.mk (below_step Hd.b_ hb); clear hb ho9))
  go_ret
  exact ⟨_, Hd.e_, by (with_reducible repeat (first | apply Kd.R_alloc | apply Kd.R_drewN | apply Kd.R_drew)); exact HO346.out, Hd.b_⟩
def impl_TwiceArea.l0 : Nat → Int → List (S111) → Int → Int → Option (Int)
 | 0, _, _, _, _ => none
 | k + 1, x3, x7, x8, x9 => if x9 < x8 then (if 0 ≤ x9 then (if x9 < (x7.length : Int) then (impl_TwiceArea.l0 k (wrap64 (x3 + (wrap64 ((wrap64 (((rd_T111 x7 x9).f0.f0) * ((rd_T111 x7 x9).f1.f1))) - (wrap64 (((rd_T111 x7 x9).f0.f1) * ((rd_T111 x7 x9).f1.f0))))))) x7 x8 (wrap64 (x9 + 1))) else (none)) else (none)) else (some x3)
def impl_TwiceArea.f (k : Nat) (l0 : List (S49)) : Option (Int) := (impl_RingSegments.f k l0).bind fun t347 => (impl_TwiceArea.l0 k 0 t347 (t347.length : Int) 0)
set_option maxHeartbeats 8000000 in
set_option maxRecDepth 100000 in
theorem impl_TwiceArea.calls (k : Nat) (A0 : Option Addr) (c0 : Nat) (l0 : List (S49)) (r : Int) (w : World) (hr0 : Kd.C k49 w A0 l0.length l0) (hc0 : l0.length ≤ c0) (h : impl_TwiceArea.f k l0 = some r) :
  Calls Try.prog 89 #[.slice A0 l0.length c0] w fun e w' => e = .returned (.int .i64 r) ∧ Below w.heap.size w w' := by
 have hu111 := Try.underlying111
 have HR0 := Aside0.mk hr0
 have HC0 := Aside0.mk hc0
 clear hr0 hc0
 have HB := Aside0.mk (Below.refl w.heap.size w)
 have H : ((impl_RingSegments.f k l0).bind fun t347 => (impl_TwiceArea.l0 k 0 t347 (t347.length : Int) 0)) = some r := h
 clear h
 replace H := Option.bind_eq_some_iff.mp H
 obtain ⟨t347, A20, H⟩ := H
 replace H : (impl_TwiceArea.l0 k 0 t347 (t347.length : Int) 0) = some r := H
 have A2 := Aside0.mk A20
 clear A20
 have H' := Aside0.mk H
 clear H
 go_enter Try.func89, Try.ntmps89
 go_wp2_with (first | ((with_reducible refine gate_callee (f := 134) rfl ?_); refine goesL_ (some 7) rfl rfl Try.func134 (by kernel_rfl) rfl #[.slice A0 l0.length c0] rfl Hd.m_ ?_; (with_reducible refine (impl_RingSegments.calls k _ _ l0 t347 _ ?side1 ?side2 A2.out).mono ?_); (case side1 => repeat (first | exact HR0.out | (with_reducible refine Kd.C_alloc ?_ _) | (with_reducible refine Kd.C_drewN ?_ _) | (with_reducible refine Kd.C_drew ?_))); (case side2 => exact HC0.out); rintro e w3 ⟨v348, rfl, ho0, hb⟩; refine ⟨_, rfl, ?_⟩; have HO349 := Aside0.mk (Kd.R_lower ho0 (below_size Hd.b_)); replace HB := Aside0.mk (below_step Hd.b_ hb); (try clear hb); (try clear hb2); (try clear hk); (try clear hi); (try clear ho0); obtain ⟨Ao4, co4, eo4⟩ := Kd.R_slice HO349.out; subst eo4))
 go_loopg [3, 9] k (fun kq v3 v9 w' => ∃ (x3_1 : Int) (x9_1 : Int), v3 = .int .i64 x3_1 ∧ v9 = .int .i64 x9_1 ∧ Aside0 (impl_TwiceArea.l0 kq x3_1 t347 (t347.length : Int) x9_1 = some r) ∧ Aside0 (kq ≤ k) ∧ Aside0 (Kd.R k111 111 w' w.heap.size (fun _ => True) (.slice Ao4 t347.length co4) t347) ∧ Aside0 (Below w.heap.size w w'))
 case atStart => exact ⟨(0), (0), (by first | rfl | (simp; done) | (simp [*]; done)), (by first | rfl | (simp; done) | (simp [*]; done)), H', ⟨Nat.le_refl _⟩, ⟨by (with_reducible repeat (first | apply Kd.R_alloc | apply Kd.R_drewN | apply Kd.R_drew)); exact HO349.out⟩, ⟨Hd.b_⟩⟩
 case round =>
  clear H'
  try clear c1
  try clear p2
  obtain ⟨x3_1, x9_1, rfl, rfl, HA, HK1, HO_7, HB⟩ := hrel
  cases gk with
  | zero => exact absurd HA.out (by simp [impl_TwiceArea.l0])
  | succ k1 =>
   have H := HA.out
   clear HA
   simp only [impl_TwiceArea.l0] at H
   by_cases c5 : x9_1 < (t347.length : Int)
   ·
    rw [if_pos c5] at H
    have c5b0 : decide (x9_1 < (t347.length : Int)) = true := decide_eq_true c5
    clear c5
    by_cases c6 : 0 ≤ x9_1
    ·
     rw [if_pos c6] at H
     have c6b0 : decide (0 ≤ x9_1) = true := decide_eq_true c6
     clear c6
     by_cases c7 : x9_1 < (t347.length : Int)
     ·
      rw [if_pos c7] at H
      have c7b0 : decide (x9_1 < (t347.length : Int)) = true := decide_eq_true c7
      clear c7
      have H' := Aside0.mk H
      clear H
      have p350 : 0 ≤ (x9_1 : Int) := of_decide_eq_true Hd.a_
      have q350 : x9_1 < (t347.length : Int) := of_decide_eq_true Hd.a_
      obtain ⟨ad350, e350, hx350_0, hx350_1, hx350_2, hx350_3⟩ := at_T111 (Kd.R_reads' HO_7.out).2.2 x9_1 p350 q350
      cases e350
      replace p350 := eq_true p350
      replace q350 := eq_true q350
      go_wp2_with (first | ((with_reducible refine gate_dst (N := 5) rfl ?_); refine Hd.box_ 5 (#[.int .i64 0, .int .i64 0, .int .i64 0, .int .i64 0]) 111 ?_; intro gb351 hg w8 hbox hb; replace HO_7 := Aside0.mk (Kd.R_below (Kd.R_elderB (Hd.r_ HO_7) gb351 (Nat.le_of_eq hg.symm)) hb); have BK351 := Aside0.mk (hbox); have GW351 := Aside0.mk ((Hd.g_ hg Hd.b_ : w.heap.size ≤ gb351)); have GE351 := Aside0.mk ((Hd.g_ hg Hd.b_ : w.heap.size ≤ gb351)); replace HB := Aside0.mk (below_step Hd.b_ hb); clear hb hbox hg; obtain ⟨hcz9_0, hcz9_1, hcz9_2, hcz9_3⟩ := Hd.c4_ BK351.out; obtain ⟨hfz9_0, hfz9_1, hfz9_2, hfz9_3⟩ := Hd.f4_ BK351.out))
      go_roundg k1
      case measure => have := HK1.out; omega
      case rel => exact ⟨(wrap64 (x3_1 + (wrap64 ((wrap64 (((rd_T111 t347 x9_1).f0.f0) * ((rd_T111 t347 x9_1).f1.f1))) - (wrap64 (((rd_T111 t347 x9_1).f0.f1) * ((rd_T111 t347 x9_1).f1.f0))))))), (wrap64 (x9_1 + 1)), (by first | rfl | (simp; done) | (simp [*]; done)), (by first | rfl | (simp; done) | (simp [*]; done)), H', ⟨by have := HK1.out; omega⟩, ⟨by (with_reducible repeat (first | apply Kd.R_alloc | apply Kd.R_drewN | apply Kd.R_drew)); exact Kd.R_mono (Kd.R_far (p := ⟨gb351, 3, none⟩) (Kd.R_far (p := ⟨gb351, 2, none⟩) (Kd.R_far (p := ⟨gb351, 1, none⟩) (Kd.R_far (p := ⟨gb351, 0, none⟩) (Kd.R_mono HO_7.out (fun k_ hk => (⟨hk, hk.2⟩ : _ ∧ k_ ≠ gb351))) (fun _ hk => hk.2) (.int .i64 ((rd_T111 t347 x9_1).f0.f0))) (fun _ hk => hk.2) (.int .i64 ((rd_T111 t347 x9_1).f0.f1))) (fun _ hk => hk.2) (.int .i64 ((rd_T111 t347 x9_1).f1.f0))) (fun _ hk => hk.2) (.int .i64 ((rd_T111 t347 x9_1).f1.f1))) (fun _ hk => trivial)⟩, ⟨Hd.b_⟩⟩
     ·
      rw [if_neg c7] at H
      exact absurd H (by simp)
    ·
     rw [if_neg c6] at H
     exact absurd H (by simp)
   ·
    rw [if_neg c5] at H
    have c5b0 : decide (x9_1 < (t347.length : Int)) = false := decide_eq_false c5
    clear c5
    obtain rfl := Option.some.inj H
    go_wp2
    go_ret
    exact ⟨Hd.e_, Hd.b_⟩
def impl_DropCorner.j0 : Nat → List (S49) → Int → Bool → Option ((List (S49)) × Bool)
 | 0, _, _, _ => none
 | k + 1, x0, x1, x17 => if x17 = true then ((impl_Point_86.f x0).bind fun t354 => (some (t354, false))) else ((impl_without.f x0 x1).bind fun t357 => ((impl_IsRing.f k t357).bind fun t360 => (if t360 = true then ((impl_TwiceArea.f k t357).bind fun t361 => ((cmp_Compare_int.f t361 0).bind fun t362 => ((impl_TwiceArea.f k x0).bind fun t363 => ((cmp_Compare_int.f t363 0).bind fun t364 => (if t362 = t364 then (some (t357, true)) else ((impl_Point_86.f x0).bind fun t365 => (some (t365, false)))))))) else ((impl_Point_86.f x0).bind fun t368 => (some (t368, false))))))
def impl_DropCorner.f (k : Nat) (l0 : List (S49)) (a1 : Int) : Option ((List (S49)) × Bool) := (impl_IsRing.f k l0).bind fun t352 => (if t352 = true then ((impl_InRange.f a1 0 (wrap64 ((l0.length : Int) - 1))).bind fun t353 => (impl_DropCorner.j0 k l0 a1 (!t353))) else (impl_DropCorner.j0 k l0 a1 true))
set_option maxHeartbeats 8000000 in
set_option maxRecDepth 100000 in
theorem impl_DropCorner.calls (k : Nat) (A0 : Option Addr) (c0 : Nat) (l0 : List (S49)) (a1 : Int) (r1 : List (S49)) (r2 : Bool) (w : World) (hr0 : Kd.C k49 w A0 l0.length l0) (hc0 : l0.length ≤ c0) (h : impl_DropCorner.f k l0 a1 = some (r1, r2)) :
  Calls Try.prog 29 #[.slice A0 l0.length c0, .int .i64 a1] w fun e w' => ∃ v0_ : Value, e = .returned (.tuple #[v0_, .bool r2]) ∧ Kd.R k49 49 w' w.heap.size (fun _ => True) v0_ r1 ∧ Below w.heap.size w w' := by
 have HR0 := Aside0.mk hr0
 have HC0 := Aside0.mk hc0
 clear hr0 hc0
 have HB := Aside0.mk (Below.refl w.heap.size w)
 have H : ((impl_IsRing.f k l0).bind fun t352 => (if t352 = true then ((impl_InRange.f a1 0 (wrap64 ((l0.length : Int) - 1))).bind fun t353 => (impl_DropCorner.j0 k l0 a1 (!t353))) else (impl_DropCorner.j0 k l0 a1 true))) = some (r1, r2) := h
 clear h
 have HC3 := Aside0.mk H
 clear H
 go_enter Try.func29, Try.ntmps29
 go_upto_region 1 with (fail)
 go_cut [17] (fun v17 wc => ∃ (kq : Nat) (x17_2 : Bool), v17 = .bool x17_2 ∧ Aside0 (impl_DropCorner.j0 kq l0 a1 x17_2 = some (r1, r2)) ∧ Aside0 (kq ≤ k) ∧ Aside0 (Below w.heap.size w wc))
 case first =>
  have H := HC3.out
  clear HC3
  replace H := Option.bind_eq_some_iff.mp H
  obtain ⟨t352, A40, H⟩ := H
  replace H : (if t352 = true then ((impl_InRange.f a1 0 (wrap64 ((l0.length : Int) - 1))).bind fun t353 => (impl_DropCorner.j0 k l0 a1 (!t353))) else (impl_DropCorner.j0 k l0 a1 true)) = some (r1, r2) := H
  have A4 := Aside0.mk A40
  clear A40
  by_cases c5 : t352 = true
  ·
   subst c5
   have H1 : ((impl_InRange.f a1 0 (wrap64 ((l0.length : Int) - 1))).bind fun t353 => (impl_DropCorner.j0 k l0 a1 (!t353))) = some (r1, r2) := by rw [if_pos rfl] at H; exact H
   clear H
   have H := H1
   clear H1
   replace H := Option.bind_eq_some_iff.mp H
   obtain ⟨t353, A60, H⟩ := H
   replace H : (impl_DropCorner.j0 k l0 a1 (!t353)) = some (r1, r2) := H
   have A6 := Aside0.mk A60
   clear A60
   have H' := Aside0.mk H
   clear H
   go_wp2_with (first | ((with_reducible refine gate_callee (f := 44) rfl ?_); refine goesL_ (some 8) rfl rfl Try.func44 (by kernel_rfl) rfl #[.slice A0 l0.length c0] rfl Hd.m_ ?_; (with_reducible refine (impl_IsRing.calls k _ _ l0 true _ ?side1 ?side2 A4.out).mono ?_); (case side1 => repeat (first | exact (Kd.C_below HR0.out HB.out) | (with_reducible refine Kd.C_alloc ?_ _) | (with_reducible refine Kd.C_drewN ?_ _) | (with_reducible refine Kd.C_drew ?_))); (case side2 => exact HC0.out); rintro e w7 ⟨rfl, hb⟩; refine ⟨_, rfl, ?_⟩; replace HB := Aside0.mk (below_step Hd.b_ hb); (try clear hb); (try clear hb2); (try clear hk); (try clear hi)) | (go_at_call 85; (with_reducible refine (impl_InRange.calls a1 0 (wrap64 ((l0.length : Int) - 1)) t353 _ A6.out).mono ?_); rintro e w' ⟨rfl, ⟨nd, rfl⟩⟩))
   go_meet
   case rel => exact ⟨_, (!t353), (by first | rfl | (simp; done) | (simp [*]; done)), H', ⟨by first | omega | exact Nat.le_refl _⟩, ⟨Hd.b_⟩⟩
  ·
   replace c5 := Bool.eq_false_iff.mpr c5
   subst c5
   have H1 : (impl_DropCorner.j0 k l0 a1 true) = some (r1, r2) := by rw [if_neg (show ¬ (false = true) by decide)] at H; exact H
   clear H
   have H := H1
   clear H1
   have H' := Aside0.mk H
   clear H
   go_wp2_with (first | ((with_reducible refine gate_callee (f := 44) rfl ?_); refine goesL_ (some 8) rfl rfl Try.func44 (by kernel_rfl) rfl #[.slice A0 l0.length c0] rfl Hd.m_ ?_; (with_reducible refine (impl_IsRing.calls k _ _ l0 false _ ?side1 ?side2 A4.out).mono ?_); (case side1 => repeat (first | exact (Kd.C_below HR0.out HB.out) | (with_reducible refine Kd.C_alloc ?_ _) | (with_reducible refine Kd.C_drewN ?_ _) | (with_reducible refine Kd.C_drew ?_))); (case side2 => exact HC0.out); rintro e w8 ⟨rfl, hb⟩; refine ⟨_, rfl, ?_⟩; replace HB := Aside0.mk (below_step Hd.b_ hb); (try clear hb); (try clear hb2); (try clear hk); (try clear hi)))
   go_meet
   case rel => exact ⟨_, (true), (by first | rfl | (simp; done) | (simp [*]; done)), H', ⟨by first | omega | exact Nat.le_refl _⟩, ⟨Hd.b_⟩⟩
 case rest =>
  clear HC3
  try clear c2
  try clear p2
  try clear c4
  try clear c5
  try clear p6
  obtain ⟨kq, x17_2, rfl, HA, HJ2, HB⟩ := hcut
  cases kq with
  | zero => exact absurd HA.out (by simp [impl_DropCorner.j0])
  | succ kj2 =>
   have H := HA.out
   clear HA
   simp only [impl_DropCorner.j0] at H
   by_cases c9 : x17_2 = true
   ·
    subst c9
    have H1 : ((impl_Point_86.f l0).bind fun t354 => (some (t354, false))) = some (r1, r2) := by rw [if_pos rfl] at H; exact H
    clear H
    have H := H1
    clear H1
    replace H := Option.bind_eq_some_iff.mp H
    obtain ⟨t354, A100, H⟩ := H
    replace H : (some (t354, false)) = some (r1, r2) := H
    have A10 := Aside0.mk A100
    clear A100
    simp only [Option.some.injEq, Prod.mk.injEq] at H
    obtain ⟨rfl, rfl⟩ := H
    go_wp2_with (first | ((with_reducible refine gate_callee (f := 86) rfl ?_); refine goesL_ (some 19) rfl rfl Try.func86 (by kernel_rfl) rfl #[.slice A0 l0.length c0] rfl Hd.m_ ?_; (with_reducible refine (impl_Point_86.calls _ _ l0 t354 _ ?side1 ?side2 A10.out).mono ?_); (case side1 => repeat (first | exact (Kd.C_below HR0.out HB.out) | (with_reducible refine Kd.C_alloc ?_ _) | (with_reducible refine Kd.C_drewN ?_ _) | (with_reducible refine Kd.C_drew ?_))); (case side2 => exact HC0.out); rintro e w11 ⟨v355, rfl, ho0, hb⟩; refine ⟨_, rfl, ?_⟩; have HO356 := Aside0.mk (Kd.R_lower ho0 (below_size Hd.b_)); replace HB := Aside0.mk (below_step Hd.b_ hb); (try clear hb); (try clear hb2); (try clear hk); (try clear hi); (try clear ho0)))
    go_ret2
    exact ⟨_, Hd.e_, by (with_reducible repeat (first | apply Kd.R_alloc | apply Kd.R_drewN | apply Kd.R_drew)); exact HO356.out, Hd.b_⟩
   ·
    replace c9 := Bool.eq_false_iff.mpr c9
    subst c9
    have H1 : ((impl_without.f l0 a1).bind fun t357 => ((impl_IsRing.f kj2 t357).bind fun t360 => (if t360 = true then ((impl_TwiceArea.f kj2 t357).bind fun t361 => ((cmp_Compare_int.f t361 0).bind fun t362 => ((impl_TwiceArea.f kj2 l0).bind fun t363 => ((cmp_Compare_int.f t363 0).bind fun t364 => (if t362 = t364 then (some (t357, true)) else ((impl_Point_86.f l0).bind fun t365 => (some (t365, false)))))))) else ((impl_Point_86.f l0).bind fun t368 => (some (t368, false)))))) = some (r1, r2) := by rw [if_neg (show ¬ (false = true) by decide)] at H; exact H
    clear H
    have H := H1
    clear H1
    replace H := Option.bind_eq_some_iff.mp H
    obtain ⟨t357, A120, H⟩ := H
    replace H : ((impl_IsRing.f kj2 t357).bind fun t360 => (if t360 = true then ((impl_TwiceArea.f kj2 t357).bind fun t361 => ((cmp_Compare_int.f t361 0).bind fun t362 => ((impl_TwiceArea.f kj2 l0).bind fun t363 => ((cmp_Compare_int.f t363 0).bind fun t364 => (if t362 = t364 then (some (t357, true)) else ((impl_Point_86.f l0).bind fun t365 => (some (t365, false)))))))) else ((impl_Point_86.f l0).bind fun t368 => (some (t368, false))))) = some (r1, r2) := H
    have A12 := Aside0.mk A120
    clear A120
    replace H := Option.bind_eq_some_iff.mp H
    obtain ⟨t360, A130, H⟩ := H
    replace H : (if t360 = true then ((impl_TwiceArea.f kj2 t357).bind fun t361 => ((cmp_Compare_int.f t361 0).bind fun t362 => ((impl_TwiceArea.f kj2 l0).bind fun t363 => ((cmp_Compare_int.f t363 0).bind fun t364 => (if t362 = t364 then (some (t357, true)) else ((impl_Point_86.f l0).bind fun t365 => (some (t365, false)))))))) else ((impl_Point_86.f l0).bind fun t368 => (some (t368, false)))) = some (r1, r2) := H
    have A13 := Aside0.mk A130
    clear A130
    by_cases c14 : t360 = true
    ·
     subst c14
     have H1 : ((impl_TwiceArea.f kj2 t357).bind fun t361 => ((cmp_Compare_int.f t361 0).bind fun t362 => ((impl_TwiceArea.f kj2 l0).bind fun t363 => ((cmp_Compare_int.f t363 0).bind fun t364 => (if t362 = t364 then (some (t357, true)) else ((impl_Point_86.f l0).bind fun t365 => (some (t365, false)))))))) = some (r1, r2) := by rw [if_pos rfl] at H; exact H
     clear H
     have H := H1
     clear H1
     replace H := Option.bind_eq_some_iff.mp H
     obtain ⟨t361, A150, H⟩ := H
     replace H : ((cmp_Compare_int.f t361 0).bind fun t362 => ((impl_TwiceArea.f kj2 l0).bind fun t363 => ((cmp_Compare_int.f t363 0).bind fun t364 => (if t362 = t364 then (some (t357, true)) else ((impl_Point_86.f l0).bind fun t365 => (some (t365, false))))))) = some (r1, r2) := H
     have A15 := Aside0.mk A150
     clear A150
     replace H := Option.bind_eq_some_iff.mp H
     obtain ⟨t362, A160, H⟩ := H
     replace H : ((impl_TwiceArea.f kj2 l0).bind fun t363 => ((cmp_Compare_int.f t363 0).bind fun t364 => (if t362 = t364 then (some (t357, true)) else ((impl_Point_86.f l0).bind fun t365 => (some (t365, false)))))) = some (r1, r2) := H
     have A16 := Aside0.mk A160
     clear A160
     replace H := Option.bind_eq_some_iff.mp H
     obtain ⟨t363, A170, H⟩ := H
     replace H : ((cmp_Compare_int.f t363 0).bind fun t364 => (if t362 = t364 then (some (t357, true)) else ((impl_Point_86.f l0).bind fun t365 => (some (t365, false))))) = some (r1, r2) := H
     have A17 := Aside0.mk A170
     clear A170
     replace H := Option.bind_eq_some_iff.mp H
     obtain ⟨t364, A180, H⟩ := H
     replace H : (if t362 = t364 then (some (t357, true)) else ((impl_Point_86.f l0).bind fun t365 => (some (t365, false)))) = some (r1, r2) := H
     have A18 := Aside0.mk A180
     clear A180
     by_cases c19 : t362 = t364
     ·
      rw [if_pos c19] at H
      have c19b0 : (t362 == t364) = true := beq_iff_eq.mpr c19
      have c19b1 : (t362 != t364) = false := bne_eq_false_iff_eq.mpr c19
      clear c19
      simp only [Option.some.injEq, Prod.mk.injEq] at H
      obtain ⟨rfl, rfl⟩ := H
      go_wp2_with (first | ((with_reducible refine gate_callee (f := 87) rfl ?_); refine goesL_ (some 22) rfl rfl Try.func87 (by kernel_rfl) rfl #[.slice A0 l0.length c0, .int .i64 a1] rfl Hd.m_ ?_; (with_reducible refine (impl_without.calls _ _ l0 a1 t357 _ ?side1 ?side2 A12.out).mono ?_); (case side1 => repeat (first | exact (Kd.C_below HR0.out HB.out) | (with_reducible refine Kd.C_alloc ?_ _) | (with_reducible refine Kd.C_drewN ?_ _) | (with_reducible refine Kd.C_drew ?_))); (case side2 => exact HC0.out); rintro e w20 ⟨v358, rfl, ho0, hb⟩; refine ⟨_, rfl, ?_⟩; have HO359 := Aside0.mk (Kd.R_lower ho0 (below_size Hd.b_)); replace HB := Aside0.mk (below_step Hd.b_ hb); (try clear hb); (try clear hb2); (try clear hk); (try clear hi); (try clear ho0); obtain ⟨Ao21, co21, eo21⟩ := Kd.R_slice HO359.out; subst eo21) | ((with_reducible refine gate_callee (f := 44) rfl ?_); refine goesL_ (some 24) rfl rfl Try.func44 (by kernel_rfl) rfl #[.slice Ao21 t357.length co21] rfl Hd.m_ ?_; (with_reducible refine (impl_IsRing.calls kj2 _ _ t357 true _ ?side1 ?side2 A13.out).mono ?_); (case side1 => repeat (first | exact (Kd.R_reads' HO359.out).2.2 | (with_reducible refine Kd.C_alloc ?_ _) | (with_reducible refine Kd.C_drewN ?_ _) | (with_reducible refine Kd.C_drew ?_))); (case side2 => exact (Kd.R_reads' HO359.out).2.1); rintro e w22 ⟨rfl, hb⟩; refine ⟨_, rfl, ?_⟩; replace HO359 := Aside0.mk (Kd.R_below (Hd.r_ HO359) hb); replace HB := Aside0.mk (below_step Hd.b_ hb); (try clear hb); (try clear hb2); (try clear hk); (try clear hi)) | (go_at_call 89; (with_reducible refine (impl_TwiceArea.calls kj2 _ _ t357 t361 _ ?side1 ?side2 A15.out).mono ?_); (case side1 => repeat (first | exact (Kd.R_reads' HO359.out).2.2 | (with_reducible refine Kd.C_alloc ?_ _) | (with_reducible refine Kd.C_drewN ?_ _) | (with_reducible refine Kd.C_drew ?_))); (case side2 => exact (Kd.R_reads' HO359.out).2.1); rintro e w23 ⟨rfl, hb⟩; replace HO359 := Aside0.mk (Kd.R_below (Hd.r_ HO359) hb); replace HB := Aside0.mk (below_step Hd.b_ hb); (try clear hb); (try clear hb2); (try clear hk); (try clear hi)) | (go_at_call 88; (with_reducible refine (cmp_Compare_int.calls t361 0 t362 _ A16.out).mono ?_); rintro e w' ⟨rfl, ⟨nd, rfl⟩⟩) | (go_at_call 89; (with_reducible refine (impl_TwiceArea.calls kj2 _ _ l0 t363 _ ?side1 ?side2 A17.out).mono ?_); (case side1 => repeat (first | exact (Kd.C_below HR0.out Hd.b_) | (with_reducible refine Kd.C_alloc ?_ _) | (with_reducible refine Kd.C_drewN ?_ _) | (with_reducible refine Kd.C_drew ?_))); (case side2 => exact HC0.out); rintro e w24 ⟨rfl, hb⟩; replace HO359 := Aside0.mk (Kd.R_below (Hd.r_ HO359) hb); replace HB := Aside0.mk (below_step Hd.b_ hb); (try clear hb); (try clear hb2); (try clear hk); (try clear hi)) | (go_at_call 88; (with_reducible refine (cmp_Compare_int.calls t363 0 t364 _ A18.out).mono ?_); rintro e w' ⟨rfl, ⟨nd, rfl⟩⟩))
      go_ret2
      exact ⟨_, Hd.e_, by (with_reducible repeat (first | apply Kd.R_alloc | apply Kd.R_drewN | apply Kd.R_drew)); exact HO359.out, Hd.b_⟩
     ·
      rw [if_neg c19] at H
      have c19b0 : (t362 == t364) = false := beq_eq_false_iff_ne.mpr c19
      have c19b1 : (t362 != t364) = true := bne_iff_ne.mpr c19
      replace H := Option.bind_eq_some_iff.mp H
      obtain ⟨t365, A250, H⟩ := H
      replace H : (some (t365, false)) = some (r1, r2) := H
      have A25 := Aside0.mk A250
      clear A250
      simp only [Option.some.injEq, Prod.mk.injEq] at H
      obtain ⟨rfl, rfl⟩ := H
      go_wp2_with (first | ((with_reducible refine gate_callee (f := 87) rfl ?_); refine goesL_ (some 22) rfl rfl Try.func87 (by kernel_rfl) rfl #[.slice A0 l0.length c0, .int .i64 a1] rfl Hd.m_ ?_; (with_reducible refine (impl_without.calls _ _ l0 a1 t357 _ ?side1 ?side2 A12.out).mono ?_); (case side1 => repeat (first | exact (Kd.C_below HR0.out HB.out) | (with_reducible refine Kd.C_alloc ?_ _) | (with_reducible refine Kd.C_drewN ?_ _) | (with_reducible refine Kd.C_drew ?_))); (case side2 => exact HC0.out); rintro e w26 ⟨v358, rfl, ho0, hb⟩; refine ⟨_, rfl, ?_⟩; have HO359 := Aside0.mk (Kd.R_lower ho0 (below_size Hd.b_)); replace HB := Aside0.mk (below_step Hd.b_ hb); (try clear hb); (try clear hb2); (try clear hk); (try clear hi); (try clear ho0); obtain ⟨Ao27, co27, eo27⟩ := Kd.R_slice HO359.out; subst eo27) | ((with_reducible refine gate_callee (f := 44) rfl ?_); refine goesL_ (some 24) rfl rfl Try.func44 (by kernel_rfl) rfl #[.slice Ao27 t357.length co27] rfl Hd.m_ ?_; (with_reducible refine (impl_IsRing.calls kj2 _ _ t357 true _ ?side1 ?side2 A13.out).mono ?_); (case side1 => repeat (first | exact (Kd.R_reads' HO359.out).2.2 | (with_reducible refine Kd.C_alloc ?_ _) | (with_reducible refine Kd.C_drewN ?_ _) | (with_reducible refine Kd.C_drew ?_))); (case side2 => exact (Kd.R_reads' HO359.out).2.1); rintro e w28 ⟨rfl, hb⟩; refine ⟨_, rfl, ?_⟩; replace HO359 := Aside0.mk (Kd.R_below (Hd.r_ HO359) hb); replace HB := Aside0.mk (below_step Hd.b_ hb); (try clear hb); (try clear hb2); (try clear hk); (try clear hi)) | (go_at_call 89; (with_reducible refine (impl_TwiceArea.calls kj2 _ _ t357 t361 _ ?side1 ?side2 A15.out).mono ?_); (case side1 => repeat (first | exact (Kd.R_reads' HO359.out).2.2 | (with_reducible refine Kd.C_alloc ?_ _) | (with_reducible refine Kd.C_drewN ?_ _) | (with_reducible refine Kd.C_drew ?_))); (case side2 => exact (Kd.R_reads' HO359.out).2.1); rintro e w29 ⟨rfl, hb⟩; replace HO359 := Aside0.mk (Kd.R_below (Hd.r_ HO359) hb); replace HB := Aside0.mk (below_step Hd.b_ hb); (try clear hb); (try clear hb2); (try clear hk); (try clear hi)) | (go_at_call 88; (with_reducible refine (cmp_Compare_int.calls t361 0 t362 _ A16.out).mono ?_); rintro e w' ⟨rfl, ⟨nd, rfl⟩⟩) | (go_at_call 89; (with_reducible refine (impl_TwiceArea.calls kj2 _ _ l0 t363 _ ?side1 ?side2 A17.out).mono ?_); (case side1 => repeat (first | exact (Kd.C_below HR0.out Hd.b_) | (with_reducible refine Kd.C_alloc ?_ _) | (with_reducible refine Kd.C_drewN ?_ _) | (with_reducible refine Kd.C_drew ?_))); (case side2 => exact HC0.out); rintro e w30 ⟨rfl, hb⟩; replace HO359 := Aside0.mk (Kd.R_below (Hd.r_ HO359) hb); replace HB := Aside0.mk (below_step Hd.b_ hb); (try clear hb); (try clear hb2); (try clear hk); (try clear hi)) | (go_at_call 88; (with_reducible refine (cmp_Compare_int.calls t363 0 t364 _ A18.out).mono ?_); rintro e w' ⟨rfl, ⟨nd, rfl⟩⟩) | ((with_reducible refine gate_callee (f := 86) rfl ?_); refine goesL_ (some 36) rfl rfl Try.func86 (by kernel_rfl) rfl #[.slice A0 l0.length c0] rfl Hd.m_ ?_; (with_reducible refine (impl_Point_86.calls _ _ l0 t365 _ ?side1 ?side2 A25.out).mono ?_); (case side1 => repeat (first | exact (Kd.C_below HR0.out Hd.b_) | (with_reducible refine Kd.C_alloc ?_ _) | (with_reducible refine Kd.C_drewN ?_ _) | (with_reducible refine Kd.C_drew ?_))); (case side2 => exact HC0.out); rintro e w31 ⟨v366, rfl, ho0, hb⟩; refine ⟨_, rfl, ?_⟩; have HO367 := Aside0.mk (Kd.R_lower (Kd.R_new' ho0 (Kd.R_lt (Hd.r_ HO359))) (below_size Hd.b_)); replace HO359 := Aside0.mk (Kd.R_elder' (Hd.r_ HO359) (Kd.R_base ho0) hb); replace HB := Aside0.mk (below_step Hd.b_ hb); (try clear hb); (try clear hb2); (try clear hk); (try clear hi); (try clear ho0)))
      go_ret2
      exact ⟨_, Hd.e_, by (with_reducible repeat (first | apply Kd.R_alloc | apply Kd.R_drewN | apply Kd.R_drew)); exact Kd.R_mono HO367.out (fun _ hk => trivial), Hd.b_⟩
    ·
     replace c14 := Bool.eq_false_iff.mpr c14
     subst c14
     have H1 : ((impl_Point_86.f l0).bind fun t368 => (some (t368, false))) = some (r1, r2) := by rw [if_neg (show ¬ (false = true) by decide)] at H; exact H
     clear H
     have H := H1
     clear H1
     replace H := Option.bind_eq_some_iff.mp H
     obtain ⟨t368, A320, H⟩ := H
     replace H : (some (t368, false)) = some (r1, r2) := H
     have A32 := Aside0.mk A320
     clear A320
     simp only [Option.some.injEq, Prod.mk.injEq] at H
     obtain ⟨rfl, rfl⟩ := H
     go_wp2_with (first | ((with_reducible refine gate_callee (f := 87) rfl ?_); refine goesL_ (some 22) rfl rfl Try.func87 (by kernel_rfl) rfl #[.slice A0 l0.length c0, .int .i64 a1] rfl Hd.m_ ?_; (with_reducible refine (impl_without.calls _ _ l0 a1 t357 _ ?side1 ?side2 A12.out).mono ?_); (case side1 => repeat (first | exact (Kd.C_below HR0.out HB.out) | (with_reducible refine Kd.C_alloc ?_ _) | (with_reducible refine Kd.C_drewN ?_ _) | (with_reducible refine Kd.C_drew ?_))); (case side2 => exact HC0.out); rintro e w33 ⟨v358, rfl, ho0, hb⟩; refine ⟨_, rfl, ?_⟩; have HO359 := Aside0.mk (Kd.R_lower ho0 (below_size Hd.b_)); replace HB := Aside0.mk (below_step Hd.b_ hb); (try clear hb); (try clear hb2); (try clear hk); (try clear hi); (try clear ho0); obtain ⟨Ao34, co34, eo34⟩ := Kd.R_slice HO359.out; subst eo34) | ((with_reducible refine gate_callee (f := 44) rfl ?_); refine goesL_ (some 24) rfl rfl Try.func44 (by kernel_rfl) rfl #[.slice Ao34 t357.length co34] rfl Hd.m_ ?_; (with_reducible refine (impl_IsRing.calls kj2 _ _ t357 false _ ?side1 ?side2 A13.out).mono ?_); (case side1 => repeat (first | exact (Kd.R_reads' HO359.out).2.2 | (with_reducible refine Kd.C_alloc ?_ _) | (with_reducible refine Kd.C_drewN ?_ _) | (with_reducible refine Kd.C_drew ?_))); (case side2 => exact (Kd.R_reads' HO359.out).2.1); rintro e w35 ⟨rfl, hb⟩; refine ⟨_, rfl, ?_⟩; replace HO359 := Aside0.mk (Kd.R_below (Hd.r_ HO359) hb); replace HB := Aside0.mk (below_step Hd.b_ hb); (try clear hb); (try clear hb2); (try clear hk); (try clear hi)) | ((with_reducible refine gate_callee (f := 86) rfl ?_); refine goesL_ (some 36) rfl rfl Try.func86 (by kernel_rfl) rfl #[.slice A0 l0.length c0] rfl Hd.m_ ?_; (with_reducible refine (impl_Point_86.calls _ _ l0 t368 _ ?side1 ?side2 A32.out).mono ?_); (case side1 => repeat (first | exact (Kd.C_below HR0.out HB.out) | (with_reducible refine Kd.C_alloc ?_ _) | (with_reducible refine Kd.C_drewN ?_ _) | (with_reducible refine Kd.C_drew ?_))); (case side2 => exact HC0.out); rintro e w36 ⟨v369, rfl, ho0, hb⟩; refine ⟨_, rfl, ?_⟩; have HO370 := Aside0.mk (Kd.R_lower (Kd.R_new' ho0 (Kd.R_lt (Hd.r_ HO359))) (below_size Hd.b_)); replace HO359 := Aside0.mk (Kd.R_elder' (Hd.r_ HO359) (Kd.R_base ho0) hb); replace HB := Aside0.mk (below_step Hd.b_ hb); (try clear hb); (try clear hb2); (try clear hk); (try clear hi); (try clear ho0)))
     go_ret2
     exact ⟨_, Hd.e_, by (with_reducible repeat (first | apply Kd.R_alloc | apply Kd.R_drewN | apply Kd.R_drew)); exact Kd.R_mono HO370.out (fun _ hk => trivial), Hd.b_⟩
def laws_heldPointS.l0 : Nat → List (S49) → Int → Int → Option (Int)
 | 0, _, _, _ => none
 | k + 1, x0, x1, x5 => if x5 < (x0.length : Int) then (if 0 ≤ x5 then (if ((rd_T49 x0 x5).f0) = x1 then (if ((rd_T49 x0 x5).f1) = (wrap64 (x1 + 1)) then (laws_heldPointS.l0 k x0 (wrap64 ((wrap64 (x1 + 1)) + 1)) (wrap64 (x5 + 1))) else (some (-1))) else (some (-1))) else (none)) else (some x1)
def laws_heldPointS.f (k : Nat) (l0 : List (S49)) (a1 : Int) : Option (Int) := laws_heldPointS.l0 k l0 a1 0
set_option maxHeartbeats 8000000 in
set_option maxRecDepth 100000 in
theorem laws_heldPointS.calls (k : Nat) (A0 : Option Addr) (c0 : Nat) (l0 : List (S49)) (a1 : Int) (r : Int) (w : World) (hr0 : Kd.C k49 w A0 l0.length l0) (hc0 : l0.length ≤ c0) (h : laws_heldPointS.f k l0 a1 = some r) :
  Calls Try.prog 30 #[.slice A0 l0.length c0, .int .i64 a1] w fun e w' => e = .returned (.int .i64 r) ∧ Drawn0 w w' := by
 have HR0 := Aside0.mk hr0
 have HC0 := Aside0.mk hc0
 clear hr0 hc0
 have H : (laws_heldPointS.l0 k l0 a1 0) = some r := h
 clear h
 have H' := Aside0.mk H
 clear H
 go_enter Try.func30, Try.ntmps30
 go_wp2
 go_loopg [1, 5] k (fun kq v1 v5 w' => ∃ (x1_1 : Int) (x5_1 : Int), v1 = .int .i64 x1_1 ∧ v5 = .int .i64 x5_1 ∧ Aside0 (laws_heldPointS.l0 kq l0 x1_1 x5_1 = some r) ∧ Aside0 (kq ≤ k) ∧ Drawn0 w w')
 case atStart => exact ⟨(a1), (0), (by first | rfl | (simp; done) | (simp [*]; done)), (by first | rfl | (simp; done) | (simp [*]; done)), H', ⟨Nat.le_refl _⟩, by repeat (first | exact Drawn0.refl _ | apply Drawn0.step)⟩
 case round =>
  clear H'
  try clear p2
  obtain ⟨x1_1, x5_1, rfl, rfl, HA, HK1, ⟨m1, rfl⟩⟩ := hrel
  cases gk with
  | zero => exact absurd HA.out (by simp [laws_heldPointS.l0])
  | succ k1 =>
   have H := HA.out
   clear HA
   simp only [laws_heldPointS.l0] at H
   by_cases c3 : x5_1 < (l0.length : Int)
   ·
    rw [if_pos c3] at H
    have c3b0 : decide (x5_1 < (l0.length : Int)) = true := decide_eq_true c3
    clear c3
    by_cases c4 : 0 ≤ x5_1
    ·
     rw [if_pos c4] at H
     have c4b0 : decide (0 ≤ x5_1) = true := decide_eq_true c4
     clear c4
     by_cases c5 : ((rd_T49 l0 x5_1).f0) = x1_1
     ·
      rw [if_pos c5] at H
      have c5b0 : (((rd_T49 l0 x5_1).f0) == x1_1) = true := beq_iff_eq.mpr c5
      have c5b1 : (((rd_T49 l0 x5_1).f0) != x1_1) = false := bne_eq_false_iff_eq.mpr c5
      clear c5
      by_cases c6 : ((rd_T49 l0 x5_1).f1) = (wrap64 (x1_1 + 1))
      ·
       rw [if_pos c6] at H
       have c6b0 : (((rd_T49 l0 x5_1).f1) == (wrap64 (x1_1 + 1))) = true := beq_iff_eq.mpr c6
       have c6b1 : (((rd_T49 l0 x5_1).f1) != (wrap64 (x1_1 + 1))) = false := bne_eq_false_iff_eq.mpr c6
       clear c6
       have H' := Aside0.mk H
       clear H
       have p371 : 0 ≤ (x5_1 : Int) := of_decide_eq_true Hd.a_
       have q371 : x5_1 < (l0.length : Int) := of_decide_eq_true Hd.a_
       obtain ⟨ad371, e371, hx371_0, hx371_1⟩ := at_T49 HR0.out x5_1 p371 q371
       cases e371
       replace p371 := eq_true p371
       replace q371 := eq_true q371
       have p372 : 0 ≤ (x5_1 : Int) := of_decide_eq_true Hd.a_
       have q372 : x5_1 < (l0.length : Int) := of_decide_eq_true Hd.a_
       obtain ⟨ad372, e372, hx372_0, hx372_1⟩ := at_T49 HR0.out x5_1 p372 q372
       obtain rfl : ad371 = ad372 := (by injection e372)
       replace p372 := eq_true p372
       replace q372 := eq_true q372
       go_wp2
       go_roundg k1
       case measure => have := HK1.out; omega
       case rel => exact ⟨(wrap64 ((wrap64 (x1_1 + 1)) + 1)), (wrap64 (x5_1 + 1)), (by first | rfl | (simp; done) | (simp [*]; done)), (by first | rfl | (simp; done) | (simp [*]; done)), H', ⟨by have := HK1.out; omega⟩, by repeat (first | exact Drawn0.refl _ | apply Drawn0.step)⟩
      ·
       rw [if_neg c6] at H
       have c6b0 : (((rd_T49 l0 x5_1).f1) == (wrap64 (x1_1 + 1))) = false := beq_eq_false_iff_ne.mpr c6
       have c6b1 : (((rd_T49 l0 x5_1).f1) != (wrap64 (x1_1 + 1))) = true := bne_iff_ne.mpr c6
       obtain rfl := Option.some.inj H
       have p371 : 0 ≤ (x5_1 : Int) := of_decide_eq_true Hd.a_
       have q371 : x5_1 < (l0.length : Int) := of_decide_eq_true Hd.a_
       obtain ⟨ad371, e371, hx371_0, hx371_1⟩ := at_T49 HR0.out x5_1 p371 q371
       cases e371
       replace p371 := eq_true p371
       replace q371 := eq_true q371
       have p372 : 0 ≤ (x5_1 : Int) := of_decide_eq_true Hd.a_
       have q372 : x5_1 < (l0.length : Int) := of_decide_eq_true Hd.a_
       obtain ⟨ad372, e372, hx372_0, hx372_1⟩ := at_T49 HR0.out x5_1 p372 q372
       obtain rfl : ad371 = ad372 := (by injection e372)
       replace p372 := eq_true p372
       replace q372 := eq_true q372
       go_wp2
       go_ret
       exact ⟨by first | rfl | (simp; done) | (simp [*]; done), by repeat (first | exact Drawn0.refl _ | apply Drawn0.step)⟩
     ·
      rw [if_neg c5] at H
      have c5b0 : (((rd_T49 l0 x5_1).f0) == x1_1) = false := beq_eq_false_iff_ne.mpr c5
      have c5b1 : (((rd_T49 l0 x5_1).f0) != x1_1) = true := bne_iff_ne.mpr c5
      obtain rfl := Option.some.inj H
      have p371 : 0 ≤ (x5_1 : Int) := of_decide_eq_true Hd.a_
      have q371 : x5_1 < (l0.length : Int) := of_decide_eq_true Hd.a_
      obtain ⟨ad371, e371, hx371_0, hx371_1⟩ := at_T49 HR0.out x5_1 p371 q371
      cases e371
      replace p371 := eq_true p371
      replace q371 := eq_true q371
      go_wp2
      go_ret
      exact ⟨by first | rfl | (simp; done) | (simp [*]; done), by repeat (first | exact Drawn0.refl _ | apply Drawn0.step)⟩
    ·
     rw [if_neg c4] at H
     exact absurd H (by simp)
   ·
    rw [if_neg c3] at H
    have c3b0 : decide (x5_1 < (l0.length : Int)) = false := decide_eq_false c3
    clear c3
    obtain rfl := Option.some.inj H
    go_wp2
    go_ret
    exact ⟨by first | rfl | (simp; done) | (simp [*]; done), by repeat (first | exact Drawn0.refl _ | apply Drawn0.step)⟩
end Go.Proofs.Ytchmbcembbbplac.MFnExactDropCorner
