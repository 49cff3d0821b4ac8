-- Laid by this session's program pp.py, after the kit's print and texts of the session's own. Not trusted: Lean checks it.
import Derived.Test.YtchmbcembbbplacZSafeRingMx0
import Derived.Test.YtchmbcembbbplacZSafeRingMx2
import Derived.Test.YtchmbcembbbplacZSafeRingMx5
namespace Go.Proofs.Ytchmbcembbbplac.MFnExactSafeRing
open Go.RowKit Go.Proofs.YtchmbcembbbplacW.PrintWords Go.Proofs.YtchmbcembbbplacW.PrintLast Go.Proofs.YtchmbcembbbplacW.PrintMore
attribute [local go_sem] max2_int min2_int max_two min_two max_three min_three max_four min_four   -- for this text's walks alone
set_option linter.unusedVariables false
set_option linter.unusedSimpArgs false
set_option maxHeartbeats 8000000 in
set_option maxRecDepth 100000 in
theorem impl_without.grow (n : Int) (h0 : 0 ≤ n) (hn : n ≤ 2199023255552) (w : World) :
    Calls Try.prog 159 #[.slice none 0 0, .int .i64 n] w fun e w' => ∃ v, e = .returned v ∧ Kd.R k49 49 w' w.heap.size (fun _ => True) v ([] : List S49) ∧ Below w.heap.size w w' := by
  have hu28 := Try.underlying28
  have b0 : decide (n < 0) = false := decide_eq_false (by omega)
  by_cases h : 0 < n
  · obtain ⟨m, rfl⟩ := Int.eq_ofNat_of_zero_le h0
    have b1 : decide ((m : Int) > 0) = true := decide_eq_true h
    have b2 : decide (0 < (m : Int)) = true := decide_eq_true h
    obtain ⟨i0, hi, hzz⟩ := Option.map_eq_some_iff.1 info49
    simp only [Prod.mk.injEq] at hzz
    obtain ⟨hz0, hz1, hz2⟩ := hzz
    have hr := Lib.run_append_nil_zeros (P := Try.prog) w 28 3 28 49 _ _ .i64 .i64 hu28 Try.underlying3 hi hz0 m (by omega) (by omega) (by omega) (by rw [hz2]; omega)
    have hcut := cut_to (P := Try.prog) 28 49 .i64 hu28 hi (some ⟨w.heap.size, 0, none⟩) m (grownCap w m 0 49) 0 (by omega) (by omega) (grownCap_ge w m 0 49)
    go_enter Try.func159, Try.ntmps159
    go_wp2_with (first | ((with_reducible refine gate_builtin (b := .append) rfl ?_); refine Lib.wpList_append_run _ rfl _ _ _ _ rfl _ _ rfl rfl _ _ hr ?_))
    go_ret
    refine ⟨_, rfl, ⟨fun _ _ => trivial, [], ⟨by simp, .inr ⟨w.heap.size, _, _, rfl, Nat.le_refl _, heap_alloc_new w _, Nat.zero_le _, grownCap_le_maxLen w m 0 49 (by unfold maxLen; omega), ?_, by simp⟩⟩, Reps.none _ _⟩, by repeat (first | exact Below.refl _ _ | apply below_alloc | apply pw_below_drewN | apply below_drew1)⟩
    have := grownCap_ge w m 0 49
    simp [size_zeroCells]
    show _ = grownCap w m 0 49 * 2
    omega
  · obtain rfl : n = 0 := by omega
    go_enter Try.func159, Try.ntmps159
    go_wp2
    go_ret
    exact ⟨_, rfl, Kd.R_nil _ _ _ _ _, Below.refl _ _⟩
set_option maxHeartbeats 8000000 in
set_option maxRecDepth 100000 in
theorem impl_without.concat (A : Addr) (c : Nat) (A1 A2 : Option Addr) (c1 c2 : Nat) (x1 x2 : List S49) (w : World) (h1 : w.cell? A = some (.slice A1 x1.length c1)) (h2 : w.cell? ⟨A.block, A.off + 1, none⟩ = some (.slice A2 x2.length c2))
    (hr1 : Kd.C k49 w A1 x1.length x1) (hr2 : Kd.C k49 w A2 x2.length x2) (hl : x1.length + x2.length ≤ 2199023255552) :
    Calls Try.prog 139 #[.slice (some A) 2 c] w fun e w' => ∃ v, e = .returned v ∧ Kd.R k49 49 w' w.heap.size (fun _ => True) v (x1 ++ x2) ∧ Below w.heap.size w w' := by
  have hu28 := Try.underlying28
  have hu30 := Try.underlying30
  go_enter Try.func139, Try.ntmps139
  go_wp2
  go_loopg [3, 11] 3 (fun kq v3 v11 w' => ∃ i : Nat, i + kq = 3 ∧ i ≤ 2 ∧ v11 = .int .i64 i ∧ w' = w ∧ v3 = .int .i64 (if i = 0 then 0 else if i = 1 then x1.length else x1.length + x2.length))
  case atStart => exact ⟨0, rfl, by decide, rfl, rfl, rfl⟩
  case round =>
    obtain ⟨i, hi, hi2, rfl, hwr, rfl⟩ := hrel
    have hwr := hwr.symm
    subst hwr
    rcases (by omega : i = 0 ∨ i = 1 ∨ i = 2) with rfl | rfl | rfl
    · obtain rfl : gk = 2 + 1 := by omega
      have d1 : decide (wrap64 (0 + (x1.length : Int)) < 0) = false := decide_eq_false (by unfold wrap64; omega)
      go_wp2
      go_roundg 2
      case measure => omega
      case rel => exact ⟨1, rfl, by decide, rfl, rfl, by simp⟩
    · obtain rfl : gk = 1 + 1 := by omega
      have d1 : decide (wrap64 ((x1.length : Int) + x2.length) < 0) = false := decide_eq_false (by unfold wrap64; omega)
      go_wp2
      go_roundg 1
      case measure => omega
      case rel => exact ⟨2, rfl, by decide, rfl, rfl, by simp⟩
    · obtain rfl : gk = 0 + 1 := by omega
      go_wp2_with (first | (go_at_call 159; (with_reducible refine (impl_without.grow _ (by omega) (by omega) _).mono ?_); rintro e w1 ⟨v0, rfl, hR, hb⟩))
      go_loopg [6, 27] 3 (fun kq v6 v27 w' => ∃ (i : Nat) (l : List S49), i + kq = 3 ∧ i ≤ 2 ∧ v27 = .int .i64 i ∧ l = (if i = 0 then [] else if i = 1 then x1 else x1 ++ x2) ∧ Kd.R k49 49 w' w.heap.size (fun _ => True) v6 l ∧ Below w.heap.size w w')
      case atStart => exact ⟨0, [], rfl, by decide, rfl, rfl, hR, hb⟩
      case round =>
        clear hR hb
        obtain ⟨i, l, hi, hi2, rfl, hl2, hR, hb⟩ := hrel
        rcases (by omega : i = 0 ∨ i = 1 ∨ i = 2) with rfl | rfl | rfl
        · obtain rfl : gk = 2 + 1 := by omega
          obtain rfl : l = [] := hl2
          have h1' := (hb.cell (World.block_lt_of_cell? w _ h1)).trans h1
          go_wp2_with (first | ((with_reducible refine gate_builtin (b := .append) rfl ?_); at_builtin; refine Kd.R_append_rows k49 (w0 := w) w.heap.size rfl (.tmp 31) (.tmp 32) 28 49 (.agg #[(.int .i64 0), (.int .i64 0)]) 16 rfl Try.underlying28 info49 rfl (by decide) (by omega) _ [] x1 _ _ _ (fun _ => True) (fun _ => False) rfl rfl hR ?aR (fun _ _ h => h) (fun _ h => h.elim) (fun _ _ => trivial) hb (below_size hb) ?aL ?_; (case aR => exact Kd.C_below hr1 hb); (case aL => (try simp only [List.length_nil]); omega); intro v1 w5 ho hb2 _ _))
          go_roundg 2
          case measure => omega
          case rel => exact ⟨1, _, rfl, by decide, rfl, rfl, ho, hb2⟩
        · obtain rfl : gk = 1 + 1 := by omega
          obtain rfl : l = x1 := hl2
          have h2' := (hb.cell (World.block_lt_of_cell? w _ h2)).trans h2
          go_wp2_with (first | ((with_reducible refine gate_builtin (b := .append) rfl ?_); at_builtin; refine Kd.R_append_rows k49 (w0 := w) w.heap.size rfl (.tmp 31) (.tmp 32) 28 49 (.agg #[(.int .i64 0), (.int .i64 0)]) 16 rfl Try.underlying28 info49 rfl (by decide) (by omega) _ l x2 _ _ _ (fun _ => True) (fun _ => False) rfl rfl hR ?aR (fun _ _ h => h) (fun _ h => h.elim) (fun _ _ => trivial) hb (below_size hb) ?aL ?_; (case aR => exact Kd.C_below hr2 hb); (case aL => (try simp only [List.length_nil]); omega); intro v1 w5 ho hb2 _ _))
          go_roundg 1
          case measure => omega
          case rel => exact ⟨2, _, rfl, by decide, rfl, rfl, ho, hb2⟩
        · obtain rfl : gk = 0 + 1 := by omega
          obtain rfl : l = x1 ++ x2 := hl2
          go_wp2
          go_ret
          exact ⟨_, rfl, hR, hb⟩
def impl_without.f (l0 : List S49) (a1 : Int) : Option (List S49) := if 0 ≤ a1 then (if a1 < (l0.length : Int) then (if l0.length ≤ 2199023255552 then some (l0.take a1.toNat ++ l0.drop (a1.toNat + 1)) else none) else none) else none
def impl_without.T1 : Bool × List (List Nat × List Nat) := (true, [([], []), ([], []), ([0, 1], [0, 1]), ([], []), ([], []), ([4], [4]), ([3, 5], [3, 5]), ([2, 6], [2, 6]), ([7], [7]), ([8, 8, 0, 1, 2, 3, 4, 5, 6, 7, 8], [8])])
def impl_without.B1 : List Nat := [0, 0, 3, 0, 0, 16, 56, 127, 255, 511]
theorem impl_without.bits1 : waitsOk impl_without.T1.2 impl_without.B1 = true := by kernel_rfl
theorem impl_without.tab1 : rtab .any (opsOf Try.f87 1) = impl_without.T1 := by kernel_rfl
set_option maxHeartbeats 8000000 in
set_option maxRecDepth 100000 in
theorem impl_without.calls (A0 : Option Addr) (c0 : Nat) (l0 : List (S49)) (a1 : Int) (r : List (S49)) (w : World) (hr0 : Kd.C k49 w A0 l0.length l0) (hc0 : l0.length ≤ c0) (h : impl_without.f l0 a1 = some r) :
    Calls Try.prog 87 #[.slice A0 l0.length c0, .int .i64 a1] w fun e w' => ∃ v0_ : Value, e = .returned (v0_) ∧ Kd.R k49 49 w' w.heap.size (fun _ => True) v0_ r ∧ Below w.heap.size w w' := by
  unfold impl_without.f at h
  by_cases h1 : 0 ≤ a1
  · rw [if_pos h1] at h
    by_cases h2 : a1 < (l0.length : Int)
    · rw [if_pos h2] at h
      by_cases h3 : l0.length ≤ 2199023255552
      · rw [if_pos h3] at h
        obtain rfl := Option.some.inj h
        have hu28 := Try.underlying28
        have hu30 := Try.underlying30
        obtain ⟨i0, hi, hzz⟩ := Option.map_eq_some_iff.1 info49
        simp only [Prod.mk.injEq] at hzz
        obtain ⟨hz0, hz1, hz2⟩ := hzz
        have hcut1 := cut_to (P := Try.prog) 28 49 .i64 hu28 hi A0 l0.length c0 a1 h1 (by omega) hc0
        have hcut2 := cut_from (P := Try.prog) 28 49 .i64 hu28 hi 2 hz1 A0 l0.length c0 (wrap64 (a1 + 1)) (by unfold wrap64; omega) (by unfold wrap64; omega)
        have e1 : (wrap64 (a1 + 1)).toNat = a1.toNat + 1 := by unfold wrap64; omega
        rw [e1] at hcut2
        have HN := Aside0.mk (show a1.toNat + 1 ≤ l0.length by omega)
        have hC2 := Kd.C_drop hr0 HN.out hc0
        change Kd.C k49 w (if c0 = a1.toNat + 1 then A0 else A0.map (·.add ((a1.toNat + 1) * 2))) _ _ at hC2
        generalize (if c0 = a1.toNat + 1 then A0 else A0.map (·.add ((a1.toNat + 1) * 2))) = A1 at hcut2 hC2
        have HC2 := Aside0.mk hC2
        clear h1 h2 h hC2
        go_enter Try.func87, Try.ntmps87
        go_wp2
        refine start_ (n := 10) (S := fun w' => True) (ds := []) #[false, false, false, false, false, false, false, false, false, false] (by kernel_rfl) rfl rfl trivial (fun hHeld => ?_); refine with_tabW impl_without.tab1 impl_without.bits1 (fun HT_ HW_ => ?_)
        refine Hd.p_ HT_ 0 (some 5) #[true, false, false, false, false, false, false, false, false, false] ?_
        refine Hd.p_ HT_ 1 (some 6) #[true, true, false, false, false, false, false, false, false, false] ?_
        refine Hd.p_ HT_ 2 (some 7) #[true, true, true, false, false, false, false, false, false, false] ?_
        refine Hd.p_ HT_ 3 (some 8) #[true, true, true, true, false, false, false, false, false, false] ?_
        refine Hd.p_ HT_ 4 (some 9) #[true, true, true, true, true, false, false, false, false, false] ?_
        refine Hd.p_ HT_ 5 (some 10) #[true, true, true, true, true, true, false, false, false, false] ?_
        refine Hd.p_ HT_ 6 (some 11) #[true, true, true, true, true, true, true, false, false, false] ?_
        refine Hd.o_ HT_ 7 (some 12) #[true, true, true, true, true, true, true, true, false, false] (fun K hK => ?_)
        refine value_ (w1 := ?_) (v := ?_) (by rfl) rfl ?_ ?_
        rotate_left 2
        · go_simp
          constructor
          · rfl
          · rfl
        refine hK.out _ _ trivial (fun hHeld => ?_)
        clear hK K
        refine Hd.n_ (some 12) ?_
        refine Hd.o_ HT_ 8 (some 13) #[true, true, true, true, true, true, true, true, true, false] (fun K hK => ?_)
        refine goes_ Try.func139 (by kernel_rfl) rfl #[.slice (some ⟨w.heap.size, 0, none⟩) 2 2] (by rfl) rfl rfl Hd.m_ ?_
        have hx1 : (l0.take a1.toNat).length = a1.toNat := by have := HN.out; rw [List.length_take]; omega
        have hx2 : (l0.drop (a1.toNat + 1)).length = l0.length - (a1.toNat + 1) := List.length_drop
        refine (impl_without.concat ⟨w.heap.size, 0, none⟩ 2 A0 _ c0 _ (l0.take a1.toNat) (l0.drop (a1.toNat + 1)) _ (by rw [hx1]; exact (blk_cell (blk_drew (blk_new w _)) 0).trans rfl) (by rw [hx2]; exact (blk_cell (blk_drew (blk_new w _)) 1).trans rfl) (Kd.C_below (Kd.C_take hr0 (by have := HN.out; omega)) (below_drew (below_alloc (Below.refl _ _) _))) (Kd.C_below HC2.out (below_drew (below_alloc (Below.refl _ _) _))) (by have := HN.out; rw [hx1, hx2]; omega)).mono ?_
        rintro e w2 ⟨v0, rfl, hR, hb⟩
        refine ⟨_, rfl, ?_⟩
        refine hK.out _ _ trivial (fun hHeld => ?_)
        clear hK K
        refine Hd.n_ (some 13) ?_
        refine Hd.p_ HT_ 9 (some 4) #[true, true, true, true, true, true, true, true, true, true] ?_
        refine done_ (done_of HT_.out (by kernel_rfl)) ?_
        have hb2 : Below w.heap.size w w2 := below_step (below_drew (below_alloc (Below.refl _ _) _)) hb
        try go_wp2
        go_ret
        exact ⟨_, rfl, Kd.R_lower hR (below_size (below_drew (below_alloc (Below.refl _ _) _))), hb2⟩
      · rw [if_neg h3] at h; cases h
    · rw [if_neg h2] at h; cases h
  · rw [if_neg h1] at h; cases h
def impl_RingSegments.f (k : Nat) (l0 : List (S49)) : Option ((List (S111))) := (impl_IsRing.f k l0).bind fun t209 => (if t209 = true then ((impl_around.f k l0).bind fun t210 => (some t210)) else (some (([] : List (S111)))))
set_option maxHeartbeats 8000000 in
set_option maxRecDepth 100000 in
theorem impl_RingSegments.calls (k : Nat) (A0 : Option Addr) (c0 : Nat) (l0 : List (S49)) (r : List (S111)) (w : World) (hr0 : Kd.C k49 w A0 l0.length l0) (hc0 : l0.length ≤ c0) (h : impl_RingSegments.f k l0 = some r) :
  Calls Try.prog 134 #[.slice A0 l0.length c0] w fun e w' => ∃ v0_ : Value, e = .returned (v0_) ∧ Kd.R k111 111 w' w.heap.size (fun _ => True) v0_ r ∧ Below w.heap.size w w' := by
 have HR0 := Aside0.mk hr0
 have HC0 := Aside0.mk hc0
 clear hr0 hc0
 have HB := Aside0.mk (Below.refl w.heap.size w)
 have H : ((impl_IsRing.f k l0).bind fun t209 => (if t209 = true then ((impl_around.f k l0).bind fun t210 => (some t210)) else (some (([] : List (S111)))))) = some r := h
 clear h
 replace H := Option.bind_eq_some_iff.mp H
 obtain ⟨t209, A20, H⟩ := H
 replace H : (if t209 = true then ((impl_around.f k l0).bind fun t210 => (some t210)) else (some (([] : List (S111))))) = some r := H
 have A2 := Aside0.mk A20
 clear A20
 by_cases c3 : t209 = true
 ·
  subst c3
  have H1 : ((impl_around.f k l0).bind fun t210 => (some t210)) = some r := by rw [if_pos rfl] at H; exact H
  clear H
  have H := H1
  clear H1
  replace H := Option.bind_eq_some_iff.mp H
  obtain ⟨t210, A40, H⟩ := H
  replace H : (some t210) = some r := H
  have A4 := Aside0.mk A40
  clear A40
  obtain rfl := Option.some.inj H
  go_enter Try.func134, Try.ntmps134
  go_wp2_with (first | ((with_reducible refine gate_callee (f := 44) rfl ?_); refine goesL_ (some 4) rfl rfl Try.func44 (by kernel_rfl) rfl #[.slice A0 l0.length c0] rfl Hd.m_ ?_; (with_reducible refine (impl_IsRing.calls k _ _ l0 true _ ?side1 ?side2 A2.out).mono ?_); (case side1 => repeat (first | exact HR0.out | (with_reducible refine Kd.C_alloc ?_ _) | (with_reducible refine Kd.C_drewN ?_ _) | (with_reducible refine Kd.C_drew ?_))); (case side2 => exact HC0.out); rintro e w5 ⟨rfl, hb⟩; refine ⟨_, rfl, ?_⟩; replace HB := Aside0.mk (below_step Hd.b_ hb); (try clear hb); (try clear hb2); (try clear hk); (try clear hi)) | ((with_reducible refine gate_callee (f := 101) rfl ?_); refine goesL_ (some 8) rfl rfl Try.func101 (by kernel_rfl) rfl #[.slice A0 l0.length c0] rfl Hd.m_ ?_; (with_reducible refine (impl_around.calls k _ _ l0 t210 _ ?side1 ?side2 A4.out).mono ?_); (case side1 => repeat (first | exact (Kd.C_below HR0.out HB.out) | (with_reducible refine Kd.C_alloc ?_ _) | (with_reducible refine Kd.C_drewN ?_ _) | (with_reducible refine Kd.C_drew ?_))); (case side2 => exact HC0.out); rintro e w6 ⟨v211, rfl, ho0, hb⟩; refine ⟨_, rfl, ?_⟩; have HO212 := Aside0.mk (Kd.R_lower ho0 (below_size Hd.b_)); replace HB := Aside0.mk (below_step Hd.b_ hb); (try clear hb); (try clear hb2); (try clear hk); (try clear hi); (try clear ho0)))
  go_ret
  exact ⟨_, Hd.e_, by (with_reducible repeat (first | apply Kd.R_alloc | apply Kd.R_drewN | apply Kd.R_drew)); exact HO212.out, Hd.b_⟩
 ·
  replace c3 := Bool.eq_false_iff.mpr c3
  subst c3
  have H1 : (some (([] : List (S111)))) = some r := by rw [if_neg (show ¬ (false = true) by decide)] at H; exact H
  clear H
  have H := H1
  clear H1
  obtain ⟨y213, hy213⟩ : ∃ y_ : List (S111), y_ = (([] : List (S111))) := ⟨_, rfl⟩
  replace H : (some y213) = some r := by first | (rw [hy213]; with_reducible exact H) | (have H2_ := (Option.bind_some _ _).symm.trans H; rw [hy213]; with_reducible exact H2_) | (have H2_ := (Option.bind_some _ _).symm.trans H; with_reducible exact H2_) | with_reducible exact H | (rw [hy213]; exact H) | exact H
  have Ny213 := Aside0.mk hy213
  clear hy213
  obtain rfl := Option.some.inj H
  go_enter Try.func134, Try.ntmps134
  go_wp2_with (first | ((with_reducible refine gate_callee (f := 44) rfl ?_); refine goesL_ (some 4) rfl rfl Try.func44 (by kernel_rfl) rfl #[.slice A0 l0.length c0] rfl Hd.m_ ?_; (with_reducible refine (impl_IsRing.calls k _ _ l0 false _ ?side1 ?side2 A2.out).mono ?_); (case side1 => repeat (first | exact HR0.out | (with_reducible refine Kd.C_alloc ?_ _) | (with_reducible refine Kd.C_drewN ?_ _) | (with_reducible refine Kd.C_drew ?_))); (case side2 => exact HC0.out); rintro e w7 ⟨rfl, hb⟩; refine ⟨_, rfl, ?_⟩; replace HB := Aside0.mk (below_step Hd.b_ hb); (try clear hb); (try clear hb2); (try clear hk); (try clear hi)) | ((with_reducible refine gate_dst (N := 6) rfl ?_); refine Kd.R_lit k111 _ 111 ?hg (N := 6) ?hd (xs := ([] : List (S111))) (inner := []) (ok := fun _ => True) (okp := fun _ => True) ?hr ?hp (fun _ hk => hk) trivial (Below.refl _ _) (Nat.le_refl _) (by simp) ?_; (case hd => rfl); (case hg => rfl); (case hr => first | (go_simp; done) | (go_simp; rfl)); (case hp => exact (Reps.none _ _)); intro v214 w8 ho9 hb hg_ hnew_; clear hg_ hnew_; (first | rw [← Ny213.out] at ho9 | (simp only [Int.reduceToNat] at ho9; rw [← Ny213.out] at ho9)); have HO215 := Aside0.mk (Kd.R_lower ho9 (below_size Hd.b_)); replace HB := Aside0.mk (below_step Hd.b_ hb); clear hb ho9))
  go_ret
  exact ⟨_, Hd.e_, by (with_reducible repeat (first | apply Kd.R_alloc | apply Kd.R_drewN | apply Kd.R_drew)); exact HO215.out, Hd.b_⟩
def impl_TwiceArea.l0 : Nat → Int → List (S111) → Int → Int → Option (Int)
 | 0, _, _, _, _ => none
 | k + 1, x3, x7, x8, x9 => if x9 < x8 then (if 0 ≤ x9 then (if x9 < (x7.length : Int) then (impl_TwiceArea.l0 k (wrap64 (x3 + (wrap64 ((wrap64 (((rd_T111 x7 x9).f0.f0) * ((rd_T111 x7 x9).f1.f1))) - (wrap64 (((rd_T111 x7 x9).f0.f1) * ((rd_T111 x7 x9).f1.f0))))))) x7 x8 (wrap64 (x9 + 1))) else (none)) else (none)) else (some x3)
def impl_TwiceArea.f (k : Nat) (l0 : List (S49)) : Option (Int) := (impl_RingSegments.f k l0).bind fun t216 => (impl_TwiceArea.l0 k 0 t216 (t216.length : Int) 0)
set_option maxHeartbeats 8000000 in
set_option maxRecDepth 100000 in
theorem impl_TwiceArea.calls (k : Nat) (A0 : Option Addr) (c0 : Nat) (l0 : List (S49)) (r : Int) (w : World) (hr0 : Kd.C k49 w A0 l0.length l0) (hc0 : l0.length ≤ c0) (h : impl_TwiceArea.f k l0 = some r) :
  Calls Try.prog 89 #[.slice A0 l0.length c0] w fun e w' => e = .returned (.int .i64 r) ∧ Below w.heap.size w w' := by
 have hu111 := Try.underlying111
 have HR0 := Aside0.mk hr0
 have HC0 := Aside0.mk hc0
 clear hr0 hc0
 have HB := Aside0.mk (Below.refl w.heap.size w)
 have H : ((impl_RingSegments.f k l0).bind fun t216 => (impl_TwiceArea.l0 k 0 t216 (t216.length : Int) 0)) = some r := h
 clear h
 replace H := Option.bind_eq_some_iff.mp H
 obtain ⟨t216, A20, H⟩ := H
 replace H : (impl_TwiceArea.l0 k 0 t216 (t216.length : Int) 0) = some r := H
 have A2 := Aside0.mk A20
 clear A20
 have H' := Aside0.mk H
 clear H
 go_enter Try.func89, Try.ntmps89
 go_wp2_with (first | ((with_reducible refine gate_callee (f := 134) rfl ?_); refine goesL_ (some 7) rfl rfl Try.func134 (by kernel_rfl) rfl #[.slice A0 l0.length c0] rfl Hd.m_ ?_; (with_reducible refine (impl_RingSegments.calls k _ _ l0 t216 _ ?side1 ?side2 A2.out).mono ?_); (case side1 => repeat (first | exact HR0.out | (with_reducible refine Kd.C_alloc ?_ _) | (with_reducible refine Kd.C_drewN ?_ _) | (with_reducible refine Kd.C_drew ?_))); (case side2 => exact HC0.out); rintro e w3 ⟨v217, rfl, ho0, hb⟩; refine ⟨_, rfl, ?_⟩; have HO218 := Aside0.mk (Kd.R_lower ho0 (below_size Hd.b_)); replace HB := Aside0.mk (below_step Hd.b_ hb); (try clear hb); (try clear hb2); (try clear hk); (try clear hi); (try clear ho0); obtain ⟨Ao4, co4, eo4⟩ := Kd.R_slice HO218.out; subst eo4))
 go_loopg [3, 9] k (fun kq v3 v9 w' => ∃ (x3_1 : Int) (x9_1 : Int), v3 = .int .i64 x3_1 ∧ v9 = .int .i64 x9_1 ∧ Aside0 (impl_TwiceArea.l0 kq x3_1 t216 (t216.length : Int) x9_1 = some r) ∧ Aside0 (kq ≤ k) ∧ Aside0 (Kd.R k111 111 w' w.heap.size (fun _ => True) (.slice Ao4 t216.length co4) t216) ∧ Aside0 (Below w.heap.size w w'))
 case atStart => exact ⟨(0), (0), (by first | rfl | (simp; done) | (simp [*]; done)), (by first | rfl | (simp; done) | (simp [*]; done)), H', ⟨Nat.le_refl _⟩, ⟨by (with_reducible repeat (first | apply Kd.R_alloc | apply Kd.R_drewN | apply Kd.R_drew)); exact HO218.out⟩, ⟨Hd.b_⟩⟩
 case round =>
  clear H'
  try clear c1
  try clear p2
  obtain ⟨x3_1, x9_1, rfl, rfl, HA, HK1, HO_7, HB⟩ := hrel
  cases gk with
  | zero => exact absurd HA.out (by simp [impl_TwiceArea.l0])
  | succ k1 =>
   have H := HA.out
   clear HA
   simp only [impl_TwiceArea.l0] at H
   by_cases c5 : x9_1 < (t216.length : Int)
   ·
    rw [if_pos c5] at H
    have c5b0 : decide (x9_1 < (t216.length : Int)) = true := decide_eq_true c5
    clear c5
    by_cases c6 : 0 ≤ x9_1
    ·
     rw [if_pos c6] at H
     have c6b0 : decide (0 ≤ x9_1) = true := decide_eq_true c6
     clear c6
     by_cases c7 : x9_1 < (t216.length : Int)
     ·
      rw [if_pos c7] at H
      have c7b0 : decide (x9_1 < (t216.length : Int)) = true := decide_eq_true c7
      clear c7
      have H' := Aside0.mk H
      clear H
      have p219 : 0 ≤ (x9_1 : Int) := of_decide_eq_true Hd.a_
      have q219 : x9_1 < (t216.length : Int) := of_decide_eq_true Hd.a_
      obtain ⟨ad219, e219, hx219_0, hx219_1, hx219_2, hx219_3⟩ := at_T111 (Kd.R_reads' HO_7.out).2.2 x9_1 p219 q219
      cases e219
      replace p219 := eq_true p219
      replace q219 := eq_true q219
      go_wp2_with (first | ((with_reducible refine gate_dst (N := 5) rfl ?_); refine Hd.box_ 5 (#[.int .i64 0, .int .i64 0, .int .i64 0, .int .i64 0]) 111 ?_; intro gb220 hg w8 hbox hb; replace HO_7 := Aside0.mk (Kd.R_below (Kd.R_elderB (Hd.r_ HO_7) gb220 (Nat.le_of_eq hg.symm)) hb); have BK220 := Aside0.mk (hbox); have GW220 := Aside0.mk ((Hd.g_ hg Hd.b_ : w.heap.size ≤ gb220)); have GE220 := Aside0.mk ((Hd.g_ hg Hd.b_ : w.heap.size ≤ gb220)); replace HB := Aside0.mk (below_step Hd.b_ hb); clear hb hbox hg; obtain ⟨hcz9_0, hcz9_1, hcz9_2, hcz9_3⟩ := Hd.c4_ BK220.out; obtain ⟨hfz9_0, hfz9_1, hfz9_2, hfz9_3⟩ := Hd.f4_ BK220.out))
      go_roundg k1
      case measure => have := HK1.out; omega
      case rel => exact ⟨(wrap64 (x3_1 + (wrap64 ((wrap64 (((rd_T111 t216 x9_1).f0.f0) * ((rd_T111 t216 x9_1).f1.f1))) - (wrap64 (((rd_T111 t216 x9_1).f0.f1) * ((rd_T111 t216 x9_1).f1.f0))))))), (wrap64 (x9_1 + 1)), (by first | rfl | (simp; done) | (simp [*]; done)), (by first | rfl | (simp; done) | (simp [*]; done)), H', ⟨by have := HK1.out; omega⟩, ⟨by (with_reducible repeat (first | apply Kd.R_alloc | apply Kd.R_drewN | apply Kd.R_drew)); exact Kd.R_mono (Kd.R_far (p := ⟨gb220, 3, none⟩) (Kd.R_far (p := ⟨gb220, 2, none⟩) (Kd.R_far (p := ⟨gb220, 1, none⟩) (Kd.R_far (p := ⟨gb220, 0, none⟩) (Kd.R_mono HO_7.out (fun k_ hk => (⟨hk, hk.2⟩ : _ ∧ k_ ≠ gb220))) (fun _ hk => hk.2) (.int .i64 ((rd_T111 t216 x9_1).f0.f0))) (fun _ hk => hk.2) (.int .i64 ((rd_T111 t216 x9_1).f0.f1))) (fun _ hk => hk.2) (.int .i64 ((rd_T111 t216 x9_1).f1.f0))) (fun _ hk => hk.2) (.int .i64 ((rd_T111 t216 x9_1).f1.f1))) (fun _ hk => trivial)⟩, ⟨Hd.b_⟩⟩
     ·
      rw [if_neg c7] at H
      exact absurd H (by simp)
    ·
     rw [if_neg c6] at H
     exact absurd H (by simp)
   ·
    rw [if_neg c5] at H
    have c5b0 : decide (x9_1 < (t216.length : Int)) = false := decide_eq_false c5
    clear c5
    obtain rfl := Option.some.inj H
    go_wp2
    go_ret
    exact ⟨Hd.e_, Hd.b_⟩
def impl_DropCorner.j0 : Nat → List (S49) → Int → Bool → Option ((List (S49)) × Bool)
 | 0, _, _, _ => none
 | k + 1, x0, x1, x17 => if x17 = true then ((impl_Point_86.f x0).bind fun t223 => (some (t223, false))) else ((impl_without.f x0 x1).bind fun t226 => ((impl_IsRing.f k t226).bind fun t229 => (if t229 = true then ((impl_TwiceArea.f k t226).bind fun t230 => ((cmp_Compare_int.f t230 0).bind fun t231 => ((impl_TwiceArea.f k x0).bind fun t232 => ((cmp_Compare_int.f t232 0).bind fun t233 => (if t231 = t233 then (some (t226, true)) else ((impl_Point_86.f x0).bind fun t234 => (some (t234, false)))))))) else ((impl_Point_86.f x0).bind fun t237 => (some (t237, false))))))
def impl_DropCorner.f (k : Nat) (l0 : List (S49)) (a1 : Int) : Option ((List (S49)) × Bool) := (impl_IsRing.f k l0).bind fun t221 => (if t221 = true then ((impl_InRange.f a1 0 (wrap64 ((l0.length : Int) - 1))).bind fun t222 => (impl_DropCorner.j0 k l0 a1 (!t222))) else (impl_DropCorner.j0 k l0 a1 true))
set_option maxHeartbeats 8000000 in
set_option maxRecDepth 100000 in
theorem impl_DropCorner.calls (k : Nat) (A0 : Option Addr) (c0 : Nat) (l0 : List (S49)) (a1 : Int) (r1 : List (S49)) (r2 : Bool) (w : World) (hr0 : Kd.C k49 w A0 l0.length l0) (hc0 : l0.length ≤ c0) (h : impl_DropCorner.f k l0 a1 = some (r1, r2)) :
  Calls Try.prog 29 #[.slice A0 l0.length c0, .int .i64 a1] w fun e w' => ∃ v0_ : Value, e = .returned (.tuple #[v0_, .bool r2]) ∧ Kd.R k49 49 w' w.heap.size (fun _ => True) v0_ r1 ∧ Below w.heap.size w w' := by
 have HR0 := Aside0.mk hr0
 have HC0 := Aside0.mk hc0
 clear hr0 hc0
 have HB := Aside0.mk (Below.refl w.heap.size w)
 have H : ((impl_IsRing.f k l0).bind fun t221 => (if t221 = true then ((impl_InRange.f a1 0 (wrap64 ((l0.length : Int) - 1))).bind fun t222 => (impl_DropCorner.j0 k l0 a1 (!t222))) else (impl_DropCorner.j0 k l0 a1 true))) = some (r1, r2) := h
 clear h
 have HC3 := Aside0.mk H
 clear H
 go_enter Try.func29, Try.ntmps29
 go_upto_region 1 with (fail)
 go_cut [17] (fun v17 wc => ∃ (kq : Nat) (x17_2 : Bool), v17 = .bool x17_2 ∧ Aside0 (impl_DropCorner.j0 kq l0 a1 x17_2 = some (r1, r2)) ∧ Aside0 (kq ≤ k) ∧ Aside0 (Below w.heap.size w wc))
 case first =>
  have H := HC3.out
  clear HC3
  replace H := Option.bind_eq_some_iff.mp H
  obtain ⟨t221, A40, H⟩ := H
  replace H : (if t221 = true then ((impl_InRange.f a1 0 (wrap64 ((l0.length : Int) - 1))).bind fun t222 => (impl_DropCorner.j0 k l0 a1 (!t222))) else (impl_DropCorner.j0 k l0 a1 true)) = some (r1, r2) := H
  have A4 := Aside0.mk A40
  clear A40
  by_cases c5 : t221 = true
  ·
   subst c5
   have H1 : ((impl_InRange.f a1 0 (wrap64 ((l0.length : Int) - 1))).bind fun t222 => (impl_DropCorner.j0 k l0 a1 (!t222))) = some (r1, r2) := by rw [if_pos rfl] at H; exact H
   clear H
   have H := H1
   clear H1
   replace H := Option.bind_eq_some_iff.mp H
   obtain ⟨t222, A60, H⟩ := H
   replace H : (impl_DropCorner.j0 k l0 a1 (!t222)) = some (r1, r2) := H
   have A6 := Aside0.mk A60
   clear A60
   have H' := Aside0.mk H
   clear H
   go_wp2_with (first | ((with_reducible refine gate_callee (f := 44) rfl ?_); refine goesL_ (some 8) rfl rfl Try.func44 (by kernel_rfl) rfl #[.slice A0 l0.length c0] rfl Hd.m_ ?_; (with_reducible refine (impl_IsRing.calls k _ _ l0 true _ ?side1 ?side2 A4.out).mono ?_); (case side1 => repeat (first | exact (Kd.C_below HR0.out HB.out) | (with_reducible refine Kd.C_alloc ?_ _) | (with_reducible refine Kd.C_drewN ?_ _) | (with_reducible refine Kd.C_drew ?_))); (case side2 => exact HC0.out); rintro e w7 ⟨rfl, hb⟩; refine ⟨_, rfl, ?_⟩; replace HB := Aside0.mk (below_step Hd.b_ hb); (try clear hb); (try clear hb2); (try clear hk); (try clear hi)) | (go_at_call 85; (with_reducible refine (impl_InRange.calls a1 0 (wrap64 ((l0.length : Int) - 1)) t222 _ A6.out).mono ?_); rintro e w' ⟨rfl, ⟨nd, rfl⟩⟩))
   go_meet
   case rel => exact ⟨_, (!t222), (by first | rfl | (simp; done) | (simp [*]; done)), H', ⟨by first | omega | exact Nat.le_refl _⟩, ⟨Hd.b_⟩⟩
  ·
   replace c5 := Bool.eq_false_iff.mpr c5
   subst c5
   have H1 : (impl_DropCorner.j0 k l0 a1 true) = some (r1, r2) := by rw [if_neg (show ¬ (false = true) by decide)] at H; exact H
   clear H
   have H := H1
   clear H1
   have H' := Aside0.mk H
   clear H
   go_wp2_with (first | ((with_reducible refine gate_callee (f := 44) rfl ?_); refine goesL_ (some 8) rfl rfl Try.func44 (by kernel_rfl) rfl #[.slice A0 l0.length c0] rfl Hd.m_ ?_; (with_reducible refine (impl_IsRing.calls k _ _ l0 false _ ?side1 ?side2 A4.out).mono ?_); (case side1 => repeat (first | exact (Kd.C_below HR0.out HB.out) | (with_reducible refine Kd.C_alloc ?_ _) | (with_reducible refine Kd.C_drewN ?_ _) | (with_reducible refine Kd.C_drew ?_))); (case side2 => exact HC0.out); rintro e w8 ⟨rfl, hb⟩; refine ⟨_, rfl, ?_⟩; replace HB := Aside0.mk (below_step Hd.b_ hb); (try clear hb); (try clear hb2); (try clear hk); (try clear hi)))
   go_meet
   case rel => exact ⟨_, (true), (by first | rfl | (simp; done) | (simp [*]; done)), H', ⟨by first | omega | exact Nat.le_refl _⟩, ⟨Hd.b_⟩⟩
 case rest =>
  clear HC3
  try clear c2
  try clear p2
  try clear c4
  try clear c5
  try clear p6
  obtain ⟨kq, x17_2, rfl, HA, HJ2, HB⟩ := hcut
  cases kq with
  | zero => exact absurd HA.out (by simp [impl_DropCorner.j0])
  | succ kj2 =>
   have H := HA.out
   clear HA
   simp only [impl_DropCorner.j0] at H
   by_cases c9 : x17_2 = true
   ·
    subst c9
    have H1 : ((impl_Point_86.f l0).bind fun t223 => (some (t223, false))) = some (r1, r2) := by rw [if_pos rfl] at H; exact H
    clear H
    have H := H1
    clear H1
    replace H := Option.bind_eq_some_iff.mp H
    obtain ⟨t223, A100, H⟩ := H
    replace H : (some (t223, false)) = some (r1, r2) := H
    have A10 := Aside0.mk A100
    clear A100
    simp only [Option.some.injEq, Prod.mk.injEq] at H
    obtain ⟨rfl, rfl⟩ := H
    go_wp2_with (first | ((with_reducible refine gate_callee (f := 86) rfl ?_); refine goesL_ (some 19) rfl rfl Try.func86 (by kernel_rfl) rfl #[.slice A0 l0.length c0] rfl Hd.m_ ?_; (with_reducible refine (impl_Point_86.calls _ _ l0 t223 _ ?side1 ?side2 A10.out).mono ?_); (case side1 => repeat (first | exact (Kd.C_below HR0.out HB.out) | (with_reducible refine Kd.C_alloc ?_ _) | (with_reducible refine Kd.C_drewN ?_ _) | (with_reducible refine Kd.C_drew ?_))); (case side2 => exact HC0.out); rintro e w11 ⟨v224, rfl, ho0, hb⟩; refine ⟨_, rfl, ?_⟩; have HO225 := Aside0.mk (Kd.R_lower ho0 (below_size Hd.b_)); replace HB := Aside0.mk (below_step Hd.b_ hb); (try clear hb); (try clear hb2); (try clear hk); (try clear hi); (try clear ho0)))
    go_ret2
    exact ⟨_, Hd.e_, by (with_reducible repeat (first | apply Kd.R_alloc | apply Kd.R_drewN | apply Kd.R_drew)); exact HO225.out, Hd.b_⟩
   ·
    replace c9 := Bool.eq_false_iff.mpr c9
    subst c9
    have H1 : ((impl_without.f l0 a1).bind fun t226 => ((impl_IsRing.f kj2 t226).bind fun t229 => (if t229 = true then ((impl_TwiceArea.f kj2 t226).bind fun t230 => ((cmp_Compare_int.f t230 0).bind fun t231 => ((impl_TwiceArea.f kj2 l0).bind fun t232 => ((cmp_Compare_int.f t232 0).bind fun t233 => (if t231 = t233 then (some (t226, true)) else ((impl_Point_86.f l0).bind fun t234 => (some (t234, false)))))))) else ((impl_Point_86.f l0).bind fun t237 => (some (t237, false)))))) = some (r1, r2) := by rw [if_neg (show ¬ (false = true) by decide)] at H; exact H
    clear H
    have H := H1
    clear H1
    replace H := Option.bind_eq_some_iff.mp H
    obtain ⟨t226, A120, H⟩ := H
    replace H : ((impl_IsRing.f kj2 t226).bind fun t229 => (if t229 = true then ((impl_TwiceArea.f kj2 t226).bind fun t230 => ((cmp_Compare_int.f t230 0).bind fun t231 => ((impl_TwiceArea.f kj2 l0).bind fun t232 => ((cmp_Compare_int.f t232 0).bind fun t233 => (if t231 = t233 then (some (t226, true)) else ((impl_Point_86.f l0).bind fun t234 => (some (t234, false)))))))) else ((impl_Point_86.f l0).bind fun t237 => (some (t237, false))))) = some (r1, r2) := H
    have A12 := Aside0.mk A120
    clear A120
    replace H := Option.bind_eq_some_iff.mp H
    obtain ⟨t229, A130, H⟩ := H
    replace H : (if t229 = true then ((impl_TwiceArea.f kj2 t226).bind fun t230 => ((cmp_Compare_int.f t230 0).bind fun t231 => ((impl_TwiceArea.f kj2 l0).bind fun t232 => ((cmp_Compare_int.f t232 0).bind fun t233 => (if t231 = t233 then (some (t226, true)) else ((impl_Point_86.f l0).bind fun t234 => (some (t234, false)))))))) else ((impl_Point_86.f l0).bind fun t237 => (some (t237, false)))) = some (r1, r2) := H
    have A13 := Aside0.mk A130
    clear A130
    by_cases c14 : t229 = true
    ·
     subst c14
     have H1 : ((impl_TwiceArea.f kj2 t226).bind fun t230 => ((cmp_Compare_int.f t230 0).bind fun t231 => ((impl_TwiceArea.f kj2 l0).bind fun t232 => ((cmp_Compare_int.f t232 0).bind fun t233 => (if t231 = t233 then (some (t226, true)) else ((impl_Point_86.f l0).bind fun t234 => (some (t234, false)))))))) = some (r1, r2) := by rw [if_pos rfl] at H; exact H
     clear H
     have H := H1
     clear H1
     replace H := Option.bind_eq_some_iff.mp H
     obtain ⟨t230, A150, H⟩ := H
     replace H : ((cmp_Compare_int.f t230 0).bind fun t231 => ((impl_TwiceArea.f kj2 l0).bind fun t232 => ((cmp_Compare_int.f t232 0).bind fun t233 => (if t231 = t233 then (some (t226, true)) else ((impl_Point_86.f l0).bind fun t234 => (some (t234, false))))))) = some (r1, r2) := H
     have A15 := Aside0.mk A150
     clear A150
     replace H := Option.bind_eq_some_iff.mp H
     obtain ⟨t231, A160, H⟩ := H
     replace H : ((impl_TwiceArea.f kj2 l0).bind fun t232 => ((cmp_Compare_int.f t232 0).bind fun t233 => (if t231 = t233 then (some (t226, true)) else ((impl_Point_86.f l0).bind fun t234 => (some (t234, false)))))) = some (r1, r2) := H
     have A16 := Aside0.mk A160
     clear A160
     replace H := Option.bind_eq_some_iff.mp H
     obtain ⟨t232, A170, H⟩ := H
     replace H : ((cmp_Compare_int.f t232 0).bind fun t233 => (if t231 = t233 then (some (t226, true)) else ((impl_Point_86.f l0).bind fun t234 => (some (t234, false))))) = some (r1, r2) := H
     have A17 := Aside0.mk A170
     clear A170
     replace H := Option.bind_eq_some_iff.mp H
     obtain ⟨t233, A180, H⟩ := H
     replace H : (if t231 = t233 then (some (t226, true)) else ((impl_Point_86.f l0).bind fun t234 => (some (t234, false)))) = some (r1, r2) := H
     have A18 := Aside0.mk A180
     clear A180
     by_cases c19 : t231 = t233
     ·
      rw [if_pos c19] at H
      have c19b0 : (t231 == t233) = true := beq_iff_eq.mpr c19
      have c19b1 : (t231 != t233) = false := bne_eq_false_iff_eq.mpr c19
      clear c19
      simp only [Option.some.injEq, Prod.mk.injEq] at H
      obtain ⟨rfl, rfl⟩ := H
      go_wp2_with (first | ((with_reducible refine gate_callee (f := 87) rfl ?_); refine goesL_ (some 22) rfl rfl Try.func87 (by kernel_rfl) rfl #[.slice A0 l0.length c0, .int .i64 a1] rfl Hd.m_ ?_; (with_reducible refine (impl_without.calls _ _ l0 a1 t226 _ ?side1 ?side2 A12.out).mono ?_); (case side1 => repeat (first | exact (Kd.C_below HR0.out HB.out) | (with_reducible refine Kd.C_alloc ?_ _) | (with_reducible refine Kd.C_drewN ?_ _) | (with_reducible refine Kd.C_drew ?_))); (case side2 => exact HC0.out); rintro e w20 ⟨v227, rfl, ho0, hb⟩; refine ⟨_, rfl, ?_⟩; have HO228 := Aside0.mk (Kd.R_lower ho0 (below_size Hd.b_)); replace HB := Aside0.mk (below_step Hd.b_ hb); (try clear hb); (try clear hb2); (try clear hk); (try clear hi); (try clear ho0); obtain ⟨Ao21, co21, eo21⟩ := Kd.R_slice HO228.out; subst eo21) | ((with_reducible refine gate_callee (f := 44) rfl ?_); refine goesL_ (some 24) rfl rfl Try.func44 (by kernel_rfl) rfl #[.slice Ao21 t226.length co21] rfl Hd.m_ ?_; (with_reducible refine (impl_IsRing.calls kj2 _ _ t226 true _ ?side1 ?side2 A13.out).mono ?_); (case side1 => repeat (first | exact (Kd.R_reads' HO228.out).2.2 | (with_reducible refine Kd.C_alloc ?_ _) | (with_reducible refine Kd.C_drewN ?_ _) | (with_reducible refine Kd.C_drew ?_))); (case side2 => exact (Kd.R_reads' HO228.out).2.1); rintro e w22 ⟨rfl, hb⟩; refine ⟨_, rfl, ?_⟩; replace HO228 := Aside0.mk (Kd.R_below (Hd.r_ HO228) hb); replace HB := Aside0.mk (below_step Hd.b_ hb); (try clear hb); (try clear hb2); (try clear hk); (try clear hi)) | (go_at_call 89; (with_reducible refine (impl_TwiceArea.calls kj2 _ _ t226 t230 _ ?side1 ?side2 A15.out).mono ?_); (case side1 => repeat (first | exact (Kd.R_reads' HO228.out).2.2 | (with_reducible refine Kd.C_alloc ?_ _) | (with_reducible refine Kd.C_drewN ?_ _) | (with_reducible refine Kd.C_drew ?_))); (case side2 => exact (Kd.R_reads' HO228.out).2.1); rintro e w23 ⟨rfl, hb⟩; replace HO228 := Aside0.mk (Kd.R_below (Hd.r_ HO228) hb); replace HB := Aside0.mk (below_step Hd.b_ hb); (try clear hb); (try clear hb2); (try clear hk); (try clear hi)) | (go_at_call 88; (with_reducible refine (cmp_Compare_int.calls t230 0 t231 _ A16.out).mono ?_); rintro e w' ⟨rfl, ⟨nd, rfl⟩⟩) | (go_at_call 89; (with_reducible refine (impl_TwiceArea.calls kj2 _ _ l0 t232 _ ?side1 ?side2 A17.out).mono ?_); (case side1 => repeat (first | exact (Kd.C_below HR0.out Hd.b_) | (with_reducible refine Kd.C_alloc ?_ _) | (with_reducible refine Kd.C_drewN ?_ _) | (with_reducible refine Kd.C_drew ?_))); (case side2 => exact HC0.out); rintro e w24 ⟨rfl, hb⟩; replace HO228 := Aside0.mk (Kd.R_below (Hd.r_ HO228) hb); replace HB := Aside0.mk (below_step Hd.b_ hb); (try clear hb); (try clear hb2); (try clear hk); (try clear hi)) | (go_at_call 88; (with_reducible refine (cmp_Compare_int.calls t232 0 t233 _ A18.out).mono ?_); rintro e w' ⟨rfl, ⟨nd, rfl⟩⟩))
      go_ret2
      exact ⟨_, Hd.e_, by (with_reducible repeat (first | apply Kd.R_alloc | apply Kd.R_drewN | apply Kd.R_drew)); exact HO228.out, Hd.b_⟩
     ·
      rw [if_neg c19] at H
      have c19b0 : (t231 == t233) = false := beq_eq_false_iff_ne.mpr c19
      have c19b1 : (t231 != t233) = true := bne_iff_ne.mpr c19
      replace H := Option.bind_eq_some_iff.mp H
      obtain ⟨t234, A250, H⟩ := H
      replace H : (some (t234, false)) = some (r1, r2) := H
      have A25 := Aside0.mk A250
      clear A250
      simp only [Option.some.injEq, Prod.mk.injEq] at H
      obtain ⟨rfl, rfl⟩ := H
      go_wp2_with (first | ((with_reducible refine gate_callee (f := 87) rfl ?_); refine goesL_ (some 22) rfl rfl Try.func87 (by kernel_rfl) rfl #[.slice A0 l0.length c0, .int .i64 a1] rfl Hd.m_ ?_; (with_reducible refine (impl_without.calls _ _ l0 a1 t226 _ ?side1 ?side2 A12.out).mono ?_); (case side1 => repeat (first | exact (Kd.C_below HR0.out HB.out) | (with_reducible refine Kd.C_alloc ?_ _) | (with_reducible refine Kd.C_drewN ?_ _) | (with_reducible refine Kd.C_drew ?_))); (case side2 => exact HC0.out); rintro e w26 ⟨v227, rfl, ho0, hb⟩; refine ⟨_, rfl, ?_⟩; have HO228 := Aside0.mk (Kd.R_lower ho0 (below_size Hd.b_)); replace HB := Aside0.mk (below_step Hd.b_ hb); (try clear hb); (try clear hb2); (try clear hk); (try clear hi); (try clear ho0); obtain ⟨Ao27, co27, eo27⟩ := Kd.R_slice HO228.out; subst eo27) | ((with_reducible refine gate_callee (f := 44) rfl ?_); refine goesL_ (some 24) rfl rfl Try.func44 (by kernel_rfl) rfl #[.slice Ao27 t226.length co27] rfl Hd.m_ ?_; (with_reducible refine (impl_IsRing.calls kj2 _ _ t226 true _ ?side1 ?side2 A13.out).mono ?_); (case side1 => repeat (first | exact (Kd.R_reads' HO228.out).2.2 | (with_reducible refine Kd.C_alloc ?_ _) | (with_reducible refine Kd.C_drewN ?_ _) | (with_reducible refine Kd.C_drew ?_))); (case side2 => exact (Kd.R_reads' HO228.out).2.1); rintro e w28 ⟨rfl, hb⟩; refine ⟨_, rfl, ?_⟩; replace HO228 := Aside0.mk (Kd.R_below (Hd.r_ HO228) hb); replace HB := Aside0.mk (below_step Hd.b_ hb); (try clear hb); (try clear hb2); (try clear hk); (try clear hi)) | (go_at_call 89; (with_reducible refine (impl_TwiceArea.calls kj2 _ _ t226 t230 _ ?side1 ?side2 A15.out).mono ?_); (case side1 => repeat (first | exact (Kd.R_reads' HO228.out).2.2 | (with_reducible refine Kd.C_alloc ?_ _) | (with_reducible refine Kd.C_drewN ?_ _) | (with_reducible refine Kd.C_drew ?_))); (case side2 => exact (Kd.R_reads' HO228.out).2.1); rintro e w29 ⟨rfl, hb⟩; replace HO228 := Aside0.mk (Kd.R_below (Hd.r_ HO228) hb); replace HB := Aside0.mk (below_step Hd.b_ hb); (try clear hb); (try clear hb2); (try clear hk); (try clear hi)) | (go_at_call 88; (with_reducible refine (cmp_Compare_int.calls t230 0 t231 _ A16.out).mono ?_); rintro e w' ⟨rfl, ⟨nd, rfl⟩⟩) | (go_at_call 89; (with_reducible refine (impl_TwiceArea.calls kj2 _ _ l0 t232 _ ?side1 ?side2 A17.out).mono ?_); (case side1 => repeat (first | exact (Kd.C_below HR0.out Hd.b_) | (with_reducible refine Kd.C_alloc ?_ _) | (with_reducible refine Kd.C_drewN ?_ _) | (with_reducible refine Kd.C_drew ?_))); (case side2 => exact HC0.out); rintro e w30 ⟨rfl, hb⟩; replace HO228 := Aside0.mk (Kd.R_below (Hd.r_ HO228) hb); replace HB := Aside0.mk (below_step Hd.b_ hb); (try clear hb); (try clear hb2); (try clear hk); (try clear hi)) | (go_at_call 88; (with_reducible refine (cmp_Compare_int.calls t232 0 t233 _ A18.out).mono ?_); rintro e w' ⟨rfl, ⟨nd, rfl⟩⟩) | ((with_reducible refine gate_callee (f := 86) rfl ?_); refine goesL_ (some 36) rfl rfl Try.func86 (by kernel_rfl) rfl #[.slice A0 l0.length c0] rfl Hd.m_ ?_; (with_reducible refine (impl_Point_86.calls _ _ l0 t234 _ ?side1 ?side2 A25.out).mono ?_); (case side1 => repeat (first | exact (Kd.C_below HR0.out Hd.b_) | (with_reducible refine Kd.C_alloc ?_ _) | (with_reducible refine Kd.C_drewN ?_ _) | (with_reducible refine Kd.C_drew ?_))); (case side2 => exact HC0.out); rintro e w31 ⟨v235, rfl, ho0, hb⟩; refine ⟨_, rfl, ?_⟩; have HO236 := Aside0.mk (Kd.R_lower (Kd.R_new' ho0 (Kd.R_lt (Hd.r_ HO228))) (below_size Hd.b_)); replace HO228 := Aside0.mk (Kd.R_elder' (Hd.r_ HO228) (Kd.R_base ho0) hb); replace HB := Aside0.mk (below_step Hd.b_ hb); (try clear hb); (try clear hb2); (try clear hk); (try clear hi); (try clear ho0)))
      go_ret2
      exact ⟨_, Hd.e_, by (with_reducible repeat (first | apply Kd.R_alloc | apply Kd.R_drewN | apply Kd.R_drew)); exact Kd.R_mono HO236.out (fun _ hk => trivial), Hd.b_⟩
    ·
     replace c14 := Bool.eq_false_iff.mpr c14
     subst c14
     have H1 : ((impl_Point_86.f l0).bind fun t237 => (some (t237, false))) = some (r1, r2) := by rw [if_neg (show ¬ (false = true) by decide)] at H; exact H
     clear H
     have H := H1
     clear H1
     replace H := Option.bind_eq_some_iff.mp H
     obtain ⟨t237, A320, H⟩ := H
     replace H : (some (t237, false)) = some (r1, r2) := H
     have A32 := Aside0.mk A320
     clear A320
     simp only [Option.some.injEq, Prod.mk.injEq] at H
     obtain ⟨rfl, rfl⟩ := H
     go_wp2_with (first | ((with_reducible refine gate_callee (f := 87) rfl ?_); refine goesL_ (some 22) rfl rfl Try.func87 (by kernel_rfl) rfl #[.slice A0 l0.length c0, .int .i64 a1] rfl Hd.m_ ?_; (with_reducible refine (impl_without.calls _ _ l0 a1 t226 _ ?side1 ?side2 A12.out).mono ?_); (case side1 => repeat (first | exact (Kd.C_below HR0.out HB.out) | (with_reducible refine Kd.C_alloc ?_ _) | (with_reducible refine Kd.C_drewN ?_ _) | (with_reducible refine Kd.C_drew ?_))); (case side2 => exact HC0.out); rintro e w33 ⟨v227, rfl, ho0, hb⟩; refine ⟨_, rfl, ?_⟩; have HO228 := Aside0.mk (Kd.R_lower ho0 (below_size Hd.b_)); replace HB := Aside0.mk (below_step Hd.b_ hb); (try clear hb); (try clear hb2); (try clear hk); (try clear hi); (try clear ho0); obtain ⟨Ao34, co34, eo34⟩ := Kd.R_slice HO228.out; subst eo34) | ((with_reducible refine gate_callee (f := 44) rfl ?_); refine goesL_ (some 24) rfl rfl Try.func44 (by kernel_rfl) rfl #[.slice Ao34 t226.length co34] rfl Hd.m_ ?_; (with_reducible refine (impl_IsRing.calls kj2 _ _ t226 false _ ?side1 ?side2 A13.out).mono ?_); (case side1 => repeat (first | exact (Kd.R_reads' HO228.out).2.2 | (with_reducible refine Kd.C_alloc ?_ _) | (with_reducible refine Kd.C_drewN ?_ _) | (with_reducible refine Kd.C_drew ?_))); (case side2 => exact (Kd.R_reads' HO228.out).2.1); rintro e w35 ⟨rfl, hb⟩; refine ⟨_, rfl, ?_⟩; replace HO228 := Aside0.mk (Kd.R_below (Hd.r_ HO228) hb); replace HB := Aside0.mk (below_step Hd.b_ hb); (try clear hb); (try clear hb2); (try clear hk); (try clear hi)) | ((with_reducible refine gate_callee (f := 86) rfl ?_); refine goesL_ (some 36) rfl rfl Try.func86 (by kernel_rfl) rfl #[.slice A0 l0.length c0] rfl Hd.m_ ?_; (with_reducible refine (impl_Point_86.calls _ _ l0 t237 _ ?side1 ?side2 A32.out).mono ?_); (case side1 => repeat (first | exact (Kd.C_below HR0.out HB.out) | (with_reducible refine Kd.C_alloc ?_ _) | (with_reducible refine Kd.C_drewN ?_ _) | (with_reducible refine Kd.C_drew ?_))); (case side2 => exact HC0.out); rintro e w36 ⟨v238, rfl, ho0, hb⟩; refine ⟨_, rfl, ?_⟩; have HO239 := Aside0.mk (Kd.R_lower (Kd.R_new' ho0 (Kd.R_lt (Hd.r_ HO228))) (below_size Hd.b_)); replace HO228 := Aside0.mk (Kd.R_elder' (Hd.r_ HO228) (Kd.R_base ho0) hb); replace HB := Aside0.mk (below_step Hd.b_ hb); (try clear hb); (try clear hb2); (try clear hk); (try clear hi); (try clear ho0)))
     go_ret2
     exact ⟨_, Hd.e_, by (with_reducible repeat (first | apply Kd.R_alloc | apply Kd.R_drewN | apply Kd.R_drew)); exact Kd.R_mono HO239.out (fun _ hk => trivial), Hd.b_⟩
def impl_twice.f (a0_0 : Int) (a0_1 : Int) (a1_0 : Int) (a1_1 : Int) (a2_0 : Int) (a2_1 : Int) : Option (Int) := (impl_cross.f a0_0 a0_1 a1_0 a1_1 a2_0 a2_1).bind fun t243 => (some (mx t243 (wrap64 (-t243))))
set_option maxHeartbeats 8000000 in
set_option maxRecDepth 100000 in
theorem impl_twice.calls (a0_0 : Int) (a0_1 : Int) (a1_0 : Int) (a1_1 : Int) (a2_0 : Int) (a2_1 : Int) (r : Int) (w : World) (h : impl_twice.f a0_0 a0_1 a1_0 a1_1 a2_0 a2_1 = some r) :
  Calls Try.prog 97 #[.agg #[.int .i64 a0_0, .int .i64 a0_1], .agg #[.int .i64 a1_0, .int .i64 a1_1], .agg #[.int .i64 a2_0, .int .i64 a2_1]] w fun e w' => e = .returned (.int .i64 r) ∧ Below w.heap.size w w' := by
 have hu49 := Try.underlying49
 have HB := Aside0.mk (Below.refl w.heap.size w)
 have H : ((impl_cross.f a0_0 a0_1 a1_0 a1_1 a2_0 a2_1).bind fun t243 => (some (mx t243 (wrap64 (-t243))))) = some r := h
 clear h
 replace H := Option.bind_eq_some_iff.mp H
 obtain ⟨t243, A40, H⟩ := H
 replace H : (some (mx t243 (wrap64 (-t243)))) = some r := H
 have A4 := Aside0.mk A40
 clear A40
 obtain ⟨ji5, hji5⟩ : ∃ j_ : Int, (mx t243 (wrap64 (-t243))) = j_ := ⟨_, rfl⟩
 replace H : (some ji5) = some r := by first | (rw [hji5] at H; exact H) | (simp only [hji5] at H ⊢; exact H)
 (try rw [hji5] at A4)
 have hji5_ : (if t243 < (wrap64 (-t243)) then (wrap64 (-t243)) else t243) = ji5 := hji5
 obtain rfl := Option.some.inj H
 go_enter Try.func97, Try.ntmps97
 go_wp2_with (first | ((with_reducible refine gate_dst (N := 3) rfl ?_); refine Hd.box_ 3 (#[.int .i64 a0_0, .int .i64 a0_1]) 49 ?_; intro gb240 hg w6 hbox hb; have BK240 := Aside0.mk (hbox); have GW240 := Aside0.mk ((Hd.g_ hg Hd.b_ : w.heap.size ≤ gb240)); have GE240 := Aside0.mk ((Hd.g_ hg Hd.b_ : w.heap.size ≤ gb240)); replace HB := Aside0.mk (below_step Hd.b_ hb); clear hb hbox hg) | ((with_reducible refine gate_dst (N := 4) rfl ?_); refine Hd.box_ 4 (#[.int .i64 a1_0, .int .i64 a1_1]) 49 ?_; intro gb241 hg w7 hbox hb; have BK241 := Aside0.mk (hbox); have GW241 := Aside0.mk ((Hd.g_ hg Hd.b_ : w.heap.size ≤ gb241)); have GE241 := Aside0.mk ((Hd.g_ hg Hd.b_ : w.heap.size ≤ gb241)); replace HB := Aside0.mk (below_step Hd.b_ hb); have NB240_241 := Aside0.mk ((Hd.lt_ BK240 hg)); have NB241_240 := Aside0.mk ((Hd.gt_ BK240 hg)); replace BK240 := Aside0.mk (Hd.kb_ BK240 hb); clear hb hbox hg) | ((with_reducible refine gate_dst (N := 5) rfl ?_); refine Hd.box_ 5 (#[.int .i64 a2_0, .int .i64 a2_1]) 49 ?_; intro gb242 hg w8 hbox hb; have BK242 := Aside0.mk (hbox); have GW242 := Aside0.mk ((Hd.g_ hg Hd.b_ : w.heap.size ≤ gb242)); have GE242 := Aside0.mk ((Hd.g_ hg Hd.b_ : w.heap.size ≤ gb242)); replace HB := Aside0.mk (below_step Hd.b_ hb); have NB240_242 := Aside0.mk ((Hd.lt_ BK240 hg)); have NB242_240 := Aside0.mk ((Hd.gt_ BK240 hg)); replace BK240 := Aside0.mk (Hd.kb_ BK240 hb); have NB241_242 := Aside0.mk ((Hd.lt_ BK241 hg)); have NB242_241 := Aside0.mk ((Hd.gt_ BK241 hg)); replace BK241 := Aside0.mk (Hd.kb_ BK241 hb); clear hb hbox hg; have hnb9 := NB240_241.out; have hnc9 := NB241_240.out; have hnb10 := NB240_242.out; have hnc10 := NB242_240.out; obtain ⟨hcz11_0, hcz11_1⟩ := Hd.c2_ BK240.out; obtain ⟨hfz11_0, hfz11_1⟩ := Hd.f2_ BK240.out; have hnb12 := NB241_242.out; have hnc12 := NB242_241.out; obtain ⟨hcz13_0, hcz13_1⟩ := Hd.c2_ BK241.out; obtain ⟨hfz13_0, hfz13_1⟩ := Hd.f2_ BK241.out; obtain ⟨hcz14_0, hcz14_1⟩ := Hd.c2_ BK242.out; obtain ⟨hfz14_0, hfz14_1⟩ := Hd.f2_ BK242.out) | ((with_reducible refine gate_callee (f := 147) rfl ?_); refine goesL_ (some 11) rfl rfl Try.func147 (by kernel_rfl) rfl #[.agg #[.int .i64 a0_0, .int .i64 a0_1], .agg #[.int .i64 a1_0, .int .i64 a1_1], .agg #[.int .i64 a2_0, .int .i64 a2_1]] rfl Hd.m_ ?_; (with_reducible refine (impl_cross.calls a0_0 a0_1 a1_0 a1_1 a2_0 a2_1 t243 _ A4.out).mono ?_); rintro e w15 ⟨rfl, hb⟩; refine ⟨_, rfl, ?_⟩; replace BK240 := Aside0.mk (Hd.kb_ BK240 hb); replace BK241 := Aside0.mk (Hd.kb_ BK241 hb); replace BK242 := Aside0.mk (Hd.kb_ BK242 hb); replace HB := Aside0.mk (below_step Hd.b_ hb); (try clear hb); (try clear hb2); (try clear hk); (try clear hi)))
 go_ret
 exact ⟨by first | rfl | (simp [errW_none, errW_some] <;> rfl) | (simp only [← hji5]; first | rfl | (simp [errW_none, errW_some] <;> rfl)) | (simp [*, errW_none, errW_some] <;> rfl), Hd.b_⟩
def impl_CornerSize.f (k : Nat) (l0 : List (S49)) (a1 : Int) : Option (Int) := (impl_IsRing.f k l0).bind fun t244 => (if t244 = true then ((impl_InRange.f a1 0 (wrap64 ((l0.length : Int) - 1))).bind fun t245 => (if t245 = true then (if (l0.length : Int) = 0 then (none) else (if 0 ≤ (Int.tmod (wrap64 ((wrap64 (a1 + (l0.length : Int))) - 1)) (l0.length : Int)) then (if (Int.tmod (wrap64 ((wrap64 (a1 + (l0.length : Int))) - 1)) (l0.length : Int)) < (l0.length : Int) then (if 0 ≤ a1 then (if a1 < (l0.length : Int) then (if 0 ≤ (Int.tmod (wrap64 (a1 + 1)) (l0.length : Int)) then (if (Int.tmod (wrap64 (a1 + 1)) (l0.length : Int)) < (l0.length : Int) then ((impl_twice.f ((rd_T49 l0 (Int.tmod (wrap64 ((wrap64 (a1 + (l0.length : Int))) - 1)) (l0.length : Int))).f0) ((rd_T49 l0 (Int.tmod (wrap64 ((wrap64 (a1 + (l0.length : Int))) - 1)) (l0.length : Int))).f1) ((rd_T49 l0 a1).f0) ((rd_T49 l0 a1).f1) ((rd_T49 l0 (Int.tmod (wrap64 (a1 + 1)) (l0.length : Int))).f0) ((rd_T49 l0 (Int.tmod (wrap64 (a1 + 1)) (l0.length : Int))).f1)).bind fun t249 => (some t249)) else (none)) else (none)) else (none)) else (none)) else (none)) else (none))) else (some (-1)))) else (some (-1)))
set_option maxHeartbeats 8000000 in
set_option maxRecDepth 100000 in
theorem impl_CornerSize.calls (k : Nat) (A0 : Option Addr) (c0 : Nat) (l0 : List (S49)) (a1 : Int) (r : Int) (w : World) (hr0 : Kd.C k49 w A0 l0.length l0) (hc0 : l0.length ≤ c0) (h : impl_CornerSize.f k l0 a1 = some r) :
  Calls Try.prog 46 #[.slice A0 l0.length c0, .int .i64 a1] w fun e w' => e = .returned (.int .i64 r) ∧ Below w.heap.size w w' := by
 have hu49 := Try.underlying49
 have HR0 := Aside0.mk hr0
 have HC0 := Aside0.mk hc0
 clear hr0 hc0
 have HB := Aside0.mk (Below.refl w.heap.size w)
 have H : ((impl_IsRing.f k l0).bind fun t244 => (if t244 = true then ((impl_InRange.f a1 0 (wrap64 ((l0.length : Int) - 1))).bind fun t245 => (if t245 = true then (if (l0.length : Int) = 0 then (none) else (if 0 ≤ (Int.tmod (wrap64 ((wrap64 (a1 + (l0.length : Int))) - 1)) (l0.length : Int)) then (if (Int.tmod (wrap64 ((wrap64 (a1 + (l0.length : Int))) - 1)) (l0.length : Int)) < (l0.length : Int) then (if 0 ≤ a1 then (if a1 < (l0.length : Int) then (if 0 ≤ (Int.tmod (wrap64 (a1 + 1)) (l0.length : Int)) then (if (Int.tmod (wrap64 (a1 + 1)) (l0.length : Int)) < (l0.length : Int) then ((impl_twice.f ((rd_T49 l0 (Int.tmod (wrap64 ((wrap64 (a1 + (l0.length : Int))) - 1)) (l0.length : Int))).f0) ((rd_T49 l0 (Int.tmod (wrap64 ((wrap64 (a1 + (l0.length : Int))) - 1)) (l0.length : Int))).f1) ((rd_T49 l0 a1).f0) ((rd_T49 l0 a1).f1) ((rd_T49 l0 (Int.tmod (wrap64 (a1 + 1)) (l0.length : Int))).f0) ((rd_T49 l0 (Int.tmod (wrap64 (a1 + 1)) (l0.length : Int))).f1)).bind fun t249 => (some t249)) else (none)) else (none)) else (none)) else (none)) else (none)) else (none))) else (some (-1)))) else (some (-1)))) = some r := h
 clear h
 replace H := Option.bind_eq_some_iff.mp H
 obtain ⟨t244, A30, H⟩ := H
 replace H : (if t244 = true then ((impl_InRange.f a1 0 (wrap64 ((l0.length : Int) - 1))).bind fun t245 => (if t245 = true then (if (l0.length : Int) = 0 then (none) else (if 0 ≤ (Int.tmod (wrap64 ((wrap64 (a1 + (l0.length : Int))) - 1)) (l0.length : Int)) then (if (Int.tmod (wrap64 ((wrap64 (a1 + (l0.length : Int))) - 1)) (l0.length : Int)) < (l0.length : Int) then (if 0 ≤ a1 then (if a1 < (l0.length : Int) then (if 0 ≤ (Int.tmod (wrap64 (a1 + 1)) (l0.length : Int)) then (if (Int.tmod (wrap64 (a1 + 1)) (l0.length : Int)) < (l0.length : Int) then ((impl_twice.f ((rd_T49 l0 (Int.tmod (wrap64 ((wrap64 (a1 + (l0.length : Int))) - 1)) (l0.length : Int))).f0) ((rd_T49 l0 (Int.tmod (wrap64 ((wrap64 (a1 + (l0.length : Int))) - 1)) (l0.length : Int))).f1) ((rd_T49 l0 a1).f0) ((rd_T49 l0 a1).f1) ((rd_T49 l0 (Int.tmod (wrap64 (a1 + 1)) (l0.length : Int))).f0) ((rd_T49 l0 (Int.tmod (wrap64 (a1 + 1)) (l0.length : Int))).f1)).bind fun t249 => (some t249)) else (none)) else (none)) else (none)) else (none)) else (none)) else (none))) else (some (-1)))) else (some (-1))) = some r := H
 have A3 := Aside0.mk A30
 clear A30
 by_cases c4 : t244 = true
 ·
  subst c4
  have H1 : ((impl_InRange.f a1 0 (wrap64 ((l0.length : Int) - 1))).bind fun t245 => (if t245 = true then (if (l0.length : Int) = 0 then (none) else (if 0 ≤ (Int.tmod (wrap64 ((wrap64 (a1 + (l0.length : Int))) - 1)) (l0.length : Int)) then (if (Int.tmod (wrap64 ((wrap64 (a1 + (l0.length : Int))) - 1)) (l0.length : Int)) < (l0.length : Int) then (if 0 ≤ a1 then (if a1 < (l0.length : Int) then (if 0 ≤ (Int.tmod (wrap64 (a1 + 1)) (l0.length : Int)) then (if (Int.tmod (wrap64 (a1 + 1)) (l0.length : Int)) < (l0.length : Int) then ((impl_twice.f ((rd_T49 l0 (Int.tmod (wrap64 ((wrap64 (a1 + (l0.length : Int))) - 1)) (l0.length : Int))).f0) ((rd_T49 l0 (Int.tmod (wrap64 ((wrap64 (a1 + (l0.length : Int))) - 1)) (l0.length : Int))).f1) ((rd_T49 l0 a1).f0) ((rd_T49 l0 a1).f1) ((rd_T49 l0 (Int.tmod (wrap64 (a1 + 1)) (l0.length : Int))).f0) ((rd_T49 l0 (Int.tmod (wrap64 (a1 + 1)) (l0.length : Int))).f1)).bind fun t249 => (some t249)) else (none)) else (none)) else (none)) else (none)) else (none)) else (none))) else (some (-1)))) = some r := by rw [if_pos rfl] at H; exact H
  clear H
  have H := H1
  clear H1
  replace H := Option.bind_eq_some_iff.mp H
  obtain ⟨t245, A50, H⟩ := H
  replace H : (if t245 = true then (if (l0.length : Int) = 0 then (none) else (if 0 ≤ (Int.tmod (wrap64 ((wrap64 (a1 + (l0.length : Int))) - 1)) (l0.length : Int)) then (if (Int.tmod (wrap64 ((wrap64 (a1 + (l0.length : Int))) - 1)) (l0.length : Int)) < (l0.length : Int) then (if 0 ≤ a1 then (if a1 < (l0.length : Int) then (if 0 ≤ (Int.tmod (wrap64 (a1 + 1)) (l0.length : Int)) then (if (Int.tmod (wrap64 (a1 + 1)) (l0.length : Int)) < (l0.length : Int) then ((impl_twice.f ((rd_T49 l0 (Int.tmod (wrap64 ((wrap64 (a1 + (l0.length : Int))) - 1)) (l0.length : Int))).f0) ((rd_T49 l0 (Int.tmod (wrap64 ((wrap64 (a1 + (l0.length : Int))) - 1)) (l0.length : Int))).f1) ((rd_T49 l0 a1).f0) ((rd_T49 l0 a1).f1) ((rd_T49 l0 (Int.tmod (wrap64 (a1 + 1)) (l0.length : Int))).f0) ((rd_T49 l0 (Int.tmod (wrap64 (a1 + 1)) (l0.length : Int))).f1)).bind fun t249 => (some t249)) else (none)) else (none)) else (none)) else (none)) else (none)) else (none))) else (some (-1))) = some r := H
  have A5 := Aside0.mk A50
  clear A50
  by_cases c6 : t245 = true
  ·
   subst c6
   have H1 : (if (l0.length : Int) = 0 then (none) else (if 0 ≤ (Int.tmod (wrap64 ((wrap64 (a1 + (l0.length : Int))) - 1)) (l0.length : Int)) then (if (Int.tmod (wrap64 ((wrap64 (a1 + (l0.length : Int))) - 1)) (l0.length : Int)) < (l0.length : Int) then (if 0 ≤ a1 then (if a1 < (l0.length : Int) then (if 0 ≤ (Int.tmod (wrap64 (a1 + 1)) (l0.length : Int)) then (if (Int.tmod (wrap64 (a1 + 1)) (l0.length : Int)) < (l0.length : Int) then ((impl_twice.f ((rd_T49 l0 (Int.tmod (wrap64 ((wrap64 (a1 + (l0.length : Int))) - 1)) (l0.length : Int))).f0) ((rd_T49 l0 (Int.tmod (wrap64 ((wrap64 (a1 + (l0.length : Int))) - 1)) (l0.length : Int))).f1) ((rd_T49 l0 a1).f0) ((rd_T49 l0 a1).f1) ((rd_T49 l0 (Int.tmod (wrap64 (a1 + 1)) (l0.length : Int))).f0) ((rd_T49 l0 (Int.tmod (wrap64 (a1 + 1)) (l0.length : Int))).f1)).bind fun t249 => (some t249)) else (none)) else (none)) else (none)) else (none)) else (none)) else (none))) = some r := by rw [if_pos rfl] at H; exact H
   clear H
   have H := H1
   clear H1
   by_cases c7 : (l0.length : Int) = 0
   ·
    rw [if_pos c7] at H
    exact absurd H (by simp)
   ·
    rw [if_neg c7] at H
    have c7b0 : ((l0.length : Int) == 0) = false := beq_eq_false_iff_ne.mpr c7
    have c7b1 : ((l0.length : Int) != 0) = true := bne_iff_ne.mpr c7
    have c7b2 : ¬ (l0 = []) := fun h_ => c7 (by rw [h_]; rfl)
    obtain ⟨ji8, hji8⟩ : ∃ j_ : Int, (Int.tmod (wrap64 ((wrap64 (a1 + (l0.length : Int))) - 1)) (l0.length : Int)) = j_ := ⟨_, rfl⟩
    replace H : (if 0 ≤ (ji8) then (if (ji8) < (l0.length : Int) then (if 0 ≤ a1 then (if a1 < (l0.length : Int) then (if 0 ≤ (Int.tmod (wrap64 (a1 + 1)) (l0.length : Int)) then (if (Int.tmod (wrap64 (a1 + 1)) (l0.length : Int)) < (l0.length : Int) then ((impl_twice.f ((rd_T49 l0 (ji8)).f0) ((rd_T49 l0 (ji8)).f1) ((rd_T49 l0 a1).f0) ((rd_T49 l0 a1).f1) ((rd_T49 l0 (Int.tmod (wrap64 (a1 + 1)) (l0.length : Int))).f0) ((rd_T49 l0 (Int.tmod (wrap64 (a1 + 1)) (l0.length : Int))).f1)).bind fun t249 => (some t249)) else (none)) else (none)) else (none)) else (none)) else (none)) else (none)) = some r := by first | (rw [hji8] at H; exact H) | (simp only [hji8] at H ⊢; exact H)
    (try rw [hji8] at A3)
    (try rw [hji8] at A5)
    by_cases c9 : 0 ≤ (ji8)
    ·
     rw [if_pos c9] at H
     have c9b0 : decide (0 ≤ (ji8)) = true := decide_eq_true c9
     clear c9
     by_cases c10 : (ji8) < (l0.length : Int)
     ·
      rw [if_pos c10] at H
      have c10b0 : decide ((ji8) < (l0.length : Int)) = true := decide_eq_true c10
      clear c10
      by_cases c11 : 0 ≤ a1
      ·
       rw [if_pos c11] at H
       have c11b0 : decide (0 ≤ a1) = true := decide_eq_true c11
       clear c11
       by_cases c12 : a1 < (l0.length : Int)
       ·
        rw [if_pos c12] at H
        have c12b0 : decide (a1 < (l0.length : Int)) = true := decide_eq_true c12
        clear c12
        obtain ⟨ji13, hji13⟩ : ∃ j_ : Int, (Int.tmod (wrap64 (a1 + 1)) (l0.length : Int)) = j_ := ⟨_, rfl⟩
        replace H : (if 0 ≤ (ji13) then (if (ji13) < (l0.length : Int) then ((impl_twice.f ((rd_T49 l0 (ji8)).f0) ((rd_T49 l0 (ji8)).f1) ((rd_T49 l0 a1).f0) ((rd_T49 l0 a1).f1) ((rd_T49 l0 (ji13)).f0) ((rd_T49 l0 (ji13)).f1)).bind fun t249 => (some t249)) else (none)) else (none)) = some r := by first | (rw [hji13] at H; exact H) | (simp only [hji13] at H ⊢; exact H)
        (try rw [hji13] at A3)
        (try rw [hji13] at A5)
        by_cases c14 : 0 ≤ (ji13)
        ·
         rw [if_pos c14] at H
         have c14b0 : decide (0 ≤ (ji13)) = true := decide_eq_true c14
         clear c14
         by_cases c15 : (ji13) < (l0.length : Int)
         ·
          rw [if_pos c15] at H
          have c15b0 : decide ((ji13) < (l0.length : Int)) = true := decide_eq_true c15
          clear c15
          replace H := Option.bind_eq_some_iff.mp H
          obtain ⟨t249, A160, H⟩ := H
          replace H : (some t249) = some r := H
          have A16 := Aside0.mk A160
          clear A160
          obtain rfl := Option.some.inj H
          go_enter Try.func46, Try.ntmps46
          try go_wp2_with (first | ((with_reducible refine gate_callee (f := 44) rfl ?_); refine goesL_ (some 7) rfl rfl Try.func44 (by kernel_rfl) rfl #[.slice A0 l0.length c0] rfl Hd.m_ ?_; (with_reducible refine (impl_IsRing.calls k _ _ l0 true _ ?side1 ?side2 A3.out).mono ?_); (case side1 => repeat (first | exact HR0.out | (with_reducible refine Kd.C_alloc ?_ _) | (with_reducible refine Kd.C_drewN ?_ _) | (with_reducible refine Kd.C_drew ?_))); (case side2 => exact HC0.out); rintro e w17 ⟨rfl, hb⟩; refine ⟨_, rfl, ?_⟩; replace HB := Aside0.mk (below_step Hd.b_ hb); (try clear hb); (try clear hb2); (try clear hk); (try clear hi)) | (go_at_call 85; (with_reducible refine (impl_InRange.calls a1 0 (wrap64 ((l0.length : Int) - 1)) true _ A5.out).mono ?_); rintro e w' ⟨rfl, ⟨nd, rfl⟩⟩))
          (try (rw [drewN_self w17]; generalize hq_ : World.drewN w17 _ = w17; have n0_ : Aside0 (Below w.heap.size w w17) := ⟨by rw [← hq_]; exact Hd.b_⟩; clear HB hq_; have HB := n0_; clear n0_))
          replace HB := Aside0.mk (below_drew1 HB.out)
          have p246 : 0 ≤ ((ji8) : Int) := of_decide_eq_true Hd.a_
          have q246 : (ji8) < (l0.length : Int) := of_decide_eq_true Hd.a_
          obtain ⟨ad246, e246, hx246_0, hx246_1⟩ := at_T49 HR0.out (ji8) p246 q246
          have hw246_1 := hx246_1
          have hw246_0 := hx246_0
          cases e246
          replace hx246_0 := (HB.out.cell (World.block_lt_of_cell? w _ hx246_0)).trans hx246_0
          replace hx246_1 := (HB.out.cell (World.block_lt_of_cell? w _ hx246_1)).trans hx246_1
          replace p246 := eq_true p246
          replace q246 := eq_true q246
          have p247 : 0 ≤ (a1 : Int) := of_decide_eq_true Hd.a_
          have q247 : a1 < (l0.length : Int) := of_decide_eq_true Hd.a_
          obtain ⟨ad247, e247, hx247_0, hx247_1⟩ := at_T49 HR0.out a1 p247 q247
          have hw247_1 := hx247_1
          have hw247_0 := hx247_0
          obtain rfl : ad246 = ad247 := (by injection e247)
          replace hx247_0 := (HB.out.cell (World.block_lt_of_cell? w _ hx247_0)).trans hx247_0
          replace hx247_1 := (HB.out.cell (World.block_lt_of_cell? w _ hx247_1)).trans hx247_1
          replace p247 := eq_true p247
          replace q247 := eq_true q247
          have p248 : 0 ≤ ((ji13) : Int) := of_decide_eq_true Hd.a_
          have q248 : (ji13) < (l0.length : Int) := of_decide_eq_true Hd.a_
          obtain ⟨ad248, e248, hx248_0, hx248_1⟩ := at_T49 HR0.out (ji13) p248 q248
          have hw248_1 := hx248_1
          have hw248_0 := hx248_0
          obtain rfl : ad246 = ad248 := (by injection e248)
          replace hx248_0 := (HB.out.cell (World.block_lt_of_cell? w _ hx248_0)).trans hx248_0
          replace hx248_1 := (HB.out.cell (World.block_lt_of_cell? w _ hx248_1)).trans hx248_1
          replace p248 := eq_true p248
          replace q248 := eq_true q248
          have s0_ := Hd.HW.x (W0 := w17.drew) ((HB.out.cell (World.block_lt_of_cell? w _ hw246_0)).trans hw246_0)
          have s1_ := Hd.HW.x (W0 := w17.drew) ((HB.out.cell (World.block_lt_of_cell? w _ hw246_1)).trans hw246_1)
          have s2_ := Hd.HW.x (W0 := w17.drew) ((HB.out.cell (World.block_lt_of_cell? w _ hw247_0)).trans hw247_0)
          have s3_ := Hd.HW.x (W0 := w17.drew) ((HB.out.cell (World.block_lt_of_cell? w _ hw247_1)).trans hw247_1)
          have s4_ := Hd.HW.x (W0 := w17.drew) ((HB.out.cell (World.block_lt_of_cell? w _ hw248_0)).trans hw248_0)
          have s5_ := Hd.HW.x (W0 := w17.drew) ((HB.out.cell (World.block_lt_of_cell? w _ hw248_1)).trans hw248_1)
          refine Hd.HW.region (by kernel_rfl) (by kernel_rfl) ?_
          repeat (go_big_quiet_step ((first | (go_at_call 97; with_reducible exact Hd.HW.c (impl_twice.calls ((rd_T49 l0 (ji8)).f0) ((rd_T49 l0 (ji8)).f1) ((rd_T49 l0 a1).f0) ((rd_T49 l0 a1).f1) ((rd_T49 l0 (ji13)).f0) ((rd_T49 l0 (ji13)).f1) t249 _ A16.out)))))
          refine wpQuiet_nil ?_
          intro _ hq_
          obtain ⟨q_, rfl⟩ := hq_
          clear s0_ s1_ s2_ s3_ s4_ s5_
          replace HB := Aside0.mk (below_step HB.out q_.b)
          replace hx246_0 := q_.cell hx246_0
          replace hx246_1 := q_.cell hx246_1
          replace hx247_0 := q_.cell hx247_0
          replace hx247_1 := q_.cell hx247_1
          replace hx248_0 := q_.cell hx248_0
          replace hx248_1 := q_.cell hx248_1
          generalize q_.W = w19 at HB hx246_0 hx246_1 hx247_0 hx247_1 hx248_0 hx248_1 ⊢
          try simp only [i64_w, i32_w]
          try go_wp2
          go_ret
          exact ⟨by first | rfl | (simp [errW_none, errW_some] <;> rfl) | (simp only [← hji8, ← hji13]; first | rfl | (simp [errW_none, errW_some] <;> rfl)) | (simp [*, errW_none, errW_some] <;> rfl), Hd.b_⟩
         ·
          rw [if_neg c15] at H
          exact absurd H (by simp)
        ·
         rw [if_neg c14] at H
         exact absurd H (by simp)
       ·
        rw [if_neg c12] at H
        exact absurd H (by simp)
      ·
       rw [if_neg c11] at H
       exact absurd H (by simp)
     ·
      rw [if_neg c10] at H
      exact absurd H (by simp)
    ·
     rw [if_neg c9] at H
     exact absurd H (by simp)
  ·
   replace c6 := Bool.eq_false_iff.mpr c6
   subst c6
   have H1 : (some (-1)) = some r := by rw [if_neg (show ¬ (false = true) by decide)] at H; exact H
   clear H
   have H := H1
   clear H1
   obtain rfl := Option.some.inj H
   go_enter Try.func46, Try.ntmps46
   go_wp2_with (first | ((with_reducible refine gate_callee (f := 44) rfl ?_); refine goesL_ (some 7) rfl rfl Try.func44 (by kernel_rfl) rfl #[.slice A0 l0.length c0] rfl Hd.m_ ?_; (with_reducible refine (impl_IsRing.calls k _ _ l0 true _ ?side1 ?side2 A3.out).mono ?_); (case side1 => repeat (first | exact HR0.out | (with_reducible refine Kd.C_alloc ?_ _) | (with_reducible refine Kd.C_drewN ?_ _) | (with_reducible refine Kd.C_drew ?_))); (case side2 => exact HC0.out); rintro e w20 ⟨rfl, hb⟩; refine ⟨_, rfl, ?_⟩; replace HB := Aside0.mk (below_step Hd.b_ hb); (try clear hb); (try clear hb2); (try clear hk); (try clear hi)) | (go_at_call 85; (with_reducible refine (impl_InRange.calls a1 0 (wrap64 ((l0.length : Int) - 1)) false _ A5.out).mono ?_); rintro e w' ⟨rfl, ⟨nd, rfl⟩⟩))
   go_ret
   exact ⟨Hd.e_, Hd.b_⟩
 ·
  replace c4 := Bool.eq_false_iff.mpr c4
  subst c4
  have H1 : (some (-1)) = some r := by rw [if_neg (show ¬ (false = true) by decide)] at H; exact H
  clear H
  have H := H1
  clear H1
  obtain rfl := Option.some.inj H
  go_enter Try.func46, Try.ntmps46
  go_wp2_with (first | ((with_reducible refine gate_callee (f := 44) rfl ?_); refine goesL_ (some 7) rfl rfl Try.func44 (by kernel_rfl) rfl #[.slice A0 l0.length c0] rfl Hd.m_ ?_; (with_reducible refine (impl_IsRing.calls k _ _ l0 false _ ?side1 ?side2 A3.out).mono ?_); (case side1 => repeat (first | exact HR0.out | (with_reducible refine Kd.C_alloc ?_ _) | (with_reducible refine Kd.C_drewN ?_ _) | (with_reducible refine Kd.C_drew ?_))); (case side2 => exact HC0.out); rintro e w21 ⟨rfl, hb⟩; refine ⟨_, rfl, ?_⟩; replace HB := Aside0.mk (below_step Hd.b_ hb); (try clear hb); (try clear hb2); (try clear hk); (try clear hi)))
  go_ret
  exact ⟨Hd.e_, Hd.b_⟩
end Go.Proofs.Ytchmbcembbbplac.MFnExactSafeRing
