-- Laid by this session's program pp.py, after the kit's print and texts of the session's own. Not trusted: Lean checks it.
import Derived.Test.YtbackoeakepngaaZFnRingsMx0
import Derived.Test.YtbackoeakepngaaZFnRingsMx2
import Derived.Test.YtbackoeakepngaaZFnRingsMx3
import Derived.Test.YtbackoeakepngaaZFnRingsMx4
import Derived.Test.YtbackoeakepngaaZFnRingsMx6
namespace Go.Proofs.Ytbackoeakepngaa.MFnRings
open Go.RowKit Go.Proofs.YtbackoeakepngaaW.PrintWords Go.Proofs.YtbackoeakepngaaW.PrintLast Go.Proofs.YtbackoeakepngaaW.PrintMore
attribute [local go_sem] max2_int min2_int max_two min_two max_three min_three max_four min_four   -- for this text's walks alone
set_option linter.unusedVariables false
set_option linter.unusedSimpArgs false
set_option maxHeartbeats 8000000 in
set_option maxRecDepth 100000 in
theorem impl_RotateRing.grow (n : Int) (h0 : 0 ≤ n) (hn : n ≤ 2199023255552) (w : World) :
    Calls Try.prog 114 #[.slice none 0 0, .int .i64 n] w fun e w' => ∃ v, e = .returned v ∧ Kd.R k27 27 w' w.heap.size (fun _ => True) v ([] : List S27) ∧ Below w.heap.size w w' := by
  have hu24 := Try.underlying24
  have b0 : decide (n < 0) = false := decide_eq_false (by omega)
  by_cases h : 0 < n
  · obtain ⟨m, rfl⟩ := Int.eq_ofNat_of_zero_le h0
    have b1 : decide ((m : Int) > 0) = true := decide_eq_true h
    have b2 : decide (0 < (m : Int)) = true := decide_eq_true h
    obtain ⟨i0, hi, hzz⟩ := Option.map_eq_some_iff.1 info27
    simp only [Prod.mk.injEq] at hzz
    obtain ⟨hz0, hz1, hz2⟩ := hzz
    have hr := Lib.run_append_nil_zeros (P := Try.prog) w 24 3 24 27 _ _ .i64 .i64 hu24 Try.underlying3 hi hz0 m (by omega) (by omega) (by omega) (by rw [hz2]; omega)
    have hcut := cut_to (P := Try.prog) 24 27 .i64 hu24 hi (some ⟨w.heap.size, 0, none⟩) m (grownCap w m 0 27) 0 (by omega) (by omega) (grownCap_ge w m 0 27)
    go_enter Try.func114, Try.ntmps114
    go_wp2_with (first | ((with_reducible refine gate_builtin (b := .append) rfl ?_); refine Lib.wpList_append_run _ rfl _ _ _ _ rfl _ _ rfl rfl _ _ hr ?_))
    go_ret
    refine ⟨_, rfl, ⟨fun _ _ => trivial, [], ⟨by simp, .inr ⟨w.heap.size, _, _, rfl, Nat.le_refl _, heap_alloc_new w _, Nat.zero_le _, grownCap_le_maxLen w m 0 27 (by unfold maxLen; omega), ?_, by simp⟩⟩, Reps.none _ _⟩, by repeat (first | exact Below.refl _ _ | apply below_alloc | apply pw_below_drewN | apply below_drew1)⟩
    have := grownCap_ge w m 0 27
    simp [size_zeroCells]
    show _ = grownCap w m 0 27 * 2
    omega
  · obtain rfl : n = 0 := by omega
    go_enter Try.func114, Try.ntmps114
    go_wp2
    go_ret
    exact ⟨_, rfl, Kd.R_nil _ _ _ _ _, Below.refl _ _⟩
set_option maxHeartbeats 8000000 in
set_option maxRecDepth 100000 in
theorem impl_RotateRing.concat (A : Addr) (c : Nat) (A1 A2 : Option Addr) (c1 c2 : Nat) (x1 x2 : List S27) (w : World) (h1 : w.cell? A = some (.slice A1 x1.length c1)) (h2 : w.cell? ⟨A.block, A.off + 1, none⟩ = some (.slice A2 x2.length c2))
    (hr1 : Kd.C k27 w A1 x1.length x1) (hr2 : Kd.C k27 w A2 x2.length x2) (hl : x1.length + x2.length ≤ 2199023255552) :
    Calls Try.prog 90 #[.slice (some A) 2 c] w fun e w' => ∃ v, e = .returned v ∧ Kd.R k27 27 w' w.heap.size (fun _ => True) v (x1 ++ x2) ∧ Below w.heap.size w w' := by
  have hu24 := Try.underlying24
  have hu65 := Try.underlying65
  go_enter Try.func90, Try.ntmps90
  go_wp2
  go_loopg [3, 11] 3 (fun kq v3 v11 w' => ∃ i : Nat, i + kq = 3 ∧ i ≤ 2 ∧ v11 = .int .i64 i ∧ w' = w ∧ v3 = .int .i64 (if i = 0 then 0 else if i = 1 then x1.length else x1.length + x2.length))
  case atStart => exact ⟨0, rfl, by decide, rfl, rfl, rfl⟩
  case round =>
    obtain ⟨i, hi, hi2, rfl, hwr, rfl⟩ := hrel
    have hwr := hwr.symm
    subst hwr
    rcases (by omega : i = 0 ∨ i = 1 ∨ i = 2) with rfl | rfl | rfl
    · obtain rfl : gk = 2 + 1 := by omega
      have d1 : decide (wrap64 (0 + (x1.length : Int)) < 0) = false := decide_eq_false (by unfold wrap64; omega)
      go_wp2
      go_roundg 2
      case measure => omega
      case rel => exact ⟨1, rfl, by decide, rfl, rfl, by simp⟩
    · obtain rfl : gk = 1 + 1 := by omega
      have d1 : decide (wrap64 ((x1.length : Int) + x2.length) < 0) = false := decide_eq_false (by unfold wrap64; omega)
      go_wp2
      go_roundg 1
      case measure => omega
      case rel => exact ⟨2, rfl, by decide, rfl, rfl, by simp⟩
    · obtain rfl : gk = 0 + 1 := by omega
      go_wp2_with (first | (go_at_call 114; (with_reducible refine (impl_RotateRing.grow _ (by omega) (by omega) _).mono ?_); rintro e w1 ⟨v0, rfl, hR, hb⟩))
      go_loopg [6, 27] 3 (fun kq v6 v27 w' => ∃ (i : Nat) (l : List S27), i + kq = 3 ∧ i ≤ 2 ∧ v27 = .int .i64 i ∧ l = (if i = 0 then [] else if i = 1 then x1 else x1 ++ x2) ∧ Kd.R k27 27 w' w.heap.size (fun _ => True) v6 l ∧ Below w.heap.size w w')
      case atStart => exact ⟨0, [], rfl, by decide, rfl, rfl, hR, hb⟩
      case round =>
        clear hR hb
        obtain ⟨i, l, hi, hi2, rfl, hl2, hR, hb⟩ := hrel
        rcases (by omega : i = 0 ∨ i = 1 ∨ i = 2) with rfl | rfl | rfl
        · obtain rfl : gk = 2 + 1 := by omega
          obtain rfl : l = [] := hl2
          have h1' := (hb.cell (World.block_lt_of_cell? w _ h1)).trans h1
          go_wp2_with (first | ((with_reducible refine gate_builtin (b := .append) rfl ?_); at_builtin; refine Kd.R_append_rows k27 (w0 := w) w.heap.size rfl (.tmp 31) (.tmp 32) 24 27 (.agg #[(.int .i64 0), (.int .i64 0)]) 16 rfl Try.underlying24 info27 rfl (by decide) (by omega) _ [] x1 _ _ _ (fun _ => True) (fun _ => False) rfl rfl hR ?aR (fun _ _ h => h) (fun _ h => h.elim) (fun _ _ => trivial) hb (below_size hb) ?aL ?_; (case aR => exact Kd.C_below hr1 hb); (case aL => (try simp only [List.length_nil]); omega); intro v1 w5 ho hb2 _ _))
          go_roundg 2
          case measure => omega
          case rel => exact ⟨1, _, rfl, by decide, rfl, rfl, ho, hb2⟩
        · obtain rfl : gk = 1 + 1 := by omega
          obtain rfl : l = x1 := hl2
          have h2' := (hb.cell (World.block_lt_of_cell? w _ h2)).trans h2
          go_wp2_with (first | ((with_reducible refine gate_builtin (b := .append) rfl ?_); at_builtin; refine Kd.R_append_rows k27 (w0 := w) w.heap.size rfl (.tmp 31) (.tmp 32) 24 27 (.agg #[(.int .i64 0), (.int .i64 0)]) 16 rfl Try.underlying24 info27 rfl (by decide) (by omega) _ l x2 _ _ _ (fun _ => True) (fun _ => False) rfl rfl hR ?aR (fun _ _ h => h) (fun _ h => h.elim) (fun _ _ => trivial) hb (below_size hb) ?aL ?_; (case aR => exact Kd.C_below hr2 hb); (case aL => (try simp only [List.length_nil]); omega); intro v1 w5 ho hb2 _ _))
          go_roundg 1
          case measure => omega
          case rel => exact ⟨2, _, rfl, by decide, rfl, rfl, ho, hb2⟩
        · obtain rfl : gk = 0 + 1 := by omega
          obtain rfl : l = x1 ++ x2 := hl2
          go_wp2
          go_ret
          exact ⟨_, rfl, hR, hb⟩
def impl_RotateRing.f (l0 : List S27) (a1 : Int) : Option (List S27) := if 0 ≤ a1 ∧ a1 < (l0.length : Int) then (if l0.length ≤ 2199023255552 then some (l0.drop a1.toNat ++ l0.take a1.toNat) else none) else impl_Point_76.f l0
def impl_RotateRing.T1 : Bool × List (List Nat × List Nat) := (true, [([], []), ([], []), ([0, 1], [0, 1]), ([], []), ([], []), ([3, 4], [3, 4]), ([2, 5], [2, 5]), ([6], [6]), ([7, 7, 0, 1, 2, 3, 4, 5, 6, 7], [7])])
def impl_RotateRing.B1 : List Nat := [0, 0, 3, 0, 0, 24, 63, 127, 255]
theorem impl_RotateRing.bits1 : waitsOk impl_RotateRing.T1.2 impl_RotateRing.B1 = true := by kernel_rfl
theorem impl_RotateRing.tab1 : rtab .any (opsOf Try.f42 3) = impl_RotateRing.T1 := by kernel_rfl
set_option maxHeartbeats 8000000 in
set_option maxRecDepth 100000 in
theorem impl_RotateRing.calls (A0 : Option Addr) (c0 : Nat) (l0 : List (S27)) (a1 : Int) (r : List (S27)) (w : World) (hr0 : Kd.C k27 w A0 l0.length l0) (hc0 : l0.length ≤ c0) (h : impl_RotateRing.f l0 a1 = some r) :
    Calls Try.prog 42 #[.slice A0 l0.length c0, .int .i64 a1] w fun e w' => ∃ v0_ : Value, e = .returned (v0_) ∧ Kd.R k27 27 w' w.heap.size (fun _ => True) v0_ r ∧ Below w.heap.size w w' := by
  unfold impl_RotateRing.f at h
  by_cases h1 : 0 ≤ a1 ∧ a1 < (l0.length : Int)
  · rw [if_pos h1] at h
    by_cases h3 : l0.length ≤ 2199023255552
    · rw [if_pos h3] at h
      obtain rfl := Option.some.inj h
      have hu24 := Try.underlying24
      have hu65 := Try.underlying65
      obtain ⟨i0, hi, hzz⟩ := Option.map_eq_some_iff.1 info27
      simp only [Prod.mk.injEq] at hzz
      obtain ⟨hz0, hz1, hz2⟩ := hzz
      have hcut1 := cut_to (P := Try.prog) 24 27 .i64 hu24 hi A0 l0.length c0 a1 h1.1 (by omega) hc0
      have hcut2 := cut_from (P := Try.prog) 24 27 .i64 hu24 hi 2 hz1 A0 l0.length c0 a1 h1.1 (by omega)
      have HN := Aside0.mk (show a1.toNat ≤ l0.length by omega)
      have hC2 := Kd.C_drop hr0 HN.out hc0
      change Kd.C k27 w (if c0 = a1.toNat then A0 else A0.map (·.add (a1.toNat * 2))) _ _ at hC2
      generalize (if c0 = a1.toNat then A0 else A0.map (·.add (a1.toNat * 2))) = A1 at hcut2 hC2
      have HC2 := Aside0.mk hC2
      have d1 : decide (a1 < 0) = false := decide_eq_false (by omega)
      have d2 : decide (a1 ≥ (l0.length : Int)) = false := decide_eq_false (by omega)
      have d3 : decide ((l0.length : Int) ≤ a1) = false := decide_eq_false (by omega)
      clear h1 h hC2
      go_enter Try.func42, Try.ntmps42
      go_wp2
      refine start_ (n := 9) (S := fun w' => True) (ds := []) #[false, false, false, false, false, false, false, false, false] (by kernel_rfl) rfl rfl trivial (fun hHeld => ?_); refine with_tabW impl_RotateRing.tab1 impl_RotateRing.bits1 (fun HT_ HW_ => ?_)
      refine Hd.p_ HT_ 0 (some 15) #[true, false, false, false, false, false, false, false, false] ?_
      refine Hd.p_ HT_ 1 (some 16) #[true, true, false, false, false, false, false, false, false] ?_
      refine Hd.p_ HT_ 2 (some 17) #[true, true, true, false, false, false, false, false, false] ?_
      refine Hd.p_ HT_ 3 (some 18) #[true, true, true, true, false, false, false, false, false] ?_
      refine Hd.p_ HT_ 4 (some 19) #[true, true, true, true, true, false, false, false, false] ?_
      refine Hd.p_ HT_ 5 (some 20) #[true, true, true, true, true, true, false, false, false] ?_
      refine Hd.o_ HT_ 6 (some 21) #[true, true, true, true, true, true, true, false, false] (fun K hK => ?_)
      refine value_ (w1 := ?_) (v := ?_) (by rfl) rfl ?_ ?_
      rotate_left 2
      · go_simp
        constructor
        · rfl
        · rfl
      refine hK.out _ _ trivial (fun hHeld => ?_)
      clear hK K
      refine Hd.n_ (some 21) ?_
      refine Hd.o_ HT_ 7 (some 22) #[true, true, true, true, true, true, true, true, false] (fun K hK => ?_)
      refine goes_ Try.func90 (by kernel_rfl) rfl #[.slice (some ⟨w.heap.size, 0, none⟩) 2 2] (by rfl) rfl rfl Hd.m_ ?_
      have hx1 : (l0.take a1.toNat).length = a1.toNat := by have := HN.out; rw [List.length_take]; omega
      have hx2 : (l0.drop a1.toNat).length = l0.length - a1.toNat := List.length_drop
      refine (impl_RotateRing.concat ⟨w.heap.size, 0, none⟩ 2 A1 A0 _ _ (l0.drop a1.toNat) (l0.take a1.toNat) _ (by rw [hx2]; exact (blk_cell (blk_drew (blk_new w _)) 0).trans rfl) (by rw [hx1]; exact (blk_cell (blk_drew (blk_new w _)) 1).trans rfl) (Kd.C_below HC2.out (below_drew (below_alloc (Below.refl _ _) _))) (Kd.C_below (Kd.C_take hr0 HN.out) (below_drew (below_alloc (Below.refl _ _) _))) (by have := HN.out; rw [hx1, hx2]; omega)).mono ?_
      rintro e w2 ⟨v0, rfl, hR, hb⟩
      refine ⟨_, rfl, ?_⟩
      refine hK.out _ _ trivial (fun hHeld => ?_)
      clear hK K
      refine Hd.n_ (some 22) ?_
      refine Hd.p_ HT_ 8 (some 4) #[true, true, true, true, true, true, true, true, true] ?_
      refine done_ (done_of HT_.out (by kernel_rfl)) ?_
      have hb2 : Below w.heap.size w w2 := below_step (below_drew (below_alloc (Below.refl _ _) _)) hb
      try go_wp2
      go_ret
      exact ⟨_, rfl, Kd.R_lower hR (below_size (below_drew (below_alloc (Below.refl _ _) _))), hb2⟩
    · rw [if_neg h3] at h; cases h
  · rw [if_neg h1] at h
    have HL := Aside0.mk h
    have HR := Aside0.mk hr0
    have HC := Aside0.mk hc0
    by_cases h2 : a1 < 0
    · have d1 : decide (a1 < 0) = true := decide_eq_true h2
      clear h h1 h2 hr0 hc0
      go_enter Try.func42, Try.ntmps42
      go_wp2_with (first | (go_at_call 76; (with_reducible refine (impl_Point_76.calls A0 c0 l0 r _ (Kd.C_below HR.out (by repeat (first | exact Below.refl _ _ | apply below_drew | apply pw_below_drewN))) HC.out HL.out).mono ?_); rintro e w1 ⟨v0, rfl, hR, hb⟩))
      go_ret
      exact ⟨_, rfl, hR, hb⟩
    · have d1 : decide (a1 < 0) = false := decide_eq_false h2
      have d2 : decide (a1 ≥ (l0.length : Int)) = true := decide_eq_true (by omega)
      have d3 : decide ((l0.length : Int) ≤ a1) = true := decide_eq_true (by omega)
      clear h h1 h2 hr0 hc0
      go_enter Try.func42, Try.ntmps42
      go_wp2_with (first | (go_at_call 76; (with_reducible refine (impl_Point_76.calls A0 c0 l0 r _ (Kd.C_below HR.out (by repeat (first | exact Below.refl _ _ | apply below_drew | apply pw_below_drewN))) HC.out HL.out).mono ?_); rintro e w1 ⟨v0, rfl, hR, hb⟩))
      go_ret
      exact ⟨_, rfl, hR, hb⟩
def spec_DrawIsInside.f (k : Nat) (l0 : List Int) : Option ((List (S27)) × Int × Int) := (spec_l1New.f k l0).bind fun bt362 => ((spec_l7Any.f bt362.1 bt362.2.1 bt362.2.2).bind fun bt366 => ((spec_l4Any.f bt362.1 bt366.2.1 bt366.2.2).bind fun bt371 => (some (bt366.1, bt371.1, bt371.2.1))))
set_option maxHeartbeats 8000000 in
set_option maxRecDepth 100000 in
theorem spec_DrawIsInside.calls (k : Nat) (A0 : Option Addr) (c0 : Nat) (l0 : List Int) (r1 : List (S27)) (r2 : Int) (r3 : Int) (w : World) (hr0 : Kd.C (Kd.int .u8) w A0 l0.length l0) (hc0 : l0.length ≤ c0) (h : spec_DrawIsInside.f k l0 = some (r1, r2, r3)) :
  Calls Try.prog 43 #[.slice A0 l0.length c0] w fun e w' => ∃ v0_ : Value, e = .returned (.tuple #[v0_, .agg #[.int .i64 r2, .int .i64 r3]]) ∧ Kd.R k27 27 w' w.heap.size (fun _ => True) v0_ r1 ∧ Below w.heap.size w w' := by
 have hu27 := Try.underlying27
 have HR0 := Aside0.mk hr0
 have HC0 := Aside0.mk hc0
 clear hr0 hc0
 have HB := Aside0.mk (Below.refl w.heap.size w)
 have H : ((spec_l1New.f k l0).bind fun bt362 => ((spec_l7Any.f bt362.1 bt362.2.1 bt362.2.2).bind fun bt366 => ((spec_l4Any.f bt362.1 bt366.2.1 bt366.2.2).bind fun bt371 => (some (bt366.1, bt371.1, bt371.2.1))))) = some (r1, r2, r3) := h
 clear h
 replace H := Option.bind_eq_some_iff.mp H
 obtain ⟨⟨t362, t363, t364⟩, A20, H⟩ := H
 replace H : ((spec_l7Any.f t362 t363 t364).bind fun bt366 => ((spec_l4Any.f t362 bt366.2.1 bt366.2.2).bind fun bt371 => (some (bt366.1, bt371.1, bt371.2.1)))) = some (r1, r2, r3) := H
 have A2 := Aside0.mk A20
 clear A20
 replace H := Option.bind_eq_some_iff.mp H
 obtain ⟨⟨t366, t369, t370⟩, A30, H⟩ := H
 replace H : ((spec_l4Any.f t362 t369 t370).bind fun bt371 => (some (t366, bt371.1, bt371.2.1))) = some (r1, r2, r3) := H
 have A3 := Aside0.mk A30
 clear A30
 replace H := Option.bind_eq_some_iff.mp H
 obtain ⟨⟨t371, t372, t373, t374⟩, A40, H⟩ := H
 replace H : (some (t366, t371, t372)) = some (r1, r2, r3) := H
 have A4 := Aside0.mk A40
 clear A40
 simp only [Option.some.injEq, Prod.mk.injEq] at H
 obtain ⟨rfl, rfl, rfl⟩ := H
 go_enter Try.func43, Try.ntmps43
 go_wp2_with (first | ((with_reducible refine gate_dst (N := 3) rfl ?_); refine Hd.box_ 3 (#[.int .i64 0, .int .i64 0]) 27 ?_; intro gb361 hg w5 hbox hb; have BK361 := Aside0.mk (hbox); have GW361 := Aside0.mk ((Hd.g_ hg Hd.b_ : w.heap.size ≤ gb361)); have GE361 := Aside0.mk ((Hd.g_ hg Hd.b_ : w.heap.size ≤ gb361)); replace HB := Aside0.mk (below_step Hd.b_ hb); clear hb hbox hg) | ((with_reducible refine gate_callee (f := 66) rfl ?_); refine goesL_ (some 7) rfl rfl Try.func66 (by kernel_rfl) rfl #[.slice A0 l0.length c0] rfl Hd.m_ ?_; (with_reducible refine (spec_l1New.calls k _ _ l0 t362 t363 t364 w _ ?side1 ?side2 ?side3 A2.out).mono ?_); (case side1 => repeat (first | (with_reducible first | exact HB.out | apply below_alloc | apply pw_below_drewN | apply below_drew1 | refine below_set ?_ GE361.out) | exact HB.out)); (case side2 => exact HR0.out); (case side3 => exact HC0.out); rintro e w6 ⟨g365, rfl, hi, hb, hb2⟩; refine ⟨_, rfl, ?_⟩; replace HB := Aside0.mk (hb); have HI365 := Aside0.mk (hi); have NB365_361 := Aside0.mk (IsS109.ne_blk hi (blk_below (g := gb361) (o := .cells #[.int .i64 0, .int .i64 0] 27 (0, 0)) (Hd.k_ BK361) hb2) (by decide)); have NB361_365 := Aside0.mk (Ne.symm (IsS109.ne_blk hi (blk_below (g := gb361) (o := .cells #[.int .i64 0, .int .i64 0] 27 (0, 0)) (Hd.k_ BK361) hb2) (by decide))); replace BK361 := Aside0.mk (blk_below (g := gb361) (o := .cells #[.int .i64 0, .int .i64 0] 27 (0, 0)) (Hd.k_ BK361) hb2); (try clear hb); (try clear hb2); (try clear hk); (try clear hi)) | ((with_reducible refine gate_callee (f := 85) rfl ?_); refine goesL_ (some 9) rfl rfl Try.func85 (by kernel_rfl) rfl #[.pointer (some ⟨g365, 0, none⟩)] rfl Hd.m_ ?_; (with_reducible refine (spec_l7Any.calls g365 t362 t363 t364 t366 t369 t370 w _ ?side1 ?side2 A3.out).mono ?_); (case side1 => repeat (first | (with_reducible first | exact HI365.out | apply IsS109.alloc | apply IsS109.drewN | apply IsS109.drew | apply IsS109.set_1 | apply IsS109.set_2 | refine IsS109.far ?_ NB365_361.out _) | exact HI365.out)); (case side2 => repeat (first | (with_reducible first | exact HB.out | apply below_alloc | apply pw_below_drewN | apply below_drew1 | refine below_set ?_ (IsS109.ge HI365.out) | refine below_set ?_ GE361.out) | exact HB.out)); rintro e w7 ⟨v367, rfl, ho0, hi, hb, hk⟩; refine ⟨_, rfl, ?_⟩; have HO368 := Aside0.mk (Kd.R_lower (Kd.R_newB ho0 (g := gb361) (o := .cells #[.int .i64 0, .int .i64 0] 27 (0, 0)) (Hd.k_ BK361)) (below_size (by repeat (first | (with_reducible first | exact HB.out | apply below_alloc | apply pw_below_drewN | apply below_drew1 | refine below_set ?_ (IsS109.ge HI365.out) | refine below_set ?_ GE361.out) | exact HB.out)))); replace BK361 := Aside0.mk (KeepBut.blk hk (g' := gb361) (o := .cells #[.int .i64 0, .int .i64 0] 27 (0, 0)) (Hd.k_ BK361) NB361_365.out (by simp)); replace HB := Aside0.mk (hb); replace HI365 := Aside0.mk (hi); (try clear hb); (try clear hb2); (try clear hk); (try clear hi); (try clear ho0)) | ((with_reducible refine gate_callee (f := 82) rfl ?_); refine goesL_ (some 12) rfl rfl Try.func82 (by kernel_rfl) rfl #[.pointer (some ⟨g365, 0, none⟩)] rfl Hd.m_ ?_; (with_reducible refine (spec_l4Any.calls g365 t362 t369 t370 t371 t372 t373 t374 w _ ?side1 ?side2 A4.out).mono ?_); (case side1 => repeat (first | (with_reducible first | exact HI365.out | apply IsS109.alloc | apply IsS109.drewN | apply IsS109.drew | apply IsS109.set_1 | apply IsS109.set_2 | refine IsS109.far ?_ NB365_361.out _) | exact HI365.out)); (case side2 => repeat (first | (with_reducible first | exact HB.out | apply below_alloc | apply pw_below_drewN | apply below_drew1 | refine below_set ?_ (IsS109.ge HI365.out) | refine below_set ?_ GE361.out) | exact HB.out)); rintro e w8 ⟨rfl, hi, hb, hk⟩; refine ⟨_, rfl, ?_⟩; replace BK361 := Aside0.mk (KeepBut.blk hk (g' := gb361) (o := .cells #[.int .i64 0, .int .i64 0] 27 (0, 0)) (Hd.k_ BK361) NB361_365.out (by simp)); replace HO368 := Aside0.mk (Kd.R_mono (Kd.R_keep (IsS109.apart (show IsS109 w _ g365 t362 t369 t370 from by repeat (first | (with_reducible first | exact HI365.out | apply IsS109.alloc | apply IsS109.drewN | apply IsS109.drew | apply IsS109.set_1 | apply IsS109.set_2 | refine IsS109.far ?_ NB365_361.out _) | exact HI365.out)) (Hd.r_ HO368) (by decide)) hk (fun _ h => h.2)) (fun _ h => h.1)); replace HB := Aside0.mk (hb); replace HI365 := Aside0.mk (hi); (try clear hb); (try clear hb2); (try clear hk); (try clear hi); have hnb9 := NB361_365.out; have hnc9 := NB365_361.out; obtain ⟨hcz10_0, hcz10_1⟩ := Hd.c2_ BK361.out; obtain ⟨hfz10_0, hfz10_1⟩ := Hd.f2_ BK361.out))
 refine bodyPost_ret (results_tc rfl _ _ gb361 27 #[.int .i64 t371, .int .i64 t372] (0, 0) _ rfl (by (with_reducible repeat (first | refine blk_drewN ?_ _ | refine blk_drew ?_ | refine blk_alloc ?_ _)); refine blk_put (cs := #[.int .i64 t371, .int .i64 0]) ?_ 1 _ rfl; (with_reducible repeat (first | refine blk_drewN ?_ _ | refine blk_drew ?_ | refine blk_alloc ?_ _)); refine blk_put (cs := #[.int .i64 0, .int .i64 0]) ?_ 0 _ rfl; (with_reducible repeat (first | refine blk_drewN ?_ _ | refine blk_drew ?_ | refine blk_alloc ?_ _)); exact BK361.out) Try.underlying27 rfl (by kernel_rfl)) rfl ?_
 exact ⟨_, Hd.e_, by (with_reducible repeat (first | apply Kd.R_alloc | apply Kd.R_drewN | apply Kd.R_drew)); exact Kd.R_mono (Kd.R_far (p := ⟨gb361, 1, none⟩) (Kd.R_far (p := ⟨gb361, 0, none⟩) (Kd.R_mono HO368.out (fun k_ hk => (⟨hk, hk.2⟩ : _ ∧ k_ ≠ gb361))) (fun _ hk => hk.2) (.int .i64 t371)) (fun _ hk => hk.2) (.int .i64 t372)) (fun _ hk => trivial), by repeat (first | (with_reducible first | exact HB.out | apply below_alloc | apply pw_below_drewN | apply below_drew1 | refine below_set ?_ (IsS109.ge HI365.out) | refine below_set ?_ GE361.out) | exact HB.out)⟩
def impl_IsInside.l0 : Nat → Bool → List (S53) → Int → Int → Int → Int → Option (Bool)
 | 0, _, _, _, _, _, _ => none
 | k + 1, x5, x13, x14, x15, x376000, x376001 => if x15 < x14 then (if 0 ≤ x15 then (if x15 < (x13.length : Int) then ((impl_IsOn.f k ((rd_T53 x13 x15).f0.f0) ((rd_T53 x13 x15).f0.f1) ((rd_T53 x13 x15).f1.f0) ((rd_T53 x13 x15).f1.f1) x376000 x376001).bind fun t382 => (if t382 = true then (some true) else (if ((decide (((rd_T53 x13 x15).f1.f1) > x376001)) != (decide (((rd_T53 x13 x15).f0.f1) > x376001))) = true then ((impl_SideOf.f k ((rd_T53 x13 x15).f0.f0) ((rd_T53 x13 x15).f0.f1) ((rd_T53 x13 x15).f1.f0) ((rd_T53 x13 x15).f1.f1) x376000 x376001).bind fun t383 => (if ((decide (t383 > 0)) == (decide (((rd_T53 x13 x15).f1.f1) > x376001))) = true then (impl_IsInside.l0 k (!x5) x13 x14 (wrap64 (x15 + 1)) x376000 x376001) else (impl_IsInside.l0 k x5 x13 x14 (wrap64 (x15 + 1)) x376000 x376001))) else (impl_IsInside.l0 k x5 x13 x14 (wrap64 (x15 + 1)) x376000 x376001)))) else (none)) else (none)) else (some x5)
def impl_IsInside.f (k : Nat) (l0 : List (S27)) (a1_0 : Int) (a1_1 : Int) : Option (Bool) := (impl_IsPoint.f a1_0 a1_1).bind fun t376 => (if t376 = true then ((impl_RingSegments.f k l0).bind fun t377 => (impl_IsInside.l0 k false t377 (t377.length : Int) 0 a1_0 a1_1)) else (some false))
set_option maxHeartbeats 8000000 in
set_option maxRecDepth 100000 in
theorem impl_IsInside.calls (k : Nat) (A0 : Option Addr) (c0 : Nat) (l0 : List (S27)) (a1_0 : Int) (a1_1 : Int) (r : Bool) (w : World) (hr0 : Kd.C k27 w A0 l0.length l0) (hc0 : l0.length ≤ c0) (h : impl_IsInside.f k l0 a1_0 a1_1 = some r) :
  Calls Try.prog 44 #[.slice A0 l0.length c0, .agg #[.int .i64 a1_0, .int .i64 a1_1]] w fun e w' => e = .returned (.bool r) ∧ Below w.heap.size w w' := by
 have hu27 := Try.underlying27
 have hu53 := Try.underlying53
 have HR0 := Aside0.mk hr0
 have HC0 := Aside0.mk hc0
 clear hr0 hc0
 have HB := Aside0.mk (Below.refl w.heap.size w)
 have H : ((impl_IsPoint.f a1_0 a1_1).bind fun t376 => (if t376 = true then ((impl_RingSegments.f k l0).bind fun t377 => (impl_IsInside.l0 k false t377 (t377.length : Int) 0 a1_0 a1_1)) else (some false))) = some r := h
 clear h
 replace H := Option.bind_eq_some_iff.mp H
 obtain ⟨t376, A30, H⟩ := H
 replace H : (if t376 = true then ((impl_RingSegments.f k l0).bind fun t377 => (impl_IsInside.l0 k false t377 (t377.length : Int) 0 a1_0 a1_1)) else (some false)) = some r := H
 have A3 := Aside0.mk A30
 clear A30
 by_cases c4 : t376 = true
 ·
  subst c4
  have H1 : ((impl_RingSegments.f k l0).bind fun t377 => (impl_IsInside.l0 k false t377 (t377.length : Int) 0 a1_0 a1_1)) = some r := by rw [if_pos rfl] at H; exact H
  clear H
  have H := H1
  clear H1
  replace H := Option.bind_eq_some_iff.mp H
  obtain ⟨t377, A50, H⟩ := H
  replace H : (impl_IsInside.l0 k false t377 (t377.length : Int) 0 a1_0 a1_1) = some r := H
  have A5 := Aside0.mk A50
  clear A50
  have H' := Aside0.mk H
  clear H
  go_enter Try.func44, Try.ntmps44
  go_wp2_with (first | ((with_reducible refine gate_dst (N := 3) rfl ?_); refine Hd.box_ 3 (#[.int .i64 a1_0, .int .i64 a1_1]) 27 ?_; intro gb375 hg w6 hbox hb; have BK375 := Aside0.mk (hbox); have GW375 := Aside0.mk ((Hd.g_ hg Hd.b_ : w.heap.size ≤ gb375)); have GE375 := Aside0.mk ((Hd.g_ hg Hd.b_ : w.heap.size ≤ gb375)); replace HB := Aside0.mk (below_step Hd.b_ hb); clear hb hbox hg; obtain ⟨hcz7_0, hcz7_1⟩ := Hd.c2_ BK375.out; obtain ⟨hfz7_0, hfz7_1⟩ := Hd.f2_ BK375.out) | ((with_reducible refine gate_callee (f := 45) rfl ?_); refine goesL_ (some 10) rfl rfl Try.func45 (by kernel_rfl) rfl #[.agg #[.int .i64 a1_0, .int .i64 a1_1]] rfl Hd.m_ ?_; (with_reducible refine (impl_IsPoint.calls a1_0 a1_1 true _ A3.out).mono ?_); rintro e w8 ⟨rfl, hb⟩; refine ⟨_, rfl, ?_⟩; replace BK375 := Aside0.mk (Hd.kb_ BK375 hb); replace HB := Aside0.mk (below_step Hd.b_ hb); (try clear hb); (try clear hb2); (try clear hk); (try clear hi)) | ((with_reducible refine gate_callee (f := 46) rfl ?_); refine goesL_ (some 13) rfl rfl Try.func46 (by kernel_rfl) rfl #[.slice A0 l0.length c0] rfl Hd.m_ ?_; (with_reducible refine (impl_RingSegments.calls k _ _ l0 t377 _ ?side1 ?side2 A5.out).mono ?_); (case side1 => repeat (first | exact (Kd.C_below HR0.out HB.out) | (with_reducible refine Kd.C_alloc ?_ _) | (with_reducible refine Kd.C_drewN ?_ _) | (with_reducible refine Kd.C_drew ?_))); (case side2 => exact HC0.out); rintro e w9 ⟨v378, rfl, ho0, hb⟩; refine ⟨_, rfl, ?_⟩; have HO379 := Aside0.mk (Kd.R_lower ho0 (below_size Hd.b_)); replace BK375 := Aside0.mk (Hd.kb_ BK375 hb); replace HB := Aside0.mk (below_step Hd.b_ hb); (try clear hb); (try clear hb2); (try clear hk); (try clear hi); (try clear ho0); obtain ⟨Ao10, co10, eo10⟩ := Kd.R_slice HO379.out; subst eo10))
  go_loopg [5, 15] k (fun kq v5 v15 w' => ∃ (x5_1 : Bool) (x15_1 : Int), v5 = .bool x5_1 ∧ v15 = .int .i64 x15_1 ∧ Aside0 (impl_IsInside.l0 kq x5_1 t377 (t377.length : Int) x15_1 a1_0 a1_1 = some r) ∧ Aside0 (kq ≤ k) ∧ Aside0 (Kd.R k53 53 w' w.heap.size (fun _ => True) (.slice Ao10 t377.length co10) t377) ∧ Aside0 (w'.heap[gb375]? = some (.cells #[.int .i64 a1_0, .int .i64 a1_1] 27 (0, 0))) ∧ Aside0 (Below w.heap.size w w'))
  case atStart => exact ⟨(false), (0), (by first | rfl | (simp; done) | (simp [*]; done)), (by first | rfl | (simp; done) | (simp [*]; done)), H', ⟨Nat.le_refl _⟩, ⟨by (with_reducible repeat (first | apply Kd.R_alloc | apply Kd.R_drewN | apply Kd.R_drew)); exact HO379.out⟩, ⟨by (with_reducible repeat (first | refine blk_drewN ?_ _ | refine blk_drew ?_ | refine blk_alloc ?_ _)); exact BK375.out⟩, ⟨Hd.b_⟩⟩
  case round =>
   clear H'
   try clear p2
   try clear c4
   try clear hcz7_0
   try clear hcz7_1
   try clear hfz7_0
   try clear hfz7_1
   obtain ⟨x5_1, x15_1, rfl, rfl, HA, HK1, HO_13, BK375, HB⟩ := hrel
   cases gk with
   | zero => exact absurd HA.out (by simp [impl_IsInside.l0])
   | succ k1 =>
    have H := HA.out
    clear HA
    simp only [impl_IsInside.l0] at H
    by_cases c11 : x15_1 < (t377.length : Int)
    ·
     rw [if_pos c11] at H
     have c11b0 : decide (x15_1 < (t377.length : Int)) = true := decide_eq_true c11
     clear c11
     by_cases c12 : 0 ≤ x15_1
     ·
      rw [if_pos c12] at H
      have c12b0 : decide (0 ≤ x15_1) = true := decide_eq_true c12
      clear c12
      by_cases c13 : x15_1 < (t377.length : Int)
      ·
       rw [if_pos c13] at H
       have c13b0 : decide (x15_1 < (t377.length : Int)) = true := decide_eq_true c13
       clear c13
       replace H := Option.bind_eq_some_iff.mp H
       obtain ⟨t382, A140, H⟩ := H
       replace H : (if t382 = true then (some true) else (if ((decide (((rd_T53 t377 x15_1).f1.f1) > a1_1)) != (decide (((rd_T53 t377 x15_1).f0.f1) > a1_1))) = true then ((impl_SideOf.f k1 ((rd_T53 t377 x15_1).f0.f0) ((rd_T53 t377 x15_1).f0.f1) ((rd_T53 t377 x15_1).f1.f0) ((rd_T53 t377 x15_1).f1.f1) a1_0 a1_1).bind fun t383 => (if ((decide (t383 > 0)) == (decide (((rd_T53 t377 x15_1).f1.f1) > a1_1))) = true then (impl_IsInside.l0 k1 (!x5_1) t377 (t377.length : Int) (wrap64 (x15_1 + 1)) a1_0 a1_1) else (impl_IsInside.l0 k1 x5_1 t377 (t377.length : Int) (wrap64 (x15_1 + 1)) a1_0 a1_1))) else (impl_IsInside.l0 k1 x5_1 t377 (t377.length : Int) (wrap64 (x15_1 + 1)) a1_0 a1_1))) = some r := H
       have A14 := Aside0.mk A140
       clear A140
       by_cases c15 : t382 = true
       ·
        subst c15
        have H1 : (some true) = some r := by rw [if_pos rfl] at H; exact H
        clear H
        have H := H1
        clear H1
        obtain rfl := Option.some.inj H
        have p380 : 0 ≤ (x15_1 : Int) := of_decide_eq_true Hd.a_
        have q380 : x15_1 < (t377.length : Int) := of_decide_eq_true Hd.a_
        obtain ⟨ad380, e380, hx380_0, hx380_1, hx380_2, hx380_3⟩ := at_T53 (Kd.R_reads' HO_13.out).2.2 x15_1 p380 q380
        cases e380
        replace p380 := eq_true p380
        replace q380 := eq_true q380
        go_wp2_with (first | ((with_reducible refine gate_dst (N := 7) rfl ?_); refine Hd.box_ 7 (#[.int .i64 0, .int .i64 0, .int .i64 0, .int .i64 0]) 53 ?_; intro gb381 hg w16 hbox hb; replace HO_13 := Aside0.mk (Kd.R_below (Kd.R_elderB (Hd.r_ HO_13) gb381 (Nat.le_of_eq hg.symm)) hb); have BK381 := Aside0.mk (hbox); have GW381 := Aside0.mk ((Hd.g_ hg Hd.b_ : w.heap.size ≤ gb381)); have GE381 := Aside0.mk ((Hd.g_ hg Hd.b_ : w.heap.size ≤ gb381)); replace HB := Aside0.mk (below_step Hd.b_ hb); have NB375_381 := Aside0.mk ((Hd.lt_ BK375 hg)); have NB381_375 := Aside0.mk ((Hd.gt_ BK375 hg)); replace BK375 := Aside0.mk (Hd.kb_ BK375 hb); clear hb hbox hg; have hnb17 := NB381_375.out; have hnc17 := NB375_381.out; obtain ⟨hcz18_0, hcz18_1, hcz18_2, hcz18_3⟩ := Hd.c4_ BK381.out; obtain ⟨hfz18_0, hfz18_1, hfz18_2, hfz18_3⟩ := Hd.f4_ BK381.out; obtain ⟨hcz19_0, hcz19_1⟩ := Hd.c2_ BK375.out; obtain ⟨hfz19_0, hfz19_1⟩ := Hd.f2_ BK375.out) | ((with_reducible refine gate_callee (f := 91) rfl ?_); refine goesL_ (some 21) rfl rfl Try.func91 (by kernel_rfl) rfl #[.agg #[.int .i64 ((rd_T53 t377 x15_1).f0.f0), .int .i64 ((rd_T53 t377 x15_1).f0.f1), .int .i64 ((rd_T53 t377 x15_1).f1.f0), .int .i64 ((rd_T53 t377 x15_1).f1.f1)], .agg #[.int .i64 a1_0, .int .i64 a1_1]] rfl Hd.m_ ?_; (with_reducible refine (impl_IsOn.calls k1 ((rd_T53 t377 x15_1).f0.f0) ((rd_T53 t377 x15_1).f0.f1) ((rd_T53 t377 x15_1).f1.f0) ((rd_T53 t377 x15_1).f1.f1) a1_0 a1_1 true _ A14.out).mono ?_); rintro e w20 ⟨rfl, hb⟩; refine ⟨_, rfl, ?_⟩; replace HO_13 := Aside0.mk (Kd.R_below (by (with_reducible repeat (first | apply Kd.R_alloc | apply Kd.R_drewN | apply Kd.R_drew)); exact (Kd.R_mono (Kd.R_far (p := ⟨gb381, 3, none⟩) (Kd.R_far (p := ⟨gb381, 2, none⟩) (Kd.R_far (p := ⟨gb381, 1, none⟩) (Kd.R_far (p := ⟨gb381, 0, none⟩) (Kd.R_mono HO_13.out (fun k_ hk => (⟨hk, hk.2⟩ : _ ∧ k_ ≠ gb381))) (fun _ hk => hk.2) (.int .i64 ((rd_T53 t377 x15_1).f0.f0))) (fun _ hk => hk.2) (.int .i64 ((rd_T53 t377 x15_1).f0.f1))) (fun _ hk => hk.2) (.int .i64 ((rd_T53 t377 x15_1).f1.f0))) (fun _ hk => hk.2) (.int .i64 ((rd_T53 t377 x15_1).f1.f1))) (fun _ h_ => h_.1))) hb); replace BK375 := Aside0.mk (blk_below (g := gb375) (o := .cells #[.int .i64 a1_0, .int .i64 a1_1] 27 (0, 0)) (by (with_reducible repeat (first | refine blk_drewN ?_ _ | refine blk_drew ?_ | refine blk_alloc ?_ _)); refine blk_far ?_ NB375_381.out _; (with_reducible repeat (first | refine blk_drewN ?_ _ | refine blk_drew ?_ | refine blk_alloc ?_ _)); refine blk_far ?_ NB375_381.out _; (with_reducible repeat (first | refine blk_drewN ?_ _ | refine blk_drew ?_ | refine blk_alloc ?_ _)); refine blk_far ?_ NB375_381.out _; (with_reducible repeat (first | refine blk_drewN ?_ _ | refine blk_drew ?_ | refine blk_alloc ?_ _)); refine blk_far ?_ NB375_381.out _; (with_reducible repeat (first | refine blk_drewN ?_ _ | refine blk_drew ?_ | refine blk_alloc ?_ _)); exact BK375.out) hb); replace BK381 := Aside0.mk (blk_below (g := gb381) (o := .cells #[.int .i64 ((rd_T53 t377 x15_1).f0.f0), .int .i64 ((rd_T53 t377 x15_1).f0.f1), .int .i64 ((rd_T53 t377 x15_1).f1.f0), .int .i64 ((rd_T53 t377 x15_1).f1.f1)] 53 (0, 0)) (by (with_reducible repeat (first | refine blk_drewN ?_ _ | refine blk_drew ?_ | refine blk_alloc ?_ _)); refine blk_put (cs := #[.int .i64 ((rd_T53 t377 x15_1).f0.f0), .int .i64 ((rd_T53 t377 x15_1).f0.f1), .int .i64 ((rd_T53 t377 x15_1).f1.f0), .int .i64 0]) ?_ 3 _ rfl; (with_reducible repeat (first | refine blk_drewN ?_ _ | refine blk_drew ?_ | refine blk_alloc ?_ _)); refine blk_put (cs := #[.int .i64 ((rd_T53 t377 x15_1).f0.f0), .int .i64 ((rd_T53 t377 x15_1).f0.f1), .int .i64 0, .int .i64 0]) ?_ 2 _ rfl; (with_reducible repeat (first | refine blk_drewN ?_ _ | refine blk_drew ?_ | refine blk_alloc ?_ _)); refine blk_put (cs := #[.int .i64 ((rd_T53 t377 x15_1).f0.f0), .int .i64 0, .int .i64 0, .int .i64 0]) ?_ 1 _ rfl; (with_reducible repeat (first | refine blk_drewN ?_ _ | refine blk_drew ?_ | refine blk_alloc ?_ _)); refine blk_put (cs := #[.int .i64 0, .int .i64 0, .int .i64 0, .int .i64 0]) ?_ 0 _ rfl; (with_reducible repeat (first | refine blk_drewN ?_ _ | refine blk_drew ?_ | refine blk_alloc ?_ _)); exact BK381.out) hb); replace HB := Aside0.mk (below_step Hd.b_ hb); (try clear hb); (try clear hb2); (try clear hk); (try clear hi)))
        go_ret
        exact ⟨Hd.e_, Hd.b_⟩
       ·
        replace c15 := Bool.eq_false_iff.mpr c15
        subst c15
        have H1 : (if ((decide (((rd_T53 t377 x15_1).f1.f1) > a1_1)) != (decide (((rd_T53 t377 x15_1).f0.f1) > a1_1))) = true then ((impl_SideOf.f k1 ((rd_T53 t377 x15_1).f0.f0) ((rd_T53 t377 x15_1).f0.f1) ((rd_T53 t377 x15_1).f1.f0) ((rd_T53 t377 x15_1).f1.f1) a1_0 a1_1).bind fun t383 => (if ((decide (t383 > 0)) == (decide (((rd_T53 t377 x15_1).f1.f1) > a1_1))) = true then (impl_IsInside.l0 k1 (!x5_1) t377 (t377.length : Int) (wrap64 (x15_1 + 1)) a1_0 a1_1) else (impl_IsInside.l0 k1 x5_1 t377 (t377.length : Int) (wrap64 (x15_1 + 1)) a1_0 a1_1))) else (impl_IsInside.l0 k1 x5_1 t377 (t377.length : Int) (wrap64 (x15_1 + 1)) a1_0 a1_1)) = some r := by rw [if_neg (show ¬ (false = true) by decide)] at H; exact H
        clear H
        have H := H1
        clear H1
        by_cases c21 : ((decide (((rd_T53 t377 x15_1).f1.f1) > a1_1)) != (decide (((rd_T53 t377 x15_1).f0.f1) > a1_1))) = true
        ·
         rw [if_pos c21] at H
         have c21b0 : ((decide (((rd_T53 t377 x15_1).f1.f1) > a1_1)) != (decide (((rd_T53 t377 x15_1).f0.f1) > a1_1))) = true := c21
         (try (have c21b1 : decide ((decide (((rd_T53 t377 x15_1).f1.f1) > a1_1)) = (decide (((rd_T53 t377 x15_1).f0.f1) > a1_1))) = false := by simpa using c21))
         (try (have c21b2 : ((decide (((rd_T53 t377 x15_1).f1.f1) > a1_1)) == (decide (((rd_T53 t377 x15_1).f0.f1) > a1_1))) = false := by simpa using c21))
         (try (have c21b3 : ¬ ((decide (((rd_T53 t377 x15_1).f1.f1) > a1_1)) = (decide (((rd_T53 t377 x15_1).f0.f1) > a1_1))) := by simpa using c21))
         clear c21
         replace H := Option.bind_eq_some_iff.mp H
         obtain ⟨t383, A220, H⟩ := H
         replace H : (if ((decide (t383 > 0)) == (decide (((rd_T53 t377 x15_1).f1.f1) > a1_1))) = true then (impl_IsInside.l0 k1 (!x5_1) t377 (t377.length : Int) (wrap64 (x15_1 + 1)) a1_0 a1_1) else (impl_IsInside.l0 k1 x5_1 t377 (t377.length : Int) (wrap64 (x15_1 + 1)) a1_0 a1_1)) = some r := H
         have A22 := Aside0.mk A220
         clear A220
         by_cases c23 : ((decide (t383 > 0)) == (decide (((rd_T53 t377 x15_1).f1.f1) > a1_1))) = true
         ·
          rw [if_pos c23] at H
          have c23b0 : ((decide (t383 > 0)) == (decide (((rd_T53 t377 x15_1).f1.f1) > a1_1))) = true := c23
          (try (have c23b1 : decide ((decide (t383 > 0)) = (decide (((rd_T53 t377 x15_1).f1.f1) > a1_1))) = true := by simpa using c23))
          (try (have c23b2 : ((decide (t383 > 0)) == (decide (((rd_T53 t377 x15_1).f1.f1) > a1_1))) = true := by simpa using c23))
          clear c23
          have H' := Aside0.mk H
          clear H
          have p380 : 0 ≤ (x15_1 : Int) := of_decide_eq_true Hd.a_
          have q380 : x15_1 < (t377.length : Int) := of_decide_eq_true Hd.a_
          obtain ⟨ad380, e380, hx380_0, hx380_1, hx380_2, hx380_3⟩ := at_T53 (Kd.R_reads' HO_13.out).2.2 x15_1 p380 q380
          cases e380
          replace p380 := eq_true p380
          replace q380 := eq_true q380
          go_wp2_with (first | ((with_reducible refine gate_dst (N := 7) rfl ?_); refine Hd.box_ 7 (#[.int .i64 0, .int .i64 0, .int .i64 0, .int .i64 0]) 53 ?_; intro gb381 hg w24 hbox hb; replace HO_13 := Aside0.mk (Kd.R_below (Kd.R_elderB (Hd.r_ HO_13) gb381 (Nat.le_of_eq hg.symm)) hb); have BK381 := Aside0.mk (hbox); have GW381 := Aside0.mk ((Hd.g_ hg Hd.b_ : w.heap.size ≤ gb381)); have GE381 := Aside0.mk ((Hd.g_ hg Hd.b_ : w.heap.size ≤ gb381)); replace HB := Aside0.mk (below_step Hd.b_ hb); have NB375_381 := Aside0.mk ((Hd.lt_ BK375 hg)); have NB381_375 := Aside0.mk ((Hd.gt_ BK375 hg)); replace BK375 := Aside0.mk (Hd.kb_ BK375 hb); clear hb hbox hg; have hnb25 := NB381_375.out; have hnc25 := NB375_381.out; obtain ⟨hcz26_0, hcz26_1, hcz26_2, hcz26_3⟩ := Hd.c4_ BK381.out; obtain ⟨hfz26_0, hfz26_1, hfz26_2, hfz26_3⟩ := Hd.f4_ BK381.out; obtain ⟨hcz27_0, hcz27_1⟩ := Hd.c2_ BK375.out; obtain ⟨hfz27_0, hfz27_1⟩ := Hd.f2_ BK375.out) | ((with_reducible refine gate_callee (f := 91) rfl ?_); refine goesL_ (some 21) rfl rfl Try.func91 (by kernel_rfl) rfl #[.agg #[.int .i64 ((rd_T53 t377 x15_1).f0.f0), .int .i64 ((rd_T53 t377 x15_1).f0.f1), .int .i64 ((rd_T53 t377 x15_1).f1.f0), .int .i64 ((rd_T53 t377 x15_1).f1.f1)], .agg #[.int .i64 a1_0, .int .i64 a1_1]] rfl Hd.m_ ?_; (with_reducible refine (impl_IsOn.calls k1 ((rd_T53 t377 x15_1).f0.f0) ((rd_T53 t377 x15_1).f0.f1) ((rd_T53 t377 x15_1).f1.f0) ((rd_T53 t377 x15_1).f1.f1) a1_0 a1_1 false _ A14.out).mono ?_); rintro e w28 ⟨rfl, hb⟩; refine ⟨_, rfl, ?_⟩; replace HO_13 := Aside0.mk (Kd.R_below (by (with_reducible repeat (first | apply Kd.R_alloc | apply Kd.R_drewN | apply Kd.R_drew)); exact (Kd.R_mono (Kd.R_far (p := ⟨gb381, 3, none⟩) (Kd.R_far (p := ⟨gb381, 2, none⟩) (Kd.R_far (p := ⟨gb381, 1, none⟩) (Kd.R_far (p := ⟨gb381, 0, none⟩) (Kd.R_mono HO_13.out (fun k_ hk => (⟨hk, hk.2⟩ : _ ∧ k_ ≠ gb381))) (fun _ hk => hk.2) (.int .i64 ((rd_T53 t377 x15_1).f0.f0))) (fun _ hk => hk.2) (.int .i64 ((rd_T53 t377 x15_1).f0.f1))) (fun _ hk => hk.2) (.int .i64 ((rd_T53 t377 x15_1).f1.f0))) (fun _ hk => hk.2) (.int .i64 ((rd_T53 t377 x15_1).f1.f1))) (fun _ h_ => h_.1))) hb); replace BK375 := Aside0.mk (blk_below (g := gb375) (o := .cells #[.int .i64 a1_0, .int .i64 a1_1] 27 (0, 0)) (by (with_reducible repeat (first | refine blk_drewN ?_ _ | refine blk_drew ?_ | refine blk_alloc ?_ _)); refine blk_far ?_ NB375_381.out _; (with_reducible repeat (first | refine blk_drewN ?_ _ | refine blk_drew ?_ | refine blk_alloc ?_ _)); refine blk_far ?_ NB375_381.out _; (with_reducible repeat (first | refine blk_drewN ?_ _ | refine blk_drew ?_ | refine blk_alloc ?_ _)); refine blk_far ?_ NB375_381.out _; (with_reducible repeat (first | refine blk_drewN ?_ _ | refine blk_drew ?_ | refine blk_alloc ?_ _)); refine blk_far ?_ NB375_381.out _; (with_reducible repeat (first | refine blk_drewN ?_ _ | refine blk_drew ?_ | refine blk_alloc ?_ _)); exact BK375.out) hb); replace BK381 := Aside0.mk (blk_below (g := gb381) (o := .cells #[.int .i64 ((rd_T53 t377 x15_1).f0.f0), .int .i64 ((rd_T53 t377 x15_1).f0.f1), .int .i64 ((rd_T53 t377 x15_1).f1.f0), .int .i64 ((rd_T53 t377 x15_1).f1.f1)] 53 (0, 0)) (by (with_reducible repeat (first | refine blk_drewN ?_ _ | refine blk_drew ?_ | refine blk_alloc ?_ _)); refine blk_put (cs := #[.int .i64 ((rd_T53 t377 x15_1).f0.f0), .int .i64 ((rd_T53 t377 x15_1).f0.f1), .int .i64 ((rd_T53 t377 x15_1).f1.f0), .int .i64 0]) ?_ 3 _ rfl; (with_reducible repeat (first | refine blk_drewN ?_ _ | refine blk_drew ?_ | refine blk_alloc ?_ _)); refine blk_put (cs := #[.int .i64 ((rd_T53 t377 x15_1).f0.f0), .int .i64 ((rd_T53 t377 x15_1).f0.f1), .int .i64 0, .int .i64 0]) ?_ 2 _ rfl; (with_reducible repeat (first | refine blk_drewN ?_ _ | refine blk_drew ?_ | refine blk_alloc ?_ _)); refine blk_put (cs := #[.int .i64 ((rd_T53 t377 x15_1).f0.f0), .int .i64 0, .int .i64 0, .int .i64 0]) ?_ 1 _ rfl; (with_reducible repeat (first | refine blk_drewN ?_ _ | refine blk_drew ?_ | refine blk_alloc ?_ _)); refine blk_put (cs := #[.int .i64 0, .int .i64 0, .int .i64 0, .int .i64 0]) ?_ 0 _ rfl; (with_reducible repeat (first | refine blk_drewN ?_ _ | refine blk_drew ?_ | refine blk_alloc ?_ _)); exact BK381.out) hb); replace HB := Aside0.mk (below_step Hd.b_ hb); (try clear hb); (try clear hb2); (try clear hk); (try clear hi); obtain ⟨hcz29_0, hcz29_1, hcz29_2, hcz29_3⟩ := Hd.c4_ BK381.out; obtain ⟨hfz29_0, hfz29_1, hfz29_2, hfz29_3⟩ := Hd.f4_ BK381.out; obtain ⟨hcz30_0, hcz30_1⟩ := Hd.c2_ BK375.out; obtain ⟨hfz30_0, hfz30_1⟩ := Hd.f2_ BK375.out) | (go_at_call 92; (with_reducible refine (impl_SideOf.calls k1 ((rd_T53 t377 x15_1).f0.f0) ((rd_T53 t377 x15_1).f0.f1) ((rd_T53 t377 x15_1).f1.f0) ((rd_T53 t377 x15_1).f1.f1) a1_0 a1_1 t383 _ A22.out).mono ?_); rintro e w31 ⟨rfl, hb⟩; replace HO_13 := Aside0.mk (Kd.R_below (Hd.r_ HO_13) hb); replace BK375 := Aside0.mk (Hd.kb_ BK375 hb); replace BK381 := Aside0.mk (Hd.kb_ BK381 hb); replace HB := Aside0.mk (below_step Hd.b_ hb); (try clear hb); (try clear hb2); (try clear hk); (try clear hi)))
          go_roundg k1
          case measure => have := HK1.out; omega
          case rel => exact ⟨(!x5_1), (wrap64 (x15_1 + 1)), (by first | rfl | (simp; done) | (simp [*]; done)), (by first | rfl | (simp; done) | (simp [*]; done)), H', ⟨by have := HK1.out; omega⟩, ⟨by (with_reducible repeat (first | apply Kd.R_alloc | apply Kd.R_drewN | apply Kd.R_drew)); exact Kd.R_mono HO_13.out (fun _ hk => trivial)⟩, ⟨by (with_reducible repeat (first | refine blk_drewN ?_ _ | refine blk_drew ?_ | refine blk_alloc ?_ _)); exact BK375.out⟩, ⟨Hd.b_⟩⟩
         ·
          rw [if_neg c23] at H
          have c23b0 : ((decide (t383 > 0)) == (decide (((rd_T53 t377 x15_1).f1.f1) > a1_1))) = false := by simpa using c23
          (try (have c23b1 : decide ((decide (t383 > 0)) = (decide (((rd_T53 t377 x15_1).f1.f1) > a1_1))) = false := by simpa using c23))
          (try (have c23b2 : ((decide (t383 > 0)) == (decide (((rd_T53 t377 x15_1).f1.f1) > a1_1))) = false := by simpa using c23))
          (try (have c23b3 : ¬ ((decide (t383 > 0)) = (decide (((rd_T53 t377 x15_1).f1.f1) > a1_1))) := by simpa using c23))
          clear c23
          have H' := Aside0.mk H
          clear H
          have p380 : 0 ≤ (x15_1 : Int) := of_decide_eq_true Hd.a_
          have q380 : x15_1 < (t377.length : Int) := of_decide_eq_true Hd.a_
          obtain ⟨ad380, e380, hx380_0, hx380_1, hx380_2, hx380_3⟩ := at_T53 (Kd.R_reads' HO_13.out).2.2 x15_1 p380 q380
          cases e380
          replace p380 := eq_true p380
          replace q380 := eq_true q380
          go_wp2_with (first | ((with_reducible refine gate_dst (N := 7) rfl ?_); refine Hd.box_ 7 (#[.int .i64 0, .int .i64 0, .int .i64 0, .int .i64 0]) 53 ?_; intro gb381 hg w32 hbox hb; replace HO_13 := Aside0.mk (Kd.R_below (Kd.R_elderB (Hd.r_ HO_13) gb381 (Nat.le_of_eq hg.symm)) hb); have BK381 := Aside0.mk (hbox); have GW381 := Aside0.mk ((Hd.g_ hg Hd.b_ : w.heap.size ≤ gb381)); have GE381 := Aside0.mk ((Hd.g_ hg Hd.b_ : w.heap.size ≤ gb381)); replace HB := Aside0.mk (below_step Hd.b_ hb); have NB375_381 := Aside0.mk ((Hd.lt_ BK375 hg)); have NB381_375 := Aside0.mk ((Hd.gt_ BK375 hg)); replace BK375 := Aside0.mk (Hd.kb_ BK375 hb); clear hb hbox hg; have hnb33 := NB381_375.out; have hnc33 := NB375_381.out; obtain ⟨hcz34_0, hcz34_1, hcz34_2, hcz34_3⟩ := Hd.c4_ BK381.out; obtain ⟨hfz34_0, hfz34_1, hfz34_2, hfz34_3⟩ := Hd.f4_ BK381.out; obtain ⟨hcz35_0, hcz35_1⟩ := Hd.c2_ BK375.out; obtain ⟨hfz35_0, hfz35_1⟩ := Hd.f2_ BK375.out) | ((with_reducible refine gate_callee (f := 91) rfl ?_); refine goesL_ (some 21) rfl rfl Try.func91 (by kernel_rfl) rfl #[.agg #[.int .i64 ((rd_T53 t377 x15_1).f0.f0), .int .i64 ((rd_T53 t377 x15_1).f0.f1), .int .i64 ((rd_T53 t377 x15_1).f1.f0), .int .i64 ((rd_T53 t377 x15_1).f1.f1)], .agg #[.int .i64 a1_0, .int .i64 a1_1]] rfl Hd.m_ ?_; (with_reducible refine (impl_IsOn.calls k1 ((rd_T53 t377 x15_1).f0.f0) ((rd_T53 t377 x15_1).f0.f1) ((rd_T53 t377 x15_1).f1.f0) ((rd_T53 t377 x15_1).f1.f1) a1_0 a1_1 false _ A14.out).mono ?_); rintro e w36 ⟨rfl, hb⟩; refine ⟨_, rfl, ?_⟩; replace HO_13 := Aside0.mk (Kd.R_below (by (with_reducible repeat (first | apply Kd.R_alloc | apply Kd.R_drewN | apply Kd.R_drew)); exact (Kd.R_mono (Kd.R_far (p := ⟨gb381, 3, none⟩) (Kd.R_far (p := ⟨gb381, 2, none⟩) (Kd.R_far (p := ⟨gb381, 1, none⟩) (Kd.R_far (p := ⟨gb381, 0, none⟩) (Kd.R_mono HO_13.out (fun k_ hk => (⟨hk, hk.2⟩ : _ ∧ k_ ≠ gb381))) (fun _ hk => hk.2) (.int .i64 ((rd_T53 t377 x15_1).f0.f0))) (fun _ hk => hk.2) (.int .i64 ((rd_T53 t377 x15_1).f0.f1))) (fun _ hk => hk.2) (.int .i64 ((rd_T53 t377 x15_1).f1.f0))) (fun _ hk => hk.2) (.int .i64 ((rd_T53 t377 x15_1).f1.f1))) (fun _ h_ => h_.1))) hb); replace BK375 := Aside0.mk (blk_below (g := gb375) (o := .cells #[.int .i64 a1_0, .int .i64 a1_1] 27 (0, 0)) (by (with_reducible repeat (first | refine blk_drewN ?_ _ | refine blk_drew ?_ | refine blk_alloc ?_ _)); refine blk_far ?_ NB375_381.out _; (with_reducible repeat (first | refine blk_drewN ?_ _ | refine blk_drew ?_ | refine blk_alloc ?_ _)); refine blk_far ?_ NB375_381.out _; (with_reducible repeat (first | refine blk_drewN ?_ _ | refine blk_drew ?_ | refine blk_alloc ?_ _)); refine blk_far ?_ NB375_381.out _; (with_reducible repeat (first | refine blk_drewN ?_ _ | refine blk_drew ?_ | refine blk_alloc ?_ _)); refine blk_far ?_ NB375_381.out _; (with_reducible repeat (first | refine blk_drewN ?_ _ | refine blk_drew ?_ | refine blk_alloc ?_ _)); exact BK375.out) hb); replace BK381 := Aside0.mk (blk_below (g := gb381) (o := .cells #[.int .i64 ((rd_T53 t377 x15_1).f0.f0), .int .i64 ((rd_T53 t377 x15_1).f0.f1), .int .i64 ((rd_T53 t377 x15_1).f1.f0), .int .i64 ((rd_T53 t377 x15_1).f1.f1)] 53 (0, 0)) (by (with_reducible repeat (first | refine blk_drewN ?_ _ | refine blk_drew ?_ | refine blk_alloc ?_ _)); refine blk_put (cs := #[.int .i64 ((rd_T53 t377 x15_1).f0.f0), .int .i64 ((rd_T53 t377 x15_1).f0.f1), .int .i64 ((rd_T53 t377 x15_1).f1.f0), .int .i64 0]) ?_ 3 _ rfl; (with_reducible repeat (first | refine blk_drewN ?_ _ | refine blk_drew ?_ | refine blk_alloc ?_ _)); refine blk_put (cs := #[.int .i64 ((rd_T53 t377 x15_1).f0.f0), .int .i64 ((rd_T53 t377 x15_1).f0.f1), .int .i64 0, .int .i64 0]) ?_ 2 _ rfl; (with_reducible repeat (first | refine blk_drewN ?_ _ | refine blk_drew ?_ | refine blk_alloc ?_ _)); refine blk_put (cs := #[.int .i64 ((rd_T53 t377 x15_1).f0.f0), .int .i64 0, .int .i64 0, .int .i64 0]) ?_ 1 _ rfl; (with_reducible repeat (first | refine blk_drewN ?_ _ | refine blk_drew ?_ | refine blk_alloc ?_ _)); refine blk_put (cs := #[.int .i64 0, .int .i64 0, .int .i64 0, .int .i64 0]) ?_ 0 _ rfl; (with_reducible repeat (first | refine blk_drewN ?_ _ | refine blk_drew ?_ | refine blk_alloc ?_ _)); exact BK381.out) hb); replace HB := Aside0.mk (below_step Hd.b_ hb); (try clear hb); (try clear hb2); (try clear hk); (try clear hi); obtain ⟨hcz37_0, hcz37_1, hcz37_2, hcz37_3⟩ := Hd.c4_ BK381.out; obtain ⟨hfz37_0, hfz37_1, hfz37_2, hfz37_3⟩ := Hd.f4_ BK381.out; obtain ⟨hcz38_0, hcz38_1⟩ := Hd.c2_ BK375.out; obtain ⟨hfz38_0, hfz38_1⟩ := Hd.f2_ BK375.out) | (go_at_call 92; (with_reducible refine (impl_SideOf.calls k1 ((rd_T53 t377 x15_1).f0.f0) ((rd_T53 t377 x15_1).f0.f1) ((rd_T53 t377 x15_1).f1.f0) ((rd_T53 t377 x15_1).f1.f1) a1_0 a1_1 t383 _ A22.out).mono ?_); rintro e w39 ⟨rfl, hb⟩; replace HO_13 := Aside0.mk (Kd.R_below (Hd.r_ HO_13) hb); replace BK375 := Aside0.mk (Hd.kb_ BK375 hb); replace BK381 := Aside0.mk (Hd.kb_ BK381 hb); replace HB := Aside0.mk (below_step Hd.b_ hb); (try clear hb); (try clear hb2); (try clear hk); (try clear hi)))
          go_roundg k1
          case measure => have := HK1.out; omega
          case rel => exact ⟨(x5_1), (wrap64 (x15_1 + 1)), (by first | rfl | (simp; done) | (simp [*]; done)), (by first | rfl | (simp; done) | (simp [*]; done)), H', ⟨by have := HK1.out; omega⟩, ⟨by (with_reducible repeat (first | apply Kd.R_alloc | apply Kd.R_drewN | apply Kd.R_drew)); exact Kd.R_mono HO_13.out (fun _ hk => trivial)⟩, ⟨by (with_reducible repeat (first | refine blk_drewN ?_ _ | refine blk_drew ?_ | refine blk_alloc ?_ _)); exact BK375.out⟩, ⟨Hd.b_⟩⟩
        ·
         rw [if_neg c21] at H
         have c21b0 : ((decide (((rd_T53 t377 x15_1).f1.f1) > a1_1)) != (decide (((rd_T53 t377 x15_1).f0.f1) > a1_1))) = false := by simpa using c21
         (try (have c21b1 : decide ((decide (((rd_T53 t377 x15_1).f1.f1) > a1_1)) = (decide (((rd_T53 t377 x15_1).f0.f1) > a1_1))) = true := by simpa using c21))
         (try (have c21b2 : ((decide (((rd_T53 t377 x15_1).f1.f1) > a1_1)) == (decide (((rd_T53 t377 x15_1).f0.f1) > a1_1))) = true := by simpa using c21))
         clear c21
         have H' := Aside0.mk H
         clear H
         have p380 : 0 ≤ (x15_1 : Int) := of_decide_eq_true Hd.a_
         have q380 : x15_1 < (t377.length : Int) := of_decide_eq_true Hd.a_
         obtain ⟨ad380, e380, hx380_0, hx380_1, hx380_2, hx380_3⟩ := at_T53 (Kd.R_reads' HO_13.out).2.2 x15_1 p380 q380
         cases e380
         replace p380 := eq_true p380
         replace q380 := eq_true q380
         go_wp2_with (first | ((with_reducible refine gate_dst (N := 7) rfl ?_); refine Hd.box_ 7 (#[.int .i64 0, .int .i64 0, .int .i64 0, .int .i64 0]) 53 ?_; intro gb381 hg w40 hbox hb; replace HO_13 := Aside0.mk (Kd.R_below (Kd.R_elderB (Hd.r_ HO_13) gb381 (Nat.le_of_eq hg.symm)) hb); have BK381 := Aside0.mk (hbox); have GW381 := Aside0.mk ((Hd.g_ hg Hd.b_ : w.heap.size ≤ gb381)); have GE381 := Aside0.mk ((Hd.g_ hg Hd.b_ : w.heap.size ≤ gb381)); replace HB := Aside0.mk (below_step Hd.b_ hb); have NB375_381 := Aside0.mk ((Hd.lt_ BK375 hg)); have NB381_375 := Aside0.mk ((Hd.gt_ BK375 hg)); replace BK375 := Aside0.mk (Hd.kb_ BK375 hb); clear hb hbox hg; have hnb41 := NB381_375.out; have hnc41 := NB375_381.out; obtain ⟨hcz42_0, hcz42_1, hcz42_2, hcz42_3⟩ := Hd.c4_ BK381.out; obtain ⟨hfz42_0, hfz42_1, hfz42_2, hfz42_3⟩ := Hd.f4_ BK381.out; obtain ⟨hcz43_0, hcz43_1⟩ := Hd.c2_ BK375.out; obtain ⟨hfz43_0, hfz43_1⟩ := Hd.f2_ BK375.out) | ((with_reducible refine gate_callee (f := 91) rfl ?_); refine goesL_ (some 21) rfl rfl Try.func91 (by kernel_rfl) rfl #[.agg #[.int .i64 ((rd_T53 t377 x15_1).f0.f0), .int .i64 ((rd_T53 t377 x15_1).f0.f1), .int .i64 ((rd_T53 t377 x15_1).f1.f0), .int .i64 ((rd_T53 t377 x15_1).f1.f1)], .agg #[.int .i64 a1_0, .int .i64 a1_1]] rfl Hd.m_ ?_; (with_reducible refine (impl_IsOn.calls k1 ((rd_T53 t377 x15_1).f0.f0) ((rd_T53 t377 x15_1).f0.f1) ((rd_T53 t377 x15_1).f1.f0) ((rd_T53 t377 x15_1).f1.f1) a1_0 a1_1 false _ A14.out).mono ?_); rintro e w44 ⟨rfl, hb⟩; refine ⟨_, rfl, ?_⟩; replace HO_13 := Aside0.mk (Kd.R_below (by (with_reducible repeat (first | apply Kd.R_alloc | apply Kd.R_drewN | apply Kd.R_drew)); exact (Kd.R_mono (Kd.R_far (p := ⟨gb381, 3, none⟩) (Kd.R_far (p := ⟨gb381, 2, none⟩) (Kd.R_far (p := ⟨gb381, 1, none⟩) (Kd.R_far (p := ⟨gb381, 0, none⟩) (Kd.R_mono HO_13.out (fun k_ hk => (⟨hk, hk.2⟩ : _ ∧ k_ ≠ gb381))) (fun _ hk => hk.2) (.int .i64 ((rd_T53 t377 x15_1).f0.f0))) (fun _ hk => hk.2) (.int .i64 ((rd_T53 t377 x15_1).f0.f1))) (fun _ hk => hk.2) (.int .i64 ((rd_T53 t377 x15_1).f1.f0))) (fun _ hk => hk.2) (.int .i64 ((rd_T53 t377 x15_1).f1.f1))) (fun _ h_ => h_.1))) hb); replace BK375 := Aside0.mk (blk_below (g := gb375) (o := .cells #[.int .i64 a1_0, .int .i64 a1_1] 27 (0, 0)) (by (with_reducible repeat (first | refine blk_drewN ?_ _ | refine blk_drew ?_ | refine blk_alloc ?_ _)); refine blk_far ?_ NB375_381.out _; (with_reducible repeat (first | refine blk_drewN ?_ _ | refine blk_drew ?_ | refine blk_alloc ?_ _)); refine blk_far ?_ NB375_381.out _; (with_reducible repeat (first | refine blk_drewN ?_ _ | refine blk_drew ?_ | refine blk_alloc ?_ _)); refine blk_far ?_ NB375_381.out _; (with_reducible repeat (first | refine blk_drewN ?_ _ | refine blk_drew ?_ | refine blk_alloc ?_ _)); refine blk_far ?_ NB375_381.out _; (with_reducible repeat (first | refine blk_drewN ?_ _ | refine blk_drew ?_ | refine blk_alloc ?_ _)); exact BK375.out) hb); replace BK381 := Aside0.mk (blk_below (g := gb381) (o := .cells #[.int .i64 ((rd_T53 t377 x15_1).f0.f0), .int .i64 ((rd_T53 t377 x15_1).f0.f1), .int .i64 ((rd_T53 t377 x15_1).f1.f0), .int .i64 ((rd_T53 t377 x15_1).f1.f1)] 53 (0, 0)) (by (with_reducible repeat (first | refine blk_drewN ?_ _ | refine blk_drew ?_ | refine blk_alloc ?_ _)); refine blk_put (cs := #[.int .i64 ((rd_T53 t377 x15_1).f0.f0), .int .i64 ((rd_T53 t377 x15_1).f0.f1), .int .i64 ((rd_T53 t377 x15_1).f1.f0), .int .i64 0]) ?_ 3 _ rfl; (with_reducible repeat (first | refine blk_drewN ?_ _ | refine blk_drew ?_ | refine blk_alloc ?_ _)); refine blk_put (cs := #[.int .i64 ((rd_T53 t377 x15_1).f0.f0), .int .i64 ((rd_T53 t377 x15_1).f0.f1), .int .i64 0, .int .i64 0]) ?_ 2 _ rfl; (with_reducible repeat (first | refine blk_drewN ?_ _ | refine blk_drew ?_ | refine blk_alloc ?_ _)); refine blk_put (cs := #[.int .i64 ((rd_T53 t377 x15_1).f0.f0), .int .i64 0, .int .i64 0, .int .i64 0]) ?_ 1 _ rfl; (with_reducible repeat (first | refine blk_drewN ?_ _ | refine blk_drew ?_ | refine blk_alloc ?_ _)); refine blk_put (cs := #[.int .i64 0, .int .i64 0, .int .i64 0, .int .i64 0]) ?_ 0 _ rfl; (with_reducible repeat (first | refine blk_drewN ?_ _ | refine blk_drew ?_ | refine blk_alloc ?_ _)); exact BK381.out) hb); replace HB := Aside0.mk (below_step Hd.b_ hb); (try clear hb); (try clear hb2); (try clear hk); (try clear hi); obtain ⟨hcz45_0, hcz45_1, hcz45_2, hcz45_3⟩ := Hd.c4_ BK381.out; obtain ⟨hfz45_0, hfz45_1, hfz45_2, hfz45_3⟩ := Hd.f4_ BK381.out; obtain ⟨hcz46_0, hcz46_1⟩ := Hd.c2_ BK375.out; obtain ⟨hfz46_0, hfz46_1⟩ := Hd.f2_ BK375.out))
         go_roundg k1
         case measure => have := HK1.out; omega
         case rel => exact ⟨(x5_1), (wrap64 (x15_1 + 1)), (by first | rfl | (simp; done) | (simp [*]; done)), (by first | rfl | (simp; done) | (simp [*]; done)), H', ⟨by have := HK1.out; omega⟩, ⟨by (with_reducible repeat (first | apply Kd.R_alloc | apply Kd.R_drewN | apply Kd.R_drew)); exact Kd.R_mono HO_13.out (fun _ hk => trivial)⟩, ⟨by (with_reducible repeat (first | refine blk_drewN ?_ _ | refine blk_drew ?_ | refine blk_alloc ?_ _)); exact BK375.out⟩, ⟨Hd.b_⟩⟩
      ·
       rw [if_neg c13] at H
       exact absurd H (by simp)
     ·
      rw [if_neg c12] at H
      exact absurd H (by simp)
    ·
     rw [if_neg c11] at H
     have c11b0 : decide (x15_1 < (t377.length : Int)) = false := decide_eq_false c11
     clear c11
     obtain rfl := Option.some.inj H
     go_wp2
     go_ret
     exact ⟨Hd.e_, Hd.b_⟩
 ·
  replace c4 := Bool.eq_false_iff.mpr c4
  subst c4
  have H1 : (some false) = some r := by rw [if_neg (show ¬ (false = true) by decide)] at H; exact H
  clear H
  have H := H1
  clear H1
  obtain rfl := Option.some.inj H
  go_enter Try.func44, Try.ntmps44
  go_wp2_with (first | ((with_reducible refine gate_dst (N := 3) rfl ?_); refine Hd.box_ 3 (#[.int .i64 a1_0, .int .i64 a1_1]) 27 ?_; intro gb375 hg w47 hbox hb; have BK375 := Aside0.mk (hbox); have GW375 := Aside0.mk ((Hd.g_ hg Hd.b_ : w.heap.size ≤ gb375)); have GE375 := Aside0.mk ((Hd.g_ hg Hd.b_ : w.heap.size ≤ gb375)); replace HB := Aside0.mk (below_step Hd.b_ hb); clear hb hbox hg; obtain ⟨hcz48_0, hcz48_1⟩ := Hd.c2_ BK375.out; obtain ⟨hfz48_0, hfz48_1⟩ := Hd.f2_ BK375.out) | ((with_reducible refine gate_callee (f := 45) rfl ?_); refine goesL_ (some 10) rfl rfl Try.func45 (by kernel_rfl) rfl #[.agg #[.int .i64 a1_0, .int .i64 a1_1]] rfl Hd.m_ ?_; (with_reducible refine (impl_IsPoint.calls a1_0 a1_1 false _ A3.out).mono ?_); rintro e w49 ⟨rfl, hb⟩; refine ⟨_, rfl, ?_⟩; replace BK375 := Aside0.mk (Hd.kb_ BK375 hb); replace HB := Aside0.mk (below_step Hd.b_ hb); (try clear hb); (try clear hb2); (try clear hk); (try clear hi)))
  go_ret
  exact ⟨Hd.e_, Hd.b_⟩
end Go.Proofs.Ytbackoeakepngaa.MFnRings
