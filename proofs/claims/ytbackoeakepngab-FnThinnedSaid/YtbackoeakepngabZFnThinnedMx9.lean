-- Laid by this session's program pp.py, after the kit's print and texts of the session's own. Not trusted: Lean checks it.
import Derived.Test.YtbackoeakepngabZFnThinnedMx0
import Derived.Test.YtbackoeakepngabZFnThinnedMx8
namespace Go.Proofs.Ytbackoeakepngab.MFnThinned
open Go.RowKit Go.Proofs.YtbackoeakepngabW.PrintWords Go.Proofs.YtbackoeakepngabW.PrintLast Go.Proofs.YtbackoeakepngabW.PrintMore
attribute [local go_sem] max2_int min2_int max_two min_two max_three min_three max_four min_four   -- for this text's walks alone
set_option linter.unusedVariables false
set_option linter.unusedSimpArgs false
def spec_l14Any.f (k : Nat) (s0_0 : List Int) (s0_1 : Int) (s0_2 : Int) : Option ((List (S77)) × Int × Int) := (spec_l14Draw.f k s0_0 s0_1 s0_2).bind fun bt370 => (if (bt370.1.length : Int) = 0 then (some (bt370.1, bt370.2.1, bt370.2.2)) else ((spec_l1Below.f s0_0 bt370.2.1 bt370.2.2 (bt370.1.length : Int)).bind fun bt375 => ((spec_l1Below.f s0_0 bt375.2.1 bt375.2.2 9).bind fun bt378 => (if bt378.1 = 0 then ((spec_l1Int.f s0_0 bt378.2.1 bt378.2.2 (([0, 2, 99, 100] : List Int))).bind fun bt384 => (if 0 ≤ bt375.1 then (if bt375.1 < (bt370.1.length : Int) then (some ((bt370.1.set (bt375.1 : Int).toNat (⟨bt384.1, (⟨(rd_T77 bt370.1 bt375.1).f1.f0, (rd_T77 bt370.1 bt375.1).f1.f1⟩ : S75), (rd_T77 bt370.1 bt375.1).f2⟩ : S77)), bt384.2.1, bt384.2.2)) else (none)) else (none))) else (if bt378.1 = 1 then ((spec_l4Any.f s0_0 bt378.2.1 bt378.2.2).bind fun bt388 => (if 0 ≤ bt375.1 then (if bt375.1 < (bt370.1.length : Int) then (some ((bt370.1.set (bt375.1 : Int).toNat (⟨(rd_T77 bt370.1 bt375.1).f0, (⟨bt388.1, bt388.2.1⟩ : S75), (rd_T77 bt370.1 bt375.1).f2⟩ : S77)), bt388.2.2.1, bt388.2.2.2)) else (none)) else (none))) else (if bt378.1 = 2 then ((spec_l1Int.f s0_0 bt378.2.1 bt378.2.2 (([(-1), 9, 10] : List Int))).bind fun bt396 => (if 0 ≤ bt375.1 then (if bt375.1 < (bt370.1.length : Int) then (some ((bt370.1.set (bt375.1 : Int).toNat (⟨(rd_T77 bt370.1 bt375.1).f0, (⟨(rd_T77 bt370.1 bt375.1).f1.f0, (rd_T77 bt370.1 bt375.1).f1.f1⟩ : S75), bt396.1⟩ : S77)), bt396.2.1, bt396.2.2)) else (none)) else (none))) else (some (bt370.1, bt378.2.1, bt378.2.2))))))))
set_option maxHeartbeats 8000000 in
set_option maxRecDepth 100000 in
theorem spec_l14Any.calls (k : Nat) (g : Nat) (s0_0 : List Int) (s0_1 : Int) (s0_2 : Int) (r1 : List (S77)) (r2 : Int) (r3 : Int) (w0 w : World) (hI : IsS126 w0 w g s0_0 s0_1 s0_2) (hB : Below w0.heap.size w0 w) (h : spec_l14Any.f k s0_0 s0_1 s0_2 = some (r1, r2, r3)) :
  Calls Try.prog 95 #[.pointer (some ⟨g, 0, none⟩)] w fun e w' => ∃ v0_ : Value, e = .returned (v0_) ∧ Kd.R k77 77 w' w.heap.size (fun _ => True) v0_ r1 ∧ IsS126 w0 w' g s0_0 r2 r3 ∧ Below w0.heap.size w0 w' ∧ KeepBut w w' g none := by
 have hu75 := Try.underlying75
 have HI0 := Aside0.mk hI
 have HK := Aside0.mk (KeepBut.refl w g none)
 have HL := Aside0.mk hB.size
 clear hI
 have HW0 := Aside0.mk hB.size
 have HB := Aside0.mk hB
 clear hB
 have H : ((spec_l14Draw.f k s0_0 s0_1 s0_2).bind fun bt370 => (if (bt370.1.length : Int) = 0 then (some (bt370.1, bt370.2.1, bt370.2.2)) else ((spec_l1Below.f s0_0 bt370.2.1 bt370.2.2 (bt370.1.length : Int)).bind fun bt375 => ((spec_l1Below.f s0_0 bt375.2.1 bt375.2.2 9).bind fun bt378 => (if bt378.1 = 0 then ((spec_l1Int.f s0_0 bt378.2.1 bt378.2.2 (([0, 2, 99, 100] : List Int))).bind fun bt384 => (if 0 ≤ bt375.1 then (if bt375.1 < (bt370.1.length : Int) then (some ((bt370.1.set (bt375.1 : Int).toNat (⟨bt384.1, (⟨(rd_T77 bt370.1 bt375.1).f1.f0, (rd_T77 bt370.1 bt375.1).f1.f1⟩ : S75), (rd_T77 bt370.1 bt375.1).f2⟩ : S77)), bt384.2.1, bt384.2.2)) else (none)) else (none))) else (if bt378.1 = 1 then ((spec_l4Any.f s0_0 bt378.2.1 bt378.2.2).bind fun bt388 => (if 0 ≤ bt375.1 then (if bt375.1 < (bt370.1.length : Int) then (some ((bt370.1.set (bt375.1 : Int).toNat (⟨(rd_T77 bt370.1 bt375.1).f0, (⟨bt388.1, bt388.2.1⟩ : S75), (rd_T77 bt370.1 bt375.1).f2⟩ : S77)), bt388.2.2.1, bt388.2.2.2)) else (none)) else (none))) else (if bt378.1 = 2 then ((spec_l1Int.f s0_0 bt378.2.1 bt378.2.2 (([(-1), 9, 10] : List Int))).bind fun bt396 => (if 0 ≤ bt375.1 then (if bt375.1 < (bt370.1.length : Int) then (some ((bt370.1.set (bt375.1 : Int).toNat (⟨(rd_T77 bt370.1 bt375.1).f0, (⟨(rd_T77 bt370.1 bt375.1).f1.f0, (rd_T77 bt370.1 bt375.1).f1.f1⟩ : S75), bt396.1⟩ : S77)), bt396.2.1, bt396.2.2)) else (none)) else (none))) else (some (bt370.1, bt378.2.1, bt378.2.2))))))))) = some (r1, r2, r3) := h
 clear h
 replace H := Option.bind_eq_some_iff.mp H
 obtain ⟨⟨t370, t373, t374⟩, A20, H⟩ := H
 replace H : (if (t370.length : Int) = 0 then (some (t370, t373, t374)) else ((spec_l1Below.f s0_0 t373 t374 (t370.length : Int)).bind fun bt375 => ((spec_l1Below.f s0_0 bt375.2.1 bt375.2.2 9).bind fun bt378 => (if bt378.1 = 0 then ((spec_l1Int.f s0_0 bt378.2.1 bt378.2.2 (([0, 2, 99, 100] : List Int))).bind fun bt384 => (if 0 ≤ bt375.1 then (if bt375.1 < (t370.length : Int) then (some ((t370.set (bt375.1 : Int).toNat (⟨bt384.1, (⟨(rd_T77 t370 bt375.1).f1.f0, (rd_T77 t370 bt375.1).f1.f1⟩ : S75), (rd_T77 t370 bt375.1).f2⟩ : S77)), bt384.2.1, bt384.2.2)) else (none)) else (none))) else (if bt378.1 = 1 then ((spec_l4Any.f s0_0 bt378.2.1 bt378.2.2).bind fun bt388 => (if 0 ≤ bt375.1 then (if bt375.1 < (t370.length : Int) then (some ((t370.set (bt375.1 : Int).toNat (⟨(rd_T77 t370 bt375.1).f0, (⟨bt388.1, bt388.2.1⟩ : S75), (rd_T77 t370 bt375.1).f2⟩ : S77)), bt388.2.2.1, bt388.2.2.2)) else (none)) else (none))) else (if bt378.1 = 2 then ((spec_l1Int.f s0_0 bt378.2.1 bt378.2.2 (([(-1), 9, 10] : List Int))).bind fun bt396 => (if 0 ≤ bt375.1 then (if bt375.1 < (t370.length : Int) then (some ((t370.set (bt375.1 : Int).toNat (⟨(rd_T77 t370 bt375.1).f0, (⟨(rd_T77 t370 bt375.1).f1.f0, (rd_T77 t370 bt375.1).f1.f1⟩ : S75), bt396.1⟩ : S77)), bt396.2.1, bt396.2.2)) else (none)) else (none))) else (some (t370, bt378.2.1, bt378.2.2)))))))) = some (r1, r2, r3) := H
 have A2 := Aside0.mk A20
 clear A20
 by_cases c3 : (t370.length : Int) = 0
 ·
  rw [if_pos c3] at H
  have c3b0 : ((t370.length : Int) == 0) = true := beq_iff_eq.mpr c3
  have c3b1 : ((t370.length : Int) != 0) = false := bne_eq_false_iff_eq.mpr c3
  clear c3
  simp only [Option.some.injEq, Prod.mk.injEq] at H
  obtain ⟨rfl, rfl, rfl⟩ := H
  go_enter Try.func95, Try.ntmps95
  go_wp2_with (first | ((with_reducible refine gate_callee (f := 120) rfl ?_); refine goesL_ (some 6) rfl rfl Try.func120 (by kernel_rfl) rfl #[.pointer (some ⟨g, 0, none⟩)] rfl Hd.m_ ?_; (with_reducible refine (spec_l14Draw.calls k g s0_0 s0_1 s0_2 t370 t373 t374 w0 _ ?side1 ?side2 A2.out).mono ?_); (case side1 => repeat (first | (with_reducible first | exact HI0.out | apply IsS126.alloc | apply IsS126.drewN | apply IsS126.drew | apply IsS126.set_1 | apply IsS126.set_2) | exact HI0.out)); (case side2 => repeat (first | (with_reducible first | exact HB.out | apply below_alloc | apply pw_below_drewN | apply below_drew1 | refine below_set ?_ (IsS126.ge HI0.out)) | exact HB.out)); rintro e w4 ⟨v371, rfl, ho0, hi, hb, hk⟩; refine ⟨_, rfl, ?_⟩; have HO372 := Aside0.mk (Kd.R_lower ho0 (keep_size (w := w) (g := g) (row := none) (by repeat (first | (with_reducible first | exact HK.out | apply KeepBut.set_ | apply keep_drewN | apply keep_drew | apply keep_alloc) | exact HK.out)))); replace HK := Aside0.mk (KeepBut.trans (by repeat (first | (with_reducible first | exact HK.out | apply KeepBut.set_ | apply keep_drewN | apply keep_drew | apply keep_alloc) | exact HK.out)) hk (.inl rfl)); replace HB := Aside0.mk (hb); replace HI0 := Aside0.mk (hi); (try clear hb); (try clear hb2); (try clear hk); (try clear hi); (try clear ho0); obtain ⟨Ao5, co5, eo5⟩ := Kd.R_slice HO372.out; subst eo5))
  go_ret
  exact ⟨_, Hd.e_, by (with_reducible repeat (first | apply Kd.R_alloc | apply Kd.R_drewN | apply Kd.R_drew)); exact HO372.out, by repeat (first | (with_reducible first | exact HI0.out | apply IsS126.alloc | apply IsS126.drewN | apply IsS126.drew | apply IsS126.set_1 | apply IsS126.set_2) | exact HI0.out), by repeat (first | (with_reducible first | exact HB.out | apply below_alloc | apply pw_below_drewN | apply below_drew1 | refine below_set ?_ (IsS126.ge HI0.out)) | exact HB.out), by repeat (first | (with_reducible first | exact HK.out | apply KeepBut.set_ | apply keep_drewN | apply keep_drew | apply keep_alloc) | exact HK.out)⟩
 ·
  rw [if_neg c3] at H
  have c3b0 : ((t370.length : Int) == 0) = false := beq_eq_false_iff_ne.mpr c3
  have c3b1 : ((t370.length : Int) != 0) = true := bne_iff_ne.mpr c3
  have c3b2 : ¬ (t370 = []) := fun h_ => c3 (by rw [h_]; rfl)
  replace H := Option.bind_eq_some_iff.mp H
  obtain ⟨⟨t375, t376, t377⟩, A60, H⟩ := H
  replace H : ((spec_l1Below.f s0_0 t376 t377 9).bind fun bt378 => (if bt378.1 = 0 then ((spec_l1Int.f s0_0 bt378.2.1 bt378.2.2 (([0, 2, 99, 100] : List Int))).bind fun bt384 => (if 0 ≤ t375 then (if t375 < (t370.length : Int) then (some ((t370.set (t375 : Int).toNat (⟨bt384.1, (⟨(rd_T77 t370 t375).f1.f0, (rd_T77 t370 t375).f1.f1⟩ : S75), (rd_T77 t370 t375).f2⟩ : S77)), bt384.2.1, bt384.2.2)) else (none)) else (none))) else (if bt378.1 = 1 then ((spec_l4Any.f s0_0 bt378.2.1 bt378.2.2).bind fun bt388 => (if 0 ≤ t375 then (if t375 < (t370.length : Int) then (some ((t370.set (t375 : Int).toNat (⟨(rd_T77 t370 t375).f0, (⟨bt388.1, bt388.2.1⟩ : S75), (rd_T77 t370 t375).f2⟩ : S77)), bt388.2.2.1, bt388.2.2.2)) else (none)) else (none))) else (if bt378.1 = 2 then ((spec_l1Int.f s0_0 bt378.2.1 bt378.2.2 (([(-1), 9, 10] : List Int))).bind fun bt396 => (if 0 ≤ t375 then (if t375 < (t370.length : Int) then (some ((t370.set (t375 : Int).toNat (⟨(rd_T77 t370 t375).f0, (⟨(rd_T77 t370 t375).f1.f0, (rd_T77 t370 t375).f1.f1⟩ : S75), bt396.1⟩ : S77)), bt396.2.1, bt396.2.2)) else (none)) else (none))) else (some (t370, bt378.2.1, bt378.2.2)))))) = some (r1, r2, r3) := H
  have A6 := Aside0.mk A60
  clear A60
  replace H := Option.bind_eq_some_iff.mp H
  obtain ⟨⟨t378, t379, t380⟩, A70, H⟩ := H
  replace H : (if t378 = 0 then ((spec_l1Int.f s0_0 t379 t380 (([0, 2, 99, 100] : List Int))).bind fun bt384 => (if 0 ≤ t375 then (if t375 < (t370.length : Int) then (some ((t370.set (t375 : Int).toNat (⟨bt384.1, (⟨(rd_T77 t370 t375).f1.f0, (rd_T77 t370 t375).f1.f1⟩ : S75), (rd_T77 t370 t375).f2⟩ : S77)), bt384.2.1, bt384.2.2)) else (none)) else (none))) else (if t378 = 1 then ((spec_l4Any.f s0_0 t379 t380).bind fun bt388 => (if 0 ≤ t375 then (if t375 < (t370.length : Int) then (some ((t370.set (t375 : Int).toNat (⟨(rd_T77 t370 t375).f0, (⟨bt388.1, bt388.2.1⟩ : S75), (rd_T77 t370 t375).f2⟩ : S77)), bt388.2.2.1, bt388.2.2.2)) else (none)) else (none))) else (if t378 = 2 then ((spec_l1Int.f s0_0 t379 t380 (([(-1), 9, 10] : List Int))).bind fun bt396 => (if 0 ≤ t375 then (if t375 < (t370.length : Int) then (some ((t370.set (t375 : Int).toNat (⟨(rd_T77 t370 t375).f0, (⟨(rd_T77 t370 t375).f1.f0, (rd_T77 t370 t375).f1.f1⟩ : S75), bt396.1⟩ : S77)), bt396.2.1, bt396.2.2)) else (none)) else (none))) else (some (t370, t379, t380))))) = some (r1, r2, r3) := H
  have A7 := Aside0.mk A70
  clear A70
  by_cases c8 : t378 = 0
  ·
   rw [if_pos c8] at H
   have c8b0 : (t378 == 0) = true := beq_iff_eq.mpr c8
   have c8b1 : (t378 != 0) = false := bne_eq_false_iff_eq.mpr c8
   clear c8
   obtain ⟨y381, hy381⟩ : ∃ y_ : List Int, y_ = (([0, 2, 99, 100] : List Int)) := ⟨_, rfl⟩
   replace H : ((spec_l1Int.f s0_0 t379 t380 y381).bind fun bt384 => (if 0 ≤ t375 then (if t375 < (t370.length : Int) then (some ((t370.set (t375 : Int).toNat (⟨bt384.1, (⟨(rd_T77 t370 t375).f1.f0, (rd_T77 t370 t375).f1.f1⟩ : S75), (rd_T77 t370 t375).f2⟩ : S77)), bt384.2.1, bt384.2.2)) else (none)) else (none))) = some (r1, r2, r3) := by first | (rw [hy381]; with_reducible exact H) | (have H2_ := (Option.bind_some _ _).symm.trans H; rw [hy381]; with_reducible exact H2_) | (have H2_ := (Option.bind_some _ _).symm.trans H; with_reducible exact H2_) | with_reducible exact H | (rw [hy381]; exact H) | exact H
   have Ny381 := Aside0.mk hy381
   clear hy381
   replace H := Option.bind_eq_some_iff.mp H
   obtain ⟨⟨t384, t385, t386⟩, A90, H⟩ := H
   replace H : (if 0 ≤ t375 then (if t375 < (t370.length : Int) then (some ((t370.set (t375 : Int).toNat (⟨t384, (⟨(rd_T77 t370 t375).f1.f0, (rd_T77 t370 t375).f1.f1⟩ : S75), (rd_T77 t370 t375).f2⟩ : S77)), t385, t386)) else (none)) else (none)) = some (r1, r2, r3) := H
   have A9 := Aside0.mk A90
   clear A90
   by_cases c10 : 0 ≤ t375
   ·
    rw [if_pos c10] at H
    have c10b0 : decide (0 ≤ t375) = true := decide_eq_true c10
    clear c10
    by_cases c11 : t375 < (t370.length : Int)
    ·
     rw [if_pos c11] at H
     have c11b0 : decide (t375 < (t370.length : Int)) = true := decide_eq_true c11
     clear c11
     obtain ⟨y387, hy387⟩ : ∃ y_ : List (S77), y_ = (t370.set (t375 : Int).toNat (⟨t384, (⟨(rd_T77 t370 t375).f1.f0, (rd_T77 t370 t375).f1.f1⟩ : S75), (rd_T77 t370 t375).f2⟩ : S77)) := ⟨_, rfl⟩
     replace H : (some (y387, t385, t386)) = some (r1, r2, r3) := by first | (rw [hy387]; with_reducible exact H) | (have H2_ := (Option.bind_some _ _).symm.trans H; rw [hy387]; with_reducible exact H2_) | (have H2_ := (Option.bind_some _ _).symm.trans H; with_reducible exact H2_) | with_reducible exact H | (rw [hy387]; exact H) | exact H
     have Ny387 := Aside0.mk hy387
     clear hy387
     simp only [Option.some.injEq, Prod.mk.injEq] at H
     obtain ⟨rfl, rfl, rfl⟩ := H
     go_enter Try.func95, Try.ntmps95
     go_wp2_with (first | ((with_reducible refine gate_callee (f := 120) rfl ?_); refine goesL_ (some 6) rfl rfl Try.func120 (by kernel_rfl) rfl #[.pointer (some ⟨g, 0, none⟩)] rfl Hd.m_ ?_; (with_reducible refine (spec_l14Draw.calls k g s0_0 s0_1 s0_2 t370 t373 t374 w0 _ ?side1 ?side2 A2.out).mono ?_); (case side1 => repeat (first | (with_reducible first | exact HI0.out | apply IsS126.alloc | apply IsS126.drewN | apply IsS126.drew | apply IsS126.set_1 | apply IsS126.set_2) | exact HI0.out)); (case side2 => repeat (first | (with_reducible first | exact HB.out | apply below_alloc | apply pw_below_drewN | apply below_drew1 | refine below_set ?_ (IsS126.ge HI0.out)) | exact HB.out)); rintro e w13 ⟨v371, rfl, ho0, hi, hb, hk⟩; refine ⟨_, rfl, ?_⟩; have HO372 := Aside0.mk (Kd.R_lower ho0 (keep_size (w := w) (g := g) (row := none) (by repeat (first | (with_reducible first | exact HK.out | apply KeepBut.set_ | apply keep_drewN | apply keep_drew | apply keep_alloc) | exact HK.out)))); replace HK := Aside0.mk (KeepBut.trans (by repeat (first | (with_reducible first | exact HK.out | apply KeepBut.set_ | apply keep_drewN | apply keep_drew | apply keep_alloc) | exact HK.out)) hk (.inl rfl)); replace HB := Aside0.mk (hb); replace HI0 := Aside0.mk (hi); (try clear hb); (try clear hb2); (try clear hk); (try clear hi); (try clear ho0); obtain ⟨Ao14, co14, eo14⟩ := Kd.R_slice HO372.out; subst eo14) | ((with_reducible refine gate_callee (f := 70) rfl ?_); refine goesL_ (some 14) rfl rfl Try.func70 (by kernel_rfl) rfl #[.pointer (some ⟨g, 0, none⟩), .int .i64 (t370.length : Int)] rfl Hd.m_ ?_; (with_reducible refine (spec_l1Below.calls g s0_0 t373 t374 (t370.length : Int) t375 t376 t377 w0 _ ?side1 ?side2 A6.out).mono ?_); (case side1 => repeat (first | (with_reducible first | exact HI0.out | apply IsS126.alloc | apply IsS126.drewN | apply IsS126.drew | apply IsS126.set_1 | apply IsS126.set_2) | exact HI0.out)); (case side2 => repeat (first | (with_reducible first | exact HB.out | apply below_alloc | apply pw_below_drewN | apply below_drew1 | refine below_set ?_ (IsS126.ge HI0.out)) | exact HB.out)); rintro e w15 ⟨rfl, hi, hb, hk⟩; refine ⟨_, rfl, ?_⟩; replace HO372 := Aside0.mk (Kd.R_mono (Kd.R_keep (IsS126.apart (show IsS126 w0 _ g s0_0 t373 t374 from by repeat (first | (with_reducible first | exact HI0.out | apply IsS126.alloc | apply IsS126.drewN | apply IsS126.drew | apply IsS126.set_1 | apply IsS126.set_2) | exact HI0.out)) (Hd.r_ HO372) (by decide)) hk (fun _ h => h.2)) (fun _ h => h.1)); replace HK := Aside0.mk (KeepBut.trans (by repeat (first | (with_reducible first | exact HK.out | apply KeepBut.set_ | apply keep_drewN | apply keep_drew | apply keep_alloc) | exact HK.out)) hk (.inl rfl)); replace HB := Aside0.mk (hb); replace HI0 := Aside0.mk (hi); (try clear hb); (try clear hb2); (try clear hk); (try clear hi)) | ((with_reducible refine gate_callee (f := 70) rfl ?_); refine goesL_ (some 16) rfl rfl Try.func70 (by kernel_rfl) rfl #[.pointer (some ⟨g, 0, none⟩), .int .i64 9] rfl Hd.m_ ?_; (with_reducible refine (spec_l1Below.calls g s0_0 t376 t377 9 t378 t379 t380 w0 _ ?side1 ?side2 A7.out).mono ?_); (case side1 => repeat (first | (with_reducible first | exact HI0.out | apply IsS126.alloc | apply IsS126.drewN | apply IsS126.drew | apply IsS126.set_1 | apply IsS126.set_2) | exact HI0.out)); (case side2 => repeat (first | (with_reducible first | exact HB.out | apply below_alloc | apply pw_below_drewN | apply below_drew1 | refine below_set ?_ (IsS126.ge HI0.out)) | exact HB.out)); rintro e w16 ⟨rfl, hi, hb, hk⟩; refine ⟨_, rfl, ?_⟩; replace HO372 := Aside0.mk (Kd.R_mono (Kd.R_keep (IsS126.apart (show IsS126 w0 _ g s0_0 t376 t377 from by repeat (first | (with_reducible first | exact HI0.out | apply IsS126.alloc | apply IsS126.drewN | apply IsS126.drew | apply IsS126.set_1 | apply IsS126.set_2) | exact HI0.out)) (Hd.r_ HO372) (by decide)) hk (fun _ h => h.2)) (fun _ h => h.1)); replace HK := Aside0.mk (KeepBut.trans (by repeat (first | (with_reducible first | exact HK.out | apply KeepBut.set_ | apply keep_drewN | apply keep_drew | apply keep_alloc) | exact HK.out)) hk (.inl rfl)); replace HB := Aside0.mk (hb); replace HI0 := Aside0.mk (hi); (try clear hb); (try clear hb2); (try clear hk); (try clear hi)) | ((with_reducible refine gate_dst (N := 22) rfl ?_); refine Kd.R_lit (Kd.int .i64) _ 3 ?hg (N := 22) ?hd (xs := ([0, 2, 99, 100] : List Int)) (inner := [.int .i64 0, .int .i64 2, .int .i64 99, .int .i64 100]) (ok := fun _ => True) (okp := fun _ => True) ?hr ?hp (fun _ hk => hk) trivial (Below.refl _ _) (Nat.le_refl _) (by simp) ?_; (case hd => rfl); (case hg => rfl); (case hr => first | (go_simp; done) | (go_simp; rfl)); (case hp => exact (Reps.one (show Kd.M (Kd.int .i64) _ _ _ 0 [.int .i64 0] from rfl) (Reps.one (show Kd.M (Kd.int .i64) _ _ _ 2 [.int .i64 2] from rfl) (Reps.one (show Kd.M (Kd.int .i64) _ _ _ 99 [.int .i64 99] from rfl) (Reps.one (show Kd.M (Kd.int .i64) _ _ _ 100 [.int .i64 100] from rfl) (Reps.none _ _)))))); intro v382 w17 ho18 hb hg_ hnew_; clear hg_ hnew_; (first | rw [← Ny381.out] at ho18 | (simp only [Int.reduceToNat] at ho18; rw [← Ny381.out] at ho18)); replace HO372 := Aside0.mk (Kd.R_below (Hd.r_ HO372) hb); have HO383 := Aside0.mk (Kd.R_lower ho18 (keep_size (w := w) (g := g) (row := none) (by repeat (first | (with_reducible first | exact HK.out | apply KeepBut.set_ | apply keep_drewN | apply keep_drew | apply keep_alloc) | exact HK.out)))); replace HK := Aside0.mk (KeepBut.trans (by repeat (first | (with_reducible first | exact HK.out | apply KeepBut.set_ | apply keep_drewN | apply keep_drew | apply keep_alloc) | exact HK.out)) (KeepBut.of_below hb g none) (.inl rfl)); replace HB := Aside0.mk (below_step (by repeat (first | (with_reducible first | exact HB.out | apply below_alloc | apply pw_below_drewN | apply below_drew1 | refine below_set ?_ (IsS126.ge HI0.out)) | exact HB.out)) hb); replace HI0 := Aside0.mk (IsS126.below (by repeat (first | (with_reducible first | exact HI0.out | apply IsS126.alloc | apply IsS126.drewN | apply IsS126.drew | apply IsS126.set_1 | apply IsS126.set_2) | exact HI0.out)) hb); clear hb ho18; obtain ⟨Ao19, co19, eo19⟩ := Kd.R_slice HO383.out; subst eo19) | ((with_reducible refine gate_callee (f := 96) rfl ?_); refine goesL_ (some 23) rfl rfl Try.func96 (by kernel_rfl) rfl #[.pointer (some ⟨g, 0, none⟩), .slice Ao19 y381.length co19] rfl Hd.m_ ?_; (with_reducible refine (spec_l1Int.calls g s0_0 t379 t380 _ _ y381 t384 t385 t386 w0 _ ?side1 ?side2 ?side3 ?side4 ?side5 A9.out).mono ?_); (case side1 => repeat (first | (with_reducible first | exact HI0.out | apply IsS126.alloc | apply IsS126.drewN | apply IsS126.drew | apply IsS126.set_1 | apply IsS126.set_2) | exact HI0.out)); (case side2 => repeat (first | (with_reducible first | exact HB.out | apply below_alloc | apply pw_below_drewN | apply below_drew1 | refine below_set ?_ (IsS126.ge HI0.out)) | exact HB.out)); (case side3 => repeat (first | exact (Kd.R_reads' HO383.out).2.2 | (with_reducible refine Kd.C_alloc ?_ _) | (with_reducible refine Kd.C_drewN ?_ _) | (with_reducible refine Kd.C_drew ?_))); (case side4 => exact (Kd.R_reads' HO383.out).2.1); (case side5 => exact far_slice (IsS126.own_ne HI0.out HO383.out (by decide))); rintro e w20 ⟨rfl, hi, hb, hk⟩; refine ⟨_, rfl, ?_⟩; replace HO372 := Aside0.mk (Kd.R_mono (Kd.R_keep (IsS126.apart (show IsS126 w0 _ g s0_0 t379 t380 from by repeat (first | (with_reducible first | exact HI0.out | apply IsS126.alloc | apply IsS126.drewN | apply IsS126.drew | apply IsS126.set_1 | apply IsS126.set_2) | exact HI0.out)) (Hd.r_ HO372) (by decide)) hk (fun _ h => h.2)) (fun _ h => h.1)); replace HO383 := Aside0.mk (Kd.R_mono (Kd.R_keep (IsS126.apart (show IsS126 w0 _ g s0_0 t379 t380 from by repeat (first | (with_reducible first | exact HI0.out | apply IsS126.alloc | apply IsS126.drewN | apply IsS126.drew | apply IsS126.set_1 | apply IsS126.set_2) | exact HI0.out)) (Hd.r_ HO383) (by decide)) hk (fun _ h => h.2)) (fun _ h => h.1)); replace HK := Aside0.mk (KeepBut.trans (by repeat (first | (with_reducible first | exact HK.out | apply KeepBut.set_ | apply keep_drewN | apply keep_drew | apply keep_alloc) | exact HK.out)) hk (.inl rfl)); replace HB := Aside0.mk (hb); replace HI0 := Aside0.mk (hi); (try clear hb); (try clear hb2); (try clear hk); (try clear hi); have p12 : 0 ≤ (t375 : Int) := of_decide_eq_true Hd.a_; have q12 : (t375 : Int) < ((t370.length : Int) : Int) := of_decide_eq_true Hd.a_; obtain ⟨go12, co12, eo12, gb12, gl12, cl12, HG12⟩ := Kd.R_form HO372.out (by omega); (first | cases eo12 | (injection eo12 with ea_ en_ ec_; (first | subst ea_ | (injection ea_ with ea_; subst ea_)); subst ec_; clear en_)); have GB12 := Aside0.mk gb12; have GG12 := Aside0.mk HG12; clear gb12 gl12 HG12; obtain ⟨ce12, hcl12, hM12, hcc12, hfr12⟩ := Kd.R_elem HO372.out z77 (t375 : Int) p12 q12; obtain rfl := k77_openM hM12; have hx12_0 : w20.cell? ⟨go12, (t375 : Int).toNat * 4, none⟩ = some (.int .i64 ((rd_T77 t370 t375).f0)) := hcc12 0 _ rfl; have hx12_1 : w20.cell? ⟨go12, (t375 : Int).toNat * 4 + 1, none⟩ = some (.int .i64 ((rd_T77 t370 t375).f1.f0)) := hcc12 1 _ rfl; have hx12_2 : w20.cell? ⟨go12, (t375 : Int).toNat * 4 + 2, none⟩ = some (.int .i64 ((rd_T77 t370 t375).f1.f1)) := hcc12 2 _ rfl; have hx12_3 : w20.cell? ⟨go12, (t375 : Int).toNat * 4 + 3, none⟩ = some (.int .i64 ((rd_T77 t370 t375).f2)) := hcc12 3 _ rfl; have hf12_0 : w20.frozen? ⟨go12, (t375 : Int).toNat * 4, none⟩ = false := hfr12 0; have hf12_1 : w20.frozen? ⟨go12, (t375 : Int).toNat * 4 + 1, none⟩ = false := hfr12 1; have hf12_2 : w20.frozen? ⟨go12, (t375 : Int).toNat * 4 + 2, none⟩ = false := hfr12 2; have hf12_3 : w20.frozen? ⟨go12, (t375 : Int).toNat * 4 + 3, none⟩ = false := hfr12 3; clear hcl12 hcc12 hfr12 hM12; replace p12 := eq_true p12; replace q12 := eq_true q12; have HX21 := Aside0.mk (show Kd.R k77 77 w20 w.heap.size (fun _ => True) (.slice (some ⟨go12, 0, none⟩) t370.length co14) t370 from (Hd.r_ HO372)); obtain ⟨ce21, hcl21, hM21, hcc21, hfr21⟩ := Kd.R_elem HX21.out z77 (t375 : Int) (of_decide_eq_true Hd.a_) (by have h_ : (t375 : Int) < ((t370.length : Int) : Int) := of_decide_eq_true Hd.a_; first | exact h_ | (have e_ := (Kd.R_reads' HO372.out).1; omega) | simpa using h_); obtain rfl := k77_openM hM21; have HP21 := Kd.R_seg HX21.out (t375 : Int) (of_decide_eq_true Hd.a_) (by have h_ : (t375 : Int) < ((t370.length : Int) : Int) := of_decide_eq_true Hd.a_; first | exact h_ | (have e_ := (Kd.R_reads' HO372.out).1; omega) | simpa using h_) (seg := [.int .i64 t384]) (j := 0) hcl21 hcc21 (show 1 ≤ 4 from by decide) (x' := (⟨t384, (⟨(rd_T77 t370 t375).f1.f0, (rd_T77 t370 t375).f1.f1⟩ : S75), (rd_T77 t370 t375).f2⟩ : S77)) (k77_mkM _ _ _ (⟨t384, (⟨(rd_T77 t370 t375).f1.f0, (rd_T77 t370 t375).f1.f1⟩ : S75), (rd_T77 t370 t375).f2⟩ : S77) ) (fun _ hk => hk); have hx21_0 := hcc21 0 _ rfl; (try simp only [show (k77).sz = 4 from rfl, Nat.mul_one, Nat.add_zero] at hx21_0); have hf21_0 := hfr21 0; (try simp only [show (k77).sz = 4 from rfl, Nat.mul_one, Nat.add_zero] at hf21_0); clear hcl21 hcc21 hfr21 hM21) | ((with_reducible refine gate_store (t := 3) (p := 25) rfl ?_); refine store_event (t := 3) (p := 25) (v := ?vo_w22) (w1 := (w20.setCell ⟨go12, (t375 : Int).toNat * 4, none⟩ (.int .i64 t384))) ?hg ?ho ?hn ?hr ?_; (case ho => rfl); (case hg => rfl); (case hn => rfl); (case hr => first | (go_simp; done) | (go_simp; rfl)); intro w22 hw; have hg : w20.grownBy w22 (some go12) := (by rw [hw]; exact HP21.2); have hp_ : Kd.R k77 77 w22 w.heap.size (fun _ => True) (.slice (some ⟨go12, 0, none⟩) t370.length co14) y387 := (by rw [hw, Ny387.out]; exact HP21.1); clear HP21; replace HI0 := Aside0.mk (IsS126.grown (Hd.as_ (fun W_ => IsS126 _ W_ _ _ _ _) HI0.out (by repeat (first | (with_reducible first | exact HI0.out | apply IsS126.alloc | apply IsS126.drewN | apply IsS126.drew | apply IsS126.set_1 | apply IsS126.set_2) | exact HI0.out))) hg (IsS126.own_ne HI0.out HO372.out (by decide))); replace HO383 := Aside0.mk (Kd.R_over' (v := (.slice (some ⟨go12, 0, none⟩) t370.length co14)) (Hd.r_ HO383) (Kd.R_typed HO372.out) (by decide) hg); replace HB := Aside0.mk ((by rw [hw]; exact below_set (HB.out) (Nat.le_trans HL.out GB12.out) : Below w0.heap.size w0 w22)); replace HK := Aside0.mk (KeepBut.trans (by repeat (first | (with_reducible first | exact HK.out | apply KeepBut.set_ | apply keep_drewN | apply keep_drew | apply keep_alloc) | exact HK.out)) (KeepBut.of_grown hg g) (Kd.R_base2 HO372.out)); replace HO372 := Aside0.mk (hp_); clear hg hw hp_))
     go_ret
     exact ⟨_, Hd.e_, by (with_reducible repeat (first | apply Kd.R_alloc | apply Kd.R_drewN | apply Kd.R_drew)); exact HO372.out, by repeat (first | (with_reducible first | exact HI0.out | apply IsS126.alloc | apply IsS126.drewN | apply IsS126.drew | apply IsS126.set_1 | apply IsS126.set_2) | exact HI0.out), by repeat (first | (with_reducible first | exact HB.out | apply below_alloc | apply pw_below_drewN | apply below_drew1 | refine below_set ?_ (IsS126.ge HI0.out)) | exact HB.out), by repeat (first | (with_reducible first | exact HK.out | apply KeepBut.set_ | apply keep_drewN | apply keep_drew | apply keep_alloc) | exact HK.out)⟩
    ·
     rw [if_neg c11] at H
     exact absurd H (by simp)
   ·
    rw [if_neg c10] at H
    exact absurd H (by simp)
  ·
   rw [if_neg c8] at H
   have c8b0 : (t378 == 0) = false := beq_eq_false_iff_ne.mpr c8
   have c8b1 : (t378 != 0) = true := bne_iff_ne.mpr c8
   by_cases c23 : t378 = 1
   ·
    rw [if_pos c23] at H
    have c23b0 : (t378 == 1) = true := beq_iff_eq.mpr c23
    have c23b1 : (t378 != 1) = false := bne_eq_false_iff_eq.mpr c23
    clear c23
    replace H := Option.bind_eq_some_iff.mp H
    obtain ⟨⟨t388, t389, t390, t391⟩, A240, H⟩ := H
    replace H : (if 0 ≤ t375 then (if t375 < (t370.length : Int) then (some ((t370.set (t375 : Int).toNat (⟨(rd_T77 t370 t375).f0, (⟨t388, t389⟩ : S75), (rd_T77 t370 t375).f2⟩ : S77)), t390, t391)) else (none)) else (none)) = some (r1, r2, r3) := H
    have A24 := Aside0.mk A240
    clear A240
    by_cases c25 : 0 ≤ t375
    ·
     rw [if_pos c25] at H
     have c25b0 : decide (0 ≤ t375) = true := decide_eq_true c25
     clear c25
     by_cases c26 : t375 < (t370.length : Int)
     ·
      rw [if_pos c26] at H
      have c26b0 : decide (t375 < (t370.length : Int)) = true := decide_eq_true c26
      clear c26
      obtain ⟨y392, hy392⟩ : ∃ y_ : List (S77), y_ = (t370.set (t375 : Int).toNat (⟨(rd_T77 t370 t375).f0, (⟨t388, t389⟩ : S75), (rd_T77 t370 t375).f2⟩ : S77)) := ⟨_, rfl⟩
      replace H : (some (y392, t390, t391)) = some (r1, r2, r3) := by first | (rw [hy392]; with_reducible exact H) | (have H2_ := (Option.bind_some _ _).symm.trans H; rw [hy392]; with_reducible exact H2_) | (have H2_ := (Option.bind_some _ _).symm.trans H; with_reducible exact H2_) | with_reducible exact H | (rw [hy392]; exact H) | exact H
      have Ny392 := Aside0.mk hy392
      clear hy392
      simp only [Option.some.injEq, Prod.mk.injEq] at H
      obtain ⟨rfl, rfl, rfl⟩ := H
      go_enter Try.func95, Try.ntmps95
      go_wp2_with (first | ((with_reducible refine gate_callee (f := 120) rfl ?_); refine goesL_ (some 6) rfl rfl Try.func120 (by kernel_rfl) rfl #[.pointer (some ⟨g, 0, none⟩)] rfl Hd.m_ ?_; (with_reducible refine (spec_l14Draw.calls k g s0_0 s0_1 s0_2 t370 t373 t374 w0 _ ?side1 ?side2 A2.out).mono ?_); (case side1 => repeat (first | (with_reducible first | exact HI0.out | apply IsS126.alloc | apply IsS126.drewN | apply IsS126.drew | apply IsS126.set_1 | apply IsS126.set_2) | exact HI0.out)); (case side2 => repeat (first | (with_reducible first | exact HB.out | apply below_alloc | apply pw_below_drewN | apply below_drew1 | refine below_set ?_ (IsS126.ge HI0.out)) | exact HB.out)); rintro e w28 ⟨v371, rfl, ho0, hi, hb, hk⟩; refine ⟨_, rfl, ?_⟩; have HO372 := Aside0.mk (Kd.R_lower ho0 (keep_size (w := w) (g := g) (row := none) (by repeat (first | (with_reducible first | exact HK.out | apply KeepBut.set_ | apply keep_drewN | apply keep_drew | apply keep_alloc) | exact HK.out)))); replace HK := Aside0.mk (KeepBut.trans (by repeat (first | (with_reducible first | exact HK.out | apply KeepBut.set_ | apply keep_drewN | apply keep_drew | apply keep_alloc) | exact HK.out)) hk (.inl rfl)); replace HB := Aside0.mk (hb); replace HI0 := Aside0.mk (hi); (try clear hb); (try clear hb2); (try clear hk); (try clear hi); (try clear ho0); obtain ⟨Ao29, co29, eo29⟩ := Kd.R_slice HO372.out; subst eo29) | ((with_reducible refine gate_callee (f := 70) rfl ?_); refine goesL_ (some 14) rfl rfl Try.func70 (by kernel_rfl) rfl #[.pointer (some ⟨g, 0, none⟩), .int .i64 (t370.length : Int)] rfl Hd.m_ ?_; (with_reducible refine (spec_l1Below.calls g s0_0 t373 t374 (t370.length : Int) t375 t376 t377 w0 _ ?side1 ?side2 A6.out).mono ?_); (case side1 => repeat (first | (with_reducible first | exact HI0.out | apply IsS126.alloc | apply IsS126.drewN | apply IsS126.drew | apply IsS126.set_1 | apply IsS126.set_2) | exact HI0.out)); (case side2 => repeat (first | (with_reducible first | exact HB.out | apply below_alloc | apply pw_below_drewN | apply below_drew1 | refine below_set ?_ (IsS126.ge HI0.out)) | exact HB.out)); rintro e w30 ⟨rfl, hi, hb, hk⟩; refine ⟨_, rfl, ?_⟩; replace HO372 := Aside0.mk (Kd.R_mono (Kd.R_keep (IsS126.apart (show IsS126 w0 _ g s0_0 t373 t374 from by repeat (first | (with_reducible first | exact HI0.out | apply IsS126.alloc | apply IsS126.drewN | apply IsS126.drew | apply IsS126.set_1 | apply IsS126.set_2) | exact HI0.out)) (Hd.r_ HO372) (by decide)) hk (fun _ h => h.2)) (fun _ h => h.1)); replace HK := Aside0.mk (KeepBut.trans (by repeat (first | (with_reducible first | exact HK.out | apply KeepBut.set_ | apply keep_drewN | apply keep_drew | apply keep_alloc) | exact HK.out)) hk (.inl rfl)); replace HB := Aside0.mk (hb); replace HI0 := Aside0.mk (hi); (try clear hb); (try clear hb2); (try clear hk); (try clear hi)) | ((with_reducible refine gate_callee (f := 70) rfl ?_); refine goesL_ (some 16) rfl rfl Try.func70 (by kernel_rfl) rfl #[.pointer (some ⟨g, 0, none⟩), .int .i64 9] rfl Hd.m_ ?_; (with_reducible refine (spec_l1Below.calls g s0_0 t376 t377 9 t378 t379 t380 w0 _ ?side1 ?side2 A7.out).mono ?_); (case side1 => repeat (first | (with_reducible first | exact HI0.out | apply IsS126.alloc | apply IsS126.drewN | apply IsS126.drew | apply IsS126.set_1 | apply IsS126.set_2) | exact HI0.out)); (case side2 => repeat (first | (with_reducible first | exact HB.out | apply below_alloc | apply pw_below_drewN | apply below_drew1 | refine below_set ?_ (IsS126.ge HI0.out)) | exact HB.out)); rintro e w31 ⟨rfl, hi, hb, hk⟩; refine ⟨_, rfl, ?_⟩; replace HO372 := Aside0.mk (Kd.R_mono (Kd.R_keep (IsS126.apart (show IsS126 w0 _ g s0_0 t376 t377 from by repeat (first | (with_reducible first | exact HI0.out | apply IsS126.alloc | apply IsS126.drewN | apply IsS126.drew | apply IsS126.set_1 | apply IsS126.set_2) | exact HI0.out)) (Hd.r_ HO372) (by decide)) hk (fun _ h => h.2)) (fun _ h => h.1)); replace HK := Aside0.mk (KeepBut.trans (by repeat (first | (with_reducible first | exact HK.out | apply KeepBut.set_ | apply keep_drewN | apply keep_drew | apply keep_alloc) | exact HK.out)) hk (.inl rfl)); replace HB := Aside0.mk (hb); replace HI0 := Aside0.mk (hi); (try clear hb); (try clear hb2); (try clear hk); (try clear hi)) | ((with_reducible refine gate_callee (f := 121) rfl ?_); refine goesL_ (some 31) rfl rfl Try.func121 (by kernel_rfl) rfl #[.pointer (some ⟨g, 0, none⟩)] rfl Hd.m_ ?_; (with_reducible refine (spec_l4Any.calls g s0_0 t379 t380 t388 t389 t390 t391 w0 _ ?side1 ?side2 A24.out).mono ?_); (case side1 => repeat (first | (with_reducible first | exact HI0.out | apply IsS126.alloc | apply IsS126.drewN | apply IsS126.drew | apply IsS126.set_1 | apply IsS126.set_2) | exact HI0.out)); (case side2 => repeat (first | (with_reducible first | exact HB.out | apply below_alloc | apply pw_below_drewN | apply below_drew1 | refine below_set ?_ (IsS126.ge HI0.out)) | exact HB.out)); rintro e w32 ⟨rfl, hi, hb, hk⟩; refine ⟨_, rfl, ?_⟩; replace HO372 := Aside0.mk (Kd.R_mono (Kd.R_keep (IsS126.apart (show IsS126 w0 _ g s0_0 t379 t380 from by repeat (first | (with_reducible first | exact HI0.out | apply IsS126.alloc | apply IsS126.drewN | apply IsS126.drew | apply IsS126.set_1 | apply IsS126.set_2) | exact HI0.out)) (Hd.r_ HO372) (by decide)) hk (fun _ h => h.2)) (fun _ h => h.1)); replace HK := Aside0.mk (KeepBut.trans (by repeat (first | (with_reducible first | exact HK.out | apply KeepBut.set_ | apply keep_drewN | apply keep_drew | apply keep_alloc) | exact HK.out)) hk (.inl rfl)); replace HB := Aside0.mk (hb); replace HI0 := Aside0.mk (hi); (try clear hb); (try clear hb2); (try clear hk); (try clear hi); have p27 : 0 ≤ (t375 : Int) := of_decide_eq_true Hd.a_; have q27 : (t375 : Int) < ((t370.length : Int) : Int) := of_decide_eq_true Hd.a_; obtain ⟨go27, co27, eo27, gb27, gl27, cl27, HG27⟩ := Kd.R_form HO372.out (by omega); (first | cases eo27 | (injection eo27 with ea_ en_ ec_; (first | subst ea_ | (injection ea_ with ea_; subst ea_)); subst ec_; clear en_)); have GB27 := Aside0.mk gb27; have GG27 := Aside0.mk HG27; clear gb27 gl27 HG27; obtain ⟨ce27, hcl27, hM27, hcc27, hfr27⟩ := Kd.R_elem HO372.out z77 (t375 : Int) p27 q27; obtain rfl := k77_openM hM27; have hx27_0 : w32.cell? ⟨go27, (t375 : Int).toNat * 4, none⟩ = some (.int .i64 ((rd_T77 t370 t375).f0)) := hcc27 0 _ rfl; have hx27_1 : w32.cell? ⟨go27, (t375 : Int).toNat * 4 + 1, none⟩ = some (.int .i64 ((rd_T77 t370 t375).f1.f0)) := hcc27 1 _ rfl; have hx27_2 : w32.cell? ⟨go27, (t375 : Int).toNat * 4 + 2, none⟩ = some (.int .i64 ((rd_T77 t370 t375).f1.f1)) := hcc27 2 _ rfl; have hx27_3 : w32.cell? ⟨go27, (t375 : Int).toNat * 4 + 3, none⟩ = some (.int .i64 ((rd_T77 t370 t375).f2)) := hcc27 3 _ rfl; have hf27_0 : w32.frozen? ⟨go27, (t375 : Int).toNat * 4, none⟩ = false := hfr27 0; have hf27_1 : w32.frozen? ⟨go27, (t375 : Int).toNat * 4 + 1, none⟩ = false := hfr27 1; have hf27_2 : w32.frozen? ⟨go27, (t375 : Int).toNat * 4 + 2, none⟩ = false := hfr27 2; have hf27_3 : w32.frozen? ⟨go27, (t375 : Int).toNat * 4 + 3, none⟩ = false := hfr27 3; clear hcl27 hcc27 hfr27 hM27; replace p27 := eq_true p27; replace q27 := eq_true q27; have HX33 := Aside0.mk (show Kd.R k77 77 w32 w.heap.size (fun _ => True) (.slice (some ⟨go27, 0, none⟩) t370.length co29) t370 from (Hd.r_ HO372)); obtain ⟨ce33, hcl33, hM33, hcc33, hfr33⟩ := Kd.R_elem HX33.out z77 (t375 : Int) (of_decide_eq_true Hd.a_) (by have h_ : (t375 : Int) < ((t370.length : Int) : Int) := of_decide_eq_true Hd.a_; first | exact h_ | (have e_ := (Kd.R_reads' HO372.out).1; omega) | simpa using h_); obtain rfl := k77_openM hM33; have HP33 := Kd.R_seg HX33.out (t375 : Int) (of_decide_eq_true Hd.a_) (by have h_ : (t375 : Int) < ((t370.length : Int) : Int) := of_decide_eq_true Hd.a_; first | exact h_ | (have e_ := (Kd.R_reads' HO372.out).1; omega) | simpa using h_) (seg := [.int .i64 t388, .int .i64 t389]) (j := 1) hcl33 hcc33 (show 3 ≤ 4 from by decide) (x' := (⟨(rd_T77 t370 t375).f0, (⟨t388, t389⟩ : S75), (rd_T77 t370 t375).f2⟩ : S77)) (k77_mkM _ _ _ (⟨(rd_T77 t370 t375).f0, (⟨t388, t389⟩ : S75), (rd_T77 t370 t375).f2⟩ : S77) ) (fun _ hk => hk); have hx33_1 := hcc33 1 _ rfl; (try simp only [show (k77).sz = 4 from rfl, Nat.mul_one, Nat.add_zero] at hx33_1); have hf33_1 := hfr33 1; (try simp only [show (k77).sz = 4 from rfl, Nat.mul_one, Nat.add_zero] at hf33_1); have hx33_2 := hcc33 2 _ rfl; (try simp only [show (k77).sz = 4 from rfl, Nat.mul_one, Nat.add_zero] at hx33_2); have hf33_2 := hfr33 2; (try simp only [show (k77).sz = 4 from rfl, Nat.mul_one, Nat.add_zero] at hf33_2); clear hcl33 hcc33 hfr33 hM33) | ((with_reducible refine gate_store (t := 75) (p := 33) rfl ?_); refine store_event (t := 75) (p := 33) (v := ?vo_w34) (w1 := ((w32.setCell ⟨go27, (t375 : Int).toNat * 4 + 1, none⟩ (.int .i64 t388)).setCell ⟨go27, (t375 : Int).toNat * 4 + 2, none⟩ (.int .i64 t389))) ?hg ?ho ?hn ?hr ?_; (case ho => rfl); (case hg => rfl); (case hn => rfl); (case hr => first | (go_simp; done) | (go_simp; rfl)); intro w34 hw; have hg : w32.grownBy w34 (some go27) := (by rw [hw]; exact HP33.2); have hp_ : Kd.R k77 77 w34 w.heap.size (fun _ => True) (.slice (some ⟨go27, 0, none⟩) t370.length co29) y392 := (by rw [hw, Ny392.out]; exact HP33.1); clear HP33; replace HI0 := Aside0.mk (IsS126.grown (Hd.as_ (fun W_ => IsS126 _ W_ _ _ _ _) HI0.out (by repeat (first | (with_reducible first | exact HI0.out | apply IsS126.alloc | apply IsS126.drewN | apply IsS126.drew | apply IsS126.set_1 | apply IsS126.set_2) | exact HI0.out))) hg (IsS126.own_ne HI0.out HO372.out (by decide))); replace HB := Aside0.mk ((by rw [hw]; exact below_set (below_set (HB.out) (Nat.le_trans HL.out GB27.out)) (Nat.le_trans HL.out GB27.out) : Below w0.heap.size w0 w34)); replace HK := Aside0.mk (KeepBut.trans (by repeat (first | (with_reducible first | exact HK.out | apply KeepBut.set_ | apply keep_drewN | apply keep_drew | apply keep_alloc) | exact HK.out)) (KeepBut.of_grown hg g) (Kd.R_base2 HO372.out)); replace HO372 := Aside0.mk (hp_); clear hg hw hp_))
      go_ret
      exact ⟨_, Hd.e_, by (with_reducible repeat (first | apply Kd.R_alloc | apply Kd.R_drewN | apply Kd.R_drew)); exact HO372.out, by repeat (first | (with_reducible first | exact HI0.out | apply IsS126.alloc | apply IsS126.drewN | apply IsS126.drew | apply IsS126.set_1 | apply IsS126.set_2) | exact HI0.out), by repeat (first | (with_reducible first | exact HB.out | apply below_alloc | apply pw_below_drewN | apply below_drew1 | refine below_set ?_ (IsS126.ge HI0.out)) | exact HB.out), by repeat (first | (with_reducible first | exact HK.out | apply KeepBut.set_ | apply keep_drewN | apply keep_drew | apply keep_alloc) | exact HK.out)⟩
     ·
      rw [if_neg c26] at H
      exact absurd H (by simp)
    ·
     rw [if_neg c25] at H
     exact absurd H (by simp)
   ·
    rw [if_neg c23] at H
    have c23b0 : (t378 == 1) = false := beq_eq_false_iff_ne.mpr c23
    have c23b1 : (t378 != 1) = true := bne_iff_ne.mpr c23
    by_cases c35 : t378 = 2
    ·
     rw [if_pos c35] at H
     have c35b0 : (t378 == 2) = true := beq_iff_eq.mpr c35
     have c35b1 : (t378 != 2) = false := bne_eq_false_iff_eq.mpr c35
     clear c35
     obtain ⟨y393, hy393⟩ : ∃ y_ : List Int, y_ = (([(-1), 9, 10] : List Int)) := ⟨_, rfl⟩
     replace H : ((spec_l1Int.f s0_0 t379 t380 y393).bind fun bt396 => (if 0 ≤ t375 then (if t375 < (t370.length : Int) then (some ((t370.set (t375 : Int).toNat (⟨(rd_T77 t370 t375).f0, (⟨(rd_T77 t370 t375).f1.f0, (rd_T77 t370 t375).f1.f1⟩ : S75), bt396.1⟩ : S77)), bt396.2.1, bt396.2.2)) else (none)) else (none))) = some (r1, r2, r3) := by first | (rw [hy393]; with_reducible exact H) | (have H2_ := (Option.bind_some _ _).symm.trans H; rw [hy393]; with_reducible exact H2_) | (have H2_ := (Option.bind_some _ _).symm.trans H; with_reducible exact H2_) | with_reducible exact H | (rw [hy393]; exact H) | exact H
     have Ny393 := Aside0.mk hy393
     clear hy393
     replace H := Option.bind_eq_some_iff.mp H
     obtain ⟨⟨t396, t397, t398⟩, A360, H⟩ := H
     replace H : (if 0 ≤ t375 then (if t375 < (t370.length : Int) then (some ((t370.set (t375 : Int).toNat (⟨(rd_T77 t370 t375).f0, (⟨(rd_T77 t370 t375).f1.f0, (rd_T77 t370 t375).f1.f1⟩ : S75), t396⟩ : S77)), t397, t398)) else (none)) else (none)) = some (r1, r2, r3) := H
     have A36 := Aside0.mk A360
     clear A360
     by_cases c37 : 0 ≤ t375
     ·
      rw [if_pos c37] at H
      have c37b0 : decide (0 ≤ t375) = true := decide_eq_true c37
      clear c37
      by_cases c38 : t375 < (t370.length : Int)
      ·
       rw [if_pos c38] at H
       have c38b0 : decide (t375 < (t370.length : Int)) = true := decide_eq_true c38
       clear c38
       obtain ⟨y399, hy399⟩ : ∃ y_ : List (S77), y_ = (t370.set (t375 : Int).toNat (⟨(rd_T77 t370 t375).f0, (⟨(rd_T77 t370 t375).f1.f0, (rd_T77 t370 t375).f1.f1⟩ : S75), t396⟩ : S77)) := ⟨_, rfl⟩
       replace H : (some (y399, t397, t398)) = some (r1, r2, r3) := by first | (rw [hy399]; with_reducible exact H) | (have H2_ := (Option.bind_some _ _).symm.trans H; rw [hy399]; with_reducible exact H2_) | (have H2_ := (Option.bind_some _ _).symm.trans H; with_reducible exact H2_) | with_reducible exact H | (rw [hy399]; exact H) | exact H
       have Ny399 := Aside0.mk hy399
       clear hy399
       simp only [Option.some.injEq, Prod.mk.injEq] at H
       obtain ⟨rfl, rfl, rfl⟩ := H
       go_enter Try.func95, Try.ntmps95
       go_wp2_with (first | ((with_reducible refine gate_callee (f := 120) rfl ?_); refine goesL_ (some 6) rfl rfl Try.func120 (by kernel_rfl) rfl #[.pointer (some ⟨g, 0, none⟩)] rfl Hd.m_ ?_; (with_reducible refine (spec_l14Draw.calls k g s0_0 s0_1 s0_2 t370 t373 t374 w0 _ ?side1 ?side2 A2.out).mono ?_); (case side1 => repeat (first | (with_reducible first | exact HI0.out | apply IsS126.alloc | apply IsS126.drewN | apply IsS126.drew | apply IsS126.set_1 | apply IsS126.set_2) | exact HI0.out)); (case side2 => repeat (first | (with_reducible first | exact HB.out | apply below_alloc | apply pw_below_drewN | apply below_drew1 | refine below_set ?_ (IsS126.ge HI0.out)) | exact HB.out)); rintro e w40 ⟨v371, rfl, ho0, hi, hb, hk⟩; refine ⟨_, rfl, ?_⟩; have HO372 := Aside0.mk (Kd.R_lower ho0 (keep_size (w := w) (g := g) (row := none) (by repeat (first | (with_reducible first | exact HK.out | apply KeepBut.set_ | apply keep_drewN | apply keep_drew | apply keep_alloc) | exact HK.out)))); replace HK := Aside0.mk (KeepBut.trans (by repeat (first | (with_reducible first | exact HK.out | apply KeepBut.set_ | apply keep_drewN | apply keep_drew | apply keep_alloc) | exact HK.out)) hk (.inl rfl)); replace HB := Aside0.mk (hb); replace HI0 := Aside0.mk (hi); (try clear hb); (try clear hb2); (try clear hk); (try clear hi); (try clear ho0); obtain ⟨Ao41, co41, eo41⟩ := Kd.R_slice HO372.out; subst eo41) | ((with_reducible refine gate_callee (f := 70) rfl ?_); refine goesL_ (some 14) rfl rfl Try.func70 (by kernel_rfl) rfl #[.pointer (some ⟨g, 0, none⟩), .int .i64 (t370.length : Int)] rfl Hd.m_ ?_; (with_reducible refine (spec_l1Below.calls g s0_0 t373 t374 (t370.length : Int) t375 t376 t377 w0 _ ?side1 ?side2 A6.out).mono ?_); (case side1 => repeat (first | (with_reducible first | exact HI0.out | apply IsS126.alloc | apply IsS126.drewN | apply IsS126.drew | apply IsS126.set_1 | apply IsS126.set_2) | exact HI0.out)); (case side2 => repeat (first | (with_reducible first | exact HB.out | apply below_alloc | apply pw_below_drewN | apply below_drew1 | refine below_set ?_ (IsS126.ge HI0.out)) | exact HB.out)); rintro e w42 ⟨rfl, hi, hb, hk⟩; refine ⟨_, rfl, ?_⟩; replace HO372 := Aside0.mk (Kd.R_mono (Kd.R_keep (IsS126.apart (show IsS126 w0 _ g s0_0 t373 t374 from by repeat (first | (with_reducible first | exact HI0.out | apply IsS126.alloc | apply IsS126.drewN | apply IsS126.drew | apply IsS126.set_1 | apply IsS126.set_2) | exact HI0.out)) (Hd.r_ HO372) (by decide)) hk (fun _ h => h.2)) (fun _ h => h.1)); replace HK := Aside0.mk (KeepBut.trans (by repeat (first | (with_reducible first | exact HK.out | apply KeepBut.set_ | apply keep_drewN | apply keep_drew | apply keep_alloc) | exact HK.out)) hk (.inl rfl)); replace HB := Aside0.mk (hb); replace HI0 := Aside0.mk (hi); (try clear hb); (try clear hb2); (try clear hk); (try clear hi)) | ((with_reducible refine gate_callee (f := 70) rfl ?_); refine goesL_ (some 16) rfl rfl Try.func70 (by kernel_rfl) rfl #[.pointer (some ⟨g, 0, none⟩), .int .i64 9] rfl Hd.m_ ?_; (with_reducible refine (spec_l1Below.calls g s0_0 t376 t377 9 t378 t379 t380 w0 _ ?side1 ?side2 A7.out).mono ?_); (case side1 => repeat (first | (with_reducible first | exact HI0.out | apply IsS126.alloc | apply IsS126.drewN | apply IsS126.drew | apply IsS126.set_1 | apply IsS126.set_2) | exact HI0.out)); (case side2 => repeat (first | (with_reducible first | exact HB.out | apply below_alloc | apply pw_below_drewN | apply below_drew1 | refine below_set ?_ (IsS126.ge HI0.out)) | exact HB.out)); rintro e w43 ⟨rfl, hi, hb, hk⟩; refine ⟨_, rfl, ?_⟩; replace HO372 := Aside0.mk (Kd.R_mono (Kd.R_keep (IsS126.apart (show IsS126 w0 _ g s0_0 t376 t377 from by repeat (first | (with_reducible first | exact HI0.out | apply IsS126.alloc | apply IsS126.drewN | apply IsS126.drew | apply IsS126.set_1 | apply IsS126.set_2) | exact HI0.out)) (Hd.r_ HO372) (by decide)) hk (fun _ h => h.2)) (fun _ h => h.1)); replace HK := Aside0.mk (KeepBut.trans (by repeat (first | (with_reducible first | exact HK.out | apply KeepBut.set_ | apply keep_drewN | apply keep_drew | apply keep_alloc) | exact HK.out)) hk (.inl rfl)); replace HB := Aside0.mk (hb); replace HI0 := Aside0.mk (hi); (try clear hb); (try clear hb2); (try clear hk); (try clear hi)) | ((with_reducible refine gate_dst (N := 39) rfl ?_); refine Kd.R_lit (Kd.int .i64) _ 3 ?hg (N := 39) ?hd (xs := ([(-1), 9, 10] : List Int)) (inner := [.int .i64 (-1), .int .i64 9, .int .i64 10]) (ok := fun _ => True) (okp := fun _ => True) ?hr ?hp (fun _ hk => hk) trivial (Below.refl _ _) (Nat.le_refl _) (by simp) ?_; (case hd => rfl); (case hg => rfl); (case hr => first | (go_simp; done) | (go_simp; rfl)); (case hp => exact (Reps.one (show Kd.M (Kd.int .i64) _ _ _ (-1) [.int .i64 (-1)] from rfl) (Reps.one (show Kd.M (Kd.int .i64) _ _ _ 9 [.int .i64 9] from rfl) (Reps.one (show Kd.M (Kd.int .i64) _ _ _ 10 [.int .i64 10] from rfl) (Reps.none _ _))))); intro v394 w44 ho45 hb hg_ hnew_; clear hg_ hnew_; (first | rw [← Ny393.out] at ho45 | (simp only [Int.reduceToNat] at ho45; rw [← Ny393.out] at ho45)); replace HO372 := Aside0.mk (Kd.R_below (Hd.r_ HO372) hb); have HO395 := Aside0.mk (Kd.R_lower ho45 (keep_size (w := w) (g := g) (row := none) (by repeat (first | (with_reducible first | exact HK.out | apply KeepBut.set_ | apply keep_drewN | apply keep_drew | apply keep_alloc) | exact HK.out)))); replace HK := Aside0.mk (KeepBut.trans (by repeat (first | (with_reducible first | exact HK.out | apply KeepBut.set_ | apply keep_drewN | apply keep_drew | apply keep_alloc) | exact HK.out)) (KeepBut.of_below hb g none) (.inl rfl)); replace HB := Aside0.mk (below_step (by repeat (first | (with_reducible first | exact HB.out | apply below_alloc | apply pw_below_drewN | apply below_drew1 | refine below_set ?_ (IsS126.ge HI0.out)) | exact HB.out)) hb); replace HI0 := Aside0.mk (IsS126.below (by repeat (first | (with_reducible first | exact HI0.out | apply IsS126.alloc | apply IsS126.drewN | apply IsS126.drew | apply IsS126.set_1 | apply IsS126.set_2) | exact HI0.out)) hb); clear hb ho45; obtain ⟨Ao46, co46, eo46⟩ := Kd.R_slice HO395.out; subst eo46) | ((with_reducible refine gate_callee (f := 96) rfl ?_); refine goesL_ (some 40) rfl rfl Try.func96 (by kernel_rfl) rfl #[.pointer (some ⟨g, 0, none⟩), .slice Ao46 y393.length co46] rfl Hd.m_ ?_; (with_reducible refine (spec_l1Int.calls g s0_0 t379 t380 _ _ y393 t396 t397 t398 w0 _ ?side1 ?side2 ?side3 ?side4 ?side5 A36.out).mono ?_); (case side1 => repeat (first | (with_reducible first | exact HI0.out | apply IsS126.alloc | apply IsS126.drewN | apply IsS126.drew | apply IsS126.set_1 | apply IsS126.set_2) | exact HI0.out)); (case side2 => repeat (first | (with_reducible first | exact HB.out | apply below_alloc | apply pw_below_drewN | apply below_drew1 | refine below_set ?_ (IsS126.ge HI0.out)) | exact HB.out)); (case side3 => repeat (first | exact (Kd.R_reads' HO395.out).2.2 | (with_reducible refine Kd.C_alloc ?_ _) | (with_reducible refine Kd.C_drewN ?_ _) | (with_reducible refine Kd.C_drew ?_))); (case side4 => exact (Kd.R_reads' HO395.out).2.1); (case side5 => exact far_slice (IsS126.own_ne HI0.out HO395.out (by decide))); rintro e w47 ⟨rfl, hi, hb, hk⟩; refine ⟨_, rfl, ?_⟩; replace HO372 := Aside0.mk (Kd.R_mono (Kd.R_keep (IsS126.apart (show IsS126 w0 _ g s0_0 t379 t380 from by repeat (first | (with_reducible first | exact HI0.out | apply IsS126.alloc | apply IsS126.drewN | apply IsS126.drew | apply IsS126.set_1 | apply IsS126.set_2) | exact HI0.out)) (Hd.r_ HO372) (by decide)) hk (fun _ h => h.2)) (fun _ h => h.1)); replace HO395 := Aside0.mk (Kd.R_mono (Kd.R_keep (IsS126.apart (show IsS126 w0 _ g s0_0 t379 t380 from by repeat (first | (with_reducible first | exact HI0.out | apply IsS126.alloc | apply IsS126.drewN | apply IsS126.drew | apply IsS126.set_1 | apply IsS126.set_2) | exact HI0.out)) (Hd.r_ HO395) (by decide)) hk (fun _ h => h.2)) (fun _ h => h.1)); replace HK := Aside0.mk (KeepBut.trans (by repeat (first | (with_reducible first | exact HK.out | apply KeepBut.set_ | apply keep_drewN | apply keep_drew | apply keep_alloc) | exact HK.out)) hk (.inl rfl)); replace HB := Aside0.mk (hb); replace HI0 := Aside0.mk (hi); (try clear hb); (try clear hb2); (try clear hk); (try clear hi); have p39 : 0 ≤ (t375 : Int) := of_decide_eq_true Hd.a_; have q39 : (t375 : Int) < ((t370.length : Int) : Int) := of_decide_eq_true Hd.a_; obtain ⟨go39, co39, eo39, gb39, gl39, cl39, HG39⟩ := Kd.R_form HO372.out (by omega); (first | cases eo39 | (injection eo39 with ea_ en_ ec_; (first | subst ea_ | (injection ea_ with ea_; subst ea_)); subst ec_; clear en_)); have GB39 := Aside0.mk gb39; have GG39 := Aside0.mk HG39; clear gb39 gl39 HG39; obtain ⟨ce39, hcl39, hM39, hcc39, hfr39⟩ := Kd.R_elem HO372.out z77 (t375 : Int) p39 q39; obtain rfl := k77_openM hM39; have hx39_0 : w47.cell? ⟨go39, (t375 : Int).toNat * 4, none⟩ = some (.int .i64 ((rd_T77 t370 t375).f0)) := hcc39 0 _ rfl; have hx39_1 : w47.cell? ⟨go39, (t375 : Int).toNat * 4 + 1, none⟩ = some (.int .i64 ((rd_T77 t370 t375).f1.f0)) := hcc39 1 _ rfl; have hx39_2 : w47.cell? ⟨go39, (t375 : Int).toNat * 4 + 2, none⟩ = some (.int .i64 ((rd_T77 t370 t375).f1.f1)) := hcc39 2 _ rfl; have hx39_3 : w47.cell? ⟨go39, (t375 : Int).toNat * 4 + 3, none⟩ = some (.int .i64 ((rd_T77 t370 t375).f2)) := hcc39 3 _ rfl; have hf39_0 : w47.frozen? ⟨go39, (t375 : Int).toNat * 4, none⟩ = false := hfr39 0; have hf39_1 : w47.frozen? ⟨go39, (t375 : Int).toNat * 4 + 1, none⟩ = false := hfr39 1; have hf39_2 : w47.frozen? ⟨go39, (t375 : Int).toNat * 4 + 2, none⟩ = false := hfr39 2; have hf39_3 : w47.frozen? ⟨go39, (t375 : Int).toNat * 4 + 3, none⟩ = false := hfr39 3; clear hcl39 hcc39 hfr39 hM39; replace p39 := eq_true p39; replace q39 := eq_true q39; have HX48 := Aside0.mk (show Kd.R k77 77 w47 w.heap.size (fun _ => True) (.slice (some ⟨go39, 0, none⟩) t370.length co41) t370 from (Hd.r_ HO372)); obtain ⟨ce48, hcl48, hM48, hcc48, hfr48⟩ := Kd.R_elem HX48.out z77 (t375 : Int) (of_decide_eq_true Hd.a_) (by have h_ : (t375 : Int) < ((t370.length : Int) : Int) := of_decide_eq_true Hd.a_; first | exact h_ | (have e_ := (Kd.R_reads' HO372.out).1; omega) | simpa using h_); obtain rfl := k77_openM hM48; have HP48 := Kd.R_seg HX48.out (t375 : Int) (of_decide_eq_true Hd.a_) (by have h_ : (t375 : Int) < ((t370.length : Int) : Int) := of_decide_eq_true Hd.a_; first | exact h_ | (have e_ := (Kd.R_reads' HO372.out).1; omega) | simpa using h_) (seg := [.int .i64 t396]) (j := 3) hcl48 hcc48 (show 4 ≤ 4 from by decide) (x' := (⟨(rd_T77 t370 t375).f0, (⟨(rd_T77 t370 t375).f1.f0, (rd_T77 t370 t375).f1.f1⟩ : S75), t396⟩ : S77)) (k77_mkM _ _ _ (⟨(rd_T77 t370 t375).f0, (⟨(rd_T77 t370 t375).f1.f0, (rd_T77 t370 t375).f1.f1⟩ : S75), t396⟩ : S77) ) (fun _ hk => hk); have hx48_3 := hcc48 3 _ rfl; (try simp only [show (k77).sz = 4 from rfl, Nat.mul_one, Nat.add_zero] at hx48_3); have hf48_3 := hfr48 3; (try simp only [show (k77).sz = 4 from rfl, Nat.mul_one, Nat.add_zero] at hf48_3); clear hcl48 hcc48 hfr48 hM48) | ((with_reducible refine gate_store (t := 3) (p := 42) rfl ?_); refine store_event (t := 3) (p := 42) (v := ?vo_w49) (w1 := (w47.setCell ⟨go39, (t375 : Int).toNat * 4 + 3, none⟩ (.int .i64 t396))) ?hg ?ho ?hn ?hr ?_; (case ho => rfl); (case hg => rfl); (case hn => rfl); (case hr => first | (go_simp; done) | (go_simp; rfl)); intro w49 hw; have hg : w47.grownBy w49 (some go39) := (by rw [hw]; exact HP48.2); have hp_ : Kd.R k77 77 w49 w.heap.size (fun _ => True) (.slice (some ⟨go39, 0, none⟩) t370.length co41) y399 := (by rw [hw, Ny399.out]; exact HP48.1); clear HP48; replace HI0 := Aside0.mk (IsS126.grown (Hd.as_ (fun W_ => IsS126 _ W_ _ _ _ _) HI0.out (by repeat (first | (with_reducible first | exact HI0.out | apply IsS126.alloc | apply IsS126.drewN | apply IsS126.drew | apply IsS126.set_1 | apply IsS126.set_2) | exact HI0.out))) hg (IsS126.own_ne HI0.out HO372.out (by decide))); replace HO395 := Aside0.mk (Kd.R_over' (v := (.slice (some ⟨go39, 0, none⟩) t370.length co41)) (Hd.r_ HO395) (Kd.R_typed HO372.out) (by decide) hg); replace HB := Aside0.mk ((by rw [hw]; exact below_set (HB.out) (Nat.le_trans HL.out GB39.out) : Below w0.heap.size w0 w49)); replace HK := Aside0.mk (KeepBut.trans (by repeat (first | (with_reducible first | exact HK.out | apply KeepBut.set_ | apply keep_drewN | apply keep_drew | apply keep_alloc) | exact HK.out)) (KeepBut.of_grown hg g) (Kd.R_base2 HO372.out)); replace HO372 := Aside0.mk (hp_); clear hg hw hp_))
       go_ret
       exact ⟨_, Hd.e_, by (with_reducible repeat (first | apply Kd.R_alloc | apply Kd.R_drewN | apply Kd.R_drew)); exact HO372.out, by repeat (first | (with_reducible first | exact HI0.out | apply IsS126.alloc | apply IsS126.drewN | apply IsS126.drew | apply IsS126.set_1 | apply IsS126.set_2) | exact HI0.out), by repeat (first | (with_reducible first | exact HB.out | apply below_alloc | apply pw_below_drewN | apply below_drew1 | refine below_set ?_ (IsS126.ge HI0.out)) | exact HB.out), by repeat (first | (with_reducible first | exact HK.out | apply KeepBut.set_ | apply keep_drewN | apply keep_drew | apply keep_alloc) | exact HK.out)⟩
      ·
       rw [if_neg c38] at H
       exact absurd H (by simp)
     ·
      rw [if_neg c37] at H
      exact absurd H (by simp)
    ·
     rw [if_neg c35] at H
     have c35b0 : (t378 == 2) = false := beq_eq_false_iff_ne.mpr c35
     have c35b1 : (t378 != 2) = true := bne_iff_ne.mpr c35
     simp only [Option.some.injEq, Prod.mk.injEq] at H
     obtain ⟨rfl, rfl, rfl⟩ := H
     go_enter Try.func95, Try.ntmps95
     go_wp2_with (first | ((with_reducible refine gate_callee (f := 120) rfl ?_); refine goesL_ (some 6) rfl rfl Try.func120 (by kernel_rfl) rfl #[.pointer (some ⟨g, 0, none⟩)] rfl Hd.m_ ?_; (with_reducible refine (spec_l14Draw.calls k g s0_0 s0_1 s0_2 t370 t373 t374 w0 _ ?side1 ?side2 A2.out).mono ?_); (case side1 => repeat (first | (with_reducible first | exact HI0.out | apply IsS126.alloc | apply IsS126.drewN | apply IsS126.drew | apply IsS126.set_1 | apply IsS126.set_2) | exact HI0.out)); (case side2 => repeat (first | (with_reducible first | exact HB.out | apply below_alloc | apply pw_below_drewN | apply below_drew1 | refine below_set ?_ (IsS126.ge HI0.out)) | exact HB.out)); rintro e w50 ⟨v371, rfl, ho0, hi, hb, hk⟩; refine ⟨_, rfl, ?_⟩; have HO372 := Aside0.mk (Kd.R_lower ho0 (keep_size (w := w) (g := g) (row := none) (by repeat (first | (with_reducible first | exact HK.out | apply KeepBut.set_ | apply keep_drewN | apply keep_drew | apply keep_alloc) | exact HK.out)))); replace HK := Aside0.mk (KeepBut.trans (by repeat (first | (with_reducible first | exact HK.out | apply KeepBut.set_ | apply keep_drewN | apply keep_drew | apply keep_alloc) | exact HK.out)) hk (.inl rfl)); replace HB := Aside0.mk (hb); replace HI0 := Aside0.mk (hi); (try clear hb); (try clear hb2); (try clear hk); (try clear hi); (try clear ho0); obtain ⟨Ao51, co51, eo51⟩ := Kd.R_slice HO372.out; subst eo51) | ((with_reducible refine gate_callee (f := 70) rfl ?_); refine goesL_ (some 14) rfl rfl Try.func70 (by kernel_rfl) rfl #[.pointer (some ⟨g, 0, none⟩), .int .i64 (t370.length : Int)] rfl Hd.m_ ?_; (with_reducible refine (spec_l1Below.calls g s0_0 t373 t374 (t370.length : Int) t375 t376 t377 w0 _ ?side1 ?side2 A6.out).mono ?_); (case side1 => repeat (first | (with_reducible first | exact HI0.out | apply IsS126.alloc | apply IsS126.drewN | apply IsS126.drew | apply IsS126.set_1 | apply IsS126.set_2) | exact HI0.out)); (case side2 => repeat (first | (with_reducible first | exact HB.out | apply below_alloc | apply pw_below_drewN | apply below_drew1 | refine below_set ?_ (IsS126.ge HI0.out)) | exact HB.out)); rintro e w52 ⟨rfl, hi, hb, hk⟩; refine ⟨_, rfl, ?_⟩; replace HO372 := Aside0.mk (Kd.R_mono (Kd.R_keep (IsS126.apart (show IsS126 w0 _ g s0_0 t373 t374 from by repeat (first | (with_reducible first | exact HI0.out | apply IsS126.alloc | apply IsS126.drewN | apply IsS126.drew | apply IsS126.set_1 | apply IsS126.set_2) | exact HI0.out)) (Hd.r_ HO372) (by decide)) hk (fun _ h => h.2)) (fun _ h => h.1)); replace HK := Aside0.mk (KeepBut.trans (by repeat (first | (with_reducible first | exact HK.out | apply KeepBut.set_ | apply keep_drewN | apply keep_drew | apply keep_alloc) | exact HK.out)) hk (.inl rfl)); replace HB := Aside0.mk (hb); replace HI0 := Aside0.mk (hi); (try clear hb); (try clear hb2); (try clear hk); (try clear hi)) | ((with_reducible refine gate_callee (f := 70) rfl ?_); refine goesL_ (some 16) rfl rfl Try.func70 (by kernel_rfl) rfl #[.pointer (some ⟨g, 0, none⟩), .int .i64 9] rfl Hd.m_ ?_; (with_reducible refine (spec_l1Below.calls g s0_0 t376 t377 9 t378 t379 t380 w0 _ ?side1 ?side2 A7.out).mono ?_); (case side1 => repeat (first | (with_reducible first | exact HI0.out | apply IsS126.alloc | apply IsS126.drewN | apply IsS126.drew | apply IsS126.set_1 | apply IsS126.set_2) | exact HI0.out)); (case side2 => repeat (first | (with_reducible first | exact HB.out | apply below_alloc | apply pw_below_drewN | apply below_drew1 | refine below_set ?_ (IsS126.ge HI0.out)) | exact HB.out)); rintro e w53 ⟨rfl, hi, hb, hk⟩; refine ⟨_, rfl, ?_⟩; replace HO372 := Aside0.mk (Kd.R_mono (Kd.R_keep (IsS126.apart (show IsS126 w0 _ g s0_0 t376 t377 from by repeat (first | (with_reducible first | exact HI0.out | apply IsS126.alloc | apply IsS126.drewN | apply IsS126.drew | apply IsS126.set_1 | apply IsS126.set_2) | exact HI0.out)) (Hd.r_ HO372) (by decide)) hk (fun _ h => h.2)) (fun _ h => h.1)); replace HK := Aside0.mk (KeepBut.trans (by repeat (first | (with_reducible first | exact HK.out | apply KeepBut.set_ | apply keep_drewN | apply keep_drew | apply keep_alloc) | exact HK.out)) hk (.inl rfl)); replace HB := Aside0.mk (hb); replace HI0 := Aside0.mk (hi); (try clear hb); (try clear hb2); (try clear hk); (try clear hi)))
     go_ret
     exact ⟨_, Hd.e_, by (with_reducible repeat (first | apply Kd.R_alloc | apply Kd.R_drewN | apply Kd.R_drew)); exact HO372.out, by repeat (first | (with_reducible first | exact HI0.out | apply IsS126.alloc | apply IsS126.drewN | apply IsS126.drew | apply IsS126.set_1 | apply IsS126.set_2) | exact HI0.out), by repeat (first | (with_reducible first | exact HB.out | apply below_alloc | apply pw_below_drewN | apply below_drew1 | refine below_set ?_ (IsS126.ge HI0.out)) | exact HB.out), by repeat (first | (with_reducible first | exact HK.out | apply KeepBut.set_ | apply keep_drewN | apply keep_drew | apply keep_alloc) | exact HK.out)⟩
def spec_DrawThinPlaces.f (k : Nat) (l0 : List Int) : Option ((List (S77)) × Int) := (spec_l1New.f k l0).bind fun bt400 => ((spec_l14Any.f k bt400.1 bt400.2.1 bt400.2.2).bind fun bt404 => ((spec_l1Int.f bt400.1 bt404.2.1 bt404.2.2 (([0, 1, 2, 4, 7, 200, 201, (-1)] : List Int))).bind fun bt412 => (some (bt404.1, bt412.1))))
set_option maxHeartbeats 8000000 in
set_option maxRecDepth 100000 in
theorem spec_DrawThinPlaces.calls (k : Nat) (A0 : Option Addr) (c0 : Nat) (l0 : List Int) (r1 : List (S77)) (r2 : Int) (w : World) (hr0 : Kd.C (Kd.int .u8) w A0 l0.length l0) (hc0 : l0.length ≤ c0) (h : spec_DrawThinPlaces.f k l0 = some (r1, r2)) :
  Calls Try.prog 47 #[.slice A0 l0.length c0] w fun e w' => ∃ v0_ : Value, e = .returned (.tuple #[v0_, .int .i64 r2]) ∧ Kd.R k77 77 w' w.heap.size (fun _ => True) v0_ r1 ∧ Below w.heap.size w w' := by
 have HR0 := Aside0.mk hr0
 have HC0 := Aside0.mk hc0
 clear hr0 hc0
 have HB := Aside0.mk (Below.refl w.heap.size w)
 have H : ((spec_l1New.f k l0).bind fun bt400 => ((spec_l14Any.f k bt400.1 bt400.2.1 bt400.2.2).bind fun bt404 => ((spec_l1Int.f bt400.1 bt404.2.1 bt404.2.2 (([0, 1, 2, 4, 7, 200, 201, (-1)] : List Int))).bind fun bt412 => (some (bt404.1, bt412.1))))) = some (r1, r2) := h
 clear h
 replace H := Option.bind_eq_some_iff.mp H
 obtain ⟨⟨t400, t401, t402⟩, A20, H⟩ := H
 replace H : ((spec_l14Any.f k t400 t401 t402).bind fun bt404 => ((spec_l1Int.f t400 bt404.2.1 bt404.2.2 (([0, 1, 2, 4, 7, 200, 201, (-1)] : List Int))).bind fun bt412 => (some (bt404.1, bt412.1)))) = some (r1, r2) := H
 have A2 := Aside0.mk A20
 clear A20
 replace H := Option.bind_eq_some_iff.mp H
 obtain ⟨⟨t404, t407, t408⟩, A30, H⟩ := H
 replace H : ((spec_l1Int.f t400 t407 t408 (([0, 1, 2, 4, 7, 200, 201, (-1)] : List Int))).bind fun bt412 => (some (t404, bt412.1))) = some (r1, r2) := H
 have A3 := Aside0.mk A30
 clear A30
 obtain ⟨y409, hy409⟩ : ∃ y_ : List Int, y_ = (([0, 1, 2, 4, 7, 200, 201, (-1)] : List Int)) := ⟨_, rfl⟩
 replace H : ((spec_l1Int.f t400 t407 t408 y409).bind fun bt412 => (some (t404, bt412.1))) = some (r1, r2) := by first | (rw [hy409]; with_reducible exact H) | (have H2_ := (Option.bind_some _ _).symm.trans H; rw [hy409]; with_reducible exact H2_) | (have H2_ := (Option.bind_some _ _).symm.trans H; with_reducible exact H2_) | with_reducible exact H | (rw [hy409]; exact H) | exact H
 have Ny409 := Aside0.mk hy409
 clear hy409
 replace H := Option.bind_eq_some_iff.mp H
 obtain ⟨⟨t412, t413, t414⟩, A40, H⟩ := H
 replace H : (some (t404, t412)) = some (r1, r2) := H
 have A4 := Aside0.mk A40
 clear A40
 simp only [Option.some.injEq, Prod.mk.injEq] at H
 obtain ⟨rfl, rfl⟩ := H
 go_enter Try.func47, Try.ntmps47
 go_wp2_with (first | ((with_reducible refine gate_callee (f := 66) rfl ?_); refine goesL_ (some 7) rfl rfl Try.func66 (by kernel_rfl) rfl #[.slice A0 l0.length c0] rfl Hd.m_ ?_; (with_reducible refine (spec_l1New.calls k _ _ l0 t400 t401 t402 w _ ?side1 ?side2 ?side3 A2.out).mono ?_); (case side1 => repeat (first | (with_reducible first | exact HB.out | apply below_alloc | apply pw_below_drewN | apply below_drew1) | exact HB.out)); (case side2 => exact HR0.out); (case side3 => exact HC0.out); rintro e w5 ⟨g403, rfl, hi, hb, hb2⟩; refine ⟨_, rfl, ?_⟩; replace HB := Aside0.mk (hb); have HI403 := Aside0.mk (hi); (try clear hb); (try clear hb2); (try clear hk); (try clear hi)) | ((with_reducible refine gate_callee (f := 95) rfl ?_); refine goesL_ (some 9) rfl rfl Try.func95 (by kernel_rfl) rfl #[.pointer (some ⟨g403, 0, none⟩)] rfl Hd.m_ ?_; (with_reducible refine (spec_l14Any.calls k g403 t400 t401 t402 t404 t407 t408 w _ ?side1 ?side2 A3.out).mono ?_); (case side1 => repeat (first | (with_reducible first | exact HI403.out | apply IsS126.alloc | apply IsS126.drewN | apply IsS126.drew | apply IsS126.set_1 | apply IsS126.set_2) | exact HI403.out)); (case side2 => repeat (first | (with_reducible first | exact HB.out | apply below_alloc | apply pw_below_drewN | apply below_drew1 | refine below_set ?_ (IsS126.ge HI403.out)) | exact HB.out)); rintro e w6 ⟨v405, rfl, ho0, hi, hb, hk⟩; refine ⟨_, rfl, ?_⟩; have HO406 := Aside0.mk (Kd.R_lower ho0 (below_size (by repeat (first | (with_reducible first | exact HB.out | apply below_alloc | apply pw_below_drewN | apply below_drew1 | refine below_set ?_ (IsS126.ge HI403.out)) | exact HB.out)))); replace HB := Aside0.mk (hb); replace HI403 := Aside0.mk (hi); (try clear hb); (try clear hb2); (try clear hk); (try clear hi); (try clear ho0)) | ((with_reducible refine gate_dst (N := 12) rfl ?_); refine Kd.R_lit (Kd.int .i64) _ 3 ?hg (N := 12) ?hd (xs := ([0, 1, 2, 4, 7, 200, 201, (-1)] : List Int)) (inner := [.int .i64 0, .int .i64 1, .int .i64 2, .int .i64 4, .int .i64 7, .int .i64 200, .int .i64 201, .int .i64 (-1)]) (ok := fun _ => True) (okp := fun _ => True) ?hr ?hp (fun _ hk => hk) trivial (Below.refl _ _) (Nat.le_refl _) (by simp) ?_; (case hd => rfl); (case hg => rfl); (case hr => first | (go_simp; done) | (go_simp; rfl)); (case hp => exact (Reps.one (show Kd.M (Kd.int .i64) _ _ _ 0 [.int .i64 0] from rfl) (Reps.one (show Kd.M (Kd.int .i64) _ _ _ 1 [.int .i64 1] from rfl) (Reps.one (show Kd.M (Kd.int .i64) _ _ _ 2 [.int .i64 2] from rfl) (Reps.one (show Kd.M (Kd.int .i64) _ _ _ 4 [.int .i64 4] from rfl) (Reps.one (show Kd.M (Kd.int .i64) _ _ _ 7 [.int .i64 7] from rfl) (Reps.one (show Kd.M (Kd.int .i64) _ _ _ 200 [.int .i64 200] from rfl) (Reps.one (show Kd.M (Kd.int .i64) _ _ _ 201 [.int .i64 201] from rfl) (Reps.one (show Kd.M (Kd.int .i64) _ _ _ (-1) [.int .i64 (-1)] from rfl) (Reps.none _ _)))))))))); intro v410 w7 ho8 hb hg_ hnew_; clear hg_ hnew_; (first | rw [← Ny409.out] at ho8 | (simp only [Int.reduceToNat] at ho8; rw [← Ny409.out] at ho8)); replace HO406 := Aside0.mk (Kd.R_below (Hd.r_ HO406) hb); have HO411 := Aside0.mk (Kd.R_lower ho8 (below_size (by repeat (first | (with_reducible first | exact HB.out | apply below_alloc | apply pw_below_drewN | apply below_drew1 | refine below_set ?_ (IsS126.ge HI403.out)) | exact HB.out)))); replace HB := Aside0.mk (below_step (by repeat (first | (with_reducible first | exact HB.out | apply below_alloc | apply pw_below_drewN | apply below_drew1 | refine below_set ?_ (IsS126.ge HI403.out)) | exact HB.out)) hb); replace HI403 := Aside0.mk (IsS126.below (by repeat (first | (with_reducible first | exact HI403.out | apply IsS126.alloc | apply IsS126.drewN | apply IsS126.drew | apply IsS126.set_1 | apply IsS126.set_2) | exact HI403.out)) hb); clear hb ho8; obtain ⟨Ao9, co9, eo9⟩ := Kd.R_slice HO411.out; subst eo9) | ((with_reducible refine gate_callee (f := 96) rfl ?_); refine goesL_ (some 13) rfl rfl Try.func96 (by kernel_rfl) rfl #[.pointer (some ⟨g403, 0, none⟩), .slice Ao9 y409.length co9] rfl Hd.m_ ?_; (with_reducible refine (spec_l1Int.calls g403 t400 t407 t408 _ _ y409 t412 t413 t414 w _ ?side1 ?side2 ?side3 ?side4 ?side5 A4.out).mono ?_); (case side1 => repeat (first | (with_reducible first | exact HI403.out | apply IsS126.alloc | apply IsS126.drewN | apply IsS126.drew | apply IsS126.set_1 | apply IsS126.set_2) | exact HI403.out)); (case side2 => repeat (first | (with_reducible first | exact HB.out | apply below_alloc | apply pw_below_drewN | apply below_drew1 | refine below_set ?_ (IsS126.ge HI403.out)) | exact HB.out)); (case side3 => repeat (first | exact (Kd.R_reads' HO411.out).2.2 | (with_reducible refine Kd.C_alloc ?_ _) | (with_reducible refine Kd.C_drewN ?_ _) | (with_reducible refine Kd.C_drew ?_))); (case side4 => exact (Kd.R_reads' HO411.out).2.1); (case side5 => exact far_slice (IsS126.own_ne HI403.out HO411.out (by decide))); rintro e w10 ⟨rfl, hi, hb, hk⟩; refine ⟨_, rfl, ?_⟩; replace HO406 := Aside0.mk (Kd.R_mono (Kd.R_keep (IsS126.apart (show IsS126 w _ g403 t400 t407 t408 from by repeat (first | (with_reducible first | exact HI403.out | apply IsS126.alloc | apply IsS126.drewN | apply IsS126.drew | apply IsS126.set_1 | apply IsS126.set_2) | exact HI403.out)) (Hd.r_ HO406) (by decide)) hk (fun _ h => h.2)) (fun _ h => h.1)); replace HO411 := Aside0.mk (Kd.R_mono (Kd.R_keep (IsS126.apart (show IsS126 w _ g403 t400 t407 t408 from by repeat (first | (with_reducible first | exact HI403.out | apply IsS126.alloc | apply IsS126.drewN | apply IsS126.drew | apply IsS126.set_1 | apply IsS126.set_2) | exact HI403.out)) (Hd.r_ HO411) (by decide)) hk (fun _ h => h.2)) (fun _ h => h.1)); replace HB := Aside0.mk (hb); replace HI403 := Aside0.mk (hi); (try clear hb); (try clear hb2); (try clear hk); (try clear hi)))
 go_ret2
 exact ⟨_, Hd.e_, by (with_reducible repeat (first | apply Kd.R_alloc | apply Kd.R_drewN | apply Kd.R_drew)); exact HO406.out, by repeat (first | (with_reducible first | exact HB.out | apply below_alloc | apply pw_below_drewN | apply below_drew1 | refine below_set ?_ (IsS126.ge HI403.out)) | exact HB.out)⟩
def laws_ascends.l0 : Nat → List Int → Int → Option (Bool)
 | 0, _, _ => none
 | k + 1, x0, x3 => if x3 < (x0.length : Int) then (if 0 ≤ (wrap64 (x3 - 1)) then (if (wrap64 (x3 - 1)) < (x0.length : Int) then (if 0 ≤ x3 then (if (rd x0 (wrap64 (x3 - 1))) ≥ (rd x0 x3) then (some false) else (laws_ascends.l0 k x0 (wrap64 (x3 + 1)))) else (none)) else (none)) else (none)) else (some true)
def laws_ascends.f (k : Nat) (l0 : List Int) : Option (Bool) := laws_ascends.l0 k l0 1
set_option maxHeartbeats 8000000 in
set_option maxRecDepth 100000 in
theorem laws_ascends.calls (k : Nat) (A0 : Option Addr) (c0 : Nat) (l0 : List Int) (r : Bool) (w : World) (hr0 : Kd.C (Kd.int .i64) w A0 l0.length l0) (hc0 : l0.length ≤ c0) (h : laws_ascends.f k l0 = some r) :
  Calls Try.prog 48 #[.slice A0 l0.length c0] w fun e w' => e = .returned (.bool r) ∧ Drawn0 w w' := by
 have HR0 := Aside0.mk hr0
 have HC0 := Aside0.mk hc0
 clear hr0 hc0
 have H : (laws_ascends.l0 k l0 1) = some r := h
 clear h
 have H' := Aside0.mk H
 clear H
 go_enter Try.func48, Try.ntmps48
 go_wp2
 repeat (go_quiet (fail); try go_wp2)
 go_loopg [3] k (fun kq v3 w' => ∃ (x3_1 : Int), v3 = .int .i64 x3_1 ∧ Aside0 (laws_ascends.l0 kq l0 x3_1 = some r) ∧ Aside0 (kq ≤ k) ∧ Drawn0 w w')
 case atStart => exact ⟨(1), (by first | rfl | (simp; done) | (simp [*]; done)), H', ⟨Nat.le_refl _⟩, by repeat (first | exact Drawn0.refl _ | apply Drawn0.step)⟩
 case round =>
  clear H'
  obtain ⟨x3_1, rfl, HA, HK1, ⟨m1, rfl⟩⟩ := hrel
  cases gk with
  | zero => exact absurd HA.out (by simp [laws_ascends.l0])
  | succ k1 =>
   have H := HA.out
   clear HA
   simp only [laws_ascends.l0] at H
   by_cases c2 : x3_1 < (l0.length : Int)
   ·
    rw [if_pos c2] at H
    have c2b0 : decide (x3_1 < (l0.length : Int)) = true := decide_eq_true c2
    clear c2
    obtain ⟨ji3, hji3⟩ : ∃ j_ : Int, (wrap64 (x3_1 - 1)) = j_ := ⟨_, rfl⟩
    replace H : (if 0 ≤ (ji3) then (if (ji3) < (l0.length : Int) then (if 0 ≤ x3_1 then (if (rd l0 (ji3)) ≥ (rd l0 x3_1) then (some false) else (laws_ascends.l0 k1 l0 (wrap64 (x3_1 + 1)))) else (none)) else (none)) else (none)) = some r := by first | (rw [hji3] at H; exact H) | (simp only [hji3] at H ⊢; exact H)
    have hji3w : (IntKind.i64.wrap (x3_1 - 1)) = ji3 := (i64_w _).trans hji3
    by_cases c4 : 0 ≤ (ji3)
    ·
     rw [if_pos c4] at H
     have c4b0 : decide (0 ≤ (ji3)) = true := decide_eq_true c4
     clear c4
     by_cases c5 : (ji3) < (l0.length : Int)
     ·
      rw [if_pos c5] at H
      have c5b0 : decide ((ji3) < (l0.length : Int)) = true := decide_eq_true c5
      clear c5
      by_cases c6 : 0 ≤ x3_1
      ·
       rw [if_pos c6] at H
       have c6b0 : decide (0 ≤ x3_1) = true := decide_eq_true c6
       clear c6
       by_cases c7 : (rd l0 (ji3)) ≥ (rd l0 x3_1)
       ·
        rw [if_pos c7] at H
        have c7b0 : decide ((rd l0 x3_1) ≤ (rd l0 (ji3))) = true := decide_eq_true c7
        clear c7
        obtain rfl := Option.some.inj H
        have p415 : 0 ≤ ((ji3) : Int) := of_decide_eq_true Hd.a_
        have q415 : (ji3) < (l0.length : Int) := of_decide_eq_true Hd.a_
        obtain ⟨ad415, e415, hx415_0⟩ := Kd.at_int HR0.out (ji3) p415 q415
        cases e415
        replace p415 := eq_true p415
        replace q415 := eq_true q415
        have p416 : 0 ≤ (x3_1 : Int) := of_decide_eq_true Hd.a_
        have q416 : x3_1 < (l0.length : Int) := of_decide_eq_true Hd.a_
        obtain ⟨ad416, e416, hx416_0⟩ := Kd.at_int HR0.out x3_1 p416 q416
        obtain rfl : ad415 = ad416 := (by injection e416)
        replace p416 := eq_true p416
        replace q416 := eq_true q416
        go_wp2
        repeat (go_quiet (fail); try go_wp2)
        go_ret
        exact ⟨by first | rfl | (simp; done) | (simp only [← hji3] <;> (first | rfl | simp)) | (simp [*]; done), by repeat (first | exact Drawn0.refl _ | apply Drawn0.step)⟩
       ·
        rw [if_neg c7] at H
        have c7b0 : decide ((rd l0 x3_1) ≤ (rd l0 (ji3))) = false := decide_eq_false c7
        clear c7
        have H' := Aside0.mk H
        clear H
        have p415 : 0 ≤ ((ji3) : Int) := of_decide_eq_true Hd.a_
        have q415 : (ji3) < (l0.length : Int) := of_decide_eq_true Hd.a_
        obtain ⟨ad415, e415, hx415_0⟩ := Kd.at_int HR0.out (ji3) p415 q415
        cases e415
        replace p415 := eq_true p415
        replace q415 := eq_true q415
        have p416 : 0 ≤ (x3_1 : Int) := of_decide_eq_true Hd.a_
        have q416 : x3_1 < (l0.length : Int) := of_decide_eq_true Hd.a_
        obtain ⟨ad416, e416, hx416_0⟩ := Kd.at_int HR0.out x3_1 p416 q416
        obtain rfl : ad415 = ad416 := (by injection e416)
        replace p416 := eq_true p416
        replace q416 := eq_true q416
        go_wp2
        repeat (go_quiet (fail); try go_wp2)
        go_roundg k1
        case measure => have := HK1.out; omega
        case rel => exact ⟨(wrap64 (x3_1 + 1)), (by first | rfl | (simp; done) | (simp [*]; done)), H', ⟨by have := HK1.out; omega⟩, by repeat (first | exact Drawn0.refl _ | apply Drawn0.step)⟩
      ·
       rw [if_neg c6] at H
       exact absurd H (by simp)
     ·
      rw [if_neg c5] at H
      exact absurd H (by simp)
    ·
     rw [if_neg c4] at H
     exact absurd H (by simp)
   ·
    rw [if_neg c2] at H
    have c2b0 : decide (x3_1 < (l0.length : Int)) = false := decide_eq_false c2
    clear c2
    obtain rfl := Option.some.inj H
    go_wp2
    repeat (go_quiet (fail); try go_wp2)
    go_ret
    exact ⟨by first | rfl | (simp; done) | (simp [*]; done), by repeat (first | exact Drawn0.refl _ | apply Drawn0.step)⟩
def laws_contains.l0 : Nat → List Int → Int → Int → Option (Bool)
 | 0, _, _, _ => none
 | k + 1, x0, x1, x5 => if x5 < (x0.length : Int) then (if 0 ≤ x5 then (if (rd x0 x5) = x1 then (some true) else (laws_contains.l0 k x0 x1 (wrap64 (x5 + 1)))) else (none)) else (some false)
def laws_contains.f (k : Nat) (l0 : List Int) (a1 : Int) : Option (Bool) := laws_contains.l0 k l0 a1 0
set_option maxHeartbeats 8000000 in
set_option maxRecDepth 100000 in
theorem laws_contains.calls (k : Nat) (A0 : Option Addr) (c0 : Nat) (l0 : List Int) (a1 : Int) (r : Bool) (w : World) (hr0 : Kd.C (Kd.int .i64) w A0 l0.length l0) (hc0 : l0.length ≤ c0) (h : laws_contains.f k l0 a1 = some r) :
  Calls Try.prog 49 #[.slice A0 l0.length c0, .int .i64 a1] w fun e w' => e = .returned (.bool r) ∧ Drawn0 w w' := by
 have HR0 := Aside0.mk hr0
 have HC0 := Aside0.mk hc0
 clear hr0 hc0
 have H : (laws_contains.l0 k l0 a1 0) = some r := h
 clear h
 have H' := Aside0.mk H
 clear H
 go_enter Try.func49, Try.ntmps49
 go_wp2
 go_loopg [5] k (fun kq v5 w' => ∃ (x5_1 : Int), v5 = .int .i64 x5_1 ∧ Aside0 (laws_contains.l0 kq l0 a1 x5_1 = some r) ∧ Aside0 (kq ≤ k) ∧ Drawn0 w w')
 case atStart => exact ⟨(0), (by first | rfl | (simp; done) | (simp [*]; done)), H', ⟨Nat.le_refl _⟩, by repeat (first | exact Drawn0.refl _ | apply Drawn0.step)⟩
 case round =>
  clear H'
  try clear p2
  obtain ⟨x5_1, rfl, HA, HK1, ⟨m1, rfl⟩⟩ := hrel
  cases gk with
  | zero => exact absurd HA.out (by simp [laws_contains.l0])
  | succ k1 =>
   have H := HA.out
   clear HA
   simp only [laws_contains.l0] at H
   by_cases c3 : x5_1 < (l0.length : Int)
   ·
    rw [if_pos c3] at H
    have c3b0 : decide (x5_1 < (l0.length : Int)) = true := decide_eq_true c3
    clear c3
    by_cases c4 : 0 ≤ x5_1
    ·
     rw [if_pos c4] at H
     have c4b0 : decide (0 ≤ x5_1) = true := decide_eq_true c4
     clear c4
     by_cases c5 : (rd l0 x5_1) = a1
     ·
      rw [if_pos c5] at H
      have c5b0 : ((rd l0 x5_1) == a1) = true := beq_iff_eq.mpr c5
      have c5b1 : ((rd l0 x5_1) != a1) = false := bne_eq_false_iff_eq.mpr c5
      clear c5
      obtain rfl := Option.some.inj H
      have p417 : 0 ≤ (x5_1 : Int) := of_decide_eq_true Hd.a_
      have q417 : x5_1 < (l0.length : Int) := of_decide_eq_true Hd.a_
      obtain ⟨ad417, e417, hx417_0⟩ := Kd.at_int HR0.out x5_1 p417 q417
      cases e417
      replace p417 := eq_true p417
      replace q417 := eq_true q417
      go_wp2
      go_ret
      exact ⟨by first | rfl | (simp; done) | (simp [*]; done), by repeat (first | exact Drawn0.refl _ | apply Drawn0.step)⟩
     ·
      rw [if_neg c5] at H
      have c5b0 : ((rd l0 x5_1) == a1) = false := beq_eq_false_iff_ne.mpr c5
      have c5b1 : ((rd l0 x5_1) != a1) = true := bne_iff_ne.mpr c5
      have H' := Aside0.mk H
      clear H
      have p417 : 0 ≤ (x5_1 : Int) := of_decide_eq_true Hd.a_
      have q417 : x5_1 < (l0.length : Int) := of_decide_eq_true Hd.a_
      obtain ⟨ad417, e417, hx417_0⟩ := Kd.at_int HR0.out x5_1 p417 q417
      cases e417
      replace p417 := eq_true p417
      replace q417 := eq_true q417
      go_wp2
      go_roundg k1
      case measure => have := HK1.out; omega
      case rel => exact ⟨(wrap64 (x5_1 + 1)), (by first | rfl | (simp; done) | (simp [*]; done)), H', ⟨by have := HK1.out; omega⟩, by repeat (first | exact Drawn0.refl _ | apply Drawn0.step)⟩
    ·
     rw [if_neg c4] at H
     exact absurd H (by simp)
   ·
    rw [if_neg c3] at H
    have c3b0 : decide (x5_1 < (l0.length : Int)) = false := decide_eq_false c3
    clear c3
    obtain rfl := Option.some.inj H
    go_wp2
    go_ret
    exact ⟨by first | rfl | (simp; done) | (simp [*]; done), by repeat (first | exact Drawn0.refl _ | apply Drawn0.step)⟩
def spec_DrawIsAbove.f (k : Nat) (l0 : List Int) : Option (Int × Int × Int × Int × Int × Int × Int × Int) := (spec_l1New.f k l0).bind fun bt420 => ((spec_l1Below.f bt420.1 bt420.2.1 bt420.2.2 3).bind fun bt424 => ((spec_l1Below.f bt420.1 bt424.2.1 bt424.2.2 3).bind fun bt427 => ((spec_l1Below.f bt420.1 bt427.2.1 bt427.2.2 3).bind fun bt431 => ((spec_l1Below.f bt420.1 bt431.2.1 bt431.2.2 3).bind fun bt434 => (some (wrap64 (1 + bt424.1), 0, 0, bt427.1, wrap64 (1 + bt431.1), 0, 0, bt434.1))))))
def spec_DrawIsAbove.T3 : Bool × List (List Nat × List Nat) := (true, [([], []), ([], []), ([1], [1]), ([2], [2]), ([], []), ([4, 2], [4]), ([3, 5], [3, 5]), ([0, 5, 0], [0]), ([6, 7, 0, 1, 2, 3, 4, 5, 6, 7], [6])])
def spec_DrawIsAbove.B3 : List Nat := [0, 0, 2, 6, 0, 22, 62, 55, 255]
theorem spec_DrawIsAbove.tab3 : rtab .any (opsOf Try.f52 3) = spec_DrawIsAbove.T3 := by kernel_rfl
theorem spec_DrawIsAbove.bits3 : waitsOk spec_DrawIsAbove.T3.2 spec_DrawIsAbove.B3 = true := by kernel_rfl
set_option maxHeartbeats 8000000 in
set_option maxRecDepth 100000 in
theorem spec_DrawIsAbove.calls (k : Nat) (A0 : Option Addr) (c0 : Nat) (l0 : List Int) (r1 : Int) (r2 : Int) (r3 : Int) (r4 : Int) (r5 : Int) (r6 : Int) (r7 : Int) (r8 : Int) (w : World) (hr0 : Kd.C (Kd.int .u8) w A0 l0.length l0) (hc0 : l0.length ≤ c0) (h : spec_DrawIsAbove.f k l0 = some (r1, r2, r3, r4, r5, r6, r7, r8)) :
  Calls Try.prog 52 #[.slice A0 l0.length c0] w fun e w' => e = .returned (.tuple #[.agg #[.int .i64 r1, .int .i64 r2, .int .i64 r3, .int .i64 r4], .agg #[.int .i64 r5, .int .i64 r6, .int .i64 r7, .int .i64 r8]]) ∧ Below w.heap.size w w' := by
 have hu77 := Try.underlying77
 have HR0 := Aside0.mk hr0
 have HC0 := Aside0.mk hc0
 clear hr0 hc0
 have HB := Aside0.mk (Below.refl w.heap.size w)
 have H : ((spec_l1New.f k l0).bind fun bt420 => ((spec_l1Below.f bt420.1 bt420.2.1 bt420.2.2 3).bind fun bt424 => ((spec_l1Below.f bt420.1 bt424.2.1 bt424.2.2 3).bind fun bt427 => ((spec_l1Below.f bt420.1 bt427.2.1 bt427.2.2 3).bind fun bt431 => ((spec_l1Below.f bt420.1 bt431.2.1 bt431.2.2 3).bind fun bt434 => (some (wrap64 (1 + bt424.1), 0, 0, bt427.1, wrap64 (1 + bt431.1), 0, 0, bt434.1))))))) = some (r1, r2, r3, r4, r5, r6, r7, r8) := h
 clear h
 replace H := Option.bind_eq_some_iff.mp H
 obtain ⟨⟨t420, t421, t422⟩, A20, H⟩ := H
 replace H : ((spec_l1Below.f t420 t421 t422 3).bind fun bt424 => ((spec_l1Below.f t420 bt424.2.1 bt424.2.2 3).bind fun bt427 => ((spec_l1Below.f t420 bt427.2.1 bt427.2.2 3).bind fun bt431 => ((spec_l1Below.f t420 bt431.2.1 bt431.2.2 3).bind fun bt434 => (some (wrap64 (1 + bt424.1), 0, 0, bt427.1, wrap64 (1 + bt431.1), 0, 0, bt434.1)))))) = some (r1, r2, r3, r4, r5, r6, r7, r8) := H
 have A2 := Aside0.mk A20
 clear A20
 replace H := Option.bind_eq_some_iff.mp H
 obtain ⟨⟨t424, t425, t426⟩, A30, H⟩ := H
 replace H : ((spec_l1Below.f t420 t425 t426 3).bind fun bt427 => ((spec_l1Below.f t420 bt427.2.1 bt427.2.2 3).bind fun bt431 => ((spec_l1Below.f t420 bt431.2.1 bt431.2.2 3).bind fun bt434 => (some (wrap64 (1 + t424), 0, 0, bt427.1, wrap64 (1 + bt431.1), 0, 0, bt434.1))))) = some (r1, r2, r3, r4, r5, r6, r7, r8) := H
 have A3 := Aside0.mk A30
 clear A30
 replace H := Option.bind_eq_some_iff.mp H
 obtain ⟨⟨t427, t428, t429⟩, A40, H⟩ := H
 replace H : ((spec_l1Below.f t420 t428 t429 3).bind fun bt431 => ((spec_l1Below.f t420 bt431.2.1 bt431.2.2 3).bind fun bt434 => (some (wrap64 (1 + t424), 0, 0, t427, wrap64 (1 + bt431.1), 0, 0, bt434.1)))) = some (r1, r2, r3, r4, r5, r6, r7, r8) := H
 have A4 := Aside0.mk A40
 clear A40
 replace H := Option.bind_eq_some_iff.mp H
 obtain ⟨⟨t431, t432, t433⟩, A50, H⟩ := H
 replace H : ((spec_l1Below.f t420 t432 t433 3).bind fun bt434 => (some (wrap64 (1 + t424), 0, 0, t427, wrap64 (1 + t431), 0, 0, bt434.1))) = some (r1, r2, r3, r4, r5, r6, r7, r8) := H
 have A5 := Aside0.mk A50
 clear A50
 replace H := Option.bind_eq_some_iff.mp H
 obtain ⟨⟨t434, t435, t436⟩, A60, H⟩ := H
 replace H : (some (wrap64 (1 + t424), 0, 0, t427, wrap64 (1 + t431), 0, 0, t434)) = some (r1, r2, r3, r4, r5, r6, r7, r8) := H
 have A6 := Aside0.mk A60
 clear A60
 simp only [Option.some.injEq, Prod.mk.injEq] at H
 obtain ⟨rfl, rfl, rfl, rfl, rfl, rfl, rfl, rfl⟩ := H
 go_enter Try.func52, Try.ntmps52
 try go_wp2_with (first | ((with_reducible refine gate_dst (N := 2) rfl ?_); refine Hd.box_ 2 (#[.int .i64 0, .int .i64 0, .int .i64 0, .int .i64 0]) 77 ?_; intro gb418 hg w7 hbox hb; have BK418 := Aside0.mk (hbox); have GW418 := Aside0.mk ((Hd.g_ hg Hd.b_ : w.heap.size ≤ gb418)); have GE418 := Aside0.mk ((Hd.g_ hg Hd.b_ : w.heap.size ≤ gb418)); replace HB := Aside0.mk (below_step Hd.b_ hb); clear hb hbox hg) | ((with_reducible refine gate_dst (N := 3) rfl ?_); refine Hd.box_ 3 (#[.int .i64 0, .int .i64 0, .int .i64 0, .int .i64 0]) 77 ?_; intro gb419 hg w8 hbox hb; have BK419 := Aside0.mk (hbox); have GW419 := Aside0.mk ((Hd.g_ hg Hd.b_ : w.heap.size ≤ gb419)); have GE419 := Aside0.mk ((Hd.g_ hg Hd.b_ : w.heap.size ≤ gb419)); replace HB := Aside0.mk (below_step Hd.b_ hb); have NB418_419 := Aside0.mk ((Hd.lt_ BK418 hg)); have NB419_418 := Aside0.mk ((Hd.gt_ BK418 hg)); replace BK418 := Aside0.mk (Hd.kb_ BK418 hb); clear hb hbox hg) | ((with_reducible refine gate_callee (f := 66) rfl ?_); refine goesL_ (some 7) rfl rfl Try.func66 (by kernel_rfl) rfl #[.slice A0 l0.length c0] rfl Hd.m_ ?_; (with_reducible refine (spec_l1New.calls k _ _ l0 t420 t421 t422 w _ ?side1 ?side2 ?side3 A2.out).mono ?_); (case side1 => repeat (first | (with_reducible first | exact HB.out | apply below_alloc | apply pw_below_drewN | apply below_drew1 | refine below_set ?_ GE418.out | refine below_set ?_ GE419.out) | exact HB.out)); (case side2 => exact HR0.out); (case side3 => exact HC0.out); rintro e w9 ⟨g423, rfl, hi, hb, hb2⟩; refine ⟨_, rfl, ?_⟩; replace HB := Aside0.mk (hb); have HI423 := Aside0.mk (hi); have NB423_418 := Aside0.mk (IsS126.ne_blk hi (blk_below (g := gb418) (o := .cells #[.int .i64 0, .int .i64 0, .int .i64 0, .int .i64 0] 77 (0, 0)) (Hd.k_ BK418) hb2) (by decide)); have NB418_423 := Aside0.mk (Ne.symm (IsS126.ne_blk hi (blk_below (g := gb418) (o := .cells #[.int .i64 0, .int .i64 0, .int .i64 0, .int .i64 0] 77 (0, 0)) (Hd.k_ BK418) hb2) (by decide))); replace BK418 := Aside0.mk (blk_below (g := gb418) (o := .cells #[.int .i64 0, .int .i64 0, .int .i64 0, .int .i64 0] 77 (0, 0)) (Hd.k_ BK418) hb2); have NB423_419 := Aside0.mk (IsS126.ne_blk hi (blk_below (g := gb419) (o := .cells #[.int .i64 0, .int .i64 0, .int .i64 0, .int .i64 0] 77 (0, 0)) (Hd.k_ BK419) hb2) (by decide)); have NB419_423 := Aside0.mk (Ne.symm (IsS126.ne_blk hi (blk_below (g := gb419) (o := .cells #[.int .i64 0, .int .i64 0, .int .i64 0, .int .i64 0] 77 (0, 0)) (Hd.k_ BK419) hb2) (by decide))); replace BK419 := Aside0.mk (blk_below (g := gb419) (o := .cells #[.int .i64 0, .int .i64 0, .int .i64 0, .int .i64 0] 77 (0, 0)) (Hd.k_ BK419) hb2); (try clear hb); (try clear hb2); (try clear hk); (try clear hi)) | ((with_reducible refine gate_callee (f := 70) rfl ?_); refine goesL_ (some 9) rfl rfl Try.func70 (by kernel_rfl) rfl #[.pointer (some ⟨g423, 0, none⟩), .int .i64 3] rfl Hd.m_ ?_; (with_reducible refine (spec_l1Below.calls g423 t420 t421 t422 3 t424 t425 t426 w _ ?side1 ?side2 A3.out).mono ?_); (case side1 => repeat (first | (with_reducible first | exact HI423.out | apply IsS126.alloc | apply IsS126.drewN | apply IsS126.drew | apply IsS126.set_1 | apply IsS126.set_2 | refine IsS126.far ?_ NB423_418.out _ | refine IsS126.far ?_ NB423_419.out _) | exact HI423.out)); (case side2 => repeat (first | (with_reducible first | exact HB.out | apply below_alloc | apply pw_below_drewN | apply below_drew1 | refine below_set ?_ (IsS126.ge HI423.out) | refine below_set ?_ GE418.out | refine below_set ?_ GE419.out) | exact HB.out)); rintro e w10 ⟨rfl, hi, hb, hk⟩; refine ⟨_, rfl, ?_⟩; replace BK418 := Aside0.mk (KeepBut.blk hk (g' := gb418) (o := .cells #[.int .i64 0, .int .i64 0, .int .i64 0, .int .i64 0] 77 (0, 0)) (Hd.k_ BK418) NB418_423.out (by simp)); replace BK419 := Aside0.mk (KeepBut.blk hk (g' := gb419) (o := .cells #[.int .i64 0, .int .i64 0, .int .i64 0, .int .i64 0] 77 (0, 0)) (Hd.k_ BK419) NB419_423.out (by simp)); replace HB := Aside0.mk (hb); replace HI423 := Aside0.mk (hi); (try clear hb); (try clear hb2); (try clear hk); (try clear hi)) | ((with_reducible refine gate_callee (f := 70) rfl ?_); refine goesL_ (some 12) rfl rfl Try.func70 (by kernel_rfl) rfl #[.pointer (some ⟨g423, 0, none⟩), .int .i64 3] rfl Hd.m_ ?_; (with_reducible refine (spec_l1Below.calls g423 t420 t425 t426 3 t427 t428 t429 w _ ?side1 ?side2 A4.out).mono ?_); (case side1 => repeat (first | (with_reducible first | exact HI423.out | apply IsS126.alloc | apply IsS126.drewN | apply IsS126.drew | apply IsS126.set_1 | apply IsS126.set_2 | refine IsS126.far ?_ NB423_418.out _ | refine IsS126.far ?_ NB423_419.out _) | exact HI423.out)); (case side2 => repeat (first | (with_reducible first | exact HB.out | apply below_alloc | apply pw_below_drewN | apply below_drew1 | refine below_set ?_ (IsS126.ge HI423.out) | refine below_set ?_ GE418.out | refine below_set ?_ GE419.out) | exact HB.out)); rintro e w11 ⟨rfl, hi, hb, hk⟩; refine ⟨_, rfl, ?_⟩; replace BK418 := Aside0.mk (KeepBut.blk hk (g' := gb418) (o := .cells #[.int .i64 0, .int .i64 0, .int .i64 0, .int .i64 0] 77 (0, 0)) (Hd.k_ BK418) NB418_423.out (by simp)); replace BK419 := Aside0.mk (KeepBut.blk hk (g' := gb419) (o := .cells #[.int .i64 0, .int .i64 0, .int .i64 0, .int .i64 0] 77 (0, 0)) (Hd.k_ BK419) NB419_423.out (by simp)); replace HB := Aside0.mk (hb); replace HI423 := Aside0.mk (hi); (try clear hb); (try clear hb2); (try clear hk); (try clear hi)) | ((with_reducible refine gate_dst (N := 5) rfl ?_); refine Hd.box_ 5 (#[.int .i64 0, .int .i64 0, .int .i64 0, .int .i64 0]) 77 ?_; intro gb430 hg w12 hbox hb; have BK430 := Aside0.mk (hbox); have GW430 := Aside0.mk ((by rw [hg]; exact (below_size (by repeat (first | (with_reducible first | exact HB.out | apply below_alloc | apply pw_below_drewN | apply below_drew1 | refine below_set ?_ (IsS126.ge HI423.out) | refine below_set ?_ GE418.out | refine below_set ?_ GE419.out) | exact HB.out))) : w.heap.size ≤ gb430)); have GE430 := Aside0.mk ((by rw [hg]; exact (below_size (by repeat (first | (with_reducible first | exact HB.out | apply below_alloc | apply pw_below_drewN | apply below_drew1 | refine below_set ?_ (IsS126.ge HI423.out) | refine below_set ?_ GE418.out | refine below_set ?_ GE419.out) | exact HB.out))) : w.heap.size ≤ gb430)); replace HB := Aside0.mk (below_step (by repeat (first | (with_reducible first | exact HB.out | apply below_alloc | apply pw_below_drewN | apply below_drew1 | refine below_set ?_ (IsS126.ge HI423.out) | refine below_set ?_ GE418.out | refine below_set ?_ GE419.out) | exact HB.out)) hb); have NB418_430 := Aside0.mk ((Hd.lt_ BK418 hg)); have NB430_418 := Aside0.mk ((Hd.gt_ BK418 hg)); replace BK418 := Aside0.mk (Hd.kb_ BK418 hb); have NB419_430 := Aside0.mk ((Hd.lt_ BK419 hg)); have NB430_419 := Aside0.mk ((Hd.gt_ BK419 hg)); replace BK419 := Aside0.mk (Hd.kb_ BK419 hb); have NB423_430 := Aside0.mk ((by rw [hg]; exact Nat.ne_of_lt (IsS126.lt (show IsS126 w _ g423 t420 t428 t429 from by repeat (first | (with_reducible first | exact HI423.out | apply IsS126.alloc | apply IsS126.drewN | apply IsS126.drew | apply IsS126.set_1 | apply IsS126.set_2 | refine IsS126.far ?_ NB423_418.out _ | refine IsS126.far ?_ NB423_419.out _) | exact HI423.out))) : g423 ≠ gb430)); have NB430_423 := Aside0.mk ((by rw [hg]; exact Nat.ne_of_gt (IsS126.lt (show IsS126 w _ g423 t420 t428 t429 from by repeat (first | (with_reducible first | exact HI423.out | apply IsS126.alloc | apply IsS126.drewN | apply IsS126.drew | apply IsS126.set_1 | apply IsS126.set_2 | refine IsS126.far ?_ NB423_418.out _ | refine IsS126.far ?_ NB423_419.out _) | exact HI423.out))) : gb430 ≠ g423)); replace HI423 := Aside0.mk (IsS126.below (by repeat (first | (with_reducible first | exact HI423.out | apply IsS126.alloc | apply IsS126.drewN | apply IsS126.drew | apply IsS126.set_1 | apply IsS126.set_2 | refine IsS126.far ?_ NB423_418.out _ | refine IsS126.far ?_ NB423_419.out _) | exact HI423.out)) hb); clear hb hbox hg; have hnb13 := NB430_418.out; have hnc13 := NB418_430.out; have hnb14 := NB430_419.out; have hnc14 := NB419_430.out; have hnb15 := NB430_423.out; have hnc15 := NB423_430.out; obtain ⟨hcz16_0, hcz16_1, hcz16_2, hcz16_3⟩ := Hd.c4_ BK430.out; obtain ⟨hfz16_0, hfz16_1, hfz16_2, hfz16_3⟩ := Hd.f4_ BK430.out))
 have n0_ : Aside0 (((((w12.setCell ⟨gb430, 0, none⟩ (.int .i64 (wrap64 (1 + t424)))).setCell ⟨gb430, 1, none⟩ (.int .i64 0)).setCell ⟨gb430, 2, none⟩ (.int .i64 0)).setCell ⟨gb430, 3, none⟩ (.int .i64 t427)).heap[gb418]? = some (.cells #[.int .i64 0, .int .i64 0, .int .i64 0, .int .i64 0] 77 (0, 0))) := ⟨by (with_reducible repeat (first | refine blk_drewN ?_ _ | refine blk_drew ?_ | refine blk_alloc ?_ _)); refine blk_far ?_ NB418_430.out _; (with_reducible repeat (first | refine blk_drewN ?_ _ | refine blk_drew ?_ | refine blk_alloc ?_ _)); refine blk_far ?_ NB418_430.out _; (with_reducible repeat (first | refine blk_drewN ?_ _ | refine blk_drew ?_ | refine blk_alloc ?_ _)); refine blk_far ?_ NB418_430.out _; (with_reducible repeat (first | refine blk_drewN ?_ _ | refine blk_drew ?_ | refine blk_alloc ?_ _)); refine blk_far ?_ NB418_430.out _; (with_reducible repeat (first | refine blk_drewN ?_ _ | refine blk_drew ?_ | refine blk_alloc ?_ _)); exact BK418.out⟩
 have n1_ : Aside0 (((((w12.setCell ⟨gb430, 0, none⟩ (.int .i64 (wrap64 (1 + t424)))).setCell ⟨gb430, 1, none⟩ (.int .i64 0)).setCell ⟨gb430, 2, none⟩ (.int .i64 0)).setCell ⟨gb430, 3, none⟩ (.int .i64 t427)).heap[gb419]? = some (.cells #[.int .i64 0, .int .i64 0, .int .i64 0, .int .i64 0] 77 (0, 0))) := ⟨by (with_reducible repeat (first | refine blk_drewN ?_ _ | refine blk_drew ?_ | refine blk_alloc ?_ _)); refine blk_far ?_ NB419_430.out _; (with_reducible repeat (first | refine blk_drewN ?_ _ | refine blk_drew ?_ | refine blk_alloc ?_ _)); refine blk_far ?_ NB419_430.out _; (with_reducible repeat (first | refine blk_drewN ?_ _ | refine blk_drew ?_ | refine blk_alloc ?_ _)); refine blk_far ?_ NB419_430.out _; (with_reducible repeat (first | refine blk_drewN ?_ _ | refine blk_drew ?_ | refine blk_alloc ?_ _)); refine blk_far ?_ NB419_430.out _; (with_reducible repeat (first | refine blk_drewN ?_ _ | refine blk_drew ?_ | refine blk_alloc ?_ _)); exact BK419.out⟩
 have n2_ : Aside0 (((((w12.setCell ⟨gb430, 0, none⟩ (.int .i64 (wrap64 (1 + t424)))).setCell ⟨gb430, 1, none⟩ (.int .i64 0)).setCell ⟨gb430, 2, none⟩ (.int .i64 0)).setCell ⟨gb430, 3, none⟩ (.int .i64 t427)).heap[gb430]? = some (.cells #[.int .i64 (wrap64 (1 + t424)), .int .i64 0, .int .i64 0, .int .i64 t427] 77 (0, 0))) := ⟨by (with_reducible repeat (first | refine blk_drewN ?_ _ | refine blk_drew ?_ | refine blk_alloc ?_ _)); refine blk_put (cs := #[.int .i64 (wrap64 (1 + t424)), .int .i64 0, .int .i64 0, .int .i64 0]) ?_ 3 _ rfl; (with_reducible repeat (first | refine blk_drewN ?_ _ | refine blk_drew ?_ | refine blk_alloc ?_ _)); refine blk_put (cs := #[.int .i64 (wrap64 (1 + t424)), .int .i64 0, .int .i64 0, .int .i64 0]) ?_ 2 _ rfl; (with_reducible repeat (first | refine blk_drewN ?_ _ | refine blk_drew ?_ | refine blk_alloc ?_ _)); refine blk_put (cs := #[.int .i64 (wrap64 (1 + t424)), .int .i64 0, .int .i64 0, .int .i64 0]) ?_ 1 _ rfl; (with_reducible repeat (first | refine blk_drewN ?_ _ | refine blk_drew ?_ | refine blk_alloc ?_ _)); refine blk_put (cs := #[.int .i64 0, .int .i64 0, .int .i64 0, .int .i64 0]) ?_ 0 _ rfl; (with_reducible repeat (first | refine blk_drewN ?_ _ | refine blk_drew ?_ | refine blk_alloc ?_ _)); exact BK430.out⟩
 have n3_ : Aside0 (IsS126 w ((((w12.setCell ⟨gb430, 0, none⟩ (.int .i64 (wrap64 (1 + t424)))).setCell ⟨gb430, 1, none⟩ (.int .i64 0)).setCell ⟨gb430, 2, none⟩ (.int .i64 0)).setCell ⟨gb430, 3, none⟩ (.int .i64 t427)) g423 t420 t428 t429) := ⟨by repeat (first | (with_reducible first | exact HI423.out | apply IsS126.alloc | apply IsS126.drewN | apply IsS126.drew | apply IsS126.set_1 | apply IsS126.set_2 | refine IsS126.far ?_ NB423_418.out _ | refine IsS126.far ?_ NB423_419.out _ | refine IsS126.far ?_ NB423_430.out _) | exact HI423.out)⟩
 have n4_ : Aside0 (Below w.heap.size w ((((w12.setCell ⟨gb430, 0, none⟩ (.int .i64 (wrap64 (1 + t424)))).setCell ⟨gb430, 1, none⟩ (.int .i64 0)).setCell ⟨gb430, 2, none⟩ (.int .i64 0)).setCell ⟨gb430, 3, none⟩ (.int .i64 t427))) := ⟨by repeat (first | (with_reducible first | exact HB.out | apply below_alloc | apply pw_below_drewN | apply below_drew1 | refine below_set ?_ (IsS126.ge HI423.out) | refine below_set ?_ GE418.out | refine below_set ?_ GE419.out | refine below_set ?_ GE430.out) | exact HB.out)⟩
 (try clear BK418)
 (try clear BK419)
 (try clear BK430)
 (try clear HI423)
 (try clear HB)
 generalize ((((w12.setCell ⟨gb430, 0, none⟩ (.int .i64 (wrap64 (1 + t424)))).setCell ⟨gb430, 1, none⟩ (.int .i64 0)).setCell ⟨gb430, 2, none⟩ (.int .i64 0)).setCell ⟨gb430, 3, none⟩ (.int .i64 t427)) = w17 at n0_ n1_ n2_ n3_ n4_ ⊢
 have BK418 := n0_
 have BK419 := n1_
 have BK430 := n2_
 have HI423 := n3_
 have HB := n4_
 clear n0_ n1_ n2_ n3_ n4_
 replace BK418 := Aside0.mk (blk_drew BK418.out)
 replace BK419 := Aside0.mk (blk_drew BK419.out)
 replace BK430 := Aside0.mk (blk_drew BK430.out)
 replace HI423 := Aside0.mk (IsS126.drew HI423.out)
 replace HB := Aside0.mk (below_drew1 HB.out)
 refine start_ (n := 9) (S := fun w' => w'.cell? ⟨gb430, 0, none⟩ = some (.int .i64 (wrap64 (1 + t424))) ∧ w'.cell? ⟨gb430, 1, none⟩ = some (.int .i64 0) ∧ w'.cell? ⟨gb430, 2, none⟩ = some (.int .i64 0) ∧ w'.cell? ⟨gb430, 3, none⟩ = some (.int .i64 t427)) (ds := []) #[false, false, false, false, false, false, false, false, false] (by kernel_rfl) rfl rfl ⟨(blk_cell BK430.out 0).trans rfl, (blk_cell BK430.out 1).trans rfl, (blk_cell BK430.out 2).trans rfl, (blk_cell BK430.out 3).trans rfl⟩ (fun hHeld => ?_); refine with_tabW spec_DrawIsAbove.tab3 spec_DrawIsAbove.bits3 (fun HT_ HW_ => ?_)
 generalize w17.drew = w18 at BK418 BK419 BK430 HI423 HB hHeld ⊢
 refine Hd.p_ HT_ 1 (some 15) #[false, true, false, false, false, false, false, false, false] ?_
 refine Hd.p_ HT_ 4 (some 18) #[false, true, false, false, true, false, false, false, false] ?_
 refine Hd.t_ HT_ HW_ hHeld 0 (some 14) #[true, true, false, false, true, false, false, false, false] ?_
 refine Hd.o_ HT_ 2 (some 16) #[true, true, true, false, true, false, false, false, false] (fun K hK => ?_)
 refine goes_ Try.func70 (by kernel_rfl) rfl #[.pointer (some ⟨g423, 0, none⟩), .int .i64 3] (by rfl) rfl rfl Hd.m_ ?_
 with_reducible refine (spec_l1Below.calls g423 t420 t428 t429 3 t431 t432 t433 w _ ?side1 ?side2 A5.out).mono ?_
 (case side1 => repeat (first | (with_reducible first | exact HI423.out | apply IsS126.alloc | apply IsS126.drewN | apply IsS126.drew | apply IsS126.set_1 | apply IsS126.set_2 | refine IsS126.far ?_ NB423_418.out _ | refine IsS126.far ?_ NB423_419.out _ | refine IsS126.far ?_ NB423_430.out _) | exact HI423.out))
 (case side2 => repeat (first | (with_reducible first | exact HB.out | apply below_alloc | apply pw_below_drewN | apply below_drew1 | refine below_set ?_ (IsS126.ge HI423.out) | refine below_set ?_ GE418.out | refine below_set ?_ GE419.out | refine below_set ?_ GE430.out) | exact HB.out))
 rintro e w19 ⟨rfl, hi, hb, hk⟩
 refine ⟨_, rfl, ?_⟩
 replace BK418 := Aside0.mk (KeepBut.blk hk (g' := gb418) (o := .cells #[.int .i64 0, .int .i64 0, .int .i64 0, .int .i64 0] 77 (0, 0)) (Hd.k_ BK418) NB418_423.out (by simp))
 replace BK419 := Aside0.mk (KeepBut.blk hk (g' := gb419) (o := .cells #[.int .i64 0, .int .i64 0, .int .i64 0, .int .i64 0] 77 (0, 0)) (Hd.k_ BK419) NB419_423.out (by simp))
 replace BK430 := Aside0.mk (KeepBut.blk hk (g' := gb430) (o := .cells #[.int .i64 (wrap64 (1 + t424)), .int .i64 0, .int .i64 0, .int .i64 t427] 77 (0, 0)) (Hd.k_ BK430) NB430_423.out (by simp))
 replace HB := Aside0.mk (hb)
 replace HI423 := Aside0.mk (hi)
 (try clear hb)
 (try clear hb2)
 (try clear hk)
 (try clear hi)
 refine hK.out _ _ ⟨(blk_cell BK430.out 0).trans rfl, (blk_cell BK430.out 1).trans rfl, (blk_cell BK430.out 2).trans rfl, (blk_cell BK430.out 3).trans rfl⟩ (fun hHeld => ?_)
 clear hK K
 refine Hd.n_ (some 16) ?_
 refine Hd.p_ HT_ 3 (some 17) #[true, true, true, true, true, false, false, false, false] ?_
 refine Hd.o_ HT_ 5 (some 19) #[true, true, true, true, true, true, false, false, false] (fun K hK => ?_)
 refine goes_ Try.func70 (by kernel_rfl) rfl #[.pointer (some ⟨g423, 0, none⟩), .int .i64 3] (by rfl) rfl rfl Hd.m_ ?_
 with_reducible refine (spec_l1Below.calls g423 t420 t432 t433 3 t434 t435 t436 w _ ?side1 ?side2 A6.out).mono ?_
 (case side1 => repeat (first | (with_reducible first | exact HI423.out | apply IsS126.alloc | apply IsS126.drewN | apply IsS126.drew | apply IsS126.set_1 | apply IsS126.set_2 | refine IsS126.far ?_ NB423_418.out _ | refine IsS126.far ?_ NB423_419.out _ | refine IsS126.far ?_ NB423_430.out _) | exact HI423.out))
 (case side2 => repeat (first | (with_reducible first | exact HB.out | apply below_alloc | apply pw_below_drewN | apply below_drew1 | refine below_set ?_ (IsS126.ge HI423.out) | refine below_set ?_ GE418.out | refine below_set ?_ GE419.out | refine below_set ?_ GE430.out) | exact HB.out))
 rintro e w20 ⟨rfl, hi, hb, hk⟩
 refine ⟨_, rfl, ?_⟩
 replace BK418 := Aside0.mk (KeepBut.blk hk (g' := gb418) (o := .cells #[.int .i64 0, .int .i64 0, .int .i64 0, .int .i64 0] 77 (0, 0)) (Hd.k_ BK418) NB418_423.out (by simp))
 replace BK419 := Aside0.mk (KeepBut.blk hk (g' := gb419) (o := .cells #[.int .i64 0, .int .i64 0, .int .i64 0, .int .i64 0] 77 (0, 0)) (Hd.k_ BK419) NB419_423.out (by simp))
 replace BK430 := Aside0.mk (KeepBut.blk hk (g' := gb430) (o := .cells #[.int .i64 (wrap64 (1 + t424)), .int .i64 0, .int .i64 0, .int .i64 t427] 77 (0, 0)) (Hd.k_ BK430) NB430_423.out (by simp))
 replace HB := Aside0.mk (hb)
 replace HI423 := Aside0.mk (hi)
 (try clear hb)
 (try clear hb2)
 (try clear hk)
 (try clear hi)
 refine hK.out _ _ ⟨(blk_cell BK430.out 0).trans rfl, (blk_cell BK430.out 1).trans rfl, (blk_cell BK430.out 2).trans rfl, (blk_cell BK430.out 3).trans rfl⟩ (fun hHeld => ?_)
 clear hK K
 refine Hd.n_ (some 19) ?_
 refine Hd.p_ HT_ 6 (some 20) #[true, true, true, true, true, true, true, false, false] ?_
 refine Hd.o_ HT_ 7 (none) #[true, true, true, true, true, true, true, true, false] (fun K hK => ?_)
 have hs21 : w20.cell? ⟨gb418, 0, none⟩ = some (.int .i64 0) := (blk_cell BK418.out 0).trans rfl
 have hfs21 := blk_frozen BK418.out 0
 have hns21_1 := NB419_418.out
 have hns21_2 := NB430_418.out
 have hms21_1 := NB418_419.out
 have hms21_2 := NB418_430.out
 have hs22 : w20.cell? ⟨gb418, 1, none⟩ = some (.int .i64 0) := (blk_cell BK418.out 1).trans rfl
 have hfs22 := blk_frozen BK418.out 1
 have hns22_1 := NB419_418.out
 have hns22_2 := NB430_418.out
 have hms22_1 := NB418_419.out
 have hms22_2 := NB418_430.out
 have hs23 : w20.cell? ⟨gb418, 2, none⟩ = some (.int .i64 0) := (blk_cell BK418.out 2).trans rfl
 have hfs23 := blk_frozen BK418.out 2
 have hns23_1 := NB419_418.out
 have hns23_2 := NB430_418.out
 have hms23_1 := NB418_419.out
 have hms23_2 := NB418_430.out
 have hs24 : w20.cell? ⟨gb418, 3, none⟩ = some (.int .i64 0) := (blk_cell BK418.out 3).trans rfl
 have hfs24 := blk_frozen BK418.out 3
 have hns24_1 := NB419_418.out
 have hns24_2 := NB430_418.out
 have hms24_1 := NB418_419.out
 have hms24_2 := NB418_430.out
 refine skip_ (w1 := ?_) (by rfl) rfl ?_ ?_
 rotate_left
 ·
  go_simp
  rfl
 refine hK.out _ _ ⟨((cell_far (p := ⟨gb418, _, none⟩) NB430_418.out _).trans (((cell_far (p := ⟨gb418, _, none⟩) NB430_418.out _).trans (((cell_far (p := ⟨gb418, _, none⟩) NB430_418.out _).trans (((cell_far (p := ⟨gb418, _, none⟩) NB430_418.out _).trans (hHeld.1)))))))), ((cell_far (p := ⟨gb418, _, none⟩) NB430_418.out _).trans (((cell_far (p := ⟨gb418, _, none⟩) NB430_418.out _).trans (((cell_far (p := ⟨gb418, _, none⟩) NB430_418.out _).trans (((cell_far (p := ⟨gb418, _, none⟩) NB430_418.out _).trans (hHeld.2.1)))))))), ((cell_far (p := ⟨gb418, _, none⟩) NB430_418.out _).trans (((cell_far (p := ⟨gb418, _, none⟩) NB430_418.out _).trans (((cell_far (p := ⟨gb418, _, none⟩) NB430_418.out _).trans (((cell_far (p := ⟨gb418, _, none⟩) NB430_418.out _).trans (hHeld.2.2.1)))))))), ((cell_far (p := ⟨gb418, _, none⟩) NB430_418.out _).trans (((cell_far (p := ⟨gb418, _, none⟩) NB430_418.out _).trans (((cell_far (p := ⟨gb418, _, none⟩) NB430_418.out _).trans (((cell_far (p := ⟨gb418, _, none⟩) NB430_418.out _).trans (hHeld.2.2.2))))))))⟩ (fun hHeld => ?_)
 clear hK K
 refine Hd.o_ HT_ 8 (none) #[true, true, true, true, true, true, true, true, true] (fun K hK => ?_)
 have hs25 : w20.cell? ⟨gb419, 0, none⟩ = some (.int .i64 0) := (blk_cell BK419.out 0).trans rfl
 have hfs25 := blk_frozen BK419.out 0
 have hns25_0 := NB418_419.out
 have hns25_2 := NB430_419.out
 have hms25_0 := NB419_418.out
 have hms25_2 := NB419_430.out
 have hs26 : w20.cell? ⟨gb419, 1, none⟩ = some (.int .i64 0) := (blk_cell BK419.out 1).trans rfl
 have hfs26 := blk_frozen BK419.out 1
 have hns26_0 := NB418_419.out
 have hns26_2 := NB430_419.out
 have hms26_0 := NB419_418.out
 have hms26_2 := NB419_430.out
 have hs27 : w20.cell? ⟨gb419, 2, none⟩ = some (.int .i64 0) := (blk_cell BK419.out 2).trans rfl
 have hfs27 := blk_frozen BK419.out 2
 have hns27_0 := NB418_419.out
 have hns27_2 := NB430_419.out
 have hms27_0 := NB419_418.out
 have hms27_2 := NB419_430.out
 have hs28 : w20.cell? ⟨gb419, 3, none⟩ = some (.int .i64 0) := (blk_cell BK419.out 3).trans rfl
 have hfs28 := blk_frozen BK419.out 3
 have hns28_0 := NB418_419.out
 have hns28_2 := NB430_419.out
 have hms28_0 := NB419_418.out
 have hms28_2 := NB419_430.out
 refine skip_ (w1 := ?_) (by rfl) rfl ?_ ?_
 rotate_left
 ·
  go_simp
  rfl
 refine hK.out _ _ ⟨((cell_far (p := ⟨gb419, _, none⟩) NB430_419.out _).trans (((cell_far (p := ⟨gb419, _, none⟩) NB430_419.out _).trans (((cell_far (p := ⟨gb419, _, none⟩) NB430_419.out _).trans (((cell_far (p := ⟨gb419, _, none⟩) NB430_419.out _).trans (hHeld.1)))))))), ((cell_far (p := ⟨gb419, _, none⟩) NB430_419.out _).trans (((cell_far (p := ⟨gb419, _, none⟩) NB430_419.out _).trans (((cell_far (p := ⟨gb419, _, none⟩) NB430_419.out _).trans (((cell_far (p := ⟨gb419, _, none⟩) NB430_419.out _).trans (hHeld.2.1)))))))), ((cell_far (p := ⟨gb419, _, none⟩) NB430_419.out _).trans (((cell_far (p := ⟨gb419, _, none⟩) NB430_419.out _).trans (((cell_far (p := ⟨gb419, _, none⟩) NB430_419.out _).trans (((cell_far (p := ⟨gb419, _, none⟩) NB430_419.out _).trans (hHeld.2.2.1)))))))), ((cell_far (p := ⟨gb419, _, none⟩) NB430_419.out _).trans (((cell_far (p := ⟨gb419, _, none⟩) NB430_419.out _).trans (((cell_far (p := ⟨gb419, _, none⟩) NB430_419.out _).trans (((cell_far (p := ⟨gb419, _, none⟩) NB430_419.out _).trans (hHeld.2.2.2))))))))⟩ (fun hHeld => ?_)
 clear hK K
 refine done_ (done_of HT_.out (by kernel_rfl)) ?_
 try go_wp2
 refine bodyPost_ret (results_cc rfl _ _ gb418 gb419 77 77 #[.int .i64 (wrap64 (1 + t424)), .int .i64 0, .int .i64 0, .int .i64 t427] #[.int .i64 (wrap64 (1 + t431)), .int .i64 0, .int .i64 0, .int .i64 t434] (0, 0) (0, 0) _ _ rfl (by (with_reducible repeat (first | refine blk_drewN ?_ _ | refine blk_drew ?_ | refine blk_alloc ?_ _)); refine blk_far ?_ NB418_419.out _; (with_reducible repeat (first | refine blk_drewN ?_ _ | refine blk_drew ?_ | refine blk_alloc ?_ _)); refine blk_far ?_ NB418_419.out _; (with_reducible repeat (first | refine blk_drewN ?_ _ | refine blk_drew ?_ | refine blk_alloc ?_ _)); refine blk_far ?_ NB418_419.out _; (with_reducible repeat (first | refine blk_drewN ?_ _ | refine blk_drew ?_ | refine blk_alloc ?_ _)); refine blk_far ?_ NB418_419.out _; (with_reducible repeat (first | refine blk_drewN ?_ _ | refine blk_drew ?_ | refine blk_alloc ?_ _)); refine blk_put (cs := #[.int .i64 (wrap64 (1 + t424)), .int .i64 0, .int .i64 0, .int .i64 0]) ?_ 3 _ rfl; (with_reducible repeat (first | refine blk_drewN ?_ _ | refine blk_drew ?_ | refine blk_alloc ?_ _)); refine blk_put (cs := #[.int .i64 (wrap64 (1 + t424)), .int .i64 0, .int .i64 0, .int .i64 0]) ?_ 2 _ rfl; (with_reducible repeat (first | refine blk_drewN ?_ _ | refine blk_drew ?_ | refine blk_alloc ?_ _)); refine blk_put (cs := #[.int .i64 (wrap64 (1 + t424)), .int .i64 0, .int .i64 0, .int .i64 0]) ?_ 1 _ rfl; (with_reducible repeat (first | refine blk_drewN ?_ _ | refine blk_drew ?_ | refine blk_alloc ?_ _)); refine blk_put (cs := #[.int .i64 0, .int .i64 0, .int .i64 0, .int .i64 0]) ?_ 0 _ rfl; (with_reducible repeat (first | refine blk_drewN ?_ _ | refine blk_drew ?_ | refine blk_alloc ?_ _)); exact BK418.out) Try.underlying77 rfl (by kernel_rfl) rfl (by (with_reducible repeat (first | refine blk_drewN ?_ _ | refine blk_drew ?_ | refine blk_alloc ?_ _)); refine blk_put (cs := #[.int .i64 (wrap64 (1 + t431)), .int .i64 0, .int .i64 0, .int .i64 0]) ?_ 3 _ rfl; (with_reducible repeat (first | refine blk_drewN ?_ _ | refine blk_drew ?_ | refine blk_alloc ?_ _)); refine blk_put (cs := #[.int .i64 (wrap64 (1 + t431)), .int .i64 0, .int .i64 0, .int .i64 0]) ?_ 2 _ rfl; (with_reducible repeat (first | refine blk_drewN ?_ _ | refine blk_drew ?_ | refine blk_alloc ?_ _)); refine blk_put (cs := #[.int .i64 (wrap64 (1 + t431)), .int .i64 0, .int .i64 0, .int .i64 0]) ?_ 1 _ rfl; (with_reducible repeat (first | refine blk_drewN ?_ _ | refine blk_drew ?_ | refine blk_alloc ?_ _)); refine blk_put (cs := #[.int .i64 0, .int .i64 0, .int .i64 0, .int .i64 0]) ?_ 0 _ rfl; (with_reducible repeat (first | refine blk_drewN ?_ _ | refine blk_drew ?_ | refine blk_alloc ?_ _)); refine blk_far ?_ NB419_418.out _; (with_reducible repeat (first | refine blk_drewN ?_ _ | refine blk_drew ?_ | refine blk_alloc ?_ _)); refine blk_far ?_ NB419_418.out _; (with_reducible repeat (first | refine blk_drewN ?_ _ | refine blk_drew ?_ | refine blk_alloc ?_ _)); refine blk_far ?_ NB419_418.out _; (with_reducible repeat (first | refine blk_drewN ?_ _ | refine blk_drew ?_ | refine blk_alloc ?_ _)); refine blk_far ?_ NB419_418.out _; (with_reducible repeat (first | refine blk_drewN ?_ _ | refine blk_drew ?_ | refine blk_alloc ?_ _)); exact BK419.out) Try.underlying77 rfl (by kernel_rfl)) rfl ?_
 exact ⟨Hd.e_, by repeat (first | (with_reducible first | exact HB.out | apply below_alloc | apply pw_below_drewN | apply below_drew1 | refine below_set ?_ (IsS126.ge HI423.out) | refine below_set ?_ GE418.out | refine below_set ?_ GE419.out | refine below_set ?_ GE430.out) | exact HB.out)⟩
end Go.Proofs.Ytbackoeakepngab.MFnThinned
