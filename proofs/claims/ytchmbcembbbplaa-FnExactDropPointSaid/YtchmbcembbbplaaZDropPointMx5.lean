-- Laid by this session's program pp.py, after the kit's print and texts of the session's own. Not trusted: Lean checks it.
import Derived.Test.YtchmbcembbbplaaZDropPointMx0
import Derived.Test.YtchmbcembbbplaaZDropPointMx2
import Derived.Test.YtchmbcembbbplaaZDropPointMx3
import Derived.Test.YtchmbcembbbplaaZDropPointMx4
namespace Go.Proofs.Ytchmbcembbbplaa.MFnExactDropPoint
open Go.RowKit Go.Proofs.YtchmbcembbbplaaW.PrintWords Go.Proofs.YtchmbcembbbplaaW.PrintLast Go.Proofs.YtchmbcembbbplaaW.PrintMore
attribute [local go_sem] max2_int min2_int max_two min_two max_three min_three max_four min_four   -- for this text's walks alone
set_option linter.unusedVariables false
set_option linter.unusedSimpArgs false
mutual
def laws_FnExactDropPoint.j0 : Nat → List (S40) → Int → List (S44) → Bool → List (S44) → List (S44) → Bool → Bool → Option (Bool)
 | 0, _, _, _, _, _, _, _, _ => none
 | k + 1, x0, x1, x6, x7, x8, x9, x10, x44 => if x44 = true then (some false) else ((laws_toPointS.f k x0).bind fun t202 => ((laws_eqPointS.f k x8 t202).bind fun t205 => (if t205 = true then ((laws_markPointS.f k x8 1).bind fun bt206 => (if bt206.1 < 0 then (laws_FnExactDropPoint.j1 k x0 x1 x6 x7 x9 true) else ((laws_eqPointS.f k x9 x6).bind fun t208 => (if t208 = true then (laws_FnExactDropPoint.j1 k x0 x1 x6 x7 x9 (x10 != x7)) else (laws_FnExactDropPoint.j1 k x0 x1 x6 x7 x9 true))))) else (some false))))
def laws_FnExactDropPoint.j1 : Nat → List (S40) → Int → List (S44) → Bool → List (S44) → Bool → Option (Bool)
 | 0, _, _, _, _, _, _ => none
 | k + 1, x0, x1, x6, x7, x9, x65 => if x65 = true then (some false) else ((laws_markPointS.f k x9 1).bind fun bt209 => ((laws_heldPointS.f k bt209.2 1).bind fun t211 => (if t211 < 0 then (some false) else (if t211 = bt209.1 then ((laws_toPointS.f k x0).bind fun t212 => ((impl_DropPoint.f k t212 x1).bind fun bt215 => ((laws_eqPointS.f k bt215.1 x6).bind fun t219 => (if t219 = true then (laws_FnExactDropPoint.j2 k bt209.2 bt209.1 (bt215.2 != x7)) else (laws_FnExactDropPoint.j2 k bt209.2 bt209.1 true))))) else (some false)))))
def laws_FnExactDropPoint.j2 : Nat → List (S44) → Int → Bool → Option (Bool)
 | 0, _, _, _ => none
 | k + 1, x9, x12, x92 => if x92 = true then (some false) else ((laws_heldPointS.f k x9 1).bind fun t220 => (if t220 < 0 then (some false) else (if t220 = x12 then (some true) else (some false))))
end
def laws_FnExactDropPoint.f (k : Nat) (l0 : List (S40)) (a1 : Int) : Option (Bool) := (laws_szPointS.f l0 1048576).bind fun t186 => (if t186 < 0 then (some true) else ((laws_toPointS.f k l0).bind fun t187 => ((spec_DropPoint.f k t187 a1).bind fun bt190 => ((laws_toPointS.f k l0).bind fun t194 => ((impl_DropPoint.f k t194 a1).bind fun bt197 => ((laws_eqPointS.f k bt197.1 bt190.1).bind fun t201 => (if t201 = true then (laws_FnExactDropPoint.j0 k l0 a1 bt190.1 bt190.2 t194 bt197.1 bt197.2 (bt197.2 != bt190.2)) else (laws_FnExactDropPoint.j0 k l0 a1 bt190.1 bt190.2 t194 bt197.1 bt197.2 true))))))))
set_option maxHeartbeats 8000000 in
set_option maxRecDepth 100000 in
theorem laws_FnExactDropPoint.calls (k : Nat) (A0 : Option Addr) (c0 : Nat) (l0 : List (S40)) (a1 : Int) (r : Bool) (w : World) (hr0 : Kd.C k40 w A0 l0.length l0) (hc0 : l0.length ≤ c0) (h : laws_FnExactDropPoint.f k l0 a1 = some r) :
  Calls Try.prog 13 #[.slice A0 l0.length c0, .int .i64 a1] w fun e w' => e = .returned (.bool r) ∧ Below w.heap.size w w' := by
 have HR0 := Aside0.mk hr0
 have HC0 := Aside0.mk hc0
 clear hr0 hc0
 have HB := Aside0.mk (Below.refl w.heap.size w)
 have H : ((laws_szPointS.f l0 1048576).bind fun t186 => (if t186 < 0 then (some true) else ((laws_toPointS.f k l0).bind fun t187 => ((spec_DropPoint.f k t187 a1).bind fun bt190 => ((laws_toPointS.f k l0).bind fun t194 => ((impl_DropPoint.f k t194 a1).bind fun bt197 => ((laws_eqPointS.f k bt197.1 bt190.1).bind fun t201 => (if t201 = true then (laws_FnExactDropPoint.j0 k l0 a1 bt190.1 bt190.2 t194 bt197.1 bt197.2 (bt197.2 != bt190.2)) else (laws_FnExactDropPoint.j0 k l0 a1 bt190.1 bt190.2 t194 bt197.1 bt197.2 true))))))))) = some r := h
 clear h
 replace H := Option.bind_eq_some_iff.mp H
 obtain ⟨t186, A30, H⟩ := H
 replace H : (if t186 < 0 then (some true) else ((laws_toPointS.f k l0).bind fun t187 => ((spec_DropPoint.f k t187 a1).bind fun bt190 => ((laws_toPointS.f k l0).bind fun t194 => ((impl_DropPoint.f k t194 a1).bind fun bt197 => ((laws_eqPointS.f k bt197.1 bt190.1).bind fun t201 => (if t201 = true then (laws_FnExactDropPoint.j0 k l0 a1 bt190.1 bt190.2 t194 bt197.1 bt197.2 (bt197.2 != bt190.2)) else (laws_FnExactDropPoint.j0 k l0 a1 bt190.1 bt190.2 t194 bt197.1 bt197.2 true)))))))) = some r := H
 have A3 := Aside0.mk A30
 clear A30
 by_cases c4 : t186 < 0
 ·
  rw [if_pos c4] at H
  have c4b0 : decide (t186 < 0) = true := decide_eq_true c4
  clear c4
  obtain rfl := Option.some.inj H
  go_enter Try.func13, Try.ntmps13
  go_wp2_with (first | ((with_reducible refine gate_callee (f := 33) rfl ?_); refine goesL_ (some 18) rfl rfl Try.func33 (by kernel_rfl) rfl #[.slice A0 l0.length c0, .int .i64 1048576] rfl Hd.m_ ?_; (with_reducible refine (laws_szPointS.calls _ _ l0 1048576 t186 _ ?side1 ?side2 A3.out).mono ?_); (case side1 => repeat (first | exact HR0.out | (with_reducible refine Kd.C_alloc ?_ _) | (with_reducible refine Kd.C_drewN ?_ _) | (with_reducible refine Kd.C_drew ?_))); (case side2 => exact HC0.out); rintro e w' ⟨rfl, ⟨nd, rfl⟩⟩; refine ⟨_, rfl, ?_⟩))
  go_ret
  exact ⟨Hd.e_, Hd.b_⟩
 ·
  rw [if_neg c4] at H
  have c4b0 : decide (t186 < 0) = false := decide_eq_false c4
  clear c4
  replace H := Option.bind_eq_some_iff.mp H
  obtain ⟨t187, A50, H⟩ := H
  replace H : ((spec_DropPoint.f k t187 a1).bind fun bt190 => ((laws_toPointS.f k l0).bind fun t194 => ((impl_DropPoint.f k t194 a1).bind fun bt197 => ((laws_eqPointS.f k bt197.1 bt190.1).bind fun t201 => (if t201 = true then (laws_FnExactDropPoint.j0 k l0 a1 bt190.1 bt190.2 t194 bt197.1 bt197.2 (bt197.2 != bt190.2)) else (laws_FnExactDropPoint.j0 k l0 a1 bt190.1 bt190.2 t194 bt197.1 bt197.2 true)))))) = some r := H
  have A5 := Aside0.mk A50
  clear A50
  replace H := Option.bind_eq_some_iff.mp H
  obtain ⟨⟨t190, t191⟩, A60, H⟩ := H
  replace H : ((laws_toPointS.f k l0).bind fun t194 => ((impl_DropPoint.f k t194 a1).bind fun bt197 => ((laws_eqPointS.f k bt197.1 t190).bind fun t201 => (if t201 = true then (laws_FnExactDropPoint.j0 k l0 a1 t190 t191 t194 bt197.1 bt197.2 (bt197.2 != t191)) else (laws_FnExactDropPoint.j0 k l0 a1 t190 t191 t194 bt197.1 bt197.2 true))))) = some r := H
  have A6 := Aside0.mk A60
  clear A60
  replace H := Option.bind_eq_some_iff.mp H
  obtain ⟨t194, A70, H⟩ := H
  replace H : ((impl_DropPoint.f k t194 a1).bind fun bt197 => ((laws_eqPointS.f k bt197.1 t190).bind fun t201 => (if t201 = true then (laws_FnExactDropPoint.j0 k l0 a1 t190 t191 t194 bt197.1 bt197.2 (bt197.2 != t191)) else (laws_FnExactDropPoint.j0 k l0 a1 t190 t191 t194 bt197.1 bt197.2 true)))) = some r := H
  have A7 := Aside0.mk A70
  clear A70
  replace H := Option.bind_eq_some_iff.mp H
  obtain ⟨⟨t197, t198⟩, A80, H⟩ := H
  replace H : ((laws_eqPointS.f k t197 t190).bind fun t201 => (if t201 = true then (laws_FnExactDropPoint.j0 k l0 a1 t190 t191 t194 t197 t198 (t198 != t191)) else (laws_FnExactDropPoint.j0 k l0 a1 t190 t191 t194 t197 t198 true))) = some r := H
  have A8 := Aside0.mk A80
  clear A80
  have HC9 := Aside0.mk H
  clear H
  go_enter Try.func13, Try.ntmps13
  go_upto_region 8 with (first | ((with_reducible refine gate_callee (f := 33) rfl ?_); refine goesL_ (some 18) rfl rfl Try.func33 (by kernel_rfl) rfl #[.slice A0 l0.length c0, .int .i64 1048576] rfl Hd.m_ ?_; (with_reducible refine (laws_szPointS.calls _ _ l0 1048576 t186 _ ?side1 ?side2 A3.out).mono ?_); (case side1 => repeat (first | exact HR0.out | (with_reducible refine Kd.C_alloc ?_ _) | (with_reducible refine Kd.C_drewN ?_ _) | (with_reducible refine Kd.C_drew ?_))); (case side2 => exact HC0.out); rintro e w' ⟨rfl, ⟨nd, rfl⟩⟩; refine ⟨_, rfl, ?_⟩) | ((with_reducible refine gate_callee (f := 35) rfl ?_); refine goesL_ (some 23) rfl rfl Try.func35 (by kernel_rfl) rfl #[.slice A0 l0.length c0] rfl Hd.m_ ?_; (with_reducible refine (laws_toPointS.calls k _ _ l0 t187 _ ?side1 ?side2 A5.out).mono ?_); (case side1 => repeat (first | exact HR0.out | (with_reducible refine Kd.C_alloc ?_ _) | (with_reducible refine Kd.C_drewN ?_ _) | (with_reducible refine Kd.C_drew ?_))); (case side2 => exact HC0.out); rintro e w10 ⟨v188, rfl, ho0, hb⟩; refine ⟨_, rfl, ?_⟩; have HO189 := Aside0.mk (Kd.R_lower ho0 (below_size Hd.b_)); replace HB := Aside0.mk (below_step Hd.b_ hb); (try clear hb); (try clear hb2); (try clear hk); (try clear hi); (try clear ho0); obtain ⟨Ao11, co11, eo11⟩ := Kd.R_slice HO189.out; subst eo11) | ((with_reducible refine gate_callee (f := 65) rfl ?_); refine goesL_ (some 25) rfl rfl Try.func65 (by kernel_rfl) rfl #[.slice Ao11 t187.length co11, .int .i64 a1] rfl Hd.m_ ?_; (with_reducible refine (spec_DropPoint.calls k _ _ t187 a1 t190 t191 _ ?side1 ?side2 A6.out).mono ?_); (case side1 => repeat (first | exact (Kd.R_reads' HO189.out).2.2 | (with_reducible refine Kd.C_alloc ?_ _) | (with_reducible refine Kd.C_drewN ?_ _) | (with_reducible refine Kd.C_drew ?_))); (case side2 => exact (Kd.R_reads' HO189.out).2.1); rintro e w12 ⟨v192, rfl, ho0, hb⟩; refine ⟨_, rfl, ?_⟩; have HO193 := Aside0.mk (Kd.R_lower (Kd.R_new' ho0 (Kd.R_lt (Hd.r_ HO189))) (below_size Hd.b_)); replace HO189 := Aside0.mk (Kd.R_elder' (Hd.r_ HO189) (Kd.R_base ho0) hb); replace HB := Aside0.mk (below_step Hd.b_ hb); (try clear hb); (try clear hb2); (try clear hk); (try clear hi); (try clear ho0)) | ((with_reducible refine gate_callee (f := 35) rfl ?_); refine goesL_ (some 29) rfl rfl Try.func35 (by kernel_rfl) rfl #[.slice A0 l0.length c0] rfl Hd.m_ ?_; (with_reducible refine (laws_toPointS.calls k _ _ l0 t194 _ ?side1 ?side2 A7.out).mono ?_); (case side1 => repeat (first | exact (Kd.C_below HR0.out HB.out) | (with_reducible refine Kd.C_alloc ?_ _) | (with_reducible refine Kd.C_drewN ?_ _) | (with_reducible refine Kd.C_drew ?_))); (case side2 => exact HC0.out); rintro e w13 ⟨v195, rfl, ho0, hb⟩; refine ⟨_, rfl, ?_⟩; have HO196 := Aside0.mk (Kd.R_lower (Kd.R_new' (Kd.R_new' ho0 (Kd.R_lt (Hd.r_ HO189))) (Kd.R_lt (Hd.r_ HO193))) (below_size Hd.b_)); replace HO189 := Aside0.mk (Kd.R_elder' (Hd.r_ HO189) (Kd.R_base ho0) hb); replace HO193 := Aside0.mk (Kd.R_elder' (Hd.r_ HO193) (Kd.R_base ho0) hb); replace HB := Aside0.mk (below_step Hd.b_ hb); (try clear hb); (try clear hb2); (try clear hk); (try clear hi); (try clear ho0); obtain ⟨Ao14, co14, eo14⟩ := Kd.R_slice HO196.out; subst eo14) | ((with_reducible refine gate_callee (f := 66) rfl ?_); refine goesL_ (some 33) rfl rfl Try.func66 (by kernel_rfl) rfl #[.slice Ao14 t194.length co14, .int .i64 a1] rfl Hd.m_ ?_; (with_reducible refine (impl_DropPoint.calls k _ _ t194 a1 t197 t198 _ ?side1 ?side2 A8.out).mono ?_); (case side1 => repeat (first | exact (Kd.R_reads' HO196.out).2.2 | (with_reducible refine Kd.C_alloc ?_ _) | (with_reducible refine Kd.C_drewN ?_ _) | (with_reducible refine Kd.C_drew ?_))); (case side2 => exact (Kd.R_reads' HO196.out).2.1); rintro e w15 ⟨v199, rfl, ho0, hb⟩; refine ⟨_, rfl, ?_⟩; have HO200 := Aside0.mk (Kd.R_lower (Kd.R_new' (Kd.R_new' (Kd.R_new' ho0 (Kd.R_lt (Hd.r_ HO189))) (Kd.R_lt (Hd.r_ HO193))) (Kd.R_lt (Hd.r_ HO196))) (below_size Hd.b_)); replace HO189 := Aside0.mk (Kd.R_elder' (Hd.r_ HO189) (Kd.R_base ho0) hb); replace HO193 := Aside0.mk (Kd.R_elder' (Hd.r_ HO193) (Kd.R_base ho0) hb); replace HO196 := Aside0.mk (Kd.R_elder' (Hd.r_ HO196) (Kd.R_base ho0) hb); replace HB := Aside0.mk (below_step Hd.b_ hb); (try clear hb); (try clear hb2); (try clear hk); (try clear hi); (try clear ho0)))
  (try simp only [Act.put, List.setIfInBounds_toArray, List.set_cons_zero, List.set_cons_succ])
  go_cut [44] (fun v44 wc => ∃ (kq : Nat) (x44_8 : Bool), v44 = .bool x44_8 ∧ Aside0 (laws_FnExactDropPoint.j0 kq l0 a1 t190 t191 t194 t197 t198 x44_8 = some r) ∧ Aside0 (kq ≤ k) ∧ Aside0 (Kd.R k44 44 wc w.heap.size (fun k_ => some k_ ≠ ((.slice Ao14 t194.length co14) : Value).ownBlock ∧ some k_ ≠ (v199 : Value).ownBlock) v192 t190) ∧ Aside0 (Kd.R k44 44 wc w.heap.size (fun k_ => some k_ ≠ (v192 : Value).ownBlock ∧ some k_ ≠ (v199 : Value).ownBlock) (.slice Ao14 t194.length co14) t194) ∧ Aside0 (Kd.R k44 44 wc w.heap.size (fun k_ => some k_ ≠ (v192 : Value).ownBlock ∧ some k_ ≠ ((.slice Ao14 t194.length co14) : Value).ownBlock) v199 t197) ∧ Aside0 (Below w.heap.size w wc))
  case first =>
   have H := HC9.out
   clear HC9
   replace H := Option.bind_eq_some_iff.mp H
   obtain ⟨t201, A160, H⟩ := H
   replace H : (if t201 = true then (laws_FnExactDropPoint.j0 k l0 a1 t190 t191 t194 t197 t198 (t198 != t191)) else (laws_FnExactDropPoint.j0 k l0 a1 t190 t191 t194 t197 t198 true)) = some r := H
   have A16 := Aside0.mk A160
   clear A160
   by_cases c17 : t201 = true
   ·
    subst c17
    have H1 : (laws_FnExactDropPoint.j0 k l0 a1 t190 t191 t194 t197 t198 (t198 != t191)) = some r := by rw [if_pos rfl] at H; exact H
    clear H
    have H := H1
    clear H1
    have H' := Aside0.mk H
    clear H
    obtain ⟨Ao18, co18, eo18⟩ := Kd.R_slice HO200.out
    subst eo18
    obtain ⟨Ao19, co19, eo19⟩ := Kd.R_slice HO193.out
    subst eo19
    go_wp2_with (first | ((with_reducible refine gate_callee (f := 37) rfl ?_); refine goesL_ (some 38) rfl rfl Try.func37 (by kernel_rfl) rfl #[.slice Ao18 t197.length co18, .slice Ao19 t190.length co19] rfl Hd.m_ ?_; (with_reducible refine (laws_eqPointS.calls k _ _ t197 _ _ t190 true _ ?side1 ?side2 ?side3 ?side4 A16.out).mono ?_); (case side1 => repeat (first | exact (Kd.R_reads' HO200.out).2.2 | (with_reducible refine Kd.C_alloc ?_ _) | (with_reducible refine Kd.C_drewN ?_ _) | (with_reducible refine Kd.C_drew ?_))); (case side2 => exact (Kd.R_reads' HO200.out).2.1); (case side3 => repeat (first | exact (Kd.R_reads' HO193.out).2.2 | (with_reducible refine Kd.C_alloc ?_ _) | (with_reducible refine Kd.C_drewN ?_ _) | (with_reducible refine Kd.C_drew ?_))); (case side4 => exact (Kd.R_reads' HO193.out).2.1); rintro e w20 ⟨rfl, hb⟩; refine ⟨_, rfl, ?_⟩; replace HO189 := Aside0.mk (Kd.R_below (Hd.r_ HO189) hb); replace HO193 := Aside0.mk (Kd.R_below (Hd.r_ HO193) hb); replace HO196 := Aside0.mk (Kd.R_below (Hd.r_ HO196) hb); replace HO200 := Aside0.mk (Kd.R_below (Hd.r_ HO200) hb); replace HB := Aside0.mk (below_step Hd.b_ hb); (try clear hb); (try clear hb2); (try clear hk); (try clear hi)))
    go_meet
    case rel => exact ⟨_, ((t198 != t191)), (by first | rfl | (simp; done) | (simp [*]; done)), H', ⟨by first | omega | exact Nat.le_refl _⟩, ⟨by (with_reducible repeat (first | apply Kd.R_alloc | apply Kd.R_drewN | apply Kd.R_drew)); exact Kd.R_mono HO193.out (fun _ hk => ⟨hk.1.2, hk.2⟩)⟩, ⟨by (with_reducible repeat (first | apply Kd.R_alloc | apply Kd.R_drewN | apply Kd.R_drew)); exact Kd.R_mono HO196.out (fun _ hk => ⟨hk.1.2, hk.2⟩)⟩, ⟨by (with_reducible repeat (first | apply Kd.R_alloc | apply Kd.R_drewN | apply Kd.R_drew)); exact Kd.R_mono HO200.out (fun _ hk => ⟨hk.1.2, hk.2⟩)⟩, ⟨Hd.b_⟩⟩
   ·
    replace c17 := Bool.eq_false_iff.mpr c17
    subst c17
    have H1 : (laws_FnExactDropPoint.j0 k l0 a1 t190 t191 t194 t197 t198 true) = some r := by rw [if_neg (show ¬ (false = true) by decide)] at H; exact H
    clear H
    have H := H1
    clear H1
    have H' := Aside0.mk H
    clear H
    obtain ⟨Ao21, co21, eo21⟩ := Kd.R_slice HO200.out
    subst eo21
    obtain ⟨Ao22, co22, eo22⟩ := Kd.R_slice HO193.out
    subst eo22
    go_wp2_with (first | ((with_reducible refine gate_callee (f := 37) rfl ?_); refine goesL_ (some 38) rfl rfl Try.func37 (by kernel_rfl) rfl #[.slice Ao21 t197.length co21, .slice Ao22 t190.length co22] rfl Hd.m_ ?_; (with_reducible refine (laws_eqPointS.calls k _ _ t197 _ _ t190 false _ ?side1 ?side2 ?side3 ?side4 A16.out).mono ?_); (case side1 => repeat (first | exact (Kd.R_reads' HO200.out).2.2 | (with_reducible refine Kd.C_alloc ?_ _) | (with_reducible refine Kd.C_drewN ?_ _) | (with_reducible refine Kd.C_drew ?_))); (case side2 => exact (Kd.R_reads' HO200.out).2.1); (case side3 => repeat (first | exact (Kd.R_reads' HO193.out).2.2 | (with_reducible refine Kd.C_alloc ?_ _) | (with_reducible refine Kd.C_drewN ?_ _) | (with_reducible refine Kd.C_drew ?_))); (case side4 => exact (Kd.R_reads' HO193.out).2.1); rintro e w23 ⟨rfl, hb⟩; refine ⟨_, rfl, ?_⟩; replace HO189 := Aside0.mk (Kd.R_below (Hd.r_ HO189) hb); replace HO193 := Aside0.mk (Kd.R_below (Hd.r_ HO193) hb); replace HO196 := Aside0.mk (Kd.R_below (Hd.r_ HO196) hb); replace HO200 := Aside0.mk (Kd.R_below (Hd.r_ HO200) hb); replace HB := Aside0.mk (below_step Hd.b_ hb); (try clear hb); (try clear hb2); (try clear hk); (try clear hi)))
    go_meet
    case rel => exact ⟨_, (true), (by first | rfl | (simp; done) | (simp [*]; done)), H', ⟨by first | omega | exact Nat.le_refl _⟩, ⟨by (with_reducible repeat (first | apply Kd.R_alloc | apply Kd.R_drewN | apply Kd.R_drew)); exact Kd.R_mono HO193.out (fun _ hk => ⟨hk.1.2, hk.2⟩)⟩, ⟨by (with_reducible repeat (first | apply Kd.R_alloc | apply Kd.R_drewN | apply Kd.R_drew)); exact Kd.R_mono HO196.out (fun _ hk => ⟨hk.1.2, hk.2⟩)⟩, ⟨by (with_reducible repeat (first | apply Kd.R_alloc | apply Kd.R_drewN | apply Kd.R_drew)); exact Kd.R_mono HO200.out (fun _ hk => ⟨hk.1.2, hk.2⟩)⟩, ⟨Hd.b_⟩⟩
  case rest =>
   clear HC9
   try clear c1
   try clear p2
   try clear c3
   try clear c4
   try clear c4b0
   try clear c6
   try clear c13
   try clear c17
   obtain ⟨kq, x44_8, rfl, HA, HJ8, HO_6, HO_8, HO_9, HB⟩ := hcut
   cases kq with
   | zero => exact absurd HA.out (by simp [laws_FnExactDropPoint.j0])
   | succ kj8 =>
    have H := HA.out
    clear HA
    simp only [laws_FnExactDropPoint.j0] at H
    by_cases c24 : x44_8 = true
    ·
     subst c24
     have H1 : (some false) = some r := by rw [if_pos rfl] at H; exact H
     clear H
     have H := H1
     clear H1
     obtain rfl := Option.some.inj H
     go_wp2
     go_ret
     exact ⟨Hd.e_, Hd.b_⟩
    ·
     replace c24 := Bool.eq_false_iff.mpr c24
     subst c24
     have H1 : ((laws_toPointS.f kj8 l0).bind fun t202 => ((laws_eqPointS.f kj8 t194 t202).bind fun t205 => (if t205 = true then ((laws_markPointS.f kj8 t194 1).bind fun bt206 => (if bt206.1 < 0 then (laws_FnExactDropPoint.j1 kj8 l0 a1 t190 t191 t197 true) else ((laws_eqPointS.f kj8 t197 t190).bind fun t208 => (if t208 = true then (laws_FnExactDropPoint.j1 kj8 l0 a1 t190 t191 t197 (t198 != t191)) else (laws_FnExactDropPoint.j1 kj8 l0 a1 t190 t191 t197 true))))) else (some false)))) = some r := by rw [if_neg (show ¬ (false = true) by decide)] at H; exact H
     clear H
     have H := H1
     clear H1
     replace H := Option.bind_eq_some_iff.mp H
     obtain ⟨t202, A250, H⟩ := H
     replace H : ((laws_eqPointS.f kj8 t194 t202).bind fun t205 => (if t205 = true then ((laws_markPointS.f kj8 t194 1).bind fun bt206 => (if bt206.1 < 0 then (laws_FnExactDropPoint.j1 kj8 l0 a1 t190 t191 t197 true) else ((laws_eqPointS.f kj8 t197 t190).bind fun t208 => (if t208 = true then (laws_FnExactDropPoint.j1 kj8 l0 a1 t190 t191 t197 (t198 != t191)) else (laws_FnExactDropPoint.j1 kj8 l0 a1 t190 t191 t197 true))))) else (some false))) = some r := H
     have A25 := Aside0.mk A250
     clear A250
     replace H := Option.bind_eq_some_iff.mp H
     obtain ⟨t205, A260, H⟩ := H
     replace H : (if t205 = true then ((laws_markPointS.f kj8 t194 1).bind fun bt206 => (if bt206.1 < 0 then (laws_FnExactDropPoint.j1 kj8 l0 a1 t190 t191 t197 true) else ((laws_eqPointS.f kj8 t197 t190).bind fun t208 => (if t208 = true then (laws_FnExactDropPoint.j1 kj8 l0 a1 t190 t191 t197 (t198 != t191)) else (laws_FnExactDropPoint.j1 kj8 l0 a1 t190 t191 t197 true))))) else (some false)) = some r := H
     have A26 := Aside0.mk A260
     clear A260
     by_cases c27 : t205 = true
     ·
      subst c27
      have H1 : ((laws_markPointS.f kj8 t194 1).bind fun bt206 => (if bt206.1 < 0 then (laws_FnExactDropPoint.j1 kj8 l0 a1 t190 t191 t197 true) else ((laws_eqPointS.f kj8 t197 t190).bind fun t208 => (if t208 = true then (laws_FnExactDropPoint.j1 kj8 l0 a1 t190 t191 t197 (t198 != t191)) else (laws_FnExactDropPoint.j1 kj8 l0 a1 t190 t191 t197 true))))) = some r := by rw [if_pos rfl] at H; exact H
      clear H
      have H := H1
      clear H1
      replace H := Option.bind_eq_some_iff.mp H
      obtain ⟨⟨t206, t207⟩, A280, H⟩ := H
      replace H : (if t206 < 0 then (laws_FnExactDropPoint.j1 kj8 l0 a1 t190 t191 t197 true) else ((laws_eqPointS.f kj8 t197 t190).bind fun t208 => (if t208 = true then (laws_FnExactDropPoint.j1 kj8 l0 a1 t190 t191 t197 (t198 != t191)) else (laws_FnExactDropPoint.j1 kj8 l0 a1 t190 t191 t197 true)))) = some r := H
      have A28 := Aside0.mk A280
      clear A280
      have HC29 := Aside0.mk H
      clear H
      go_upto_region 14 with (first | ((with_reducible refine gate_callee (f := 35) rfl ?_); refine goesL_ (some 47) rfl rfl Try.func35 (by kernel_rfl) rfl #[.slice A0 l0.length c0] rfl Hd.m_ ?_; (with_reducible refine (laws_toPointS.calls kj8 _ _ l0 t202 _ ?side1 ?side2 A25.out).mono ?_); (case side1 => repeat (first | exact (Kd.C_below HR0.out HB.out) | (with_reducible refine Kd.C_alloc ?_ _) | (with_reducible refine Kd.C_drewN ?_ _) | (with_reducible refine Kd.C_drew ?_))); (case side2 => exact HC0.out); rintro e w30 ⟨v203, rfl, ho0, hb⟩; refine ⟨_, rfl, ?_⟩; have HO204 := Aside0.mk (Kd.R_lower (Kd.R_new' (Kd.R_new' (Kd.R_new' ho0 (Kd.R_lt (Hd.r_ HO_6))) (Kd.R_lt (Hd.r_ HO_8))) (Kd.R_lt (Hd.r_ HO_9))) (below_size Hd.b_)); replace HO_6 := Aside0.mk (Kd.R_elder' (Hd.r_ HO_6) (Kd.R_base ho0) hb); replace HO_8 := Aside0.mk (Kd.R_elder' (Hd.r_ HO_8) (Kd.R_base ho0) hb); replace HO_9 := Aside0.mk (Kd.R_elder' (Hd.r_ HO_9) (Kd.R_base ho0) hb); replace HB := Aside0.mk (below_step Hd.b_ hb); (try clear hb); (try clear hb2); (try clear hk); (try clear hi); (try clear ho0); obtain ⟨Ao31, co31, eo31⟩ := Kd.R_slice HO204.out; subst eo31) | ((with_reducible refine gate_callee (f := 37) rfl ?_); refine goesL_ (some 48) rfl rfl Try.func37 (by kernel_rfl) rfl #[.slice Ao14 t194.length co14, .slice Ao31 t202.length co31] rfl Hd.m_ ?_; (with_reducible refine (laws_eqPointS.calls kj8 _ _ t194 _ _ t202 true _ ?side1 ?side2 ?side3 ?side4 A26.out).mono ?_); (case side1 => repeat (first | exact (Kd.R_reads' HO_8.out).2.2 | (with_reducible refine Kd.C_alloc ?_ _) | (with_reducible refine Kd.C_drewN ?_ _) | (with_reducible refine Kd.C_drew ?_))); (case side2 => exact (Kd.R_reads' HO_8.out).2.1); (case side3 => repeat (first | exact (Kd.R_reads' HO204.out).2.2 | (with_reducible refine Kd.C_alloc ?_ _) | (with_reducible refine Kd.C_drewN ?_ _) | (with_reducible refine Kd.C_drew ?_))); (case side4 => exact (Kd.R_reads' HO204.out).2.1); rintro e w32 ⟨rfl, hb⟩; refine ⟨_, rfl, ?_⟩; replace HO_6 := Aside0.mk (Kd.R_below (Hd.r_ HO_6) hb); replace HO_8 := Aside0.mk (Kd.R_below (Hd.r_ HO_8) hb); replace HO_9 := Aside0.mk (Kd.R_below (Hd.r_ HO_9) hb); replace HO204 := Aside0.mk (Kd.R_below (Hd.r_ HO204) hb); replace HB := Aside0.mk (below_step Hd.b_ hb); (try clear hb); (try clear hb2); (try clear hk); (try clear hi)) | ((with_reducible refine gate_callee (f := 67) rfl ?_); refine goesL_ (some 52) rfl rfl Try.func67 (by kernel_rfl) rfl #[.slice Ao14 t194.length co14, .int .i64 1] rfl Hd.m_ ?_; (with_reducible refine (laws_markPointS.calls kj8 (fun k_ => some k_ = (.slice Ao14 t194.length co14 : Value).ownBlock) (.slice Ao14 t194.length co14) t194 1 t206 t207 w _ ?side1 ?side2 A28.out).mono ?_); (case side1 => repeat (first | (with_reducible first | exact HB.out | apply below_alloc | apply pw_below_drewN | apply below_drew1) | exact HB.out)); (case side2 => exact Kd.R_tight rfl HO_8.out); rintro e w33 ⟨rfl, hy0, hb, hkp⟩; refine ⟨_, rfl, ?_⟩; replace HO_6 := Aside0.mk (Kd.R_mono (ok' := fun k_ => some k_ ≠ (.slice Ao14 t194.length co14 : Value).ownBlock ∧ some k_ ≠ (v199 : Value).ownBlock ∧ some k_ ≠ (.slice Ao31 t202.length co31 : Value).ownBlock) (Kd.R_keptB (HO_6.out) hkp (fun k_ hk_ hs_ => (hk_.1.1) hs_)) (fun k_ hk_ => ⟨hk_.1.1.1, hk_.1.1.2, hk_.1.2⟩)); replace HO_8 := Aside0.mk (Kd.R_reok rfl hy0 (fun k_ e_ => HO_8.out.1 k_ e_)); replace HO_9 := Aside0.mk (Kd.R_mono (ok' := fun k_ => some k_ ≠ (v192 : Value).ownBlock ∧ some k_ ≠ (.slice Ao14 t194.length co14 : Value).ownBlock ∧ some k_ ≠ (.slice Ao31 t202.length co31 : Value).ownBlock) (Kd.R_keptB (HO_9.out) hkp (fun k_ hk_ hs_ => (hk_.1.2) hs_)) (fun k_ hk_ => ⟨hk_.1.1.1, hk_.1.1.2, hk_.1.2⟩)); replace HO204 := Aside0.mk (Kd.R_mono (ok' := fun k_ => some k_ ≠ (v192 : Value).ownBlock ∧ some k_ ≠ (.slice Ao14 t194.length co14 : Value).ownBlock ∧ some k_ ≠ (v199 : Value).ownBlock) (Kd.R_keptB (HO204.out) hkp (fun k_ hk_ hs_ => (hk_.1.2) hs_)) (fun k_ hk_ => ⟨hk_.1.1.1.2, hk_.1.1.2, hk_.1.2⟩)); replace HB := Aside0.mk (hb); (try clear hb); (try clear hkp); (try clear hy0)))
      (try simp only [Act.put, List.setIfInBounds_toArray, List.set_cons_zero, List.set_cons_succ])
      go_cut [65] (fun v65 wc => ∃ (kq : Nat) (x65_28 : Bool), v65 = .bool x65_28 ∧ Aside0 (laws_FnExactDropPoint.j1 kq l0 a1 t190 t191 t197 x65_28 = some r) ∧ Aside0 (kq ≤ kj8) ∧ Aside0 (Kd.R k44 44 wc w.heap.size (fun k_ => some k_ ≠ (v199 : Value).ownBlock) v192 t190) ∧ Aside0 (Kd.R k44 44 wc w.heap.size (fun k_ => some k_ ≠ (v192 : Value).ownBlock) v199 t197) ∧ Aside0 (Below w.heap.size w wc))
      case first =>
       have H := HC29.out
       clear HC29
       by_cases c34 : t206 < 0
       ·
        rw [if_pos c34] at H
        have c34b0 : decide (t206 < 0) = true := decide_eq_true c34
        clear c34
        (first | rw [c34b0] | (simp only [i64_w, i32_w]; rw [c34b0]) | skip)
        have H' := Aside0.mk H
        clear H
        go_wp2
        go_meet
        case rel => exact ⟨_, (true), (by first | rfl | (simp; done) | (simp [*]; done)), H', ⟨by have := HJ8.out; first | omega | exact Nat.le_refl _⟩, ⟨by (with_reducible repeat (first | apply Kd.R_alloc | apply Kd.R_drewN | apply Kd.R_drew)); exact Kd.R_mono HO_6.out (fun _ hk => hk.2.1)⟩, ⟨by (with_reducible repeat (first | apply Kd.R_alloc | apply Kd.R_drewN | apply Kd.R_drew)); exact Kd.R_mono HO_9.out (fun _ hk => hk.1)⟩, ⟨Hd.b_⟩⟩
       ·
        rw [if_neg c34] at H
        have c34b0 : decide (t206 < 0) = false := decide_eq_false c34
        clear c34
        (first | rw [c34b0] | (simp only [i64_w, i32_w]; rw [c34b0]) | skip)
        replace H := Option.bind_eq_some_iff.mp H
        obtain ⟨t208, A350, H⟩ := H
        replace H : (if t208 = true then (laws_FnExactDropPoint.j1 kj8 l0 a1 t190 t191 t197 (t198 != t191)) else (laws_FnExactDropPoint.j1 kj8 l0 a1 t190 t191 t197 true)) = some r := H
        have A35 := Aside0.mk A350
        clear A350
        by_cases c36 : t208 = true
        ·
         subst c36
         have H1 : (laws_FnExactDropPoint.j1 kj8 l0 a1 t190 t191 t197 (t198 != t191)) = some r := by rw [if_pos rfl] at H; exact H
         clear H
         have H := H1
         clear H1
         have H' := Aside0.mk H
         clear H
         obtain ⟨Ao37, co37, eo37⟩ := Kd.R_slice HO_9.out
         subst eo37
         obtain ⟨Ao38, co38, eo38⟩ := Kd.R_slice HO_6.out
         subst eo38
         go_wp2_with (first | (go_at_call 37; (with_reducible refine (laws_eqPointS.calls kj8 _ _ t197 _ _ t190 true _ ?side1 ?side2 ?side3 ?side4 A35.out).mono ?_); (case side1 => repeat (first | exact (Kd.R_reads' HO_9.out).2.2 | (with_reducible refine Kd.C_alloc ?_ _) | (with_reducible refine Kd.C_drewN ?_ _) | (with_reducible refine Kd.C_drew ?_))); (case side2 => exact (Kd.R_reads' HO_9.out).2.1); (case side3 => repeat (first | exact (Kd.R_reads' HO_6.out).2.2 | (with_reducible refine Kd.C_alloc ?_ _) | (with_reducible refine Kd.C_drewN ?_ _) | (with_reducible refine Kd.C_drew ?_))); (case side4 => exact (Kd.R_reads' HO_6.out).2.1); rintro e w39 ⟨rfl, hb⟩; replace HO_6 := Aside0.mk (Kd.R_below (Hd.r_ HO_6) hb); replace HO_8 := Aside0.mk (Kd.R_below (Hd.r_ HO_8) hb); replace HO_9 := Aside0.mk (Kd.R_below (Hd.r_ HO_9) hb); replace HO204 := Aside0.mk (Kd.R_below (Hd.r_ HO204) hb); replace HB := Aside0.mk (below_step Hd.b_ hb); (try clear hb); (try clear hb2); (try clear hk); (try clear hi)))
         go_meet
         case rel => exact ⟨_, ((t198 != t191)), (by first | rfl | (simp; done) | (simp [*]; done)), H', ⟨by have := HJ8.out; first | omega | exact Nat.le_refl _⟩, ⟨by (with_reducible repeat (first | apply Kd.R_alloc | apply Kd.R_drewN | apply Kd.R_drew)); exact Kd.R_mono HO_6.out (fun _ hk => hk.2.1)⟩, ⟨by (with_reducible repeat (first | apply Kd.R_alloc | apply Kd.R_drewN | apply Kd.R_drew)); exact Kd.R_mono HO_9.out (fun _ hk => hk.1)⟩, ⟨Hd.b_⟩⟩
        ·
         replace c36 := Bool.eq_false_iff.mpr c36
         subst c36
         have H1 : (laws_FnExactDropPoint.j1 kj8 l0 a1 t190 t191 t197 true) = some r := by rw [if_neg (show ¬ (false = true) by decide)] at H; exact H
         clear H
         have H := H1
         clear H1
         have H' := Aside0.mk H
         clear H
         obtain ⟨Ao40, co40, eo40⟩ := Kd.R_slice HO_9.out
         subst eo40
         obtain ⟨Ao41, co41, eo41⟩ := Kd.R_slice HO_6.out
         subst eo41
         go_wp2_with (first | (go_at_call 37; (with_reducible refine (laws_eqPointS.calls kj8 _ _ t197 _ _ t190 false _ ?side1 ?side2 ?side3 ?side4 A35.out).mono ?_); (case side1 => repeat (first | exact (Kd.R_reads' HO_9.out).2.2 | (with_reducible refine Kd.C_alloc ?_ _) | (with_reducible refine Kd.C_drewN ?_ _) | (with_reducible refine Kd.C_drew ?_))); (case side2 => exact (Kd.R_reads' HO_9.out).2.1); (case side3 => repeat (first | exact (Kd.R_reads' HO_6.out).2.2 | (with_reducible refine Kd.C_alloc ?_ _) | (with_reducible refine Kd.C_drewN ?_ _) | (with_reducible refine Kd.C_drew ?_))); (case side4 => exact (Kd.R_reads' HO_6.out).2.1); rintro e w42 ⟨rfl, hb⟩; replace HO_6 := Aside0.mk (Kd.R_below (Hd.r_ HO_6) hb); replace HO_8 := Aside0.mk (Kd.R_below (Hd.r_ HO_8) hb); replace HO_9 := Aside0.mk (Kd.R_below (Hd.r_ HO_9) hb); replace HO204 := Aside0.mk (Kd.R_below (Hd.r_ HO204) hb); replace HB := Aside0.mk (below_step Hd.b_ hb); (try clear hb); (try clear hb2); (try clear hk); (try clear hi)))
         go_meet
         case rel => exact ⟨_, (true), (by first | rfl | (simp; done) | (simp [*]; done)), H', ⟨by have := HJ8.out; first | omega | exact Nat.le_refl _⟩, ⟨by (with_reducible repeat (first | apply Kd.R_alloc | apply Kd.R_drewN | apply Kd.R_drew)); exact Kd.R_mono HO_6.out (fun _ hk => hk.2.1)⟩, ⟨by (with_reducible repeat (first | apply Kd.R_alloc | apply Kd.R_drewN | apply Kd.R_drew)); exact Kd.R_mono HO_9.out (fun _ hk => hk.1)⟩, ⟨Hd.b_⟩⟩
      case rest =>
       clear HC29
       try clear c1
       try clear c2
       try clear p2
       try clear c3
       try clear c4
       try clear c4b0
       try clear c6
       try clear c13
       try clear c17
       try clear c24
       try clear c27
       try clear c33
       try clear c34
       try clear c34b0
       try clear c35
       try clear c36
       try clear c37
       try clear p2
       obtain ⟨kq, x65_28, rfl, HA, HJ28, HO_6, HO_9, HB⟩ := hcut
       cases kq with
       | zero => exact absurd HA.out (by simp [laws_FnExactDropPoint.j1])
       | succ kj28 =>
        have H := HA.out
        clear HA
        simp only [laws_FnExactDropPoint.j1] at H
        by_cases c43 : x65_28 = true
        ·
         subst c43
         have H1 : (some false) = some r := by rw [if_pos rfl] at H; exact H
         clear H
         have H := H1
         clear H1
         obtain rfl := Option.some.inj H
         go_wp2
         go_ret
         exact ⟨Hd.e_, Hd.b_⟩
        ·
         replace c43 := Bool.eq_false_iff.mpr c43
         subst c43
         have H1 : ((laws_markPointS.f kj28 t197 1).bind fun bt209 => ((laws_heldPointS.f kj28 bt209.2 1).bind fun t211 => (if t211 < 0 then (some false) else (if t211 = bt209.1 then ((laws_toPointS.f kj28 l0).bind fun t212 => ((impl_DropPoint.f kj28 t212 a1).bind fun bt215 => ((laws_eqPointS.f kj28 bt215.1 t190).bind fun t219 => (if t219 = true then (laws_FnExactDropPoint.j2 kj28 bt209.2 bt209.1 (bt215.2 != t191)) else (laws_FnExactDropPoint.j2 kj28 bt209.2 bt209.1 true))))) else (some false))))) = some r := by rw [if_neg (show ¬ (false = true) by decide)] at H; exact H
         clear H
         have H := H1
         clear H1
         replace H := Option.bind_eq_some_iff.mp H
         obtain ⟨⟨t209, t210⟩, A440, H⟩ := H
         replace H : ((laws_heldPointS.f kj28 t210 1).bind fun t211 => (if t211 < 0 then (some false) else (if t211 = t209 then ((laws_toPointS.f kj28 l0).bind fun t212 => ((impl_DropPoint.f kj28 t212 a1).bind fun bt215 => ((laws_eqPointS.f kj28 bt215.1 t190).bind fun t219 => (if t219 = true then (laws_FnExactDropPoint.j2 kj28 t210 t209 (bt215.2 != t191)) else (laws_FnExactDropPoint.j2 kj28 t210 t209 true))))) else (some false)))) = some r := H
         have A44 := Aside0.mk A440
         clear A440
         replace H := Option.bind_eq_some_iff.mp H
         obtain ⟨t211, A450, H⟩ := H
         replace H : (if t211 < 0 then (some false) else (if t211 = t209 then ((laws_toPointS.f kj28 l0).bind fun t212 => ((impl_DropPoint.f kj28 t212 a1).bind fun bt215 => ((laws_eqPointS.f kj28 bt215.1 t190).bind fun t219 => (if t219 = true then (laws_FnExactDropPoint.j2 kj28 t210 t209 (bt215.2 != t191)) else (laws_FnExactDropPoint.j2 kj28 t210 t209 true))))) else (some false))) = some r := H
         have A45 := Aside0.mk A450
         clear A450
         by_cases c46 : t211 < 0
         ·
          rw [if_pos c46] at H
          have c46b0 : decide (t211 < 0) = true := decide_eq_true c46
          clear c46
          obtain rfl := Option.some.inj H
          obtain ⟨Ao47, co47, eo47⟩ := Kd.R_slice HO_9.out
          subst eo47
          go_wp2_with (first | ((with_reducible refine gate_callee (f := 67) rfl ?_); refine goesL_ (some 68) rfl rfl Try.func67 (by kernel_rfl) rfl #[.slice Ao47 t197.length co47, .int .i64 1] rfl Hd.m_ ?_; (with_reducible refine (laws_markPointS.calls kj28 (fun k_ => some k_ = (.slice Ao47 t197.length co47 : Value).ownBlock) (.slice Ao47 t197.length co47) t197 1 t209 t210 w _ ?side1 ?side2 A44.out).mono ?_); (case side1 => repeat (first | (with_reducible first | exact HB.out | apply below_alloc | apply pw_below_drewN | apply below_drew1) | exact HB.out)); (case side2 => exact Kd.R_tight rfl HO_9.out); rintro e w48 ⟨rfl, hy0, hb, hkp⟩; refine ⟨_, rfl, ?_⟩; replace HO_6 := Aside0.mk (Kd.R_mono (ok' := fun k_ => some k_ ≠ (.slice Ao47 t197.length co47 : Value).ownBlock) (Kd.R_keptB (HO_6.out) hkp (fun k_ hk_ hs_ => (hk_) hs_)) (fun k_ hk_ => hk_.1)); replace HO_9 := Aside0.mk (Kd.R_reok rfl hy0 (fun k_ e_ => HO_9.out.1 k_ e_)); replace HB := Aside0.mk (hb); (try clear hb); (try clear hkp); (try clear hy0)) | ((with_reducible refine gate_callee (f := 68) rfl ?_); refine goesL_ (some 71) rfl rfl Try.func68 (by kernel_rfl) rfl #[.slice Ao47 t210.length co47, .int .i64 1] rfl (by (try simp only [List.map_toArray, List.map_cons, List.map_nil]); first | done | (rw [show t210.length = t197.length from (Kd.R_reads' HO_9.out).1.symm] <;> rfl) | rfl | (simp only [List.length_drop, List.length_take]; rfl)) ?_; (with_reducible refine (laws_heldPointS.calls kj28 _ _ t210 1 t211 _ ?side1 ?side2 A45.out).mono ?_); (case side1 => repeat (first | exact (Kd.R_reads' HO_9.out).2.2 | (with_reducible refine Kd.C_alloc ?_ _) | (with_reducible refine Kd.C_drewN ?_ _) | (with_reducible refine Kd.C_drew ?_))); (case side2 => rw [show t210.length = t197.length from (Kd.R_reads' HO_9.out).1.symm]; exact (Kd.R_reads' HO_9.out).2.1); rintro e w' ⟨rfl, ⟨nd, rfl⟩⟩; refine ⟨_, rfl, ?_⟩))
          go_ret
          exact ⟨Hd.e_, Hd.b_⟩
         ·
          rw [if_neg c46] at H
          have c46b0 : decide (t211 < 0) = false := decide_eq_false c46
          clear c46
          by_cases c49 : t211 = t209
          ·
           rw [if_pos c49] at H
           have c49b0 : (t211 == t209) = true := beq_iff_eq.mpr c49
           have c49b1 : (t211 != t209) = false := bne_eq_false_iff_eq.mpr c49
           clear c49
           replace H := Option.bind_eq_some_iff.mp H
           obtain ⟨t212, A500, H⟩ := H
           replace H : ((impl_DropPoint.f kj28 t212 a1).bind fun bt215 => ((laws_eqPointS.f kj28 bt215.1 t190).bind fun t219 => (if t219 = true then (laws_FnExactDropPoint.j2 kj28 t210 t209 (bt215.2 != t191)) else (laws_FnExactDropPoint.j2 kj28 t210 t209 true)))) = some r := H
           have A50 := Aside0.mk A500
           clear A500
           replace H := Option.bind_eq_some_iff.mp H
           obtain ⟨⟨t215, t216⟩, A510, H⟩ := H
           replace H : ((laws_eqPointS.f kj28 t215 t190).bind fun t219 => (if t219 = true then (laws_FnExactDropPoint.j2 kj28 t210 t209 (t216 != t191)) else (laws_FnExactDropPoint.j2 kj28 t210 t209 true))) = some r := H
           have A51 := Aside0.mk A510
           clear A510
           have HC52 := Aside0.mk H
           clear H
           obtain ⟨Ao53, co53, eo53⟩ := Kd.R_slice HO_9.out
           subst eo53
           go_upto_region 25 with (first | ((with_reducible refine gate_callee (f := 67) rfl ?_); refine goesL_ (some 68) rfl rfl Try.func67 (by kernel_rfl) rfl #[.slice Ao53 t197.length co53, .int .i64 1] rfl Hd.m_ ?_; (with_reducible refine (laws_markPointS.calls kj28 (fun k_ => some k_ = (.slice Ao53 t197.length co53 : Value).ownBlock) (.slice Ao53 t197.length co53) t197 1 t209 t210 w _ ?side1 ?side2 A44.out).mono ?_); (case side1 => repeat (first | (with_reducible first | exact HB.out | apply below_alloc | apply pw_below_drewN | apply below_drew1) | exact HB.out)); (case side2 => exact Kd.R_tight rfl HO_9.out); rintro e w54 ⟨rfl, hy0, hb, hkp⟩; refine ⟨_, rfl, ?_⟩; replace HO_6 := Aside0.mk (Kd.R_mono (ok' := fun k_ => some k_ ≠ (.slice Ao53 t197.length co53 : Value).ownBlock) (Kd.R_keptB (HO_6.out) hkp (fun k_ hk_ hs_ => (hk_) hs_)) (fun k_ hk_ => hk_.1)); replace HO_9 := Aside0.mk (Kd.R_reok rfl hy0 (fun k_ e_ => HO_9.out.1 k_ e_)); replace HB := Aside0.mk (hb); (try clear hb); (try clear hkp); (try clear hy0)) | ((with_reducible refine gate_callee (f := 68) rfl ?_); refine goesL_ (some 71) rfl rfl Try.func68 (by kernel_rfl) rfl #[.slice Ao53 t210.length co53, .int .i64 1] rfl (by (try simp only [List.map_toArray, List.map_cons, List.map_nil]); first | done | (rw [show t210.length = t197.length from (Kd.R_reads' HO_9.out).1.symm] <;> rfl) | rfl | (simp only [List.length_drop, List.length_take]; rfl)) ?_; (with_reducible refine (laws_heldPointS.calls kj28 _ _ t210 1 t211 _ ?side1 ?side2 A45.out).mono ?_); (case side1 => repeat (first | exact (Kd.R_reads' HO_9.out).2.2 | (with_reducible refine Kd.C_alloc ?_ _) | (with_reducible refine Kd.C_drewN ?_ _) | (with_reducible refine Kd.C_drew ?_))); (case side2 => rw [show t210.length = t197.length from (Kd.R_reads' HO_9.out).1.symm]; exact (Kd.R_reads' HO_9.out).2.1); rintro e w' ⟨rfl, ⟨nd, rfl⟩⟩; refine ⟨_, rfl, ?_⟩) | ((with_reducible refine gate_callee (f := 35) rfl ?_); refine goesL_ (some 79) rfl rfl Try.func35 (by kernel_rfl) rfl #[.slice A0 l0.length c0] rfl Hd.m_ ?_; (with_reducible refine (laws_toPointS.calls kj28 _ _ l0 t212 _ ?side1 ?side2 A50.out).mono ?_); (case side1 => repeat (first | exact (Kd.C_below HR0.out Hd.b_) | (with_reducible refine Kd.C_alloc ?_ _) | (with_reducible refine Kd.C_drewN ?_ _) | (with_reducible refine Kd.C_drew ?_))); (case side2 => exact HC0.out); rintro e w55 ⟨v213, rfl, ho0, hb⟩; refine ⟨_, rfl, ?_⟩; have HO214 := Aside0.mk (Kd.R_lower (Kd.R_new' (Kd.R_new' ho0 (Kd.R_lt (Hd.r_ HO_6))) (Kd.R_lt (Hd.r_ HO_9))) (below_size Hd.b_)); replace HO_6 := Aside0.mk (Kd.R_elder' (Hd.r_ HO_6) (Kd.R_base ho0) hb); replace HO_9 := Aside0.mk (Kd.R_elder' (Hd.r_ HO_9) (Kd.R_base ho0) hb); replace HB := Aside0.mk (below_step Hd.b_ hb); (try clear hb); (try clear hb2); (try clear hk); (try clear hi); (try clear ho0); obtain ⟨Ao56, co56, eo56⟩ := Kd.R_slice HO214.out; subst eo56) | ((with_reducible refine gate_callee (f := 66) rfl ?_); refine goesL_ (some 81) rfl rfl Try.func66 (by kernel_rfl) rfl #[.slice Ao56 t212.length co56, .int .i64 a1] rfl Hd.m_ ?_; (with_reducible refine (impl_DropPoint.calls kj28 _ _ t212 a1 t215 t216 _ ?side1 ?side2 A51.out).mono ?_); (case side1 => repeat (first | exact (Kd.R_reads' HO214.out).2.2 | (with_reducible refine Kd.C_alloc ?_ _) | (with_reducible refine Kd.C_drewN ?_ _) | (with_reducible refine Kd.C_drew ?_))); (case side2 => exact (Kd.R_reads' HO214.out).2.1); rintro e w57 ⟨v217, rfl, ho0, hb⟩; refine ⟨_, rfl, ?_⟩; have HO218 := Aside0.mk (Kd.R_lower (Kd.R_new' (Kd.R_new' (Kd.R_new' ho0 (Kd.R_lt (Hd.r_ HO_6))) (Kd.R_lt (Hd.r_ HO_9))) (Kd.R_lt (Hd.r_ HO214))) (below_size Hd.b_)); replace HO_6 := Aside0.mk (Kd.R_elder' (Hd.r_ HO_6) (Kd.R_base ho0) hb); replace HO_9 := Aside0.mk (Kd.R_elder' (Hd.r_ HO_9) (Kd.R_base ho0) hb); replace HO214 := Aside0.mk (Kd.R_elder' (Hd.r_ HO214) (Kd.R_base ho0) hb); replace HB := Aside0.mk (below_step Hd.b_ hb); (try clear hb); (try clear hb2); (try clear hk); (try clear hi); (try clear ho0)))
           (try simp only [Act.put, List.setIfInBounds_toArray, List.set_cons_zero, List.set_cons_succ])
           go_cut [92] (fun v92 wc => ∃ (kq : Nat) (x92_51 : Bool), v92 = .bool x92_51 ∧ Aside0 (laws_FnExactDropPoint.j2 kq t210 t209 x92_51 = some r) ∧ Aside0 (kq ≤ kj28) ∧ Aside0 (Kd.R k44 44 wc w.heap.size (fun _ => True) (.slice Ao53 t197.length co53) t210) ∧ Aside0 (Below w.heap.size w wc))
           case first =>
            have H := HC52.out
            clear HC52
            replace H := Option.bind_eq_some_iff.mp H
            obtain ⟨t219, A580, H⟩ := H
            replace H : (if t219 = true then (laws_FnExactDropPoint.j2 kj28 t210 t209 (t216 != t191)) else (laws_FnExactDropPoint.j2 kj28 t210 t209 true)) = some r := H
            have A58 := Aside0.mk A580
            clear A580
            by_cases c59 : t219 = true
            ·
             subst c59
             have H1 : (laws_FnExactDropPoint.j2 kj28 t210 t209 (t216 != t191)) = some r := by rw [if_pos rfl] at H; exact H
             clear H
             have H := H1
             clear H1
             have H' := Aside0.mk H
             clear H
             obtain ⟨Ao60, co60, eo60⟩ := Kd.R_slice HO218.out
             subst eo60
             obtain ⟨Ao61, co61, eo61⟩ := Kd.R_slice HO_6.out
             subst eo61
             go_wp2_with (first | ((with_reducible refine gate_callee (f := 37) rfl ?_); refine goesL_ (some 86) rfl rfl Try.func37 (by kernel_rfl) rfl #[.slice Ao60 t215.length co60, .slice Ao61 t190.length co61] rfl Hd.m_ ?_; (with_reducible refine (laws_eqPointS.calls kj28 _ _ t215 _ _ t190 true _ ?side1 ?side2 ?side3 ?side4 A58.out).mono ?_); (case side1 => repeat (first | exact (Kd.R_reads' HO218.out).2.2 | (with_reducible refine Kd.C_alloc ?_ _) | (with_reducible refine Kd.C_drewN ?_ _) | (with_reducible refine Kd.C_drew ?_))); (case side2 => exact (Kd.R_reads' HO218.out).2.1); (case side3 => repeat (first | exact (Kd.R_reads' HO_6.out).2.2 | (with_reducible refine Kd.C_alloc ?_ _) | (with_reducible refine Kd.C_drewN ?_ _) | (with_reducible refine Kd.C_drew ?_))); (case side4 => exact (Kd.R_reads' HO_6.out).2.1); rintro e w62 ⟨rfl, hb⟩; refine ⟨_, rfl, ?_⟩; replace HO_6 := Aside0.mk (Kd.R_below (Hd.r_ HO_6) hb); replace HO_9 := Aside0.mk (Kd.R_below (Hd.r_ HO_9) hb); replace HO214 := Aside0.mk (Kd.R_below (Hd.r_ HO214) hb); replace HO218 := Aside0.mk (Kd.R_below (Hd.r_ HO218) hb); replace HB := Aside0.mk (below_step Hd.b_ hb); (try clear hb); (try clear hb2); (try clear hk); (try clear hi)))
             go_meet
             case rel => exact ⟨_, ((t216 != t191)), (by first | rfl | (simp; done) | (simp [*]; done)), H', ⟨by have := HJ8.out; have := HJ28.out; first | omega | exact Nat.le_refl _⟩, ⟨by (with_reducible repeat (first | apply Kd.R_alloc | apply Kd.R_drewN | apply Kd.R_drew)); exact Kd.R_mono HO_9.out (fun _ hk => trivial)⟩, ⟨Hd.b_⟩⟩
            ·
             replace c59 := Bool.eq_false_iff.mpr c59
             subst c59
             have H1 : (laws_FnExactDropPoint.j2 kj28 t210 t209 true) = some r := by rw [if_neg (show ¬ (false = true) by decide)] at H; exact H
             clear H
             have H := H1
             clear H1
             have H' := Aside0.mk H
             clear H
             obtain ⟨Ao63, co63, eo63⟩ := Kd.R_slice HO218.out
             subst eo63
             obtain ⟨Ao64, co64, eo64⟩ := Kd.R_slice HO_6.out
             subst eo64
             go_wp2_with (first | ((with_reducible refine gate_callee (f := 37) rfl ?_); refine goesL_ (some 86) rfl rfl Try.func37 (by kernel_rfl) rfl #[.slice Ao63 t215.length co63, .slice Ao64 t190.length co64] rfl Hd.m_ ?_; (with_reducible refine (laws_eqPointS.calls kj28 _ _ t215 _ _ t190 false _ ?side1 ?side2 ?side3 ?side4 A58.out).mono ?_); (case side1 => repeat (first | exact (Kd.R_reads' HO218.out).2.2 | (with_reducible refine Kd.C_alloc ?_ _) | (with_reducible refine Kd.C_drewN ?_ _) | (with_reducible refine Kd.C_drew ?_))); (case side2 => exact (Kd.R_reads' HO218.out).2.1); (case side3 => repeat (first | exact (Kd.R_reads' HO_6.out).2.2 | (with_reducible refine Kd.C_alloc ?_ _) | (with_reducible refine Kd.C_drewN ?_ _) | (with_reducible refine Kd.C_drew ?_))); (case side4 => exact (Kd.R_reads' HO_6.out).2.1); rintro e w65 ⟨rfl, hb⟩; refine ⟨_, rfl, ?_⟩; replace HO_6 := Aside0.mk (Kd.R_below (Hd.r_ HO_6) hb); replace HO_9 := Aside0.mk (Kd.R_below (Hd.r_ HO_9) hb); replace HO214 := Aside0.mk (Kd.R_below (Hd.r_ HO214) hb); replace HO218 := Aside0.mk (Kd.R_below (Hd.r_ HO218) hb); replace HB := Aside0.mk (below_step Hd.b_ hb); (try clear hb); (try clear hb2); (try clear hk); (try clear hi)))
             go_meet
             case rel => exact ⟨_, (true), (by first | rfl | (simp; done) | (simp [*]; done)), H', ⟨by have := HJ8.out; have := HJ28.out; first | omega | exact Nat.le_refl _⟩, ⟨by (with_reducible repeat (first | apply Kd.R_alloc | apply Kd.R_drewN | apply Kd.R_drew)); exact Kd.R_mono HO_9.out (fun _ hk => trivial)⟩, ⟨Hd.b_⟩⟩
           case rest =>
            clear HC52
            try clear c1
            try clear c2
            try clear p2
            try clear c3
            try clear c4
            try clear c4b0
            try clear c5
            try clear c6
            try clear c13
            try clear c17
            try clear c24
            try clear c27
            try clear c33
            try clear c34
            try clear c34b0
            try clear c35
            try clear c36
            try clear c37
            try clear c43
            try clear c46
            try clear c46b0
            try clear c49
            try clear c49b0
            try clear c49b1
            try clear c59
            try clear c65
            try clear p2
            obtain ⟨kq, x92_51, rfl, HA, HJ51, HO_9, HB⟩ := hcut
            have hl9_51 := (Kd.R_reads' HO_9.out).1
            rw [hl9_51] at HO_9
            (try simp only [hl9_51])
            cases kq with
            | zero => exact absurd HA.out (by simp [laws_FnExactDropPoint.j2])
            | succ kj51 =>
             have H := HA.out
             clear HA
             simp only [laws_FnExactDropPoint.j2] at H
             by_cases c66 : x92_51 = true
             ·
              subst c66
              have H1 : (some false) = some r := by rw [if_pos rfl] at H; exact H
              clear H
              have H := H1
              clear H1
              obtain rfl := Option.some.inj H
              go_wp2
              go_ret
              exact ⟨Hd.e_, Hd.b_⟩
             ·
              replace c66 := Bool.eq_false_iff.mpr c66
              subst c66
              have H1 : ((laws_heldPointS.f kj51 t210 1).bind fun t220 => (if t220 < 0 then (some false) else (if t220 = t209 then (some true) else (some false)))) = some r := by rw [if_neg (show ¬ (false = true) by decide)] at H; exact H
              clear H
              have H := H1
              clear H1
              replace H := Option.bind_eq_some_iff.mp H
              obtain ⟨t220, A670, H⟩ := H
              replace H : (if t220 < 0 then (some false) else (if t220 = t209 then (some true) else (some false))) = some r := H
              have A67 := Aside0.mk A670
              clear A670
              by_cases c68 : t220 < 0
              ·
               rw [if_pos c68] at H
               have c68b0 : decide (t220 < 0) = true := decide_eq_true c68
               clear c68
               obtain rfl := Option.some.inj H
               go_wp2_with (first | ((with_reducible refine gate_callee (f := 68) rfl ?_); refine goesL_ (some 95) rfl rfl Try.func68 (by kernel_rfl) rfl #[.slice Ao53 t210.length co53, .int .i64 1] rfl Hd.m_ ?_; (with_reducible refine (laws_heldPointS.calls kj51 _ _ t210 1 t220 _ ?side1 ?side2 A67.out).mono ?_); (case side1 => repeat (first | exact (Kd.R_reads' HO_9.out).2.2 | (with_reducible refine Kd.C_alloc ?_ _) | (with_reducible refine Kd.C_drewN ?_ _) | (with_reducible refine Kd.C_drew ?_))); (case side2 => exact (Kd.R_reads' HO_9.out).2.1); rintro e w' ⟨rfl, ⟨nd, rfl⟩⟩; refine ⟨_, rfl, ?_⟩))
               go_ret
               exact ⟨Hd.e_, Hd.b_⟩
              ·
               rw [if_neg c68] at H
               have c68b0 : decide (t220 < 0) = false := decide_eq_false c68
               clear c68
               by_cases c69 : t220 = t209
               ·
                rw [if_pos c69] at H
                have c69b0 : (t220 == t209) = true := beq_iff_eq.mpr c69
                have c69b1 : (t220 != t209) = false := bne_eq_false_iff_eq.mpr c69
                clear c69
                obtain rfl := Option.some.inj H
                go_wp2_with (first | ((with_reducible refine gate_callee (f := 68) rfl ?_); refine goesL_ (some 95) rfl rfl Try.func68 (by kernel_rfl) rfl #[.slice Ao53 t210.length co53, .int .i64 1] rfl Hd.m_ ?_; (with_reducible refine (laws_heldPointS.calls kj51 _ _ t210 1 t220 _ ?side1 ?side2 A67.out).mono ?_); (case side1 => repeat (first | exact (Kd.R_reads' HO_9.out).2.2 | (with_reducible refine Kd.C_alloc ?_ _) | (with_reducible refine Kd.C_drewN ?_ _) | (with_reducible refine Kd.C_drew ?_))); (case side2 => exact (Kd.R_reads' HO_9.out).2.1); rintro e w' ⟨rfl, ⟨nd, rfl⟩⟩; refine ⟨_, rfl, ?_⟩))
                go_ret
                exact ⟨Hd.e_, Hd.b_⟩
               ·
                rw [if_neg c69] at H
                have c69b0 : (t220 == t209) = false := beq_eq_false_iff_ne.mpr c69
                have c69b1 : (t220 != t209) = true := bne_iff_ne.mpr c69
                obtain rfl := Option.some.inj H
                go_wp2_with (first | ((with_reducible refine gate_callee (f := 68) rfl ?_); refine goesL_ (some 95) rfl rfl Try.func68 (by kernel_rfl) rfl #[.slice Ao53 t210.length co53, .int .i64 1] rfl Hd.m_ ?_; (with_reducible refine (laws_heldPointS.calls kj51 _ _ t210 1 t220 _ ?side1 ?side2 A67.out).mono ?_); (case side1 => repeat (first | exact (Kd.R_reads' HO_9.out).2.2 | (with_reducible refine Kd.C_alloc ?_ _) | (with_reducible refine Kd.C_drewN ?_ _) | (with_reducible refine Kd.C_drew ?_))); (case side2 => exact (Kd.R_reads' HO_9.out).2.1); rintro e w' ⟨rfl, ⟨nd, rfl⟩⟩; refine ⟨_, rfl, ?_⟩))
                go_ret
                exact ⟨Hd.e_, Hd.b_⟩
          ·
           rw [if_neg c49] at H
           have c49b0 : (t211 == t209) = false := beq_eq_false_iff_ne.mpr c49
           have c49b1 : (t211 != t209) = true := bne_iff_ne.mpr c49
           obtain rfl := Option.some.inj H
           obtain ⟨Ao70, co70, eo70⟩ := Kd.R_slice HO_9.out
           subst eo70
           go_wp2_with (first | ((with_reducible refine gate_callee (f := 67) rfl ?_); refine goesL_ (some 68) rfl rfl Try.func67 (by kernel_rfl) rfl #[.slice Ao70 t197.length co70, .int .i64 1] rfl Hd.m_ ?_; (with_reducible refine (laws_markPointS.calls kj28 (fun k_ => some k_ = (.slice Ao70 t197.length co70 : Value).ownBlock) (.slice Ao70 t197.length co70) t197 1 t209 t210 w _ ?side1 ?side2 A44.out).mono ?_); (case side1 => repeat (first | (with_reducible first | exact HB.out | apply below_alloc | apply pw_below_drewN | apply below_drew1) | exact HB.out)); (case side2 => exact Kd.R_tight rfl HO_9.out); rintro e w71 ⟨rfl, hy0, hb, hkp⟩; refine ⟨_, rfl, ?_⟩; replace HO_6 := Aside0.mk (Kd.R_mono (ok' := fun k_ => some k_ ≠ (.slice Ao70 t197.length co70 : Value).ownBlock) (Kd.R_keptB (HO_6.out) hkp (fun k_ hk_ hs_ => (hk_) hs_)) (fun k_ hk_ => hk_.1)); replace HO_9 := Aside0.mk (Kd.R_reok rfl hy0 (fun k_ e_ => HO_9.out.1 k_ e_)); replace HB := Aside0.mk (hb); (try clear hb); (try clear hkp); (try clear hy0)) | ((with_reducible refine gate_callee (f := 68) rfl ?_); refine goesL_ (some 71) rfl rfl Try.func68 (by kernel_rfl) rfl #[.slice Ao70 t210.length co70, .int .i64 1] rfl (by (try simp only [List.map_toArray, List.map_cons, List.map_nil]); first | done | (rw [show t210.length = t197.length from (Kd.R_reads' HO_9.out).1.symm] <;> rfl) | rfl | (simp only [List.length_drop, List.length_take]; rfl)) ?_; (with_reducible refine (laws_heldPointS.calls kj28 _ _ t210 1 t211 _ ?side1 ?side2 A45.out).mono ?_); (case side1 => repeat (first | exact (Kd.R_reads' HO_9.out).2.2 | (with_reducible refine Kd.C_alloc ?_ _) | (with_reducible refine Kd.C_drewN ?_ _) | (with_reducible refine Kd.C_drew ?_))); (case side2 => rw [show t210.length = t197.length from (Kd.R_reads' HO_9.out).1.symm]; exact (Kd.R_reads' HO_9.out).2.1); rintro e w' ⟨rfl, ⟨nd, rfl⟩⟩; refine ⟨_, rfl, ?_⟩))
           go_ret
           exact ⟨Hd.e_, Hd.b_⟩
     ·
      replace c27 := Bool.eq_false_iff.mpr c27
      subst c27
      have H1 : (some false) = some r := by rw [if_neg (show ¬ (false = true) by decide)] at H; exact H
      clear H
      have H := H1
      clear H1
      obtain rfl := Option.some.inj H
      go_wp2_with (first | ((with_reducible refine gate_callee (f := 35) rfl ?_); refine goesL_ (some 47) rfl rfl Try.func35 (by kernel_rfl) rfl #[.slice A0 l0.length c0] rfl Hd.m_ ?_; (with_reducible refine (laws_toPointS.calls kj8 _ _ l0 t202 _ ?side1 ?side2 A25.out).mono ?_); (case side1 => repeat (first | exact (Kd.C_below HR0.out HB.out) | (with_reducible refine Kd.C_alloc ?_ _) | (with_reducible refine Kd.C_drewN ?_ _) | (with_reducible refine Kd.C_drew ?_))); (case side2 => exact HC0.out); rintro e w72 ⟨v203, rfl, ho0, hb⟩; refine ⟨_, rfl, ?_⟩; have HO204 := Aside0.mk (Kd.R_lower (Kd.R_new' (Kd.R_new' (Kd.R_new' ho0 (Kd.R_lt (Hd.r_ HO_6))) (Kd.R_lt (Hd.r_ HO_8))) (Kd.R_lt (Hd.r_ HO_9))) (below_size Hd.b_)); replace HO_6 := Aside0.mk (Kd.R_elder' (Hd.r_ HO_6) (Kd.R_base ho0) hb); replace HO_8 := Aside0.mk (Kd.R_elder' (Hd.r_ HO_8) (Kd.R_base ho0) hb); replace HO_9 := Aside0.mk (Kd.R_elder' (Hd.r_ HO_9) (Kd.R_base ho0) hb); replace HB := Aside0.mk (below_step Hd.b_ hb); (try clear hb); (try clear hb2); (try clear hk); (try clear hi); (try clear ho0); obtain ⟨Ao73, co73, eo73⟩ := Kd.R_slice HO204.out; subst eo73) | ((with_reducible refine gate_callee (f := 37) rfl ?_); refine goesL_ (some 48) rfl rfl Try.func37 (by kernel_rfl) rfl #[.slice Ao14 t194.length co14, .slice Ao73 t202.length co73] rfl Hd.m_ ?_; (with_reducible refine (laws_eqPointS.calls kj8 _ _ t194 _ _ t202 false _ ?side1 ?side2 ?side3 ?side4 A26.out).mono ?_); (case side1 => repeat (first | exact (Kd.R_reads' HO_8.out).2.2 | (with_reducible refine Kd.C_alloc ?_ _) | (with_reducible refine Kd.C_drewN ?_ _) | (with_reducible refine Kd.C_drew ?_))); (case side2 => exact (Kd.R_reads' HO_8.out).2.1); (case side3 => repeat (first | exact (Kd.R_reads' HO204.out).2.2 | (with_reducible refine Kd.C_alloc ?_ _) | (with_reducible refine Kd.C_drewN ?_ _) | (with_reducible refine Kd.C_drew ?_))); (case side4 => exact (Kd.R_reads' HO204.out).2.1); rintro e w74 ⟨rfl, hb⟩; refine ⟨_, rfl, ?_⟩; replace HO_6 := Aside0.mk (Kd.R_below (Hd.r_ HO_6) hb); replace HO_8 := Aside0.mk (Kd.R_below (Hd.r_ HO_8) hb); replace HO_9 := Aside0.mk (Kd.R_below (Hd.r_ HO_9) hb); replace HO204 := Aside0.mk (Kd.R_below (Hd.r_ HO204) hb); replace HB := Aside0.mk (below_step Hd.b_ hb); (try clear hb); (try clear hb2); (try clear hk); (try clear hi)))
      go_ret
      exact ⟨Hd.e_, Hd.b_⟩
end Go.Proofs.Ytchmbcembbbplaa.MFnExactDropPoint
