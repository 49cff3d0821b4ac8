-- Laid by this session's program pp.py, after the kit's print and texts of the session's own. Not trusted: Lean checks it.
import Derived.Test.YtchmbcembbbplaaZRegionOfMx0
import Derived.Test.YtchmbcembbbplaaZRegionOfMx1
import Derived.Test.YtchmbcembbbplaaZRegionOfMx2
import Derived.Test.YtchmbcembbbplaaZRegionOfMx4
namespace Go.Proofs.Ytchmbcembbbplaa.MFnExactRegionOf
open Go.RowKit Go.Proofs.YtchmbcembbbplaaW.PrintWords Go.Proofs.YtchmbcembbbplaaW.PrintLast Go.Proofs.YtchmbcembbbplaaW.PrintMore
attribute [local go_sem] max2_int min2_int max_two min_two max_three min_three max_four min_four   -- for this text's walks alone
set_option linter.unusedVariables false
set_option linter.unusedSimpArgs false
def laws_FnExactRegionOf.f (k : Nat) (a0_0 : Int) (a0_1 : Int) (a0_2 : ByteArray) (a1 : Int) : Option (Bool) := (laws_szCover.f a0_0 a0_1 a0_2 1048576).bind fun t180 => (if t180 < 0 then (some true) else ((laws_toCover.f a0_0 a0_1 a0_2).bind fun bt181 => ((spec_RegionOf.f k bt181.1 bt181.2.1 bt181.2.2 a1).bind fun t184 => ((laws_toCover.f a0_0 a0_1 a0_2).bind fun bt185 => ((impl_RegionOf.f k bt185.1 bt185.2.1 bt185.2.2 a1).bind fun t188 => (if t188 = t184 then (some true) else (some false)))))))
set_option maxHeartbeats 8000000 in
set_option maxRecDepth 100000 in
theorem laws_FnExactRegionOf.calls (k : Nat) (a0_0 : Int) (a0_1 : Int) (a0_2 : ByteArray) (a1 : Int) (r : Bool) (w : World) (h : laws_FnExactRegionOf.f k a0_0 a0_1 a0_2 a1 = some r) :
  Calls Try.prog 11 #[.agg #[.int .i64 a0_0, .int .i64 a0_1, .string a0_2], .int .i64 a1] w fun e w' => e = .returned (.bool r) ∧ Below w.heap.size w w' := by
 have hu93 := Try.underlying93
 have HB := Aside0.mk (Below.refl w.heap.size w)
 have H : ((laws_szCover.f a0_0 a0_1 a0_2 1048576).bind fun t180 => (if t180 < 0 then (some true) else ((laws_toCover.f a0_0 a0_1 a0_2).bind fun bt181 => ((spec_RegionOf.f k bt181.1 bt181.2.1 bt181.2.2 a1).bind fun t184 => ((laws_toCover.f a0_0 a0_1 a0_2).bind fun bt185 => ((impl_RegionOf.f k bt185.1 bt185.2.1 bt185.2.2 a1).bind fun t188 => (if t188 = t184 then (some true) else (some false)))))))) = some r := h
 clear h
 replace H := Option.bind_eq_some_iff.mp H
 obtain ⟨t180, A30, H⟩ := H
 replace H : (if t180 < 0 then (some true) else ((laws_toCover.f a0_0 a0_1 a0_2).bind fun bt181 => ((spec_RegionOf.f k bt181.1 bt181.2.1 bt181.2.2 a1).bind fun t184 => ((laws_toCover.f a0_0 a0_1 a0_2).bind fun bt185 => ((impl_RegionOf.f k bt185.1 bt185.2.1 bt185.2.2 a1).bind fun t188 => (if t188 = t184 then (some true) else (some false))))))) = some r := H
 have A3 := Aside0.mk A30
 clear A30
 by_cases c4 : t180 < 0
 ·
  rw [if_pos c4] at H
  have c4b0 : decide (t180 < 0) = true := decide_eq_true c4
  clear c4
  obtain rfl := Option.some.inj H
  go_enter Try.func11, Try.ntmps11
  go_wp2_with (first | ((with_reducible refine gate_dst (N := 2) rfl ?_); refine Hd.box_ 2 (#[.int .i64 a0_0, .int .i64 a0_1, .string a0_2]) 93 ?_; intro gb179 hg w5 hbox hb; have BK179 := Aside0.mk (hbox); have GW179 := Aside0.mk ((Hd.g_ hg Hd.b_ : w.heap.size ≤ gb179)); have GE179 := Aside0.mk ((Hd.g_ hg Hd.b_ : w.heap.size ≤ gb179)); replace HB := Aside0.mk (below_step Hd.b_ hb); clear hb hbox hg; obtain ⟨hcz6_0, hcz6_1, hcz6_2⟩ := Hd.c3_ BK179.out; obtain ⟨hfz6_0, hfz6_1, hfz6_2⟩ := Hd.f3_ BK179.out) | ((with_reducible refine gate_callee (f := 57) rfl ?_); refine goesL_ (some 10) rfl rfl Try.func57 (by kernel_rfl) rfl #[.agg #[.int .i64 a0_0, .int .i64 a0_1, .string a0_2], .int .i64 1048576] rfl Hd.m_ ?_; (with_reducible refine (laws_szCover.calls a0_0 a0_1 a0_2 1048576 t180 _ A3.out).mono ?_); rintro e w7 ⟨rfl, hb⟩; refine ⟨_, rfl, ?_⟩; replace BK179 := Aside0.mk (Hd.kb_ BK179 hb); replace HB := Aside0.mk (below_step Hd.b_ hb); (try clear hb); (try clear hb2); (try clear hk); (try clear hi)))
  go_ret
  exact ⟨Hd.e_, Hd.b_⟩
 ·
  rw [if_neg c4] at H
  have c4b0 : decide (t180 < 0) = false := decide_eq_false c4
  clear c4
  replace H := Option.bind_eq_some_iff.mp H
  obtain ⟨⟨t181, t182, t183⟩, A80, H⟩ := H
  replace H : ((spec_RegionOf.f k t181 t182 t183 a1).bind fun t184 => ((laws_toCover.f a0_0 a0_1 a0_2).bind fun bt185 => ((impl_RegionOf.f k bt185.1 bt185.2.1 bt185.2.2 a1).bind fun t188 => (if t188 = t184 then (some true) else (some false))))) = some r := H
  have A8 := Aside0.mk A80
  clear A80
  replace H := Option.bind_eq_some_iff.mp H
  obtain ⟨t184, A90, H⟩ := H
  replace H : ((laws_toCover.f a0_0 a0_1 a0_2).bind fun bt185 => ((impl_RegionOf.f k bt185.1 bt185.2.1 bt185.2.2 a1).bind fun t188 => (if t188 = t184 then (some true) else (some false)))) = some r := H
  have A9 := Aside0.mk A90
  clear A90
  replace H := Option.bind_eq_some_iff.mp H
  obtain ⟨⟨t185, t186, t187⟩, A100, H⟩ := H
  replace H : ((impl_RegionOf.f k t185 t186 t187 a1).bind fun t188 => (if t188 = t184 then (some true) else (some false))) = some r := H
  have A10 := Aside0.mk A100
  clear A100
  replace H := Option.bind_eq_some_iff.mp H
  obtain ⟨t188, A110, H⟩ := H
  replace H : (if t188 = t184 then (some true) else (some false)) = some r := H
  have A11 := Aside0.mk A110
  clear A110
  by_cases c12 : t188 = t184
  ·
   rw [if_pos c12] at H
   have c12b0 : (t188 == t184) = true := beq_iff_eq.mpr c12
   have c12b1 : (t188 != t184) = false := bne_eq_false_iff_eq.mpr c12
   clear c12
   obtain rfl := Option.some.inj H
   go_enter Try.func11, Try.ntmps11
   go_wp2_with (first | ((with_reducible refine gate_dst (N := 2) rfl ?_); refine Hd.box_ 2 (#[.int .i64 a0_0, .int .i64 a0_1, .string a0_2]) 93 ?_; intro gb179 hg w13 hbox hb; have BK179 := Aside0.mk (hbox); have GW179 := Aside0.mk ((Hd.g_ hg Hd.b_ : w.heap.size ≤ gb179)); have GE179 := Aside0.mk ((Hd.g_ hg Hd.b_ : w.heap.size ≤ gb179)); replace HB := Aside0.mk (below_step Hd.b_ hb); clear hb hbox hg; obtain ⟨hcz14_0, hcz14_1, hcz14_2⟩ := Hd.c3_ BK179.out; obtain ⟨hfz14_0, hfz14_1, hfz14_2⟩ := Hd.f3_ BK179.out) | ((with_reducible refine gate_callee (f := 57) rfl ?_); refine goesL_ (some 10) rfl rfl Try.func57 (by kernel_rfl) rfl #[.agg #[.int .i64 a0_0, .int .i64 a0_1, .string a0_2], .int .i64 1048576] rfl Hd.m_ ?_; (with_reducible refine (laws_szCover.calls a0_0 a0_1 a0_2 1048576 t180 _ A3.out).mono ?_); rintro e w15 ⟨rfl, hb⟩; refine ⟨_, rfl, ?_⟩; replace BK179 := Aside0.mk (Hd.kb_ BK179 hb); replace HB := Aside0.mk (below_step Hd.b_ hb); (try clear hb); (try clear hb2); (try clear hk); (try clear hi); obtain ⟨hcz16_0, hcz16_1, hcz16_2⟩ := Hd.c3_ BK179.out; obtain ⟨hfz16_0, hfz16_1, hfz16_2⟩ := Hd.f3_ BK179.out) | ((with_reducible refine gate_callee (f := 59) rfl ?_); refine goesL_ (some 14) rfl rfl Try.func59 (by kernel_rfl) rfl #[.agg #[.int .i64 a0_0, .int .i64 a0_1, .string a0_2]] rfl Hd.m_ ?_; (with_reducible refine (laws_toCover.calls a0_0 a0_1 a0_2 t181 t182 t183 _ A8.out).mono ?_); rintro e w17 ⟨rfl, hb⟩; refine ⟨_, rfl, ?_⟩; replace BK179 := Aside0.mk (Hd.kb_ BK179 hb); replace HB := Aside0.mk (below_step Hd.b_ hb); (try clear hb); (try clear hb2); (try clear hk); (try clear hi)) | ((with_reducible refine gate_callee (f := 58) rfl ?_); refine goesL_ (some 16) rfl rfl Try.func58 (by kernel_rfl) rfl #[.agg #[.int .i64 t181, .int .i64 t182, .string t183], .int .i64 a1] rfl Hd.m_ ?_; (with_reducible refine (spec_RegionOf.calls k t181 t182 t183 a1 t184 _ A9.out).mono ?_); rintro e w18 ⟨rfl, hb⟩; refine ⟨_, rfl, ?_⟩; replace BK179 := Aside0.mk (Hd.kb_ BK179 hb); replace HB := Aside0.mk (below_step Hd.b_ hb); (try clear hb); (try clear hb2); (try clear hk); (try clear hi); obtain ⟨hcz19_0, hcz19_1, hcz19_2⟩ := Hd.c3_ BK179.out; obtain ⟨hfz19_0, hfz19_1, hfz19_2⟩ := Hd.f3_ BK179.out) | ((with_reducible refine gate_callee (f := 59) rfl ?_); refine goesL_ (some 18) rfl rfl Try.func59 (by kernel_rfl) rfl #[.agg #[.int .i64 a0_0, .int .i64 a0_1, .string a0_2]] rfl Hd.m_ ?_; (with_reducible refine (laws_toCover.calls a0_0 a0_1 a0_2 t185 t186 t187 _ A10.out).mono ?_); rintro e w20 ⟨rfl, hb⟩; refine ⟨_, rfl, ?_⟩; replace BK179 := Aside0.mk (Hd.kb_ BK179 hb); replace HB := Aside0.mk (below_step Hd.b_ hb); (try clear hb); (try clear hb2); (try clear hk); (try clear hi)) | ((with_reducible refine gate_callee (f := 60) rfl ?_); refine goesL_ (some 20) rfl rfl Try.func60 (by kernel_rfl) rfl #[.agg #[.int .i64 t185, .int .i64 t186, .string t187], .int .i64 a1] rfl Hd.m_ ?_; (with_reducible refine (impl_RegionOf.calls k t185 t186 t187 a1 t188 _ A11.out).mono ?_); rintro e w21 ⟨rfl, hb⟩; refine ⟨_, rfl, ?_⟩; replace BK179 := Aside0.mk (Hd.kb_ BK179 hb); replace HB := Aside0.mk (below_step Hd.b_ hb); (try clear hb); (try clear hb2); (try clear hk); (try clear hi)))
   go_ret
   exact ⟨Hd.e_, Hd.b_⟩
  ·
   rw [if_neg c12] at H
   have c12b0 : (t188 == t184) = false := beq_eq_false_iff_ne.mpr c12
   have c12b1 : (t188 != t184) = true := bne_iff_ne.mpr c12
   obtain rfl := Option.some.inj H
   go_enter Try.func11, Try.ntmps11
   go_wp2_with (first | ((with_reducible refine gate_dst (N := 2) rfl ?_); refine Hd.box_ 2 (#[.int .i64 a0_0, .int .i64 a0_1, .string a0_2]) 93 ?_; intro gb179 hg w22 hbox hb; have BK179 := Aside0.mk (hbox); have GW179 := Aside0.mk ((Hd.g_ hg Hd.b_ : w.heap.size ≤ gb179)); have GE179 := Aside0.mk ((Hd.g_ hg Hd.b_ : w.heap.size ≤ gb179)); replace HB := Aside0.mk (below_step Hd.b_ hb); clear hb hbox hg; obtain ⟨hcz23_0, hcz23_1, hcz23_2⟩ := Hd.c3_ BK179.out; obtain ⟨hfz23_0, hfz23_1, hfz23_2⟩ := Hd.f3_ BK179.out) | ((with_reducible refine gate_callee (f := 57) rfl ?_); refine goesL_ (some 10) rfl rfl Try.func57 (by kernel_rfl) rfl #[.agg #[.int .i64 a0_0, .int .i64 a0_1, .string a0_2], .int .i64 1048576] rfl Hd.m_ ?_; (with_reducible refine (laws_szCover.calls a0_0 a0_1 a0_2 1048576 t180 _ A3.out).mono ?_); rintro e w24 ⟨rfl, hb⟩; refine ⟨_, rfl, ?_⟩; replace BK179 := Aside0.mk (Hd.kb_ BK179 hb); replace HB := Aside0.mk (below_step Hd.b_ hb); (try clear hb); (try clear hb2); (try clear hk); (try clear hi); obtain ⟨hcz25_0, hcz25_1, hcz25_2⟩ := Hd.c3_ BK179.out; obtain ⟨hfz25_0, hfz25_1, hfz25_2⟩ := Hd.f3_ BK179.out) | ((with_reducible refine gate_callee (f := 59) rfl ?_); refine goesL_ (some 14) rfl rfl Try.func59 (by kernel_rfl) rfl #[.agg #[.int .i64 a0_0, .int .i64 a0_1, .string a0_2]] rfl Hd.m_ ?_; (with_reducible refine (laws_toCover.calls a0_0 a0_1 a0_2 t181 t182 t183 _ A8.out).mono ?_); rintro e w26 ⟨rfl, hb⟩; refine ⟨_, rfl, ?_⟩; replace BK179 := Aside0.mk (Hd.kb_ BK179 hb); replace HB := Aside0.mk (below_step Hd.b_ hb); (try clear hb); (try clear hb2); (try clear hk); (try clear hi)) | ((with_reducible refine gate_callee (f := 58) rfl ?_); refine goesL_ (some 16) rfl rfl Try.func58 (by kernel_rfl) rfl #[.agg #[.int .i64 t181, .int .i64 t182, .string t183], .int .i64 a1] rfl Hd.m_ ?_; (with_reducible refine (spec_RegionOf.calls k t181 t182 t183 a1 t184 _ A9.out).mono ?_); rintro e w27 ⟨rfl, hb⟩; refine ⟨_, rfl, ?_⟩; replace BK179 := Aside0.mk (Hd.kb_ BK179 hb); replace HB := Aside0.mk (below_step Hd.b_ hb); (try clear hb); (try clear hb2); (try clear hk); (try clear hi); obtain ⟨hcz28_0, hcz28_1, hcz28_2⟩ := Hd.c3_ BK179.out; obtain ⟨hfz28_0, hfz28_1, hfz28_2⟩ := Hd.f3_ BK179.out) | ((with_reducible refine gate_callee (f := 59) rfl ?_); refine goesL_ (some 18) rfl rfl Try.func59 (by kernel_rfl) rfl #[.agg #[.int .i64 a0_0, .int .i64 a0_1, .string a0_2]] rfl Hd.m_ ?_; (with_reducible refine (laws_toCover.calls a0_0 a0_1 a0_2 t185 t186 t187 _ A10.out).mono ?_); rintro e w29 ⟨rfl, hb⟩; refine ⟨_, rfl, ?_⟩; replace BK179 := Aside0.mk (Hd.kb_ BK179 hb); replace HB := Aside0.mk (below_step Hd.b_ hb); (try clear hb); (try clear hb2); (try clear hk); (try clear hi)) | ((with_reducible refine gate_callee (f := 60) rfl ?_); refine goesL_ (some 20) rfl rfl Try.func60 (by kernel_rfl) rfl #[.agg #[.int .i64 t185, .int .i64 t186, .string t187], .int .i64 a1] rfl Hd.m_ ?_; (with_reducible refine (impl_RegionOf.calls k t185 t186 t187 a1 t188 _ A11.out).mono ?_); rintro e w30 ⟨rfl, hb⟩; refine ⟨_, rfl, ?_⟩; replace BK179 := Aside0.mk (Hd.kb_ BK179 hb); replace HB := Aside0.mk (below_step Hd.b_ hb); (try clear hb); (try clear hb2); (try clear hk); (try clear hi)))
   go_ret
   exact ⟨Hd.e_, Hd.b_⟩
end Go.Proofs.Ytchmbcembbbplaa.MFnExactRegionOf
