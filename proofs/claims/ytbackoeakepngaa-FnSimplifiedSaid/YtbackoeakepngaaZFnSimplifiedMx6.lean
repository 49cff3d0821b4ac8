-- Laid by this session's program pp.py, after the kit's print and texts of the session's own. Not trusted: Lean checks it.
import Derived.Test.YtbackoeakepngaaZFnSimplifiedMx0
import Derived.Test.YtbackoeakepngaaZFnSimplifiedMx1
import Derived.Test.YtbackoeakepngaaZFnSimplifiedMx2
import Derived.Test.YtbackoeakepngaaZFnSimplifiedMx4
import Derived.Test.YtbackoeakepngaaZFnSimplifiedMx5
namespace Go.Proofs.Ytbackoeakepngaa.MFnSimplified
open Go.RowKit Go.Proofs.YtbackoeakepngaaW.PrintWords Go.Proofs.YtbackoeakepngaaW.PrintLast Go.Proofs.YtbackoeakepngaaW.PrintMore
attribute [local go_sem] max2_int min2_int max_two min_two max_three min_three max_four min_four   -- for this text's walks alone
set_option linter.unusedVariables false
set_option linter.unusedSimpArgs false
attribute [local go_sem high] eqA27
def spec_l6Any.l0 : Nat → List (S27) → List Int → Int → Int → Option ((List (S27)) × Int × Int)
 | 0, _, _, _, _ => none
 | k + 1, x3, x1000, x1001, x1002 => if (x3.length : Int) < 11 then (if x3.length < 8796093022208 then (spec_l6Any.l0 k (x3 ++ [(⟨(x3.length : Int), wrap64 (50 + (x3.length : Int))⟩ : S27)]) x1000 x1001 x1002) else (none)) else (some (x3, x1001, x1002))
def spec_l6Any.f (k : Nat) (s0_0 : List Int) (s0_1 : Int) (s0_2 : Int) : Option ((List (S27)) × Int × Int) := (spec_l6Draw.f k s0_0 s0_1 s0_2).bind fun bt234 => ((spec_l1Below.f s0_0 bt234.2.1 bt234.2.2 12).bind fun bt239 => (if bt239.1 = 0 then ((spec_l4Any.f s0_0 bt239.2.1 bt239.2.2).bind fun bt242 => (if 0 < (bt234.1.length : Int) then (some ((bt234.1.set (0 : Int).toNat (⟨bt242.1, bt242.2.1⟩ : S27)), bt242.2.2.1, bt242.2.2.2)) else (none))) else (if bt239.1 = 1 then (if 0 ≤ (wrap64 ((bt234.1.length : Int) - 1)) then (if (wrap64 ((bt234.1.length : Int) - 1)) < (bt234.1.length : Int) then (if bt234.1.length < 8796093022208 then (some ((bt234.1 ++ [(⟨(rd_T27 bt234.1 (wrap64 ((bt234.1.length : Int) - 1))).f0, (rd_T27 bt234.1 (wrap64 ((bt234.1.length : Int) - 1))).f1⟩ : S27)]), bt239.2.1, bt239.2.2)) else (none)) else (none)) else (none)) else (if bt239.1 = 2 then (if 1 ≤ (bt234.1.length : Int) then (some ((bt234.1.take (1 : Int).toNat), bt239.2.1, bt239.2.2)) else (none)) else (if bt239.1 = 3 then (spec_l6Any.l0 k bt234.1 s0_0 bt239.2.1 bt239.2.2) else (some (bt234.1, bt239.2.1, bt239.2.2)))))))
set_option maxHeartbeats 8000000 in
set_option maxRecDepth 100000 in
theorem spec_l6Any.calls (k : Nat) (g : Nat) (s0_0 : List Int) (s0_1 : Int) (s0_2 : Int) (r1 : List (S27)) (r2 : Int) (r3 : Int) (w0 w : World) (hI : IsS109 w0 w g s0_0 s0_1 s0_2) (hB : Below w0.heap.size w0 w) (h : spec_l6Any.f k s0_0 s0_1 s0_2 = some (r1, r2, r3)) :
  Calls Try.prog 78 #[.pointer (some ⟨g, 0, none⟩)] w fun e w' => ∃ v0_ : Value, e = .returned (v0_) ∧ Kd.R k27 27 w' w.heap.size (fun _ => True) v0_ r1 ∧ IsS109 w0 w' g s0_0 r2 r3 ∧ Below w0.heap.size w0 w' ∧ KeepBut w w' g none := by
 have hu27 := Try.underlying27
 have HI0 := Aside0.mk hI
 have HK := Aside0.mk (KeepBut.refl w g none)
 have HL := Aside0.mk hB.size
 clear hI
 have HW0 := Aside0.mk hB.size
 have HB := Aside0.mk hB
 clear hB
 have H : ((spec_l6Draw.f k s0_0 s0_1 s0_2).bind fun bt234 => ((spec_l1Below.f s0_0 bt234.2.1 bt234.2.2 12).bind fun bt239 => (if bt239.1 = 0 then ((spec_l4Any.f s0_0 bt239.2.1 bt239.2.2).bind fun bt242 => (if 0 < (bt234.1.length : Int) then (some ((bt234.1.set (0 : Int).toNat (⟨bt242.1, bt242.2.1⟩ : S27)), bt242.2.2.1, bt242.2.2.2)) else (none))) else (if bt239.1 = 1 then (if 0 ≤ (wrap64 ((bt234.1.length : Int) - 1)) then (if (wrap64 ((bt234.1.length : Int) - 1)) < (bt234.1.length : Int) then (if bt234.1.length < 8796093022208 then (some ((bt234.1 ++ [(⟨(rd_T27 bt234.1 (wrap64 ((bt234.1.length : Int) - 1))).f0, (rd_T27 bt234.1 (wrap64 ((bt234.1.length : Int) - 1))).f1⟩ : S27)]), bt239.2.1, bt239.2.2)) else (none)) else (none)) else (none)) else (if bt239.1 = 2 then (if 1 ≤ (bt234.1.length : Int) then (some ((bt234.1.take (1 : Int).toNat), bt239.2.1, bt239.2.2)) else (none)) else (if bt239.1 = 3 then (spec_l6Any.l0 k bt234.1 s0_0 bt239.2.1 bt239.2.2) else (some (bt234.1, bt239.2.1, bt239.2.2)))))))) = some (r1, r2, r3) := h
 clear h
 replace H := Option.bind_eq_some_iff.mp H
 obtain ⟨⟨t234, t237, t238⟩, A20, H⟩ := H
 replace H : ((spec_l1Below.f s0_0 t237 t238 12).bind fun bt239 => (if bt239.1 = 0 then ((spec_l4Any.f s0_0 bt239.2.1 bt239.2.2).bind fun bt242 => (if 0 < (t234.length : Int) then (some ((t234.set (0 : Int).toNat (⟨bt242.1, bt242.2.1⟩ : S27)), bt242.2.2.1, bt242.2.2.2)) else (none))) else (if bt239.1 = 1 then (if 0 ≤ (wrap64 ((t234.length : Int) - 1)) then (if (wrap64 ((t234.length : Int) - 1)) < (t234.length : Int) then (if t234.length < 8796093022208 then (some ((t234 ++ [(⟨(rd_T27 t234 (wrap64 ((t234.length : Int) - 1))).f0, (rd_T27 t234 (wrap64 ((t234.length : Int) - 1))).f1⟩ : S27)]), bt239.2.1, bt239.2.2)) else (none)) else (none)) else (none)) else (if bt239.1 = 2 then (if 1 ≤ (t234.length : Int) then (some ((t234.take (1 : Int).toNat), bt239.2.1, bt239.2.2)) else (none)) else (if bt239.1 = 3 then (spec_l6Any.l0 k t234 s0_0 bt239.2.1 bt239.2.2) else (some (t234, bt239.2.1, bt239.2.2))))))) = some (r1, r2, r3) := H
 have A2 := Aside0.mk A20
 clear A20
 replace H := Option.bind_eq_some_iff.mp H
 obtain ⟨⟨t239, t240, t241⟩, A30, H⟩ := H
 replace H : (if t239 = 0 then ((spec_l4Any.f s0_0 t240 t241).bind fun bt242 => (if 0 < (t234.length : Int) then (some ((t234.set (0 : Int).toNat (⟨bt242.1, bt242.2.1⟩ : S27)), bt242.2.2.1, bt242.2.2.2)) else (none))) else (if t239 = 1 then (if 0 ≤ (wrap64 ((t234.length : Int) - 1)) then (if (wrap64 ((t234.length : Int) - 1)) < (t234.length : Int) then (if t234.length < 8796093022208 then (some ((t234 ++ [(⟨(rd_T27 t234 (wrap64 ((t234.length : Int) - 1))).f0, (rd_T27 t234 (wrap64 ((t234.length : Int) - 1))).f1⟩ : S27)]), t240, t241)) else (none)) else (none)) else (none)) else (if t239 = 2 then (if 1 ≤ (t234.length : Int) then (some ((t234.take (1 : Int).toNat), t240, t241)) else (none)) else (if t239 = 3 then (spec_l6Any.l0 k t234 s0_0 t240 t241) else (some (t234, t240, t241)))))) = some (r1, r2, r3) := H
 have A3 := Aside0.mk A30
 clear A30
 by_cases c4 : t239 = 0
 ·
  rw [if_pos c4] at H
  have c4b0 : (t239 == 0) = true := beq_iff_eq.mpr c4
  have c4b1 : (t239 != 0) = false := bne_eq_false_iff_eq.mpr c4
  clear c4
  replace H := Option.bind_eq_some_iff.mp H
  obtain ⟨⟨t242, t243, t244, t245⟩, A50, H⟩ := H
  replace H : (if 0 < (t234.length : Int) then (some ((t234.set (0 : Int).toNat (⟨t242, t243⟩ : S27)), t244, t245)) else (none)) = some (r1, r2, r3) := H
  have A5 := Aside0.mk A50
  clear A50
  by_cases c6 : 0 < (t234.length : Int)
  ·
   rw [if_pos c6] at H
   have c6b0 : decide (0 < (t234.length : Int)) = true := decide_eq_true c6
   have c6b1 : decide (0 < t234.length) = true := decide_eq_true (by omega)
   clear c6
   obtain ⟨y246, hy246⟩ : ∃ y_ : List (S27), y_ = (t234.set (0 : Int).toNat (⟨t242, t243⟩ : S27)) := ⟨_, rfl⟩
   replace H : (some (y246, t244, t245)) = some (r1, r2, r3) := by first | (rw [hy246]; with_reducible exact H) | (have H2_ := (Option.bind_some _ _).symm.trans H; rw [hy246]; with_reducible exact H2_) | (have H2_ := (Option.bind_some _ _).symm.trans H; with_reducible exact H2_) | with_reducible exact H | (rw [hy246]; exact H) | exact H
   have Ny246 := Aside0.mk hy246
   clear hy246
   simp only [Option.some.injEq, Prod.mk.injEq] at H
   obtain ⟨rfl, rfl, rfl⟩ := H
   go_enter Try.func78, Try.ntmps78
   go_wp2_with (first | ((with_reducible refine gate_callee (f := 104) rfl ?_); refine goesL_ (some 5) rfl rfl Try.func104 (by kernel_rfl) rfl #[.pointer (some ⟨g, 0, none⟩)] rfl Hd.m_ ?_; (with_reducible refine (spec_l6Draw.calls k g s0_0 s0_1 s0_2 t234 t237 t238 w0 _ ?side1 ?side2 A2.out).mono ?_); (case side1 => repeat (first | (with_reducible first | exact HI0.out | apply IsS109.alloc | apply IsS109.drewN | apply IsS109.drew | apply IsS109.set_1 | apply IsS109.set_2) | exact HI0.out)); (case side2 => repeat (first | (with_reducible first | exact HB.out | apply below_alloc | apply pw_below_drewN | apply below_drew1 | refine below_set ?_ (IsS109.ge HI0.out)) | exact HB.out)); rintro e w8 ⟨v235, rfl, ho0, hi, hb, hk⟩; refine ⟨_, rfl, ?_⟩; have HO236 := Aside0.mk (Kd.R_lower ho0 (keep_size (w := w) (g := g) (row := none) (by repeat (first | (with_reducible first | exact HK.out | apply KeepBut.set_ | apply keep_drewN | apply keep_drew | apply keep_alloc) | exact HK.out)))); replace HK := Aside0.mk (KeepBut.trans (by repeat (first | (with_reducible first | exact HK.out | apply KeepBut.set_ | apply keep_drewN | apply keep_drew | apply keep_alloc) | exact HK.out)) hk (.inl rfl)); replace HB := Aside0.mk (hb); replace HI0 := Aside0.mk (hi); (try clear hb); (try clear hb2); (try clear hk); (try clear hi); (try clear ho0)) | ((with_reducible refine gate_callee (f := 89) rfl ?_); refine goesL_ (some 7) rfl rfl Try.func89 (by kernel_rfl) rfl #[.pointer (some ⟨g, 0, none⟩), .int .i64 12] rfl Hd.m_ ?_; (with_reducible refine (spec_l1Below.calls g s0_0 t237 t238 12 t239 t240 t241 w0 _ ?side1 ?side2 A3.out).mono ?_); (case side1 => repeat (first | (with_reducible first | exact HI0.out | apply IsS109.alloc | apply IsS109.drewN | apply IsS109.drew | apply IsS109.set_1 | apply IsS109.set_2) | exact HI0.out)); (case side2 => repeat (first | (with_reducible first | exact HB.out | apply below_alloc | apply pw_below_drewN | apply below_drew1 | refine below_set ?_ (IsS109.ge HI0.out)) | exact HB.out)); rintro e w9 ⟨rfl, hi, hb, hk⟩; refine ⟨_, rfl, ?_⟩; replace HO236 := Aside0.mk (Kd.R_mono (Kd.R_keep (IsS109.apart (show IsS109 w0 _ g s0_0 t237 t238 from by repeat (first | (with_reducible first | exact HI0.out | apply IsS109.alloc | apply IsS109.drewN | apply IsS109.drew | apply IsS109.set_1 | apply IsS109.set_2) | exact HI0.out)) (Hd.r_ HO236) (by decide)) hk (fun _ h => h.2)) (fun _ h => h.1)); replace HK := Aside0.mk (KeepBut.trans (by repeat (first | (with_reducible first | exact HK.out | apply KeepBut.set_ | apply keep_drewN | apply keep_drew | apply keep_alloc) | exact HK.out)) hk (.inl rfl)); replace HB := Aside0.mk (hb); replace HI0 := Aside0.mk (hi); (try clear hb); (try clear hb2); (try clear hk); (try clear hi)) | ((with_reducible refine gate_callee (f := 82) rfl ?_); refine goesL_ (some 12) rfl rfl Try.func82 (by kernel_rfl) rfl #[.pointer (some ⟨g, 0, none⟩)] rfl Hd.m_ ?_; (with_reducible refine (spec_l4Any.calls g s0_0 t240 t241 t242 t243 t244 t245 w0 _ ?side1 ?side2 A5.out).mono ?_); (case side1 => repeat (first | (with_reducible first | exact HI0.out | apply IsS109.alloc | apply IsS109.drewN | apply IsS109.drew | apply IsS109.set_1 | apply IsS109.set_2) | exact HI0.out)); (case side2 => repeat (first | (with_reducible first | exact HB.out | apply below_alloc | apply pw_below_drewN | apply below_drew1 | refine below_set ?_ (IsS109.ge HI0.out)) | exact HB.out)); rintro e w10 ⟨rfl, hi, hb, hk⟩; refine ⟨_, rfl, ?_⟩; replace HO236 := Aside0.mk (Kd.R_mono (Kd.R_keep (IsS109.apart (show IsS109 w0 _ g s0_0 t240 t241 from by repeat (first | (with_reducible first | exact HI0.out | apply IsS109.alloc | apply IsS109.drewN | apply IsS109.drew | apply IsS109.set_1 | apply IsS109.set_2) | exact HI0.out)) (Hd.r_ HO236) (by decide)) hk (fun _ h => h.2)) (fun _ h => h.1)); replace HK := Aside0.mk (KeepBut.trans (by repeat (first | (with_reducible first | exact HK.out | apply KeepBut.set_ | apply keep_drewN | apply keep_drew | apply keep_alloc) | exact HK.out)) hk (.inl rfl)); replace HB := Aside0.mk (hb); replace HI0 := Aside0.mk (hi); (try clear hb); (try clear hb2); (try clear hk); (try clear hi); have p7 : 0 ≤ (0 : Int) := (by omega); have q7 : (0 : Int) < ((t234.length : Int) : Int) := of_decide_eq_true Hd.a_; have qi7 : (0 < t234.length) = True := eq_true (by omega); obtain ⟨go7, co7, eo7, gb7, gl7, cl7, HG7⟩ := Kd.R_form HO236.out (by omega); (first | cases eo7 | (injection eo7 with ea_ en_ ec_; (first | subst ea_ | (injection ea_ with ea_; subst ea_)); subst ec_; clear en_)); have GB7 := Aside0.mk gb7; have GG7 := Aside0.mk HG7; clear gb7 gl7 HG7; obtain ⟨ce7, hcl7, hM7, hcc7, hfr7⟩ := Kd.R_elem HO236.out z27 (0 : Int) p7 q7; obtain rfl := k27_openM hM7; have hx7_0 : w10.cell? ⟨go7, (0 : Int).toNat * 2, none⟩ = some (.int .i64 ((rd_T27 t234 0).f0)) := hcc7 0 _ rfl; have hx7_1 : w10.cell? ⟨go7, (0 : Int).toNat * 2 + 1, none⟩ = some (.int .i64 ((rd_T27 t234 0).f1)) := hcc7 1 _ rfl; have hf7_0 : w10.frozen? ⟨go7, (0 : Int).toNat * 2, none⟩ = false := hfr7 0; have hf7_1 : w10.frozen? ⟨go7, (0 : Int).toNat * 2 + 1, none⟩ = false := hfr7 1; clear hcl7 hcc7 hfr7 hM7; (try rw [show ((0 : Int)).toNat = 0 from rfl] at hx7_0); (try simp only [Nat.reduceMul, Nat.zero_mul, Nat.zero_add, Nat.reduceAdd] at hx7_0); (try rw [show ((0 : Int)).toNat = 0 from rfl] at hf7_0); (try simp only [Nat.reduceMul, Nat.zero_mul, Nat.zero_add, Nat.reduceAdd] at hf7_0); (try rw [show ((0 : Int)).toNat = 0 from rfl] at hx7_1); (try simp only [Nat.reduceMul, Nat.zero_mul, Nat.zero_add, Nat.reduceAdd] at hx7_1); (try rw [show ((0 : Int)).toNat = 0 from rfl] at hf7_1); (try simp only [Nat.reduceMul, Nat.zero_mul, Nat.zero_add, Nat.reduceAdd] at hf7_1); replace p7 := eq_true p7; replace q7 := eq_true q7; have HX11 := Aside0.mk (show Kd.R k27 27 w10 w.heap.size (fun _ => True) (.slice (some ⟨go7, 0, none⟩) t234.length co7) t234 from (Hd.r_ HO236)); obtain ⟨ce11, hcl11, hM11, hcc11, hfr11⟩ := Kd.R_elem HX11.out z27 (0 : Int) (by omega) (by have h_ : (0 : Int) < ((t234.length : Int) : Int) := of_decide_eq_true Hd.a_; first | exact h_ | (have e_ := (Kd.R_reads' HO236.out).1; omega) | simpa using h_); obtain rfl := k27_openM hM11; have HP11 := Kd.R_seg HX11.out (0 : Int) (by omega) (by have h_ : (0 : Int) < ((t234.length : Int) : Int) := of_decide_eq_true Hd.a_; first | exact h_ | (have e_ := (Kd.R_reads' HO236.out).1; omega) | simpa using h_) (seg := [.int .i64 t242, .int .i64 t243]) (j := 0) hcl11 hcc11 (show 2 ≤ 2 from by decide) (x' := (⟨t242, t243⟩ : S27)) (k27_mkM _ _ _ (⟨t242, t243⟩ : S27) ) (fun _ hk => hk); have hx11_0 := hcc11 0 _ rfl; (try simp only [show (k27).sz = 2 from rfl, Nat.mul_one, Nat.add_zero] at hx11_0); (try rw [show ((0 : Int)).toNat = 0 from rfl] at hx11_0); (try simp only [Nat.reduceMul, Nat.zero_mul, Nat.zero_add, Nat.reduceAdd] at hx11_0); have hf11_0 := hfr11 0; (try simp only [show (k27).sz = 2 from rfl, Nat.mul_one, Nat.add_zero] at hf11_0); (try rw [show ((0 : Int)).toNat = 0 from rfl] at hf11_0); (try simp only [Nat.reduceMul, Nat.zero_mul, Nat.zero_add, Nat.reduceAdd] at hf11_0); have hx11_1 := hcc11 1 _ rfl; (try simp only [show (k27).sz = 2 from rfl, Nat.mul_one, Nat.add_zero] at hx11_1); (try rw [show ((0 : Int)).toNat = 0 from rfl] at hx11_1); (try simp only [Nat.reduceMul, Nat.zero_mul, Nat.zero_add, Nat.reduceAdd] at hx11_1); have hf11_1 := hfr11 1; (try simp only [show (k27).sz = 2 from rfl, Nat.mul_one, Nat.add_zero] at hf11_1); (try rw [show ((0 : Int)).toNat = 0 from rfl] at hf11_1); (try simp only [Nat.reduceMul, Nat.zero_mul, Nat.zero_add, Nat.reduceAdd] at hf11_1); clear hcl11 hcc11 hfr11 hM11) | ((with_reducible refine gate_store (t := 27) (p := 13) rfl ?_); refine store_event (t := 27) (p := 13) (v := ?vo_w12) (w1 := ((w10.setCell ⟨go7, 0, none⟩ (.int .i64 t242)).setCell ⟨go7, 1, none⟩ (.int .i64 t243))) ?hg ?ho ?hn ?hr ?_; (case ho => rfl); (case hg => rfl); (case hn => rfl); (case hr => first | (go_simp; done) | (go_simp; rfl)); intro w12 hw; have hg : w10.grownBy w12 (some go7) := (by rw [hw]; exact HP11.2); have hp_ : Kd.R k27 27 w12 w.heap.size (fun _ => True) (.slice (some ⟨go7, 0, none⟩) t234.length co7) y246 := (by rw [hw, Ny246.out]; exact HP11.1); clear HP11; replace HI0 := Aside0.mk (IsS109.grown (Hd.as_ (fun W_ => IsS109 _ W_ _ _ _ _) HI0.out (by repeat (first | (with_reducible first | exact HI0.out | apply IsS109.alloc | apply IsS109.drewN | apply IsS109.drew | apply IsS109.set_1 | apply IsS109.set_2) | exact HI0.out))) hg (IsS109.own_ne HI0.out HO236.out (by decide))); replace HB := Aside0.mk ((by rw [hw]; exact below_set (below_set (HB.out) (Nat.le_trans HL.out GB7.out)) (Nat.le_trans HL.out GB7.out) : Below w0.heap.size w0 w12)); replace HK := Aside0.mk (KeepBut.trans (by repeat (first | (with_reducible first | exact HK.out | apply KeepBut.set_ | apply keep_drewN | apply keep_drew | apply keep_alloc) | exact HK.out)) (KeepBut.of_grown hg g) (Kd.R_base2 HO236.out)); replace HO236 := Aside0.mk (hp_); clear hg hw hp_))
   go_ret
   exact ⟨_, Hd.e_, by (with_reducible repeat (first | apply Kd.R_alloc | apply Kd.R_drewN | apply Kd.R_drew)); exact HO236.out, by repeat (first | (with_reducible first | exact HI0.out | apply IsS109.alloc | apply IsS109.drewN | apply IsS109.drew | apply IsS109.set_1 | apply IsS109.set_2) | exact HI0.out), by repeat (first | (with_reducible first | exact HB.out | apply below_alloc | apply pw_below_drewN | apply below_drew1 | refine below_set ?_ (IsS109.ge HI0.out)) | exact HB.out), by repeat (first | (with_reducible first | exact HK.out | apply KeepBut.set_ | apply keep_drewN | apply keep_drew | apply keep_alloc) | exact HK.out)⟩
  ·
   rw [if_neg c6] at H
   exact absurd H (by simp)
 ·
  rw [if_neg c4] at H
  have c4b0 : (t239 == 0) = false := beq_eq_false_iff_ne.mpr c4
  have c4b1 : (t239 != 0) = true := bne_iff_ne.mpr c4
  by_cases c13 : t239 = 1
  ·
   rw [if_pos c13] at H
   have c13b0 : (t239 == 1) = true := beq_iff_eq.mpr c13
   have c13b1 : (t239 != 1) = false := bne_eq_false_iff_eq.mpr c13
   clear c13
   obtain ⟨ji14, hji14⟩ : ∃ j_ : Int, (wrap64 ((t234.length : Int) - 1)) = j_ := ⟨_, rfl⟩
   replace H : (if 0 ≤ (ji14) then (if (ji14) < (t234.length : Int) then (if t234.length < 8796093022208 then (some ((t234 ++ [(⟨(rd_T27 t234 (ji14)).f0, (rd_T27 t234 (ji14)).f1⟩ : S27)]), t240, t241)) else (none)) else (none)) else (none)) = some (r1, r2, r3) := by first | (rw [hji14] at H; exact H) | (simp only [hji14] at H ⊢; exact H)
   (try rw [hji14] at A2)
   (try rw [hji14] at A3)
   have hji14w : (IntKind.i64.wrap ((t234.length : Int) - 1)) = ji14 := (i64_w _).trans hji14
   by_cases c15 : 0 ≤ (ji14)
   ·
    rw [if_pos c15] at H
    have c15b0 : decide (0 ≤ (ji14)) = true := decide_eq_true c15
    clear c15
    by_cases c16 : (ji14) < (t234.length : Int)
    ·
     rw [if_pos c16] at H
     have c16b0 : decide ((ji14) < (t234.length : Int)) = true := decide_eq_true c16
     clear c16
     by_cases c17 : t234.length < 8796093022208
     ·
      rw [if_pos c17] at H
      have LMc17 := Aside0.mk c17
      clear c17
      obtain ⟨y248, hy248⟩ : ∃ y_ : List (S27), y_ = (t234 ++ [(⟨(rd_T27 t234 (ji14)).f0, (rd_T27 t234 (ji14)).f1⟩ : S27)]) := ⟨_, rfl⟩
      replace H : (some (y248, t240, t241)) = some (r1, r2, r3) := by first | (rw [hy248]; with_reducible exact H) | (have H2_ := (Option.bind_some _ _).symm.trans H; rw [hy248]; with_reducible exact H2_) | (have H2_ := (Option.bind_some _ _).symm.trans H; with_reducible exact H2_) | with_reducible exact H | (rw [hy248]; exact H) | exact H
      have Ny248 := Aside0.mk hy248
      clear hy248
      simp only [Option.some.injEq, Prod.mk.injEq] at H
      obtain ⟨rfl, rfl, rfl⟩ := H
      go_enter Try.func78, Try.ntmps78
      go_wp2_with (first | ((with_reducible refine gate_callee (f := 104) rfl ?_); refine goesL_ (some 5) rfl rfl Try.func104 (by kernel_rfl) rfl #[.pointer (some ⟨g, 0, none⟩)] rfl Hd.m_ ?_; (with_reducible refine (spec_l6Draw.calls k g s0_0 s0_1 s0_2 t234 t237 t238 w0 _ ?side1 ?side2 A2.out).mono ?_); (case side1 => repeat (first | (with_reducible first | exact HI0.out | apply IsS109.alloc | apply IsS109.drewN | apply IsS109.drew | apply IsS109.set_1 | apply IsS109.set_2) | exact HI0.out)); (case side2 => repeat (first | (with_reducible first | exact HB.out | apply below_alloc | apply pw_below_drewN | apply below_drew1 | refine below_set ?_ (IsS109.ge HI0.out)) | exact HB.out)); rintro e w18 ⟨v235, rfl, ho0, hi, hb, hk⟩; refine ⟨_, rfl, ?_⟩; have HO236 := Aside0.mk (Kd.R_lower ho0 (keep_size (w := w) (g := g) (row := none) (by repeat (first | (with_reducible first | exact HK.out | apply KeepBut.set_ | apply keep_drewN | apply keep_drew | apply keep_alloc) | exact HK.out)))); replace HK := Aside0.mk (KeepBut.trans (by repeat (first | (with_reducible first | exact HK.out | apply KeepBut.set_ | apply keep_drewN | apply keep_drew | apply keep_alloc) | exact HK.out)) hk (.inl rfl)); replace HB := Aside0.mk (hb); replace HI0 := Aside0.mk (hi); (try clear hb); (try clear hb2); (try clear hk); (try clear hi); (try clear ho0)) | ((with_reducible refine gate_callee (f := 89) rfl ?_); refine goesL_ (some 7) rfl rfl Try.func89 (by kernel_rfl) rfl #[.pointer (some ⟨g, 0, none⟩), .int .i64 12] rfl Hd.m_ ?_; (with_reducible refine (spec_l1Below.calls g s0_0 t237 t238 12 t239 t240 t241 w0 _ ?side1 ?side2 A3.out).mono ?_); (case side1 => repeat (first | (with_reducible first | exact HI0.out | apply IsS109.alloc | apply IsS109.drewN | apply IsS109.drew | apply IsS109.set_1 | apply IsS109.set_2) | exact HI0.out)); (case side2 => repeat (first | (with_reducible first | exact HB.out | apply below_alloc | apply pw_below_drewN | apply below_drew1 | refine below_set ?_ (IsS109.ge HI0.out)) | exact HB.out)); rintro e w19 ⟨rfl, hi, hb, hk⟩; refine ⟨_, rfl, ?_⟩; replace HO236 := Aside0.mk (Kd.R_mono (Kd.R_keep (IsS109.apart (show IsS109 w0 _ g s0_0 t237 t238 from by repeat (first | (with_reducible first | exact HI0.out | apply IsS109.alloc | apply IsS109.drewN | apply IsS109.drew | apply IsS109.set_1 | apply IsS109.set_2) | exact HI0.out)) (Hd.r_ HO236) (by decide)) hk (fun _ h => h.2)) (fun _ h => h.1)); replace HK := Aside0.mk (KeepBut.trans (by repeat (first | (with_reducible first | exact HK.out | apply KeepBut.set_ | apply keep_drewN | apply keep_drew | apply keep_alloc) | exact HK.out)) hk (.inl rfl)); replace HB := Aside0.mk (hb); replace HI0 := Aside0.mk (hi); (try clear hb); (try clear hb2); (try clear hk); (try clear hi); obtain ⟨Ao20, co20, eo20⟩ := Kd.R_slice HO236.out; subst eo20; have p247 : 0 ≤ ((ji14) : Int) := of_decide_eq_true Hd.a_; have q247 : (ji14) < (t234.length : Int) := of_decide_eq_true Hd.a_; obtain ⟨ad247, e247, hx247_0, hx247_1⟩ := at_T27 (Kd.R_reads' HO236.out).2.2 (ji14) p247 q247; cases e247; replace p247 := eq_true p247; replace q247 := eq_true q247) | ((with_reducible refine gate_builtin (b := .append) (xs := #[.tmp 16, .tmp 23]) rfl ?_); at_builtin; refine Kd.R_append k27 w.heap.size rfl (.tmp 16) (.tmp 23) 24 27 (.agg #[(.int .i64 0), (.int .i64 0)]) 16 rfl Try.underlying24 info27 rfl (by decide) (by omega) (.slice (some ad247) t234.length co20) t234 (⟨(rd_T27 t234 (ji14)).f0, (rd_T27 t234 (ji14)).f1⟩ : S27) [.int .i64 ((rd_T27 t234 (ji14)).f0), .int .i64 ((rd_T27 t234 (ji14)).f1)] (fun _ => True) (fun _ => False) rfl rfl ?aP (fun _ hk => hk.elim) ?aF ?aO (Below.refl _ _) ?aS ?aL ?_; (case aP => exact k27_mkM _ _ _ (⟨(rd_T27 t234 (ji14)).f0, (rd_T27 t234 (ji14)).f1⟩ : S27)); (case aF => exact (fun _ _ => trivial)); (case aO => exact (Hd.r_ HO236)); (case aS => exact (keep_size (w := w) (g := g) (row := none) (by repeat (first | (with_reducible first | exact HK.out | apply KeepBut.set_ | apply keep_drewN | apply keep_drew | apply keep_alloc) | exact HK.out)))); (case aL => have := LMc17.out; omega); intro v249 w21 ho hb hg hat; rw [← Ny248.out] at ho; have n0_ := Aside0.mk (IsS109.grown (Hd.as_ (fun W_ => IsS109 _ W_ _ _ _ _) HI0.out (by repeat (first | (with_reducible first | exact HI0.out | apply IsS109.alloc | apply IsS109.drewN | apply IsS109.drew | apply IsS109.set_1 | apply IsS109.set_2) | exact HI0.out))) hg (IsS109.own_ne HI0.out HO236.out (by decide))); have n1_ := Aside0.mk (below_weaken (by repeat (first | (with_reducible first | exact HB.out | apply below_alloc | apply pw_below_drewN | apply below_drew1 | refine below_set ?_ (IsS109.ge HI0.out)) | exact HB.out)) HL.out hb); have n2_ := Aside0.mk (KeepBut.trans (by repeat (first | (with_reducible first | exact HK.out | apply KeepBut.set_ | apply keep_drewN | apply keep_drew | apply keep_alloc) | exact HK.out)) (KeepBut.of_grown hg g) (Kd.R_base2 HO236.out)); have n3_ := Aside0.mk (ho); clear HI0; clear HB; clear HK; clear HO236; have HI0 := n0_; have HB := n1_; have HK := n2_; have HO250 := n3_; clear n0_ n1_ n2_ n3_; clear ho hb hg hat))
      go_ret
      exact ⟨_, by first | rfl | (simp [errW_none, errW_some] <;> rfl) | (simp only [← hji14]; first | rfl | (simp [errW_none, errW_some] <;> rfl)) | (simp [*, errW_none, errW_some] <;> rfl), by (with_reducible repeat (first | apply Kd.R_alloc | apply Kd.R_drewN | apply Kd.R_drew)); exact HO250.out, by repeat (first | (with_reducible first | exact HI0.out | apply IsS109.alloc | apply IsS109.drewN | apply IsS109.drew | apply IsS109.set_1 | apply IsS109.set_2) | exact HI0.out), by repeat (first | (with_reducible first | exact HB.out | apply below_alloc | apply pw_below_drewN | apply below_drew1 | refine below_set ?_ (IsS109.ge HI0.out)) | exact HB.out), by repeat (first | (with_reducible first | exact HK.out | apply KeepBut.set_ | apply keep_drewN | apply keep_drew | apply keep_alloc) | exact HK.out)⟩
     ·
      rw [if_neg c17] at H
      exact absurd H (by simp)
    ·
     rw [if_neg c16] at H
     exact absurd H (by simp)
   ·
    rw [if_neg c15] at H
    exact absurd H (by simp)
  ·
   rw [if_neg c13] at H
   have c13b0 : (t239 == 1) = false := beq_eq_false_iff_ne.mpr c13
   have c13b1 : (t239 != 1) = true := bne_iff_ne.mpr c13
   by_cases c22 : t239 = 2
   ·
    rw [if_pos c22] at H
    have c22b0 : (t239 == 2) = true := beq_iff_eq.mpr c22
    have c22b1 : (t239 != 2) = false := bne_eq_false_iff_eq.mpr c22
    clear c22
    by_cases c23 : 1 ≤ (t234.length : Int)
    ·
     rw [if_pos c23] at H
     have c23b0 := eq_true c23
     have c23b1 : decide (1 ≤ (t234.length : Int)) = true := decide_eq_true c23
     clear c23
     obtain ⟨y251, hy251⟩ : ∃ y_ : List (S27), y_ = (t234.take (1 : Int).toNat) := ⟨_, rfl⟩
     replace H : (some (y251, t240, t241)) = some (r1, r2, r3) := by first | (rw [hy251]; with_reducible exact H) | (have H2_ := (Option.bind_some _ _).symm.trans H; rw [hy251]; with_reducible exact H2_) | (have H2_ := (Option.bind_some _ _).symm.trans H; with_reducible exact H2_) | with_reducible exact H | (rw [hy251]; exact H) | exact H
     have Ny251 := Aside0.mk hy251
     clear hy251
     simp only [Option.some.injEq, Prod.mk.injEq] at H
     obtain ⟨rfl, rfl, rfl⟩ := H
     go_enter Try.func78, Try.ntmps78
     go_wp2_with (first | ((with_reducible refine gate_callee (f := 104) rfl ?_); refine goesL_ (some 5) rfl rfl Try.func104 (by kernel_rfl) rfl #[.pointer (some ⟨g, 0, none⟩)] rfl Hd.m_ ?_; (with_reducible refine (spec_l6Draw.calls k g s0_0 s0_1 s0_2 t234 t237 t238 w0 _ ?side1 ?side2 A2.out).mono ?_); (case side1 => repeat (first | (with_reducible first | exact HI0.out | apply IsS109.alloc | apply IsS109.drewN | apply IsS109.drew | apply IsS109.set_1 | apply IsS109.set_2) | exact HI0.out)); (case side2 => repeat (first | (with_reducible first | exact HB.out | apply below_alloc | apply pw_below_drewN | apply below_drew1 | refine below_set ?_ (IsS109.ge HI0.out)) | exact HB.out)); rintro e w24 ⟨v235, rfl, ho0, hi, hb, hk⟩; refine ⟨_, rfl, ?_⟩; have HO236 := Aside0.mk (Kd.R_lower ho0 (keep_size (w := w) (g := g) (row := none) (by repeat (first | (with_reducible first | exact HK.out | apply KeepBut.set_ | apply keep_drewN | apply keep_drew | apply keep_alloc) | exact HK.out)))); replace HK := Aside0.mk (KeepBut.trans (by repeat (first | (with_reducible first | exact HK.out | apply KeepBut.set_ | apply keep_drewN | apply keep_drew | apply keep_alloc) | exact HK.out)) hk (.inl rfl)); replace HB := Aside0.mk (hb); replace HI0 := Aside0.mk (hi); (try clear hb); (try clear hb2); (try clear hk); (try clear hi); (try clear ho0)) | ((with_reducible refine gate_callee (f := 89) rfl ?_); refine goesL_ (some 7) rfl rfl Try.func89 (by kernel_rfl) rfl #[.pointer (some ⟨g, 0, none⟩), .int .i64 12] rfl Hd.m_ ?_; (with_reducible refine (spec_l1Below.calls g s0_0 t237 t238 12 t239 t240 t241 w0 _ ?side1 ?side2 A3.out).mono ?_); (case side1 => repeat (first | (with_reducible first | exact HI0.out | apply IsS109.alloc | apply IsS109.drewN | apply IsS109.drew | apply IsS109.set_1 | apply IsS109.set_2) | exact HI0.out)); (case side2 => repeat (first | (with_reducible first | exact HB.out | apply below_alloc | apply pw_below_drewN | apply below_drew1 | refine below_set ?_ (IsS109.ge HI0.out)) | exact HB.out)); rintro e w25 ⟨rfl, hi, hb, hk⟩; refine ⟨_, rfl, ?_⟩; replace HO236 := Aside0.mk (Kd.R_mono (Kd.R_keep (IsS109.apart (show IsS109 w0 _ g s0_0 t237 t238 from by repeat (first | (with_reducible first | exact HI0.out | apply IsS109.alloc | apply IsS109.drewN | apply IsS109.drew | apply IsS109.set_1 | apply IsS109.set_2) | exact HI0.out)) (Hd.r_ HO236) (by decide)) hk (fun _ h => h.2)) (fun _ h => h.1)); replace HK := Aside0.mk (KeepBut.trans (by repeat (first | (with_reducible first | exact HK.out | apply KeepBut.set_ | apply keep_drewN | apply keep_drew | apply keep_alloc) | exact HK.out)) hk (.inl rfl)); replace HB := Aside0.mk (hb); replace HI0 := Aside0.mk (hi); (try clear hb); (try clear hb2); (try clear hk); (try clear hi); obtain ⟨Ao26, co26, eo26⟩ := Kd.R_slice HO236.out; subst eo26; have q27 : (1 : Int) ≤ ((t234.length : Int) : Int) := of_decide_eq_true Hd.a_; obtain ⟨i027, hi027, _, hsz27, _⟩ := info_parts info27; have hcut27 := cut_to (P := Try.prog) 24 27 .i64 Try.underlying24 hi027 Ao26 t234.length co26 1 (by omega) q27 (Kd.R_reads' HO236.out).2.1; have hr27 := Kd.R_take (m := (1 : Int).toNat) HO236.out (by omega); have hy27 : y251.length = (1 : Int).toNat := (by rw [Ny251.out, List.length_take]; omega); rw [← Ny251.out] at hr27; rw [← hy27] at hr27 hcut27; clear hy27 hi027 hsz27 HO236; have HO253 := Aside0.mk hr27; clear hr27; replace q27 := eq_true q27))
     go_ret
     exact ⟨_, Hd.e_, by (with_reducible repeat (first | apply Kd.R_alloc | apply Kd.R_drewN | apply Kd.R_drew)); exact HO253.out, by repeat (first | (with_reducible first | exact HI0.out | apply IsS109.alloc | apply IsS109.drewN | apply IsS109.drew | apply IsS109.set_1 | apply IsS109.set_2) | exact HI0.out), by repeat (first | (with_reducible first | exact HB.out | apply below_alloc | apply pw_below_drewN | apply below_drew1 | refine below_set ?_ (IsS109.ge HI0.out)) | exact HB.out), by repeat (first | (with_reducible first | exact HK.out | apply KeepBut.set_ | apply keep_drewN | apply keep_drew | apply keep_alloc) | exact HK.out)⟩
    ·
     rw [if_neg c23] at H
     exact absurd H (by simp)
   ·
    rw [if_neg c22] at H
    have c22b0 : (t239 == 2) = false := beq_eq_false_iff_ne.mpr c22
    have c22b1 : (t239 != 2) = true := bne_iff_ne.mpr c22
    by_cases c28 : t239 = 3
    ·
     rw [if_pos c28] at H
     have c28b0 : (t239 == 3) = true := beq_iff_eq.mpr c28
     have c28b1 : (t239 != 3) = false := bne_eq_false_iff_eq.mpr c28
     clear c28
     have H' := Aside0.mk H
     clear H
     go_enter Try.func78, Try.ntmps78
     go_wp2_with (first | ((with_reducible refine gate_callee (f := 104) rfl ?_); refine goesL_ (some 5) rfl rfl Try.func104 (by kernel_rfl) rfl #[.pointer (some ⟨g, 0, none⟩)] rfl Hd.m_ ?_; (with_reducible refine (spec_l6Draw.calls k g s0_0 s0_1 s0_2 t234 t237 t238 w0 _ ?side1 ?side2 A2.out).mono ?_); (case side1 => repeat (first | (with_reducible first | exact HI0.out | apply IsS109.alloc | apply IsS109.drewN | apply IsS109.drew | apply IsS109.set_1 | apply IsS109.set_2) | exact HI0.out)); (case side2 => repeat (first | (with_reducible first | exact HB.out | apply below_alloc | apply pw_below_drewN | apply below_drew1 | refine below_set ?_ (IsS109.ge HI0.out)) | exact HB.out)); rintro e w29 ⟨v235, rfl, ho0, hi, hb, hk⟩; refine ⟨_, rfl, ?_⟩; have HO236 := Aside0.mk (Kd.R_lower ho0 (keep_size (w := w) (g := g) (row := none) (by repeat (first | (with_reducible first | exact HK.out | apply KeepBut.set_ | apply keep_drewN | apply keep_drew | apply keep_alloc) | exact HK.out)))); replace HK := Aside0.mk (KeepBut.trans (by repeat (first | (with_reducible first | exact HK.out | apply KeepBut.set_ | apply keep_drewN | apply keep_drew | apply keep_alloc) | exact HK.out)) hk (.inl rfl)); replace HB := Aside0.mk (hb); replace HI0 := Aside0.mk (hi); (try clear hb); (try clear hb2); (try clear hk); (try clear hi); (try clear ho0)) | ((with_reducible refine gate_callee (f := 89) rfl ?_); refine goesL_ (some 7) rfl rfl Try.func89 (by kernel_rfl) rfl #[.pointer (some ⟨g, 0, none⟩), .int .i64 12] rfl Hd.m_ ?_; (with_reducible refine (spec_l1Below.calls g s0_0 t237 t238 12 t239 t240 t241 w0 _ ?side1 ?side2 A3.out).mono ?_); (case side1 => repeat (first | (with_reducible first | exact HI0.out | apply IsS109.alloc | apply IsS109.drewN | apply IsS109.drew | apply IsS109.set_1 | apply IsS109.set_2) | exact HI0.out)); (case side2 => repeat (first | (with_reducible first | exact HB.out | apply below_alloc | apply pw_below_drewN | apply below_drew1 | refine below_set ?_ (IsS109.ge HI0.out)) | exact HB.out)); rintro e w30 ⟨rfl, hi, hb, hk⟩; refine ⟨_, rfl, ?_⟩; replace HO236 := Aside0.mk (Kd.R_mono (Kd.R_keep (IsS109.apart (show IsS109 w0 _ g s0_0 t237 t238 from by repeat (first | (with_reducible first | exact HI0.out | apply IsS109.alloc | apply IsS109.drewN | apply IsS109.drew | apply IsS109.set_1 | apply IsS109.set_2) | exact HI0.out)) (Hd.r_ HO236) (by decide)) hk (fun _ h => h.2)) (fun _ h => h.1)); replace HK := Aside0.mk (KeepBut.trans (by repeat (first | (with_reducible first | exact HK.out | apply KeepBut.set_ | apply keep_drewN | apply keep_drew | apply keep_alloc) | exact HK.out)) hk (.inl rfl)); replace HB := Aside0.mk (hb); replace HI0 := Aside0.mk (hi); (try clear hb); (try clear hb2); (try clear hk); (try clear hi)))
     go_loopg [3] k (fun kq v3 w' => ∃ (x3_1 : List (S27)), Aside0 (spec_l6Any.l0 kq x3_1 s0_0 t240 t241 = some (r1, r2, r3)) ∧ Aside0 (kq ≤ k) ∧ Aside0 (Kd.R k27 27 w' w.heap.size (fun _ => True) v3 x3_1) ∧ Aside0 (IsS109 w0 w' g s0_0 t240 t241) ∧ Aside0 (KeepBut w w' g none) ∧ Aside0 (Below w0.heap.size w0 w'))
     case atStart => exact ⟨(t234), H', ⟨Nat.le_refl _⟩, ⟨by (with_reducible repeat (first | apply Kd.R_alloc | apply Kd.R_drewN | apply Kd.R_drew)); exact HO236.out⟩, ⟨by repeat (first | (with_reducible first | exact HI0.out | apply IsS109.alloc | apply IsS109.drewN | apply IsS109.drew | apply IsS109.set_1 | apply IsS109.set_2) | exact HI0.out)⟩, ⟨by repeat (first | (with_reducible first | exact HK.out | apply KeepBut.set_ | apply keep_drewN | apply keep_drew | apply keep_alloc) | exact HK.out)⟩, ⟨by repeat (first | (with_reducible first | exact HB.out | apply below_alloc | apply pw_below_drewN | apply below_drew1 | refine below_set ?_ (IsS109.ge HI0.out)) | exact HB.out)⟩⟩
     case round =>
      clear H'
      try clear c1
      try clear hx1
      try clear hf1
      try clear c2
      try clear p2
      try clear q2
      try clear hx2
      try clear c4
      try clear c4b0
      try clear c4b1
      try clear c6
      try clear c6b0
      try clear c6b1
      try clear p6
      try clear c7
      try clear p7
      try clear q7
      try clear hx7
      try clear qi7
      try clear hf7
      try clear c8
      try clear c10
      try clear c11
      try clear hx11
      try clear hf11
      try clear c13
      try clear c13b0
      try clear c13b1
      try clear c15
      try clear c15b0
      try clear c16
      try clear c16b0
      try clear c17
      try clear c22
      try clear c22b0
      try clear c22b1
      try clear c23
      try clear c23b0
      try clear c23b1
      try clear p24
      try clear q24
      try clear hx24
      try clear q27
      try clear c28
      try clear c28b0
      try clear c28b1
      try clear hx11_0
      try clear hx11_1
      try clear hx247_0
      try clear hx247_1
      try clear hx7_0
      try clear hx7_1
      try clear p247
      try clear p7
      try clear q247
      try clear q27
      try clear q7
      obtain ⟨x3_1, HA, HK1, HO_3, HI0, HK, HB⟩ := hrel
      cases gk with
      | zero => exact absurd HA.out (by simp [spec_l6Any.l0])
      | succ k1 =>
       have H := HA.out
       clear HA
       simp only [spec_l6Any.l0] at H
       by_cases c31 : (x3_1.length : Int) < 11
       ·
        rw [if_pos c31] at H
        have c31b0 : decide ((x3_1.length : Int) < 11) = true := decide_eq_true c31
        have c31b1 : decide (x3_1.length < 11) = true := decide_eq_true (by omega)
        clear c31
        by_cases c32 : x3_1.length < 8796093022208
        ·
         rw [if_pos c32] at H
         have LMc32 := Aside0.mk c32
         clear c32
         obtain ⟨y254, hy254⟩ : ∃ y_ : List (S27), y_ = (x3_1 ++ [(⟨(x3_1.length : Int), wrap64 (50 + (x3_1.length : Int))⟩ : S27)]) := ⟨_, rfl⟩
         replace H : (spec_l6Any.l0 k1 y254 s0_0 t240 t241) = some (r1, r2, r3) := by first | (rw [hy254]; with_reducible exact H) | (have H2_ := (Option.bind_some _ _).symm.trans H; rw [hy254]; with_reducible exact H2_) | (have H2_ := (Option.bind_some _ _).symm.trans H; with_reducible exact H2_) | with_reducible exact H | (rw [hy254]; exact H) | exact H
         have Ny254 := Aside0.mk hy254
         clear hy254
         have H' := Aside0.mk H
         clear H
         obtain ⟨Ao33, co33, eo33⟩ := Kd.R_slice HO_3.out
         subst eo33
         go_wp2_with (first | ((with_reducible refine gate_builtin (b := .append) (xs := #[.tmp 34, .tmp 41]) rfl ?_); at_builtin; refine Kd.R_append k27 w.heap.size rfl (.tmp 34) (.tmp 41) 24 27 (.agg #[(.int .i64 0), (.int .i64 0)]) 16 rfl Try.underlying24 info27 rfl (by decide) (by omega) (.slice Ao33 x3_1.length co33) x3_1 (⟨(x3_1.length : Int), wrap64 (50 + (x3_1.length : Int))⟩ : S27) [.int .i64 (x3_1.length : Int), .int .i64 (wrap64 (50 + (x3_1.length : Int)))] (fun _ => True) (fun _ => False) rfl rfl ?aP (fun _ hk => hk.elim) ?aF ?aO (Below.refl _ _) ?aS ?aL ?_; (case aP => exact k27_mkM _ _ _ (⟨(x3_1.length : Int), wrap64 (50 + (x3_1.length : Int))⟩ : S27)); (case aF => exact (fun _ _ => trivial)); (case aO => exact (Hd.r_ HO_3)); (case aS => exact (keep_size (w := w) (g := g) (row := none) (by repeat (first | (with_reducible first | exact HK.out | apply KeepBut.set_ | apply keep_drewN | apply keep_drew | apply keep_alloc) | exact HK.out)))); (case aL => have := LMc32.out; omega); intro v255 w34 ho hb hg hat; rw [← Ny254.out] at ho; have n0_ := Aside0.mk (IsS109.grown (Hd.as_ (fun W_ => IsS109 _ W_ _ _ _ _) HI0.out (by repeat (first | (with_reducible first | exact HI0.out | apply IsS109.alloc | apply IsS109.drewN | apply IsS109.drew | apply IsS109.set_1 | apply IsS109.set_2) | exact HI0.out))) hg (IsS109.own_ne HI0.out HO_3.out (by decide))); have n1_ := Aside0.mk (below_weaken (by repeat (first | (with_reducible first | exact HB.out | apply below_alloc | apply pw_below_drewN | apply below_drew1 | refine below_set ?_ (IsS109.ge HI0.out)) | exact HB.out)) HL.out hb); have n2_ := Aside0.mk (KeepBut.trans (by repeat (first | (with_reducible first | exact HK.out | apply KeepBut.set_ | apply keep_drewN | apply keep_drew | apply keep_alloc) | exact HK.out)) (KeepBut.of_grown hg g) (Kd.R_base2 HO_3.out)); have n3_ := Aside0.mk (ho); clear HI0; clear HB; clear HK; clear HO_3; have HI0 := n0_; have HB := n1_; have HK := n2_; have HO256 := n3_; clear n0_ n1_ n2_ n3_; clear ho hb hg hat))
         go_roundg k1
         case measure => have := HK1.out; omega
         case rel => exact ⟨(y254), H', ⟨by have := HK1.out; omega⟩, ⟨by (with_reducible repeat (first | apply Kd.R_alloc | apply Kd.R_drewN | apply Kd.R_drew)); exact HO256.out⟩, ⟨by repeat (first | (with_reducible first | exact HI0.out | apply IsS109.alloc | apply IsS109.drewN | apply IsS109.drew | apply IsS109.set_1 | apply IsS109.set_2) | exact HI0.out)⟩, ⟨by repeat (first | (with_reducible first | exact HK.out | apply KeepBut.set_ | apply keep_drewN | apply keep_drew | apply keep_alloc) | exact HK.out)⟩, ⟨by repeat (first | (with_reducible first | exact HB.out | apply below_alloc | apply pw_below_drewN | apply below_drew1 | refine below_set ?_ (IsS109.ge HI0.out)) | exact HB.out)⟩⟩
        ·
         rw [if_neg c32] at H
         exact absurd H (by simp)
       ·
        rw [if_neg c31] at H
        have c31b0 : decide ((x3_1.length : Int) < 11) = false := decide_eq_false c31
        have c31b1 : decide (x3_1.length < 11) = false := decide_eq_false (by omega)
        clear c31
        simp only [Option.some.injEq, Prod.mk.injEq] at H
        obtain ⟨rfl, rfl, rfl⟩ := H
        obtain ⟨Ao35, co35, eo35⟩ := Kd.R_slice HO_3.out
        subst eo35
        go_wp2
        go_ret
        exact ⟨_, Hd.e_, by (with_reducible repeat (first | apply Kd.R_alloc | apply Kd.R_drewN | apply Kd.R_drew)); exact HO_3.out, by repeat (first | (with_reducible first | exact HI0.out | apply IsS109.alloc | apply IsS109.drewN | apply IsS109.drew | apply IsS109.set_1 | apply IsS109.set_2) | exact HI0.out), by repeat (first | (with_reducible first | exact HB.out | apply below_alloc | apply pw_below_drewN | apply below_drew1 | refine below_set ?_ (IsS109.ge HI0.out)) | exact HB.out), by repeat (first | (with_reducible first | exact HK.out | apply KeepBut.set_ | apply keep_drewN | apply keep_drew | apply keep_alloc) | exact HK.out)⟩
    ·
     rw [if_neg c28] at H
     have c28b0 : (t239 == 3) = false := beq_eq_false_iff_ne.mpr c28
     have c28b1 : (t239 != 3) = true := bne_iff_ne.mpr c28
     simp only [Option.some.injEq, Prod.mk.injEq] at H
     obtain ⟨rfl, rfl, rfl⟩ := H
     go_enter Try.func78, Try.ntmps78
     go_wp2_with (first | ((with_reducible refine gate_callee (f := 104) rfl ?_); refine goesL_ (some 5) rfl rfl Try.func104 (by kernel_rfl) rfl #[.pointer (some ⟨g, 0, none⟩)] rfl Hd.m_ ?_; (with_reducible refine (spec_l6Draw.calls k g s0_0 s0_1 s0_2 t234 t237 t238 w0 _ ?side1 ?side2 A2.out).mono ?_); (case side1 => repeat (first | (with_reducible first | exact HI0.out | apply IsS109.alloc | apply IsS109.drewN | apply IsS109.drew | apply IsS109.set_1 | apply IsS109.set_2) | exact HI0.out)); (case side2 => repeat (first | (with_reducible first | exact HB.out | apply below_alloc | apply pw_below_drewN | apply below_drew1 | refine below_set ?_ (IsS109.ge HI0.out)) | exact HB.out)); rintro e w36 ⟨v235, rfl, ho0, hi, hb, hk⟩; refine ⟨_, rfl, ?_⟩; have HO236 := Aside0.mk (Kd.R_lower ho0 (keep_size (w := w) (g := g) (row := none) (by repeat (first | (with_reducible first | exact HK.out | apply KeepBut.set_ | apply keep_drewN | apply keep_drew | apply keep_alloc) | exact HK.out)))); replace HK := Aside0.mk (KeepBut.trans (by repeat (first | (with_reducible first | exact HK.out | apply KeepBut.set_ | apply keep_drewN | apply keep_drew | apply keep_alloc) | exact HK.out)) hk (.inl rfl)); replace HB := Aside0.mk (hb); replace HI0 := Aside0.mk (hi); (try clear hb); (try clear hb2); (try clear hk); (try clear hi); (try clear ho0)) | ((with_reducible refine gate_callee (f := 89) rfl ?_); refine goesL_ (some 7) rfl rfl Try.func89 (by kernel_rfl) rfl #[.pointer (some ⟨g, 0, none⟩), .int .i64 12] rfl Hd.m_ ?_; (with_reducible refine (spec_l1Below.calls g s0_0 t237 t238 12 t239 t240 t241 w0 _ ?side1 ?side2 A3.out).mono ?_); (case side1 => repeat (first | (with_reducible first | exact HI0.out | apply IsS109.alloc | apply IsS109.drewN | apply IsS109.drew | apply IsS109.set_1 | apply IsS109.set_2) | exact HI0.out)); (case side2 => repeat (first | (with_reducible first | exact HB.out | apply below_alloc | apply pw_below_drewN | apply below_drew1 | refine below_set ?_ (IsS109.ge HI0.out)) | exact HB.out)); rintro e w37 ⟨rfl, hi, hb, hk⟩; refine ⟨_, rfl, ?_⟩; replace HO236 := Aside0.mk (Kd.R_mono (Kd.R_keep (IsS109.apart (show IsS109 w0 _ g s0_0 t237 t238 from by repeat (first | (with_reducible first | exact HI0.out | apply IsS109.alloc | apply IsS109.drewN | apply IsS109.drew | apply IsS109.set_1 | apply IsS109.set_2) | exact HI0.out)) (Hd.r_ HO236) (by decide)) hk (fun _ h => h.2)) (fun _ h => h.1)); replace HK := Aside0.mk (KeepBut.trans (by repeat (first | (with_reducible first | exact HK.out | apply KeepBut.set_ | apply keep_drewN | apply keep_drew | apply keep_alloc) | exact HK.out)) hk (.inl rfl)); replace HB := Aside0.mk (hb); replace HI0 := Aside0.mk (hi); (try clear hb); (try clear hb2); (try clear hk); (try clear hi)))
     go_ret
     exact ⟨_, Hd.e_, by (with_reducible repeat (first | apply Kd.R_alloc | apply Kd.R_drewN | apply Kd.R_drew)); exact HO236.out, by repeat (first | (with_reducible first | exact HI0.out | apply IsS109.alloc | apply IsS109.drewN | apply IsS109.drew | apply IsS109.set_1 | apply IsS109.set_2) | exact HI0.out), by repeat (first | (with_reducible first | exact HB.out | apply below_alloc | apply pw_below_drewN | apply below_drew1 | refine below_set ?_ (IsS109.ge HI0.out)) | exact HB.out), by repeat (first | (with_reducible first | exact HK.out | apply KeepBut.set_ | apply keep_drewN | apply keep_drew | apply keep_alloc) | exact HK.out)⟩
def spec_l11Near.f (s0_0 : List Int) (s0_1 : Int) (s0_2 : Int) : Option (Int × Int × Int) := (spec_l1Int.f s0_0 s0_1 s0_2 (([0, 1, 2, 3, 5, 200, 201, (-1)] : List Int))).bind fun bt260 => (some (bt260.1, bt260.2.1, bt260.2.2))
set_option maxHeartbeats 8000000 in
set_option maxRecDepth 100000 in
theorem spec_l11Near.calls (g : Nat) (s0_0 : List Int) (s0_1 : Int) (s0_2 : Int) (r1 : Int) (r2 : Int) (r3 : Int) (w0 w : World) (hI : IsS109 w0 w g s0_0 s0_1 s0_2) (hB : Below w0.heap.size w0 w) (h : spec_l11Near.f s0_0 s0_1 s0_2 = some (r1, r2, r3)) :
  Calls Try.prog 79 #[.pointer (some ⟨g, 0, none⟩)] w fun e w' => e = .returned (.int .i64 r1) ∧ IsS109 w0 w' g s0_0 r2 r3 ∧ Below w0.heap.size w0 w' ∧ KeepBut w w' g none := by
 have HI0 := Aside0.mk hI
 have HK := Aside0.mk (KeepBut.refl w g none)
 have HL := Aside0.mk hB.size
 clear hI
 have HW0 := Aside0.mk hB.size
 have HB := Aside0.mk hB
 clear hB
 have H : ((spec_l1Int.f s0_0 s0_1 s0_2 (([0, 1, 2, 3, 5, 200, 201, (-1)] : List Int))).bind fun bt260 => (some (bt260.1, bt260.2.1, bt260.2.2))) = some (r1, r2, r3) := h
 clear h
 obtain ⟨y257, hy257⟩ : ∃ y_ : List Int, y_ = (([0, 1, 2, 3, 5, 200, 201, (-1)] : List Int)) := ⟨_, rfl⟩
 replace H : ((spec_l1Int.f s0_0 s0_1 s0_2 y257).bind fun bt260 => (some (bt260.1, bt260.2.1, bt260.2.2))) = some (r1, r2, r3) := by first | (rw [hy257]; with_reducible exact H) | (have H2_ := (Option.bind_some _ _).symm.trans H; rw [hy257]; with_reducible exact H2_) | (have H2_ := (Option.bind_some _ _).symm.trans H; with_reducible exact H2_) | with_reducible exact H | (rw [hy257]; exact H) | exact H
 have Ny257 := Aside0.mk hy257
 clear hy257
 replace H := Option.bind_eq_some_iff.mp H
 obtain ⟨⟨t260, t261, t262⟩, A20, H⟩ := H
 replace H : (some (t260, t261, t262)) = some (r1, r2, r3) := H
 have A2 := Aside0.mk A20
 clear A20
 simp only [Option.some.injEq, Prod.mk.injEq] at H
 obtain ⟨rfl, rfl, rfl⟩ := H
 go_enter Try.func79, Try.ntmps79
 go_wp2_with (first | ((with_reducible refine gate_dst (N := 4) rfl ?_); refine Kd.R_lit (Kd.int .i64) _ 3 ?hg (N := 4) ?hd (xs := ([0, 1, 2, 3, 5, 200, 201, (-1)] : List Int)) (inner := [.int .i64 0, .int .i64 1, .int .i64 2, .int .i64 3, .int .i64 5, .int .i64 200, .int .i64 201, .int .i64 (-1)]) (ok := fun _ => True) (okp := fun _ => True) ?hr ?hp (fun _ hk => hk) trivial (Below.refl _ _) (Nat.le_refl _) (by simp) ?_; (case hd => rfl); (case hg => rfl); (case hr => first | (go_simp; done) | (go_simp; rfl)); (case hp => exact (Reps.one (show Kd.M (Kd.int .i64) _ _ _ 0 [.int .i64 0] from rfl) (Reps.one (show Kd.M (Kd.int .i64) _ _ _ 1 [.int .i64 1] from rfl) (Reps.one (show Kd.M (Kd.int .i64) _ _ _ 2 [.int .i64 2] from rfl) (Reps.one (show Kd.M (Kd.int .i64) _ _ _ 3 [.int .i64 3] from rfl) (Reps.one (show Kd.M (Kd.int .i64) _ _ _ 5 [.int .i64 5] from rfl) (Reps.one (show Kd.M (Kd.int .i64) _ _ _ 200 [.int .i64 200] from rfl) (Reps.one (show Kd.M (Kd.int .i64) _ _ _ 201 [.int .i64 201] from rfl) (Reps.one (show Kd.M (Kd.int .i64) _ _ _ (-1) [.int .i64 (-1)] from rfl) (Reps.none _ _)))))))))); intro v258 w3 ho4 hb hg_ hnew_; clear hg_ hnew_; (first | rw [← Ny257.out] at ho4 | (simp only [Int.reduceToNat] at ho4; rw [← Ny257.out] at ho4)); have HO259 := Aside0.mk (Kd.R_lower ho4 (keep_size (w := w) (g := g) (row := none) (by repeat (first | (with_reducible first | exact HK.out | apply KeepBut.set_ | apply keep_drewN | apply keep_drew | apply keep_alloc) | exact HK.out)))); replace HK := Aside0.mk (KeepBut.trans (by repeat (first | (with_reducible first | exact HK.out | apply KeepBut.set_ | apply keep_drewN | apply keep_drew | apply keep_alloc) | exact HK.out)) (KeepBut.of_below hb g none) (.inl rfl)); replace HB := Aside0.mk (below_step (by repeat (first | (with_reducible first | exact HB.out | apply below_alloc | apply pw_below_drewN | apply below_drew1 | refine below_set ?_ (IsS109.ge HI0.out)) | exact HB.out)) hb); replace HI0 := Aside0.mk (IsS109.below (by repeat (first | (with_reducible first | exact HI0.out | apply IsS109.alloc | apply IsS109.drewN | apply IsS109.drew | apply IsS109.set_1 | apply IsS109.set_2) | exact HI0.out)) hb); clear hb ho4; obtain ⟨Ao5, co5, eo5⟩ := Kd.R_slice HO259.out; subst eo5) | ((with_reducible refine gate_callee (f := 70) rfl ?_); refine goesL_ (some 5) rfl rfl Try.func70 (by kernel_rfl) rfl #[.pointer (some ⟨g, 0, none⟩), .slice Ao5 y257.length co5] rfl Hd.m_ ?_; (with_reducible refine (spec_l1Int.calls g s0_0 s0_1 s0_2 _ _ y257 t260 t261 t262 w0 _ ?side1 ?side2 ?side3 ?side4 ?side5 A2.out).mono ?_); (case side1 => repeat (first | (with_reducible first | exact HI0.out | apply IsS109.alloc | apply IsS109.drewN | apply IsS109.drew | apply IsS109.set_1 | apply IsS109.set_2) | exact HI0.out)); (case side2 => repeat (first | (with_reducible first | exact HB.out | apply below_alloc | apply pw_below_drewN | apply below_drew1 | refine below_set ?_ (IsS109.ge HI0.out)) | exact HB.out)); (case side3 => repeat (first | exact (Kd.R_reads' HO259.out).2.2 | (with_reducible refine Kd.C_alloc ?_ _) | (with_reducible refine Kd.C_drewN ?_ _) | (with_reducible refine Kd.C_drew ?_))); (case side4 => exact (Kd.R_reads' HO259.out).2.1); (case side5 => exact far_slice (IsS109.own_ne HI0.out HO259.out (by decide))); rintro e w6 ⟨rfl, hi, hb, hk⟩; refine ⟨_, rfl, ?_⟩; replace HO259 := Aside0.mk (Kd.R_mono (Kd.R_keep (IsS109.apart (show IsS109 w0 _ g s0_0 s0_1 s0_2 from by repeat (first | (with_reducible first | exact HI0.out | apply IsS109.alloc | apply IsS109.drewN | apply IsS109.drew | apply IsS109.set_1 | apply IsS109.set_2) | exact HI0.out)) (Hd.r_ HO259) (by decide)) hk (fun _ h => h.2)) (fun _ h => h.1)); replace HK := Aside0.mk (KeepBut.trans (by repeat (first | (with_reducible first | exact HK.out | apply KeepBut.set_ | apply keep_drewN | apply keep_drew | apply keep_alloc) | exact HK.out)) hk (.inl rfl)); replace HB := Aside0.mk (hb); replace HI0 := Aside0.mk (hi); (try clear hb); (try clear hb2); (try clear hk); (try clear hi)))
 go_ret
 exact ⟨Hd.e_, by repeat (first | (with_reducible first | exact HI0.out | apply IsS109.alloc | apply IsS109.drewN | apply IsS109.drew | apply IsS109.set_1 | apply IsS109.set_2) | exact HI0.out), by repeat (first | (with_reducible first | exact HB.out | apply below_alloc | apply pw_below_drewN | apply below_drew1 | refine below_set ?_ (IsS109.ge HI0.out)) | exact HB.out), by repeat (first | (with_reducible first | exact HK.out | apply KeepBut.set_ | apply keep_drewN | apply keep_drew | apply keep_alloc) | exact HK.out)⟩
def spec_DrawSimplifyLine.f (k : Nat) (l0 : List Int) : Option ((List (S27)) × Int) := (spec_l1New.f k l0).bind fun bt263 => ((spec_l6Any.f k bt263.1 bt263.2.1 bt263.2.2).bind fun bt267 => ((spec_l11Near.f bt263.1 bt267.2.1 bt267.2.2).bind fun bt272 => (some (bt267.1, bt272.1))))
set_option maxHeartbeats 8000000 in
set_option maxRecDepth 100000 in
theorem spec_DrawSimplifyLine.calls (k : Nat) (A0 : Option Addr) (c0 : Nat) (l0 : List Int) (r1 : List (S27)) (r2 : Int) (w : World) (hr0 : Kd.C (Kd.int .u8) w A0 l0.length l0) (hc0 : l0.length ≤ c0) (h : spec_DrawSimplifyLine.f k l0 = some (r1, r2)) :
  Calls Try.prog 31 #[.slice A0 l0.length c0] w fun e w' => ∃ v0_ : Value, e = .returned (.tuple #[v0_, .int .i64 r2]) ∧ Kd.R k27 27 w' w.heap.size (fun _ => True) v0_ r1 ∧ Below w.heap.size w w' := by
 have HR0 := Aside0.mk hr0
 have HC0 := Aside0.mk hc0
 clear hr0 hc0
 have HB := Aside0.mk (Below.refl w.heap.size w)
 have H : ((spec_l1New.f k l0).bind fun bt263 => ((spec_l6Any.f k bt263.1 bt263.2.1 bt263.2.2).bind fun bt267 => ((spec_l11Near.f bt263.1 bt267.2.1 bt267.2.2).bind fun bt272 => (some (bt267.1, bt272.1))))) = some (r1, r2) := h
 clear h
 replace H := Option.bind_eq_some_iff.mp H
 obtain ⟨⟨t263, t264, t265⟩, A20, H⟩ := H
 replace H : ((spec_l6Any.f k t263 t264 t265).bind fun bt267 => ((spec_l11Near.f t263 bt267.2.1 bt267.2.2).bind fun bt272 => (some (bt267.1, bt272.1)))) = some (r1, r2) := H
 have A2 := Aside0.mk A20
 clear A20
 replace H := Option.bind_eq_some_iff.mp H
 obtain ⟨⟨t267, t270, t271⟩, A30, H⟩ := H
 replace H : ((spec_l11Near.f t263 t270 t271).bind fun bt272 => (some (t267, bt272.1))) = some (r1, r2) := H
 have A3 := Aside0.mk A30
 clear A30
 replace H := Option.bind_eq_some_iff.mp H
 obtain ⟨⟨t272, t273, t274⟩, A40, H⟩ := H
 replace H : (some (t267, t272)) = some (r1, r2) := H
 have A4 := Aside0.mk A40
 clear A40
 simp only [Option.some.injEq, Prod.mk.injEq] at H
 obtain ⟨rfl, rfl⟩ := H
 go_enter Try.func31, Try.ntmps31
 go_wp2_with (first | ((with_reducible refine gate_callee (f := 66) rfl ?_); refine goesL_ (some 7) rfl rfl Try.func66 (by kernel_rfl) rfl #[.slice A0 l0.length c0] rfl Hd.m_ ?_; (with_reducible refine (spec_l1New.calls k _ _ l0 t263 t264 t265 w _ ?side1 ?side2 ?side3 A2.out).mono ?_); (case side1 => repeat (first | (with_reducible first | exact HB.out | apply below_alloc | apply pw_below_drewN | apply below_drew1) | exact HB.out)); (case side2 => exact HR0.out); (case side3 => exact HC0.out); rintro e w5 ⟨g266, rfl, hi, hb, hb2⟩; refine ⟨_, rfl, ?_⟩; replace HB := Aside0.mk (hb); have HI266 := Aside0.mk (hi); (try clear hb); (try clear hb2); (try clear hk); (try clear hi)) | ((with_reducible refine gate_callee (f := 78) rfl ?_); refine goesL_ (some 9) rfl rfl Try.func78 (by kernel_rfl) rfl #[.pointer (some ⟨g266, 0, none⟩)] rfl Hd.m_ ?_; (with_reducible refine (spec_l6Any.calls k g266 t263 t264 t265 t267 t270 t271 w _ ?side1 ?side2 A3.out).mono ?_); (case side1 => repeat (first | (with_reducible first | exact HI266.out | apply IsS109.alloc | apply IsS109.drewN | apply IsS109.drew | apply IsS109.set_1 | apply IsS109.set_2) | exact HI266.out)); (case side2 => repeat (first | (with_reducible first | exact HB.out | apply below_alloc | apply pw_below_drewN | apply below_drew1 | refine below_set ?_ (IsS109.ge HI266.out)) | exact HB.out)); rintro e w6 ⟨v268, rfl, ho0, hi, hb, hk⟩; refine ⟨_, rfl, ?_⟩; have HO269 := Aside0.mk (Kd.R_lower ho0 (below_size (by repeat (first | (with_reducible first | exact HB.out | apply below_alloc | apply pw_below_drewN | apply below_drew1 | refine below_set ?_ (IsS109.ge HI266.out)) | exact HB.out)))); replace HB := Aside0.mk (hb); replace HI266 := Aside0.mk (hi); (try clear hb); (try clear hb2); (try clear hk); (try clear hi); (try clear ho0)) | ((with_reducible refine gate_callee (f := 79) rfl ?_); refine goesL_ (some 12) rfl rfl Try.func79 (by kernel_rfl) rfl #[.pointer (some ⟨g266, 0, none⟩)] rfl Hd.m_ ?_; (with_reducible refine (spec_l11Near.calls g266 t263 t270 t271 t272 t273 t274 w _ ?side1 ?side2 A4.out).mono ?_); (case side1 => repeat (first | (with_reducible first | exact HI266.out | apply IsS109.alloc | apply IsS109.drewN | apply IsS109.drew | apply IsS109.set_1 | apply IsS109.set_2) | exact HI266.out)); (case side2 => repeat (first | (with_reducible first | exact HB.out | apply below_alloc | apply pw_below_drewN | apply below_drew1 | refine below_set ?_ (IsS109.ge HI266.out)) | exact HB.out)); rintro e w7 ⟨rfl, hi, hb, hk⟩; refine ⟨_, rfl, ?_⟩; replace HO269 := Aside0.mk (Kd.R_mono (Kd.R_keep (IsS109.apart (show IsS109 w _ g266 t263 t270 t271 from by repeat (first | (with_reducible first | exact HI266.out | apply IsS109.alloc | apply IsS109.drewN | apply IsS109.drew | apply IsS109.set_1 | apply IsS109.set_2) | exact HI266.out)) (Hd.r_ HO269) (by decide)) hk (fun _ h => h.2)) (fun _ h => h.1)); replace HB := Aside0.mk (hb); replace HI266 := Aside0.mk (hi); (try clear hb); (try clear hb2); (try clear hk); (try clear hi)))
 go_ret2
 exact ⟨_, Hd.e_, by (with_reducible repeat (first | apply Kd.R_alloc | apply Kd.R_drewN | apply Kd.R_drew)); exact HO269.out, by repeat (first | (with_reducible first | exact HB.out | apply below_alloc | apply pw_below_drewN | apply below_drew1 | refine below_set ?_ (IsS109.ge HI266.out)) | exact HB.out)⟩
def impl_IsPartOf.l0 : Nat → List (S27) → Int → List (S27) → Int → Int → Option (Bool)
 | 0, _, _, _, _, _ => none
 | k + 1, x0, x5, x8, x9, x10 => if x10 < x9 then (if 0 ≤ x10 then (if x10 < (x8.length : Int) then (if x5 < (x0.length : Int) then (if 0 ≤ x5 then (if (((rd_T27 x0 x5).f0) == ((rd_T27 x8 x10).f0) && (((rd_T27 x0 x5).f1) == ((rd_T27 x8 x10).f1))) = true then (impl_IsPartOf.l0 k x0 (wrap64 (x5 + 1)) x8 x9 (wrap64 (x10 + 1))) else (impl_IsPartOf.l0 k x0 x5 x8 x9 (wrap64 (x10 + 1)))) else (none)) else (impl_IsPartOf.l0 k x0 x5 x8 x9 (wrap64 (x10 + 1)))) else (none)) else (none)) else (some (x5 == (x0.length : Int)))
def impl_IsPartOf.f (k : Nat) (l0 : List (S27)) (l1 : List (S27)) : Option (Bool) := impl_IsPartOf.l0 k l0 0 l1 (l1.length : Int) 0
set_option maxHeartbeats 8000000 in
set_option maxRecDepth 100000 in
theorem impl_IsPartOf.calls (k : Nat) (A0 : Option Addr) (c0 : Nat) (l0 : List (S27)) (A1 : Option Addr) (c1 : Nat) (l1 : List (S27)) (r : Bool) (w : World) (hr0 : Kd.C k27 w A0 l0.length l0) (hc0 : l0.length ≤ c0) (hr1 : Kd.C k27 w A1 l1.length l1) (hc1 : l1.length ≤ c1) (h : impl_IsPartOf.f k l0 l1 = some r) :
  Calls Try.prog 32 #[.slice A0 l0.length c0, .slice A1 l1.length c1] w fun e w' => e = .returned (.bool r) ∧ Below w.heap.size w w' := by
 have hu27 := Try.underlying27
 have HR0 := Aside0.mk hr0
 have HC0 := Aside0.mk hc0
 clear hr0 hc0
 have HR1 := Aside0.mk hr1
 have HC1 := Aside0.mk hc1
 clear hr1 hc1
 have HB := Aside0.mk (Below.refl w.heap.size w)
 have H : (impl_IsPartOf.l0 k l0 0 l1 (l1.length : Int) 0) = some r := h
 clear h
 have H' := Aside0.mk H
 clear H
 go_enter Try.func32, Try.ntmps32
 go_wp2
 repeat (go_quiet (fail); try go_wp2)
 go_loopg [5, 10] k (fun kq v5 v10 w' => ∃ (x5_1 : Int) (x10_1 : Int), v5 = .int .i64 x5_1 ∧ v10 = .int .i64 x10_1 ∧ Aside0 (impl_IsPartOf.l0 kq l0 x5_1 l1 (l1.length : Int) x10_1 = some r) ∧ Aside0 (kq ≤ k) ∧ Aside0 (Below w.heap.size w w'))
 case atStart => exact ⟨(0), (0), (by first | rfl | (simp; done) | (simp [*]; done)), (by first | rfl | (simp; done) | (simp [*]; done)), H', ⟨Nat.le_refl _⟩, ⟨Hd.b_⟩⟩
 case round =>
  clear H'
  try clear c1
  try clear p2
  obtain ⟨x5_1, x10_1, rfl, rfl, HA, HK1, HB⟩ := hrel
  cases gk with
  | zero => exact absurd HA.out (by simp [impl_IsPartOf.l0])
  | succ k1 =>
   have H := HA.out
   clear HA
   simp only [impl_IsPartOf.l0] at H
   by_cases c3 : x10_1 < (l1.length : Int)
   ·
    rw [if_pos c3] at H
    have c3b0 : decide (x10_1 < (l1.length : Int)) = true := decide_eq_true c3
    clear c3
    by_cases c4 : 0 ≤ x10_1
    ·
     rw [if_pos c4] at H
     have c4b0 : decide (0 ≤ x10_1) = true := decide_eq_true c4
     clear c4
     by_cases c5 : x10_1 < (l1.length : Int)
     ·
      rw [if_pos c5] at H
      have c5b0 : decide (x10_1 < (l1.length : Int)) = true := decide_eq_true c5
      clear c5
      by_cases c6 : x5_1 < (l0.length : Int)
      ·
       rw [if_pos c6] at H
       have c6b0 : decide (x5_1 < (l0.length : Int)) = true := decide_eq_true c6
       clear c6
       by_cases c7 : 0 ≤ x5_1
       ·
        rw [if_pos c7] at H
        have c7b0 : decide (0 ≤ x5_1) = true := decide_eq_true c7
        clear c7
        by_cases c8 : (((rd_T27 l0 x5_1).f0) == ((rd_T27 l1 x10_1).f0) && (((rd_T27 l0 x5_1).f1) == ((rd_T27 l1 x10_1).f1))) = true
        ·
         rw [if_pos c8] at H
         have c8b0 : (((rd_T27 l0 x5_1).f0) == ((rd_T27 l1 x10_1).f0) && (((rd_T27 l0 x5_1).f1) == ((rd_T27 l1 x10_1).f1))) = true := c8
         (try (have c8b1 : decide (((rd_T27 l0 x5_1).f0) = ((rd_T27 l1 x10_1).f0) && (((rd_T27 l0 x5_1).f1) == ((rd_T27 l1 x10_1).f1))) = true := by simpa using c8))
         (try (have c8b2 : (((rd_T27 l0 x5_1).f0) == ((rd_T27 l1 x10_1).f0) && (((rd_T27 l0 x5_1).f1) == ((rd_T27 l1 x10_1).f1))) = true := by simpa using c8))
         clear c8
         have H' := Aside0.mk H
         clear H
         have p275 : 0 ≤ (x10_1 : Int) := of_decide_eq_true Hd.a_
         have q275 : x10_1 < (l1.length : Int) := of_decide_eq_true Hd.a_
         obtain ⟨ad275, e275, hx275_0, hx275_1⟩ := at_T27 HR1.out x10_1 p275 q275
         cases e275
         replace hx275_0 := (HB.out.cell (World.block_lt_of_cell? w _ hx275_0)).trans hx275_0
         replace hx275_1 := (HB.out.cell (World.block_lt_of_cell? w _ hx275_1)).trans hx275_1
         replace p275 := eq_true p275
         replace q275 := eq_true q275
         go_wp2_with (first | ((with_reducible refine gate_dst (N := 7) rfl ?_); refine Hd.box_ 7 (#[.int .i64 0, .int .i64 0]) 27 ?_; intro gb276 hg w9 hbox hb; have BK276 := Aside0.mk (hbox); have GW276 := Aside0.mk ((Hd.g_ hg Hd.b_ : w.heap.size ≤ gb276)); have GE276 := Aside0.mk ((Hd.g_ hg Hd.b_ : w.heap.size ≤ gb276)); replace HB := Aside0.mk (below_step Hd.b_ hb); clear hb hbox hg; obtain ⟨hcz10_0, hcz10_1⟩ := Hd.c2_ BK276.out; obtain ⟨hfz10_0, hfz10_1⟩ := Hd.f2_ BK276.out; have p277 : 0 ≤ (x5_1 : Int) := of_decide_eq_true Hd.a_; have q277 : x5_1 < (l0.length : Int) := of_decide_eq_true Hd.a_; obtain ⟨ad277, e277, hx277_0, hx277_1⟩ := at_T27 HR0.out x5_1 p277 q277; cases e277; have hn277_0 : ad277.block ≠ gb276 := Nat.ne_of_lt (Nat.lt_of_lt_of_le (by have := World.block_lt_of_cell? _ _ hx277_0; first | rwa [add_block] at this | exact this) GW276.out); have hn277_1 : ad277.block ≠ gb276 := Nat.ne_of_lt (Nat.lt_of_lt_of_le (by have := World.block_lt_of_cell? _ _ hx277_0; first | rwa [add_block] at this | exact this) GW276.out); replace hx277_0 := (HB.out.cell (World.block_lt_of_cell? w _ hx277_0)).trans hx277_0; replace hx277_1 := (HB.out.cell (World.block_lt_of_cell? w _ hx277_1)).trans hx277_1; replace hx277_0 := (cell_far (p := ⟨gb276, 0, none⟩) (by first | (rw [add_block]; exact hn277_0) | (show (Addr.add _ _).block ≠ _; rw [add_block]; exact hn277_0) | exact hn277_0) (.int .i64 ((rd_T27 l1 x10_1).f0))).trans hx277_0; replace hx277_1 := (cell_far (p := ⟨gb276, 0, none⟩) (by first | (rw [add_block]; exact hn277_0) | (show (Addr.add _ _).block ≠ _; rw [add_block]; exact hn277_0) | exact hn277_0) (.int .i64 ((rd_T27 l1 x10_1).f0))).trans hx277_1; replace hx277_0 := (cell_far (p := ⟨gb276, 1, none⟩) (by first | (rw [add_block]; exact hn277_1) | (show (Addr.add _ _).block ≠ _; rw [add_block]; exact hn277_1) | exact hn277_1) (.int .i64 ((rd_T27 l1 x10_1).f1))).trans hx277_0; replace hx277_1 := (cell_far (p := ⟨gb276, 1, none⟩) (by first | (rw [add_block]; exact hn277_1) | (show (Addr.add _ _).block ≠ _; rw [add_block]; exact hn277_1) | exact hn277_1) (.int .i64 ((rd_T27 l1 x10_1).f1))).trans hx277_1; (try have hy277_0 := fun (n_ : Nat) => (show ((((w9.drewN n_).setCell ⟨gb276, 0, none⟩ (.int .i64 ((rd_T27 l1 x10_1).f0))).setCell ⟨gb276, 1, none⟩ (.int .i64 ((rd_T27 l1 x10_1).f1)))).cell? _ = some _ from hx277_0)); (try have hy277_1 := fun (n_ : Nat) => (show ((((w9.drewN n_).setCell ⟨gb276, 0, none⟩ (.int .i64 ((rd_T27 l1 x10_1).f0))).setCell ⟨gb276, 1, none⟩ (.int .i64 ((rd_T27 l1 x10_1).f1)))).cell? _ = some _ from hx277_1)); clear hn277_0; clear hn277_1; replace p277 := eq_true p277; replace q277 := eq_true q277))
         repeat (go_quiet (first | ((with_reducible refine gate_dst (N := 7) rfl ?_); refine Hd.box_ 7 (#[.int .i64 0, .int .i64 0]) 27 ?_; intro gb276 hg w9 hbox hb; have BK276 := Aside0.mk (hbox); have GW276 := Aside0.mk ((Hd.g_ hg Hd.b_ : w.heap.size ≤ gb276)); have GE276 := Aside0.mk ((Hd.g_ hg Hd.b_ : w.heap.size ≤ gb276)); replace HB := Aside0.mk (below_step Hd.b_ hb); clear hb hbox hg; obtain ⟨hcz10_0, hcz10_1⟩ := Hd.c2_ BK276.out; obtain ⟨hfz10_0, hfz10_1⟩ := Hd.f2_ BK276.out; have p277 : 0 ≤ (x5_1 : Int) := of_decide_eq_true Hd.a_; have q277 : x5_1 < (l0.length : Int) := of_decide_eq_true Hd.a_; obtain ⟨ad277, e277, hx277_0, hx277_1⟩ := at_T27 HR0.out x5_1 p277 q277; cases e277; have hn277_0 : ad277.block ≠ gb276 := Nat.ne_of_lt (Nat.lt_of_lt_of_le (by have := World.block_lt_of_cell? _ _ hx277_0; first | rwa [add_block] at this | exact this) GW276.out); have hn277_1 : ad277.block ≠ gb276 := Nat.ne_of_lt (Nat.lt_of_lt_of_le (by have := World.block_lt_of_cell? _ _ hx277_0; first | rwa [add_block] at this | exact this) GW276.out); replace hx277_0 := (HB.out.cell (World.block_lt_of_cell? w _ hx277_0)).trans hx277_0; replace hx277_1 := (HB.out.cell (World.block_lt_of_cell? w _ hx277_1)).trans hx277_1; replace hx277_0 := (cell_far (p := ⟨gb276, 0, none⟩) (by first | (rw [add_block]; exact hn277_0) | (show (Addr.add _ _).block ≠ _; rw [add_block]; exact hn277_0) | exact hn277_0) (.int .i64 ((rd_T27 l1 x10_1).f0))).trans hx277_0; replace hx277_1 := (cell_far (p := ⟨gb276, 0, none⟩) (by first | (rw [add_block]; exact hn277_0) | (show (Addr.add _ _).block ≠ _; rw [add_block]; exact hn277_0) | exact hn277_0) (.int .i64 ((rd_T27 l1 x10_1).f0))).trans hx277_1; replace hx277_0 := (cell_far (p := ⟨gb276, 1, none⟩) (by first | (rw [add_block]; exact hn277_1) | (show (Addr.add _ _).block ≠ _; rw [add_block]; exact hn277_1) | exact hn277_1) (.int .i64 ((rd_T27 l1 x10_1).f1))).trans hx277_0; replace hx277_1 := (cell_far (p := ⟨gb276, 1, none⟩) (by first | (rw [add_block]; exact hn277_1) | (show (Addr.add _ _).block ≠ _; rw [add_block]; exact hn277_1) | exact hn277_1) (.int .i64 ((rd_T27 l1 x10_1).f1))).trans hx277_1; (try have hy277_0 := fun (n_ : Nat) => (show ((((w9.drewN n_).setCell ⟨gb276, 0, none⟩ (.int .i64 ((rd_T27 l1 x10_1).f0))).setCell ⟨gb276, 1, none⟩ (.int .i64 ((rd_T27 l1 x10_1).f1)))).cell? _ = some _ from hx277_0)); (try have hy277_1 := fun (n_ : Nat) => (show ((((w9.drewN n_).setCell ⟨gb276, 0, none⟩ (.int .i64 ((rd_T27 l1 x10_1).f0))).setCell ⟨gb276, 1, none⟩ (.int .i64 ((rd_T27 l1 x10_1).f1)))).cell? _ = some _ from hx277_1)); clear hn277_0; clear hn277_1; replace p277 := eq_true p277; replace q277 := eq_true q277)); try go_wp2_with (first | ((with_reducible refine gate_dst (N := 7) rfl ?_); refine Hd.box_ 7 (#[.int .i64 0, .int .i64 0]) 27 ?_; intro gb276 hg w9 hbox hb; have BK276 := Aside0.mk (hbox); have GW276 := Aside0.mk ((Hd.g_ hg Hd.b_ : w.heap.size ≤ gb276)); have GE276 := Aside0.mk ((Hd.g_ hg Hd.b_ : w.heap.size ≤ gb276)); replace HB := Aside0.mk (below_step Hd.b_ hb); clear hb hbox hg; obtain ⟨hcz10_0, hcz10_1⟩ := Hd.c2_ BK276.out; obtain ⟨hfz10_0, hfz10_1⟩ := Hd.f2_ BK276.out; have p277 : 0 ≤ (x5_1 : Int) := of_decide_eq_true Hd.a_; have q277 : x5_1 < (l0.length : Int) := of_decide_eq_true Hd.a_; obtain ⟨ad277, e277, hx277_0, hx277_1⟩ := at_T27 HR0.out x5_1 p277 q277; cases e277; have hn277_0 : ad277.block ≠ gb276 := Nat.ne_of_lt (Nat.lt_of_lt_of_le (by have := World.block_lt_of_cell? _ _ hx277_0; first | rwa [add_block] at this | exact this) GW276.out); have hn277_1 : ad277.block ≠ gb276 := Nat.ne_of_lt (Nat.lt_of_lt_of_le (by have := World.block_lt_of_cell? _ _ hx277_0; first | rwa [add_block] at this | exact this) GW276.out); replace hx277_0 := (HB.out.cell (World.block_lt_of_cell? w _ hx277_0)).trans hx277_0; replace hx277_1 := (HB.out.cell (World.block_lt_of_cell? w _ hx277_1)).trans hx277_1; replace hx277_0 := (cell_far (p := ⟨gb276, 0, none⟩) (by first | (rw [add_block]; exact hn277_0) | (show (Addr.add _ _).block ≠ _; rw [add_block]; exact hn277_0) | exact hn277_0) (.int .i64 ((rd_T27 l1 x10_1).f0))).trans hx277_0; replace hx277_1 := (cell_far (p := ⟨gb276, 0, none⟩) (by first | (rw [add_block]; exact hn277_0) | (show (Addr.add _ _).block ≠ _; rw [add_block]; exact hn277_0) | exact hn277_0) (.int .i64 ((rd_T27 l1 x10_1).f0))).trans hx277_1; replace hx277_0 := (cell_far (p := ⟨gb276, 1, none⟩) (by first | (rw [add_block]; exact hn277_1) | (show (Addr.add _ _).block ≠ _; rw [add_block]; exact hn277_1) | exact hn277_1) (.int .i64 ((rd_T27 l1 x10_1).f1))).trans hx277_0; replace hx277_1 := (cell_far (p := ⟨gb276, 1, none⟩) (by first | (rw [add_block]; exact hn277_1) | (show (Addr.add _ _).block ≠ _; rw [add_block]; exact hn277_1) | exact hn277_1) (.int .i64 ((rd_T27 l1 x10_1).f1))).trans hx277_1; (try have hy277_0 := fun (n_ : Nat) => (show ((((w9.drewN n_).setCell ⟨gb276, 0, none⟩ (.int .i64 ((rd_T27 l1 x10_1).f0))).setCell ⟨gb276, 1, none⟩ (.int .i64 ((rd_T27 l1 x10_1).f1)))).cell? _ = some _ from hx277_0)); (try have hy277_1 := fun (n_ : Nat) => (show ((((w9.drewN n_).setCell ⟨gb276, 0, none⟩ (.int .i64 ((rd_T27 l1 x10_1).f0))).setCell ⟨gb276, 1, none⟩ (.int .i64 ((rd_T27 l1 x10_1).f1)))).cell? _ = some _ from hx277_1)); clear hn277_0; clear hn277_1; replace p277 := eq_true p277; replace q277 := eq_true q277)))
         go_roundg k1
         case measure => have := HK1.out; omega
         case rel => exact ⟨(wrap64 (x5_1 + 1)), (wrap64 (x10_1 + 1)), (by first | rfl | (simp; done) | (simp [*]; done)), (by first | rfl | (simp; done) | (simp [*]; done)), H', ⟨by have := HK1.out; omega⟩, ⟨Hd.b_⟩⟩
        ·
         rw [if_neg c8] at H
         have c8b0 : (((rd_T27 l0 x5_1).f0) == ((rd_T27 l1 x10_1).f0) && (((rd_T27 l0 x5_1).f1) == ((rd_T27 l1 x10_1).f1))) = false := by simpa using c8
         (try (have c8b1 : decide (((rd_T27 l0 x5_1).f0) = ((rd_T27 l1 x10_1).f0) && (((rd_T27 l0 x5_1).f1) == ((rd_T27 l1 x10_1).f1))) = false := by simpa using c8))
         (try (have c8b2 : (((rd_T27 l0 x5_1).f0) == ((rd_T27 l1 x10_1).f0) && (((rd_T27 l0 x5_1).f1) == ((rd_T27 l1 x10_1).f1))) = false := by simpa using c8))
         (try (have c8b3 : ¬ (((rd_T27 l0 x5_1).f0) = ((rd_T27 l1 x10_1).f0) && (((rd_T27 l0 x5_1).f1) == ((rd_T27 l1 x10_1).f1))) := by simpa using c8))
         clear c8
         have H' := Aside0.mk H
         clear H
         have p275 : 0 ≤ (x10_1 : Int) := of_decide_eq_true Hd.a_
         have q275 : x10_1 < (l1.length : Int) := of_decide_eq_true Hd.a_
         obtain ⟨ad275, e275, hx275_0, hx275_1⟩ := at_T27 HR1.out x10_1 p275 q275
         cases e275
         replace hx275_0 := (HB.out.cell (World.block_lt_of_cell? w _ hx275_0)).trans hx275_0
         replace hx275_1 := (HB.out.cell (World.block_lt_of_cell? w _ hx275_1)).trans hx275_1
         replace p275 := eq_true p275
         replace q275 := eq_true q275
         go_wp2_with (first | ((with_reducible refine gate_dst (N := 7) rfl ?_); refine Hd.box_ 7 (#[.int .i64 0, .int .i64 0]) 27 ?_; intro gb276 hg w11 hbox hb; have BK276 := Aside0.mk (hbox); have GW276 := Aside0.mk ((Hd.g_ hg Hd.b_ : w.heap.size ≤ gb276)); have GE276 := Aside0.mk ((Hd.g_ hg Hd.b_ : w.heap.size ≤ gb276)); replace HB := Aside0.mk (below_step Hd.b_ hb); clear hb hbox hg; obtain ⟨hcz12_0, hcz12_1⟩ := Hd.c2_ BK276.out; obtain ⟨hfz12_0, hfz12_1⟩ := Hd.f2_ BK276.out; have p277 : 0 ≤ (x5_1 : Int) := of_decide_eq_true Hd.a_; have q277 : x5_1 < (l0.length : Int) := of_decide_eq_true Hd.a_; obtain ⟨ad277, e277, hx277_0, hx277_1⟩ := at_T27 HR0.out x5_1 p277 q277; cases e277; have hn277_0 : ad277.block ≠ gb276 := Nat.ne_of_lt (Nat.lt_of_lt_of_le (by have := World.block_lt_of_cell? _ _ hx277_0; first | rwa [add_block] at this | exact this) GW276.out); have hn277_1 : ad277.block ≠ gb276 := Nat.ne_of_lt (Nat.lt_of_lt_of_le (by have := World.block_lt_of_cell? _ _ hx277_0; first | rwa [add_block] at this | exact this) GW276.out); replace hx277_0 := (HB.out.cell (World.block_lt_of_cell? w _ hx277_0)).trans hx277_0; replace hx277_1 := (HB.out.cell (World.block_lt_of_cell? w _ hx277_1)).trans hx277_1; replace hx277_0 := (cell_far (p := ⟨gb276, 0, none⟩) (by first | (rw [add_block]; exact hn277_0) | (show (Addr.add _ _).block ≠ _; rw [add_block]; exact hn277_0) | exact hn277_0) (.int .i64 ((rd_T27 l1 x10_1).f0))).trans hx277_0; replace hx277_1 := (cell_far (p := ⟨gb276, 0, none⟩) (by first | (rw [add_block]; exact hn277_0) | (show (Addr.add _ _).block ≠ _; rw [add_block]; exact hn277_0) | exact hn277_0) (.int .i64 ((rd_T27 l1 x10_1).f0))).trans hx277_1; replace hx277_0 := (cell_far (p := ⟨gb276, 1, none⟩) (by first | (rw [add_block]; exact hn277_1) | (show (Addr.add _ _).block ≠ _; rw [add_block]; exact hn277_1) | exact hn277_1) (.int .i64 ((rd_T27 l1 x10_1).f1))).trans hx277_0; replace hx277_1 := (cell_far (p := ⟨gb276, 1, none⟩) (by first | (rw [add_block]; exact hn277_1) | (show (Addr.add _ _).block ≠ _; rw [add_block]; exact hn277_1) | exact hn277_1) (.int .i64 ((rd_T27 l1 x10_1).f1))).trans hx277_1; (try have hy277_0 := fun (n_ : Nat) => (show ((((w11.drewN n_).setCell ⟨gb276, 0, none⟩ (.int .i64 ((rd_T27 l1 x10_1).f0))).setCell ⟨gb276, 1, none⟩ (.int .i64 ((rd_T27 l1 x10_1).f1)))).cell? _ = some _ from hx277_0)); (try have hy277_1 := fun (n_ : Nat) => (show ((((w11.drewN n_).setCell ⟨gb276, 0, none⟩ (.int .i64 ((rd_T27 l1 x10_1).f0))).setCell ⟨gb276, 1, none⟩ (.int .i64 ((rd_T27 l1 x10_1).f1)))).cell? _ = some _ from hx277_1)); clear hn277_0; clear hn277_1; replace p277 := eq_true p277; replace q277 := eq_true q277))
         repeat (go_quiet (first | ((with_reducible refine gate_dst (N := 7) rfl ?_); refine Hd.box_ 7 (#[.int .i64 0, .int .i64 0]) 27 ?_; intro gb276 hg w11 hbox hb; have BK276 := Aside0.mk (hbox); have GW276 := Aside0.mk ((Hd.g_ hg Hd.b_ : w.heap.size ≤ gb276)); have GE276 := Aside0.mk ((Hd.g_ hg Hd.b_ : w.heap.size ≤ gb276)); replace HB := Aside0.mk (below_step Hd.b_ hb); clear hb hbox hg; obtain ⟨hcz12_0, hcz12_1⟩ := Hd.c2_ BK276.out; obtain ⟨hfz12_0, hfz12_1⟩ := Hd.f2_ BK276.out; have p277 : 0 ≤ (x5_1 : Int) := of_decide_eq_true Hd.a_; have q277 : x5_1 < (l0.length : Int) := of_decide_eq_true Hd.a_; obtain ⟨ad277, e277, hx277_0, hx277_1⟩ := at_T27 HR0.out x5_1 p277 q277; cases e277; have hn277_0 : ad277.block ≠ gb276 := Nat.ne_of_lt (Nat.lt_of_lt_of_le (by have := World.block_lt_of_cell? _ _ hx277_0; first | rwa [add_block] at this | exact this) GW276.out); have hn277_1 : ad277.block ≠ gb276 := Nat.ne_of_lt (Nat.lt_of_lt_of_le (by have := World.block_lt_of_cell? _ _ hx277_0; first | rwa [add_block] at this | exact this) GW276.out); replace hx277_0 := (HB.out.cell (World.block_lt_of_cell? w _ hx277_0)).trans hx277_0; replace hx277_1 := (HB.out.cell (World.block_lt_of_cell? w _ hx277_1)).trans hx277_1; replace hx277_0 := (cell_far (p := ⟨gb276, 0, none⟩) (by first | (rw [add_block]; exact hn277_0) | (show (Addr.add _ _).block ≠ _; rw [add_block]; exact hn277_0) | exact hn277_0) (.int .i64 ((rd_T27 l1 x10_1).f0))).trans hx277_0; replace hx277_1 := (cell_far (p := ⟨gb276, 0, none⟩) (by first | (rw [add_block]; exact hn277_0) | (show (Addr.add _ _).block ≠ _; rw [add_block]; exact hn277_0) | exact hn277_0) (.int .i64 ((rd_T27 l1 x10_1).f0))).trans hx277_1; replace hx277_0 := (cell_far (p := ⟨gb276, 1, none⟩) (by first | (rw [add_block]; exact hn277_1) | (show (Addr.add _ _).block ≠ _; rw [add_block]; exact hn277_1) | exact hn277_1) (.int .i64 ((rd_T27 l1 x10_1).f1))).trans hx277_0; replace hx277_1 := (cell_far (p := ⟨gb276, 1, none⟩) (by first | (rw [add_block]; exact hn277_1) | (show (Addr.add _ _).block ≠ _; rw [add_block]; exact hn277_1) | exact hn277_1) (.int .i64 ((rd_T27 l1 x10_1).f1))).trans hx277_1; (try have hy277_0 := fun (n_ : Nat) => (show ((((w11.drewN n_).setCell ⟨gb276, 0, none⟩ (.int .i64 ((rd_T27 l1 x10_1).f0))).setCell ⟨gb276, 1, none⟩ (.int .i64 ((rd_T27 l1 x10_1).f1)))).cell? _ = some _ from hx277_0)); (try have hy277_1 := fun (n_ : Nat) => (show ((((w11.drewN n_).setCell ⟨gb276, 0, none⟩ (.int .i64 ((rd_T27 l1 x10_1).f0))).setCell ⟨gb276, 1, none⟩ (.int .i64 ((rd_T27 l1 x10_1).f1)))).cell? _ = some _ from hx277_1)); clear hn277_0; clear hn277_1; replace p277 := eq_true p277; replace q277 := eq_true q277)); try go_wp2_with (first | ((with_reducible refine gate_dst (N := 7) rfl ?_); refine Hd.box_ 7 (#[.int .i64 0, .int .i64 0]) 27 ?_; intro gb276 hg w11 hbox hb; have BK276 := Aside0.mk (hbox); have GW276 := Aside0.mk ((Hd.g_ hg Hd.b_ : w.heap.size ≤ gb276)); have GE276 := Aside0.mk ((Hd.g_ hg Hd.b_ : w.heap.size ≤ gb276)); replace HB := Aside0.mk (below_step Hd.b_ hb); clear hb hbox hg; obtain ⟨hcz12_0, hcz12_1⟩ := Hd.c2_ BK276.out; obtain ⟨hfz12_0, hfz12_1⟩ := Hd.f2_ BK276.out; have p277 : 0 ≤ (x5_1 : Int) := of_decide_eq_true Hd.a_; have q277 : x5_1 < (l0.length : Int) := of_decide_eq_true Hd.a_; obtain ⟨ad277, e277, hx277_0, hx277_1⟩ := at_T27 HR0.out x5_1 p277 q277; cases e277; have hn277_0 : ad277.block ≠ gb276 := Nat.ne_of_lt (Nat.lt_of_lt_of_le (by have := World.block_lt_of_cell? _ _ hx277_0; first | rwa [add_block] at this | exact this) GW276.out); have hn277_1 : ad277.block ≠ gb276 := Nat.ne_of_lt (Nat.lt_of_lt_of_le (by have := World.block_lt_of_cell? _ _ hx277_0; first | rwa [add_block] at this | exact this) GW276.out); replace hx277_0 := (HB.out.cell (World.block_lt_of_cell? w _ hx277_0)).trans hx277_0; replace hx277_1 := (HB.out.cell (World.block_lt_of_cell? w _ hx277_1)).trans hx277_1; replace hx277_0 := (cell_far (p := ⟨gb276, 0, none⟩) (by first | (rw [add_block]; exact hn277_0) | (show (Addr.add _ _).block ≠ _; rw [add_block]; exact hn277_0) | exact hn277_0) (.int .i64 ((rd_T27 l1 x10_1).f0))).trans hx277_0; replace hx277_1 := (cell_far (p := ⟨gb276, 0, none⟩) (by first | (rw [add_block]; exact hn277_0) | (show (Addr.add _ _).block ≠ _; rw [add_block]; exact hn277_0) | exact hn277_0) (.int .i64 ((rd_T27 l1 x10_1).f0))).trans hx277_1; replace hx277_0 := (cell_far (p := ⟨gb276, 1, none⟩) (by first | (rw [add_block]; exact hn277_1) | (show (Addr.add _ _).block ≠ _; rw [add_block]; exact hn277_1) | exact hn277_1) (.int .i64 ((rd_T27 l1 x10_1).f1))).trans hx277_0; replace hx277_1 := (cell_far (p := ⟨gb276, 1, none⟩) (by first | (rw [add_block]; exact hn277_1) | (show (Addr.add _ _).block ≠ _; rw [add_block]; exact hn277_1) | exact hn277_1) (.int .i64 ((rd_T27 l1 x10_1).f1))).trans hx277_1; (try have hy277_0 := fun (n_ : Nat) => (show ((((w11.drewN n_).setCell ⟨gb276, 0, none⟩ (.int .i64 ((rd_T27 l1 x10_1).f0))).setCell ⟨gb276, 1, none⟩ (.int .i64 ((rd_T27 l1 x10_1).f1)))).cell? _ = some _ from hx277_0)); (try have hy277_1 := fun (n_ : Nat) => (show ((((w11.drewN n_).setCell ⟨gb276, 0, none⟩ (.int .i64 ((rd_T27 l1 x10_1).f0))).setCell ⟨gb276, 1, none⟩ (.int .i64 ((rd_T27 l1 x10_1).f1)))).cell? _ = some _ from hx277_1)); clear hn277_0; clear hn277_1; replace p277 := eq_true p277; replace q277 := eq_true q277)))
         go_roundg k1
         case measure => have := HK1.out; omega
         case rel => exact ⟨(x5_1), (wrap64 (x10_1 + 1)), (by first | rfl | (simp; done) | (simp [*]; done)), (by first | rfl | (simp; done) | (simp [*]; done)), H', ⟨by have := HK1.out; omega⟩, ⟨Hd.b_⟩⟩
       ·
        rw [if_neg c7] at H
        exact absurd H (by simp)
      ·
       rw [if_neg c6] at H
       have c6b0 : decide (x5_1 < (l0.length : Int)) = false := decide_eq_false c6
       clear c6
       have H' := Aside0.mk H
       clear H
       have p275 : 0 ≤ (x10_1 : Int) := of_decide_eq_true Hd.a_
       have q275 : x10_1 < (l1.length : Int) := of_decide_eq_true Hd.a_
       obtain ⟨ad275, e275, hx275_0, hx275_1⟩ := at_T27 HR1.out x10_1 p275 q275
       cases e275
       replace hx275_0 := (HB.out.cell (World.block_lt_of_cell? w _ hx275_0)).trans hx275_0
       replace hx275_1 := (HB.out.cell (World.block_lt_of_cell? w _ hx275_1)).trans hx275_1
       replace p275 := eq_true p275
       replace q275 := eq_true q275
       go_wp2_with (first | ((with_reducible refine gate_dst (N := 7) rfl ?_); refine Hd.box_ 7 (#[.int .i64 0, .int .i64 0]) 27 ?_; intro gb276 hg w13 hbox hb; have BK276 := Aside0.mk (hbox); have GW276 := Aside0.mk ((Hd.g_ hg Hd.b_ : w.heap.size ≤ gb276)); have GE276 := Aside0.mk ((Hd.g_ hg Hd.b_ : w.heap.size ≤ gb276)); replace HB := Aside0.mk (below_step Hd.b_ hb); clear hb hbox hg; obtain ⟨hcz14_0, hcz14_1⟩ := Hd.c2_ BK276.out; obtain ⟨hfz14_0, hfz14_1⟩ := Hd.f2_ BK276.out))
       repeat (go_quiet (first | ((with_reducible refine gate_dst (N := 7) rfl ?_); refine Hd.box_ 7 (#[.int .i64 0, .int .i64 0]) 27 ?_; intro gb276 hg w13 hbox hb; have BK276 := Aside0.mk (hbox); have GW276 := Aside0.mk ((Hd.g_ hg Hd.b_ : w.heap.size ≤ gb276)); have GE276 := Aside0.mk ((Hd.g_ hg Hd.b_ : w.heap.size ≤ gb276)); replace HB := Aside0.mk (below_step Hd.b_ hb); clear hb hbox hg; obtain ⟨hcz14_0, hcz14_1⟩ := Hd.c2_ BK276.out; obtain ⟨hfz14_0, hfz14_1⟩ := Hd.f2_ BK276.out)); try go_wp2_with (first | ((with_reducible refine gate_dst (N := 7) rfl ?_); refine Hd.box_ 7 (#[.int .i64 0, .int .i64 0]) 27 ?_; intro gb276 hg w13 hbox hb; have BK276 := Aside0.mk (hbox); have GW276 := Aside0.mk ((Hd.g_ hg Hd.b_ : w.heap.size ≤ gb276)); have GE276 := Aside0.mk ((Hd.g_ hg Hd.b_ : w.heap.size ≤ gb276)); replace HB := Aside0.mk (below_step Hd.b_ hb); clear hb hbox hg; obtain ⟨hcz14_0, hcz14_1⟩ := Hd.c2_ BK276.out; obtain ⟨hfz14_0, hfz14_1⟩ := Hd.f2_ BK276.out)))
       go_roundg k1
       case measure => have := HK1.out; omega
       case rel => exact ⟨(x5_1), (wrap64 (x10_1 + 1)), (by first | rfl | (simp; done) | (simp [*]; done)), (by first | rfl | (simp; done) | (simp [*]; done)), H', ⟨by have := HK1.out; omega⟩, ⟨Hd.b_⟩⟩
     ·
      rw [if_neg c5] at H
      exact absurd H (by simp)
    ·
     rw [if_neg c4] at H
     exact absurd H (by simp)
   ·
    rw [if_neg c3] at H
    have c3b0 : decide (x10_1 < (l1.length : Int)) = false := decide_eq_false c3
    clear c3
    obtain rfl := Option.some.inj H
    go_wp2
    repeat (go_quiet (fail); try go_wp2)
    go_ret
    exact ⟨Hd.e_, Hd.b_⟩
def impl_IsSegment.f (a0_0 : Int) (a0_1 : Int) (a0_2 : Int) (a0_3 : Int) : Option (Bool) := (impl_IsPoint.f a0_0 a0_1).bind fun t279 => (if t279 = true then ((impl_IsPoint.f a0_2 a0_3).bind fun t280 => (if t280 = true then (some (!(a0_0 == a0_2) || (!(a0_1 == a0_3)))) else (some false))) else (some false))
set_option maxHeartbeats 8000000 in
set_option maxRecDepth 100000 in
theorem impl_IsSegment.calls (a0_0 : Int) (a0_1 : Int) (a0_2 : Int) (a0_3 : Int) (r : Bool) (w : World) (h : impl_IsSegment.f a0_0 a0_1 a0_2 a0_3 = some r) :
  Calls Try.prog 83 #[.agg #[.int .i64 a0_0, .int .i64 a0_1, .int .i64 a0_2, .int .i64 a0_3]] w fun e w' => e = .returned (.bool r) ∧ Below w.heap.size w w' := by
 have hu53 := Try.underlying53
 have hu27 := Try.underlying27
 have HB := Aside0.mk (Below.refl w.heap.size w)
 have H : ((impl_IsPoint.f a0_0 a0_1).bind fun t279 => (if t279 = true then ((impl_IsPoint.f a0_2 a0_3).bind fun t280 => (if t280 = true then (some (!(a0_0 == a0_2) || (!(a0_1 == a0_3)))) else (some false))) else (some false))) = some r := h
 clear h
 replace H := Option.bind_eq_some_iff.mp H
 obtain ⟨t279, A20, H⟩ := H
 replace H : (if t279 = true then ((impl_IsPoint.f a0_2 a0_3).bind fun t280 => (if t280 = true then (some (!(a0_0 == a0_2) || (!(a0_1 == a0_3)))) else (some false))) else (some false)) = some r := H
 have A2 := Aside0.mk A20
 clear A20
 by_cases c3 : t279 = true
 ·
  subst c3
  have H1 : ((impl_IsPoint.f a0_2 a0_3).bind fun t280 => (if t280 = true then (some (!(a0_0 == a0_2) || (!(a0_1 == a0_3)))) else (some false))) = some r := by rw [if_pos rfl] at H; exact H
  clear H
  have H := H1
  clear H1
  replace H := Option.bind_eq_some_iff.mp H
  obtain ⟨t280, A40, H⟩ := H
  replace H : (if t280 = true then (some (!(a0_0 == a0_2) || (!(a0_1 == a0_3)))) else (some false)) = some r := H
  have A4 := Aside0.mk A40
  clear A40
  by_cases c5 : t280 = true
  ·
   subst c5
   have H1 : (some (!(a0_0 == a0_2) || (!(a0_1 == a0_3)))) = some r := by rw [if_pos rfl] at H; exact H
   clear H
   have H := H1
   clear H1
   obtain rfl := Option.some.inj H
   go_enter Try.func83, Try.ntmps83
   go_wp2_with (first | ((with_reducible refine gate_dst (N := 1) rfl ?_); refine Hd.box_ 1 (#[.int .i64 a0_0, .int .i64 a0_1, .int .i64 a0_2, .int .i64 a0_3]) 53 ?_; intro gb278 hg w6 hbox hb; have BK278 := Aside0.mk (hbox); have GW278 := Aside0.mk ((Hd.g_ hg Hd.b_ : w.heap.size ≤ gb278)); have GE278 := Aside0.mk ((Hd.g_ hg Hd.b_ : w.heap.size ≤ gb278)); replace HB := Aside0.mk (below_step Hd.b_ hb); clear hb hbox hg; obtain ⟨hcz7_0, hcz7_1, hcz7_2, hcz7_3⟩ := Hd.c4_ BK278.out; obtain ⟨hfz7_0, hfz7_1, hfz7_2, hfz7_3⟩ := Hd.f4_ BK278.out) | ((with_reducible refine gate_callee (f := 45) rfl ?_); refine goesL_ (some 5) rfl rfl Try.func45 (by kernel_rfl) rfl #[.agg #[.int .i64 a0_0, .int .i64 a0_1]] rfl Hd.m_ ?_; (with_reducible refine (impl_IsPoint.calls a0_0 a0_1 true _ A2.out).mono ?_); rintro e w8 ⟨rfl, hb⟩; refine ⟨_, rfl, ?_⟩; replace BK278 := Aside0.mk (Hd.kb_ BK278 hb); replace HB := Aside0.mk (below_step Hd.b_ hb); (try clear hb); (try clear hb2); (try clear hk); (try clear hi); obtain ⟨hcz9_0, hcz9_1, hcz9_2, hcz9_3⟩ := Hd.c4_ BK278.out; obtain ⟨hfz9_0, hfz9_1, hfz9_2, hfz9_3⟩ := Hd.f4_ BK278.out) | (go_at_call 45; (with_reducible refine (impl_IsPoint.calls a0_2 a0_3 true _ A4.out).mono ?_); rintro e w10 ⟨rfl, hb⟩; replace BK278 := Aside0.mk (Hd.kb_ BK278 hb); replace HB := Aside0.mk (below_step Hd.b_ hb); (try clear hb); (try clear hb2); (try clear hk); (try clear hi); obtain ⟨hcz11_0, hcz11_1, hcz11_2, hcz11_3⟩ := Hd.c4_ BK278.out; obtain ⟨hfz11_0, hfz11_1, hfz11_2, hfz11_3⟩ := Hd.f4_ BK278.out))
   go_ret
   exact ⟨Hd.e_, Hd.b_⟩
  ·
   replace c5 := Bool.eq_false_iff.mpr c5
   subst c5
   have H1 : (some false) = some r := by rw [if_neg (show ¬ (false = true) by decide)] at H; exact H
   clear H
   have H := H1
   clear H1
   obtain rfl := Option.some.inj H
   go_enter Try.func83, Try.ntmps83
   go_wp2_with (first | ((with_reducible refine gate_dst (N := 1) rfl ?_); refine Hd.box_ 1 (#[.int .i64 a0_0, .int .i64 a0_1, .int .i64 a0_2, .int .i64 a0_3]) 53 ?_; intro gb278 hg w12 hbox hb; have BK278 := Aside0.mk (hbox); have GW278 := Aside0.mk ((Hd.g_ hg Hd.b_ : w.heap.size ≤ gb278)); have GE278 := Aside0.mk ((Hd.g_ hg Hd.b_ : w.heap.size ≤ gb278)); replace HB := Aside0.mk (below_step Hd.b_ hb); clear hb hbox hg; obtain ⟨hcz13_0, hcz13_1, hcz13_2, hcz13_3⟩ := Hd.c4_ BK278.out; obtain ⟨hfz13_0, hfz13_1, hfz13_2, hfz13_3⟩ := Hd.f4_ BK278.out) | ((with_reducible refine gate_callee (f := 45) rfl ?_); refine goesL_ (some 5) rfl rfl Try.func45 (by kernel_rfl) rfl #[.agg #[.int .i64 a0_0, .int .i64 a0_1]] rfl Hd.m_ ?_; (with_reducible refine (impl_IsPoint.calls a0_0 a0_1 true _ A2.out).mono ?_); rintro e w14 ⟨rfl, hb⟩; refine ⟨_, rfl, ?_⟩; replace BK278 := Aside0.mk (Hd.kb_ BK278 hb); replace HB := Aside0.mk (below_step Hd.b_ hb); (try clear hb); (try clear hb2); (try clear hk); (try clear hi); obtain ⟨hcz15_0, hcz15_1, hcz15_2, hcz15_3⟩ := Hd.c4_ BK278.out; obtain ⟨hfz15_0, hfz15_1, hfz15_2, hfz15_3⟩ := Hd.f4_ BK278.out) | (go_at_call 45; (with_reducible refine (impl_IsPoint.calls a0_2 a0_3 false _ A4.out).mono ?_); rintro e w16 ⟨rfl, hb⟩; replace BK278 := Aside0.mk (Hd.kb_ BK278 hb); replace HB := Aside0.mk (below_step Hd.b_ hb); (try clear hb); (try clear hb2); (try clear hk); (try clear hi)))
   go_ret
   exact ⟨Hd.e_, Hd.b_⟩
 ·
  replace c3 := Bool.eq_false_iff.mpr c3
  subst c3
  have H1 : (some false) = some r := by rw [if_neg (show ¬ (false = true) by decide)] at H; exact H
  clear H
  have H := H1
  clear H1
  obtain rfl := Option.some.inj H
  go_enter Try.func83, Try.ntmps83
  go_wp2_with (first | ((with_reducible refine gate_dst (N := 1) rfl ?_); refine Hd.box_ 1 (#[.int .i64 a0_0, .int .i64 a0_1, .int .i64 a0_2, .int .i64 a0_3]) 53 ?_; intro gb278 hg w17 hbox hb; have BK278 := Aside0.mk (hbox); have GW278 := Aside0.mk ((Hd.g_ hg Hd.b_ : w.heap.size ≤ gb278)); have GE278 := Aside0.mk ((Hd.g_ hg Hd.b_ : w.heap.size ≤ gb278)); replace HB := Aside0.mk (below_step Hd.b_ hb); clear hb hbox hg; obtain ⟨hcz18_0, hcz18_1, hcz18_2, hcz18_3⟩ := Hd.c4_ BK278.out; obtain ⟨hfz18_0, hfz18_1, hfz18_2, hfz18_3⟩ := Hd.f4_ BK278.out) | ((with_reducible refine gate_callee (f := 45) rfl ?_); refine goesL_ (some 5) rfl rfl Try.func45 (by kernel_rfl) rfl #[.agg #[.int .i64 a0_0, .int .i64 a0_1]] rfl Hd.m_ ?_; (with_reducible refine (impl_IsPoint.calls a0_0 a0_1 false _ A2.out).mono ?_); rintro e w19 ⟨rfl, hb⟩; refine ⟨_, rfl, ?_⟩; replace BK278 := Aside0.mk (Hd.kb_ BK278 hb); replace HB := Aside0.mk (below_step Hd.b_ hb); (try clear hb); (try clear hb2); (try clear hk); (try clear hi)))
  go_ret
  exact ⟨Hd.e_, Hd.b_⟩
def impl_IsNear.f (a0_0 : Int) (a0_1 : Int) (a0_2 : Int) (a0_3 : Int) (a1_0 : Int) (a1_1 : Int) (a2 : Int) : Option (Bool) := (impl_IsSegment.f a0_0 a0_1 a0_2 a0_3).bind fun t283 => (if t283 = true then ((impl_IsPoint.f a1_0 a1_1).bind fun t284 => (if t284 = true then ((impl_InRange.f a2 0 200).bind fun t285 => (if t285 = true then ((impl_farness.f a0_0 a0_1 a0_2 a0_3 a1_0 a1_1).bind fun bt286 => (some (decide (bt286.1 ≤ (wrap64 ((wrap64 (a2 * a2)) * bt286.2)))))) else (some false))) else (some false))) else (some false))
set_option maxHeartbeats 8000000 in
set_option maxRecDepth 100000 in
theorem impl_IsNear.calls (a0_0 : Int) (a0_1 : Int) (a0_2 : Int) (a0_3 : Int) (a1_0 : Int) (a1_1 : Int) (a2 : Int) (r : Bool) (w : World) (h : impl_IsNear.f a0_0 a0_1 a0_2 a0_3 a1_0 a1_1 a2 = some r) :
  Calls Try.prog 36 #[.agg #[.int .i64 a0_0, .int .i64 a0_1, .int .i64 a0_2, .int .i64 a0_3], .agg #[.int .i64 a1_0, .int .i64 a1_1], .int .i64 a2] w fun e w' => e = .returned (.bool r) ∧ Below w.heap.size w w' := by
 have hu53 := Try.underlying53
 have hu27 := Try.underlying27
 have HB := Aside0.mk (Below.refl w.heap.size w)
 have H : ((impl_IsSegment.f a0_0 a0_1 a0_2 a0_3).bind fun t283 => (if t283 = true then ((impl_IsPoint.f a1_0 a1_1).bind fun t284 => (if t284 = true then ((impl_InRange.f a2 0 200).bind fun t285 => (if t285 = true then ((impl_farness.f a0_0 a0_1 a0_2 a0_3 a1_0 a1_1).bind fun bt286 => (some (decide (bt286.1 ≤ (wrap64 ((wrap64 (a2 * a2)) * bt286.2)))))) else (some false))) else (some false))) else (some false))) = some r := h
 clear h
 replace H := Option.bind_eq_some_iff.mp H
 obtain ⟨t283, A40, H⟩ := H
 replace H : (if t283 = true then ((impl_IsPoint.f a1_0 a1_1).bind fun t284 => (if t284 = true then ((impl_InRange.f a2 0 200).bind fun t285 => (if t285 = true then ((impl_farness.f a0_0 a0_1 a0_2 a0_3 a1_0 a1_1).bind fun bt286 => (some (decide (bt286.1 ≤ (wrap64 ((wrap64 (a2 * a2)) * bt286.2)))))) else (some false))) else (some false))) else (some false)) = some r := H
 have A4 := Aside0.mk A40
 clear A40
 by_cases c5 : t283 = true
 ·
  subst c5
  have H1 : ((impl_IsPoint.f a1_0 a1_1).bind fun t284 => (if t284 = true then ((impl_InRange.f a2 0 200).bind fun t285 => (if t285 = true then ((impl_farness.f a0_0 a0_1 a0_2 a0_3 a1_0 a1_1).bind fun bt286 => (some (decide (bt286.1 ≤ (wrap64 ((wrap64 (a2 * a2)) * bt286.2)))))) else (some false))) else (some false))) = some r := by rw [if_pos rfl] at H; exact H
  clear H
  have H := H1
  clear H1
  replace H := Option.bind_eq_some_iff.mp H
  obtain ⟨t284, A60, H⟩ := H
  replace H : (if t284 = true then ((impl_InRange.f a2 0 200).bind fun t285 => (if t285 = true then ((impl_farness.f a0_0 a0_1 a0_2 a0_3 a1_0 a1_1).bind fun bt286 => (some (decide (bt286.1 ≤ (wrap64 ((wrap64 (a2 * a2)) * bt286.2)))))) else (some false))) else (some false)) = some r := H
  have A6 := Aside0.mk A60
  clear A60
  by_cases c7 : t284 = true
  ·
   subst c7
   have H1 : ((impl_InRange.f a2 0 200).bind fun t285 => (if t285 = true then ((impl_farness.f a0_0 a0_1 a0_2 a0_3 a1_0 a1_1).bind fun bt286 => (some (decide (bt286.1 ≤ (wrap64 ((wrap64 (a2 * a2)) * bt286.2)))))) else (some false))) = some r := by rw [if_pos rfl] at H; exact H
   clear H
   have H := H1
   clear H1
   replace H := Option.bind_eq_some_iff.mp H
   obtain ⟨t285, A80, H⟩ := H
   replace H : (if t285 = true then ((impl_farness.f a0_0 a0_1 a0_2 a0_3 a1_0 a1_1).bind fun bt286 => (some (decide (bt286.1 ≤ (wrap64 ((wrap64 (a2 * a2)) * bt286.2)))))) else (some false)) = some r := H
   have A8 := Aside0.mk A80
   clear A80
   by_cases c9 : t285 = true
   ·
    subst c9
    have H1 : ((impl_farness.f a0_0 a0_1 a0_2 a0_3 a1_0 a1_1).bind fun bt286 => (some (decide (bt286.1 ≤ (wrap64 ((wrap64 (a2 * a2)) * bt286.2)))))) = some r := by rw [if_pos rfl] at H; exact H
    clear H
    have H := H1
    clear H1
    replace H := Option.bind_eq_some_iff.mp H
    obtain ⟨⟨t286, t287⟩, A100, H⟩ := H
    replace H : (some (decide (t286 ≤ (wrap64 ((wrap64 (a2 * a2)) * t287))))) = some r := H
    have A10 := Aside0.mk A100
    clear A100
    obtain rfl := Option.some.inj H
    go_enter Try.func36, Try.ntmps36
    go_wp2_with (first | ((with_reducible refine gate_dst (N := 3) rfl ?_); refine Hd.box_ 3 (#[.int .i64 a0_0, .int .i64 a0_1, .int .i64 a0_2, .int .i64 a0_3]) 53 ?_; intro gb281 hg w11 hbox hb; have BK281 := Aside0.mk (hbox); have GW281 := Aside0.mk ((Hd.g_ hg Hd.b_ : w.heap.size ≤ gb281)); have GE281 := Aside0.mk ((Hd.g_ hg Hd.b_ : w.heap.size ≤ gb281)); replace HB := Aside0.mk (below_step Hd.b_ hb); clear hb hbox hg) | ((with_reducible refine gate_dst (N := 4) rfl ?_); refine Hd.box_ 4 (#[.int .i64 a1_0, .int .i64 a1_1]) 27 ?_; intro gb282 hg w12 hbox hb; have BK282 := Aside0.mk (hbox); have GW282 := Aside0.mk ((Hd.g_ hg Hd.b_ : w.heap.size ≤ gb282)); have GE282 := Aside0.mk ((Hd.g_ hg Hd.b_ : w.heap.size ≤ gb282)); replace HB := Aside0.mk (below_step Hd.b_ hb); have NB281_282 := Aside0.mk ((Hd.lt_ BK281 hg)); have NB282_281 := Aside0.mk ((Hd.gt_ BK281 hg)); replace BK281 := Aside0.mk (Hd.kb_ BK281 hb); clear hb hbox hg; have hnb13 := NB281_282.out; have hnc13 := NB282_281.out; obtain ⟨hcz14_0, hcz14_1, hcz14_2, hcz14_3⟩ := Hd.c4_ BK281.out; obtain ⟨hfz14_0, hfz14_1, hfz14_2, hfz14_3⟩ := Hd.f4_ BK281.out) | ((with_reducible refine gate_callee (f := 83) rfl ?_); refine goesL_ (some 10) rfl rfl Try.func83 (by kernel_rfl) rfl #[.agg #[.int .i64 a0_0, .int .i64 a0_1, .int .i64 a0_2, .int .i64 a0_3]] rfl Hd.m_ ?_; (with_reducible refine (impl_IsSegment.calls a0_0 a0_1 a0_2 a0_3 true _ A4.out).mono ?_); rintro e w15 ⟨rfl, hb⟩; refine ⟨_, rfl, ?_⟩; replace BK281 := Aside0.mk (Hd.kb_ BK281 hb); replace BK282 := Aside0.mk (Hd.kb_ BK282 hb); replace HB := Aside0.mk (below_step Hd.b_ hb); (try clear hb); (try clear hb2); (try clear hk); (try clear hi); obtain ⟨hcz16_0, hcz16_1⟩ := Hd.c2_ BK282.out; obtain ⟨hfz16_0, hfz16_1⟩ := Hd.f2_ BK282.out) | (go_at_call 45; (with_reducible refine (impl_IsPoint.calls a1_0 a1_1 true _ A6.out).mono ?_); rintro e w17 ⟨rfl, hb⟩; replace BK281 := Aside0.mk (Hd.kb_ BK281 hb); replace BK282 := Aside0.mk (Hd.kb_ BK282 hb); replace HB := Aside0.mk (below_step Hd.b_ hb); (try clear hb); (try clear hb2); (try clear hk); (try clear hi)) | (go_at_call 65; (with_reducible refine (impl_InRange.calls a2 0 200 true _ A8.out).mono ?_); rintro e w' ⟨rfl, ⟨nd, rfl⟩⟩; obtain ⟨hcz18_0, hcz18_1, hcz18_2, hcz18_3⟩ := Hd.c4_ BK281.out; obtain ⟨hfz18_0, hfz18_1, hfz18_2, hfz18_3⟩ := Hd.f4_ BK281.out; obtain ⟨hcz19_0, hcz19_1⟩ := Hd.c2_ BK282.out; obtain ⟨hfz19_0, hfz19_1⟩ := Hd.f2_ BK282.out) | ((with_reducible refine gate_callee (f := 84) rfl ?_); refine goesL_ (some 25) rfl rfl Try.func84 (by kernel_rfl) rfl #[.agg #[.int .i64 a0_0, .int .i64 a0_1, .int .i64 a0_2, .int .i64 a0_3], .agg #[.int .i64 a1_0, .int .i64 a1_1]] rfl Hd.m_ ?_; (with_reducible refine (impl_farness.calls a0_0 a0_1 a0_2 a0_3 a1_0 a1_1 t286 t287 _ A10.out).mono ?_); rintro e w20 ⟨rfl, hb⟩; refine ⟨_, rfl, ?_⟩; replace BK281 := Aside0.mk (Hd.kb_ BK281 hb); replace BK282 := Aside0.mk (Hd.kb_ BK282 hb); replace HB := Aside0.mk (below_step Hd.b_ hb); (try clear hb); (try clear hb2); (try clear hk); (try clear hi)))
    go_ret
    exact ⟨Hd.e_, Hd.b_⟩
   ·
    replace c9 := Bool.eq_false_iff.mpr c9
    subst c9
    have H1 : (some false) = some r := by rw [if_neg (show ¬ (false = true) by decide)] at H; exact H
    clear H
    have H := H1
    clear H1
    obtain rfl := Option.some.inj H
    go_enter Try.func36, Try.ntmps36
    go_wp2_with (first | ((with_reducible refine gate_dst (N := 3) rfl ?_); refine Hd.box_ 3 (#[.int .i64 a0_0, .int .i64 a0_1, .int .i64 a0_2, .int .i64 a0_3]) 53 ?_; intro gb281 hg w21 hbox hb; have BK281 := Aside0.mk (hbox); have GW281 := Aside0.mk ((Hd.g_ hg Hd.b_ : w.heap.size ≤ gb281)); have GE281 := Aside0.mk ((Hd.g_ hg Hd.b_ : w.heap.size ≤ gb281)); replace HB := Aside0.mk (below_step Hd.b_ hb); clear hb hbox hg) | ((with_reducible refine gate_dst (N := 4) rfl ?_); refine Hd.box_ 4 (#[.int .i64 a1_0, .int .i64 a1_1]) 27 ?_; intro gb282 hg w22 hbox hb; have BK282 := Aside0.mk (hbox); have GW282 := Aside0.mk ((Hd.g_ hg Hd.b_ : w.heap.size ≤ gb282)); have GE282 := Aside0.mk ((Hd.g_ hg Hd.b_ : w.heap.size ≤ gb282)); replace HB := Aside0.mk (below_step Hd.b_ hb); have NB281_282 := Aside0.mk ((Hd.lt_ BK281 hg)); have NB282_281 := Aside0.mk ((Hd.gt_ BK281 hg)); replace BK281 := Aside0.mk (Hd.kb_ BK281 hb); clear hb hbox hg; have hnb23 := NB281_282.out; have hnc23 := NB282_281.out; obtain ⟨hcz24_0, hcz24_1, hcz24_2, hcz24_3⟩ := Hd.c4_ BK281.out; obtain ⟨hfz24_0, hfz24_1, hfz24_2, hfz24_3⟩ := Hd.f4_ BK281.out) | ((with_reducible refine gate_callee (f := 83) rfl ?_); refine goesL_ (some 10) rfl rfl Try.func83 (by kernel_rfl) rfl #[.agg #[.int .i64 a0_0, .int .i64 a0_1, .int .i64 a0_2, .int .i64 a0_3]] rfl Hd.m_ ?_; (with_reducible refine (impl_IsSegment.calls a0_0 a0_1 a0_2 a0_3 true _ A4.out).mono ?_); rintro e w25 ⟨rfl, hb⟩; refine ⟨_, rfl, ?_⟩; replace BK281 := Aside0.mk (Hd.kb_ BK281 hb); replace BK282 := Aside0.mk (Hd.kb_ BK282 hb); replace HB := Aside0.mk (below_step Hd.b_ hb); (try clear hb); (try clear hb2); (try clear hk); (try clear hi); obtain ⟨hcz26_0, hcz26_1⟩ := Hd.c2_ BK282.out; obtain ⟨hfz26_0, hfz26_1⟩ := Hd.f2_ BK282.out) | (go_at_call 45; (with_reducible refine (impl_IsPoint.calls a1_0 a1_1 true _ A6.out).mono ?_); rintro e w27 ⟨rfl, hb⟩; replace BK281 := Aside0.mk (Hd.kb_ BK281 hb); replace BK282 := Aside0.mk (Hd.kb_ BK282 hb); replace HB := Aside0.mk (below_step Hd.b_ hb); (try clear hb); (try clear hb2); (try clear hk); (try clear hi)) | (go_at_call 65; (with_reducible refine (impl_InRange.calls a2 0 200 false _ A8.out).mono ?_); rintro e w' ⟨rfl, ⟨nd, rfl⟩⟩))
    go_ret
    exact ⟨Hd.e_, Hd.b_⟩
  ·
   replace c7 := Bool.eq_false_iff.mpr c7
   subst c7
   have H1 : (some false) = some r := by rw [if_neg (show ¬ (false = true) by decide)] at H; exact H
   clear H
   have H := H1
   clear H1
   obtain rfl := Option.some.inj H
   go_enter Try.func36, Try.ntmps36
   go_wp2_with (first | ((with_reducible refine gate_dst (N := 3) rfl ?_); refine Hd.box_ 3 (#[.int .i64 a0_0, .int .i64 a0_1, .int .i64 a0_2, .int .i64 a0_3]) 53 ?_; intro gb281 hg w28 hbox hb; have BK281 := Aside0.mk (hbox); have GW281 := Aside0.mk ((Hd.g_ hg Hd.b_ : w.heap.size ≤ gb281)); have GE281 := Aside0.mk ((Hd.g_ hg Hd.b_ : w.heap.size ≤ gb281)); replace HB := Aside0.mk (below_step Hd.b_ hb); clear hb hbox hg) | ((with_reducible refine gate_dst (N := 4) rfl ?_); refine Hd.box_ 4 (#[.int .i64 a1_0, .int .i64 a1_1]) 27 ?_; intro gb282 hg w29 hbox hb; have BK282 := Aside0.mk (hbox); have GW282 := Aside0.mk ((Hd.g_ hg Hd.b_ : w.heap.size ≤ gb282)); have GE282 := Aside0.mk ((Hd.g_ hg Hd.b_ : w.heap.size ≤ gb282)); replace HB := Aside0.mk (below_step Hd.b_ hb); have NB281_282 := Aside0.mk ((Hd.lt_ BK281 hg)); have NB282_281 := Aside0.mk ((Hd.gt_ BK281 hg)); replace BK281 := Aside0.mk (Hd.kb_ BK281 hb); clear hb hbox hg; have hnb30 := NB281_282.out; have hnc30 := NB282_281.out; obtain ⟨hcz31_0, hcz31_1, hcz31_2, hcz31_3⟩ := Hd.c4_ BK281.out; obtain ⟨hfz31_0, hfz31_1, hfz31_2, hfz31_3⟩ := Hd.f4_ BK281.out) | ((with_reducible refine gate_callee (f := 83) rfl ?_); refine goesL_ (some 10) rfl rfl Try.func83 (by kernel_rfl) rfl #[.agg #[.int .i64 a0_0, .int .i64 a0_1, .int .i64 a0_2, .int .i64 a0_3]] rfl Hd.m_ ?_; (with_reducible refine (impl_IsSegment.calls a0_0 a0_1 a0_2 a0_3 true _ A4.out).mono ?_); rintro e w32 ⟨rfl, hb⟩; refine ⟨_, rfl, ?_⟩; replace BK281 := Aside0.mk (Hd.kb_ BK281 hb); replace BK282 := Aside0.mk (Hd.kb_ BK282 hb); replace HB := Aside0.mk (below_step Hd.b_ hb); (try clear hb); (try clear hb2); (try clear hk); (try clear hi); obtain ⟨hcz33_0, hcz33_1⟩ := Hd.c2_ BK282.out; obtain ⟨hfz33_0, hfz33_1⟩ := Hd.f2_ BK282.out) | (go_at_call 45; (with_reducible refine (impl_IsPoint.calls a1_0 a1_1 false _ A6.out).mono ?_); rintro e w34 ⟨rfl, hb⟩; replace BK281 := Aside0.mk (Hd.kb_ BK281 hb); replace BK282 := Aside0.mk (Hd.kb_ BK282 hb); replace HB := Aside0.mk (below_step Hd.b_ hb); (try clear hb); (try clear hb2); (try clear hk); (try clear hi)))
   go_ret
   exact ⟨Hd.e_, Hd.b_⟩
 ·
  replace c5 := Bool.eq_false_iff.mpr c5
  subst c5
  have H1 : (some false) = some r := by rw [if_neg (show ¬ (false = true) by decide)] at H; exact H
  clear H
  have H := H1
  clear H1
  obtain rfl := Option.some.inj H
  go_enter Try.func36, Try.ntmps36
  go_wp2_with (first | ((with_reducible refine gate_dst (N := 3) rfl ?_); refine Hd.box_ 3 (#[.int .i64 a0_0, .int .i64 a0_1, .int .i64 a0_2, .int .i64 a0_3]) 53 ?_; intro gb281 hg w35 hbox hb; have BK281 := Aside0.mk (hbox); have GW281 := Aside0.mk ((Hd.g_ hg Hd.b_ : w.heap.size ≤ gb281)); have GE281 := Aside0.mk ((Hd.g_ hg Hd.b_ : w.heap.size ≤ gb281)); replace HB := Aside0.mk (below_step Hd.b_ hb); clear hb hbox hg) | ((with_reducible refine gate_dst (N := 4) rfl ?_); refine Hd.box_ 4 (#[.int .i64 a1_0, .int .i64 a1_1]) 27 ?_; intro gb282 hg w36 hbox hb; have BK282 := Aside0.mk (hbox); have GW282 := Aside0.mk ((Hd.g_ hg Hd.b_ : w.heap.size ≤ gb282)); have GE282 := Aside0.mk ((Hd.g_ hg Hd.b_ : w.heap.size ≤ gb282)); replace HB := Aside0.mk (below_step Hd.b_ hb); have NB281_282 := Aside0.mk ((Hd.lt_ BK281 hg)); have NB282_281 := Aside0.mk ((Hd.gt_ BK281 hg)); replace BK281 := Aside0.mk (Hd.kb_ BK281 hb); clear hb hbox hg; have hnb37 := NB281_282.out; have hnc37 := NB282_281.out; obtain ⟨hcz38_0, hcz38_1, hcz38_2, hcz38_3⟩ := Hd.c4_ BK281.out; obtain ⟨hfz38_0, hfz38_1, hfz38_2, hfz38_3⟩ := Hd.f4_ BK281.out) | ((with_reducible refine gate_callee (f := 83) rfl ?_); refine goesL_ (some 10) rfl rfl Try.func83 (by kernel_rfl) rfl #[.agg #[.int .i64 a0_0, .int .i64 a0_1, .int .i64 a0_2, .int .i64 a0_3]] rfl Hd.m_ ?_; (with_reducible refine (impl_IsSegment.calls a0_0 a0_1 a0_2 a0_3 false _ A4.out).mono ?_); rintro e w39 ⟨rfl, hb⟩; refine ⟨_, rfl, ?_⟩; replace BK281 := Aside0.mk (Hd.kb_ BK281 hb); replace BK282 := Aside0.mk (Hd.kb_ BK282 hb); replace HB := Aside0.mk (below_step Hd.b_ hb); (try clear hb); (try clear hb2); (try clear hk); (try clear hi)))
  go_ret
  exact ⟨Hd.e_, Hd.b_⟩
def impl_SegmentsOf.l0 : Nat → List (S27) → List (S53) → Int → Option ((List (S53)))
 | 0, _, _, _ => none
 | k + 1, x0, x3, x4 => if x4 < (x0.length : Int) then (if 0 ≤ (wrap64 (x4 - 1)) then (if (wrap64 (x4 - 1)) < (x0.length : Int) then (if 0 ≤ x4 then (if x3.length < 4398046511104 then (impl_SegmentsOf.l0 k x0 (x3 ++ [(⟨(⟨(rd_T27 x0 (wrap64 (x4 - 1))).f0, (rd_T27 x0 (wrap64 (x4 - 1))).f1⟩ : S27), (⟨(rd_T27 x0 x4).f0, (rd_T27 x0 x4).f1⟩ : S27)⟩ : S53)]) (wrap64 (x4 + 1))) else (none)) else (none)) else (none)) else (none)) else (some x3)
def impl_SegmentsOf.f (k : Nat) (l0 : List (S27)) : Option ((List (S53))) := (some (([] : List (S53)) : List (S53))).bind fun y288 => ((impl_IsLine.f k l0).bind fun t291 => (if t291 = true then (impl_SegmentsOf.l0 k l0 y288 1) else (some y288)))
def impl_SegmentsOf.T7 : Bool × List (List Nat × List Nat) := (true, [([], []), ([], []), ([], []), ([2], [2]), ([1, 3], [1, 3]), ([4], [4]), ([], []), ([], []), ([6, 7], [6, 7]), ([8], [8]), ([5, 9], [5, 9]), ([10], [10]), ([0, 11], [0, 11]), ([12, 12, 0, 1, 2, 3, 4, 5, 6, 7, 8, 9, 10, 11, 12], [0, 12])])
def impl_SegmentsOf.B7 : List Nat := [0, 0, 0, 4, 14, 30, 0, 0, 192, 448, 1022, 2046, 4095, 8191]
theorem impl_SegmentsOf.tab7 : rtab .any (opsOf Try.f80 7) = impl_SegmentsOf.T7 := by kernel_rfl
theorem impl_SegmentsOf.bits7 : waitsOk impl_SegmentsOf.T7.2 impl_SegmentsOf.B7 = true := by kernel_rfl
set_option maxHeartbeats 8000000 in
set_option maxRecDepth 100000 in
theorem impl_SegmentsOf.calls (k : Nat) (A0 : Option Addr) (c0 : Nat) (l0 : List (S27)) (r : List (S53)) (w : World) (hr0 : Kd.C k27 w A0 l0.length l0) (hc0 : l0.length ≤ c0) (h : impl_SegmentsOf.f k l0 = some r) :
  Calls Try.prog 80 #[.slice A0 l0.length c0] w fun e w' => ∃ v0_ : Value, e = .returned (v0_) ∧ Kd.R k53 53 w' w.heap.size (fun _ => True) v0_ r ∧ Below w.heap.size w w' := by
 have hu27 := Try.underlying27
 have hu53 := Try.underlying53
 have HR0 := Aside0.mk hr0
 have HC0 := Aside0.mk hc0
 clear hr0 hc0
 have HB := Aside0.mk (Below.refl w.heap.size w)
 have H : ((some (([] : List (S53)) : List (S53))).bind fun y288 => ((impl_IsLine.f k l0).bind fun t291 => (if t291 = true then (impl_SegmentsOf.l0 k l0 y288 1) else (some y288)))) = some r := h
 clear h
 obtain ⟨y288, hy288⟩ : ∃ y_ : List (S53), y_ = (([] : List (S53))) := ⟨_, rfl⟩
 replace H : ((impl_IsLine.f k l0).bind fun t291 => (if t291 = true then (impl_SegmentsOf.l0 k l0 y288 1) else (some y288))) = some r := by first | (rw [hy288]; with_reducible exact H) | (have H2_ := (Option.bind_some _ _).symm.trans H; rw [hy288]; with_reducible exact H2_) | (have H2_ := (Option.bind_some _ _).symm.trans H; with_reducible exact H2_) | with_reducible exact H | (rw [hy288]; exact H) | exact H
 have Ny288 := Aside0.mk hy288
 clear hy288
 replace H := Option.bind_eq_some_iff.mp H
 obtain ⟨t291, A20, H⟩ := H
 replace H : (if t291 = true then (impl_SegmentsOf.l0 k l0 y288 1) else (some y288)) = some r := H
 have A2 := Aside0.mk A20
 clear A20
 by_cases c3 : t291 = true
 ·
  subst c3
  have H1 : (impl_SegmentsOf.l0 k l0 y288 1) = some r := by rw [if_pos rfl] at H; exact H
  clear H
  have H := H1
  clear H1
  have H' := Aside0.mk H
  clear H
  go_enter Try.func80, Try.ntmps80
  go_wp2_with (first | ((with_reducible refine gate_dst (N := 5) rfl ?_); refine Kd.R_lit k53 _ 53 ?hg (N := 5) ?hd (xs := ([] : List (S53))) (inner := []) (ok := fun _ => True) (okp := fun _ => True) ?hr ?hp (fun _ hk => hk) trivial (Below.refl _ _) (Nat.le_refl _) (by simp) ?_; (case hd => rfl); (case hg => rfl); (case hr => first | (go_simp; done) | (go_simp; rfl)); (case hp => exact (Reps.none _ _)); intro v289 w4 ho5 hb hg_ hnew_; clear hg_ hnew_; (first | rw [← Ny288.out] at ho5 | (simp only [Int.reduceToNat] at ho5; rw [← Ny288.out] at ho5)); have HO290 := Aside0.mk (Kd.R_lower ho5 (below_size Hd.b_)); replace HB := Aside0.mk (below_step Hd.b_ hb); clear hb ho5) | ((with_reducible refine gate_callee (f := 33) rfl ?_); refine goesL_ (some 7) rfl rfl Try.func33 (by kernel_rfl) rfl #[.slice A0 l0.length c0] rfl Hd.m_ ?_; (with_reducible refine (impl_IsLine.calls k _ _ l0 true _ ?side1 ?side2 A2.out).mono ?_); (case side1 => repeat (first | exact (Kd.C_below HR0.out HB.out) | (with_reducible refine Kd.C_alloc ?_ _) | (with_reducible refine Kd.C_drewN ?_ _) | (with_reducible refine Kd.C_drew ?_))); (case side2 => exact HC0.out); rintro e w6 ⟨rfl, hb⟩; refine ⟨_, rfl, ?_⟩; replace HO290 := Aside0.mk (Kd.R_below (Hd.r_ HO290) hb); replace HB := Aside0.mk (below_step Hd.b_ hb); (try clear hb); (try clear hb2); (try clear hk); (try clear hi)))
  go_loopg [3, 4] k (fun kq v3 v4 w' => ∃ (x3_1 : List (S53)) (x4_1 : Int), v4 = .int .i64 x4_1 ∧ Aside0 (impl_SegmentsOf.l0 kq l0 x3_1 x4_1 = some r) ∧ Aside0 (kq ≤ k) ∧ Aside0 (Kd.R k53 53 w' w.heap.size (fun _ => True) v3 x3_1) ∧ Aside0 (Below w.heap.size w w'))
  case atStart => exact ⟨(y288), (1), (by first | rfl | (simp; done) | (simp [*]; done)), H', ⟨Nat.le_refl _⟩, ⟨by (with_reducible repeat (first | apply Kd.R_alloc | apply Kd.R_drewN | apply Kd.R_drew)); exact HO290.out⟩, ⟨Hd.b_⟩⟩
  case round =>
   clear H'
   try clear p2
   try clear c3
   obtain ⟨x3_1, x4_1, rfl, HA, HK1, HO_3, HB⟩ := hrel
   cases gk with
   | zero => exact absurd HA.out (by simp [impl_SegmentsOf.l0])
   | succ k1 =>
    have H := HA.out
    clear HA
    simp only [impl_SegmentsOf.l0] at H
    by_cases c7 : x4_1 < (l0.length : Int)
    ·
     rw [if_pos c7] at H
     have c7b0 : decide (x4_1 < (l0.length : Int)) = true := decide_eq_true c7
     clear c7
     obtain ⟨ji8, hji8⟩ : ∃ j_ : Int, (wrap64 (x4_1 - 1)) = j_ := ⟨_, rfl⟩
     replace H : (if 0 ≤ (ji8) then (if (ji8) < (l0.length : Int) then (if 0 ≤ x4_1 then (if x3_1.length < 4398046511104 then (impl_SegmentsOf.l0 k1 l0 (x3_1 ++ [(⟨(⟨(rd_T27 l0 (ji8)).f0, (rd_T27 l0 (ji8)).f1⟩ : S27), (⟨(rd_T27 l0 x4_1).f0, (rd_T27 l0 x4_1).f1⟩ : S27)⟩ : S53)]) (wrap64 (x4_1 + 1))) else (none)) else (none)) else (none)) else (none)) = some r := by first | (rw [hji8] at H; exact H) | (simp only [hji8] at H ⊢; exact H)
     have hji8w : (IntKind.i64.wrap (x4_1 - 1)) = ji8 := (i64_w _).trans hji8
     by_cases c9 : 0 ≤ (ji8)
     ·
      rw [if_pos c9] at H
      have c9b0 : decide (0 ≤ (ji8)) = true := decide_eq_true c9
      clear c9
      by_cases c10 : (ji8) < (l0.length : Int)
      ·
       rw [if_pos c10] at H
       have c10b0 : decide ((ji8) < (l0.length : Int)) = true := decide_eq_true c10
       clear c10
       by_cases c11 : 0 ≤ x4_1
       ·
        rw [if_pos c11] at H
        have c11b0 : decide (0 ≤ x4_1) = true := decide_eq_true c11
        clear c11
        by_cases c12 : x3_1.length < 4398046511104
        ·
         rw [if_pos c12] at H
         have LMc12 := Aside0.mk c12
         clear c12
         obtain ⟨y294, hy294⟩ : ∃ y_ : List (S53), y_ = (x3_1 ++ [(⟨(⟨(rd_T27 l0 (ji8)).f0, (rd_T27 l0 (ji8)).f1⟩ : S27), (⟨(rd_T27 l0 x4_1).f0, (rd_T27 l0 x4_1).f1⟩ : S27)⟩ : S53)]) := ⟨_, rfl⟩
         replace H : (impl_SegmentsOf.l0 k1 l0 y294 (wrap64 (x4_1 + 1))) = some r := by first | (rw [hy294]; with_reducible exact H) | (have H2_ := (Option.bind_some _ _).symm.trans H; rw [hy294]; with_reducible exact H2_) | (have H2_ := (Option.bind_some _ _).symm.trans H; with_reducible exact H2_) | with_reducible exact H | (rw [hy294]; exact H) | exact H
         have Ny294 := Aside0.mk hy294
         clear hy294
         have H' := Aside0.mk H
         clear H
         try go_wp2
         replace HO_3 := Aside0.mk (Kd.R_drew HO_3.out)
         replace HB := Aside0.mk (below_drew1 HB.out)
         have p292 : 0 ≤ ((ji8) : Int) := of_decide_eq_true Hd.a_
         have q292 : (ji8) < (l0.length : Int) := of_decide_eq_true Hd.a_
         obtain ⟨ad292, e292, hx292_0, hx292_1⟩ := at_T27 HR0.out (ji8) p292 q292
         have hw292_1 := hx292_1
         have hw292_0 := hx292_0
         cases e292
         replace hx292_0 := (HB.out.cell (World.block_lt_of_cell? w _ hx292_0)).trans hx292_0
         replace hx292_1 := (HB.out.cell (World.block_lt_of_cell? w _ hx292_1)).trans hx292_1
         replace p292 := eq_true p292
         replace q292 := eq_true q292
         have p293 : 0 ≤ (x4_1 : Int) := of_decide_eq_true Hd.a_
         have q293 : x4_1 < (l0.length : Int) := of_decide_eq_true Hd.a_
         obtain ⟨ad293, e293, hx293_0, hx293_1⟩ := at_T27 HR0.out x4_1 p293 q293
         have hw293_1 := hx293_1
         have hw293_0 := hx293_0
         obtain rfl : ad292 = ad293 := (by injection e293)
         replace hx293_0 := (HB.out.cell (World.block_lt_of_cell? w _ hx293_0)).trans hx293_0
         replace hx293_1 := (HB.out.cell (World.block_lt_of_cell? w _ hx293_1)).trans hx293_1
         replace p293 := eq_true p293
         replace q293 := eq_true q293
         refine start_ (n := 14) (S := fun w' => w'.cell? (ad292.add (((ji8)).toNat * 2)) = some (.int .i64 ((rd_T27 l0 (ji8)).f0)) ∧ w'.cell? ⟨(ad292.add (((ji8)).toNat * 2)).block, (ad292.add (((ji8)).toNat * 2)).off + 1, none⟩ = some (.int .i64 ((rd_T27 l0 (ji8)).f1)) ∧ w'.cell? (ad292.add ((x4_1).toNat * 2)) = some (.int .i64 ((rd_T27 l0 x4_1).f0)) ∧ w'.cell? ⟨(ad292.add ((x4_1).toNat * 2)).block, (ad292.add ((x4_1).toNat * 2)).off + 1, none⟩ = some (.int .i64 ((rd_T27 l0 x4_1).f1))) (ds := []) #[false, false, false, false, false, false, false, false, false, false, false, false, false, false] (by kernel_rfl) rfl rfl ⟨((HB.out.cell (World.block_lt_of_cell? w _ hw292_0)).trans hw292_0), ((HB.out.cell (World.block_lt_of_cell? w _ hw292_1)).trans hw292_1), ((HB.out.cell (World.block_lt_of_cell? w _ hw293_0)).trans hw293_0), ((HB.out.cell (World.block_lt_of_cell? w _ hw293_1)).trans hw293_1)⟩ (fun hHeld => ?_); refine with_tabW impl_SegmentsOf.tab7 impl_SegmentsOf.bits7 (fun HT_ HW_ => ?_)
         generalize wr.drew = w13 at HO_3 HB hx292_0 hx292_1 hx293_0 hx293_1 hHeld ⊢
         refine Hd.p_ HT_ 0 (some 16) #[true, false, false, false, false, false, false, false, false, false, false, false, false, false] ?_
         refine Hd.p_ HT_ 1 (some 17) #[true, true, false, false, false, false, false, false, false, false, false, false, false, false] ?_
         refine Hd.p_ HT_ 2 (some 18) #[true, true, true, false, false, false, false, false, false, false, false, false, false, false] ?_
         refine Hd.p_ HT_ 3 (some 19) #[true, true, true, true, false, false, false, false, false, false, false, false, false, false] ?_
         refine Hd.p_ HT_ 4 (some 20) #[true, true, true, true, true, false, false, false, false, false, false, false, false, false] ?_
         refine Hd.p_ HT_ 6 (some 22) #[true, true, true, true, true, false, true, false, false, false, false, false, false, false] ?_
         refine Hd.p_ HT_ 7 (some 23) #[true, true, true, true, true, false, true, true, false, false, false, false, false, false] ?_
         refine Hd.p_ HT_ 8 (some 24) #[true, true, true, true, true, false, true, true, true, false, false, false, false, false] ?_
         refine Hd.t_ HT_ HW_ hHeld 5 (some 21) #[true, true, true, true, true, true, true, true, true, false, false, false, false, false] ?_
         refine Hd.t_ HT_ HW_ hHeld 9 (some 25) #[true, true, true, true, true, true, true, true, true, true, false, false, false, false] ?_
         refine Hd.p_ HT_ 10 (some 26) #[true, true, true, true, true, true, true, true, true, true, true, false, false, false] ?_
         refine Hd.o_ HT_ 11 (some 27) #[true, true, true, true, true, true, true, true, true, true, true, true, false, false] (fun K hK => ?_)
         refine value_ (w1 := ?_) (v := ?_) (by rfl) rfl ?_ ?_
         rotate_left 2
         ·
          go_simp
          constructor
          ·
           rfl
          ·
           rfl
         refine hK.out _ _ ⟨(World.cell?_alloc_lt _ _ _ (World.block_lt_of_cell? _ _ (((HB.out.cell (World.block_lt_of_cell? w _ hw292_0)).trans hw292_0)))).trans (((HB.out.cell (World.block_lt_of_cell? w _ hw292_0)).trans hw292_0)), (World.cell?_alloc_lt _ _ _ (World.block_lt_of_cell? _ _ (((HB.out.cell (World.block_lt_of_cell? w _ hw292_1)).trans hw292_1)))).trans (((HB.out.cell (World.block_lt_of_cell? w _ hw292_1)).trans hw292_1)), (World.cell?_alloc_lt _ _ _ (World.block_lt_of_cell? _ _ (((HB.out.cell (World.block_lt_of_cell? w _ hw293_0)).trans hw293_0)))).trans (((HB.out.cell (World.block_lt_of_cell? w _ hw293_0)).trans hw293_0)), (World.cell?_alloc_lt _ _ _ (World.block_lt_of_cell? _ _ (((HB.out.cell (World.block_lt_of_cell? w _ hw293_1)).trans hw293_1)))).trans (((HB.out.cell (World.block_lt_of_cell? w _ hw293_1)).trans hw293_1))⟩ (fun hHeld => ?_)
         clear hK K
         refine Hd.n_ (some 27) ?_
         refine Hd.o_ HT_ 12 (some 28) #[true, true, true, true, true, true, true, true, true, true, true, true, true, false] (fun K hK => ?_)
         refine Kd.R_append_step k53 (w0 := w) w.heap.size (by rfl) (.tmp 16) (.tmp 27) 63 53 (.agg #[(.int .i64 0), (.int .i64 0), (.int .i64 0), (.int .i64 0)]) 32 rfl Try.underlying63 info53 rfl (by decide) (by omega) u3 x3_1 (⟨(⟨(rd_T27 l0 (ji8)).f0, (rd_T27 l0 (ji8)).f1⟩ : S27), (⟨(rd_T27 l0 x4_1).f0, (rd_T27 l0 x4_1).f1⟩ : S27)⟩ : S53) [.int .i64 ((rd_T27 l0 (ji8)).f0), .int .i64 ((rd_T27 l0 (ji8)).f1), .int .i64 ((rd_T27 l0 x4_1).f0), .int .i64 ((rd_T27 l0 x4_1).f1)] (fun _ => True) (fun _ => False) rfl rfl ?aP (fun _ hk => hk.elim) ?aF ?aO ?aB ?aS ?aL ?_
         (case aP => exact k53_mkM _ _ _ (⟨(⟨(rd_T27 l0 (ji8)).f0, (rd_T27 l0 (ji8)).f1⟩ : S27), (⟨(rd_T27 l0 x4_1).f0, (rd_T27 l0 x4_1).f1⟩ : S27)⟩ : S53))
         (case aB => exact Hd.b_)
         (case aF => exact (fun _ _ => trivial))
         (case aO => exact (Hd.r_ HO_3))
         (case aS => exact (below_size Hd.b_))
         (case aL => have := LMc12.out; omega)
         intro v295 w14 ho hb hg hat
         rw [← Ny294.out] at ho
         have n0_ := Aside0.mk (hb)
         have n1_ := Aside0.mk (ho)
         clear HB
         clear HO_3
         have HB := n0_
         have HO296 := n1_
         clear n0_ n1_
         clear ho hb hg hat
         refine hK.out _ _ ⟨((HB.out.cell (World.block_lt_of_cell? w _ hw292_0)).trans hw292_0), ((HB.out.cell (World.block_lt_of_cell? w _ hw292_1)).trans hw292_1), ((HB.out.cell (World.block_lt_of_cell? w _ hw293_0)).trans hw293_0), ((HB.out.cell (World.block_lt_of_cell? w _ hw293_1)).trans hw293_1)⟩ (fun hHeld => ?_)
         clear hK K
         refine Hd.n_ (some 28) ?_
         refine Hd.p_ HT_ 13 (some 3) #[true, true, true, true, true, true, true, true, true, true, true, true, true, true] ?_
         refine done_ (done_of HT_.out (by kernel_rfl)) ?_
         try go_wp2
         go_roundg k1
         case measure => have := HK1.out; omega
         case rel => exact ⟨(y294), (wrap64 (x4_1 + 1)), (by first | rfl | (simp; done) | (simp [*]; done)), H', ⟨by have := HK1.out; omega⟩, ⟨by (with_reducible repeat (first | apply Kd.R_alloc | apply Kd.R_drewN | apply Kd.R_drew)); exact HO296.out⟩, ⟨Hd.b_⟩⟩
        ·
         rw [if_neg c12] at H
         exact absurd H (by simp)
       ·
        rw [if_neg c11] at H
        exact absurd H (by simp)
      ·
       rw [if_neg c10] at H
       exact absurd H (by simp)
     ·
      rw [if_neg c9] at H
      exact absurd H (by simp)
    ·
     rw [if_neg c7] at H
     have c7b0 : decide (x4_1 < (l0.length : Int)) = false := decide_eq_false c7
     clear c7
     obtain rfl := Option.some.inj H
     go_wp2
     go_ret
     exact ⟨_, Hd.e_, by (with_reducible repeat (first | apply Kd.R_alloc | apply Kd.R_drewN | apply Kd.R_drew)); exact HO_3.out, Hd.b_⟩
 ·
  replace c3 := Bool.eq_false_iff.mpr c3
  subst c3
  have H1 : (some y288) = some r := by rw [if_neg (show ¬ (false = true) by decide)] at H; exact H
  clear H
  have H := H1
  clear H1
  obtain rfl := Option.some.inj H
  go_enter Try.func80, Try.ntmps80
  go_wp2_with (first | ((with_reducible refine gate_dst (N := 5) rfl ?_); refine Kd.R_lit k53 _ 53 ?hg (N := 5) ?hd (xs := ([] : List (S53))) (inner := []) (ok := fun _ => True) (okp := fun _ => True) ?hr ?hp (fun _ hk => hk) trivial (Below.refl _ _) (Nat.le_refl _) (by simp) ?_; (case hd => rfl); (case hg => rfl); (case hr => first | (go_simp; done) | (go_simp; rfl)); (case hp => exact (Reps.none _ _)); intro v289 w15 ho16 hb hg_ hnew_; clear hg_ hnew_; (first | rw [← Ny288.out] at ho16 | (simp only [Int.reduceToNat] at ho16; rw [← Ny288.out] at ho16)); have HO290 := Aside0.mk (Kd.R_lower ho16 (below_size Hd.b_)); replace HB := Aside0.mk (below_step Hd.b_ hb); clear hb ho16) | ((with_reducible refine gate_callee (f := 33) rfl ?_); refine goesL_ (some 7) rfl rfl Try.func33 (by kernel_rfl) rfl #[.slice A0 l0.length c0] rfl Hd.m_ ?_; (with_reducible refine (impl_IsLine.calls k _ _ l0 false _ ?side1 ?side2 A2.out).mono ?_); (case side1 => repeat (first | exact (Kd.C_below HR0.out HB.out) | (with_reducible refine Kd.C_alloc ?_ _) | (with_reducible refine Kd.C_drewN ?_ _) | (with_reducible refine Kd.C_drew ?_))); (case side2 => exact HC0.out); rintro e w17 ⟨rfl, hb⟩; refine ⟨_, rfl, ?_⟩; replace HO290 := Aside0.mk (Kd.R_below (Hd.r_ HO290) hb); replace HB := Aside0.mk (below_step Hd.b_ hb); (try clear hb); (try clear hb2); (try clear hk); (try clear hi)))
  go_ret
  exact ⟨_, Hd.e_, by (with_reducible repeat (first | apply Kd.R_alloc | apply Kd.R_drewN | apply Kd.R_drew)); exact HO290.out, Hd.b_⟩
end Go.Proofs.Ytbackoeakepngaa.MFnSimplified
