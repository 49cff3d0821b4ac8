-- Laid by this session's program pp.py, after the kit's print and texts of the session's own. Not trusted: Lean checks it.
import Derived.Test.YtbackoeakepngaaZFnSafeMx0
import Derived.Test.YtbackoeakepngaaZFnSafeMx1
import Derived.Test.YtbackoeakepngaaZFnSafeMx2
import Derived.Test.YtbackoeakepngaaZFnSafeMx3
namespace Go.Proofs.Ytbackoeakepngaa.MFnSafe
open Go.RowKit Go.Proofs.YtbackoeakepngaaW.PrintWords Go.Proofs.YtbackoeakepngaaW.PrintLast Go.Proofs.YtbackoeakepngaaW.PrintMore
attribute [local go_sem] max2_int min2_int max_two min_two max_three min_three max_four min_four   -- for this text's walks alone
set_option linter.unusedVariables false
set_option linter.unusedSimpArgs false
attribute [local go_sem high] eqA27
def spec_l6Any.l0 : Nat → List (S27) → List Int → Int → Int → Option ((List (S27)) × Int × Int)
 | 0, _, _, _, _ => none
 | k + 1, x3, x1000, x1001, x1002 => if (x3.length : Int) < 11 then (if x3.length < 8796093022208 then (spec_l6Any.l0 k (x3 ++ [(⟨(x3.length : Int), wrap64 (50 + (x3.length : Int))⟩ : S27)]) x1000 x1001 x1002) else (none)) else (some (x3, x1001, x1002))
def spec_l6Any.f (k : Nat) (s0_0 : List Int) (s0_1 : Int) (s0_2 : Int) : Option ((List (S27)) × Int × Int) := (spec_l6Draw.f k s0_0 s0_1 s0_2).bind fun bt178 => ((spec_l1Below.f s0_0 bt178.2.1 bt178.2.2 12).bind fun bt183 => (if bt183.1 = 0 then ((spec_l4Any.f s0_0 bt183.2.1 bt183.2.2).bind fun bt186 => (if 0 < (bt178.1.length : Int) then (some ((bt178.1.set (0 : Int).toNat (⟨bt186.1, bt186.2.1⟩ : S27)), bt186.2.2.1, bt186.2.2.2)) else (none))) else (if bt183.1 = 1 then (if 0 ≤ (wrap64 ((bt178.1.length : Int) - 1)) then (if (wrap64 ((bt178.1.length : Int) - 1)) < (bt178.1.length : Int) then (if bt178.1.length < 8796093022208 then (some ((bt178.1 ++ [(⟨(rd_T27 bt178.1 (wrap64 ((bt178.1.length : Int) - 1))).f0, (rd_T27 bt178.1 (wrap64 ((bt178.1.length : Int) - 1))).f1⟩ : S27)]), bt183.2.1, bt183.2.2)) else (none)) else (none)) else (none)) else (if bt183.1 = 2 then (if 1 ≤ (bt178.1.length : Int) then (some ((bt178.1.take (1 : Int).toNat), bt183.2.1, bt183.2.2)) else (none)) else (if bt183.1 = 3 then (spec_l6Any.l0 k bt178.1 s0_0 bt183.2.1 bt183.2.2) else (some (bt178.1, bt183.2.1, bt183.2.2)))))))
set_option maxHeartbeats 8000000 in
set_option maxRecDepth 100000 in
theorem spec_l6Any.calls (k : Nat) (g : Nat) (s0_0 : List Int) (s0_1 : Int) (s0_2 : Int) (r1 : List (S27)) (r2 : Int) (r3 : Int) (w0 w : World) (hI : IsS109 w0 w g s0_0 s0_1 s0_2) (hB : Below w0.heap.size w0 w) (h : spec_l6Any.f k s0_0 s0_1 s0_2 = some (r1, r2, r3)) :
  Calls Try.prog 78 #[.pointer (some ⟨g, 0, none⟩)] w fun e w' => ∃ v0_ : Value, e = .returned (v0_) ∧ Kd.R k27 27 w' w.heap.size (fun _ => True) v0_ r1 ∧ IsS109 w0 w' g s0_0 r2 r3 ∧ Below w0.heap.size w0 w' ∧ KeepBut w w' g none := by
 have hu27 := Try.underlying27
 have HI0 := Aside0.mk hI
 have HK := Aside0.mk (KeepBut.refl w g none)
 have HL := Aside0.mk hB.size
 clear hI
 have HW0 := Aside0.mk hB.size
 have HB := Aside0.mk hB
 clear hB
 have H : ((spec_l6Draw.f k s0_0 s0_1 s0_2).bind fun bt178 => ((spec_l1Below.f s0_0 bt178.2.1 bt178.2.2 12).bind fun bt183 => (if bt183.1 = 0 then ((spec_l4Any.f s0_0 bt183.2.1 bt183.2.2).bind fun bt186 => (if 0 < (bt178.1.length : Int) then (some ((bt178.1.set (0 : Int).toNat (⟨bt186.1, bt186.2.1⟩ : S27)), bt186.2.2.1, bt186.2.2.2)) else (none))) else (if bt183.1 = 1 then (if 0 ≤ (wrap64 ((bt178.1.length : Int) - 1)) then (if (wrap64 ((bt178.1.length : Int) - 1)) < (bt178.1.length : Int) then (if bt178.1.length < 8796093022208 then (some ((bt178.1 ++ [(⟨(rd_T27 bt178.1 (wrap64 ((bt178.1.length : Int) - 1))).f0, (rd_T27 bt178.1 (wrap64 ((bt178.1.length : Int) - 1))).f1⟩ : S27)]), bt183.2.1, bt183.2.2)) else (none)) else (none)) else (none)) else (if bt183.1 = 2 then (if 1 ≤ (bt178.1.length : Int) then (some ((bt178.1.take (1 : Int).toNat), bt183.2.1, bt183.2.2)) else (none)) else (if bt183.1 = 3 then (spec_l6Any.l0 k bt178.1 s0_0 bt183.2.1 bt183.2.2) else (some (bt178.1, bt183.2.1, bt183.2.2)))))))) = some (r1, r2, r3) := h
 clear h
 replace H := Option.bind_eq_some_iff.mp H
 obtain ⟨⟨t178, t181, t182⟩, A20, H⟩ := H
 replace H : ((spec_l1Below.f s0_0 t181 t182 12).bind fun bt183 => (if bt183.1 = 0 then ((spec_l4Any.f s0_0 bt183.2.1 bt183.2.2).bind fun bt186 => (if 0 < (t178.length : Int) then (some ((t178.set (0 : Int).toNat (⟨bt186.1, bt186.2.1⟩ : S27)), bt186.2.2.1, bt186.2.2.2)) else (none))) else (if bt183.1 = 1 then (if 0 ≤ (wrap64 ((t178.length : Int) - 1)) then (if (wrap64 ((t178.length : Int) - 1)) < (t178.length : Int) then (if t178.length < 8796093022208 then (some ((t178 ++ [(⟨(rd_T27 t178 (wrap64 ((t178.length : Int) - 1))).f0, (rd_T27 t178 (wrap64 ((t178.length : Int) - 1))).f1⟩ : S27)]), bt183.2.1, bt183.2.2)) else (none)) else (none)) else (none)) else (if bt183.1 = 2 then (if 1 ≤ (t178.length : Int) then (some ((t178.take (1 : Int).toNat), bt183.2.1, bt183.2.2)) else (none)) else (if bt183.1 = 3 then (spec_l6Any.l0 k t178 s0_0 bt183.2.1 bt183.2.2) else (some (t178, bt183.2.1, bt183.2.2))))))) = some (r1, r2, r3) := H
 have A2 := Aside0.mk A20
 clear A20
 replace H := Option.bind_eq_some_iff.mp H
 obtain ⟨⟨t183, t184, t185⟩, A30, H⟩ := H
 replace H : (if t183 = 0 then ((spec_l4Any.f s0_0 t184 t185).bind fun bt186 => (if 0 < (t178.length : Int) then (some ((t178.set (0 : Int).toNat (⟨bt186.1, bt186.2.1⟩ : S27)), bt186.2.2.1, bt186.2.2.2)) else (none))) else (if t183 = 1 then (if 0 ≤ (wrap64 ((t178.length : Int) - 1)) then (if (wrap64 ((t178.length : Int) - 1)) < (t178.length : Int) then (if t178.length < 8796093022208 then (some ((t178 ++ [(⟨(rd_T27 t178 (wrap64 ((t178.length : Int) - 1))).f0, (rd_T27 t178 (wrap64 ((t178.length : Int) - 1))).f1⟩ : S27)]), t184, t185)) else (none)) else (none)) else (none)) else (if t183 = 2 then (if 1 ≤ (t178.length : Int) then (some ((t178.take (1 : Int).toNat), t184, t185)) else (none)) else (if t183 = 3 then (spec_l6Any.l0 k t178 s0_0 t184 t185) else (some (t178, t184, t185)))))) = some (r1, r2, r3) := H
 have A3 := Aside0.mk A30
 clear A30
 by_cases c4 : t183 = 0
 ·
  rw [if_pos c4] at H
  have c4b0 : (t183 == 0) = true := beq_iff_eq.mpr c4
  have c4b1 : (t183 != 0) = false := bne_eq_false_iff_eq.mpr c4
  clear c4
  replace H := Option.bind_eq_some_iff.mp H
  obtain ⟨⟨t186, t187, t188, t189⟩, A50, H⟩ := H
  replace H : (if 0 < (t178.length : Int) then (some ((t178.set (0 : Int).toNat (⟨t186, t187⟩ : S27)), t188, t189)) else (none)) = some (r1, r2, r3) := H
  have A5 := Aside0.mk A50
  clear A50
  by_cases c6 : 0 < (t178.length : Int)
  ·
   rw [if_pos c6] at H
   have c6b0 : decide (0 < (t178.length : Int)) = true := decide_eq_true c6
   have c6b1 : decide (0 < t178.length) = true := decide_eq_true (by omega)
   clear c6
   obtain ⟨y190, hy190⟩ : ∃ y_ : List (S27), y_ = (t178.set (0 : Int).toNat (⟨t186, t187⟩ : S27)) := ⟨_, rfl⟩
   replace H : (some (y190, t188, t189)) = some (r1, r2, r3) := by first | (rw [hy190]; with_reducible exact H) | (have H2_ := (Option.bind_some _ _).symm.trans H; rw [hy190]; with_reducible exact H2_) | (have H2_ := (Option.bind_some _ _).symm.trans H; with_reducible exact H2_) | with_reducible exact H | (rw [hy190]; exact H) | exact H
   have Ny190 := Aside0.mk hy190
   clear hy190
   simp only [Option.some.injEq, Prod.mk.injEq] at H
   obtain ⟨rfl, rfl, rfl⟩ := H
   go_enter Try.func78, Try.ntmps78
   go_wp2_with (first | ((with_reducible refine gate_callee (f := 104) rfl ?_); refine goesL_ (some 5) rfl rfl Try.func104 (by kernel_rfl) rfl #[.pointer (some ⟨g, 0, none⟩)] rfl Hd.m_ ?_; (with_reducible refine (spec_l6Draw.calls k g s0_0 s0_1 s0_2 t178 t181 t182 w0 _ ?side1 ?side2 A2.out).mono ?_); (case side1 => repeat (first | (with_reducible first | exact HI0.out | apply IsS109.alloc | apply IsS109.drewN | apply IsS109.drew | apply IsS109.set_1 | apply IsS109.set_2) | exact HI0.out)); (case side2 => repeat (first | (with_reducible first | exact HB.out | apply below_alloc | apply pw_below_drewN | apply below_drew1 | refine below_set ?_ (IsS109.ge HI0.out)) | exact HB.out)); rintro e w8 ⟨v179, rfl, ho0, hi, hb, hk⟩; refine ⟨_, rfl, ?_⟩; have HO180 := Aside0.mk (Kd.R_lower ho0 (keep_size (w := w) (g := g) (row := none) (by repeat (first | (with_reducible first | exact HK.out | apply KeepBut.set_ | apply keep_drewN | apply keep_drew | apply keep_alloc) | exact HK.out)))); replace HK := Aside0.mk (KeepBut.trans (by repeat (first | (with_reducible first | exact HK.out | apply KeepBut.set_ | apply keep_drewN | apply keep_drew | apply keep_alloc) | exact HK.out)) hk (.inl rfl)); replace HB := Aside0.mk (hb); replace HI0 := Aside0.mk (hi); (try clear hb); (try clear hb2); (try clear hk); (try clear hi); (try clear ho0)) | ((with_reducible refine gate_callee (f := 89) rfl ?_); refine goesL_ (some 7) rfl rfl Try.func89 (by kernel_rfl) rfl #[.pointer (some ⟨g, 0, none⟩), .int .i64 12] rfl Hd.m_ ?_; (with_reducible refine (spec_l1Below.calls g s0_0 t181 t182 12 t183 t184 t185 w0 _ ?side1 ?side2 A3.out).mono ?_); (case side1 => repeat (first | (with_reducible first | exact HI0.out | apply IsS109.alloc | apply IsS109.drewN | apply IsS109.drew | apply IsS109.set_1 | apply IsS109.set_2) | exact HI0.out)); (case side2 => repeat (first | (with_reducible first | exact HB.out | apply below_alloc | apply pw_below_drewN | apply below_drew1 | refine below_set ?_ (IsS109.ge HI0.out)) | exact HB.out)); rintro e w9 ⟨rfl, hi, hb, hk⟩; refine ⟨_, rfl, ?_⟩; replace HO180 := Aside0.mk (Kd.R_mono (Kd.R_keep (IsS109.apart (show IsS109 w0 _ g s0_0 t181 t182 from by repeat (first | (with_reducible first | exact HI0.out | apply IsS109.alloc | apply IsS109.drewN | apply IsS109.drew | apply IsS109.set_1 | apply IsS109.set_2) | exact HI0.out)) (Hd.r_ HO180) (by decide)) hk (fun _ h => h.2)) (fun _ h => h.1)); replace HK := Aside0.mk (KeepBut.trans (by repeat (first | (with_reducible first | exact HK.out | apply KeepBut.set_ | apply keep_drewN | apply keep_drew | apply keep_alloc) | exact HK.out)) hk (.inl rfl)); replace HB := Aside0.mk (hb); replace HI0 := Aside0.mk (hi); (try clear hb); (try clear hb2); (try clear hk); (try clear hi)) | ((with_reducible refine gate_callee (f := 82) rfl ?_); refine goesL_ (some 12) rfl rfl Try.func82 (by kernel_rfl) rfl #[.pointer (some ⟨g, 0, none⟩)] rfl Hd.m_ ?_; (with_reducible refine (spec_l4Any.calls g s0_0 t184 t185 t186 t187 t188 t189 w0 _ ?side1 ?side2 A5.out).mono ?_); (case side1 => repeat (first | (with_reducible first | exact HI0.out | apply IsS109.alloc | apply IsS109.drewN | apply IsS109.drew | apply IsS109.set_1 | apply IsS109.set_2) | exact HI0.out)); (case side2 => repeat (first | (with_reducible first | exact HB.out | apply below_alloc | apply pw_below_drewN | apply below_drew1 | refine below_set ?_ (IsS109.ge HI0.out)) | exact HB.out)); rintro e w10 ⟨rfl, hi, hb, hk⟩; refine ⟨_, rfl, ?_⟩; replace HO180 := Aside0.mk (Kd.R_mono (Kd.R_keep (IsS109.apart (show IsS109 w0 _ g s0_0 t184 t185 from by repeat (first | (with_reducible first | exact HI0.out | apply IsS109.alloc | apply IsS109.drewN | apply IsS109.drew | apply IsS109.set_1 | apply IsS109.set_2) | exact HI0.out)) (Hd.r_ HO180) (by decide)) hk (fun _ h => h.2)) (fun _ h => h.1)); replace HK := Aside0.mk (KeepBut.trans (by repeat (first | (with_reducible first | exact HK.out | apply KeepBut.set_ | apply keep_drewN | apply keep_drew | apply keep_alloc) | exact HK.out)) hk (.inl rfl)); replace HB := Aside0.mk (hb); replace HI0 := Aside0.mk (hi); (try clear hb); (try clear hb2); (try clear hk); (try clear hi); have p7 : 0 ≤ (0 : Int) := (by omega); have q7 : (0 : Int) < ((t178.length : Int) : Int) := of_decide_eq_true Hd.a_; have qi7 : (0 < t178.length) = True := eq_true (by omega); obtain ⟨go7, co7, eo7, gb7, gl7, cl7, HG7⟩ := Kd.R_form HO180.out (by omega); (first | cases eo7 | (injection eo7 with ea_ en_ ec_; (first | subst ea_ | (injection ea_ with ea_; subst ea_)); subst ec_; clear en_)); have GB7 := Aside0.mk gb7; have GG7 := Aside0.mk HG7; clear gb7 gl7 HG7; obtain ⟨ce7, hcl7, hM7, hcc7, hfr7⟩ := Kd.R_elem HO180.out z27 (0 : Int) p7 q7; obtain rfl := k27_openM hM7; have hx7_0 : w10.cell? ⟨go7, (0 : Int).toNat * 2, none⟩ = some (.int .i64 ((rd_T27 t178 0).f0)) := hcc7 0 _ rfl; have hx7_1 : w10.cell? ⟨go7, (0 : Int).toNat * 2 + 1, none⟩ = some (.int .i64 ((rd_T27 t178 0).f1)) := hcc7 1 _ rfl; have hf7_0 : w10.frozen? ⟨go7, (0 : Int).toNat * 2, none⟩ = false := hfr7 0; have hf7_1 : w10.frozen? ⟨go7, (0 : Int).toNat * 2 + 1, none⟩ = false := hfr7 1; clear hcl7 hcc7 hfr7 hM7; (try rw [show ((0 : Int)).toNat = 0 from rfl] at hx7_0); (try simp only [Nat.reduceMul, Nat.zero_mul, Nat.zero_add, Nat.reduceAdd] at hx7_0); (try rw [show ((0 : Int)).toNat = 0 from rfl] at hf7_0); (try simp only [Nat.reduceMul, Nat.zero_mul, Nat.zero_add, Nat.reduceAdd] at hf7_0); (try rw [show ((0 : Int)).toNat = 0 from rfl] at hx7_1); (try simp only [Nat.reduceMul, Nat.zero_mul, Nat.zero_add, Nat.reduceAdd] at hx7_1); (try rw [show ((0 : Int)).toNat = 0 from rfl] at hf7_1); (try simp only [Nat.reduceMul, Nat.zero_mul, Nat.zero_add, Nat.reduceAdd] at hf7_1); replace p7 := eq_true p7; replace q7 := eq_true q7; have HX11 := Aside0.mk (show Kd.R k27 27 w10 w.heap.size (fun _ => True) (.slice (some ⟨go7, 0, none⟩) t178.length co7) t178 from (Hd.r_ HO180)); obtain ⟨ce11, hcl11, hM11, hcc11, hfr11⟩ := Kd.R_elem HX11.out z27 (0 : Int) (by omega) (by have h_ : (0 : Int) < ((t178.length : Int) : Int) := of_decide_eq_true Hd.a_; first | exact h_ | (have e_ := (Kd.R_reads' HO180.out).1; omega) | simpa using h_); obtain rfl := k27_openM hM11; have HP11 := Kd.R_seg HX11.out (0 : Int) (by omega) (by have h_ : (0 : Int) < ((t178.length : Int) : Int) := of_decide_eq_true Hd.a_; first | exact h_ | (have e_ := (Kd.R_reads' HO180.out).1; omega) | simpa using h_) (seg := [.int .i64 t186, .int .i64 t187]) (j := 0) hcl11 hcc11 (show 2 ≤ 2 from by decide) (x' := (⟨t186, t187⟩ : S27)) (k27_mkM _ _ _ (⟨t186, t187⟩ : S27) ) (fun _ hk => hk); have hx11_0 := hcc11 0 _ rfl; (try simp only [show (k27).sz = 2 from rfl, Nat.mul_one, Nat.add_zero] at hx11_0); (try rw [show ((0 : Int)).toNat = 0 from rfl] at hx11_0); (try simp only [Nat.reduceMul, Nat.zero_mul, Nat.zero_add, Nat.reduceAdd] at hx11_0); have hf11_0 := hfr11 0; (try simp only [show (k27).sz = 2 from rfl, Nat.mul_one, Nat.add_zero] at hf11_0); (try rw [show ((0 : Int)).toNat = 0 from rfl] at hf11_0); (try simp only [Nat.reduceMul, Nat.zero_mul, Nat.zero_add, Nat.reduceAdd] at hf11_0); have hx11_1 := hcc11 1 _ rfl; (try simp only [show (k27).sz = 2 from rfl, Nat.mul_one, Nat.add_zero] at hx11_1); (try rw [show ((0 : Int)).toNat = 0 from rfl] at hx11_1); (try simp only [Nat.reduceMul, Nat.zero_mul, Nat.zero_add, Nat.reduceAdd] at hx11_1); have hf11_1 := hfr11 1; (try simp only [show (k27).sz = 2 from rfl, Nat.mul_one, Nat.add_zero] at hf11_1); (try rw [show ((0 : Int)).toNat = 0 from rfl] at hf11_1); (try simp only [Nat.reduceMul, Nat.zero_mul, Nat.zero_add, Nat.reduceAdd] at hf11_1); clear hcl11 hcc11 hfr11 hM11) | ((with_reducible refine gate_store (t := 27) (p := 13) rfl ?_); refine store_event (t := 27) (p := 13) (v := ?vo_w12) (w1 := ((w10.setCell ⟨go7, 0, none⟩ (.int .i64 t186)).setCell ⟨go7, 1, none⟩ (.int .i64 t187))) ?hg ?ho ?hn ?hr ?_; (case ho => rfl); (case hg => rfl); (case hn => rfl); (case hr => first | (go_simp; done) | (go_simp; rfl)); intro w12 hw; have hg : w10.grownBy w12 (some go7) := (by rw [hw]; exact HP11.2); have hp_ : Kd.R k27 27 w12 w.heap.size (fun _ => True) (.slice (some ⟨go7, 0, none⟩) t178.length co7) y190 := (by rw [hw, Ny190.out]; exact HP11.1); clear HP11; replace HI0 := Aside0.mk (IsS109.grown (Hd.as_ (fun W_ => IsS109 _ W_ _ _ _ _) HI0.out (by repeat (first | (with_reducible first | exact HI0.out | apply IsS109.alloc | apply IsS109.drewN | apply IsS109.drew | apply IsS109.set_1 | apply IsS109.set_2) | exact HI0.out))) hg (IsS109.own_ne HI0.out HO180.out (by decide))); replace HB := Aside0.mk ((by rw [hw]; exact below_set (below_set (HB.out) (Nat.le_trans HL.out GB7.out)) (Nat.le_trans HL.out GB7.out) : Below w0.heap.size w0 w12)); replace HK := Aside0.mk (KeepBut.trans (by repeat (first | (with_reducible first | exact HK.out | apply KeepBut.set_ | apply keep_drewN | apply keep_drew | apply keep_alloc) | exact HK.out)) (KeepBut.of_grown hg g) (Kd.R_base2 HO180.out)); replace HO180 := Aside0.mk (hp_); clear hg hw hp_))
   go_ret
   exact ⟨_, Hd.e_, by (with_reducible repeat (first | apply Kd.R_alloc | apply Kd.R_drewN | apply Kd.R_drew)); exact HO180.out, by repeat (first | (with_reducible first | exact HI0.out | apply IsS109.alloc | apply IsS109.drewN | apply IsS109.drew | apply IsS109.set_1 | apply IsS109.set_2) | exact HI0.out), by repeat (first | (with_reducible first | exact HB.out | apply below_alloc | apply pw_below_drewN | apply below_drew1 | refine below_set ?_ (IsS109.ge HI0.out)) | exact HB.out), by repeat (first | (with_reducible first | exact HK.out | apply KeepBut.set_ | apply keep_drewN | apply keep_drew | apply keep_alloc) | exact HK.out)⟩
  ·
   rw [if_neg c6] at H
   exact absurd H (by simp)
 ·
  rw [if_neg c4] at H
  have c4b0 : (t183 == 0) = false := beq_eq_false_iff_ne.mpr c4
  have c4b1 : (t183 != 0) = true := bne_iff_ne.mpr c4
  by_cases c13 : t183 = 1
  ·
   rw [if_pos c13] at H
   have c13b0 : (t183 == 1) = true := beq_iff_eq.mpr c13
   have c13b1 : (t183 != 1) = false := bne_eq_false_iff_eq.mpr c13
   clear c13
   obtain ⟨ji14, hji14⟩ : ∃ j_ : Int, (wrap64 ((t178.length : Int) - 1)) = j_ := ⟨_, rfl⟩
   replace H : (if 0 ≤ (ji14) then (if (ji14) < (t178.length : Int) then (if t178.length < 8796093022208 then (some ((t178 ++ [(⟨(rd_T27 t178 (ji14)).f0, (rd_T27 t178 (ji14)).f1⟩ : S27)]), t184, t185)) else (none)) else (none)) else (none)) = some (r1, r2, r3) := by first | (rw [hji14] at H; exact H) | (simp only [hji14] at H ⊢; exact H)
   (try rw [hji14] at A2)
   (try rw [hji14] at A3)
   have hji14w : (IntKind.i64.wrap ((t178.length : Int) - 1)) = ji14 := (i64_w _).trans hji14
   by_cases c15 : 0 ≤ (ji14)
   ·
    rw [if_pos c15] at H
    have c15b0 : decide (0 ≤ (ji14)) = true := decide_eq_true c15
    clear c15
    by_cases c16 : (ji14) < (t178.length : Int)
    ·
     rw [if_pos c16] at H
     have c16b0 : decide ((ji14) < (t178.length : Int)) = true := decide_eq_true c16
     clear c16
     by_cases c17 : t178.length < 8796093022208
     ·
      rw [if_pos c17] at H
      have LMc17 := Aside0.mk c17
      clear c17
      obtain ⟨y192, hy192⟩ : ∃ y_ : List (S27), y_ = (t178 ++ [(⟨(rd_T27 t178 (ji14)).f0, (rd_T27 t178 (ji14)).f1⟩ : S27)]) := ⟨_, rfl⟩
      replace H : (some (y192, t184, t185)) = some (r1, r2, r3) := by first | (rw [hy192]; with_reducible exact H) | (have H2_ := (Option.bind_some _ _).symm.trans H; rw [hy192]; with_reducible exact H2_) | (have H2_ := (Option.bind_some _ _).symm.trans H; with_reducible exact H2_) | with_reducible exact H | (rw [hy192]; exact H) | exact H
      have Ny192 := Aside0.mk hy192
      clear hy192
      simp only [Option.some.injEq, Prod.mk.injEq] at H
      obtain ⟨rfl, rfl, rfl⟩ := H
      go_enter Try.func78, Try.ntmps78
      go_wp2_with (first | ((with_reducible refine gate_callee (f := 104) rfl ?_); refine goesL_ (some 5) rfl rfl Try.func104 (by kernel_rfl) rfl #[.pointer (some ⟨g, 0, none⟩)] rfl Hd.m_ ?_; (with_reducible refine (spec_l6Draw.calls k g s0_0 s0_1 s0_2 t178 t181 t182 w0 _ ?side1 ?side2 A2.out).mono ?_); (case side1 => repeat (first | (with_reducible first | exact HI0.out | apply IsS109.alloc | apply IsS109.drewN | apply IsS109.drew | apply IsS109.set_1 | apply IsS109.set_2) | exact HI0.out)); (case side2 => repeat (first | (with_reducible first | exact HB.out | apply below_alloc | apply pw_below_drewN | apply below_drew1 | refine below_set ?_ (IsS109.ge HI0.out)) | exact HB.out)); rintro e w18 ⟨v179, rfl, ho0, hi, hb, hk⟩; refine ⟨_, rfl, ?_⟩; have HO180 := Aside0.mk (Kd.R_lower ho0 (keep_size (w := w) (g := g) (row := none) (by repeat (first | (with_reducible first | exact HK.out | apply KeepBut.set_ | apply keep_drewN | apply keep_drew | apply keep_alloc) | exact HK.out)))); replace HK := Aside0.mk (KeepBut.trans (by repeat (first | (with_reducible first | exact HK.out | apply KeepBut.set_ | apply keep_drewN | apply keep_drew | apply keep_alloc) | exact HK.out)) hk (.inl rfl)); replace HB := Aside0.mk (hb); replace HI0 := Aside0.mk (hi); (try clear hb); (try clear hb2); (try clear hk); (try clear hi); (try clear ho0)) | ((with_reducible refine gate_callee (f := 89) rfl ?_); refine goesL_ (some 7) rfl rfl Try.func89 (by kernel_rfl) rfl #[.pointer (some ⟨g, 0, none⟩), .int .i64 12] rfl Hd.m_ ?_; (with_reducible refine (spec_l1Below.calls g s0_0 t181 t182 12 t183 t184 t185 w0 _ ?side1 ?side2 A3.out).mono ?_); (case side1 => repeat (first | (with_reducible first | exact HI0.out | apply IsS109.alloc | apply IsS109.drewN | apply IsS109.drew | apply IsS109.set_1 | apply IsS109.set_2) | exact HI0.out)); (case side2 => repeat (first | (with_reducible first | exact HB.out | apply below_alloc | apply pw_below_drewN | apply below_drew1 | refine below_set ?_ (IsS109.ge HI0.out)) | exact HB.out)); rintro e w19 ⟨rfl, hi, hb, hk⟩; refine ⟨_, rfl, ?_⟩; replace HO180 := Aside0.mk (Kd.R_mono (Kd.R_keep (IsS109.apart (show IsS109 w0 _ g s0_0 t181 t182 from by repeat (first | (with_reducible first | exact HI0.out | apply IsS109.alloc | apply IsS109.drewN | apply IsS109.drew | apply IsS109.set_1 | apply IsS109.set_2) | exact HI0.out)) (Hd.r_ HO180) (by decide)) hk (fun _ h => h.2)) (fun _ h => h.1)); replace HK := Aside0.mk (KeepBut.trans (by repeat (first | (with_reducible first | exact HK.out | apply KeepBut.set_ | apply keep_drewN | apply keep_drew | apply keep_alloc) | exact HK.out)) hk (.inl rfl)); replace HB := Aside0.mk (hb); replace HI0 := Aside0.mk (hi); (try clear hb); (try clear hb2); (try clear hk); (try clear hi); obtain ⟨Ao20, co20, eo20⟩ := Kd.R_slice HO180.out; subst eo20; have p191 : 0 ≤ ((ji14) : Int) := of_decide_eq_true Hd.a_; have q191 : (ji14) < (t178.length : Int) := of_decide_eq_true Hd.a_; obtain ⟨ad191, e191, hx191_0, hx191_1⟩ := at_T27 (Kd.R_reads' HO180.out).2.2 (ji14) p191 q191; cases e191; replace p191 := eq_true p191; replace q191 := eq_true q191) | ((with_reducible refine gate_builtin (b := .append) (xs := #[.tmp 16, .tmp 23]) rfl ?_); at_builtin; refine Kd.R_append k27 w.heap.size rfl (.tmp 16) (.tmp 23) 24 27 (.agg #[(.int .i64 0), (.int .i64 0)]) 16 rfl Try.underlying24 info27 rfl (by decide) (by omega) (.slice (some ad191) t178.length co20) t178 (⟨(rd_T27 t178 (ji14)).f0, (rd_T27 t178 (ji14)).f1⟩ : S27) [.int .i64 ((rd_T27 t178 (ji14)).f0), .int .i64 ((rd_T27 t178 (ji14)).f1)] (fun _ => True) (fun _ => False) rfl rfl ?aP (fun _ hk => hk.elim) ?aF ?aO (Below.refl _ _) ?aS ?aL ?_; (case aP => exact k27_mkM _ _ _ (⟨(rd_T27 t178 (ji14)).f0, (rd_T27 t178 (ji14)).f1⟩ : S27)); (case aF => exact (fun _ _ => trivial)); (case aO => exact (Hd.r_ HO180)); (case aS => exact (keep_size (w := w) (g := g) (row := none) (by repeat (first | (with_reducible first | exact HK.out | apply KeepBut.set_ | apply keep_drewN | apply keep_drew | apply keep_alloc) | exact HK.out)))); (case aL => have := LMc17.out; omega); intro v193 w21 ho hb hg hat; rw [← Ny192.out] at ho; have n0_ := Aside0.mk (IsS109.grown (Hd.as_ (fun W_ => IsS109 _ W_ _ _ _ _) HI0.out (by repeat (first | (with_reducible first | exact HI0.out | apply IsS109.alloc | apply IsS109.drewN | apply IsS109.drew | apply IsS109.set_1 | apply IsS109.set_2) | exact HI0.out))) hg (IsS109.own_ne HI0.out HO180.out (by decide))); have n1_ := Aside0.mk (below_weaken (by repeat (first | (with_reducible first | exact HB.out | apply below_alloc | apply pw_below_drewN | apply below_drew1 | refine below_set ?_ (IsS109.ge HI0.out)) | exact HB.out)) HL.out hb); have n2_ := Aside0.mk (KeepBut.trans (by repeat (first | (with_reducible first | exact HK.out | apply KeepBut.set_ | apply keep_drewN | apply keep_drew | apply keep_alloc) | exact HK.out)) (KeepBut.of_grown hg g) (Kd.R_base2 HO180.out)); have n3_ := Aside0.mk (ho); clear HI0; clear HB; clear HK; clear HO180; have HI0 := n0_; have HB := n1_; have HK := n2_; have HO194 := n3_; clear n0_ n1_ n2_ n3_; clear ho hb hg hat))
      go_ret
      exact ⟨_, by first | rfl | (simp [errW_none, errW_some] <;> rfl) | (simp only [← hji14]; first | rfl | (simp [errW_none, errW_some] <;> rfl)) | (simp [*, errW_none, errW_some] <;> rfl), by (with_reducible repeat (first | apply Kd.R_alloc | apply Kd.R_drewN | apply Kd.R_drew)); exact HO194.out, by repeat (first | (with_reducible first | exact HI0.out | apply IsS109.alloc | apply IsS109.drewN | apply IsS109.drew | apply IsS109.set_1 | apply IsS109.set_2) | exact HI0.out), by repeat (first | (with_reducible first | exact HB.out | apply below_alloc | apply pw_below_drewN | apply below_drew1 | refine below_set ?_ (IsS109.ge HI0.out)) | exact HB.out), by repeat (first | (with_reducible first | exact HK.out | apply KeepBut.set_ | apply keep_drewN | apply keep_drew | apply keep_alloc) | exact HK.out)⟩
     ·
      rw [if_neg c17] at H
      exact absurd H (by simp)
    ·
     rw [if_neg c16] at H
     exact absurd H (by simp)
   ·
    rw [if_neg c15] at H
    exact absurd H (by simp)
  ·
   rw [if_neg c13] at H
   have c13b0 : (t183 == 1) = false := beq_eq_false_iff_ne.mpr c13
   have c13b1 : (t183 != 1) = true := bne_iff_ne.mpr c13
   by_cases c22 : t183 = 2
   ·
    rw [if_pos c22] at H
    have c22b0 : (t183 == 2) = true := beq_iff_eq.mpr c22
    have c22b1 : (t183 != 2) = false := bne_eq_false_iff_eq.mpr c22
    clear c22
    by_cases c23 : 1 ≤ (t178.length : Int)
    ·
     rw [if_pos c23] at H
     have c23b0 := eq_true c23
     have c23b1 : decide (1 ≤ (t178.length : Int)) = true := decide_eq_true c23
     clear c23
     obtain ⟨y195, hy195⟩ : ∃ y_ : List (S27), y_ = (t178.take (1 : Int).toNat) := ⟨_, rfl⟩
     replace H : (some (y195, t184, t185)) = some (r1, r2, r3) := by first | (rw [hy195]; with_reducible exact H) | (have H2_ := (Option.bind_some _ _).symm.trans H; rw [hy195]; with_reducible exact H2_) | (have H2_ := (Option.bind_some _ _).symm.trans H; with_reducible exact H2_) | with_reducible exact H | (rw [hy195]; exact H) | exact H
     have Ny195 := Aside0.mk hy195
     clear hy195
     simp only [Option.some.injEq, Prod.mk.injEq] at H
     obtain ⟨rfl, rfl, rfl⟩ := H
     go_enter Try.func78, Try.ntmps78
     go_wp2_with (first | ((with_reducible refine gate_callee (f := 104) rfl ?_); refine goesL_ (some 5) rfl rfl Try.func104 (by kernel_rfl) rfl #[.pointer (some ⟨g, 0, none⟩)] rfl Hd.m_ ?_; (with_reducible refine (spec_l6Draw.calls k g s0_0 s0_1 s0_2 t178 t181 t182 w0 _ ?side1 ?side2 A2.out).mono ?_); (case side1 => repeat (first | (with_reducible first | exact HI0.out | apply IsS109.alloc | apply IsS109.drewN | apply IsS109.drew | apply IsS109.set_1 | apply IsS109.set_2) | exact HI0.out)); (case side2 => repeat (first | (with_reducible first | exact HB.out | apply below_alloc | apply pw_below_drewN | apply below_drew1 | refine below_set ?_ (IsS109.ge HI0.out)) | exact HB.out)); rintro e w24 ⟨v179, rfl, ho0, hi, hb, hk⟩; refine ⟨_, rfl, ?_⟩; have HO180 := Aside0.mk (Kd.R_lower ho0 (keep_size (w := w) (g := g) (row := none) (by repeat (first | (with_reducible first | exact HK.out | apply KeepBut.set_ | apply keep_drewN | apply keep_drew | apply keep_alloc) | exact HK.out)))); replace HK := Aside0.mk (KeepBut.trans (by repeat (first | (with_reducible first | exact HK.out | apply KeepBut.set_ | apply keep_drewN | apply keep_drew | apply keep_alloc) | exact HK.out)) hk (.inl rfl)); replace HB := Aside0.mk (hb); replace HI0 := Aside0.mk (hi); (try clear hb); (try clear hb2); (try clear hk); (try clear hi); (try clear ho0)) | ((with_reducible refine gate_callee (f := 89) rfl ?_); refine goesL_ (some 7) rfl rfl Try.func89 (by kernel_rfl) rfl #[.pointer (some ⟨g, 0, none⟩), .int .i64 12] rfl Hd.m_ ?_; (with_reducible refine (spec_l1Below.calls g s0_0 t181 t182 12 t183 t184 t185 w0 _ ?side1 ?side2 A3.out).mono ?_); (case side1 => repeat (first | (with_reducible first | exact HI0.out | apply IsS109.alloc | apply IsS109.drewN | apply IsS109.drew | apply IsS109.set_1 | apply IsS109.set_2) | exact HI0.out)); (case side2 => repeat (first | (with_reducible first | exact HB.out | apply below_alloc | apply pw_below_drewN | apply below_drew1 | refine below_set ?_ (IsS109.ge HI0.out)) | exact HB.out)); rintro e w25 ⟨rfl, hi, hb, hk⟩; refine ⟨_, rfl, ?_⟩; replace HO180 := Aside0.mk (Kd.R_mono (Kd.R_keep (IsS109.apart (show IsS109 w0 _ g s0_0 t181 t182 from by repeat (first | (with_reducible first | exact HI0.out | apply IsS109.alloc | apply IsS109.drewN | apply IsS109.drew | apply IsS109.set_1 | apply IsS109.set_2) | exact HI0.out)) (Hd.r_ HO180) (by decide)) hk (fun _ h => h.2)) (fun _ h => h.1)); replace HK := Aside0.mk (KeepBut.trans (by repeat (first | (with_reducible first | exact HK.out | apply KeepBut.set_ | apply keep_drewN | apply keep_drew | apply keep_alloc) | exact HK.out)) hk (.inl rfl)); replace HB := Aside0.mk (hb); replace HI0 := Aside0.mk (hi); (try clear hb); (try clear hb2); (try clear hk); (try clear hi); obtain ⟨Ao26, co26, eo26⟩ := Kd.R_slice HO180.out; subst eo26; have q27 : (1 : Int) ≤ ((t178.length : Int) : Int) := of_decide_eq_true Hd.a_; obtain ⟨i027, hi027, _, hsz27, _⟩ := info_parts info27; have hcut27 := cut_to (P := Try.prog) 24 27 .i64 Try.underlying24 hi027 Ao26 t178.length co26 1 (by omega) q27 (Kd.R_reads' HO180.out).2.1; have hr27 := Kd.R_take (m := (1 : Int).toNat) HO180.out (by omega); have hy27 : y195.length = (1 : Int).toNat := (by rw [Ny195.out, List.length_take]; omega); rw [← Ny195.out] at hr27; rw [← hy27] at hr27 hcut27; clear hy27 hi027 hsz27 HO180; have HO197 := Aside0.mk hr27; clear hr27; replace q27 := eq_true q27))
     go_ret
     exact ⟨_, Hd.e_, by (with_reducible repeat (first | apply Kd.R_alloc | apply Kd.R_drewN | apply Kd.R_drew)); exact HO197.out, by repeat (first | (with_reducible first | exact HI0.out | apply IsS109.alloc | apply IsS109.drewN | apply IsS109.drew | apply IsS109.set_1 | apply IsS109.set_2) | exact HI0.out), by repeat (first | (with_reducible first | exact HB.out | apply below_alloc | apply pw_below_drewN | apply below_drew1 | refine below_set ?_ (IsS109.ge HI0.out)) | exact HB.out), by repeat (first | (with_reducible first | exact HK.out | apply KeepBut.set_ | apply keep_drewN | apply keep_drew | apply keep_alloc) | exact HK.out)⟩
    ·
     rw [if_neg c23] at H
     exact absurd H (by simp)
   ·
    rw [if_neg c22] at H
    have c22b0 : (t183 == 2) = false := beq_eq_false_iff_ne.mpr c22
    have c22b1 : (t183 != 2) = true := bne_iff_ne.mpr c22
    by_cases c28 : t183 = 3
    ·
     rw [if_pos c28] at H
     have c28b0 : (t183 == 3) = true := beq_iff_eq.mpr c28
     have c28b1 : (t183 != 3) = false := bne_eq_false_iff_eq.mpr c28
     clear c28
     have H' := Aside0.mk H
     clear H
     go_enter Try.func78, Try.ntmps78
     go_wp2_with (first | ((with_reducible refine gate_callee (f := 104) rfl ?_); refine goesL_ (some 5) rfl rfl Try.func104 (by kernel_rfl) rfl #[.pointer (some ⟨g, 0, none⟩)] rfl Hd.m_ ?_; (with_reducible refine (spec_l6Draw.calls k g s0_0 s0_1 s0_2 t178 t181 t182 w0 _ ?side1 ?side2 A2.out).mono ?_); (case side1 => repeat (first | (with_reducible first | exact HI0.out | apply IsS109.alloc | apply IsS109.drewN | apply IsS109.drew | apply IsS109.set_1 | apply IsS109.set_2) | exact HI0.out)); (case side2 => repeat (first | (with_reducible first | exact HB.out | apply below_alloc | apply pw_below_drewN | apply below_drew1 | refine below_set ?_ (IsS109.ge HI0.out)) | exact HB.out)); rintro e w29 ⟨v179, rfl, ho0, hi, hb, hk⟩; refine ⟨_, rfl, ?_⟩; have HO180 := Aside0.mk (Kd.R_lower ho0 (keep_size (w := w) (g := g) (row := none) (by repeat (first | (with_reducible first | exact HK.out | apply KeepBut.set_ | apply keep_drewN | apply keep_drew | apply keep_alloc) | exact HK.out)))); replace HK := Aside0.mk (KeepBut.trans (by repeat (first | (with_reducible first | exact HK.out | apply KeepBut.set_ | apply keep_drewN | apply keep_drew | apply keep_alloc) | exact HK.out)) hk (.inl rfl)); replace HB := Aside0.mk (hb); replace HI0 := Aside0.mk (hi); (try clear hb); (try clear hb2); (try clear hk); (try clear hi); (try clear ho0)) | ((with_reducible refine gate_callee (f := 89) rfl ?_); refine goesL_ (some 7) rfl rfl Try.func89 (by kernel_rfl) rfl #[.pointer (some ⟨g, 0, none⟩), .int .i64 12] rfl Hd.m_ ?_; (with_reducible refine (spec_l1Below.calls g s0_0 t181 t182 12 t183 t184 t185 w0 _ ?side1 ?side2 A3.out).mono ?_); (case side1 => repeat (first | (with_reducible first | exact HI0.out | apply IsS109.alloc | apply IsS109.drewN | apply IsS109.drew | apply IsS109.set_1 | apply IsS109.set_2) | exact HI0.out)); (case side2 => repeat (first | (with_reducible first | exact HB.out | apply below_alloc | apply pw_below_drewN | apply below_drew1 | refine below_set ?_ (IsS109.ge HI0.out)) | exact HB.out)); rintro e w30 ⟨rfl, hi, hb, hk⟩; refine ⟨_, rfl, ?_⟩; replace HO180 := Aside0.mk (Kd.R_mono (Kd.R_keep (IsS109.apart (show IsS109 w0 _ g s0_0 t181 t182 from by repeat (first | (with_reducible first | exact HI0.out | apply IsS109.alloc | apply IsS109.drewN | apply IsS109.drew | apply IsS109.set_1 | apply IsS109.set_2) | exact HI0.out)) (Hd.r_ HO180) (by decide)) hk (fun _ h => h.2)) (fun _ h => h.1)); replace HK := Aside0.mk (KeepBut.trans (by repeat (first | (with_reducible first | exact HK.out | apply KeepBut.set_ | apply keep_drewN | apply keep_drew | apply keep_alloc) | exact HK.out)) hk (.inl rfl)); replace HB := Aside0.mk (hb); replace HI0 := Aside0.mk (hi); (try clear hb); (try clear hb2); (try clear hk); (try clear hi)))
     go_loopg [3] k (fun kq v3 w' => ∃ (x3_1 : List (S27)), Aside0 (spec_l6Any.l0 kq x3_1 s0_0 t184 t185 = some (r1, r2, r3)) ∧ Aside0 (kq ≤ k) ∧ Aside0 (Kd.R k27 27 w' w.heap.size (fun _ => True) v3 x3_1) ∧ Aside0 (IsS109 w0 w' g s0_0 t184 t185) ∧ Aside0 (KeepBut w w' g none) ∧ Aside0 (Below w0.heap.size w0 w'))
     case atStart => exact ⟨(t178), H', ⟨Nat.le_refl _⟩, ⟨by (with_reducible repeat (first | apply Kd.R_alloc | apply Kd.R_drewN | apply Kd.R_drew)); exact HO180.out⟩, ⟨by repeat (first | (with_reducible first | exact HI0.out | apply IsS109.alloc | apply IsS109.drewN | apply IsS109.drew | apply IsS109.set_1 | apply IsS109.set_2) | exact HI0.out)⟩, ⟨by repeat (first | (with_reducible first | exact HK.out | apply KeepBut.set_ | apply keep_drewN | apply keep_drew | apply keep_alloc) | exact HK.out)⟩, ⟨by repeat (first | (with_reducible first | exact HB.out | apply below_alloc | apply pw_below_drewN | apply below_drew1 | refine below_set ?_ (IsS109.ge HI0.out)) | exact HB.out)⟩⟩
     case round =>
      clear H'
      try clear c1
      try clear p1
      try clear q1
      try clear hx1
      try clear hf1
      try clear c2
      try clear p2
      try clear q2
      try clear c4
      try clear c4b0
      try clear c4b1
      try clear c6
      try clear c6b0
      try clear c6b1
      try clear p6
      try clear c7
      try clear p7
      try clear q7
      try clear hx7
      try clear qi7
      try clear hf7
      try clear c8
      try clear c10
      try clear c11
      try clear hx11
      try clear hf11
      try clear c13
      try clear c13b0
      try clear c13b1
      try clear c15
      try clear c15b0
      try clear c16
      try clear c16b0
      try clear c17
      try clear p19
      try clear q19
      try clear hx19
      try clear c22
      try clear c22b0
      try clear c22b1
      try clear c23
      try clear c23b0
      try clear c23b1
      try clear q27
      try clear c28
      try clear c28b0
      try clear c28b1
      try clear hx11_0
      try clear hx11_1
      try clear hx191_0
      try clear hx191_1
      try clear hx7_0
      try clear hx7_1
      try clear p191
      try clear p7
      try clear q191
      try clear q27
      try clear q7
      obtain ⟨x3_1, HA, HK1, HO_3, HI0, HK, HB⟩ := hrel
      cases gk with
      | zero => exact absurd HA.out (by simp [spec_l6Any.l0])
      | succ k1 =>
       have H := HA.out
       clear HA
       simp only [spec_l6Any.l0] at H
       by_cases c31 : (x3_1.length : Int) < 11
       ·
        rw [if_pos c31] at H
        have c31b0 : decide ((x3_1.length : Int) < 11) = true := decide_eq_true c31
        have c31b1 : decide (x3_1.length < 11) = true := decide_eq_true (by omega)
        clear c31
        by_cases c32 : x3_1.length < 8796093022208
        ·
         rw [if_pos c32] at H
         have LMc32 := Aside0.mk c32
         clear c32
         obtain ⟨y198, hy198⟩ : ∃ y_ : List (S27), y_ = (x3_1 ++ [(⟨(x3_1.length : Int), wrap64 (50 + (x3_1.length : Int))⟩ : S27)]) := ⟨_, rfl⟩
         replace H : (spec_l6Any.l0 k1 y198 s0_0 t184 t185) = some (r1, r2, r3) := by first | (rw [hy198]; with_reducible exact H) | (have H2_ := (Option.bind_some _ _).symm.trans H; rw [hy198]; with_reducible exact H2_) | (have H2_ := (Option.bind_some _ _).symm.trans H; with_reducible exact H2_) | with_reducible exact H | (rw [hy198]; exact H) | exact H
         have Ny198 := Aside0.mk hy198
         clear hy198
         have H' := Aside0.mk H
         clear H
         obtain ⟨Ao33, co33, eo33⟩ := Kd.R_slice HO_3.out
         subst eo33
         go_wp2_with (first | ((with_reducible refine gate_builtin (b := .append) (xs := #[.tmp 34, .tmp 41]) rfl ?_); at_builtin; refine Kd.R_append k27 w.heap.size rfl (.tmp 34) (.tmp 41) 24 27 (.agg #[(.int .i64 0), (.int .i64 0)]) 16 rfl Try.underlying24 info27 rfl (by decide) (by omega) (.slice Ao33 x3_1.length co33) x3_1 (⟨(x3_1.length : Int), wrap64 (50 + (x3_1.length : Int))⟩ : S27) [.int .i64 (x3_1.length : Int), .int .i64 (wrap64 (50 + (x3_1.length : Int)))] (fun _ => True) (fun _ => False) rfl rfl ?aP (fun _ hk => hk.elim) ?aF ?aO (Below.refl _ _) ?aS ?aL ?_; (case aP => exact k27_mkM _ _ _ (⟨(x3_1.length : Int), wrap64 (50 + (x3_1.length : Int))⟩ : S27)); (case aF => exact (fun _ _ => trivial)); (case aO => exact (Hd.r_ HO_3)); (case aS => exact (keep_size (w := w) (g := g) (row := none) (by repeat (first | (with_reducible first | exact HK.out | apply KeepBut.set_ | apply keep_drewN | apply keep_drew | apply keep_alloc) | exact HK.out)))); (case aL => have := LMc32.out; omega); intro v199 w34 ho hb hg hat; rw [← Ny198.out] at ho; have n0_ := Aside0.mk (IsS109.grown (Hd.as_ (fun W_ => IsS109 _ W_ _ _ _ _) HI0.out (by repeat (first | (with_reducible first | exact HI0.out | apply IsS109.alloc | apply IsS109.drewN | apply IsS109.drew | apply IsS109.set_1 | apply IsS109.set_2) | exact HI0.out))) hg (IsS109.own_ne HI0.out HO_3.out (by decide))); have n1_ := Aside0.mk (below_weaken (by repeat (first | (with_reducible first | exact HB.out | apply below_alloc | apply pw_below_drewN | apply below_drew1 | refine below_set ?_ (IsS109.ge HI0.out)) | exact HB.out)) HL.out hb); have n2_ := Aside0.mk (KeepBut.trans (by repeat (first | (with_reducible first | exact HK.out | apply KeepBut.set_ | apply keep_drewN | apply keep_drew | apply keep_alloc) | exact HK.out)) (KeepBut.of_grown hg g) (Kd.R_base2 HO_3.out)); have n3_ := Aside0.mk (ho); clear HI0; clear HB; clear HK; clear HO_3; have HI0 := n0_; have HB := n1_; have HK := n2_; have HO200 := n3_; clear n0_ n1_ n2_ n3_; clear ho hb hg hat))
         go_roundg k1
         case measure => have := HK1.out; omega
         case rel => exact ⟨(y198), H', ⟨by have := HK1.out; omega⟩, ⟨by (with_reducible repeat (first | apply Kd.R_alloc | apply Kd.R_drewN | apply Kd.R_drew)); exact HO200.out⟩, ⟨by repeat (first | (with_reducible first | exact HI0.out | apply IsS109.alloc | apply IsS109.drewN | apply IsS109.drew | apply IsS109.set_1 | apply IsS109.set_2) | exact HI0.out)⟩, ⟨by repeat (first | (with_reducible first | exact HK.out | apply KeepBut.set_ | apply keep_drewN | apply keep_drew | apply keep_alloc) | exact HK.out)⟩, ⟨by repeat (first | (with_reducible first | exact HB.out | apply below_alloc | apply pw_below_drewN | apply below_drew1 | refine below_set ?_ (IsS109.ge HI0.out)) | exact HB.out)⟩⟩
        ·
         rw [if_neg c32] at H
         exact absurd H (by simp)
       ·
        rw [if_neg c31] at H
        have c31b0 : decide ((x3_1.length : Int) < 11) = false := decide_eq_false c31
        have c31b1 : decide (x3_1.length < 11) = false := decide_eq_false (by omega)
        clear c31
        simp only [Option.some.injEq, Prod.mk.injEq] at H
        obtain ⟨rfl, rfl, rfl⟩ := H
        obtain ⟨Ao35, co35, eo35⟩ := Kd.R_slice HO_3.out
        subst eo35
        go_wp2
        go_ret
        exact ⟨_, Hd.e_, by (with_reducible repeat (first | apply Kd.R_alloc | apply Kd.R_drewN | apply Kd.R_drew)); exact HO_3.out, by repeat (first | (with_reducible first | exact HI0.out | apply IsS109.alloc | apply IsS109.drewN | apply IsS109.drew | apply IsS109.set_1 | apply IsS109.set_2) | exact HI0.out), by repeat (first | (with_reducible first | exact HB.out | apply below_alloc | apply pw_below_drewN | apply below_drew1 | refine below_set ?_ (IsS109.ge HI0.out)) | exact HB.out), by repeat (first | (with_reducible first | exact HK.out | apply KeepBut.set_ | apply keep_drewN | apply keep_drew | apply keep_alloc) | exact HK.out)⟩
    ·
     rw [if_neg c28] at H
     have c28b0 : (t183 == 3) = false := beq_eq_false_iff_ne.mpr c28
     have c28b1 : (t183 != 3) = true := bne_iff_ne.mpr c28
     simp only [Option.some.injEq, Prod.mk.injEq] at H
     obtain ⟨rfl, rfl, rfl⟩ := H
     go_enter Try.func78, Try.ntmps78
     go_wp2_with (first | ((with_reducible refine gate_callee (f := 104) rfl ?_); refine goesL_ (some 5) rfl rfl Try.func104 (by kernel_rfl) rfl #[.pointer (some ⟨g, 0, none⟩)] rfl Hd.m_ ?_; (with_reducible refine (spec_l6Draw.calls k g s0_0 s0_1 s0_2 t178 t181 t182 w0 _ ?side1 ?side2 A2.out).mono ?_); (case side1 => repeat (first | (with_reducible first | exact HI0.out | apply IsS109.alloc | apply IsS109.drewN | apply IsS109.drew | apply IsS109.set_1 | apply IsS109.set_2) | exact HI0.out)); (case side2 => repeat (first | (with_reducible first | exact HB.out | apply below_alloc | apply pw_below_drewN | apply below_drew1 | refine below_set ?_ (IsS109.ge HI0.out)) | exact HB.out)); rintro e w36 ⟨v179, rfl, ho0, hi, hb, hk⟩; refine ⟨_, rfl, ?_⟩; have HO180 := Aside0.mk (Kd.R_lower ho0 (keep_size (w := w) (g := g) (row := none) (by repeat (first | (with_reducible first | exact HK.out | apply KeepBut.set_ | apply keep_drewN | apply keep_drew | apply keep_alloc) | exact HK.out)))); replace HK := Aside0.mk (KeepBut.trans (by repeat (first | (with_reducible first | exact HK.out | apply KeepBut.set_ | apply keep_drewN | apply keep_drew | apply keep_alloc) | exact HK.out)) hk (.inl rfl)); replace HB := Aside0.mk (hb); replace HI0 := Aside0.mk (hi); (try clear hb); (try clear hb2); (try clear hk); (try clear hi); (try clear ho0)) | ((with_reducible refine gate_callee (f := 89) rfl ?_); refine goesL_ (some 7) rfl rfl Try.func89 (by kernel_rfl) rfl #[.pointer (some ⟨g, 0, none⟩), .int .i64 12] rfl Hd.m_ ?_; (with_reducible refine (spec_l1Below.calls g s0_0 t181 t182 12 t183 t184 t185 w0 _ ?side1 ?side2 A3.out).mono ?_); (case side1 => repeat (first | (with_reducible first | exact HI0.out | apply IsS109.alloc | apply IsS109.drewN | apply IsS109.drew | apply IsS109.set_1 | apply IsS109.set_2) | exact HI0.out)); (case side2 => repeat (first | (with_reducible first | exact HB.out | apply below_alloc | apply pw_below_drewN | apply below_drew1 | refine below_set ?_ (IsS109.ge HI0.out)) | exact HB.out)); rintro e w37 ⟨rfl, hi, hb, hk⟩; refine ⟨_, rfl, ?_⟩; replace HO180 := Aside0.mk (Kd.R_mono (Kd.R_keep (IsS109.apart (show IsS109 w0 _ g s0_0 t181 t182 from by repeat (first | (with_reducible first | exact HI0.out | apply IsS109.alloc | apply IsS109.drewN | apply IsS109.drew | apply IsS109.set_1 | apply IsS109.set_2) | exact HI0.out)) (Hd.r_ HO180) (by decide)) hk (fun _ h => h.2)) (fun _ h => h.1)); replace HK := Aside0.mk (KeepBut.trans (by repeat (first | (with_reducible first | exact HK.out | apply KeepBut.set_ | apply keep_drewN | apply keep_drew | apply keep_alloc) | exact HK.out)) hk (.inl rfl)); replace HB := Aside0.mk (hb); replace HI0 := Aside0.mk (hi); (try clear hb); (try clear hb2); (try clear hk); (try clear hi)))
     go_ret
     exact ⟨_, Hd.e_, by (with_reducible repeat (first | apply Kd.R_alloc | apply Kd.R_drewN | apply Kd.R_drew)); exact HO180.out, by repeat (first | (with_reducible first | exact HI0.out | apply IsS109.alloc | apply IsS109.drewN | apply IsS109.drew | apply IsS109.set_1 | apply IsS109.set_2) | exact HI0.out), by repeat (first | (with_reducible first | exact HB.out | apply below_alloc | apply pw_below_drewN | apply below_drew1 | refine below_set ?_ (IsS109.ge HI0.out)) | exact HB.out), by repeat (first | (with_reducible first | exact HK.out | apply KeepBut.set_ | apply keep_drewN | apply keep_drew | apply keep_alloc) | exact HK.out)⟩
def spec_l12Others.l0 : Nat → List (List (S27)) → Int → List Int → Int → Int → Option ((List (List (S27))) × Int × Int)
 | 0, _, _, _, _, _ => none
 | k + 1, x3, x4, x1000, x1001, x1002 => if x4 > 0 then ((spec_l6Draw.f k x1000 x1001 x1002).bind fun bt207 => (if x3.length < 5864062014805 then (spec_l12Others.l0 k (x3 ++ [bt207.1]) (wrap64 (x4 - 1)) x1000 bt207.2.1 bt207.2.2) else (none))) else (some (x3, x1001, x1002))
def spec_l12Others.f (k : Nat) (s0_0 : List Int) (s0_1 : Int) (s0_2 : Int) : Option ((List (List (S27))) × Int × Int) := (spec_l1Below.f s0_0 s0_1 s0_2 4).bind fun bt204 => (spec_l12Others.l0 k (([] : List (List (S27)))) bt204.1 s0_0 bt204.2.1 bt204.2.2)
set_option maxHeartbeats 8000000 in
set_option maxRecDepth 100000 in
theorem spec_l12Others.calls (k : Nat) (g : Nat) (s0_0 : List Int) (s0_1 : Int) (s0_2 : Int) (r1 : List (List (S27))) (r2 : Int) (r3 : Int) (w0 w : World) (hI : IsS109 w0 w g s0_0 s0_1 s0_2) (hB : Below w0.heap.size w0 w) (h : spec_l12Others.f k s0_0 s0_1 s0_2 = some (r1, r2, r3)) :
  Calls Try.prog 93 #[.pointer (some ⟨g, 0, none⟩)] w fun e w' => ∃ v0_ : Value, e = .returned (v0_) ∧ Kd.S (Kd.slice 27 k27) 24 w' w.heap.size (fun _ => True) v0_ r1 ∧ IsS109 w0 w' g s0_0 r2 r3 ∧ Below w0.heap.size w0 w' ∧ KeepBut w w' g none := by
 have HI0 := Aside0.mk hI
 have HK := Aside0.mk (KeepBut.refl w g none)
 have HL := Aside0.mk hB.size
 clear hI
 have HW0 := Aside0.mk hB.size
 have HB := Aside0.mk hB
 clear hB
 have H : ((spec_l1Below.f s0_0 s0_1 s0_2 4).bind fun bt204 => (spec_l12Others.l0 k (([] : List (List (S27)))) bt204.1 s0_0 bt204.2.1 bt204.2.2)) = some (r1, r2, r3) := h
 clear h
 obtain ⟨y201, hy201⟩ : ∃ y_ : List (List (S27)), y_ = (([] : List (List (S27)))) := ⟨_, rfl⟩
 replace H : ((spec_l1Below.f s0_0 s0_1 s0_2 4).bind fun bt204 => (spec_l12Others.l0 k y201 bt204.1 s0_0 bt204.2.1 bt204.2.2)) = some (r1, r2, r3) := by first | (rw [hy201]; with_reducible exact H) | (have H2_ := (Option.bind_some _ _).symm.trans H; rw [hy201]; with_reducible exact H2_) | (have H2_ := (Option.bind_some _ _).symm.trans H; with_reducible exact H2_) | with_reducible exact H | (rw [hy201]; exact H) | exact H
 have Ny201 := Aside0.mk hy201
 clear hy201
 replace H := Option.bind_eq_some_iff.mp H
 obtain ⟨⟨t204, t205, t206⟩, A20, H⟩ := H
 replace H : (spec_l12Others.l0 k y201 t204 s0_0 t205 t206) = some (r1, r2, r3) := H
 have A2 := Aside0.mk A20
 clear A20
 have H' := Aside0.mk H
 clear H
 go_enter Try.func93, Try.ntmps93
 go_wp2_with (first | ((with_reducible refine gate_dst (N := 5) rfl ?_); refine Kd.S_lit (Kd.slice 27 k27) _ 24 ?hg (N := 5) ?hd (xs := ([] : List (List (S27)))) (inner := []) (ok := fun _ => True) (okp := fun _ => True) ?hr ?hp (fun _ hk => hk) trivial (Below.refl _ _) (Nat.le_refl _) (by simp) ?_; (case hd => rfl); (case hg => rfl); (case hr => first | (go_simp; done) | (go_simp; rfl)); (case hp => exact (Reps.none _ _)); intro v202 w3 ho4 hb hg_ hnew_; clear hg_ hnew_; (first | rw [← Ny201.out] at ho4 | (simp only [Int.reduceToNat] at ho4; rw [← Ny201.out] at ho4)); have HO203 := Aside0.mk (Kd.S_lower ho4 (keep_size (w := w) (g := g) (row := none) (by repeat (first | (with_reducible first | exact HK.out | apply KeepBut.set_ | apply keep_drewN | apply keep_drew | apply keep_alloc) | exact HK.out)))); replace HK := Aside0.mk (KeepBut.trans (by repeat (first | (with_reducible first | exact HK.out | apply KeepBut.set_ | apply keep_drewN | apply keep_drew | apply keep_alloc) | exact HK.out)) (KeepBut.of_below hb g none) (.inl rfl)); replace HB := Aside0.mk (below_step (by repeat (first | (with_reducible first | exact HB.out | apply below_alloc | apply pw_below_drewN | apply below_drew1 | refine below_set ?_ (IsS109.ge HI0.out)) | exact HB.out)) hb); replace HI0 := Aside0.mk (IsS109.below (by repeat (first | (with_reducible first | exact HI0.out | apply IsS109.alloc | apply IsS109.drewN | apply IsS109.drew | apply IsS109.set_1 | apply IsS109.set_2) | exact HI0.out)) hb); clear hb ho4) | ((with_reducible refine gate_callee (f := 89) rfl ?_); refine goesL_ (some 7) rfl rfl Try.func89 (by kernel_rfl) rfl #[.pointer (some ⟨g, 0, none⟩), .int .i64 4] rfl Hd.m_ ?_; (with_reducible refine (spec_l1Below.calls g s0_0 s0_1 s0_2 4 t204 t205 t206 w0 _ ?side1 ?side2 A2.out).mono ?_); (case side1 => repeat (first | (with_reducible first | exact HI0.out | apply IsS109.alloc | apply IsS109.drewN | apply IsS109.drew | apply IsS109.set_1 | apply IsS109.set_2) | exact HI0.out)); (case side2 => repeat (first | (with_reducible first | exact HB.out | apply below_alloc | apply pw_below_drewN | apply below_drew1 | refine below_set ?_ (IsS109.ge HI0.out)) | exact HB.out)); rintro e w5 ⟨rfl, hi, hb, hk⟩; refine ⟨_, rfl, ?_⟩; replace HO203 := Aside0.mk (Kd.S_mono (Kd.S_keep (IsS109.apartS (show IsS109 w0 _ g s0_0 s0_1 s0_2 from by repeat (first | (with_reducible first | exact HI0.out | apply IsS109.alloc | apply IsS109.drewN | apply IsS109.drew | apply IsS109.set_1 | apply IsS109.set_2) | exact HI0.out)) (by (with_reducible repeat (first | apply Kd.S_alloc | apply Kd.S_drewN | apply Kd.S_drew)); exact HO203.out) (by decide)) hk (fun _ h => h.2)) (fun _ h => h.1)); replace HK := Aside0.mk (KeepBut.trans (by repeat (first | (with_reducible first | exact HK.out | apply KeepBut.set_ | apply keep_drewN | apply keep_drew | apply keep_alloc) | exact HK.out)) hk (.inl rfl)); replace HB := Aside0.mk (hb); replace HI0 := Aside0.mk (hi); (try clear hb); (try clear hb2); (try clear hk); (try clear hi)))
 go_loopg [3, 4] k (fun kq v3 v4 w' => ∃ (x3_1 : List (List (S27))) (x4_1 : Int) (x1001_1 : Int) (x1002_1 : Int), v4 = .int .i64 x4_1 ∧ Aside0 (spec_l12Others.l0 kq x3_1 x4_1 s0_0 x1001_1 x1002_1 = some (r1, r2, r3)) ∧ Aside0 (kq ≤ k) ∧ Aside0 (Kd.S (Kd.slice 27 k27) 24 w' w.heap.size (fun _ => True) v3 x3_1) ∧ Aside0 (IsS109 w0 w' g s0_0 x1001_1 x1002_1) ∧ Aside0 (KeepBut w w' g none) ∧ Aside0 (Below w0.heap.size w0 w'))
 case atStart => exact ⟨(y201), (t204), (t205), (t206), (by first | rfl | (simp; done) | (simp [*]; done)), H', ⟨Nat.le_refl _⟩, ⟨by (with_reducible repeat (first | apply Kd.S_alloc | apply Kd.S_drewN | apply Kd.S_drew)); exact HO203.out⟩, ⟨by repeat (first | (with_reducible first | exact HI0.out | apply IsS109.alloc | apply IsS109.drewN | apply IsS109.drew | apply IsS109.set_1 | apply IsS109.set_2) | exact HI0.out)⟩, ⟨by repeat (first | (with_reducible first | exact HK.out | apply KeepBut.set_ | apply keep_drewN | apply keep_drew | apply keep_alloc) | exact HK.out)⟩, ⟨by repeat (first | (with_reducible first | exact HB.out | apply below_alloc | apply pw_below_drewN | apply below_drew1 | refine below_set ?_ (IsS109.ge HI0.out)) | exact HB.out)⟩⟩
 case round =>
  clear H'
  try clear p2
  obtain ⟨x3_1, x4_1, x1001_1, x1002_1, rfl, HA, HK1, HO_3, HI0, HK, HB⟩ := hrel
  cases gk with
  | zero => exact absurd HA.out (by simp [spec_l12Others.l0])
  | succ k1 =>
   have H := HA.out
   clear HA
   simp only [spec_l12Others.l0] at H
   by_cases c6 : x4_1 > 0
   ·
    rw [if_pos c6] at H
    have c6b0 : decide (0 < x4_1) = true := decide_eq_true c6
    clear c6
    replace H := Option.bind_eq_some_iff.mp H
    obtain ⟨⟨t207, t210, t211⟩, A70, H⟩ := H
    replace H : (if x3_1.length < 5864062014805 then (spec_l12Others.l0 k1 (x3_1 ++ [t207]) (wrap64 (x4_1 - 1)) s0_0 t210 t211) else (none)) = some (r1, r2, r3) := H
    have A7 := Aside0.mk A70
    clear A70
    by_cases c8 : x3_1.length < 5864062014805
    ·
     rw [if_pos c8] at H
     have LMc8 := Aside0.mk c8
     clear c8
     obtain ⟨y212, hy212⟩ : ∃ y_ : List (List (S27)), y_ = (x3_1 ++ [t207]) := ⟨_, rfl⟩
     replace H : (spec_l12Others.l0 k1 y212 (wrap64 (x4_1 - 1)) s0_0 t210 t211) = some (r1, r2, r3) := by first | (rw [hy212]; with_reducible exact H) | (have H2_ := (Option.bind_some _ _).symm.trans H; rw [hy212]; with_reducible exact H2_) | (have H2_ := (Option.bind_some _ _).symm.trans H; with_reducible exact H2_) | with_reducible exact H | (rw [hy212]; exact H) | exact H
     have Ny212 := Aside0.mk hy212
     clear hy212
     have H' := Aside0.mk H
     clear H
     go_wp2_with (first | ((with_reducible refine gate_callee (f := 104) rfl ?_); refine goesL_ (some 14) rfl rfl Try.func104 (by kernel_rfl) rfl #[.pointer (some ⟨g, 0, none⟩)] rfl Hd.m_ ?_; (with_reducible refine (spec_l6Draw.calls k1 g s0_0 x1001_1 x1002_1 t207 t210 t211 w0 _ ?side1 ?side2 A7.out).mono ?_); (case side1 => repeat (first | (with_reducible first | exact HI0.out | apply IsS109.alloc | apply IsS109.drewN | apply IsS109.drew | apply IsS109.set_1 | apply IsS109.set_2) | exact HI0.out)); (case side2 => repeat (first | (with_reducible first | exact HB.out | apply below_alloc | apply pw_below_drewN | apply below_drew1 | refine below_set ?_ (IsS109.ge HI0.out)) | exact HB.out)); rintro e w9 ⟨v208, rfl, ho0, hi, hb, hk⟩; refine ⟨_, rfl, ?_⟩; replace HO_3 := Aside0.mk (Kd.S_mono (Kd.S_told (Kd.S_oldK (IsS109.apartS (show IsS109 w0 _ g s0_0 x1001_1 x1002_1 from by repeat (first | (with_reducible first | exact HI0.out | apply IsS109.alloc | apply IsS109.drewN | apply IsS109.drew | apply IsS109.set_1 | apply IsS109.set_2) | exact HI0.out)) (by (with_reducible repeat (first | apply Kd.S_alloc | apply Kd.S_drewN | apply Kd.S_drew)); exact HO_3.out) (by decide)) hk) (Kd.R_base ho0)) (fun _ h_ => h_.1)); have HO209 := Aside0.mk (Kd.R_lower ho0 (keep_size (w := w) (g := g) (row := none) (by repeat (first | (with_reducible first | exact HK.out | apply KeepBut.set_ | apply keep_drewN | apply keep_drew | apply keep_alloc) | exact HK.out)))); replace HK := Aside0.mk (KeepBut.trans (by repeat (first | (with_reducible first | exact HK.out | apply KeepBut.set_ | apply keep_drewN | apply keep_drew | apply keep_alloc) | exact HK.out)) hk (.inl rfl)); replace HB := Aside0.mk (hb); replace HI0 := Aside0.mk (hi); (try clear hb); (try clear hb2); (try clear hk); (try clear hi); (try clear ho0); obtain ⟨Ao11, co11, eo11⟩ := Kd.R_slice HO209.out; subst eo11) | ((with_reducible refine gate_builtin (b := .append) (xs := #[.tmp 12, .tmp 15]) rfl ?_); at_builtin; refine Kd.S_append (Kd.slice 27 k27) w.heap.size rfl (.tmp 12) (.tmp 15) 65 24 (.slice none 0 0) 24 rfl Try.underlying65 info24 rfl (by decide) (by omega) u3 x3_1 t207 [.slice Ao11 t207.length co11] (fun _ => True) (fun k_ => some k_ = (.slice Ao11 t207.length co11 : Value).ownBlock) rfl rfl ?aP (fun k_ hk_ => ((Kd.R_mono (ok' := fun k_ => ((fun _ => True)) k_ ∧ some k_ ≠ (u3 : Value).ownBlock) (Kd.R_apart' (HO209.out) (Kd.S_typed HO_3.out) (by decide)) (fun k_ hk => ⟨trivial, hk.2⟩))).1 k_ hk_.symm) ?aF ?aO (Below.refl _ _) ?aS ?aL ?_; (case aP => exact Kd.M_row (Kd.R_mono (Kd.R_tight rfl (Kd.R_mono (ok' := fun k_ => ((fun _ => True)) k_ ∧ some k_ ≠ (u3 : Value).ownBlock) (Kd.R_apart' (HO209.out) (Kd.S_typed HO_3.out) (by decide)) (fun k_ hk => ⟨trivial, hk.2⟩))) (fun _ h_ => h_))); (case aF => exact (fun _ _ => trivial)); (case aO => exact (by (with_reducible repeat (first | apply Kd.S_alloc | apply Kd.S_drewN | apply Kd.S_drew)); exact Kd.S_mono HO_3.out (fun k_ hk => ⟨trivial, fun e_ => hk.2 e_⟩))); (case aS => exact (keep_size (w := w) (g := g) (row := none) (by repeat (first | (with_reducible first | exact HK.out | apply KeepBut.set_ | apply keep_drewN | apply keep_drew | apply keep_alloc) | exact HK.out)))); (case aL => have := LMc8.out; omega); intro v213 w10 ho hb hg hat; rw [← Ny212.out] at ho; have n0_ := Aside0.mk (IsS109.grown (Hd.as_ (fun W_ => IsS109 _ W_ _ _ _ _) HI0.out (by repeat (first | (with_reducible first | exact HI0.out | apply IsS109.alloc | apply IsS109.drewN | apply IsS109.drew | apply IsS109.set_1 | apply IsS109.set_2) | exact HI0.out))) hg (IsS109.own_neS HI0.out HO_3.out (by decide))); have n1_ := Aside0.mk (below_weaken (by repeat (first | (with_reducible first | exact HB.out | apply below_alloc | apply pw_below_drewN | apply below_drew1 | refine below_set ?_ (IsS109.ge HI0.out)) | exact HB.out)) HL.out hb); have n2_ := Aside0.mk (KeepBut.trans (by repeat (first | (with_reducible first | exact HK.out | apply KeepBut.set_ | apply keep_drewN | apply keep_drew | apply keep_alloc) | exact HK.out)) (KeepBut.of_grown hg g) (Kd.S_base2 HO_3.out)); have n3_ := Aside0.mk (ho); clear HI0; clear HB; clear HK; clear HO_3; clear HO209; have HI0 := n0_; have HB := n1_; have HK := n2_; have HO214 := n3_; clear n0_ n1_ n2_ n3_; clear ho hb hg hat))
     go_roundg k1
     case measure => have := HK1.out; omega
     case rel => exact ⟨(y212), (wrap64 (x4_1 - 1)), (t210), (t211), (by first | rfl | (simp; done) | (simp [*]; done)), H', ⟨by have := HK1.out; omega⟩, ⟨by (with_reducible repeat (first | apply Kd.S_alloc | apply Kd.S_drewN | apply Kd.S_drew)); exact HO214.out⟩, ⟨by repeat (first | (with_reducible first | exact HI0.out | apply IsS109.alloc | apply IsS109.drewN | apply IsS109.drew | apply IsS109.set_1 | apply IsS109.set_2) | exact HI0.out)⟩, ⟨by repeat (first | (with_reducible first | exact HK.out | apply KeepBut.set_ | apply keep_drewN | apply keep_drew | apply keep_alloc) | exact HK.out)⟩, ⟨by repeat (first | (with_reducible first | exact HB.out | apply below_alloc | apply pw_below_drewN | apply below_drew1 | refine below_set ?_ (IsS109.ge HI0.out)) | exact HB.out)⟩⟩
    ·
     rw [if_neg c8] at H
     exact absurd H (by simp)
   ·
    rw [if_neg c6] at H
    have c6b0 : decide (0 < x4_1) = false := decide_eq_false c6
    clear c6
    simp only [Option.some.injEq, Prod.mk.injEq] at H
    obtain ⟨rfl, rfl, rfl⟩ := H
    go_wp2
    go_ret
    exact ⟨_, Hd.e_, by (with_reducible repeat (first | apply Kd.S_alloc | apply Kd.S_drewN | apply Kd.S_drew)); exact HO_3.out, by repeat (first | (with_reducible first | exact HI0.out | apply IsS109.alloc | apply IsS109.drewN | apply IsS109.drew | apply IsS109.set_1 | apply IsS109.set_2) | exact HI0.out), by repeat (first | (with_reducible first | exact HB.out | apply below_alloc | apply pw_below_drewN | apply below_drew1 | refine below_set ?_ (IsS109.ge HI0.out)) | exact HB.out), by repeat (first | (with_reducible first | exact HK.out | apply KeepBut.set_ | apply keep_drewN | apply keep_drew | apply keep_alloc) | exact HK.out)⟩
def spec_DrawSafeSimplify.f (k : Nat) (l0 : List Int) : Option ((List (S27)) × (List (List (S27))) × Int) := (spec_l1New.f k l0).bind fun bt215 => ((spec_l6Any.f k bt215.1 bt215.2.1 bt215.2.2).bind fun bt219 => ((spec_l12Others.f k bt215.1 bt219.2.1 bt219.2.2).bind fun bt224 => ((spec_l1Int.f bt215.1 bt224.2.1 bt224.2.2 (([0, 1, 5, 20, 100, 99999, (-1)] : List Int))).bind fun bt232 => (some (bt219.1, bt224.1, bt232.1)))))
set_option maxHeartbeats 8000000 in
set_option maxRecDepth 100000 in
theorem spec_DrawSafeSimplify.calls (k : Nat) (A0 : Option Addr) (c0 : Nat) (l0 : List Int) (r1 : List (S27)) (r2 : List (List (S27))) (r3 : Int) (w : World) (hr0 : Kd.C (Kd.int .u8) w A0 l0.length l0) (hc0 : l0.length ≤ c0) (h : spec_DrawSafeSimplify.f k l0 = some (r1, r2, r3)) :
  Calls Try.prog 47 #[.slice A0 l0.length c0] w fun e w' => ∃ v0_ v1_ : Value, e = .returned (.tuple #[v0_, v1_, .int .i64 r3]) ∧ Kd.R k27 27 w' w.heap.size (fun _ => True) v0_ r1 ∧ Kd.S (Kd.slice 27 k27) 24 w' w.heap.size (fun k_ => some k_ ≠ (v0_ : Value).ownBlock) v1_ r2 ∧ Below w.heap.size w w' := by
 have HR0 := Aside0.mk hr0
 have HC0 := Aside0.mk hc0
 clear hr0 hc0
 have HB := Aside0.mk (Below.refl w.heap.size w)
 have H : ((spec_l1New.f k l0).bind fun bt215 => ((spec_l6Any.f k bt215.1 bt215.2.1 bt215.2.2).bind fun bt219 => ((spec_l12Others.f k bt215.1 bt219.2.1 bt219.2.2).bind fun bt224 => ((spec_l1Int.f bt215.1 bt224.2.1 bt224.2.2 (([0, 1, 5, 20, 100, 99999, (-1)] : List Int))).bind fun bt232 => (some (bt219.1, bt224.1, bt232.1)))))) = some (r1, r2, r3) := h
 clear h
 replace H := Option.bind_eq_some_iff.mp H
 obtain ⟨⟨t215, t216, t217⟩, A20, H⟩ := H
 replace H : ((spec_l6Any.f k t215 t216 t217).bind fun bt219 => ((spec_l12Others.f k t215 bt219.2.1 bt219.2.2).bind fun bt224 => ((spec_l1Int.f t215 bt224.2.1 bt224.2.2 (([0, 1, 5, 20, 100, 99999, (-1)] : List Int))).bind fun bt232 => (some (bt219.1, bt224.1, bt232.1))))) = some (r1, r2, r3) := H
 have A2 := Aside0.mk A20
 clear A20
 replace H := Option.bind_eq_some_iff.mp H
 obtain ⟨⟨t219, t222, t223⟩, A30, H⟩ := H
 replace H : ((spec_l12Others.f k t215 t222 t223).bind fun bt224 => ((spec_l1Int.f t215 bt224.2.1 bt224.2.2 (([0, 1, 5, 20, 100, 99999, (-1)] : List Int))).bind fun bt232 => (some (t219, bt224.1, bt232.1)))) = some (r1, r2, r3) := H
 have A3 := Aside0.mk A30
 clear A30
 replace H := Option.bind_eq_some_iff.mp H
 obtain ⟨⟨t224, t227, t228⟩, A40, H⟩ := H
 replace H : ((spec_l1Int.f t215 t227 t228 (([0, 1, 5, 20, 100, 99999, (-1)] : List Int))).bind fun bt232 => (some (t219, t224, bt232.1))) = some (r1, r2, r3) := H
 have A4 := Aside0.mk A40
 clear A40
 obtain ⟨y229, hy229⟩ : ∃ y_ : List Int, y_ = (([0, 1, 5, 20, 100, 99999, (-1)] : List Int)) := ⟨_, rfl⟩
 replace H : ((spec_l1Int.f t215 t227 t228 y229).bind fun bt232 => (some (t219, t224, bt232.1))) = some (r1, r2, r3) := by first | (rw [hy229]; with_reducible exact H) | (have H2_ := (Option.bind_some _ _).symm.trans H; rw [hy229]; with_reducible exact H2_) | (have H2_ := (Option.bind_some _ _).symm.trans H; with_reducible exact H2_) | with_reducible exact H | (rw [hy229]; exact H) | exact H
 have Ny229 := Aside0.mk hy229
 clear hy229
 replace H := Option.bind_eq_some_iff.mp H
 obtain ⟨⟨t232, t233, t234⟩, A50, H⟩ := H
 replace H : (some (t219, t224, t232)) = some (r1, r2, r3) := H
 have A5 := Aside0.mk A50
 clear A50
 simp only [Option.some.injEq, Prod.mk.injEq] at H
 obtain ⟨rfl, rfl, rfl⟩ := H
 go_enter Try.func47, Try.ntmps47
 go_wp2_with (first | ((with_reducible refine gate_callee (f := 66) rfl ?_); refine goesL_ (some 9) rfl rfl Try.func66 (by kernel_rfl) rfl #[.slice A0 l0.length c0] rfl Hd.m_ ?_; (with_reducible refine (spec_l1New.calls k _ _ l0 t215 t216 t217 w _ ?side1 ?side2 ?side3 A2.out).mono ?_); (case side1 => repeat (first | (with_reducible first | exact HB.out | apply below_alloc | apply pw_below_drewN | apply below_drew1) | exact HB.out)); (case side2 => exact HR0.out); (case side3 => exact HC0.out); rintro e w6 ⟨g218, rfl, hi, hb, hb2⟩; refine ⟨_, rfl, ?_⟩; replace HB := Aside0.mk (hb); have HI218 := Aside0.mk (hi); (try clear hb); (try clear hb2); (try clear hk); (try clear hi)) | ((with_reducible refine gate_callee (f := 78) rfl ?_); refine goesL_ (some 11) rfl rfl Try.func78 (by kernel_rfl) rfl #[.pointer (some ⟨g218, 0, none⟩)] rfl Hd.m_ ?_; (with_reducible refine (spec_l6Any.calls k g218 t215 t216 t217 t219 t222 t223 w _ ?side1 ?side2 A3.out).mono ?_); (case side1 => repeat (first | (with_reducible first | exact HI218.out | apply IsS109.alloc | apply IsS109.drewN | apply IsS109.drew | apply IsS109.set_1 | apply IsS109.set_2) | exact HI218.out)); (case side2 => repeat (first | (with_reducible first | exact HB.out | apply below_alloc | apply pw_below_drewN | apply below_drew1 | refine below_set ?_ (IsS109.ge HI218.out)) | exact HB.out)); rintro e w7 ⟨v220, rfl, ho0, hi, hb, hk⟩; refine ⟨_, rfl, ?_⟩; have HO221 := Aside0.mk (Kd.R_lower ho0 (below_size (by repeat (first | (with_reducible first | exact HB.out | apply below_alloc | apply pw_below_drewN | apply below_drew1 | refine below_set ?_ (IsS109.ge HI218.out)) | exact HB.out)))); replace HB := Aside0.mk (hb); replace HI218 := Aside0.mk (hi); (try clear hb); (try clear hb2); (try clear hk); (try clear hi); (try clear ho0)) | ((with_reducible refine gate_callee (f := 93) rfl ?_); refine goesL_ (some 13) rfl rfl Try.func93 (by kernel_rfl) rfl #[.pointer (some ⟨g218, 0, none⟩)] rfl Hd.m_ ?_; (with_reducible refine (spec_l12Others.calls k g218 t215 t222 t223 t224 t227 t228 w _ ?side1 ?side2 A4.out).mono ?_); (case side1 => repeat (first | (with_reducible first | exact HI218.out | apply IsS109.alloc | apply IsS109.drewN | apply IsS109.drew | apply IsS109.set_1 | apply IsS109.set_2) | exact HI218.out)); (case side2 => repeat (first | (with_reducible first | exact HB.out | apply below_alloc | apply pw_below_drewN | apply below_drew1 | refine below_set ?_ (IsS109.ge HI218.out)) | exact HB.out)); rintro e w8 ⟨v225, rfl, ho0, hi, hb, hk⟩; refine ⟨_, rfl, ?_⟩; have HO226 := Aside0.mk (Kd.S_lower (Kd.S_new' ho0 (Kd.R_lt (Hd.r_ HO221))) (below_size (by repeat (first | (with_reducible first | exact HB.out | apply below_alloc | apply pw_below_drewN | apply below_drew1 | refine below_set ?_ (IsS109.ge HI218.out)) | exact HB.out)))); replace HO221 := Aside0.mk (Kd.R_mono (Kd.R_keep (IsS109.apart (show IsS109 w _ g218 t215 t222 t223 from by repeat (first | (with_reducible first | exact HI218.out | apply IsS109.alloc | apply IsS109.drewN | apply IsS109.drew | apply IsS109.set_1 | apply IsS109.set_2) | exact HI218.out)) (Hd.r_ HO221) (by decide)) hk (fun _ h => h.2)) (fun _ h => h.1)); replace HB := Aside0.mk (hb); replace HI218 := Aside0.mk (hi); (try clear hb); (try clear hb2); (try clear hk); (try clear hi); (try clear ho0)) | ((with_reducible refine gate_dst (N := 17) rfl ?_); refine Kd.R_lit (Kd.int .i64) _ 3 ?hg (N := 17) ?hd (xs := ([0, 1, 5, 20, 100, 99999, (-1)] : List Int)) (inner := [.int .i64 0, .int .i64 1, .int .i64 5, .int .i64 20, .int .i64 100, .int .i64 99999, .int .i64 (-1)]) (ok := fun _ => True) (okp := fun _ => True) ?hr ?hp (fun _ hk => hk) trivial (Below.refl _ _) (Nat.le_refl _) (by simp) ?_; (case hd => rfl); (case hg => rfl); (case hr => first | (go_simp; done) | (go_simp; rfl)); (case hp => exact (Reps.one (show Kd.M (Kd.int .i64) _ _ _ 0 [.int .i64 0] from rfl) (Reps.one (show Kd.M (Kd.int .i64) _ _ _ 1 [.int .i64 1] from rfl) (Reps.one (show Kd.M (Kd.int .i64) _ _ _ 5 [.int .i64 5] from rfl) (Reps.one (show Kd.M (Kd.int .i64) _ _ _ 20 [.int .i64 20] from rfl) (Reps.one (show Kd.M (Kd.int .i64) _ _ _ 100 [.int .i64 100] from rfl) (Reps.one (show Kd.M (Kd.int .i64) _ _ _ 99999 [.int .i64 99999] from rfl) (Reps.one (show Kd.M (Kd.int .i64) _ _ _ (-1) [.int .i64 (-1)] from rfl) (Reps.none _ _))))))))); intro v230 w9 ho10 hb hg_ hnew_; clear hg_ hnew_; (first | rw [← Ny229.out] at ho10 | (simp only [Int.reduceToNat] at ho10; rw [← Ny229.out] at ho10)); replace HO221 := Aside0.mk (Kd.R_below (Hd.r_ HO221) hb); replace HO226 := Aside0.mk (Kd.S_below (by (with_reducible repeat (first | apply Kd.S_alloc | apply Kd.S_drewN | apply Kd.S_drew)); exact HO226.out) hb); have HO231 := Aside0.mk (Kd.R_lower ho10 (below_size (by repeat (first | (with_reducible first | exact HB.out | apply below_alloc | apply pw_below_drewN | apply below_drew1 | refine below_set ?_ (IsS109.ge HI218.out)) | exact HB.out)))); replace HB := Aside0.mk (below_step (by repeat (first | (with_reducible first | exact HB.out | apply below_alloc | apply pw_below_drewN | apply below_drew1 | refine below_set ?_ (IsS109.ge HI218.out)) | exact HB.out)) hb); replace HI218 := Aside0.mk (IsS109.below (by repeat (first | (with_reducible first | exact HI218.out | apply IsS109.alloc | apply IsS109.drewN | apply IsS109.drew | apply IsS109.set_1 | apply IsS109.set_2) | exact HI218.out)) hb); clear hb ho10; obtain ⟨Ao11, co11, eo11⟩ := Kd.R_slice HO231.out; subst eo11) | ((with_reducible refine gate_callee (f := 70) rfl ?_); refine goesL_ (some 18) rfl rfl Try.func70 (by kernel_rfl) rfl #[.pointer (some ⟨g218, 0, none⟩), .slice Ao11 y229.length co11] rfl Hd.m_ ?_; (with_reducible refine (spec_l1Int.calls g218 t215 t227 t228 _ _ y229 t232 t233 t234 w _ ?side1 ?side2 ?side3 ?side4 ?side5 A5.out).mono ?_); (case side1 => repeat (first | (with_reducible first | exact HI218.out | apply IsS109.alloc | apply IsS109.drewN | apply IsS109.drew | apply IsS109.set_1 | apply IsS109.set_2) | exact HI218.out)); (case side2 => repeat (first | (with_reducible first | exact HB.out | apply below_alloc | apply pw_below_drewN | apply below_drew1 | refine below_set ?_ (IsS109.ge HI218.out)) | exact HB.out)); (case side3 => repeat (first | exact (Kd.R_reads' HO231.out).2.2 | (with_reducible refine Kd.C_alloc ?_ _) | (with_reducible refine Kd.C_drewN ?_ _) | (with_reducible refine Kd.C_drew ?_))); (case side4 => exact (Kd.R_reads' HO231.out).2.1); (case side5 => exact far_slice (IsS109.own_ne HI218.out HO231.out (by decide))); rintro e w12 ⟨rfl, hi, hb, hk⟩; refine ⟨_, rfl, ?_⟩; replace HO221 := Aside0.mk (Kd.R_mono (Kd.R_keep (IsS109.apart (show IsS109 w _ g218 t215 t227 t228 from by repeat (first | (with_reducible first | exact HI218.out | apply IsS109.alloc | apply IsS109.drewN | apply IsS109.drew | apply IsS109.set_1 | apply IsS109.set_2) | exact HI218.out)) (Hd.r_ HO221) (by decide)) hk (fun _ h => h.2)) (fun _ h => h.1)); replace HO226 := Aside0.mk (Kd.S_mono (Kd.S_keep (IsS109.apartS (show IsS109 w _ g218 t215 t227 t228 from by repeat (first | (with_reducible first | exact HI218.out | apply IsS109.alloc | apply IsS109.drewN | apply IsS109.drew | apply IsS109.set_1 | apply IsS109.set_2) | exact HI218.out)) (by (with_reducible repeat (first | apply Kd.S_alloc | apply Kd.S_drewN | apply Kd.S_drew)); exact HO226.out) (by decide)) hk (fun _ h => h.2)) (fun _ h => h.1)); replace HO231 := Aside0.mk (Kd.R_mono (Kd.R_keep (IsS109.apart (show IsS109 w _ g218 t215 t227 t228 from by repeat (first | (with_reducible first | exact HI218.out | apply IsS109.alloc | apply IsS109.drewN | apply IsS109.drew | apply IsS109.set_1 | apply IsS109.set_2) | exact HI218.out)) (Hd.r_ HO231) (by decide)) hk (fun _ h => h.2)) (fun _ h => h.1)); replace HB := Aside0.mk (hb); replace HI218 := Aside0.mk (hi); (try clear hb); (try clear hb2); (try clear hk); (try clear hi)))
 go_ret3
 exact ⟨_, _, Hd.e_, by (with_reducible repeat (first | apply Kd.R_alloc | apply Kd.R_drewN | apply Kd.R_drew)); exact HO221.out, by (with_reducible repeat (first | apply Kd.S_alloc | apply Kd.S_drewN | apply Kd.S_drew)); exact Kd.S_mono HO226.out (fun _ hk => hk.2), by repeat (first | (with_reducible first | exact HB.out | apply below_alloc | apply pw_below_drewN | apply below_drew1 | refine below_set ?_ (IsS109.ge HI218.out)) | exact HB.out)⟩
def impl_InRange.f (a0 : Int) (a1 : Int) (a2 : Int) : Option (Bool) := if a1 ≤ a0 then (some (decide (a0 ≤ a2))) else (some false)
set_option maxHeartbeats 8000000 in
set_option maxRecDepth 100000 in
theorem impl_InRange.calls (a0 : Int) (a1 : Int) (a2 : Int) (r : Bool) (w : World) (h : impl_InRange.f a0 a1 a2 = some r) :
  Calls Try.prog 65 #[.int .i64 a0, .int .i64 a1, .int .i64 a2] w fun e w' => e = .returned (.bool r) ∧ Drawn0 w w' := by
 have H : (if a1 ≤ a0 then (some (decide (a0 ≤ a2))) else (some false)) = some r := h
 clear h
 by_cases c4 : a1 ≤ a0
 ·
  rw [if_pos c4] at H
  have c4b0 : decide (a1 ≤ a0) = true := decide_eq_true c4
  clear c4
  obtain rfl := Option.some.inj H
  go_enter Try.func65, Try.ntmps65
  go_wp2
  go_ret
  exact ⟨by first | rfl | (simp; done) | (simp [*]; done), by repeat (first | exact Drawn0.refl _ | apply Drawn0.step)⟩
 ·
  rw [if_neg c4] at H
  have c4b0 : decide (a1 ≤ a0) = false := decide_eq_false c4
  clear c4
  obtain rfl := Option.some.inj H
  go_enter Try.func65, Try.ntmps65
  go_wp2
  go_ret
  exact ⟨by first | rfl | (simp; done) | (simp [*]; done), by repeat (first | exact Drawn0.refl _ | apply Drawn0.step)⟩
def impl_IsPoint.f (a0_0 : Int) (a0_1 : Int) : Option (Bool) := (impl_InRange.f a0_0 0 200).bind fun t236 => (if t236 = true then ((impl_InRange.f a0_1 0 200).bind fun t237 => (some t237)) else (some false))
set_option maxHeartbeats 8000000 in
set_option maxRecDepth 100000 in
theorem impl_IsPoint.calls (a0_0 : Int) (a0_1 : Int) (r : Bool) (w : World) (h : impl_IsPoint.f a0_0 a0_1 = some r) :
  Calls Try.prog 45 #[.agg #[.int .i64 a0_0, .int .i64 a0_1]] w fun e w' => e = .returned (.bool r) ∧ Below w.heap.size w w' := by
 have hu27 := Try.underlying27
 have HB := Aside0.mk (Below.refl w.heap.size w)
 have H : ((impl_InRange.f a0_0 0 200).bind fun t236 => (if t236 = true then ((impl_InRange.f a0_1 0 200).bind fun t237 => (some t237)) else (some false))) = some r := h
 clear h
 replace H := Option.bind_eq_some_iff.mp H
 obtain ⟨t236, A20, H⟩ := H
 replace H : (if t236 = true then ((impl_InRange.f a0_1 0 200).bind fun t237 => (some t237)) else (some false)) = some r := H
 have A2 := Aside0.mk A20
 clear A20
 by_cases c3 : t236 = true
 ·
  subst c3
  have H1 : ((impl_InRange.f a0_1 0 200).bind fun t237 => (some t237)) = some r := by rw [if_pos rfl] at H; exact H
  clear H
  have H := H1
  clear H1
  replace H := Option.bind_eq_some_iff.mp H
  obtain ⟨t237, A40, H⟩ := H
  replace H : (some t237) = some r := H
  have A4 := Aside0.mk A40
  clear A40
  obtain rfl := Option.some.inj H
  go_enter Try.func45, Try.ntmps45
  go_wp2_with (first | ((with_reducible refine gate_dst (N := 1) rfl ?_); refine Hd.box_ 1 (#[.int .i64 a0_0, .int .i64 a0_1]) 27 ?_; intro gb235 hg w5 hbox hb; have BK235 := Aside0.mk (hbox); have GW235 := Aside0.mk ((Hd.g_ hg Hd.b_ : w.heap.size ≤ gb235)); have GE235 := Aside0.mk ((Hd.g_ hg Hd.b_ : w.heap.size ≤ gb235)); replace HB := Aside0.mk (below_step Hd.b_ hb); clear hb hbox hg; obtain ⟨hcz6_0, hcz6_1⟩ := Hd.c2_ BK235.out; obtain ⟨hfz6_0, hfz6_1⟩ := Hd.f2_ BK235.out) | ((with_reducible refine gate_callee (f := 65) rfl ?_); refine goesL_ (some 5) rfl rfl Try.func65 (by kernel_rfl) rfl #[.int .i64 a0_0, .int .i64 0, .int .i64 200] rfl Hd.m_ ?_; (with_reducible refine (impl_InRange.calls a0_0 0 200 true _ A2.out).mono ?_); rintro e w' ⟨rfl, ⟨nd, rfl⟩⟩; refine ⟨_, rfl, ?_⟩) | (go_at_call 65; (with_reducible refine (impl_InRange.calls a0_1 0 200 t237 _ A4.out).mono ?_); rintro e w' ⟨rfl, ⟨nd, rfl⟩⟩))
  go_ret
  exact ⟨Hd.e_, Hd.b_⟩
 ·
  replace c3 := Bool.eq_false_iff.mpr c3
  subst c3
  have H1 : (some false) = some r := by rw [if_neg (show ¬ (false = true) by decide)] at H; exact H
  clear H
  have H := H1
  clear H1
  obtain rfl := Option.some.inj H
  go_enter Try.func45, Try.ntmps45
  go_wp2_with (first | ((with_reducible refine gate_dst (N := 1) rfl ?_); refine Hd.box_ 1 (#[.int .i64 a0_0, .int .i64 a0_1]) 27 ?_; intro gb235 hg w7 hbox hb; have BK235 := Aside0.mk (hbox); have GW235 := Aside0.mk ((Hd.g_ hg Hd.b_ : w.heap.size ≤ gb235)); have GE235 := Aside0.mk ((Hd.g_ hg Hd.b_ : w.heap.size ≤ gb235)); replace HB := Aside0.mk (below_step Hd.b_ hb); clear hb hbox hg; obtain ⟨hcz8_0, hcz8_1⟩ := Hd.c2_ BK235.out; obtain ⟨hfz8_0, hfz8_1⟩ := Hd.f2_ BK235.out) | ((with_reducible refine gate_callee (f := 65) rfl ?_); refine goesL_ (some 5) rfl rfl Try.func65 (by kernel_rfl) rfl #[.int .i64 a0_0, .int .i64 0, .int .i64 200] rfl Hd.m_ ?_; (with_reducible refine (impl_InRange.calls a0_0 0 200 false _ A2.out).mono ?_); rintro e w' ⟨rfl, ⟨nd, rfl⟩⟩; refine ⟨_, rfl, ?_⟩))
  go_ret
  exact ⟨Hd.e_, Hd.b_⟩
mutual
def impl_IsLine.j0 : Nat → List (S27) → Bool → Option (Bool)
 | 0, _, _ => none
 | k + 1, x0, x12 => if x12 = true then (some false) else (impl_IsLine.l0 k x0 x0 (x0.length : Int) 0)
def impl_IsLine.l0 : Nat → List (S27) → List (S27) → Int → Int → Option (Bool)
 | 0, _, _, _, _ => none
 | k + 1, x0, x13, x14, x15 => if x15 < x14 then (if 0 ≤ x15 then (if x15 < (x13.length : Int) then ((impl_IsPoint.f ((rd_T27 x13 x15).f0) ((rd_T27 x13 x15).f1)).bind fun t240 => (if t240 = true then (if x15 > 0 then (if 0 ≤ (wrap64 (x15 - 1)) then (if (wrap64 (x15 - 1)) < (x0.length : Int) then (if (((rd_T27 x13 x15).f0) == ((rd_T27 x0 (wrap64 (x15 - 1))).f0) && (((rd_T27 x13 x15).f1) == ((rd_T27 x0 (wrap64 (x15 - 1))).f1))) = true then (some false) else (impl_IsLine.l0 k x0 x13 x14 (wrap64 (x15 + 1)))) else (none)) else (none)) else (impl_IsLine.l0 k x0 x13 x14 (wrap64 (x15 + 1)))) else (some false))) else (none)) else (none)) else (some true)
end
def impl_IsLine.f (k : Nat) (l0 : List (S27)) : Option (Bool) := if (l0.length : Int) < 2 then (impl_IsLine.j0 k l0 true) else (impl_IsLine.j0 k l0 (decide ((l0.length : Int) > 10)))
set_option maxHeartbeats 8000000 in
set_option maxRecDepth 100000 in
theorem impl_IsLine.calls (k : Nat) (A0 : Option Addr) (c0 : Nat) (l0 : List (S27)) (r : Bool) (w : World) (hr0 : Kd.C k27 w A0 l0.length l0) (hc0 : l0.length ≤ c0) (h : impl_IsLine.f k l0 = some r) :
  Calls Try.prog 33 #[.slice A0 l0.length c0] w fun e w' => e = .returned (.bool r) ∧ Below w.heap.size w w' := by
 have hu27 := Try.underlying27
 have HR0 := Aside0.mk hr0
 have HC0 := Aside0.mk hc0
 clear hr0 hc0
 have HB := Aside0.mk (Below.refl w.heap.size w)
 have H : (if (l0.length : Int) < 2 then (impl_IsLine.j0 k l0 true) else (impl_IsLine.j0 k l0 (decide ((l0.length : Int) > 10)))) = some r := h
 clear h
 have HC2 := Aside0.mk H
 clear H
 go_enter Try.func33, Try.ntmps33
 go_upto_region 1 with (fail)
 go_cut [12] (fun v12 wc => ∃ (kq : Nat) (x12_1 : Bool), v12 = .bool x12_1 ∧ Aside0 (impl_IsLine.j0 kq l0 x12_1 = some r) ∧ Aside0 (kq ≤ k) ∧ Aside0 (Below w.heap.size w wc))
 case first =>
  have H := HC2.out
  clear HC2
  by_cases c3 : (l0.length : Int) < 2
  ·
   rw [if_pos c3] at H
   have c3b0 : decide ((l0.length : Int) < 2) = true := decide_eq_true c3
   have c3b1 : decide (l0.length < 2) = true := decide_eq_true (by omega)
   clear c3
   (first | rw [c3b0] | (simp only [i64_w, i32_w]; rw [c3b0]) | skip)
   have H' := Aside0.mk H
   clear H
   go_wp2
   go_meet
   case rel => exact ⟨_, (true), (by first | rfl | (simp; done) | (simp [*]; done)), H', ⟨by first | omega | exact Nat.le_refl _⟩, ⟨Hd.b_⟩⟩
  ·
   rw [if_neg c3] at H
   have c3b0 : decide ((l0.length : Int) < 2) = false := decide_eq_false c3
   have c3b1 : decide (l0.length < 2) = false := decide_eq_false (by omega)
   clear c3
   (first | rw [c3b0] | (simp only [i64_w, i32_w]; rw [c3b0]) | skip)
   have H' := Aside0.mk H
   clear H
   go_wp2
   go_meet
   case rel => exact ⟨_, (decide ((l0.length : Int) > 10)), (by first | rfl | (simp; done) | (simp [*]; done)), H', ⟨by first | omega | exact Nat.le_refl _⟩, ⟨Hd.b_⟩⟩
 case rest =>
  clear HC2
  try clear p2
  try clear c3
  try clear c3b0
  try clear c3b1
  obtain ⟨kq, x12_1, rfl, HA, HJ1, HB⟩ := hcut
  cases kq with
  | zero => exact absurd HA.out (by simp [impl_IsLine.j0])
  | succ kj1 =>
   have H := HA.out
   clear HA
   simp only [impl_IsLine.j0] at H
   by_cases c4 : x12_1 = true
   ·
    subst c4
    have H1 : (some false) = some r := by rw [if_pos rfl] at H; exact H
    clear H
    have H := H1
    clear H1
    obtain rfl := Option.some.inj H
    go_wp2
    go_ret
    exact ⟨Hd.e_, Hd.b_⟩
   ·
    replace c4 := Bool.eq_false_iff.mpr c4
    subst c4
    have H1 : (impl_IsLine.l0 kj1 l0 l0 (l0.length : Int) 0) = some r := by rw [if_neg (show ¬ (false = true) by decide)] at H; exact H
    clear H
    have H := H1
    clear H1
    have H' := Aside0.mk H
    clear H
    go_wp2
    go_loopg [15] kj1 (fun kq v15 w' => ∃ (x15_2 : Int), v15 = .int .i64 x15_2 ∧ Aside0 (impl_IsLine.l0 kq l0 l0 (l0.length : Int) x15_2 = some r) ∧ Aside0 (kq ≤ kj1) ∧ Aside0 (Below w.heap.size w w'))
    case atStart => exact ⟨(0), (by first | rfl | (simp; done) | (simp [*]; done)), H', ⟨Nat.le_refl _⟩, ⟨Hd.b_⟩⟩
    case round =>
     clear H'
     try clear p2
     try clear c3
     try clear c3b0
     try clear c3b1
     try clear c4
     try clear p2
     obtain ⟨x15_2, rfl, HA, HK2, HB⟩ := hrel
     cases gk with
     | zero => exact absurd HA.out (by simp [impl_IsLine.l0])
     | succ k2 =>
      have H := HA.out
      clear HA
      simp only [impl_IsLine.l0] at H
      by_cases c5 : x15_2 < (l0.length : Int)
      ·
       rw [if_pos c5] at H
       have c5b0 : decide (x15_2 < (l0.length : Int)) = true := decide_eq_true c5
       clear c5
       by_cases c6 : 0 ≤ x15_2
       ·
        rw [if_pos c6] at H
        have c6b0 : decide (0 ≤ x15_2) = true := decide_eq_true c6
        clear c6
        by_cases c7 : x15_2 < (l0.length : Int)
        ·
         rw [if_pos c7] at H
         have c7b0 : decide (x15_2 < (l0.length : Int)) = true := decide_eq_true c7
         clear c7
         replace H := Option.bind_eq_some_iff.mp H
         obtain ⟨t240, A80, H⟩ := H
         replace H : (if t240 = true then (if x15_2 > 0 then (if 0 ≤ (wrap64 (x15_2 - 1)) then (if (wrap64 (x15_2 - 1)) < (l0.length : Int) then (if (((rd_T27 l0 x15_2).f0) == ((rd_T27 l0 (wrap64 (x15_2 - 1))).f0) && (((rd_T27 l0 x15_2).f1) == ((rd_T27 l0 (wrap64 (x15_2 - 1))).f1))) = true then (some false) else (impl_IsLine.l0 k2 l0 l0 (l0.length : Int) (wrap64 (x15_2 + 1)))) else (none)) else (none)) else (impl_IsLine.l0 k2 l0 l0 (l0.length : Int) (wrap64 (x15_2 + 1)))) else (some false)) = some r := H
         have A8 := Aside0.mk A80
         clear A80
         by_cases c9 : t240 = true
         ·
          subst c9
          have H1 : (if x15_2 > 0 then (if 0 ≤ (wrap64 (x15_2 - 1)) then (if (wrap64 (x15_2 - 1)) < (l0.length : Int) then (if (((rd_T27 l0 x15_2).f0) == ((rd_T27 l0 (wrap64 (x15_2 - 1))).f0) && (((rd_T27 l0 x15_2).f1) == ((rd_T27 l0 (wrap64 (x15_2 - 1))).f1))) = true then (some false) else (impl_IsLine.l0 k2 l0 l0 (l0.length : Int) (wrap64 (x15_2 + 1)))) else (none)) else (none)) else (impl_IsLine.l0 k2 l0 l0 (l0.length : Int) (wrap64 (x15_2 + 1)))) = some r := by rw [if_pos rfl] at H; exact H
          clear H
          have H := H1
          clear H1
          by_cases c10 : x15_2 > 0
          ·
           rw [if_pos c10] at H
           have c10b0 : decide (0 < x15_2) = true := decide_eq_true c10
           clear c10
           obtain ⟨ji11, hji11⟩ : ∃ j_ : Int, (wrap64 (x15_2 - 1)) = j_ := ⟨_, rfl⟩
           replace H : (if 0 ≤ (ji11) then (if (ji11) < (l0.length : Int) then (if (((rd_T27 l0 x15_2).f0) == ((rd_T27 l0 (ji11)).f0) && (((rd_T27 l0 x15_2).f1) == ((rd_T27 l0 (ji11)).f1))) = true then (some false) else (impl_IsLine.l0 k2 l0 l0 (l0.length : Int) (wrap64 (x15_2 + 1)))) else (none)) else (none)) = some r := by first | (rw [hji11] at H; exact H) | (simp only [hji11] at H ⊢; exact H)
           (try rw [hji11] at A8)
           have hji11w : (IntKind.i64.wrap (x15_2 - 1)) = ji11 := (i64_w _).trans hji11
           by_cases c12 : 0 ≤ (ji11)
           ·
            rw [if_pos c12] at H
            have c12b0 : decide (0 ≤ (ji11)) = true := decide_eq_true c12
            clear c12
            by_cases c13 : (ji11) < (l0.length : Int)
            ·
             rw [if_pos c13] at H
             have c13b0 : decide ((ji11) < (l0.length : Int)) = true := decide_eq_true c13
             clear c13
             by_cases c14 : (((rd_T27 l0 x15_2).f0) == ((rd_T27 l0 (ji11)).f0) && (((rd_T27 l0 x15_2).f1) == ((rd_T27 l0 (ji11)).f1))) = true
             ·
              rw [if_pos c14] at H
              have c14b0 : (((rd_T27 l0 x15_2).f0) == ((rd_T27 l0 (ji11)).f0) && (((rd_T27 l0 x15_2).f1) == ((rd_T27 l0 (ji11)).f1))) = true := c14
              (try (have c14b1 : decide (((rd_T27 l0 x15_2).f0) = ((rd_T27 l0 (ji11)).f0) && (((rd_T27 l0 x15_2).f1) == ((rd_T27 l0 (ji11)).f1))) = true := by simpa using c14))
              (try (have c14b2 : (((rd_T27 l0 x15_2).f0) == ((rd_T27 l0 (ji11)).f0) && (((rd_T27 l0 x15_2).f1) == ((rd_T27 l0 (ji11)).f1))) = true := by simpa using c14))
              clear c14
              obtain rfl := Option.some.inj H
              have p238 : 0 ≤ (x15_2 : Int) := of_decide_eq_true Hd.a_
              have q238 : x15_2 < (l0.length : Int) := of_decide_eq_true Hd.a_
              obtain ⟨ad238, e238, hx238_0, hx238_1⟩ := at_T27 HR0.out x15_2 p238 q238
              cases e238
              replace hx238_0 := (HB.out.cell (World.block_lt_of_cell? w _ hx238_0)).trans hx238_0
              replace hx238_1 := (HB.out.cell (World.block_lt_of_cell? w _ hx238_1)).trans hx238_1
              replace p238 := eq_true p238
              replace q238 := eq_true q238
              try go_wp2_with (first | ((with_reducible refine gate_dst (N := 4) rfl ?_); (try (refine gate_guard (by rfl) ?_; dsimp only)); refine Hd.box_ 4 (#[.int .i64 0, .int .i64 0]) 27 ?_; intro gb239 hg w15 hbox hb; have BK239 := Aside0.mk (hbox); have GW239 := Aside0.mk ((Hd.g_ hg Hd.b_ : w.heap.size ≤ gb239)); have GE239 := Aside0.mk ((Hd.g_ hg Hd.b_ : w.heap.size ≤ gb239)); replace HB := Aside0.mk (below_step Hd.b_ hb); clear hb hbox hg; obtain ⟨hcz16_0, hcz16_1⟩ := Hd.c2_ BK239.out; obtain ⟨hfz16_0, hfz16_1⟩ := Hd.f2_ BK239.out))
              have n0_ : Aside0 (((w15.setCell ⟨gb239, 0, none⟩ (.int .i64 ((rd_T27 l0 x15_2).f0))).setCell ⟨gb239, 1, none⟩ (.int .i64 ((rd_T27 l0 x15_2).f1))).heap[gb239]? = some (.cells #[.int .i64 ((rd_T27 l0 x15_2).f0), .int .i64 ((rd_T27 l0 x15_2).f1)] 27 (0, 0))) := ⟨by (with_reducible repeat (first | refine blk_drewN ?_ _ | refine blk_drew ?_ | refine blk_alloc ?_ _)); refine blk_put (cs := #[.int .i64 ((rd_T27 l0 x15_2).f0), .int .i64 0]) ?_ 1 _ rfl; (with_reducible repeat (first | refine blk_drewN ?_ _ | refine blk_drew ?_ | refine blk_alloc ?_ _)); refine blk_put (cs := #[.int .i64 0, .int .i64 0]) ?_ 0 _ rfl; (with_reducible repeat (first | refine blk_drewN ?_ _ | refine blk_drew ?_ | refine blk_alloc ?_ _)); exact BK239.out⟩
              have n1_ : Aside0 (Below w.heap.size w ((w15.setCell ⟨gb239, 0, none⟩ (.int .i64 ((rd_T27 l0 x15_2).f0))).setCell ⟨gb239, 1, none⟩ (.int .i64 ((rd_T27 l0 x15_2).f1)))) := ⟨Hd.b_⟩
              (try clear BK239)
              (try clear HB)
              generalize ((w15.setCell ⟨gb239, 0, none⟩ (.int .i64 ((rd_T27 l0 x15_2).f0))).setCell ⟨gb239, 1, none⟩ (.int .i64 ((rd_T27 l0 x15_2).f1))) = w17 at n0_ n1_ ⊢
              have BK239 := n0_
              have HB := n1_
              clear n0_ n1_
              replace BK239 := Aside0.mk (blk_drew BK239.out)
              replace HB := Aside0.mk (below_drew1 HB.out)
              have p241 : 0 ≤ ((ji11) : Int) := of_decide_eq_true Hd.a_
              have q241 : (ji11) < (l0.length : Int) := of_decide_eq_true Hd.a_
              obtain ⟨ad241, e241, hx241_0, hx241_1⟩ := at_T27 HR0.out (ji11) p241 q241
              have hw241_1 := hx241_1
              have hw241_0 := hx241_0
              obtain rfl : ad238 = ad241 := (by injection e241)
              replace hx241_0 := (HB.out.cell (World.block_lt_of_cell? w _ hx241_0)).trans hx241_0
              replace hx241_1 := (HB.out.cell (World.block_lt_of_cell? w _ hx241_1)).trans hx241_1
              replace p241 := eq_true p241
              replace q241 := eq_true q241
              obtain ⟨s0_, s1_⟩ := Hd.HW.k2 (W0 := w17.drew) BK239
              have s2_ := Hd.HW.x (W0 := w17.drew) ((HB.out.cell (World.block_lt_of_cell? w _ hw241_0)).trans hw241_0)
              have s3_ := Hd.HW.x (W0 := w17.drew) ((HB.out.cell (World.block_lt_of_cell? w _ hw241_1)).trans hw241_1)
              refine Hd.HW.region (by kernel_rfl) (by kernel_rfl) ?_
              repeat (go_big_quiet_step ((first | (go_at_call 45; with_reducible exact Hd.HW.c (impl_IsPoint.calls ((rd_T27 l0 x15_2).f0) ((rd_T27 l0 x15_2).f1) true _ A8.out)))))
              refine wpQuiet_nil ?_
              intro _ hq_
              obtain ⟨q_, rfl⟩ := hq_
              clear s0_ s1_ s2_ s3_
              replace BK239 := Aside0.mk (blk_below BK239.out q_.b)
              replace HB := Aside0.mk (below_step HB.out q_.b)
              replace hx241_0 := q_.cell hx241_0
              replace hx241_1 := q_.cell hx241_1
              generalize q_.W = w19 at BK239 HB hx241_0 hx241_1 ⊢
              try simp only [i64_w, i32_w]
              try go_wp2
              go_ret
              exact ⟨by first | rfl | (simp [errW_none, errW_some] <;> rfl) | (simp only [← hji11]; first | rfl | (simp [errW_none, errW_some] <;> rfl)) | (simp [*, errW_none, errW_some] <;> rfl), Hd.b_⟩
             ·
              rw [if_neg c14] at H
              have c14b0 : (((rd_T27 l0 x15_2).f0) == ((rd_T27 l0 (ji11)).f0) && (((rd_T27 l0 x15_2).f1) == ((rd_T27 l0 (ji11)).f1))) = false := by simpa using c14
              (try (have c14b1 : decide (((rd_T27 l0 x15_2).f0) = ((rd_T27 l0 (ji11)).f0) && (((rd_T27 l0 x15_2).f1) == ((rd_T27 l0 (ji11)).f1))) = false := by simpa using c14))
              (try (have c14b2 : (((rd_T27 l0 x15_2).f0) == ((rd_T27 l0 (ji11)).f0) && (((rd_T27 l0 x15_2).f1) == ((rd_T27 l0 (ji11)).f1))) = false := by simpa using c14))
              (try (have c14b3 : ¬ (((rd_T27 l0 x15_2).f0) = ((rd_T27 l0 (ji11)).f0) && (((rd_T27 l0 x15_2).f1) == ((rd_T27 l0 (ji11)).f1))) := by simpa using c14))
              clear c14
              have H' := Aside0.mk H
              clear H
              have p238 : 0 ≤ (x15_2 : Int) := of_decide_eq_true Hd.a_
              have q238 : x15_2 < (l0.length : Int) := of_decide_eq_true Hd.a_
              obtain ⟨ad238, e238, hx238_0, hx238_1⟩ := at_T27 HR0.out x15_2 p238 q238
              cases e238
              replace hx238_0 := (HB.out.cell (World.block_lt_of_cell? w _ hx238_0)).trans hx238_0
              replace hx238_1 := (HB.out.cell (World.block_lt_of_cell? w _ hx238_1)).trans hx238_1
              replace p238 := eq_true p238
              replace q238 := eq_true q238
              try go_wp2_with (first | ((with_reducible refine gate_dst (N := 4) rfl ?_); (try (refine gate_guard (by rfl) ?_; dsimp only)); refine Hd.box_ 4 (#[.int .i64 0, .int .i64 0]) 27 ?_; intro gb239 hg w20 hbox hb; have BK239 := Aside0.mk (hbox); have GW239 := Aside0.mk ((Hd.g_ hg Hd.b_ : w.heap.size ≤ gb239)); have GE239 := Aside0.mk ((Hd.g_ hg Hd.b_ : w.heap.size ≤ gb239)); replace HB := Aside0.mk (below_step Hd.b_ hb); clear hb hbox hg; obtain ⟨hcz21_0, hcz21_1⟩ := Hd.c2_ BK239.out; obtain ⟨hfz21_0, hfz21_1⟩ := Hd.f2_ BK239.out))
              have n0_ : Aside0 (((w20.setCell ⟨gb239, 0, none⟩ (.int .i64 ((rd_T27 l0 x15_2).f0))).setCell ⟨gb239, 1, none⟩ (.int .i64 ((rd_T27 l0 x15_2).f1))).heap[gb239]? = some (.cells #[.int .i64 ((rd_T27 l0 x15_2).f0), .int .i64 ((rd_T27 l0 x15_2).f1)] 27 (0, 0))) := ⟨by (with_reducible repeat (first | refine blk_drewN ?_ _ | refine blk_drew ?_ | refine blk_alloc ?_ _)); refine blk_put (cs := #[.int .i64 ((rd_T27 l0 x15_2).f0), .int .i64 0]) ?_ 1 _ rfl; (with_reducible repeat (first | refine blk_drewN ?_ _ | refine blk_drew ?_ | refine blk_alloc ?_ _)); refine blk_put (cs := #[.int .i64 0, .int .i64 0]) ?_ 0 _ rfl; (with_reducible repeat (first | refine blk_drewN ?_ _ | refine blk_drew ?_ | refine blk_alloc ?_ _)); exact BK239.out⟩
              have n1_ : Aside0 (Below w.heap.size w ((w20.setCell ⟨gb239, 0, none⟩ (.int .i64 ((rd_T27 l0 x15_2).f0))).setCell ⟨gb239, 1, none⟩ (.int .i64 ((rd_T27 l0 x15_2).f1)))) := ⟨Hd.b_⟩
              (try clear BK239)
              (try clear HB)
              generalize ((w20.setCell ⟨gb239, 0, none⟩ (.int .i64 ((rd_T27 l0 x15_2).f0))).setCell ⟨gb239, 1, none⟩ (.int .i64 ((rd_T27 l0 x15_2).f1))) = w22 at n0_ n1_ ⊢
              have BK239 := n0_
              have HB := n1_
              clear n0_ n1_
              replace BK239 := Aside0.mk (blk_drew BK239.out)
              replace HB := Aside0.mk (below_drew1 HB.out)
              have p241 : 0 ≤ ((ji11) : Int) := of_decide_eq_true Hd.a_
              have q241 : (ji11) < (l0.length : Int) := of_decide_eq_true Hd.a_
              obtain ⟨ad241, e241, hx241_0, hx241_1⟩ := at_T27 HR0.out (ji11) p241 q241
              have hw241_1 := hx241_1
              have hw241_0 := hx241_0
              obtain rfl : ad238 = ad241 := (by injection e241)
              replace hx241_0 := (HB.out.cell (World.block_lt_of_cell? w _ hx241_0)).trans hx241_0
              replace hx241_1 := (HB.out.cell (World.block_lt_of_cell? w _ hx241_1)).trans hx241_1
              replace p241 := eq_true p241
              replace q241 := eq_true q241
              obtain ⟨s0_, s1_⟩ := Hd.HW.k2 (W0 := w22.drew) BK239
              have s2_ := Hd.HW.x (W0 := w22.drew) ((HB.out.cell (World.block_lt_of_cell? w _ hw241_0)).trans hw241_0)
              have s3_ := Hd.HW.x (W0 := w22.drew) ((HB.out.cell (World.block_lt_of_cell? w _ hw241_1)).trans hw241_1)
              refine Hd.HW.region (by kernel_rfl) (by kernel_rfl) ?_
              repeat (go_big_quiet_step ((first | (go_at_call 45; with_reducible exact Hd.HW.c (impl_IsPoint.calls ((rd_T27 l0 x15_2).f0) ((rd_T27 l0 x15_2).f1) true _ A8.out)))))
              refine wpQuiet_nil ?_
              intro _ hq_
              obtain ⟨q_, rfl⟩ := hq_
              clear s0_ s1_ s2_ s3_
              replace BK239 := Aside0.mk (blk_below BK239.out q_.b)
              replace HB := Aside0.mk (below_step HB.out q_.b)
              replace hx241_0 := q_.cell hx241_0
              replace hx241_1 := q_.cell hx241_1
              generalize q_.W = w24 at BK239 HB hx241_0 hx241_1 ⊢
              try simp only [i64_w, i32_w]
              try go_wp2
              go_roundg k2
              case measure => have := HJ1.out; have := HK2.out; omega
              case rel => exact ⟨(wrap64 (x15_2 + 1)), (by first | rfl | (simp; done) | (simp [*]; done)), H', ⟨by have := HJ1.out; have := HK2.out; omega⟩, ⟨Hd.b_⟩⟩
            ·
             rw [if_neg c13] at H
             exact absurd H (by simp)
           ·
            rw [if_neg c12] at H
            exact absurd H (by simp)
          ·
           rw [if_neg c10] at H
           have c10b0 : decide (0 < x15_2) = false := decide_eq_false c10
           clear c10
           have H' := Aside0.mk H
           clear H
           have p238 : 0 ≤ (x15_2 : Int) := of_decide_eq_true Hd.a_
           have q238 : x15_2 < (l0.length : Int) := of_decide_eq_true Hd.a_
           obtain ⟨ad238, e238, hx238_0, hx238_1⟩ := at_T27 HR0.out x15_2 p238 q238
           cases e238
           replace hx238_0 := (HB.out.cell (World.block_lt_of_cell? w _ hx238_0)).trans hx238_0
           replace hx238_1 := (HB.out.cell (World.block_lt_of_cell? w _ hx238_1)).trans hx238_1
           replace p238 := eq_true p238
           replace q238 := eq_true q238
           try go_wp2_with (first | ((with_reducible refine gate_dst (N := 4) rfl ?_); (try (refine gate_guard (by rfl) ?_; dsimp only)); refine Hd.box_ 4 (#[.int .i64 0, .int .i64 0]) 27 ?_; intro gb239 hg w25 hbox hb; have BK239 := Aside0.mk (hbox); have GW239 := Aside0.mk ((Hd.g_ hg Hd.b_ : w.heap.size ≤ gb239)); have GE239 := Aside0.mk ((Hd.g_ hg Hd.b_ : w.heap.size ≤ gb239)); replace HB := Aside0.mk (below_step Hd.b_ hb); clear hb hbox hg; obtain ⟨hcz26_0, hcz26_1⟩ := Hd.c2_ BK239.out; obtain ⟨hfz26_0, hfz26_1⟩ := Hd.f2_ BK239.out))
           have n0_ : Aside0 (((w25.setCell ⟨gb239, 0, none⟩ (.int .i64 ((rd_T27 l0 x15_2).f0))).setCell ⟨gb239, 1, none⟩ (.int .i64 ((rd_T27 l0 x15_2).f1))).heap[gb239]? = some (.cells #[.int .i64 ((rd_T27 l0 x15_2).f0), .int .i64 ((rd_T27 l0 x15_2).f1)] 27 (0, 0))) := ⟨by (with_reducible repeat (first | refine blk_drewN ?_ _ | refine blk_drew ?_ | refine blk_alloc ?_ _)); refine blk_put (cs := #[.int .i64 ((rd_T27 l0 x15_2).f0), .int .i64 0]) ?_ 1 _ rfl; (with_reducible repeat (first | refine blk_drewN ?_ _ | refine blk_drew ?_ | refine blk_alloc ?_ _)); refine blk_put (cs := #[.int .i64 0, .int .i64 0]) ?_ 0 _ rfl; (with_reducible repeat (first | refine blk_drewN ?_ _ | refine blk_drew ?_ | refine blk_alloc ?_ _)); exact BK239.out⟩
           have n1_ : Aside0 (Below w.heap.size w ((w25.setCell ⟨gb239, 0, none⟩ (.int .i64 ((rd_T27 l0 x15_2).f0))).setCell ⟨gb239, 1, none⟩ (.int .i64 ((rd_T27 l0 x15_2).f1)))) := ⟨Hd.b_⟩
           (try clear BK239)
           (try clear HB)
           generalize ((w25.setCell ⟨gb239, 0, none⟩ (.int .i64 ((rd_T27 l0 x15_2).f0))).setCell ⟨gb239, 1, none⟩ (.int .i64 ((rd_T27 l0 x15_2).f1))) = w27 at n0_ n1_ ⊢
           have BK239 := n0_
           have HB := n1_
           clear n0_ n1_
           replace BK239 := Aside0.mk (blk_drew BK239.out)
           replace HB := Aside0.mk (below_drew1 HB.out)
           obtain ⟨s0_, s1_⟩ := Hd.HW.k2 (W0 := w27.drew) BK239
           refine Hd.HW.region (by kernel_rfl) (by kernel_rfl) ?_
           repeat (go_big_quiet_step ((first | (go_at_call 45; with_reducible exact Hd.HW.c (impl_IsPoint.calls ((rd_T27 l0 x15_2).f0) ((rd_T27 l0 x15_2).f1) true _ A8.out)))))
           refine wpQuiet_nil ?_
           intro _ hq_
           obtain ⟨q_, rfl⟩ := hq_
           clear s0_ s1_
           replace BK239 := Aside0.mk (blk_below BK239.out q_.b)
           replace HB := Aside0.mk (below_step HB.out q_.b)
           generalize q_.W = w29 at BK239 HB ⊢
           try simp only [i64_w, i32_w]
           try go_wp2
           go_roundg k2
           case measure => have := HJ1.out; have := HK2.out; omega
           case rel => exact ⟨(wrap64 (x15_2 + 1)), (by first | rfl | (simp; done) | (simp [*]; done)), H', ⟨by have := HJ1.out; have := HK2.out; omega⟩, ⟨Hd.b_⟩⟩
         ·
          replace c9 := Bool.eq_false_iff.mpr c9
          subst c9
          have H1 : (some false) = some r := by rw [if_neg (show ¬ (false = true) by decide)] at H; exact H
          clear H
          have H := H1
          clear H1
          obtain rfl := Option.some.inj H
          have p238 : 0 ≤ (x15_2 : Int) := of_decide_eq_true Hd.a_
          have q238 : x15_2 < (l0.length : Int) := of_decide_eq_true Hd.a_
          obtain ⟨ad238, e238, hx238_0, hx238_1⟩ := at_T27 HR0.out x15_2 p238 q238
          cases e238
          replace hx238_0 := (HB.out.cell (World.block_lt_of_cell? w _ hx238_0)).trans hx238_0
          replace hx238_1 := (HB.out.cell (World.block_lt_of_cell? w _ hx238_1)).trans hx238_1
          replace p238 := eq_true p238
          replace q238 := eq_true q238
          try go_wp2_with (first | ((with_reducible refine gate_dst (N := 4) rfl ?_); (try (refine gate_guard (by rfl) ?_; dsimp only)); refine Hd.box_ 4 (#[.int .i64 0, .int .i64 0]) 27 ?_; intro gb239 hg w30 hbox hb; have BK239 := Aside0.mk (hbox); have GW239 := Aside0.mk ((Hd.g_ hg Hd.b_ : w.heap.size ≤ gb239)); have GE239 := Aside0.mk ((Hd.g_ hg Hd.b_ : w.heap.size ≤ gb239)); replace HB := Aside0.mk (below_step Hd.b_ hb); clear hb hbox hg; obtain ⟨hcz31_0, hcz31_1⟩ := Hd.c2_ BK239.out; obtain ⟨hfz31_0, hfz31_1⟩ := Hd.f2_ BK239.out))
          have n0_ : Aside0 (((w30.setCell ⟨gb239, 0, none⟩ (.int .i64 ((rd_T27 l0 x15_2).f0))).setCell ⟨gb239, 1, none⟩ (.int .i64 ((rd_T27 l0 x15_2).f1))).heap[gb239]? = some (.cells #[.int .i64 ((rd_T27 l0 x15_2).f0), .int .i64 ((rd_T27 l0 x15_2).f1)] 27 (0, 0))) := ⟨by (with_reducible repeat (first | refine blk_drewN ?_ _ | refine blk_drew ?_ | refine blk_alloc ?_ _)); refine blk_put (cs := #[.int .i64 ((rd_T27 l0 x15_2).f0), .int .i64 0]) ?_ 1 _ rfl; (with_reducible repeat (first | refine blk_drewN ?_ _ | refine blk_drew ?_ | refine blk_alloc ?_ _)); refine blk_put (cs := #[.int .i64 0, .int .i64 0]) ?_ 0 _ rfl; (with_reducible repeat (first | refine blk_drewN ?_ _ | refine blk_drew ?_ | refine blk_alloc ?_ _)); exact BK239.out⟩
          have n1_ : Aside0 (Below w.heap.size w ((w30.setCell ⟨gb239, 0, none⟩ (.int .i64 ((rd_T27 l0 x15_2).f0))).setCell ⟨gb239, 1, none⟩ (.int .i64 ((rd_T27 l0 x15_2).f1)))) := ⟨Hd.b_⟩
          (try clear BK239)
          (try clear HB)
          generalize ((w30.setCell ⟨gb239, 0, none⟩ (.int .i64 ((rd_T27 l0 x15_2).f0))).setCell ⟨gb239, 1, none⟩ (.int .i64 ((rd_T27 l0 x15_2).f1))) = w32 at n0_ n1_ ⊢
          have BK239 := n0_
          have HB := n1_
          clear n0_ n1_
          replace BK239 := Aside0.mk (blk_drew BK239.out)
          replace HB := Aside0.mk (below_drew1 HB.out)
          obtain ⟨s0_, s1_⟩ := Hd.HW.k2 (W0 := w32.drew) BK239
          refine Hd.HW.region (by kernel_rfl) (by kernel_rfl) ?_
          repeat (go_big_quiet_step ((first | (go_at_call 45; with_reducible exact Hd.HW.c (impl_IsPoint.calls ((rd_T27 l0 x15_2).f0) ((rd_T27 l0 x15_2).f1) false _ A8.out)))))
          refine wpQuiet_nil ?_
          intro _ hq_
          obtain ⟨q_, rfl⟩ := hq_
          clear s0_ s1_
          replace BK239 := Aside0.mk (blk_below BK239.out q_.b)
          replace HB := Aside0.mk (below_step HB.out q_.b)
          generalize q_.W = w34 at BK239 HB ⊢
          try simp only [i64_w, i32_w]
          try go_wp2
          go_ret
          exact ⟨Hd.e_, Hd.b_⟩
        ·
         rw [if_neg c7] at H
         exact absurd H (by simp)
       ·
        rw [if_neg c6] at H
        exact absurd H (by simp)
      ·
       rw [if_neg c5] at H
       have c5b0 : decide (x15_2 < (l0.length : Int)) = false := decide_eq_false c5
       clear c5
       obtain rfl := Option.some.inj H
       go_wp2
       go_ret
       exact ⟨Hd.e_, Hd.b_⟩
end Go.Proofs.Ytbackoeakepngaa.MFnSafe
