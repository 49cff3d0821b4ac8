-- Laid by this session's program pp.py, after the kit's print and texts of the session's own. Not trusted: Lean checks it.
import Derived.Test.YtchmbcembbbplacZIsSourceMx0
import Derived.Test.YtchmbcembbbplacZIsSourceMx1
import Derived.Test.YtchmbcembbbplacZIsSourceMx7
namespace Go.Proofs.Ytchmbcembbbplac.MFnExactIsSource
open Go.RowKit Go.Proofs.YtchmbcembbbplacW.PrintWords Go.Proofs.YtchmbcembbbplacW.PrintLast Go.Proofs.YtchmbcembbbplacW.PrintMore
attribute [local go_sem] max2_int min2_int max_two min_two max_three min_three max_four min_four   -- for this text's walks alone
set_option linter.unusedVariables false
set_option linter.unusedSimpArgs false
attribute [local go_sem high] eqA49
def laws_toPointS.l0 : Nat → List (S98) → List (S49) → Int → Option ((List (S49)))
 | 0, _, _, _ => none
 | k + 1, x0, x3, x4 => if x4 < (x0.length : Int) then (if 0 ≤ x4 then ((laws_toPoint.f ((rd_T98 x0 x4).f0) ((rd_T98 x0 x4).f1)).bind fun bt233 => (if x4 < (x3.length : Int) then (laws_toPointS.l0 k x0 (x3.set (x4 : Int).toNat (⟨bt233.1, bt233.2⟩ : S49)) (wrap64 (x4 + 1))) else (none))) else (none)) else (some x3)
def laws_toPointS.f (k : Nat) (l0 : List (S98)) : Option ((List (S49))) := if 0 ≤ (l0.length : Int) then (if ((l0.length : Int) : Int).toNat ≤ 17592186044416 then (laws_toPointS.l0 k l0 (List.replicate ((l0.length : Int) : Int).toNat z49) 0) else (none)) else (none)
set_option maxHeartbeats 8000000 in
set_option maxRecDepth 100000 in
theorem laws_toPointS.calls (k : Nat) (A0 : Option Addr) (c0 : Nat) (l0 : List (S98)) (r : List (S49)) (w : World) (hr0 : Kd.C k98 w A0 l0.length l0) (hc0 : l0.length ≤ c0) (h : laws_toPointS.f k l0 = some r) :
  Calls Try.prog 18 #[.slice A0 l0.length c0] w fun e w' => ∃ v0_ : Value, e = .returned (v0_) ∧ Kd.R k49 49 w' w.heap.size (fun _ => True) v0_ r ∧ Below w.heap.size w w' := by
 have hu98 := Try.underlying98
 have hu49 := Try.underlying49
 have HR0 := Aside0.mk hr0
 have HC0 := Aside0.mk hc0
 clear hr0 hc0
 have HB := Aside0.mk (Below.refl w.heap.size w)
 have H : (if 0 ≤ (l0.length : Int) then (if ((l0.length : Int) : Int).toNat ≤ 17592186044416 then (laws_toPointS.l0 k l0 (List.replicate ((l0.length : Int) : Int).toNat z49) 0) else (none)) else (none)) = some r := h
 clear h
 by_cases c2 : 0 ≤ (l0.length : Int)
 ·
  rw [if_pos c2] at H
  have c2b0 := eq_true c2
  have c2b1 : decide (0 ≤ (l0.length : Int)) = true := decide_eq_true c2
  clear c2
  by_cases c3 : ((l0.length : Int) : Int).toNat ≤ 17592186044416
  ·
   rw [if_pos c3] at H
   have c3b0 := eq_true c3
   have c3b1 : decide (((l0.length : Int) : Int).toNat ≤ 17592186044416) = true := decide_eq_true c3
   clear c3
   obtain ⟨y229, hy229⟩ : ∃ y_ : List (S49), y_ = (List.replicate ((l0.length : Int) : Int).toNat z49) := ⟨_, rfl⟩
   replace H : (laws_toPointS.l0 k l0 y229 0) = some r := by first | (rw [hy229]; with_reducible exact H) | (have H2_ := (Option.bind_some _ _).symm.trans H; rw [hy229]; with_reducible exact H2_) | (have H2_ := (Option.bind_some _ _).symm.trans H; with_reducible exact H2_) | with_reducible exact H | (rw [hy229]; exact H) | exact H
   have Ny229 := Aside0.mk hy229
   clear hy229
   have H' := Aside0.mk H
   clear H
   go_enter Try.func18, Try.ntmps18
   go_wp2_with (first | ((with_reducible refine gate_dst (N := 7) rfl ?_); refine Kd.R_make k49 _ 49 rfl (N := 7) rfl 28 _ _ rfl (l0.length : Int) rfl rfl Try.underlying28 (.agg #[(.int .i64 0), (.int .i64 0)]) 16 info49 rfl (by decide) (by omega) z49 (ok := fun _ => True) (okp := fun _ => True) (k49_mkM _ _ _ z49 ) (fun _ hk => hk) trivial (of_decide_eq_true Hd.a_) (Nat.le_trans (Nat.mul_le_mul_right _ (of_decide_eq_true Hd.a_ : (l0.length : Int).toNat ≤ 17592186044416)) (by omega)) (Below.refl _ _) (Nat.le_refl _) ?_; intro v230 w4 ho5 hb hg_ hnew_; clear hg_ hnew_; (first | rw [← Ny229.out] at ho5 | (simp only [Int.reduceToNat] at ho5; rw [← Ny229.out] at ho5)); have HO231 := Aside0.mk (Kd.R_lower ho5 (below_size Hd.b_)); replace HB := Aside0.mk (below_step Hd.b_ hb); clear hb ho5))
   go_loopg [4] k (fun kq v4 w' => ∃ (x3_1 : List (S49)) (x4_1 : Int), v4 = .int .i64 x4_1 ∧ Aside0 (laws_toPointS.l0 kq l0 x3_1 x4_1 = some r) ∧ Aside0 (kq ≤ k) ∧ Aside0 (Kd.R k49 49 w' w.heap.size (fun _ => True) v230 x3_1) ∧ Aside0 (Below w.heap.size w w'))
   case atStart => exact ⟨(y229), (0), (by first | rfl | (simp; done) | (simp [*]; done)), H', ⟨Nat.le_refl _⟩, ⟨by (with_reducible repeat (first | apply Kd.R_alloc | apply Kd.R_drewN | apply Kd.R_drew)); exact HO231.out⟩, ⟨Hd.b_⟩⟩
   case round =>
    clear H'
    try clear c1
    try clear c2
    try clear c2b0
    try clear c2b1
    try clear p2
    try clear c3
    try clear c3b0
    try clear c3b1
    obtain ⟨x3_1, x4_1, rfl, HA, HK1, HO_3, HB⟩ := hrel
    cases gk with
    | zero => exact absurd HA.out (by simp [laws_toPointS.l0])
    | succ k1 =>
     have H := HA.out
     clear HA
     simp only [laws_toPointS.l0] at H
     by_cases c6 : x4_1 < (l0.length : Int)
     ·
      rw [if_pos c6] at H
      have c6b0 : decide (x4_1 < (l0.length : Int)) = true := decide_eq_true c6
      clear c6
      by_cases c7 : 0 ≤ x4_1
      ·
       rw [if_pos c7] at H
       have c7b0 : decide (0 ≤ x4_1) = true := decide_eq_true c7
       clear c7
       replace H := Option.bind_eq_some_iff.mp H
       obtain ⟨⟨t233, t234⟩, A80, H⟩ := H
       replace H : (if x4_1 < (x3_1.length : Int) then (laws_toPointS.l0 k1 l0 (x3_1.set (x4_1 : Int).toNat (⟨t233, t234⟩ : S49)) (wrap64 (x4_1 + 1))) else (none)) = some r := H
       have A8 := Aside0.mk A80
       clear A80
       by_cases c9 : x4_1 < (x3_1.length : Int)
       ·
        rw [if_pos c9] at H
        have c9b0 : decide (x4_1 < (x3_1.length : Int)) = true := decide_eq_true c9
        clear c9
        obtain ⟨y235, hy235⟩ : ∃ y_ : List (S49), y_ = (x3_1.set (x4_1 : Int).toNat (⟨t233, t234⟩ : S49)) := ⟨_, rfl⟩
        replace H : (laws_toPointS.l0 k1 l0 y235 (wrap64 (x4_1 + 1))) = some r := by first | (rw [hy235]; with_reducible exact H) | (have H2_ := (Option.bind_some _ _).symm.trans H; rw [hy235]; with_reducible exact H2_) | (have H2_ := (Option.bind_some _ _).symm.trans H; with_reducible exact H2_) | with_reducible exact H | (rw [hy235]; exact H) | exact H
        have Ny235 := Aside0.mk hy235
        clear hy235
        have H' := Aside0.mk H
        clear H
        have p232 : 0 ≤ (x4_1 : Int) := of_decide_eq_true Hd.a_
        have q232 : x4_1 < (l0.length : Int) := of_decide_eq_true Hd.a_
        obtain ⟨ad232, e232, hx232_0, hx232_1⟩ := at_T98 HR0.out x4_1 p232 q232
        cases e232
        replace hx232_0 := (HB.out.cell (World.block_lt_of_cell? w _ hx232_0)).trans hx232_0
        replace hx232_1 := (HB.out.cell (World.block_lt_of_cell? w _ hx232_1)).trans hx232_1
        replace p232 := eq_true p232
        replace q232 := eq_true q232
        go_wp2_with (first | ((with_reducible refine gate_callee (f := 79) rfl ?_); refine goesL_ (some 20) rfl rfl Try.func79 (by kernel_rfl) rfl #[.agg #[.int .i64 ((rd_T98 l0 x4_1).f0), .int .i64 ((rd_T98 l0 x4_1).f1)]] rfl Hd.m_ ?_; (with_reducible refine (laws_toPoint.calls ((rd_T98 l0 x4_1).f0) ((rd_T98 l0 x4_1).f1) t233 t234 _ A8.out).mono ?_); rintro e w11 ⟨rfl, hb⟩; refine ⟨_, rfl, ?_⟩; replace HO_3 := Aside0.mk (Kd.R_below (Hd.r_ HO_3) hb); replace HB := Aside0.mk (below_step Hd.b_ hb); (try clear hb); (try clear hb2); (try clear hk); (try clear hi); have p10 : 0 ≤ (x4_1 : Int) := of_decide_eq_true Hd.a_; have q10 : (x4_1 : Int) < ((x3_1.length : Int) : Int) := of_decide_eq_true Hd.a_; obtain ⟨go10, co10, eo10, gb10, gl10, cl10, HG10⟩ := Kd.R_form HO_3.out (by omega); (first | cases eo10 | (injection eo10 with ea_ en_ ec_; (first | subst ea_ | (injection ea_ with ea_; subst ea_)); subst ec_; clear en_)); have GB10 := Aside0.mk gb10; have GG10 := Aside0.mk HG10; clear gb10 gl10 HG10; obtain ⟨ce10, hcl10, hM10, hcc10, hfr10⟩ := Kd.R_elem HO_3.out z49 (x4_1 : Int) p10 q10; obtain rfl := k49_openM hM10; have hx10_0 : w11.cell? ⟨go10, (x4_1 : Int).toNat * 2, none⟩ = some (.int .i64 ((rd_T49 x3_1 x4_1).f0)) := hcc10 0 _ rfl; have hx10_1 : w11.cell? ⟨go10, (x4_1 : Int).toNat * 2 + 1, none⟩ = some (.int .i64 ((rd_T49 x3_1 x4_1).f1)) := hcc10 1 _ rfl; have hf10_0 : w11.frozen? ⟨go10, (x4_1 : Int).toNat * 2, none⟩ = false := hfr10 0; have hf10_1 : w11.frozen? ⟨go10, (x4_1 : Int).toNat * 2 + 1, none⟩ = false := hfr10 1; clear hcl10 hcc10 hfr10 hM10; replace p10 := eq_true p10; replace q10 := eq_true q10; have HX12 := Aside0.mk (show Kd.R k49 49 w11 w.heap.size (fun _ => True) (.slice (some ⟨go10, 0, none⟩) x3_1.length co10) x3_1 from (Hd.r_ HO_3)); obtain ⟨ce12, hcl12, hM12, hcc12, hfr12⟩ := Kd.R_elem HX12.out z49 (x4_1 : Int) (of_decide_eq_true Hd.a_) (by have h_ : (x4_1 : Int) < ((x3_1.length : Int) : Int) := of_decide_eq_true Hd.a_; first | exact h_ | (have e_ := (Kd.R_reads' HO_3.out).1; omega) | simpa using h_); obtain rfl := k49_openM hM12; have HP12 := Kd.R_seg HX12.out (x4_1 : Int) (of_decide_eq_true Hd.a_) (by have h_ : (x4_1 : Int) < ((x3_1.length : Int) : Int) := of_decide_eq_true Hd.a_; first | exact h_ | (have e_ := (Kd.R_reads' HO_3.out).1; omega) | simpa using h_) (seg := [.int .i64 t233, .int .i64 t234]) (j := 0) hcl12 hcc12 (show 2 ≤ 2 from by decide) (x' := (⟨t233, t234⟩ : S49)) (k49_mkM _ _ _ (⟨t233, t234⟩ : S49) ) (fun _ hk => hk); have hx12_0 := hcc12 0 _ rfl; (try simp only [show (k49).sz = 2 from rfl, Nat.mul_one, Nat.add_zero] at hx12_0); have hf12_0 := hfr12 0; (try simp only [show (k49).sz = 2 from rfl, Nat.mul_one, Nat.add_zero] at hf12_0); have hx12_1 := hcc12 1 _ rfl; (try simp only [show (k49).sz = 2 from rfl, Nat.mul_one, Nat.add_zero] at hx12_1); have hf12_1 := hfr12 1; (try simp only [show (k49).sz = 2 from rfl, Nat.mul_one, Nat.add_zero] at hf12_1); clear hcl12 hcc12 hfr12 hM12) | ((with_reducible refine gate_store (t := 49) (p := 21) rfl ?_); refine store_event (t := 49) (p := 21) (v := ?vo_w13) (w1 := ((w11.setCell ⟨go10, (x4_1 : Int).toNat * 2, none⟩ (.int .i64 t233)).setCell ⟨go10, (x4_1 : Int).toNat * 2 + 1, none⟩ (.int .i64 t234))) ?hg ?ho ?hn ?hr ?_; (case ho => rfl); (case hg => rfl); (case hn => rfl); (case hr => first | (go_simp; done) | (go_simp; rfl)); intro w13 hw; have hg : w11.grownBy w13 (some go10) := (by rw [hw]; exact HP12.2); have hp_ : Kd.R k49 49 w13 w.heap.size (fun _ => True) (.slice (some ⟨go10, 0, none⟩) x3_1.length co10) y235 := (by rw [hw, Ny235.out]; exact HP12.1); clear HP12; replace HO_3 := Aside0.mk (hp_); replace HB := Aside0.mk ((by rw [hw]; exact below_set (below_set (HB.out) GB10.out) GB10.out : Below w.heap.size w w13)); clear hg hw hp_))
        go_roundg k1
        case measure => have := HK1.out; omega
        case rel => exact ⟨(y235), (wrap64 (x4_1 + 1)), (by first | rfl | (simp; done) | (simp [*]; done)), H', ⟨by have := HK1.out; omega⟩, ⟨by (with_reducible repeat (first | apply Kd.R_alloc | apply Kd.R_drewN | apply Kd.R_drew)); exact HO_3.out⟩, ⟨Hd.b_⟩⟩
       ·
        rw [if_neg c9] at H
        exact absurd H (by simp)
      ·
       rw [if_neg c7] at H
       exact absurd H (by simp)
     ·
      rw [if_neg c6] at H
      have c6b0 : decide (x4_1 < (l0.length : Int)) = false := decide_eq_false c6
      clear c6
      obtain rfl := Option.some.inj H
      go_wp2
      go_ret
      exact ⟨_, Hd.e_, by (with_reducible repeat (first | apply Kd.R_alloc | apply Kd.R_drewN | apply Kd.R_drew)); exact HO_3.out, Hd.b_⟩
  ·
   rw [if_neg c3] at H
   exact absurd H (by simp)
 ·
  rw [if_neg c2] at H
  exact absurd H (by simp)
def laws_toFeature.f (k : Nat) (a0_0 : Int) (a0_1 : Int) (a0_2 : Int) (a0_3 : ByteArray) (l0_4 : List (S98)) : Option (Int × Int × Int × ByteArray × (List (S49))) := (laws_toPointS.f k l0_4).bind fun t239 => (some (a0_0, a0_1, a0_2, a0_3, t239))
set_option maxHeartbeats 8000000 in
set_option maxRecDepth 100000 in
theorem laws_toFeature.calls (k : Nat) (a0_0 : Int) (a0_1 : Int) (a0_2 : Int) (a0_3 : ByteArray) (A0_4 : Option Addr) (c0_4 : Nat) (l0_4 : List (S98)) (r1 : Int) (r2 : Int) (r3 : Int) (r4 : ByteArray) (r5 : List (S49)) (w : World) (hr0_4 : Kd.C k98 w A0_4 l0_4.length l0_4) (hc0_4 : l0_4.length ≤ c0_4) (h : laws_toFeature.f k a0_0 a0_1 a0_2 a0_3 l0_4 = some (r1, r2, r3, r4, r5)) :
  Calls Try.prog 60 #[.agg #[.int .i64 a0_0, .int .i64 a0_1, .int .i64 a0_2, .string a0_3, .slice A0_4 l0_4.length c0_4]] w fun e w' => ∃ v4_ : Value, e = .returned (.agg #[.int .i64 r1, .int .i64 r2, .int .i64 r3, .string r4, v4_]) ∧ Kd.R k49 49 w' w.heap.size (fun _ => True) v4_ r5 ∧ Below w.heap.size w w' := by
 have hu73 := Try.underlying73
 have hu77 := Try.underlying77
 have HR0_4 := Aside0.mk hr0_4
 have HC0_4 := Aside0.mk hc0_4
 clear hr0_4 hc0_4
 have HB := Aside0.mk (Below.refl w.heap.size w)
 have H : ((laws_toPointS.f k l0_4).bind fun t239 => (some (a0_0, a0_1, a0_2, a0_3, t239))) = some (r1, r2, r3, r4, r5) := h
 clear h
 replace H := Option.bind_eq_some_iff.mp H
 obtain ⟨t239, A20, H⟩ := H
 replace H : (some (a0_0, a0_1, a0_2, a0_3, t239)) = some (r1, r2, r3, r4, r5) := H
 have A2 := Aside0.mk A20
 clear A20
 simp only [Option.some.injEq, Prod.mk.injEq] at H
 obtain ⟨rfl, rfl, rfl, rfl, rfl⟩ := H
 go_enter Try.func60, Try.ntmps60
 go_wp2_with (first | ((with_reducible refine gate_dst (N := 1) rfl ?_); refine Hd.box_ 1 (#[.int .i64 a0_0, .int .i64 a0_1, .int .i64 a0_2, .string a0_3, .slice A0_4 l0_4.length c0_4]) 73 ?_; intro gb236 hg w3 hbox hb; have BK236 := Aside0.mk (hbox); have GW236 := Aside0.mk ((Hd.g_ hg Hd.b_ : w.heap.size ≤ gb236)); have GE236 := Aside0.mk ((Hd.g_ hg Hd.b_ : w.heap.size ≤ gb236)); replace HB := Aside0.mk (below_step Hd.b_ hb); clear hb hbox hg) | ((with_reducible refine gate_dst (N := 2) rfl ?_); refine Hd.box_ 2 (#[.int .i64 0, .int .i64 0, .int .i64 0, .string (⟨#[]⟩ : ByteArray), .slice none 0 0]) 77 ?_; intro gb237 hg w4 hbox hb; have BK237 := Aside0.mk (hbox); have GW237 := Aside0.mk ((Hd.g_ hg Hd.b_ : w.heap.size ≤ gb237)); have GE237 := Aside0.mk ((Hd.g_ hg Hd.b_ : w.heap.size ≤ gb237)); replace HB := Aside0.mk (below_step Hd.b_ hb); have NB236_237 := Aside0.mk ((Hd.lt_ BK236 hg)); have NB237_236 := Aside0.mk ((Hd.gt_ BK236 hg)); replace BK236 := Aside0.mk (Hd.kb_ BK236 hb); clear hb hbox hg) | ((with_reducible refine gate_dst (N := 3) rfl ?_); refine Hd.box_ 3 (#[.int .i64 0, .int .i64 0, .int .i64 0, .string (⟨#[]⟩ : ByteArray), .slice none 0 0]) 77 ?_; intro gb238 hg w5 hbox hb; have BK238 := Aside0.mk (hbox); have GW238 := Aside0.mk ((Hd.g_ hg Hd.b_ : w.heap.size ≤ gb238)); have GE238 := Aside0.mk ((Hd.g_ hg Hd.b_ : w.heap.size ≤ gb238)); replace HB := Aside0.mk (below_step Hd.b_ hb); have NB236_238 := Aside0.mk ((Hd.lt_ BK236 hg)); have NB238_236 := Aside0.mk ((Hd.gt_ BK236 hg)); replace BK236 := Aside0.mk (Hd.kb_ BK236 hb); have NB237_238 := Aside0.mk ((Hd.lt_ BK237 hg)); have NB238_237 := Aside0.mk ((Hd.gt_ BK237 hg)); replace BK237 := Aside0.mk (Hd.kb_ BK237 hb); clear hb hbox hg; have hnb6 := NB236_237.out; have hnc6 := NB237_236.out; have hnb7 := NB236_238.out; have hnc7 := NB238_236.out; obtain ⟨hcz8_0, hcz8_1, hcz8_2, hcz8_3, hcz8_4⟩ := Hd.c5_ BK236.out; obtain ⟨hfz8_0, hfz8_1, hfz8_2, hfz8_3, hfz8_4⟩ := Hd.f5_ BK236.out; have hnb9 := NB238_237.out; have hnc9 := NB237_238.out; obtain ⟨hcz10_0, hcz10_1, hcz10_2, hcz10_3, hcz10_4⟩ := Hd.c5_ BK238.out; obtain ⟨hfz10_0, hfz10_1, hfz10_2, hfz10_3, hfz10_4⟩ := Hd.f5_ BK238.out) | ((with_reducible refine gate_callee (f := 18) rfl ?_); refine goesL_ (some 18) rfl rfl Try.func18 (by kernel_rfl) rfl #[.slice A0_4 l0_4.length c0_4] rfl Hd.m_ ?_; (with_reducible refine (laws_toPointS.calls k _ _ l0_4 t239 _ ?side1 ?side2 A2.out).mono ?_); (case side1 => exact Kd.C_below HR0_4.out Hd.b_); (case side2 => exact HC0_4.out); rintro e w11 ⟨v240, rfl, ho0, hb⟩; refine ⟨_, rfl, ?_⟩; have HO241 := Aside0.mk (Kd.R_lower ho0 (below_size Hd.b_)); replace BK236 := Aside0.mk (blk_below (g := gb236) (o := .cells #[.int .i64 a0_0, .int .i64 a0_1, .int .i64 a0_2, .string a0_3, .slice A0_4 l0_4.length c0_4] 73 (0, 0)) (by (with_reducible repeat (first | refine blk_drewN ?_ _ | refine blk_drew ?_ | refine blk_alloc ?_ _)); refine blk_far ?_ NB236_238.out _; (with_reducible repeat (first | refine blk_drewN ?_ _ | refine blk_drew ?_ | refine blk_alloc ?_ _)); refine blk_far ?_ NB236_238.out _; (with_reducible repeat (first | refine blk_drewN ?_ _ | refine blk_drew ?_ | refine blk_alloc ?_ _)); refine blk_far ?_ NB236_238.out _; (with_reducible repeat (first | refine blk_drewN ?_ _ | refine blk_drew ?_ | refine blk_alloc ?_ _)); refine blk_far ?_ NB236_238.out _; (with_reducible repeat (first | refine blk_drewN ?_ _ | refine blk_drew ?_ | refine blk_alloc ?_ _)); exact BK236.out) hb); replace BK237 := Aside0.mk (blk_below (g := gb237) (o := .cells #[.int .i64 0, .int .i64 0, .int .i64 0, .string (⟨#[]⟩ : ByteArray), .slice none 0 0] 77 (0, 0)) (by (with_reducible repeat (first | refine blk_drewN ?_ _ | refine blk_drew ?_ | refine blk_alloc ?_ _)); refine blk_far ?_ NB237_238.out _; (with_reducible repeat (first | refine blk_drewN ?_ _ | refine blk_drew ?_ | refine blk_alloc ?_ _)); refine blk_far ?_ NB237_238.out _; (with_reducible repeat (first | refine blk_drewN ?_ _ | refine blk_drew ?_ | refine blk_alloc ?_ _)); refine blk_far ?_ NB237_238.out _; (with_reducible repeat (first | refine blk_drewN ?_ _ | refine blk_drew ?_ | refine blk_alloc ?_ _)); refine blk_far ?_ NB237_238.out _; (with_reducible repeat (first | refine blk_drewN ?_ _ | refine blk_drew ?_ | refine blk_alloc ?_ _)); exact BK237.out) hb); replace BK238 := Aside0.mk (blk_below (g := gb238) (o := .cells #[.int .i64 a0_0, .int .i64 a0_1, .int .i64 a0_2, .string a0_3, .slice none 0 0] 77 (0, 0)) (by (with_reducible repeat (first | refine blk_drewN ?_ _ | refine blk_drew ?_ | refine blk_alloc ?_ _)); refine blk_put (cs := #[.int .i64 a0_0, .int .i64 a0_1, .int .i64 a0_2, .string (⟨#[]⟩ : ByteArray), .slice none 0 0]) ?_ 3 _ rfl; (with_reducible repeat (first | refine blk_drewN ?_ _ | refine blk_drew ?_ | refine blk_alloc ?_ _)); refine blk_put (cs := #[.int .i64 a0_0, .int .i64 a0_1, .int .i64 0, .string (⟨#[]⟩ : ByteArray), .slice none 0 0]) ?_ 2 _ rfl; (with_reducible repeat (first | refine blk_drewN ?_ _ | refine blk_drew ?_ | refine blk_alloc ?_ _)); refine blk_put (cs := #[.int .i64 a0_0, .int .i64 0, .int .i64 0, .string (⟨#[]⟩ : ByteArray), .slice none 0 0]) ?_ 1 _ rfl; (with_reducible repeat (first | refine blk_drewN ?_ _ | refine blk_drew ?_ | refine blk_alloc ?_ _)); refine blk_put (cs := #[.int .i64 0, .int .i64 0, .int .i64 0, .string (⟨#[]⟩ : ByteArray), .slice none 0 0]) ?_ 0 _ rfl; (with_reducible repeat (first | refine blk_drewN ?_ _ | refine blk_drew ?_ | refine blk_alloc ?_ _)); exact BK238.out) hb); replace HB := Aside0.mk (below_step Hd.b_ hb); (try clear hb); (try clear hb2); (try clear hk); (try clear hi); (try clear ho0); obtain ⟨Ao12, co12, eo12⟩ := Kd.R_slice HO241.out; subst eo12; obtain ⟨hcz13_0, hcz13_1, hcz13_2, hcz13_3, hcz13_4⟩ := Hd.c5_ BK238.out; obtain ⟨hfz13_0, hfz13_1, hfz13_2, hfz13_3, hfz13_4⟩ := Hd.f5_ BK238.out; obtain ⟨hcz14_0, hcz14_1, hcz14_2, hcz14_3, hcz14_4⟩ := Hd.c5_ BK237.out; obtain ⟨hfz14_0, hfz14_1, hfz14_2, hfz14_3, hfz14_4⟩ := Hd.f5_ BK237.out))
 refine bodyPost_ret (results_cell_row rfl _ _ gb237 77 #[.int .i64 a0_0, .int .i64 a0_1, .int .i64 a0_2, .string a0_3, .slice Ao12 t239.length co12] (0, 0) _ rfl (by (with_reducible repeat (first | refine blk_drewN ?_ _ | refine blk_drew ?_ | refine blk_alloc ?_ _)); refine blk_put (cs := #[.int .i64 a0_0, .int .i64 a0_1, .int .i64 a0_2, .string a0_3, .slice none 0 0]) ?_ 4 _ rfl; (with_reducible repeat (first | refine blk_drewN ?_ _ | refine blk_drew ?_ | refine blk_alloc ?_ _)); refine blk_put (cs := #[.int .i64 a0_0, .int .i64 a0_1, .int .i64 a0_2, .string (⟨#[]⟩ : ByteArray), .slice none 0 0]) ?_ 3 _ rfl; (with_reducible repeat (first | refine blk_drewN ?_ _ | refine blk_drew ?_ | refine blk_alloc ?_ _)); refine blk_put (cs := #[.int .i64 a0_0, .int .i64 a0_1, .int .i64 0, .string (⟨#[]⟩ : ByteArray), .slice none 0 0]) ?_ 2 _ rfl; (with_reducible repeat (first | refine blk_drewN ?_ _ | refine blk_drew ?_ | refine blk_alloc ?_ _)); refine blk_put (cs := #[.int .i64 a0_0, .int .i64 0, .int .i64 0, .string (⟨#[]⟩ : ByteArray), .slice none 0 0]) ?_ 1 _ rfl; (with_reducible repeat (first | refine blk_drewN ?_ _ | refine blk_drew ?_ | refine blk_alloc ?_ _)); refine blk_put (cs := #[.int .i64 0, .int .i64 0, .int .i64 0, .string (⟨#[]⟩ : ByteArray), .slice none 0 0]) ?_ 0 _ rfl; (with_reducible repeat (first | refine blk_drewN ?_ _ | refine blk_drew ?_ | refine blk_alloc ?_ _)); refine blk_far ?_ NB237_238.out _; (with_reducible repeat (first | refine blk_drewN ?_ _ | refine blk_drew ?_ | refine blk_alloc ?_ _)); exact BK237.out) Try.underlying77 rfl (by kernel_rfl)) rfl ?_
 exact ⟨_, Hd.e_, by (with_reducible repeat (first | apply Kd.R_alloc | apply Kd.R_drewN | apply Kd.R_drew)); exact Kd.R_mono (Kd.R_far (p := ⟨gb237, 4, none⟩) (Kd.R_far (p := ⟨gb237, 3, none⟩) (Kd.R_far (p := ⟨gb237, 2, none⟩) (Kd.R_far (p := ⟨gb237, 1, none⟩) (Kd.R_far (p := ⟨gb237, 0, none⟩) (Kd.R_far (p := ⟨gb238, 4, none⟩) (Kd.R_types (Kd.R_types HO241.out BK238.out (by decide)) BK237.out (by decide)) (fun _ hk => hk.1.2) (.slice Ao12 t239.length co12)) (fun _ hk => hk.2) (.int .i64 a0_0)) (fun _ hk => hk.2) (.int .i64 a0_1)) (fun _ hk => hk.2) (.int .i64 a0_2)) (fun _ hk => hk.2) (.string a0_3)) (fun _ hk => hk.2) (.slice Ao12 t239.length co12)) (fun _ hk => trivial), Hd.b_⟩
def laws_toFeatureS.l0 : Nat → List (S73) → List (S77) → Int → Option ((List (S77)))
 | 0, _, _, _ => none
 | k + 1, x0, x3, x4 => if x4 < (x0.length : Int) then (if 0 ≤ x4 then ((laws_toFeature.f k ((rd_T73 x0 x4).f0) ((rd_T73 x0 x4).f1) ((rd_T73 x0 x4).f2) ((rd_T73 x0 x4).f3) ((rd_T73 x0 x4).f4)).bind fun bt246 => (if x4 < (x3.length : Int) then (laws_toFeatureS.l0 k x0 (x3.set (x4 : Int).toNat (⟨bt246.1, bt246.2.1, bt246.2.2.1, bt246.2.2.2.1, bt246.2.2.2.2⟩ : S77)) (wrap64 (x4 + 1))) else (none))) else (none)) else (some x3)
def laws_toFeatureS.f (k : Nat) (l0 : List (S73)) : Option ((List (S77))) := if 0 ≤ (l0.length : Int) then (if ((l0.length : Int) : Int).toNat ≤ 4398046511104 then (laws_toFeatureS.l0 k l0 (List.replicate ((l0.length : Int) : Int).toNat z77) 0) else (none)) else (none)
set_option maxHeartbeats 8000000 in
set_option maxRecDepth 100000 in
theorem laws_toFeatureS.calls (k : Nat) (A0 : Option Addr) (c0 : Nat) (l0 : List (S73)) (r : List (S77)) (w : World) (hr0 : Kd.C k73 w A0 l0.length l0) (hc0 : l0.length ≤ c0) (h : laws_toFeatureS.f k l0 = some r) :
  Calls Try.prog 66 #[.slice A0 l0.length c0] w fun e w' => ∃ v0_ : Value, e = .returned (v0_) ∧ Kd.S k77 77 w' w.heap.size (fun _ => True) v0_ r ∧ Below w.heap.size w w' := by
 have hu73 := Try.underlying73
 have hu77 := Try.underlying77
 have HR0 := Aside0.mk hr0
 have HC0 := Aside0.mk hc0
 clear hr0 hc0
 have HB := Aside0.mk (Below.refl w.heap.size w)
 have H : (if 0 ≤ (l0.length : Int) then (if ((l0.length : Int) : Int).toNat ≤ 4398046511104 then (laws_toFeatureS.l0 k l0 (List.replicate ((l0.length : Int) : Int).toNat z77) 0) else (none)) else (none)) = some r := h
 clear h
 by_cases c2 : 0 ≤ (l0.length : Int)
 ·
  rw [if_pos c2] at H
  have c2b0 := eq_true c2
  have c2b1 : decide (0 ≤ (l0.length : Int)) = true := decide_eq_true c2
  clear c2
  by_cases c3 : ((l0.length : Int) : Int).toNat ≤ 4398046511104
  ·
   rw [if_pos c3] at H
   have c3b0 := eq_true c3
   have c3b1 : decide (((l0.length : Int) : Int).toNat ≤ 4398046511104) = true := decide_eq_true c3
   clear c3
   obtain ⟨y242, hy242⟩ : ∃ y_ : List (S77), y_ = (List.replicate ((l0.length : Int) : Int).toNat z77) := ⟨_, rfl⟩
   replace H : (laws_toFeatureS.l0 k l0 y242 0) = some r := by first | (rw [hy242]; with_reducible exact H) | (have H2_ := (Option.bind_some _ _).symm.trans H; rw [hy242]; with_reducible exact H2_) | (have H2_ := (Option.bind_some _ _).symm.trans H; with_reducible exact H2_) | with_reducible exact H | (rw [hy242]; exact H) | exact H
   have Ny242 := Aside0.mk hy242
   clear hy242
   have H' := Aside0.mk H
   clear H
   go_enter Try.func66, Try.ntmps66
   go_wp2_with (first | ((with_reducible refine gate_dst (N := 7) rfl ?_); refine Kd.S_make k77 _ 77 rfl (N := 7) rfl 84 _ _ rfl (l0.length : Int) rfl rfl Try.underlying84 (.agg #[(.int .i64 0), (.int .i64 0), (.int .i64 0), (.string ⟨#[]⟩), (.slice none 0 0)]) 64 info77 rfl (by decide) (by omega) z77 (ok := fun _ => True) (okp := fun _ => True) (k77_mkM _ _ _ z77 (Kd.R_nil _ _ _ _ _)) (fun _ hk => hk) trivial (of_decide_eq_true Hd.a_) (Nat.le_trans (Nat.mul_le_mul_right _ (of_decide_eq_true Hd.a_ : (l0.length : Int).toNat ≤ 4398046511104)) (by omega)) (Below.refl _ _) (Nat.le_refl _) ?_; intro v243 w4 ho5 hb hg_ hnew_; clear hg_ hnew_; (first | rw [← Ny242.out] at ho5 | (simp only [Int.reduceToNat] at ho5; rw [← Ny242.out] at ho5)); have HO244 := Aside0.mk (Kd.S_lower ho5 (below_size Hd.b_)); replace HB := Aside0.mk (below_step Hd.b_ hb); clear hb ho5))
   go_loopg [4] k (fun kq v4 w' => ∃ (x3_1 : List (S77)) (x4_1 : Int), v4 = .int .i64 x4_1 ∧ Aside0 (laws_toFeatureS.l0 kq l0 x3_1 x4_1 = some r) ∧ Aside0 (kq ≤ k) ∧ Aside0 (Kd.S k77 77 w' w.heap.size (fun _ => True) v243 x3_1) ∧ Aside0 (Below w.heap.size w w'))
   case atStart => exact ⟨(y242), (0), (by first | rfl | (simp; done) | (simp [*]; done)), H', ⟨Nat.le_refl _⟩, ⟨by (with_reducible repeat (first | apply Kd.S_alloc | apply Kd.S_drewN | apply Kd.S_drew)); exact HO244.out⟩, ⟨Hd.b_⟩⟩
   case round =>
    clear H'
    try clear c2
    try clear c2b0
    try clear c2b1
    try clear p2
    try clear c3
    try clear c3b0
    try clear c3b1
    obtain ⟨x3_1, x4_1, rfl, HA, HK1, HO_3, HB⟩ := hrel
    cases gk with
    | zero => exact absurd HA.out (by simp [laws_toFeatureS.l0])
    | succ k1 =>
     have H := HA.out
     clear HA
     simp only [laws_toFeatureS.l0] at H
     by_cases c6 : x4_1 < (l0.length : Int)
     ·
      rw [if_pos c6] at H
      have c6b0 : decide (x4_1 < (l0.length : Int)) = true := decide_eq_true c6
      clear c6
      by_cases c7 : 0 ≤ x4_1
      ·
       rw [if_pos c7] at H
       have c7b0 : decide (0 ≤ x4_1) = true := decide_eq_true c7
       clear c7
       replace H := Option.bind_eq_some_iff.mp H
       obtain ⟨⟨t246, t247, t248, t249, t250⟩, A80, H⟩ := H
       replace H : (if x4_1 < (x3_1.length : Int) then (laws_toFeatureS.l0 k1 l0 (x3_1.set (x4_1 : Int).toNat (⟨t246, t247, t248, t249, t250⟩ : S77)) (wrap64 (x4_1 + 1))) else (none)) = some r := H
       have A8 := Aside0.mk A80
       clear A80
       by_cases c9 : x4_1 < (x3_1.length : Int)
       ·
        rw [if_pos c9] at H
        have c9b0 : decide (x4_1 < (x3_1.length : Int)) = true := decide_eq_true c9
        clear c9
        obtain ⟨y253, hy253⟩ : ∃ y_ : List (S77), y_ = (x3_1.set (x4_1 : Int).toNat (⟨t246, t247, t248, t249, t250⟩ : S77)) := ⟨_, rfl⟩
        replace H : (laws_toFeatureS.l0 k1 l0 y253 (wrap64 (x4_1 + 1))) = some r := by first | (rw [hy253]; with_reducible exact H) | (have H2_ := (Option.bind_some _ _).symm.trans H; rw [hy253]; with_reducible exact H2_) | (have H2_ := (Option.bind_some _ _).symm.trans H; with_reducible exact H2_) | with_reducible exact H | (rw [hy253]; exact H) | exact H
        have Ny253 := Aside0.mk hy253
        clear hy253
        have H' := Aside0.mk H
        clear H
        have p245 : 0 ≤ (x4_1 : Int) := of_decide_eq_true Hd.a_
        have q245 : x4_1 < (l0.length : Int) := of_decide_eq_true Hd.a_
        obtain ⟨ad245, A245_4, c245_4, e245, hx245_0, hx245_1, hx245_2, hx245_3, hx245_4, hl245_4, hi245_4⟩ := at_T73 HR0.out x4_1 p245 q245
        cases e245
        replace hx245_0 := (HB.out.cell (World.block_lt_of_cell? w _ hx245_0)).trans hx245_0
        replace hx245_1 := (HB.out.cell (World.block_lt_of_cell? w _ hx245_1)).trans hx245_1
        replace hx245_2 := (HB.out.cell (World.block_lt_of_cell? w _ hx245_2)).trans hx245_2
        replace hx245_3 := (HB.out.cell (World.block_lt_of_cell? w _ hx245_3)).trans hx245_3
        replace hx245_4 := (HB.out.cell (World.block_lt_of_cell? w _ hx245_4)).trans hx245_4
        have HR245_4 := Aside0.mk hi245_4
        have HC245_4 := Aside0.mk hl245_4
        clear hi245_4 hl245_4
        replace p245 := eq_true p245
        replace q245 := eq_true q245
        go_wp2_with (first | ((with_reducible refine gate_callee (f := 60) rfl ?_); refine goesL_ (some 20) rfl rfl Try.func60 (by kernel_rfl) rfl #[.agg #[.int .i64 ((rd_T73 l0 x4_1).f0), .int .i64 ((rd_T73 l0 x4_1).f1), .int .i64 ((rd_T73 l0 x4_1).f2), .string ((rd_T73 l0 x4_1).f3), .slice A245_4 ((rd_T73 l0 x4_1).f4).length c245_4]] rfl Hd.m_ ?_; (with_reducible refine (laws_toFeature.calls k1 ((rd_T73 l0 x4_1).f0) ((rd_T73 l0 x4_1).f1) ((rd_T73 l0 x4_1).f2) ((rd_T73 l0 x4_1).f3) _ _ ((rd_T73 l0 x4_1).f4) t246 t247 t248 t249 t250 _ ?side1 ?side2 A8.out).mono ?_); (case side1 => repeat (first | exact (Kd.C_below HR245_4.out HB.out) | (with_reducible refine Kd.C_alloc ?_ _) | (with_reducible refine Kd.C_drewN ?_ _) | (with_reducible refine Kd.C_drew ?_))); (case side2 => exact HC245_4.out); rintro e w11 ⟨v251, rfl, ho0, hb⟩; refine ⟨_, rfl, ?_⟩; replace HO_3 := Aside0.mk (Kd.S_elder' (by (with_reducible repeat (first | apply Kd.S_alloc | apply Kd.S_drewN | apply Kd.S_drew)); exact HO_3.out) (Kd.R_base ho0) hb); have HO252 := Aside0.mk (Kd.R_lower ho0 (below_size Hd.b_)); replace HB := Aside0.mk (below_step Hd.b_ hb); (try clear hb); (try clear hb2); (try clear hk); (try clear hi); (try clear ho0); have hst_ : ∀ (a : Addr) (W : World), (store a v251 .plain).run Try.prog W = stored Try.prog W a v251 .plain := fun a W => run_store Try.prog W a v251 .plain (by obtain ⟨_, _, e_⟩ := Kd.R_slice HO252.out; rw [e_]; rfl); have p10 : 0 ≤ (x4_1 : Int) := of_decide_eq_true Hd.a_; have q10 : (x4_1 : Int) < ((x3_1.length : Int) : Int) := of_decide_eq_true Hd.a_; obtain ⟨go10, co10, eo10, gb10, gl10, cl10, HG10⟩ := Kd.S_form HO_3.out (by omega); (first | cases eo10 | (injection eo10 with ea_ en_ ec_; (first | subst ea_ | (injection ea_ with ea_; subst ea_)); subst ec_; clear en_)); have GB10 := Aside0.mk gb10; have GG10 := Aside0.mk HG10; clear gb10 gl10 HG10; obtain ⟨_, ce10, hcl10, hM10, hcc10, hfr10, _, _⟩ := Kd.S_elem HO_3.out z77 (x4_1 : Int) p10 q10; obtain ⟨ve10_4, rfl, ge10_4⟩ := k77_openM hM10; have hx10_0 : w11.cell? ⟨go10, (x4_1 : Int).toNat * 5, none⟩ = some (.int .i64 ((rd_T77 x3_1 x4_1).f0)) := hcc10 0 _ rfl; have hx10_1 : w11.cell? ⟨go10, (x4_1 : Int).toNat * 5 + 1, none⟩ = some (.int .i64 ((rd_T77 x3_1 x4_1).f1)) := hcc10 1 _ rfl; have hx10_2 : w11.cell? ⟨go10, (x4_1 : Int).toNat * 5 + 2, none⟩ = some (.int .i64 ((rd_T77 x3_1 x4_1).f2)) := hcc10 2 _ rfl; have hx10_3 : w11.cell? ⟨go10, (x4_1 : Int).toNat * 5 + 3, none⟩ = some (.string ((rd_T77 x3_1 x4_1).f3)) := hcc10 3 _ rfl; have hx10_4 : w11.cell? ⟨go10, (x4_1 : Int).toNat * 5 + 4, none⟩ = some (ve10_4) := hcc10 4 _ rfl; have hf10_0 : w11.frozen? ⟨go10, (x4_1 : Int).toNat * 5, none⟩ = false := hfr10 0; have hf10_1 : w11.frozen? ⟨go10, (x4_1 : Int).toNat * 5 + 1, none⟩ = false := hfr10 1; have hf10_2 : w11.frozen? ⟨go10, (x4_1 : Int).toNat * 5 + 2, none⟩ = false := hfr10 2; have hf10_3 : w11.frozen? ⟨go10, (x4_1 : Int).toNat * 5 + 3, none⟩ = false := hfr10 3; have hf10_4 : w11.frozen? ⟨go10, (x4_1 : Int).toNat * 5 + 4, none⟩ = false := hfr10 4; clear hcl10 hcc10 hfr10 hM10; replace p10 := eq_true p10; replace q10 := eq_true q10; have n_ := Aside0.mk (Kd.S_mono (ok' := (fun k_ => some k_ ≠ (v251 : Value).ownBlock)) HO_3.out (fun k_ hk => hk.2)); clear HO_3; have HO_3 := n_; clear n_; have HX12 := Aside0.mk (show Kd.S k77 77 w11 w.heap.size (fun k_ => ((fun _ => True)) k_ ∧ ¬ ((fun k_ => some k_ = (v251 : Value).ownBlock)) k_) (.slice (some ⟨go10, 0, none⟩) x3_1.length co10) x3_1 from (by (with_reducible repeat (first | apply Kd.S_alloc | apply Kd.S_drewN | apply Kd.S_drew)); exact Kd.S_mono HO_3.out (fun k_ hk => ⟨trivial, fun e_ => hk e_⟩))); obtain ⟨oki12, ce12, hcl12, hM12, hcc12, hfr12, hoki12, hH12⟩ := Kd.S_elem HX12.out z77 (x4_1 : Int) (of_decide_eq_true Hd.a_) (by have h_ : (x4_1 : Int) < ((x3_1.length : Int) : Int) := of_decide_eq_true Hd.a_; first | exact h_ | (have e_ := (Kd.S_reads' HO_3.out).1; omega) | simpa using h_); obtain ⟨ve12_4, rfl, ge12_4⟩ := k77_openM hM12; have HP12 := Kd.S_seg hH12 (of_decide_eq_true Hd.a_) (by have h_ : (x4_1 : Int) < ((x3_1.length : Int) : Int) := of_decide_eq_true Hd.a_; first | exact h_ | (have e_ := (Kd.S_reads' HO_3.out).1; omega) | simpa using h_) (seg := [.int .i64 t246, .int .i64 t247, .int .i64 t248, .string t249, v251]) (j := 0) (show 5 ≤ 5 from by decide) (x' := (⟨t246, t247, t248, t249, t250⟩ : S77)) (k77_mkM _ _ _ (⟨t246, t247, t248, t249, t250⟩ : S77) (Kd.R_mono (Kd.R_tight rfl (Kd.R_mono (ok' := fun k_ => ((fun _ => True)) k_ ∧ k_ ≠ go10) (Kd.R_apart' (HO252.out) (Kd.S_typed HO_3.out) (by decide)) (fun k_ hk => ⟨trivial, fun e_ => (hk.2) (by rw [e_]; rfl)⟩))) (fun _ h_ => Or.inr (h_)))) (fun _ hk => hk) (fun k_ hk_ => ((Kd.R_mono (ok' := fun k_ => ((fun _ => True)) k_ ∧ k_ ≠ go10) (Kd.R_apart' (HO252.out) (Kd.S_typed HO_3.out) (by decide)) (fun k_ hk => ⟨trivial, fun e_ => (hk.2) (by rw [e_]; rfl)⟩))).1 k_ hk_.symm); have hx12_0 := hcc12 0 _ rfl; (try simp only [show (k77).sz = 5 from rfl, Nat.mul_one, Nat.add_zero] at hx12_0); have hf12_0 := hfr12 0; (try simp only [show (k77).sz = 5 from rfl, Nat.mul_one, Nat.add_zero] at hf12_0); have hx12_1 := hcc12 1 _ rfl; (try simp only [show (k77).sz = 5 from rfl, Nat.mul_one, Nat.add_zero] at hx12_1); have hf12_1 := hfr12 1; (try simp only [show (k77).sz = 5 from rfl, Nat.mul_one, Nat.add_zero] at hf12_1); have hx12_2 := hcc12 2 _ rfl; (try simp only [show (k77).sz = 5 from rfl, Nat.mul_one, Nat.add_zero] at hx12_2); have hf12_2 := hfr12 2; (try simp only [show (k77).sz = 5 from rfl, Nat.mul_one, Nat.add_zero] at hf12_2); have hx12_3 := hcc12 3 _ rfl; (try simp only [show (k77).sz = 5 from rfl, Nat.mul_one, Nat.add_zero] at hx12_3); have hf12_3 := hfr12 3; (try simp only [show (k77).sz = 5 from rfl, Nat.mul_one, Nat.add_zero] at hf12_3); have hx12_4 := hcc12 4 _ rfl; (try simp only [show (k77).sz = 5 from rfl, Nat.mul_one, Nat.add_zero] at hx12_4); have hf12_4 := hfr12 4; (try simp only [show (k77).sz = 5 from rfl, Nat.mul_one, Nat.add_zero] at hf12_4); clear hcl12 hcc12 hfr12 hM12 hoki12 hH12) | ((with_reducible refine gate_store (t := 77) (p := 21) rfl ?_); refine store_event (t := 77) (p := 21) (v := ?vo_w13) (w1 := (((((w11.setCell ⟨go10, (x4_1 : Int).toNat * 5, none⟩ (.int .i64 t246)).setCell ⟨go10, (x4_1 : Int).toNat * 5 + 1, none⟩ (.int .i64 t247)).setCell ⟨go10, (x4_1 : Int).toNat * 5 + 2, none⟩ (.int .i64 t248)).setCell ⟨go10, (x4_1 : Int).toNat * 5 + 3, none⟩ (.string t249)).setCell ⟨go10, (x4_1 : Int).toNat * 5 + 4, none⟩ (v251))) ?hg ?ho ?hn ?hr ?_; (case ho => rfl); (case hg => rfl); (case hn => rfl); (case hr => first | (go_simp; done) | (go_simp; rfl)); intro w13 hw; have hg : w11.grownBy w13 (some go10) := (by rw [hw]; exact HP12.2); have hp_ : Kd.S k77 77 w13 w.heap.size (fun _ => True) (.slice (some ⟨go10, 0, none⟩) x3_1.length co10) y253 := (by rw [hw, Ny253.out]; exact HP12.1); clear HP12; have n0_ := Aside0.mk (hp_); have n1_ := Aside0.mk ((by rw [hw]; exact below_set (below_set (below_set (below_set (below_set (HB.out) GB10.out) GB10.out) GB10.out) GB10.out) GB10.out : Below w.heap.size w w13)); clear HO_3; clear HB; clear HO252; have HO_3 := n0_; have HB := n1_; clear n0_ n1_; clear hg hw hp_))
        go_roundg k1
        case measure => have := HK1.out; omega
        case rel => exact ⟨(y253), (wrap64 (x4_1 + 1)), (by first | rfl | (simp; done) | (simp [*]; done)), H', ⟨by have := HK1.out; omega⟩, ⟨by (with_reducible repeat (first | apply Kd.S_alloc | apply Kd.S_drewN | apply Kd.S_drew)); exact HO_3.out⟩, ⟨Hd.b_⟩⟩
       ·
        rw [if_neg c9] at H
        exact absurd H (by simp)
      ·
       rw [if_neg c7] at H
       exact absurd H (by simp)
     ·
      rw [if_neg c6] at H
      have c6b0 : decide (x4_1 < (l0.length : Int)) = false := decide_eq_false c6
      clear c6
      obtain rfl := Option.some.inj H
      go_wp2
      go_ret
      exact ⟨_, Hd.e_, by (with_reducible repeat (first | apply Kd.S_alloc | apply Kd.S_drewN | apply Kd.S_drew)); exact HO_3.out, Hd.b_⟩
  ·
   rw [if_neg c3] at H
   exact absurd H (by simp)
 ·
  rw [if_neg c2] at H
  exact absurd H (by simp)
def impl_InRange.f (a0 : Int) (a1 : Int) (a2 : Int) : Option (Bool) := if a1 ≤ a0 then (some (decide (a0 ≤ a2))) else (some false)
set_option maxHeartbeats 8000000 in
set_option maxRecDepth 100000 in
theorem impl_InRange.calls (a0 : Int) (a1 : Int) (a2 : Int) (r : Bool) (w : World) (h : impl_InRange.f a0 a1 a2 = some r) :
  Calls Try.prog 85 #[.int .i64 a0, .int .i64 a1, .int .i64 a2] w fun e w' => e = .returned (.bool r) ∧ Drawn0 w w' := by
 have H : (if a1 ≤ a0 then (some (decide (a0 ≤ a2))) else (some false)) = some r := h
 clear h
 by_cases c4 : a1 ≤ a0
 ·
  rw [if_pos c4] at H
  have c4b0 : decide (a1 ≤ a0) = true := decide_eq_true c4
  clear c4
  obtain rfl := Option.some.inj H
  go_enter Try.func85, Try.ntmps85
  go_wp2
  go_ret
  exact ⟨by first | rfl | (simp; done) | (simp [*]; done), by repeat (first | exact Drawn0.refl _ | apply Drawn0.step)⟩
 ·
  rw [if_neg c4] at H
  have c4b0 : decide (a1 ≤ a0) = false := decide_eq_false c4
  clear c4
  obtain rfl := Option.some.inj H
  go_enter Try.func85, Try.ntmps85
  go_wp2
  go_ret
  exact ⟨by first | rfl | (simp; done) | (simp [*]; done), by repeat (first | exact Drawn0.refl _ | apply Drawn0.step)⟩
def impl_IsPoint.f (a0_0 : Int) (a0_1 : Int) : Option (Bool) := (impl_InRange.f a0_0 0 200).bind fun t255 => (if t255 = true then ((impl_InRange.f a0_1 0 200).bind fun t256 => (some t256)) else (some false))
set_option maxHeartbeats 8000000 in
set_option maxRecDepth 100000 in
theorem impl_IsPoint.calls (a0_0 : Int) (a0_1 : Int) (r : Bool) (w : World) (h : impl_IsPoint.f a0_0 a0_1 = some r) :
  Calls Try.prog 105 #[.agg #[.int .i64 a0_0, .int .i64 a0_1]] w fun e w' => e = .returned (.bool r) ∧ Below w.heap.size w w' := by
 have hu49 := Try.underlying49
 have HB := Aside0.mk (Below.refl w.heap.size w)
 have H : ((impl_InRange.f a0_0 0 200).bind fun t255 => (if t255 = true then ((impl_InRange.f a0_1 0 200).bind fun t256 => (some t256)) else (some false))) = some r := h
 clear h
 replace H := Option.bind_eq_some_iff.mp H
 obtain ⟨t255, A20, H⟩ := H
 replace H : (if t255 = true then ((impl_InRange.f a0_1 0 200).bind fun t256 => (some t256)) else (some false)) = some r := H
 have A2 := Aside0.mk A20
 clear A20
 by_cases c3 : t255 = true
 ·
  subst c3
  have H1 : ((impl_InRange.f a0_1 0 200).bind fun t256 => (some t256)) = some r := by rw [if_pos rfl] at H; exact H
  clear H
  have H := H1
  clear H1
  replace H := Option.bind_eq_some_iff.mp H
  obtain ⟨t256, A40, H⟩ := H
  replace H : (some t256) = some r := H
  have A4 := Aside0.mk A40
  clear A40
  obtain rfl := Option.some.inj H
  go_enter Try.func105, Try.ntmps105
  go_wp2_with (first | ((with_reducible refine gate_dst (N := 1) rfl ?_); refine Hd.box_ 1 (#[.int .i64 a0_0, .int .i64 a0_1]) 49 ?_; intro gb254 hg w5 hbox hb; have BK254 := Aside0.mk (hbox); have GW254 := Aside0.mk ((Hd.g_ hg Hd.b_ : w.heap.size ≤ gb254)); have GE254 := Aside0.mk ((Hd.g_ hg Hd.b_ : w.heap.size ≤ gb254)); replace HB := Aside0.mk (below_step Hd.b_ hb); clear hb hbox hg; obtain ⟨hcz6_0, hcz6_1⟩ := Hd.c2_ BK254.out; obtain ⟨hfz6_0, hfz6_1⟩ := Hd.f2_ BK254.out) | ((with_reducible refine gate_callee (f := 85) rfl ?_); refine goesL_ (some 5) rfl rfl Try.func85 (by kernel_rfl) rfl #[.int .i64 a0_0, .int .i64 0, .int .i64 200] rfl Hd.m_ ?_; (with_reducible refine (impl_InRange.calls a0_0 0 200 true _ A2.out).mono ?_); rintro e w' ⟨rfl, ⟨nd, rfl⟩⟩; refine ⟨_, rfl, ?_⟩) | (go_at_call 85; (with_reducible refine (impl_InRange.calls a0_1 0 200 t256 _ A4.out).mono ?_); rintro e w' ⟨rfl, ⟨nd, rfl⟩⟩))
  go_ret
  exact ⟨Hd.e_, Hd.b_⟩
 ·
  replace c3 := Bool.eq_false_iff.mpr c3
  subst c3
  have H1 : (some false) = some r := by rw [if_neg (show ¬ (false = true) by decide)] at H; exact H
  clear H
  have H := H1
  clear H1
  obtain rfl := Option.some.inj H
  go_enter Try.func105, Try.ntmps105
  go_wp2_with (first | ((with_reducible refine gate_dst (N := 1) rfl ?_); refine Hd.box_ 1 (#[.int .i64 a0_0, .int .i64 a0_1]) 49 ?_; intro gb254 hg w7 hbox hb; have BK254 := Aside0.mk (hbox); have GW254 := Aside0.mk ((Hd.g_ hg Hd.b_ : w.heap.size ≤ gb254)); have GE254 := Aside0.mk ((Hd.g_ hg Hd.b_ : w.heap.size ≤ gb254)); replace HB := Aside0.mk (below_step Hd.b_ hb); clear hb hbox hg; obtain ⟨hcz8_0, hcz8_1⟩ := Hd.c2_ BK254.out; obtain ⟨hfz8_0, hfz8_1⟩ := Hd.f2_ BK254.out) | ((with_reducible refine gate_callee (f := 85) rfl ?_); refine goesL_ (some 5) rfl rfl Try.func85 (by kernel_rfl) rfl #[.int .i64 a0_0, .int .i64 0, .int .i64 200] rfl Hd.m_ ?_; (with_reducible refine (impl_InRange.calls a0_0 0 200 false _ A2.out).mono ?_); rintro e w' ⟨rfl, ⟨nd, rfl⟩⟩; refine ⟨_, rfl, ?_⟩))
  go_ret
  exact ⟨Hd.e_, Hd.b_⟩
mutual
def impl_IsLine.j0 : Nat → List (S49) → Bool → Option (Bool)
 | 0, _, _ => none
 | k + 1, x0, x12 => if x12 = true then (some false) else (impl_IsLine.l0 k x0 x0 (x0.length : Int) 0)
def impl_IsLine.l0 : Nat → List (S49) → List (S49) → Int → Int → Option (Bool)
 | 0, _, _, _, _ => none
 | k + 1, x0, x13, x14, x15 => if x15 < x14 then (if 0 ≤ x15 then (if x15 < (x13.length : Int) then ((impl_IsPoint.f ((rd_T49 x13 x15).f0) ((rd_T49 x13 x15).f1)).bind fun t259 => (if t259 = true then (if x15 > 0 then (if 0 ≤ (wrap64 (x15 - 1)) then (if (wrap64 (x15 - 1)) < (x0.length : Int) then (if (((rd_T49 x13 x15).f0) == ((rd_T49 x0 (wrap64 (x15 - 1))).f0) && (((rd_T49 x13 x15).f1) == ((rd_T49 x0 (wrap64 (x15 - 1))).f1))) = true then (some false) else (impl_IsLine.l0 k x0 x13 x14 (wrap64 (x15 + 1)))) else (none)) else (none)) else (impl_IsLine.l0 k x0 x13 x14 (wrap64 (x15 + 1)))) else (some false))) else (none)) else (none)) else (some true)
end
def impl_IsLine.f (k : Nat) (l0 : List (S49)) : Option (Bool) := if (l0.length : Int) < 2 then (impl_IsLine.j0 k l0 true) else (impl_IsLine.j0 k l0 (decide ((l0.length : Int) > 10)))
set_option maxHeartbeats 8000000 in
set_option maxRecDepth 100000 in
theorem impl_IsLine.calls (k : Nat) (A0 : Option Addr) (c0 : Nat) (l0 : List (S49)) (r : Bool) (w : World) (hr0 : Kd.C k49 w A0 l0.length l0) (hc0 : l0.length ≤ c0) (h : impl_IsLine.f k l0 = some r) :
  Calls Try.prog 94 #[.slice A0 l0.length c0] w fun e w' => e = .returned (.bool r) ∧ Below w.heap.size w w' := by
 have hu49 := Try.underlying49
 have HR0 := Aside0.mk hr0
 have HC0 := Aside0.mk hc0
 clear hr0 hc0
 have HB := Aside0.mk (Below.refl w.heap.size w)
 have H : (if (l0.length : Int) < 2 then (impl_IsLine.j0 k l0 true) else (impl_IsLine.j0 k l0 (decide ((l0.length : Int) > 10)))) = some r := h
 clear h
 have HC2 := Aside0.mk H
 clear H
 go_enter Try.func94, Try.ntmps94
 go_upto_region 1 with (fail)
 go_cut [12] (fun v12 wc => ∃ (kq : Nat) (x12_1 : Bool), v12 = .bool x12_1 ∧ Aside0 (impl_IsLine.j0 kq l0 x12_1 = some r) ∧ Aside0 (kq ≤ k) ∧ Aside0 (Below w.heap.size w wc))
 case first =>
  have H := HC2.out
  clear HC2
  by_cases c3 : (l0.length : Int) < 2
  ·
   rw [if_pos c3] at H
   have c3b0 : decide ((l0.length : Int) < 2) = true := decide_eq_true c3
   have c3b1 : decide (l0.length < 2) = true := decide_eq_true (by omega)
   clear c3
   (first | rw [c3b0] | (simp only [i64_w, i32_w]; rw [c3b0]) | skip)
   have H' := Aside0.mk H
   clear H
   go_wp2
   go_meet
   case rel => exact ⟨_, (true), (by first | rfl | (simp; done) | (simp [*]; done)), H', ⟨by first | omega | exact Nat.le_refl _⟩, ⟨Hd.b_⟩⟩
  ·
   rw [if_neg c3] at H
   have c3b0 : decide ((l0.length : Int) < 2) = false := decide_eq_false c3
   have c3b1 : decide (l0.length < 2) = false := decide_eq_false (by omega)
   clear c3
   (first | rw [c3b0] | (simp only [i64_w, i32_w]; rw [c3b0]) | skip)
   have H' := Aside0.mk H
   clear H
   go_wp2
   go_meet
   case rel => exact ⟨_, (decide ((l0.length : Int) > 10)), (by first | rfl | (simp; done) | (simp [*]; done)), H', ⟨by first | omega | exact Nat.le_refl _⟩, ⟨Hd.b_⟩⟩
 case rest =>
  clear HC2
  try clear p2
  try clear c3
  try clear c3b0
  try clear c3b1
  obtain ⟨kq, x12_1, rfl, HA, HJ1, HB⟩ := hcut
  cases kq with
  | zero => exact absurd HA.out (by simp [impl_IsLine.j0])
  | succ kj1 =>
   have H := HA.out
   clear HA
   simp only [impl_IsLine.j0] at H
   by_cases c4 : x12_1 = true
   ·
    subst c4
    have H1 : (some false) = some r := by rw [if_pos rfl] at H; exact H
    clear H
    have H := H1
    clear H1
    obtain rfl := Option.some.inj H
    go_wp2
    go_ret
    exact ⟨Hd.e_, Hd.b_⟩
   ·
    replace c4 := Bool.eq_false_iff.mpr c4
    subst c4
    have H1 : (impl_IsLine.l0 kj1 l0 l0 (l0.length : Int) 0) = some r := by rw [if_neg (show ¬ (false = true) by decide)] at H; exact H
    clear H
    have H := H1
    clear H1
    have H' := Aside0.mk H
    clear H
    go_wp2
    go_loopg [15] kj1 (fun kq v15 w' => ∃ (x15_2 : Int), v15 = .int .i64 x15_2 ∧ Aside0 (impl_IsLine.l0 kq l0 l0 (l0.length : Int) x15_2 = some r) ∧ Aside0 (kq ≤ kj1) ∧ Aside0 (Below w.heap.size w w'))
    case atStart => exact ⟨(0), (by first | rfl | (simp; done) | (simp [*]; done)), H', ⟨Nat.le_refl _⟩, ⟨Hd.b_⟩⟩
    case round =>
     clear H'
     try clear p2
     try clear c3
     try clear c3b0
     try clear c3b1
     try clear c4
     try clear p2
     obtain ⟨x15_2, rfl, HA, HK2, HB⟩ := hrel
     cases gk with
     | zero => exact absurd HA.out (by simp [impl_IsLine.l0])
     | succ k2 =>
      have H := HA.out
      clear HA
      simp only [impl_IsLine.l0] at H
      by_cases c5 : x15_2 < (l0.length : Int)
      ·
       rw [if_pos c5] at H
       have c5b0 : decide (x15_2 < (l0.length : Int)) = true := decide_eq_true c5
       clear c5
       by_cases c6 : 0 ≤ x15_2
       ·
        rw [if_pos c6] at H
        have c6b0 : decide (0 ≤ x15_2) = true := decide_eq_true c6
        clear c6
        by_cases c7 : x15_2 < (l0.length : Int)
        ·
         rw [if_pos c7] at H
         have c7b0 : decide (x15_2 < (l0.length : Int)) = true := decide_eq_true c7
         clear c7
         replace H := Option.bind_eq_some_iff.mp H
         obtain ⟨t259, A80, H⟩ := H
         replace H : (if t259 = true then (if x15_2 > 0 then (if 0 ≤ (wrap64 (x15_2 - 1)) then (if (wrap64 (x15_2 - 1)) < (l0.length : Int) then (if (((rd_T49 l0 x15_2).f0) == ((rd_T49 l0 (wrap64 (x15_2 - 1))).f0) && (((rd_T49 l0 x15_2).f1) == ((rd_T49 l0 (wrap64 (x15_2 - 1))).f1))) = true then (some false) else (impl_IsLine.l0 k2 l0 l0 (l0.length : Int) (wrap64 (x15_2 + 1)))) else (none)) else (none)) else (impl_IsLine.l0 k2 l0 l0 (l0.length : Int) (wrap64 (x15_2 + 1)))) else (some false)) = some r := H
         have A8 := Aside0.mk A80
         clear A80
         by_cases c9 : t259 = true
         ·
          subst c9
          have H1 : (if x15_2 > 0 then (if 0 ≤ (wrap64 (x15_2 - 1)) then (if (wrap64 (x15_2 - 1)) < (l0.length : Int) then (if (((rd_T49 l0 x15_2).f0) == ((rd_T49 l0 (wrap64 (x15_2 - 1))).f0) && (((rd_T49 l0 x15_2).f1) == ((rd_T49 l0 (wrap64 (x15_2 - 1))).f1))) = true then (some false) else (impl_IsLine.l0 k2 l0 l0 (l0.length : Int) (wrap64 (x15_2 + 1)))) else (none)) else (none)) else (impl_IsLine.l0 k2 l0 l0 (l0.length : Int) (wrap64 (x15_2 + 1)))) = some r := by rw [if_pos rfl] at H; exact H
          clear H
          have H := H1
          clear H1
          by_cases c10 : x15_2 > 0
          ·
           rw [if_pos c10] at H
           have c10b0 : decide (0 < x15_2) = true := decide_eq_true c10
           clear c10
           obtain ⟨ji11, hji11⟩ : ∃ j_ : Int, (wrap64 (x15_2 - 1)) = j_ := ⟨_, rfl⟩
           replace H : (if 0 ≤ (ji11) then (if (ji11) < (l0.length : Int) then (if (((rd_T49 l0 x15_2).f0) == ((rd_T49 l0 (ji11)).f0) && (((rd_T49 l0 x15_2).f1) == ((rd_T49 l0 (ji11)).f1))) = true then (some false) else (impl_IsLine.l0 k2 l0 l0 (l0.length : Int) (wrap64 (x15_2 + 1)))) else (none)) else (none)) = some r := by first | (rw [hji11] at H; exact H) | (simp only [hji11] at H ⊢; exact H)
           (try rw [hji11] at A8)
           have hji11w : (IntKind.i64.wrap (x15_2 - 1)) = ji11 := (i64_w _).trans hji11
           by_cases c12 : 0 ≤ (ji11)
           ·
            rw [if_pos c12] at H
            have c12b0 : decide (0 ≤ (ji11)) = true := decide_eq_true c12
            clear c12
            by_cases c13 : (ji11) < (l0.length : Int)
            ·
             rw [if_pos c13] at H
             have c13b0 : decide ((ji11) < (l0.length : Int)) = true := decide_eq_true c13
             clear c13
             by_cases c14 : (((rd_T49 l0 x15_2).f0) == ((rd_T49 l0 (ji11)).f0) && (((rd_T49 l0 x15_2).f1) == ((rd_T49 l0 (ji11)).f1))) = true
             ·
              rw [if_pos c14] at H
              have c14b0 : (((rd_T49 l0 x15_2).f0) == ((rd_T49 l0 (ji11)).f0) && (((rd_T49 l0 x15_2).f1) == ((rd_T49 l0 (ji11)).f1))) = true := c14
              (try (have c14b1 : decide (((rd_T49 l0 x15_2).f0) = ((rd_T49 l0 (ji11)).f0) && (((rd_T49 l0 x15_2).f1) == ((rd_T49 l0 (ji11)).f1))) = true := by simpa using c14))
              (try (have c14b2 : (((rd_T49 l0 x15_2).f0) == ((rd_T49 l0 (ji11)).f0) && (((rd_T49 l0 x15_2).f1) == ((rd_T49 l0 (ji11)).f1))) = true := by simpa using c14))
              clear c14
              obtain rfl := Option.some.inj H
              have p257 : 0 ≤ (x15_2 : Int) := of_decide_eq_true Hd.a_
              have q257 : x15_2 < (l0.length : Int) := of_decide_eq_true Hd.a_
              obtain ⟨ad257, e257, hx257_0, hx257_1⟩ := at_T49 HR0.out x15_2 p257 q257
              cases e257
              replace hx257_0 := (HB.out.cell (World.block_lt_of_cell? w _ hx257_0)).trans hx257_0
              replace hx257_1 := (HB.out.cell (World.block_lt_of_cell? w _ hx257_1)).trans hx257_1
              replace p257 := eq_true p257
              replace q257 := eq_true q257
              try go_wp2_with (first | ((with_reducible refine gate_dst (N := 4) rfl ?_); (try (refine gate_guard (by rfl) ?_; dsimp only)); refine Hd.box_ 4 (#[.int .i64 0, .int .i64 0]) 49 ?_; intro gb258 hg w15 hbox hb; have BK258 := Aside0.mk (hbox); have GW258 := Aside0.mk ((Hd.g_ hg Hd.b_ : w.heap.size ≤ gb258)); have GE258 := Aside0.mk ((Hd.g_ hg Hd.b_ : w.heap.size ≤ gb258)); replace HB := Aside0.mk (below_step Hd.b_ hb); clear hb hbox hg; obtain ⟨hcz16_0, hcz16_1⟩ := Hd.c2_ BK258.out; obtain ⟨hfz16_0, hfz16_1⟩ := Hd.f2_ BK258.out))
              have n0_ : Aside0 (((w15.setCell ⟨gb258, 0, none⟩ (.int .i64 ((rd_T49 l0 x15_2).f0))).setCell ⟨gb258, 1, none⟩ (.int .i64 ((rd_T49 l0 x15_2).f1))).heap[gb258]? = some (.cells #[.int .i64 ((rd_T49 l0 x15_2).f0), .int .i64 ((rd_T49 l0 x15_2).f1)] 49 (0, 0))) := ⟨by (with_reducible repeat (first | refine blk_drewN ?_ _ | refine blk_drew ?_ | refine blk_alloc ?_ _)); refine blk_put (cs := #[.int .i64 ((rd_T49 l0 x15_2).f0), .int .i64 0]) ?_ 1 _ rfl; (with_reducible repeat (first | refine blk_drewN ?_ _ | refine blk_drew ?_ | refine blk_alloc ?_ _)); refine blk_put (cs := #[.int .i64 0, .int .i64 0]) ?_ 0 _ rfl; (with_reducible repeat (first | refine blk_drewN ?_ _ | refine blk_drew ?_ | refine blk_alloc ?_ _)); exact BK258.out⟩
              have n1_ : Aside0 (Below w.heap.size w ((w15.setCell ⟨gb258, 0, none⟩ (.int .i64 ((rd_T49 l0 x15_2).f0))).setCell ⟨gb258, 1, none⟩ (.int .i64 ((rd_T49 l0 x15_2).f1)))) := ⟨Hd.b_⟩
              (try clear BK258)
              (try clear HB)
              generalize ((w15.setCell ⟨gb258, 0, none⟩ (.int .i64 ((rd_T49 l0 x15_2).f0))).setCell ⟨gb258, 1, none⟩ (.int .i64 ((rd_T49 l0 x15_2).f1))) = w17 at n0_ n1_ ⊢
              have BK258 := n0_
              have HB := n1_
              clear n0_ n1_
              replace BK258 := Aside0.mk (blk_drew BK258.out)
              replace HB := Aside0.mk (below_drew1 HB.out)
              have p260 : 0 ≤ ((ji11) : Int) := of_decide_eq_true Hd.a_
              have q260 : (ji11) < (l0.length : Int) := of_decide_eq_true Hd.a_
              obtain ⟨ad260, e260, hx260_0, hx260_1⟩ := at_T49 HR0.out (ji11) p260 q260
              have hw260_1 := hx260_1
              have hw260_0 := hx260_0
              obtain rfl : ad257 = ad260 := (by injection e260)
              replace hx260_0 := (HB.out.cell (World.block_lt_of_cell? w _ hx260_0)).trans hx260_0
              replace hx260_1 := (HB.out.cell (World.block_lt_of_cell? w _ hx260_1)).trans hx260_1
              replace p260 := eq_true p260
              replace q260 := eq_true q260
              obtain ⟨s0_, s1_⟩ := Hd.HW.k2 (W0 := w17.drew) BK258
              have s2_ := Hd.HW.x (W0 := w17.drew) ((HB.out.cell (World.block_lt_of_cell? w _ hw260_0)).trans hw260_0)
              have s3_ := Hd.HW.x (W0 := w17.drew) ((HB.out.cell (World.block_lt_of_cell? w _ hw260_1)).trans hw260_1)
              refine Hd.HW.region (by kernel_rfl) (by kernel_rfl) ?_
              repeat (go_big_quiet_step ((first | (go_at_call 105; with_reducible exact Hd.HW.c (impl_IsPoint.calls ((rd_T49 l0 x15_2).f0) ((rd_T49 l0 x15_2).f1) true _ A8.out)))))
              refine wpQuiet_nil ?_
              intro _ hq_
              obtain ⟨q_, rfl⟩ := hq_
              clear s0_ s1_ s2_ s3_
              replace BK258 := Aside0.mk (blk_below BK258.out q_.b)
              replace HB := Aside0.mk (below_step HB.out q_.b)
              replace hx260_0 := q_.cell hx260_0
              replace hx260_1 := q_.cell hx260_1
              generalize q_.W = w19 at BK258 HB hx260_0 hx260_1 ⊢
              try simp only [i64_w, i32_w]
              try go_wp2
              go_ret
              exact ⟨by first | rfl | (simp [errW_none, errW_some] <;> rfl) | (simp only [← hji11]; first | rfl | (simp [errW_none, errW_some] <;> rfl)) | (simp [*, errW_none, errW_some] <;> rfl), Hd.b_⟩
             ·
              rw [if_neg c14] at H
              have c14b0 : (((rd_T49 l0 x15_2).f0) == ((rd_T49 l0 (ji11)).f0) && (((rd_T49 l0 x15_2).f1) == ((rd_T49 l0 (ji11)).f1))) = false := by simpa using c14
              (try (have c14b1 : decide (((rd_T49 l0 x15_2).f0) = ((rd_T49 l0 (ji11)).f0) && (((rd_T49 l0 x15_2).f1) == ((rd_T49 l0 (ji11)).f1))) = false := by simpa using c14))
              (try (have c14b2 : (((rd_T49 l0 x15_2).f0) == ((rd_T49 l0 (ji11)).f0) && (((rd_T49 l0 x15_2).f1) == ((rd_T49 l0 (ji11)).f1))) = false := by simpa using c14))
              (try (have c14b3 : ¬ (((rd_T49 l0 x15_2).f0) = ((rd_T49 l0 (ji11)).f0) && (((rd_T49 l0 x15_2).f1) == ((rd_T49 l0 (ji11)).f1))) := by simpa using c14))
              clear c14
              have H' := Aside0.mk H
              clear H
              have p257 : 0 ≤ (x15_2 : Int) := of_decide_eq_true Hd.a_
              have q257 : x15_2 < (l0.length : Int) := of_decide_eq_true Hd.a_
              obtain ⟨ad257, e257, hx257_0, hx257_1⟩ := at_T49 HR0.out x15_2 p257 q257
              cases e257
              replace hx257_0 := (HB.out.cell (World.block_lt_of_cell? w _ hx257_0)).trans hx257_0
              replace hx257_1 := (HB.out.cell (World.block_lt_of_cell? w _ hx257_1)).trans hx257_1
              replace p257 := eq_true p257
              replace q257 := eq_true q257
              try go_wp2_with (first | ((with_reducible refine gate_dst (N := 4) rfl ?_); (try (refine gate_guard (by rfl) ?_; dsimp only)); refine Hd.box_ 4 (#[.int .i64 0, .int .i64 0]) 49 ?_; intro gb258 hg w20 hbox hb; have BK258 := Aside0.mk (hbox); have GW258 := Aside0.mk ((Hd.g_ hg Hd.b_ : w.heap.size ≤ gb258)); have GE258 := Aside0.mk ((Hd.g_ hg Hd.b_ : w.heap.size ≤ gb258)); replace HB := Aside0.mk (below_step Hd.b_ hb); clear hb hbox hg; obtain ⟨hcz21_0, hcz21_1⟩ := Hd.c2_ BK258.out; obtain ⟨hfz21_0, hfz21_1⟩ := Hd.f2_ BK258.out))
              have n0_ : Aside0 (((w20.setCell ⟨gb258, 0, none⟩ (.int .i64 ((rd_T49 l0 x15_2).f0))).setCell ⟨gb258, 1, none⟩ (.int .i64 ((rd_T49 l0 x15_2).f1))).heap[gb258]? = some (.cells #[.int .i64 ((rd_T49 l0 x15_2).f0), .int .i64 ((rd_T49 l0 x15_2).f1)] 49 (0, 0))) := ⟨by (with_reducible repeat (first | refine blk_drewN ?_ _ | refine blk_drew ?_ | refine blk_alloc ?_ _)); refine blk_put (cs := #[.int .i64 ((rd_T49 l0 x15_2).f0), .int .i64 0]) ?_ 1 _ rfl; (with_reducible repeat (first | refine blk_drewN ?_ _ | refine blk_drew ?_ | refine blk_alloc ?_ _)); refine blk_put (cs := #[.int .i64 0, .int .i64 0]) ?_ 0 _ rfl; (with_reducible repeat (first | refine blk_drewN ?_ _ | refine blk_drew ?_ | refine blk_alloc ?_ _)); exact BK258.out⟩
              have n1_ : Aside0 (Below w.heap.size w ((w20.setCell ⟨gb258, 0, none⟩ (.int .i64 ((rd_T49 l0 x15_2).f0))).setCell ⟨gb258, 1, none⟩ (.int .i64 ((rd_T49 l0 x15_2).f1)))) := ⟨Hd.b_⟩
              (try clear BK258)
              (try clear HB)
              generalize ((w20.setCell ⟨gb258, 0, none⟩ (.int .i64 ((rd_T49 l0 x15_2).f0))).setCell ⟨gb258, 1, none⟩ (.int .i64 ((rd_T49 l0 x15_2).f1))) = w22 at n0_ n1_ ⊢
              have BK258 := n0_
              have HB := n1_
              clear n0_ n1_
              replace BK258 := Aside0.mk (blk_drew BK258.out)
              replace HB := Aside0.mk (below_drew1 HB.out)
              have p260 : 0 ≤ ((ji11) : Int) := of_decide_eq_true Hd.a_
              have q260 : (ji11) < (l0.length : Int) := of_decide_eq_true Hd.a_
              obtain ⟨ad260, e260, hx260_0, hx260_1⟩ := at_T49 HR0.out (ji11) p260 q260
              have hw260_1 := hx260_1
              have hw260_0 := hx260_0
              obtain rfl : ad257 = ad260 := (by injection e260)
              replace hx260_0 := (HB.out.cell (World.block_lt_of_cell? w _ hx260_0)).trans hx260_0
              replace hx260_1 := (HB.out.cell (World.block_lt_of_cell? w _ hx260_1)).trans hx260_1
              replace p260 := eq_true p260
              replace q260 := eq_true q260
              obtain ⟨s0_, s1_⟩ := Hd.HW.k2 (W0 := w22.drew) BK258
              have s2_ := Hd.HW.x (W0 := w22.drew) ((HB.out.cell (World.block_lt_of_cell? w _ hw260_0)).trans hw260_0)
              have s3_ := Hd.HW.x (W0 := w22.drew) ((HB.out.cell (World.block_lt_of_cell? w _ hw260_1)).trans hw260_1)
              refine Hd.HW.region (by kernel_rfl) (by kernel_rfl) ?_
              repeat (go_big_quiet_step ((first | (go_at_call 105; with_reducible exact Hd.HW.c (impl_IsPoint.calls ((rd_T49 l0 x15_2).f0) ((rd_T49 l0 x15_2).f1) true _ A8.out)))))
              refine wpQuiet_nil ?_
              intro _ hq_
              obtain ⟨q_, rfl⟩ := hq_
              clear s0_ s1_ s2_ s3_
              replace BK258 := Aside0.mk (blk_below BK258.out q_.b)
              replace HB := Aside0.mk (below_step HB.out q_.b)
              replace hx260_0 := q_.cell hx260_0
              replace hx260_1 := q_.cell hx260_1
              generalize q_.W = w24 at BK258 HB hx260_0 hx260_1 ⊢
              try simp only [i64_w, i32_w]
              try go_wp2
              go_roundg k2
              case measure => have := HJ1.out; have := HK2.out; omega
              case rel => exact ⟨(wrap64 (x15_2 + 1)), (by first | rfl | (simp; done) | (simp [*]; done)), H', ⟨by have := HJ1.out; have := HK2.out; omega⟩, ⟨Hd.b_⟩⟩
            ·
             rw [if_neg c13] at H
             exact absurd H (by simp)
           ·
            rw [if_neg c12] at H
            exact absurd H (by simp)
          ·
           rw [if_neg c10] at H
           have c10b0 : decide (0 < x15_2) = false := decide_eq_false c10
           clear c10
           have H' := Aside0.mk H
           clear H
           have p257 : 0 ≤ (x15_2 : Int) := of_decide_eq_true Hd.a_
           have q257 : x15_2 < (l0.length : Int) := of_decide_eq_true Hd.a_
           obtain ⟨ad257, e257, hx257_0, hx257_1⟩ := at_T49 HR0.out x15_2 p257 q257
           cases e257
           replace hx257_0 := (HB.out.cell (World.block_lt_of_cell? w _ hx257_0)).trans hx257_0
           replace hx257_1 := (HB.out.cell (World.block_lt_of_cell? w _ hx257_1)).trans hx257_1
           replace p257 := eq_true p257
           replace q257 := eq_true q257
           try go_wp2_with (first | ((with_reducible refine gate_dst (N := 4) rfl ?_); (try (refine gate_guard (by rfl) ?_; dsimp only)); refine Hd.box_ 4 (#[.int .i64 0, .int .i64 0]) 49 ?_; intro gb258 hg w25 hbox hb; have BK258 := Aside0.mk (hbox); have GW258 := Aside0.mk ((Hd.g_ hg Hd.b_ : w.heap.size ≤ gb258)); have GE258 := Aside0.mk ((Hd.g_ hg Hd.b_ : w.heap.size ≤ gb258)); replace HB := Aside0.mk (below_step Hd.b_ hb); clear hb hbox hg; obtain ⟨hcz26_0, hcz26_1⟩ := Hd.c2_ BK258.out; obtain ⟨hfz26_0, hfz26_1⟩ := Hd.f2_ BK258.out))
           have n0_ : Aside0 (((w25.setCell ⟨gb258, 0, none⟩ (.int .i64 ((rd_T49 l0 x15_2).f0))).setCell ⟨gb258, 1, none⟩ (.int .i64 ((rd_T49 l0 x15_2).f1))).heap[gb258]? = some (.cells #[.int .i64 ((rd_T49 l0 x15_2).f0), .int .i64 ((rd_T49 l0 x15_2).f1)] 49 (0, 0))) := ⟨by (with_reducible repeat (first | refine blk_drewN ?_ _ | refine blk_drew ?_ | refine blk_alloc ?_ _)); refine blk_put (cs := #[.int .i64 ((rd_T49 l0 x15_2).f0), .int .i64 0]) ?_ 1 _ rfl; (with_reducible repeat (first | refine blk_drewN ?_ _ | refine blk_drew ?_ | refine blk_alloc ?_ _)); refine blk_put (cs := #[.int .i64 0, .int .i64 0]) ?_ 0 _ rfl; (with_reducible repeat (first | refine blk_drewN ?_ _ | refine blk_drew ?_ | refine blk_alloc ?_ _)); exact BK258.out⟩
           have n1_ : Aside0 (Below w.heap.size w ((w25.setCell ⟨gb258, 0, none⟩ (.int .i64 ((rd_T49 l0 x15_2).f0))).setCell ⟨gb258, 1, none⟩ (.int .i64 ((rd_T49 l0 x15_2).f1)))) := ⟨Hd.b_⟩
           (try clear BK258)
           (try clear HB)
           generalize ((w25.setCell ⟨gb258, 0, none⟩ (.int .i64 ((rd_T49 l0 x15_2).f0))).setCell ⟨gb258, 1, none⟩ (.int .i64 ((rd_T49 l0 x15_2).f1))) = w27 at n0_ n1_ ⊢
           have BK258 := n0_
           have HB := n1_
           clear n0_ n1_
           replace BK258 := Aside0.mk (blk_drew BK258.out)
           replace HB := Aside0.mk (below_drew1 HB.out)
           obtain ⟨s0_, s1_⟩ := Hd.HW.k2 (W0 := w27.drew) BK258
           refine Hd.HW.region (by kernel_rfl) (by kernel_rfl) ?_
           repeat (go_big_quiet_step ((first | (go_at_call 105; with_reducible exact Hd.HW.c (impl_IsPoint.calls ((rd_T49 l0 x15_2).f0) ((rd_T49 l0 x15_2).f1) true _ A8.out)))))
           refine wpQuiet_nil ?_
           intro _ hq_
           obtain ⟨q_, rfl⟩ := hq_
           clear s0_ s1_
           replace BK258 := Aside0.mk (blk_below BK258.out q_.b)
           replace HB := Aside0.mk (below_step HB.out q_.b)
           generalize q_.W = w29 at BK258 HB ⊢
           try simp only [i64_w, i32_w]
           try go_wp2
           go_roundg k2
           case measure => have := HJ1.out; have := HK2.out; omega
           case rel => exact ⟨(wrap64 (x15_2 + 1)), (by first | rfl | (simp; done) | (simp [*]; done)), H', ⟨by have := HJ1.out; have := HK2.out; omega⟩, ⟨Hd.b_⟩⟩
         ·
          replace c9 := Bool.eq_false_iff.mpr c9
          subst c9
          have H1 : (some false) = some r := by rw [if_neg (show ¬ (false = true) by decide)] at H; exact H
          clear H
          have H := H1
          clear H1
          obtain rfl := Option.some.inj H
          have p257 : 0 ≤ (x15_2 : Int) := of_decide_eq_true Hd.a_
          have q257 : x15_2 < (l0.length : Int) := of_decide_eq_true Hd.a_
          obtain ⟨ad257, e257, hx257_0, hx257_1⟩ := at_T49 HR0.out x15_2 p257 q257
          cases e257
          replace hx257_0 := (HB.out.cell (World.block_lt_of_cell? w _ hx257_0)).trans hx257_0
          replace hx257_1 := (HB.out.cell (World.block_lt_of_cell? w _ hx257_1)).trans hx257_1
          replace p257 := eq_true p257
          replace q257 := eq_true q257
          try go_wp2_with (first | ((with_reducible refine gate_dst (N := 4) rfl ?_); (try (refine gate_guard (by rfl) ?_; dsimp only)); refine Hd.box_ 4 (#[.int .i64 0, .int .i64 0]) 49 ?_; intro gb258 hg w30 hbox hb; have BK258 := Aside0.mk (hbox); have GW258 := Aside0.mk ((Hd.g_ hg Hd.b_ : w.heap.size ≤ gb258)); have GE258 := Aside0.mk ((Hd.g_ hg Hd.b_ : w.heap.size ≤ gb258)); replace HB := Aside0.mk (below_step Hd.b_ hb); clear hb hbox hg; obtain ⟨hcz31_0, hcz31_1⟩ := Hd.c2_ BK258.out; obtain ⟨hfz31_0, hfz31_1⟩ := Hd.f2_ BK258.out))
          have n0_ : Aside0 (((w30.setCell ⟨gb258, 0, none⟩ (.int .i64 ((rd_T49 l0 x15_2).f0))).setCell ⟨gb258, 1, none⟩ (.int .i64 ((rd_T49 l0 x15_2).f1))).heap[gb258]? = some (.cells #[.int .i64 ((rd_T49 l0 x15_2).f0), .int .i64 ((rd_T49 l0 x15_2).f1)] 49 (0, 0))) := ⟨by (with_reducible repeat (first | refine blk_drewN ?_ _ | refine blk_drew ?_ | refine blk_alloc ?_ _)); refine blk_put (cs := #[.int .i64 ((rd_T49 l0 x15_2).f0), .int .i64 0]) ?_ 1 _ rfl; (with_reducible repeat (first | refine blk_drewN ?_ _ | refine blk_drew ?_ | refine blk_alloc ?_ _)); refine blk_put (cs := #[.int .i64 0, .int .i64 0]) ?_ 0 _ rfl; (with_reducible repeat (first | refine blk_drewN ?_ _ | refine blk_drew ?_ | refine blk_alloc ?_ _)); exact BK258.out⟩
          have n1_ : Aside0 (Below w.heap.size w ((w30.setCell ⟨gb258, 0, none⟩ (.int .i64 ((rd_T49 l0 x15_2).f0))).setCell ⟨gb258, 1, none⟩ (.int .i64 ((rd_T49 l0 x15_2).f1)))) := ⟨Hd.b_⟩
          (try clear BK258)
          (try clear HB)
          generalize ((w30.setCell ⟨gb258, 0, none⟩ (.int .i64 ((rd_T49 l0 x15_2).f0))).setCell ⟨gb258, 1, none⟩ (.int .i64 ((rd_T49 l0 x15_2).f1))) = w32 at n0_ n1_ ⊢
          have BK258 := n0_
          have HB := n1_
          clear n0_ n1_
          replace BK258 := Aside0.mk (blk_drew BK258.out)
          replace HB := Aside0.mk (below_drew1 HB.out)
          obtain ⟨s0_, s1_⟩ := Hd.HW.k2 (W0 := w32.drew) BK258
          refine Hd.HW.region (by kernel_rfl) (by kernel_rfl) ?_
          repeat (go_big_quiet_step ((first | (go_at_call 105; with_reducible exact Hd.HW.c (impl_IsPoint.calls ((rd_T49 l0 x15_2).f0) ((rd_T49 l0 x15_2).f1) false _ A8.out)))))
          refine wpQuiet_nil ?_
          intro _ hq_
          obtain ⟨q_, rfl⟩ := hq_
          clear s0_ s1_
          replace BK258 := Aside0.mk (blk_below BK258.out q_.b)
          replace HB := Aside0.mk (below_step HB.out q_.b)
          generalize q_.W = w34 at BK258 HB ⊢
          try simp only [i64_w, i32_w]
          try go_wp2
          go_ret
          exact ⟨Hd.e_, Hd.b_⟩
        ·
         rw [if_neg c7] at H
         exact absurd H (by simp)
       ·
        rw [if_neg c6] at H
        exact absurd H (by simp)
      ·
       rw [if_neg c5] at H
       have c5b0 : decide (x15_2 < (l0.length : Int)) = false := decide_eq_false c5
       clear c5
       obtain rfl := Option.some.inj H
       go_wp2
       go_ret
       exact ⟨Hd.e_, Hd.b_⟩
def impl_SegmentsOf.l0 : Nat → List (S49) → List (S111) → Int → Option ((List (S111)))
 | 0, _, _, _ => none
 | k + 1, x0, x3, x4 => if x4 < (x0.length : Int) then (if 0 ≤ (wrap64 (x4 - 1)) then (if (wrap64 (x4 - 1)) < (x0.length : Int) then (if 0 ≤ x4 then (if x3.length < 4398046511104 then (impl_SegmentsOf.l0 k x0 (x3 ++ [(⟨(⟨(rd_T49 x0 (wrap64 (x4 - 1))).f0, (rd_T49 x0 (wrap64 (x4 - 1))).f1⟩ : S49), (⟨(rd_T49 x0 x4).f0, (rd_T49 x0 x4).f1⟩ : S49)⟩ : S111)]) (wrap64 (x4 + 1))) else (none)) else (none)) else (none)) else (none)) else (some x3)
def impl_SegmentsOf.f (k : Nat) (l0 : List (S49)) : Option ((List (S111))) := (some (([] : List (S111)) : List (S111))).bind fun y261 => ((impl_IsLine.f k l0).bind fun t264 => (if t264 = true then (impl_SegmentsOf.l0 k l0 y261 1) else (some y261)))
def impl_SegmentsOf.T7 : Bool × List (List Nat × List Nat) := (true, [([], []), ([], []), ([], []), ([2], [2]), ([1, 3], [1, 3]), ([4], [4]), ([], []), ([], []), ([6, 7], [6, 7]), ([8], [8]), ([5, 9], [5, 9]), ([10], [10]), ([0, 11], [0, 11]), ([12, 12, 0, 1, 2, 3, 4, 5, 6, 7, 8, 9, 10, 11, 12], [0, 12])])
def impl_SegmentsOf.B7 : List Nat := [0, 0, 0, 4, 14, 30, 0, 0, 192, 448, 1022, 2046, 4095, 8191]
theorem impl_SegmentsOf.tab7 : rtab .any (opsOf Try.f95 7) = impl_SegmentsOf.T7 := by kernel_rfl
theorem impl_SegmentsOf.bits7 : waitsOk impl_SegmentsOf.T7.2 impl_SegmentsOf.B7 = true := by kernel_rfl
set_option maxHeartbeats 8000000 in
set_option maxRecDepth 100000 in
theorem impl_SegmentsOf.calls (k : Nat) (A0 : Option Addr) (c0 : Nat) (l0 : List (S49)) (r : List (S111)) (w : World) (hr0 : Kd.C k49 w A0 l0.length l0) (hc0 : l0.length ≤ c0) (h : impl_SegmentsOf.f k l0 = some r) :
  Calls Try.prog 95 #[.slice A0 l0.length c0] w fun e w' => ∃ v0_ : Value, e = .returned (v0_) ∧ Kd.R k111 111 w' w.heap.size (fun _ => True) v0_ r ∧ Below w.heap.size w w' := by
 have hu49 := Try.underlying49
 have hu111 := Try.underlying111
 have HR0 := Aside0.mk hr0
 have HC0 := Aside0.mk hc0
 clear hr0 hc0
 have HB := Aside0.mk (Below.refl w.heap.size w)
 have H : ((some (([] : List (S111)) : List (S111))).bind fun y261 => ((impl_IsLine.f k l0).bind fun t264 => (if t264 = true then (impl_SegmentsOf.l0 k l0 y261 1) else (some y261)))) = some r := h
 clear h
 obtain ⟨y261, hy261⟩ : ∃ y_ : List (S111), y_ = (([] : List (S111))) := ⟨_, rfl⟩
 replace H : ((impl_IsLine.f k l0).bind fun t264 => (if t264 = true then (impl_SegmentsOf.l0 k l0 y261 1) else (some y261))) = some r := by first | (rw [hy261]; with_reducible exact H) | (have H2_ := (Option.bind_some _ _).symm.trans H; rw [hy261]; with_reducible exact H2_) | (have H2_ := (Option.bind_some _ _).symm.trans H; with_reducible exact H2_) | with_reducible exact H | (rw [hy261]; exact H) | exact H
 have Ny261 := Aside0.mk hy261
 clear hy261
 replace H := Option.bind_eq_some_iff.mp H
 obtain ⟨t264, A20, H⟩ := H
 replace H : (if t264 = true then (impl_SegmentsOf.l0 k l0 y261 1) else (some y261)) = some r := H
 have A2 := Aside0.mk A20
 clear A20
 by_cases c3 : t264 = true
 ·
  subst c3
  have H1 : (impl_SegmentsOf.l0 k l0 y261 1) = some r := by rw [if_pos rfl] at H; exact H
  clear H
  have H := H1
  clear H1
  have H' := Aside0.mk H
  clear H
  go_enter Try.func95, Try.ntmps95
  go_wp2_with (first | ((with_reducible refine gate_dst (N := 5) rfl ?_); refine Kd.R_lit k111 _ 111 ?hg (N := 5) ?hd (xs := ([] : List (S111))) (inner := []) (ok := fun _ => True) (okp := fun _ => True) ?hr ?hp (fun _ hk => hk) trivial (Below.refl _ _) (Nat.le_refl _) (by simp) ?_; (case hd => rfl); (case hg => rfl); (case hr => first | (go_simp; done) | (go_simp; rfl)); (case hp => exact (Reps.none _ _)); intro v262 w4 ho5 hb hg_ hnew_; clear hg_ hnew_; (first | rw [← Ny261.out] at ho5 | (simp only [Int.reduceToNat] at ho5; rw [← Ny261.out] at ho5)); have HO263 := Aside0.mk (Kd.R_lower ho5 (below_size Hd.b_)); replace HB := Aside0.mk (below_step Hd.b_ hb); clear hb ho5) | ((with_reducible refine gate_callee (f := 94) rfl ?_); refine goesL_ (some 7) rfl rfl Try.func94 (by kernel_rfl) rfl #[.slice A0 l0.length c0] rfl Hd.m_ ?_; (with_reducible refine (impl_IsLine.calls k _ _ l0 true _ ?side1 ?side2 A2.out).mono ?_); (case side1 => repeat (first | exact (Kd.C_below HR0.out HB.out) | (with_reducible refine Kd.C_alloc ?_ _) | (with_reducible refine Kd.C_drewN ?_ _) | (with_reducible refine Kd.C_drew ?_))); (case side2 => exact HC0.out); rintro e w6 ⟨rfl, hb⟩; refine ⟨_, rfl, ?_⟩; replace HO263 := Aside0.mk (Kd.R_below (Hd.r_ HO263) hb); replace HB := Aside0.mk (below_step Hd.b_ hb); (try clear hb); (try clear hb2); (try clear hk); (try clear hi)))
  go_loopg [3, 4] k (fun kq v3 v4 w' => ∃ (x3_1 : List (S111)) (x4_1 : Int), v4 = .int .i64 x4_1 ∧ Aside0 (impl_SegmentsOf.l0 kq l0 x3_1 x4_1 = some r) ∧ Aside0 (kq ≤ k) ∧ Aside0 (Kd.R k111 111 w' w.heap.size (fun _ => True) v3 x3_1) ∧ Aside0 (Below w.heap.size w w'))
  case atStart => exact ⟨(y261), (1), (by first | rfl | (simp; done) | (simp [*]; done)), H', ⟨Nat.le_refl _⟩, ⟨by (with_reducible repeat (first | apply Kd.R_alloc | apply Kd.R_drewN | apply Kd.R_drew)); exact HO263.out⟩, ⟨Hd.b_⟩⟩
  case round =>
   clear H'
   try clear p2
   try clear c3
   obtain ⟨x3_1, x4_1, rfl, HA, HK1, HO_3, HB⟩ := hrel
   cases gk with
   | zero => exact absurd HA.out (by simp [impl_SegmentsOf.l0])
   | succ k1 =>
    have H := HA.out
    clear HA
    simp only [impl_SegmentsOf.l0] at H
    by_cases c7 : x4_1 < (l0.length : Int)
    ·
     rw [if_pos c7] at H
     have c7b0 : decide (x4_1 < (l0.length : Int)) = true := decide_eq_true c7
     clear c7
     obtain ⟨ji8, hji8⟩ : ∃ j_ : Int, (wrap64 (x4_1 - 1)) = j_ := ⟨_, rfl⟩
     replace H : (if 0 ≤ (ji8) then (if (ji8) < (l0.length : Int) then (if 0 ≤ x4_1 then (if x3_1.length < 4398046511104 then (impl_SegmentsOf.l0 k1 l0 (x3_1 ++ [(⟨(⟨(rd_T49 l0 (ji8)).f0, (rd_T49 l0 (ji8)).f1⟩ : S49), (⟨(rd_T49 l0 x4_1).f0, (rd_T49 l0 x4_1).f1⟩ : S49)⟩ : S111)]) (wrap64 (x4_1 + 1))) else (none)) else (none)) else (none)) else (none)) = some r := by first | (rw [hji8] at H; exact H) | (simp only [hji8] at H ⊢; exact H)
     have hji8w : (IntKind.i64.wrap (x4_1 - 1)) = ji8 := (i64_w _).trans hji8
     by_cases c9 : 0 ≤ (ji8)
     ·
      rw [if_pos c9] at H
      have c9b0 : decide (0 ≤ (ji8)) = true := decide_eq_true c9
      clear c9
      by_cases c10 : (ji8) < (l0.length : Int)
      ·
       rw [if_pos c10] at H
       have c10b0 : decide ((ji8) < (l0.length : Int)) = true := decide_eq_true c10
       clear c10
       by_cases c11 : 0 ≤ x4_1
       ·
        rw [if_pos c11] at H
        have c11b0 : decide (0 ≤ x4_1) = true := decide_eq_true c11
        clear c11
        by_cases c12 : x3_1.length < 4398046511104
        ·
         rw [if_pos c12] at H
         have LMc12 := Aside0.mk c12
         clear c12
         obtain ⟨y267, hy267⟩ : ∃ y_ : List (S111), y_ = (x3_1 ++ [(⟨(⟨(rd_T49 l0 (ji8)).f0, (rd_T49 l0 (ji8)).f1⟩ : S49), (⟨(rd_T49 l0 x4_1).f0, (rd_T49 l0 x4_1).f1⟩ : S49)⟩ : S111)]) := ⟨_, rfl⟩
         replace H : (impl_SegmentsOf.l0 k1 l0 y267 (wrap64 (x4_1 + 1))) = some r := by first | (rw [hy267]; with_reducible exact H) | (have H2_ := (Option.bind_some _ _).symm.trans H; rw [hy267]; with_reducible exact H2_) | (have H2_ := (Option.bind_some _ _).symm.trans H; with_reducible exact H2_) | with_reducible exact H | (rw [hy267]; exact H) | exact H
         have Ny267 := Aside0.mk hy267
         clear hy267
         have H' := Aside0.mk H
         clear H
         try go_wp2
         replace HO_3 := Aside0.mk (Kd.R_drew HO_3.out)
         replace HB := Aside0.mk (below_drew1 HB.out)
         have p265 : 0 ≤ ((ji8) : Int) := of_decide_eq_true Hd.a_
         have q265 : (ji8) < (l0.length : Int) := of_decide_eq_true Hd.a_
         obtain ⟨ad265, e265, hx265_0, hx265_1⟩ := at_T49 HR0.out (ji8) p265 q265
         have hw265_1 := hx265_1
         have hw265_0 := hx265_0
         cases e265
         replace hx265_0 := (HB.out.cell (World.block_lt_of_cell? w _ hx265_0)).trans hx265_0
         replace hx265_1 := (HB.out.cell (World.block_lt_of_cell? w _ hx265_1)).trans hx265_1
         replace p265 := eq_true p265
         replace q265 := eq_true q265
         have p266 : 0 ≤ (x4_1 : Int) := of_decide_eq_true Hd.a_
         have q266 : x4_1 < (l0.length : Int) := of_decide_eq_true Hd.a_
         obtain ⟨ad266, e266, hx266_0, hx266_1⟩ := at_T49 HR0.out x4_1 p266 q266
         have hw266_1 := hx266_1
         have hw266_0 := hx266_0
         obtain rfl : ad265 = ad266 := (by injection e266)
         replace hx266_0 := (HB.out.cell (World.block_lt_of_cell? w _ hx266_0)).trans hx266_0
         replace hx266_1 := (HB.out.cell (World.block_lt_of_cell? w _ hx266_1)).trans hx266_1
         replace p266 := eq_true p266
         replace q266 := eq_true q266
         refine start_ (n := 14) (S := fun w' => w'.cell? (ad265.add (((ji8)).toNat * 2)) = some (.int .i64 ((rd_T49 l0 (ji8)).f0)) ∧ w'.cell? ⟨(ad265.add (((ji8)).toNat * 2)).block, (ad265.add (((ji8)).toNat * 2)).off + 1, none⟩ = some (.int .i64 ((rd_T49 l0 (ji8)).f1)) ∧ w'.cell? (ad265.add ((x4_1).toNat * 2)) = some (.int .i64 ((rd_T49 l0 x4_1).f0)) ∧ w'.cell? ⟨(ad265.add ((x4_1).toNat * 2)).block, (ad265.add ((x4_1).toNat * 2)).off + 1, none⟩ = some (.int .i64 ((rd_T49 l0 x4_1).f1))) (ds := []) #[false, false, false, false, false, false, false, false, false, false, false, false, false, false] (by kernel_rfl) rfl rfl ⟨((HB.out.cell (World.block_lt_of_cell? w _ hw265_0)).trans hw265_0), ((HB.out.cell (World.block_lt_of_cell? w _ hw265_1)).trans hw265_1), ((HB.out.cell (World.block_lt_of_cell? w _ hw266_0)).trans hw266_0), ((HB.out.cell (World.block_lt_of_cell? w _ hw266_1)).trans hw266_1)⟩ (fun hHeld => ?_); refine with_tabW impl_SegmentsOf.tab7 impl_SegmentsOf.bits7 (fun HT_ HW_ => ?_)
         generalize wr.drew = w13 at HO_3 HB hx265_0 hx265_1 hx266_0 hx266_1 hHeld ⊢
         refine Hd.p_ HT_ 0 (some 16) #[true, false, false, false, false, false, false, false, false, false, false, false, false, false] ?_
         refine Hd.p_ HT_ 1 (some 17) #[true, true, false, false, false, false, false, false, false, false, false, false, false, false] ?_
         refine Hd.p_ HT_ 2 (some 18) #[true, true, true, false, false, false, false, false, false, false, false, false, false, false] ?_
         refine Hd.p_ HT_ 3 (some 19) #[true, true, true, true, false, false, false, false, false, false, false, false, false, false] ?_
         refine Hd.p_ HT_ 4 (some 20) #[true, true, true, true, true, false, false, false, false, false, false, false, false, false] ?_
         refine Hd.p_ HT_ 6 (some 22) #[true, true, true, true, true, false, true, false, false, false, false, false, false, false] ?_
         refine Hd.p_ HT_ 7 (some 23) #[true, true, true, true, true, false, true, true, false, false, false, false, false, false] ?_
         refine Hd.p_ HT_ 8 (some 24) #[true, true, true, true, true, false, true, true, true, false, false, false, false, false] ?_
         refine Hd.t_ HT_ HW_ hHeld 5 (some 21) #[true, true, true, true, true, true, true, true, true, false, false, false, false, false] ?_
         refine Hd.t_ HT_ HW_ hHeld 9 (some 25) #[true, true, true, true, true, true, true, true, true, true, false, false, false, false] ?_
         refine Hd.p_ HT_ 10 (some 26) #[true, true, true, true, true, true, true, true, true, true, true, false, false, false] ?_
         refine Hd.o_ HT_ 11 (some 27) #[true, true, true, true, true, true, true, true, true, true, true, true, false, false] (fun K hK => ?_)
         refine value_ (w1 := ?_) (v := ?_) (by rfl) rfl ?_ ?_
         rotate_left 2
         ·
          go_simp
          constructor
          ·
           rfl
          ·
           rfl
         refine hK.out _ _ ⟨(World.cell?_alloc_lt _ _ _ (World.block_lt_of_cell? _ _ (((HB.out.cell (World.block_lt_of_cell? w _ hw265_0)).trans hw265_0)))).trans (((HB.out.cell (World.block_lt_of_cell? w _ hw265_0)).trans hw265_0)), (World.cell?_alloc_lt _ _ _ (World.block_lt_of_cell? _ _ (((HB.out.cell (World.block_lt_of_cell? w _ hw265_1)).trans hw265_1)))).trans (((HB.out.cell (World.block_lt_of_cell? w _ hw265_1)).trans hw265_1)), (World.cell?_alloc_lt _ _ _ (World.block_lt_of_cell? _ _ (((HB.out.cell (World.block_lt_of_cell? w _ hw266_0)).trans hw266_0)))).trans (((HB.out.cell (World.block_lt_of_cell? w _ hw266_0)).trans hw266_0)), (World.cell?_alloc_lt _ _ _ (World.block_lt_of_cell? _ _ (((HB.out.cell (World.block_lt_of_cell? w _ hw266_1)).trans hw266_1)))).trans (((HB.out.cell (World.block_lt_of_cell? w _ hw266_1)).trans hw266_1))⟩ (fun hHeld => ?_)
         clear hK K
         refine Hd.n_ (some 27) ?_
         refine Hd.o_ HT_ 12 (some 28) #[true, true, true, true, true, true, true, true, true, true, true, true, true, false] (fun K hK => ?_)
         refine Kd.R_append_step k111 (w0 := w) w.heap.size (by rfl) (.tmp 16) (.tmp 27) 91 111 (.agg #[(.int .i64 0), (.int .i64 0), (.int .i64 0), (.int .i64 0)]) 32 rfl Try.underlying91 info111 rfl (by decide) (by omega) u3 x3_1 (⟨(⟨(rd_T49 l0 (ji8)).f0, (rd_T49 l0 (ji8)).f1⟩ : S49), (⟨(rd_T49 l0 x4_1).f0, (rd_T49 l0 x4_1).f1⟩ : S49)⟩ : S111) [.int .i64 ((rd_T49 l0 (ji8)).f0), .int .i64 ((rd_T49 l0 (ji8)).f1), .int .i64 ((rd_T49 l0 x4_1).f0), .int .i64 ((rd_T49 l0 x4_1).f1)] (fun _ => True) (fun _ => False) rfl rfl ?aP (fun _ hk => hk.elim) ?aF ?aO ?aB ?aS ?aL ?_
         (case aP => exact k111_mkM _ _ _ (⟨(⟨(rd_T49 l0 (ji8)).f0, (rd_T49 l0 (ji8)).f1⟩ : S49), (⟨(rd_T49 l0 x4_1).f0, (rd_T49 l0 x4_1).f1⟩ : S49)⟩ : S111))
         (case aB => exact Hd.b_)
         (case aF => exact (fun _ _ => trivial))
         (case aO => exact (Hd.r_ HO_3))
         (case aS => exact (below_size Hd.b_))
         (case aL => have := LMc12.out; omega)
         intro v268 w14 ho hb hg hat
         rw [← Ny267.out] at ho
         have n0_ := Aside0.mk (hb)
         have n1_ := Aside0.mk (ho)
         clear HB
         clear HO_3
         have HB := n0_
         have HO269 := n1_
         clear n0_ n1_
         clear ho hb hg hat
         refine hK.out _ _ ⟨((HB.out.cell (World.block_lt_of_cell? w _ hw265_0)).trans hw265_0), ((HB.out.cell (World.block_lt_of_cell? w _ hw265_1)).trans hw265_1), ((HB.out.cell (World.block_lt_of_cell? w _ hw266_0)).trans hw266_0), ((HB.out.cell (World.block_lt_of_cell? w _ hw266_1)).trans hw266_1)⟩ (fun hHeld => ?_)
         clear hK K
         refine Hd.n_ (some 28) ?_
         refine Hd.p_ HT_ 13 (some 3) #[true, true, true, true, true, true, true, true, true, true, true, true, true, true] ?_
         refine done_ (done_of HT_.out (by kernel_rfl)) ?_
         try go_wp2
         go_roundg k1
         case measure => have := HK1.out; omega
         case rel => exact ⟨(y267), (wrap64 (x4_1 + 1)), (by first | rfl | (simp; done) | (simp [*]; done)), H', ⟨by have := HK1.out; omega⟩, ⟨by (with_reducible repeat (first | apply Kd.R_alloc | apply Kd.R_drewN | apply Kd.R_drew)); exact HO269.out⟩, ⟨Hd.b_⟩⟩
        ·
         rw [if_neg c12] at H
         exact absurd H (by simp)
       ·
        rw [if_neg c11] at H
        exact absurd H (by simp)
      ·
       rw [if_neg c10] at H
       exact absurd H (by simp)
     ·
      rw [if_neg c9] at H
      exact absurd H (by simp)
    ·
     rw [if_neg c7] at H
     have c7b0 : decide (x4_1 < (l0.length : Int)) = false := decide_eq_false c7
     clear c7
     obtain rfl := Option.some.inj H
     go_wp2
     go_ret
     exact ⟨_, Hd.e_, by (with_reducible repeat (first | apply Kd.R_alloc | apply Kd.R_drewN | apply Kd.R_drew)); exact HO_3.out, Hd.b_⟩
 ·
  replace c3 := Bool.eq_false_iff.mpr c3
  subst c3
  have H1 : (some y261) = some r := by rw [if_neg (show ¬ (false = true) by decide)] at H; exact H
  clear H
  have H := H1
  clear H1
  obtain rfl := Option.some.inj H
  go_enter Try.func95, Try.ntmps95
  go_wp2_with (first | ((with_reducible refine gate_dst (N := 5) rfl ?_); refine Kd.R_lit k111 _ 111 ?hg (N := 5) ?hd (xs := ([] : List (S111))) (inner := []) (ok := fun _ => True) (okp := fun _ => True) ?hr ?hp (fun _ hk => hk) trivial (Below.refl _ _) (Nat.le_refl _) (by simp) ?_; (case hd => rfl); (case hg => rfl); (case hr => first | (go_simp; done) | (go_simp; rfl)); (case hp => exact (Reps.none _ _)); intro v262 w15 ho16 hb hg_ hnew_; clear hg_ hnew_; (first | rw [← Ny261.out] at ho16 | (simp only [Int.reduceToNat] at ho16; rw [← Ny261.out] at ho16)); have HO263 := Aside0.mk (Kd.R_lower ho16 (below_size Hd.b_)); replace HB := Aside0.mk (below_step Hd.b_ hb); clear hb ho16) | ((with_reducible refine gate_callee (f := 94) rfl ?_); refine goesL_ (some 7) rfl rfl Try.func94 (by kernel_rfl) rfl #[.slice A0 l0.length c0] rfl Hd.m_ ?_; (with_reducible refine (impl_IsLine.calls k _ _ l0 false _ ?side1 ?side2 A2.out).mono ?_); (case side1 => repeat (first | exact (Kd.C_below HR0.out HB.out) | (with_reducible refine Kd.C_alloc ?_ _) | (with_reducible refine Kd.C_drewN ?_ _) | (with_reducible refine Kd.C_drew ?_))); (case side2 => exact HC0.out); rintro e w17 ⟨rfl, hb⟩; refine ⟨_, rfl, ?_⟩; replace HO263 := Aside0.mk (Kd.R_below (Hd.r_ HO263) hb); replace HB := Aside0.mk (below_step Hd.b_ hb); (try clear hb); (try clear hb2); (try clear hk); (try clear hi)))
  go_ret
  exact ⟨_, Hd.e_, by (with_reducible repeat (first | apply Kd.R_alloc | apply Kd.R_drewN | apply Kd.R_drew)); exact HO263.out, Hd.b_⟩
end Go.Proofs.Ytchmbcembbbplac.MFnExactIsSource
