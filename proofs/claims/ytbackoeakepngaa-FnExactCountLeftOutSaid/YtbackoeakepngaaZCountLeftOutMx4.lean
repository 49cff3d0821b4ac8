-- Laid by this session's program pp.py, after the kit's print and texts of the session's own. Not trusted: Lean checks it.
import Derived.Test.YtbackoeakepngaaZCountLeftOutMx0
import Derived.Test.YtbackoeakepngaaZCountLeftOutMx1
import Derived.Test.YtbackoeakepngaaZCountLeftOutMx3
namespace Go.Proofs.Ytbackoeakepngaa.MFnExactCountLeftOut
open Go.RowKit Go.Proofs.YtbackoeakepngaaW.PrintWords Go.Proofs.YtbackoeakepngaaW.PrintLast Go.Proofs.YtbackoeakepngaaW.PrintMore
attribute [local go_sem] max2_int min2_int max_two min_two max_three min_three max_four min_four   -- for this text's walks alone
set_option linter.unusedVariables false
set_option linter.unusedSimpArgs false
attribute [local go_sem high] eqA27
def laws_toPointS.l0 : Nat → List (S87) → List (S27) → Int → Option ((List (S27)))
 | 0, _, _, _ => none
 | k + 1, x0, x3, x4 => if x4 < (x0.length : Int) then (if 0 ≤ x4 then ((laws_toPoint.f ((rd_T87 x0 x4).f0) ((rd_T87 x0 x4).f1)).bind fun bt172 => (if x4 < (x3.length : Int) then (laws_toPointS.l0 k x0 (x3.set (x4 : Int).toNat (⟨bt172.1, bt172.2⟩ : S27)) (wrap64 (x4 + 1))) else (none))) else (none)) else (some x3)
def laws_toPointS.f (k : Nat) (l0 : List (S87)) : Option ((List (S27))) := if 0 ≤ (l0.length : Int) then (if ((l0.length : Int) : Int).toNat ≤ 17592186044416 then (laws_toPointS.l0 k l0 (List.replicate ((l0.length : Int) : Int).toNat z27) 0) else (none)) else (none)
set_option maxHeartbeats 8000000 in
set_option maxRecDepth 100000 in
theorem laws_toPointS.calls (k : Nat) (A0 : Option Addr) (c0 : Nat) (l0 : List (S87)) (r : List (S27)) (w : World) (hr0 : Kd.C k87 w A0 l0.length l0) (hc0 : l0.length ≤ c0) (h : laws_toPointS.f k l0 = some r) :
  Calls Try.prog 24 #[.slice A0 l0.length c0] w fun e w' => ∃ v0_ : Value, e = .returned (v0_) ∧ Kd.R k27 27 w' w.heap.size (fun _ => True) v0_ r ∧ Below w.heap.size w w' := by
 have hu87 := Try.underlying87
 have hu27 := Try.underlying27
 have HR0 := Aside0.mk hr0
 have HC0 := Aside0.mk hc0
 clear hr0 hc0
 have HB := Aside0.mk (Below.refl w.heap.size w)
 have H : (if 0 ≤ (l0.length : Int) then (if ((l0.length : Int) : Int).toNat ≤ 17592186044416 then (laws_toPointS.l0 k l0 (List.replicate ((l0.length : Int) : Int).toNat z27) 0) else (none)) else (none)) = some r := h
 clear h
 by_cases c2 : 0 ≤ (l0.length : Int)
 ·
  rw [if_pos c2] at H
  have c2b0 := eq_true c2
  have c2b1 : decide (0 ≤ (l0.length : Int)) = true := decide_eq_true c2
  clear c2
  by_cases c3 : ((l0.length : Int) : Int).toNat ≤ 17592186044416
  ·
   rw [if_pos c3] at H
   have c3b0 := eq_true c3
   have c3b1 : decide (((l0.length : Int) : Int).toNat ≤ 17592186044416) = true := decide_eq_true c3
   clear c3
   obtain ⟨y168, hy168⟩ : ∃ y_ : List (S27), y_ = (List.replicate ((l0.length : Int) : Int).toNat z27) := ⟨_, rfl⟩
   replace H : (laws_toPointS.l0 k l0 y168 0) = some r := by first | (rw [hy168]; with_reducible exact H) | (have H2_ := (Option.bind_some _ _).symm.trans H; rw [hy168]; with_reducible exact H2_) | (have H2_ := (Option.bind_some _ _).symm.trans H; with_reducible exact H2_) | with_reducible exact H | (rw [hy168]; exact H) | exact H
   have Ny168 := Aside0.mk hy168
   clear hy168
   have H' := Aside0.mk H
   clear H
   go_enter Try.func24, Try.ntmps24
   go_wp2_with (first | ((with_reducible refine gate_dst (N := 7) rfl ?_); refine Kd.R_make k27 _ 27 rfl (N := 7) rfl 24 _ _ rfl (l0.length : Int) rfl rfl Try.underlying24 (.agg #[(.int .i64 0), (.int .i64 0)]) 16 info27 rfl (by decide) (by omega) z27 (ok := fun _ => True) (okp := fun _ => True) (k27_mkM _ _ _ z27 ) (fun _ hk => hk) trivial (of_decide_eq_true Hd.a_) (Nat.le_trans (Nat.mul_le_mul_right _ (of_decide_eq_true Hd.a_ : (l0.length : Int).toNat ≤ 17592186044416)) (by omega)) (Below.refl _ _) (Nat.le_refl _) ?_; intro v169 w4 ho5 hb hg_ hnew_; clear hg_ hnew_; (first | rw [← Ny168.out] at ho5 | (simp only [Int.reduceToNat] at ho5; rw [← Ny168.out] at ho5)); have HO170 := Aside0.mk (Kd.R_lower ho5 (below_size Hd.b_)); replace HB := Aside0.mk (below_step Hd.b_ hb); clear hb ho5))
   go_loopg [4] k (fun kq v4 w' => ∃ (x3_1 : List (S27)) (x4_1 : Int), v4 = .int .i64 x4_1 ∧ Aside0 (laws_toPointS.l0 kq l0 x3_1 x4_1 = some r) ∧ Aside0 (kq ≤ k) ∧ Aside0 (Kd.R k27 27 w' w.heap.size (fun _ => True) v169 x3_1) ∧ Aside0 (Below w.heap.size w w'))
   case atStart => exact ⟨(y168), (0), (by first | rfl | (simp; done) | (simp [*]; done)), H', ⟨Nat.le_refl _⟩, ⟨by (with_reducible repeat (first | apply Kd.R_alloc | apply Kd.R_drewN | apply Kd.R_drew)); exact HO170.out⟩, ⟨Hd.b_⟩⟩
   case round =>
    clear H'
    try clear c2
    try clear c2b0
    try clear c2b1
    try clear p2
    try clear c3
    try clear c3b0
    try clear c3b1
    obtain ⟨x3_1, x4_1, rfl, HA, HK1, HO_3, HB⟩ := hrel
    cases gk with
    | zero => exact absurd HA.out (by simp [laws_toPointS.l0])
    | succ k1 =>
     have H := HA.out
     clear HA
     simp only [laws_toPointS.l0] at H
     by_cases c6 : x4_1 < (l0.length : Int)
     ·
      rw [if_pos c6] at H
      have c6b0 : decide (x4_1 < (l0.length : Int)) = true := decide_eq_true c6
      clear c6
      by_cases c7 : 0 ≤ x4_1
      ·
       rw [if_pos c7] at H
       have c7b0 : decide (0 ≤ x4_1) = true := decide_eq_true c7
       clear c7
       replace H := Option.bind_eq_some_iff.mp H
       obtain ⟨⟨t172, t173⟩, A80, H⟩ := H
       replace H : (if x4_1 < (x3_1.length : Int) then (laws_toPointS.l0 k1 l0 (x3_1.set (x4_1 : Int).toNat (⟨t172, t173⟩ : S27)) (wrap64 (x4_1 + 1))) else (none)) = some r := H
       have A8 := Aside0.mk A80
       clear A80
       by_cases c9 : x4_1 < (x3_1.length : Int)
       ·
        rw [if_pos c9] at H
        have c9b0 : decide (x4_1 < (x3_1.length : Int)) = true := decide_eq_true c9
        clear c9
        obtain ⟨y174, hy174⟩ : ∃ y_ : List (S27), y_ = (x3_1.set (x4_1 : Int).toNat (⟨t172, t173⟩ : S27)) := ⟨_, rfl⟩
        replace H : (laws_toPointS.l0 k1 l0 y174 (wrap64 (x4_1 + 1))) = some r := by first | (rw [hy174]; with_reducible exact H) | (have H2_ := (Option.bind_some _ _).symm.trans H; rw [hy174]; with_reducible exact H2_) | (have H2_ := (Option.bind_some _ _).symm.trans H; with_reducible exact H2_) | with_reducible exact H | (rw [hy174]; exact H) | exact H
        have Ny174 := Aside0.mk hy174
        clear hy174
        have H' := Aside0.mk H
        clear H
        have p171 : 0 ≤ (x4_1 : Int) := of_decide_eq_true Hd.a_
        have q171 : x4_1 < (l0.length : Int) := of_decide_eq_true Hd.a_
        obtain ⟨ad171, e171, hx171_0, hx171_1⟩ := at_T87 HR0.out x4_1 p171 q171
        cases e171
        replace hx171_0 := (HB.out.cell (World.block_lt_of_cell? w _ hx171_0)).trans hx171_0
        replace hx171_1 := (HB.out.cell (World.block_lt_of_cell? w _ hx171_1)).trans hx171_1
        replace p171 := eq_true p171
        replace q171 := eq_true q171
        go_wp2_with (first | ((with_reducible refine gate_callee (f := 71) rfl ?_); refine goesL_ (some 20) rfl rfl Try.func71 (by kernel_rfl) rfl #[.agg #[.int .i64 ((rd_T87 l0 x4_1).f0), .int .i64 ((rd_T87 l0 x4_1).f1)]] rfl Hd.m_ ?_; (with_reducible refine (laws_toPoint.calls ((rd_T87 l0 x4_1).f0) ((rd_T87 l0 x4_1).f1) t172 t173 _ A8.out).mono ?_); rintro e w11 ⟨rfl, hb⟩; refine ⟨_, rfl, ?_⟩; replace HO_3 := Aside0.mk (Kd.R_below (Hd.r_ HO_3) hb); replace HB := Aside0.mk (below_step Hd.b_ hb); (try clear hb); (try clear hb2); (try clear hk); (try clear hi); have p10 : 0 ≤ (x4_1 : Int) := of_decide_eq_true Hd.a_; have q10 : (x4_1 : Int) < ((x3_1.length : Int) : Int) := of_decide_eq_true Hd.a_; obtain ⟨go10, co10, eo10, gb10, gl10, cl10, HG10⟩ := Kd.R_form HO_3.out (by omega); (first | cases eo10 | (injection eo10 with ea_ en_ ec_; (first | subst ea_ | (injection ea_ with ea_; subst ea_)); subst ec_; clear en_)); have GB10 := Aside0.mk gb10; have GG10 := Aside0.mk HG10; clear gb10 gl10 HG10; obtain ⟨ce10, hcl10, hM10, hcc10, hfr10⟩ := Kd.R_elem HO_3.out z27 (x4_1 : Int) p10 q10; obtain rfl := k27_openM hM10; have hx10_0 : w11.cell? ⟨go10, (x4_1 : Int).toNat * 2, none⟩ = some (.int .i64 ((rd_T27 x3_1 x4_1).f0)) := hcc10 0 _ rfl; have hx10_1 : w11.cell? ⟨go10, (x4_1 : Int).toNat * 2 + 1, none⟩ = some (.int .i64 ((rd_T27 x3_1 x4_1).f1)) := hcc10 1 _ rfl; have hf10_0 : w11.frozen? ⟨go10, (x4_1 : Int).toNat * 2, none⟩ = false := hfr10 0; have hf10_1 : w11.frozen? ⟨go10, (x4_1 : Int).toNat * 2 + 1, none⟩ = false := hfr10 1; clear hcl10 hcc10 hfr10 hM10; replace p10 := eq_true p10; replace q10 := eq_true q10; have HX12 := Aside0.mk (show Kd.R k27 27 w11 w.heap.size (fun _ => True) (.slice (some ⟨go10, 0, none⟩) x3_1.length co10) x3_1 from (Hd.r_ HO_3)); obtain ⟨ce12, hcl12, hM12, hcc12, hfr12⟩ := Kd.R_elem HX12.out z27 (x4_1 : Int) (of_decide_eq_true Hd.a_) (by have h_ : (x4_1 : Int) < ((x3_1.length : Int) : Int) := of_decide_eq_true Hd.a_; first | exact h_ | (have e_ := (Kd.R_reads' HO_3.out).1; omega) | simpa using h_); obtain rfl := k27_openM hM12; have HP12 := Kd.R_seg HX12.out (x4_1 : Int) (of_decide_eq_true Hd.a_) (by have h_ : (x4_1 : Int) < ((x3_1.length : Int) : Int) := of_decide_eq_true Hd.a_; first | exact h_ | (have e_ := (Kd.R_reads' HO_3.out).1; omega) | simpa using h_) (seg := [.int .i64 t172, .int .i64 t173]) (j := 0) hcl12 hcc12 (show 2 ≤ 2 from by decide) (x' := (⟨t172, t173⟩ : S27)) (k27_mkM _ _ _ (⟨t172, t173⟩ : S27) ) (fun _ hk => hk); have hx12_0 := hcc12 0 _ rfl; (try simp only [show (k27).sz = 2 from rfl, Nat.mul_one, Nat.add_zero] at hx12_0); have hf12_0 := hfr12 0; (try simp only [show (k27).sz = 2 from rfl, Nat.mul_one, Nat.add_zero] at hf12_0); have hx12_1 := hcc12 1 _ rfl; (try simp only [show (k27).sz = 2 from rfl, Nat.mul_one, Nat.add_zero] at hx12_1); have hf12_1 := hfr12 1; (try simp only [show (k27).sz = 2 from rfl, Nat.mul_one, Nat.add_zero] at hf12_1); clear hcl12 hcc12 hfr12 hM12) | ((with_reducible refine gate_store (t := 27) (p := 21) rfl ?_); refine store_event (t := 27) (p := 21) (v := ?vo_w13) (w1 := ((w11.setCell ⟨go10, (x4_1 : Int).toNat * 2, none⟩ (.int .i64 t172)).setCell ⟨go10, (x4_1 : Int).toNat * 2 + 1, none⟩ (.int .i64 t173))) ?hg ?ho ?hn ?hr ?_; (case ho => rfl); (case hg => rfl); (case hn => rfl); (case hr => first | (go_simp; done) | (go_simp; rfl)); intro w13 hw; have hg : w11.grownBy w13 (some go10) := (by rw [hw]; exact HP12.2); have hp_ : Kd.R k27 27 w13 w.heap.size (fun _ => True) (.slice (some ⟨go10, 0, none⟩) x3_1.length co10) y174 := (by rw [hw, Ny174.out]; exact HP12.1); clear HP12; replace HO_3 := Aside0.mk (hp_); replace HB := Aside0.mk ((by rw [hw]; exact below_set (below_set (HB.out) GB10.out) GB10.out : Below w.heap.size w w13)); clear hg hw hp_))
        go_roundg k1
        case measure => have := HK1.out; omega
        case rel => exact ⟨(y174), (wrap64 (x4_1 + 1)), (by first | rfl | (simp; done) | (simp [*]; done)), H', ⟨by have := HK1.out; omega⟩, ⟨by (with_reducible repeat (first | apply Kd.R_alloc | apply Kd.R_drewN | apply Kd.R_drew)); exact HO_3.out⟩, ⟨Hd.b_⟩⟩
       ·
        rw [if_neg c9] at H
        exact absurd H (by simp)
      ·
       rw [if_neg c7] at H
       exact absurd H (by simp)
     ·
      rw [if_neg c6] at H
      have c6b0 : decide (x4_1 < (l0.length : Int)) = false := decide_eq_false c6
      clear c6
      obtain rfl := Option.some.inj H
      go_wp2
      go_ret
      exact ⟨_, Hd.e_, by (with_reducible repeat (first | apply Kd.R_alloc | apply Kd.R_drewN | apply Kd.R_drew)); exact HO_3.out, Hd.b_⟩
  ·
   rw [if_neg c3] at H
   exact absurd H (by simp)
 ·
  rw [if_neg c2] at H
  exact absurd H (by simp)
def impl_InRange.f (a0 : Int) (a1 : Int) (a2 : Int) : Option (Bool) := if a1 ≤ a0 then (some (decide (a0 ≤ a2))) else (some false)
set_option maxHeartbeats 8000000 in
set_option maxRecDepth 100000 in
theorem impl_InRange.calls (a0 : Int) (a1 : Int) (a2 : Int) (r : Bool) (w : World) (h : impl_InRange.f a0 a1 a2 = some r) :
  Calls Try.prog 65 #[.int .i64 a0, .int .i64 a1, .int .i64 a2] w fun e w' => e = .returned (.bool r) ∧ Drawn0 w w' := by
 have H : (if a1 ≤ a0 then (some (decide (a0 ≤ a2))) else (some false)) = some r := h
 clear h
 by_cases c4 : a1 ≤ a0
 ·
  rw [if_pos c4] at H
  have c4b0 : decide (a1 ≤ a0) = true := decide_eq_true c4
  clear c4
  obtain rfl := Option.some.inj H
  go_enter Try.func65, Try.ntmps65
  go_wp2
  go_ret
  exact ⟨by first | rfl | (simp; done) | (simp [*]; done), by repeat (first | exact Drawn0.refl _ | apply Drawn0.step)⟩
 ·
  rw [if_neg c4] at H
  have c4b0 : decide (a1 ≤ a0) = false := decide_eq_false c4
  clear c4
  obtain rfl := Option.some.inj H
  go_enter Try.func65, Try.ntmps65
  go_wp2
  go_ret
  exact ⟨by first | rfl | (simp; done) | (simp [*]; done), by repeat (first | exact Drawn0.refl _ | apply Drawn0.step)⟩
def impl_IsPoint.f (a0_0 : Int) (a0_1 : Int) : Option (Bool) := (impl_InRange.f a0_0 0 200).bind fun t176 => (if t176 = true then ((impl_InRange.f a0_1 0 200).bind fun t177 => (some t177)) else (some false))
set_option maxHeartbeats 8000000 in
set_option maxRecDepth 100000 in
theorem impl_IsPoint.calls (a0_0 : Int) (a0_1 : Int) (r : Bool) (w : World) (h : impl_IsPoint.f a0_0 a0_1 = some r) :
  Calls Try.prog 45 #[.agg #[.int .i64 a0_0, .int .i64 a0_1]] w fun e w' => e = .returned (.bool r) ∧ Below w.heap.size w w' := by
 have hu27 := Try.underlying27
 have HB := Aside0.mk (Below.refl w.heap.size w)
 have H : ((impl_InRange.f a0_0 0 200).bind fun t176 => (if t176 = true then ((impl_InRange.f a0_1 0 200).bind fun t177 => (some t177)) else (some false))) = some r := h
 clear h
 replace H := Option.bind_eq_some_iff.mp H
 obtain ⟨t176, A20, H⟩ := H
 replace H : (if t176 = true then ((impl_InRange.f a0_1 0 200).bind fun t177 => (some t177)) else (some false)) = some r := H
 have A2 := Aside0.mk A20
 clear A20
 by_cases c3 : t176 = true
 ·
  subst c3
  have H1 : ((impl_InRange.f a0_1 0 200).bind fun t177 => (some t177)) = some r := by rw [if_pos rfl] at H; exact H
  clear H
  have H := H1
  clear H1
  replace H := Option.bind_eq_some_iff.mp H
  obtain ⟨t177, A40, H⟩ := H
  replace H : (some t177) = some r := H
  have A4 := Aside0.mk A40
  clear A40
  obtain rfl := Option.some.inj H
  go_enter Try.func45, Try.ntmps45
  go_wp2_with (first | ((with_reducible refine gate_dst (N := 1) rfl ?_); refine Hd.box_ 1 (#[.int .i64 a0_0, .int .i64 a0_1]) 27 ?_; intro gb175 hg w5 hbox hb; have BK175 := Aside0.mk (hbox); have GW175 := Aside0.mk ((Hd.g_ hg Hd.b_ : w.heap.size ≤ gb175)); have GE175 := Aside0.mk ((Hd.g_ hg Hd.b_ : w.heap.size ≤ gb175)); replace HB := Aside0.mk (below_step Hd.b_ hb); clear hb hbox hg; obtain ⟨hcz6_0, hcz6_1⟩ := Hd.c2_ BK175.out; obtain ⟨hfz6_0, hfz6_1⟩ := Hd.f2_ BK175.out) | ((with_reducible refine gate_callee (f := 65) rfl ?_); refine goesL_ (some 5) rfl rfl Try.func65 (by kernel_rfl) rfl #[.int .i64 a0_0, .int .i64 0, .int .i64 200] rfl Hd.m_ ?_; (with_reducible refine (impl_InRange.calls a0_0 0 200 true _ A2.out).mono ?_); rintro e w' ⟨rfl, ⟨nd, rfl⟩⟩; refine ⟨_, rfl, ?_⟩) | (go_at_call 65; (with_reducible refine (impl_InRange.calls a0_1 0 200 t177 _ A4.out).mono ?_); rintro e w' ⟨rfl, ⟨nd, rfl⟩⟩))
  go_ret
  exact ⟨Hd.e_, Hd.b_⟩
 ·
  replace c3 := Bool.eq_false_iff.mpr c3
  subst c3
  have H1 : (some false) = some r := by rw [if_neg (show ¬ (false = true) by decide)] at H; exact H
  clear H
  have H := H1
  clear H1
  obtain rfl := Option.some.inj H
  go_enter Try.func45, Try.ntmps45
  go_wp2_with (first | ((with_reducible refine gate_dst (N := 1) rfl ?_); refine Hd.box_ 1 (#[.int .i64 a0_0, .int .i64 a0_1]) 27 ?_; intro gb175 hg w7 hbox hb; have BK175 := Aside0.mk (hbox); have GW175 := Aside0.mk ((Hd.g_ hg Hd.b_ : w.heap.size ≤ gb175)); have GE175 := Aside0.mk ((Hd.g_ hg Hd.b_ : w.heap.size ≤ gb175)); replace HB := Aside0.mk (below_step Hd.b_ hb); clear hb hbox hg; obtain ⟨hcz8_0, hcz8_1⟩ := Hd.c2_ BK175.out; obtain ⟨hfz8_0, hfz8_1⟩ := Hd.f2_ BK175.out) | ((with_reducible refine gate_callee (f := 65) rfl ?_); refine goesL_ (some 5) rfl rfl Try.func65 (by kernel_rfl) rfl #[.int .i64 a0_0, .int .i64 0, .int .i64 200] rfl Hd.m_ ?_; (with_reducible refine (impl_InRange.calls a0_0 0 200 false _ A2.out).mono ?_); rintro e w' ⟨rfl, ⟨nd, rfl⟩⟩; refine ⟨_, rfl, ?_⟩))
  go_ret
  exact ⟨Hd.e_, Hd.b_⟩
mutual
def impl_IsLine.j0 : Nat → List (S27) → Bool → Option (Bool)
 | 0, _, _ => none
 | k + 1, x0, x12 => if x12 = true then (some false) else (impl_IsLine.l0 k x0 x0 (x0.length : Int) 0)
def impl_IsLine.l0 : Nat → List (S27) → List (S27) → Int → Int → Option (Bool)
 | 0, _, _, _, _ => none
 | k + 1, x0, x13, x14, x15 => if x15 < x14 then (if 0 ≤ x15 then (if x15 < (x13.length : Int) then ((impl_IsPoint.f ((rd_T27 x13 x15).f0) ((rd_T27 x13 x15).f1)).bind fun t180 => (if t180 = true then (if x15 > 0 then (if 0 ≤ (wrap64 (x15 - 1)) then (if (wrap64 (x15 - 1)) < (x0.length : Int) then (if (((rd_T27 x13 x15).f0) == ((rd_T27 x0 (wrap64 (x15 - 1))).f0) && (((rd_T27 x13 x15).f1) == ((rd_T27 x0 (wrap64 (x15 - 1))).f1))) = true then (some false) else (impl_IsLine.l0 k x0 x13 x14 (wrap64 (x15 + 1)))) else (none)) else (none)) else (impl_IsLine.l0 k x0 x13 x14 (wrap64 (x15 + 1)))) else (some false))) else (none)) else (none)) else (some true)
end
def impl_IsLine.f (k : Nat) (l0 : List (S27)) : Option (Bool) := if (l0.length : Int) < 2 then (impl_IsLine.j0 k l0 true) else (impl_IsLine.j0 k l0 (decide ((l0.length : Int) > 10)))
set_option maxHeartbeats 8000000 in
set_option maxRecDepth 100000 in
theorem impl_IsLine.calls (k : Nat) (A0 : Option Addr) (c0 : Nat) (l0 : List (S27)) (r : Bool) (w : World) (hr0 : Kd.C k27 w A0 l0.length l0) (hc0 : l0.length ≤ c0) (h : impl_IsLine.f k l0 = some r) :
  Calls Try.prog 33 #[.slice A0 l0.length c0] w fun e w' => e = .returned (.bool r) ∧ Below w.heap.size w w' := by
 have hu27 := Try.underlying27
 have HR0 := Aside0.mk hr0
 have HC0 := Aside0.mk hc0
 clear hr0 hc0
 have HB := Aside0.mk (Below.refl w.heap.size w)
 have H : (if (l0.length : Int) < 2 then (impl_IsLine.j0 k l0 true) else (impl_IsLine.j0 k l0 (decide ((l0.length : Int) > 10)))) = some r := h
 clear h
 have HC2 := Aside0.mk H
 clear H
 go_enter Try.func33, Try.ntmps33
 go_upto_region 1 with (fail)
 go_cut [12] (fun v12 wc => ∃ (kq : Nat) (x12_1 : Bool), v12 = .bool x12_1 ∧ Aside0 (impl_IsLine.j0 kq l0 x12_1 = some r) ∧ Aside0 (kq ≤ k) ∧ Aside0 (Below w.heap.size w wc))
 case first =>
  have H := HC2.out
  clear HC2
  by_cases c3 : (l0.length : Int) < 2
  ·
   rw [if_pos c3] at H
   have c3b0 : decide ((l0.length : Int) < 2) = true := decide_eq_true c3
   have c3b1 : decide (l0.length < 2) = true := decide_eq_true (by omega)
   clear c3
   (first | rw [c3b0] | (simp only [i64_w, i32_w]; rw [c3b0]) | skip)
   have H' := Aside0.mk H
   clear H
   go_wp2
   go_meet
   case rel => exact ⟨_, (true), (by first | rfl | (simp; done) | (simp [*]; done)), H', ⟨by first | omega | exact Nat.le_refl _⟩, ⟨Hd.b_⟩⟩
  ·
   rw [if_neg c3] at H
   have c3b0 : decide ((l0.length : Int) < 2) = false := decide_eq_false c3
   have c3b1 : decide (l0.length < 2) = false := decide_eq_false (by omega)
   clear c3
   (first | rw [c3b0] | (simp only [i64_w, i32_w]; rw [c3b0]) | skip)
   have H' := Aside0.mk H
   clear H
   go_wp2
   go_meet
   case rel => exact ⟨_, (decide ((l0.length : Int) > 10)), (by first | rfl | (simp; done) | (simp [*]; done)), H', ⟨by first | omega | exact Nat.le_refl _⟩, ⟨Hd.b_⟩⟩
 case rest =>
  clear HC2
  try clear p2
  try clear c3
  try clear c3b0
  try clear c3b1
  obtain ⟨kq, x12_1, rfl, HA, HJ1, HB⟩ := hcut
  cases kq with
  | zero => exact absurd HA.out (by simp [impl_IsLine.j0])
  | succ kj1 =>
   have H := HA.out
   clear HA
   simp only [impl_IsLine.j0] at H
   by_cases c4 : x12_1 = true
   ·
    subst c4
    have H1 : (some false) = some r := by rw [if_pos rfl] at H; exact H
    clear H
    have H := H1
    clear H1
    obtain rfl := Option.some.inj H
    go_wp2
    go_ret
    exact ⟨Hd.e_, Hd.b_⟩
   ·
    replace c4 := Bool.eq_false_iff.mpr c4
    subst c4
    have H1 : (impl_IsLine.l0 kj1 l0 l0 (l0.length : Int) 0) = some r := by rw [if_neg (show ¬ (false = true) by decide)] at H; exact H
    clear H
    have H := H1
    clear H1
    have H' := Aside0.mk H
    clear H
    go_wp2
    go_loopg [15] kj1 (fun kq v15 w' => ∃ (x15_2 : Int), v15 = .int .i64 x15_2 ∧ Aside0 (impl_IsLine.l0 kq l0 l0 (l0.length : Int) x15_2 = some r) ∧ Aside0 (kq ≤ kj1) ∧ Aside0 (Below w.heap.size w w'))
    case atStart => exact ⟨(0), (by first | rfl | (simp; done) | (simp [*]; done)), H', ⟨Nat.le_refl _⟩, ⟨Hd.b_⟩⟩
    case round =>
     clear H'
     try clear p2
     try clear c3
     try clear c3b0
     try clear c3b1
     try clear c4
     try clear p2
     obtain ⟨x15_2, rfl, HA, HK2, HB⟩ := hrel
     cases gk with
     | zero => exact absurd HA.out (by simp [impl_IsLine.l0])
     | succ k2 =>
      have H := HA.out
      clear HA
      simp only [impl_IsLine.l0] at H
      by_cases c5 : x15_2 < (l0.length : Int)
      ·
       rw [if_pos c5] at H
       have c5b0 : decide (x15_2 < (l0.length : Int)) = true := decide_eq_true c5
       clear c5
       by_cases c6 : 0 ≤ x15_2
       ·
        rw [if_pos c6] at H
        have c6b0 : decide (0 ≤ x15_2) = true := decide_eq_true c6
        clear c6
        by_cases c7 : x15_2 < (l0.length : Int)
        ·
         rw [if_pos c7] at H
         have c7b0 : decide (x15_2 < (l0.length : Int)) = true := decide_eq_true c7
         clear c7
         replace H := Option.bind_eq_some_iff.mp H
         obtain ⟨t180, A80, H⟩ := H
         replace H : (if t180 = true then (if x15_2 > 0 then (if 0 ≤ (wrap64 (x15_2 - 1)) then (if (wrap64 (x15_2 - 1)) < (l0.length : Int) then (if (((rd_T27 l0 x15_2).f0) == ((rd_T27 l0 (wrap64 (x15_2 - 1))).f0) && (((rd_T27 l0 x15_2).f1) == ((rd_T27 l0 (wrap64 (x15_2 - 1))).f1))) = true then (some false) else (impl_IsLine.l0 k2 l0 l0 (l0.length : Int) (wrap64 (x15_2 + 1)))) else (none)) else (none)) else (impl_IsLine.l0 k2 l0 l0 (l0.length : Int) (wrap64 (x15_2 + 1)))) else (some false)) = some r := H
         have A8 := Aside0.mk A80
         clear A80
         by_cases c9 : t180 = true
         ·
          subst c9
          have H1 : (if x15_2 > 0 then (if 0 ≤ (wrap64 (x15_2 - 1)) then (if (wrap64 (x15_2 - 1)) < (l0.length : Int) then (if (((rd_T27 l0 x15_2).f0) == ((rd_T27 l0 (wrap64 (x15_2 - 1))).f0) && (((rd_T27 l0 x15_2).f1) == ((rd_T27 l0 (wrap64 (x15_2 - 1))).f1))) = true then (some false) else (impl_IsLine.l0 k2 l0 l0 (l0.length : Int) (wrap64 (x15_2 + 1)))) else (none)) else (none)) else (impl_IsLine.l0 k2 l0 l0 (l0.length : Int) (wrap64 (x15_2 + 1)))) = some r := by rw [if_pos rfl] at H; exact H
          clear H
          have H := H1
          clear H1
          by_cases c10 : x15_2 > 0
          ·
           rw [if_pos c10] at H
           have c10b0 : decide (0 < x15_2) = true := decide_eq_true c10
           clear c10
           obtain ⟨ji11, hji11⟩ : ∃ j_ : Int, (wrap64 (x15_2 - 1)) = j_ := ⟨_, rfl⟩
           replace H : (if 0 ≤ (ji11) then (if (ji11) < (l0.length : Int) then (if (((rd_T27 l0 x15_2).f0) == ((rd_T27 l0 (ji11)).f0) && (((rd_T27 l0 x15_2).f1) == ((rd_T27 l0 (ji11)).f1))) = true then (some false) else (impl_IsLine.l0 k2 l0 l0 (l0.length : Int) (wrap64 (x15_2 + 1)))) else (none)) else (none)) = some r := by first | (rw [hji11] at H; exact H) | (simp only [hji11] at H ⊢; exact H)
           (try rw [hji11] at A8)
           have hji11w : (IntKind.i64.wrap (x15_2 - 1)) = ji11 := (i64_w _).trans hji11
           by_cases c12 : 0 ≤ (ji11)
           ·
            rw [if_pos c12] at H
            have c12b0 : decide (0 ≤ (ji11)) = true := decide_eq_true c12
            clear c12
            by_cases c13 : (ji11) < (l0.length : Int)
            ·
             rw [if_pos c13] at H
             have c13b0 : decide ((ji11) < (l0.length : Int)) = true := decide_eq_true c13
             clear c13
             by_cases c14 : (((rd_T27 l0 x15_2).f0) == ((rd_T27 l0 (ji11)).f0) && (((rd_T27 l0 x15_2).f1) == ((rd_T27 l0 (ji11)).f1))) = true
             ·
              rw [if_pos c14] at H
              have c14b0 : (((rd_T27 l0 x15_2).f0) == ((rd_T27 l0 (ji11)).f0) && (((rd_T27 l0 x15_2).f1) == ((rd_T27 l0 (ji11)).f1))) = true := c14
              (try (have c14b1 : decide (((rd_T27 l0 x15_2).f0) = ((rd_T27 l0 (ji11)).f0) && (((rd_T27 l0 x15_2).f1) == ((rd_T27 l0 (ji11)).f1))) = true := by simpa using c14))
              (try (have c14b2 : (((rd_T27 l0 x15_2).f0) == ((rd_T27 l0 (ji11)).f0) && (((rd_T27 l0 x15_2).f1) == ((rd_T27 l0 (ji11)).f1))) = true := by simpa using c14))
              clear c14
              obtain rfl := Option.some.inj H
              have p178 : 0 ≤ (x15_2 : Int) := of_decide_eq_true Hd.a_
              have q178 : x15_2 < (l0.length : Int) := of_decide_eq_true Hd.a_
              obtain ⟨ad178, e178, hx178_0, hx178_1⟩ := at_T27 HR0.out x15_2 p178 q178
              cases e178
              replace hx178_0 := (HB.out.cell (World.block_lt_of_cell? w _ hx178_0)).trans hx178_0
              replace hx178_1 := (HB.out.cell (World.block_lt_of_cell? w _ hx178_1)).trans hx178_1
              replace p178 := eq_true p178
              replace q178 := eq_true q178
              try go_wp2_with (first | ((with_reducible refine gate_dst (N := 4) rfl ?_); (try (refine gate_guard (by rfl) ?_; dsimp only)); refine Hd.box_ 4 (#[.int .i64 0, .int .i64 0]) 27 ?_; intro gb179 hg w15 hbox hb; have BK179 := Aside0.mk (hbox); have GW179 := Aside0.mk ((Hd.g_ hg Hd.b_ : w.heap.size ≤ gb179)); have GE179 := Aside0.mk ((Hd.g_ hg Hd.b_ : w.heap.size ≤ gb179)); replace HB := Aside0.mk (below_step Hd.b_ hb); clear hb hbox hg; obtain ⟨hcz16_0, hcz16_1⟩ := Hd.c2_ BK179.out; obtain ⟨hfz16_0, hfz16_1⟩ := Hd.f2_ BK179.out))
              have n0_ : Aside0 (((w15.setCell ⟨gb179, 0, none⟩ (.int .i64 ((rd_T27 l0 x15_2).f0))).setCell ⟨gb179, 1, none⟩ (.int .i64 ((rd_T27 l0 x15_2).f1))).heap[gb179]? = some (.cells #[.int .i64 ((rd_T27 l0 x15_2).f0), .int .i64 ((rd_T27 l0 x15_2).f1)] 27 (0, 0))) := ⟨by (with_reducible repeat (first | refine blk_drewN ?_ _ | refine blk_drew ?_ | refine blk_alloc ?_ _)); refine blk_put (cs := #[.int .i64 ((rd_T27 l0 x15_2).f0), .int .i64 0]) ?_ 1 _ rfl; (with_reducible repeat (first | refine blk_drewN ?_ _ | refine blk_drew ?_ | refine blk_alloc ?_ _)); refine blk_put (cs := #[.int .i64 0, .int .i64 0]) ?_ 0 _ rfl; (with_reducible repeat (first | refine blk_drewN ?_ _ | refine blk_drew ?_ | refine blk_alloc ?_ _)); exact BK179.out⟩
              have n1_ : Aside0 (Below w.heap.size w ((w15.setCell ⟨gb179, 0, none⟩ (.int .i64 ((rd_T27 l0 x15_2).f0))).setCell ⟨gb179, 1, none⟩ (.int .i64 ((rd_T27 l0 x15_2).f1)))) := ⟨Hd.b_⟩
              (try clear BK179)
              (try clear HB)
              generalize ((w15.setCell ⟨gb179, 0, none⟩ (.int .i64 ((rd_T27 l0 x15_2).f0))).setCell ⟨gb179, 1, none⟩ (.int .i64 ((rd_T27 l0 x15_2).f1))) = w17 at n0_ n1_ ⊢
              have BK179 := n0_
              have HB := n1_
              clear n0_ n1_
              replace BK179 := Aside0.mk (blk_drew BK179.out)
              replace HB := Aside0.mk (below_drew1 HB.out)
              have p181 : 0 ≤ ((ji11) : Int) := of_decide_eq_true Hd.a_
              have q181 : (ji11) < (l0.length : Int) := of_decide_eq_true Hd.a_
              obtain ⟨ad181, e181, hx181_0, hx181_1⟩ := at_T27 HR0.out (ji11) p181 q181
              have hw181_1 := hx181_1
              have hw181_0 := hx181_0
              obtain rfl : ad178 = ad181 := (by injection e181)
              replace hx181_0 := (HB.out.cell (World.block_lt_of_cell? w _ hx181_0)).trans hx181_0
              replace hx181_1 := (HB.out.cell (World.block_lt_of_cell? w _ hx181_1)).trans hx181_1
              replace p181 := eq_true p181
              replace q181 := eq_true q181
              obtain ⟨s0_, s1_⟩ := Hd.HW.k2 (W0 := w17.drew) BK179
              have s2_ := Hd.HW.x (W0 := w17.drew) ((HB.out.cell (World.block_lt_of_cell? w _ hw181_0)).trans hw181_0)
              have s3_ := Hd.HW.x (W0 := w17.drew) ((HB.out.cell (World.block_lt_of_cell? w _ hw181_1)).trans hw181_1)
              refine Hd.HW.region (by kernel_rfl) (by kernel_rfl) ?_
              repeat (go_big_quiet_step ((first | (go_at_call 45; with_reducible exact Hd.HW.c (impl_IsPoint.calls ((rd_T27 l0 x15_2).f0) ((rd_T27 l0 x15_2).f1) true _ A8.out)))))
              refine wpQuiet_nil ?_
              intro _ hq_
              obtain ⟨q_, rfl⟩ := hq_
              clear s0_ s1_ s2_ s3_
              replace BK179 := Aside0.mk (blk_below BK179.out q_.b)
              replace HB := Aside0.mk (below_step HB.out q_.b)
              replace hx181_0 := q_.cell hx181_0
              replace hx181_1 := q_.cell hx181_1
              generalize q_.W = w19 at BK179 HB hx181_0 hx181_1 ⊢
              try simp only [i64_w, i32_w]
              try go_wp2
              go_ret
              exact ⟨by first | rfl | (simp [errW_none, errW_some] <;> rfl) | (simp only [← hji11]; first | rfl | (simp [errW_none, errW_some] <;> rfl)) | (simp [*, errW_none, errW_some] <;> rfl), Hd.b_⟩
             ·
              rw [if_neg c14] at H
              have c14b0 : (((rd_T27 l0 x15_2).f0) == ((rd_T27 l0 (ji11)).f0) && (((rd_T27 l0 x15_2).f1) == ((rd_T27 l0 (ji11)).f1))) = false := by simpa using c14
              (try (have c14b1 : decide (((rd_T27 l0 x15_2).f0) = ((rd_T27 l0 (ji11)).f0) && (((rd_T27 l0 x15_2).f1) == ((rd_T27 l0 (ji11)).f1))) = false := by simpa using c14))
              (try (have c14b2 : (((rd_T27 l0 x15_2).f0) == ((rd_T27 l0 (ji11)).f0) && (((rd_T27 l0 x15_2).f1) == ((rd_T27 l0 (ji11)).f1))) = false := by simpa using c14))
              (try (have c14b3 : ¬ (((rd_T27 l0 x15_2).f0) = ((rd_T27 l0 (ji11)).f0) && (((rd_T27 l0 x15_2).f1) == ((rd_T27 l0 (ji11)).f1))) := by simpa using c14))
              clear c14
              have H' := Aside0.mk H
              clear H
              have p178 : 0 ≤ (x15_2 : Int) := of_decide_eq_true Hd.a_
              have q178 : x15_2 < (l0.length : Int) := of_decide_eq_true Hd.a_
              obtain ⟨ad178, e178, hx178_0, hx178_1⟩ := at_T27 HR0.out x15_2 p178 q178
              cases e178
              replace hx178_0 := (HB.out.cell (World.block_lt_of_cell? w _ hx178_0)).trans hx178_0
              replace hx178_1 := (HB.out.cell (World.block_lt_of_cell? w _ hx178_1)).trans hx178_1
              replace p178 := eq_true p178
              replace q178 := eq_true q178
              try go_wp2_with (first | ((with_reducible refine gate_dst (N := 4) rfl ?_); (try (refine gate_guard (by rfl) ?_; dsimp only)); refine Hd.box_ 4 (#[.int .i64 0, .int .i64 0]) 27 ?_; intro gb179 hg w20 hbox hb; have BK179 := Aside0.mk (hbox); have GW179 := Aside0.mk ((Hd.g_ hg Hd.b_ : w.heap.size ≤ gb179)); have GE179 := Aside0.mk ((Hd.g_ hg Hd.b_ : w.heap.size ≤ gb179)); replace HB := Aside0.mk (below_step Hd.b_ hb); clear hb hbox hg; obtain ⟨hcz21_0, hcz21_1⟩ := Hd.c2_ BK179.out; obtain ⟨hfz21_0, hfz21_1⟩ := Hd.f2_ BK179.out))
              have n0_ : Aside0 (((w20.setCell ⟨gb179, 0, none⟩ (.int .i64 ((rd_T27 l0 x15_2).f0))).setCell ⟨gb179, 1, none⟩ (.int .i64 ((rd_T27 l0 x15_2).f1))).heap[gb179]? = some (.cells #[.int .i64 ((rd_T27 l0 x15_2).f0), .int .i64 ((rd_T27 l0 x15_2).f1)] 27 (0, 0))) := ⟨by (with_reducible repeat (first | refine blk_drewN ?_ _ | refine blk_drew ?_ | refine blk_alloc ?_ _)); refine blk_put (cs := #[.int .i64 ((rd_T27 l0 x15_2).f0), .int .i64 0]) ?_ 1 _ rfl; (with_reducible repeat (first | refine blk_drewN ?_ _ | refine blk_drew ?_ | refine blk_alloc ?_ _)); refine blk_put (cs := #[.int .i64 0, .int .i64 0]) ?_ 0 _ rfl; (with_reducible repeat (first | refine blk_drewN ?_ _ | refine blk_drew ?_ | refine blk_alloc ?_ _)); exact BK179.out⟩
              have n1_ : Aside0 (Below w.heap.size w ((w20.setCell ⟨gb179, 0, none⟩ (.int .i64 ((rd_T27 l0 x15_2).f0))).setCell ⟨gb179, 1, none⟩ (.int .i64 ((rd_T27 l0 x15_2).f1)))) := ⟨Hd.b_⟩
              (try clear BK179)
              (try clear HB)
              generalize ((w20.setCell ⟨gb179, 0, none⟩ (.int .i64 ((rd_T27 l0 x15_2).f0))).setCell ⟨gb179, 1, none⟩ (.int .i64 ((rd_T27 l0 x15_2).f1))) = w22 at n0_ n1_ ⊢
              have BK179 := n0_
              have HB := n1_
              clear n0_ n1_
              replace BK179 := Aside0.mk (blk_drew BK179.out)
              replace HB := Aside0.mk (below_drew1 HB.out)
              have p181 : 0 ≤ ((ji11) : Int) := of_decide_eq_true Hd.a_
              have q181 : (ji11) < (l0.length : Int) := of_decide_eq_true Hd.a_
              obtain ⟨ad181, e181, hx181_0, hx181_1⟩ := at_T27 HR0.out (ji11) p181 q181
              have hw181_1 := hx181_1
              have hw181_0 := hx181_0
              obtain rfl : ad178 = ad181 := (by injection e181)
              replace hx181_0 := (HB.out.cell (World.block_lt_of_cell? w _ hx181_0)).trans hx181_0
              replace hx181_1 := (HB.out.cell (World.block_lt_of_cell? w _ hx181_1)).trans hx181_1
              replace p181 := eq_true p181
              replace q181 := eq_true q181
              obtain ⟨s0_, s1_⟩ := Hd.HW.k2 (W0 := w22.drew) BK179
              have s2_ := Hd.HW.x (W0 := w22.drew) ((HB.out.cell (World.block_lt_of_cell? w _ hw181_0)).trans hw181_0)
              have s3_ := Hd.HW.x (W0 := w22.drew) ((HB.out.cell (World.block_lt_of_cell? w _ hw181_1)).trans hw181_1)
              refine Hd.HW.region (by kernel_rfl) (by kernel_rfl) ?_
              repeat (go_big_quiet_step ((first | (go_at_call 45; with_reducible exact Hd.HW.c (impl_IsPoint.calls ((rd_T27 l0 x15_2).f0) ((rd_T27 l0 x15_2).f1) true _ A8.out)))))
              refine wpQuiet_nil ?_
              intro _ hq_
              obtain ⟨q_, rfl⟩ := hq_
              clear s0_ s1_ s2_ s3_
              replace BK179 := Aside0.mk (blk_below BK179.out q_.b)
              replace HB := Aside0.mk (below_step HB.out q_.b)
              replace hx181_0 := q_.cell hx181_0
              replace hx181_1 := q_.cell hx181_1
              generalize q_.W = w24 at BK179 HB hx181_0 hx181_1 ⊢
              try simp only [i64_w, i32_w]
              try go_wp2
              go_roundg k2
              case measure => have := HJ1.out; have := HK2.out; omega
              case rel => exact ⟨(wrap64 (x15_2 + 1)), (by first | rfl | (simp; done) | (simp [*]; done)), H', ⟨by have := HJ1.out; have := HK2.out; omega⟩, ⟨Hd.b_⟩⟩
            ·
             rw [if_neg c13] at H
             exact absurd H (by simp)
           ·
            rw [if_neg c12] at H
            exact absurd H (by simp)
          ·
           rw [if_neg c10] at H
           have c10b0 : decide (0 < x15_2) = false := decide_eq_false c10
           clear c10
           have H' := Aside0.mk H
           clear H
           have p178 : 0 ≤ (x15_2 : Int) := of_decide_eq_true Hd.a_
           have q178 : x15_2 < (l0.length : Int) := of_decide_eq_true Hd.a_
           obtain ⟨ad178, e178, hx178_0, hx178_1⟩ := at_T27 HR0.out x15_2 p178 q178
           cases e178
           replace hx178_0 := (HB.out.cell (World.block_lt_of_cell? w _ hx178_0)).trans hx178_0
           replace hx178_1 := (HB.out.cell (World.block_lt_of_cell? w _ hx178_1)).trans hx178_1
           replace p178 := eq_true p178
           replace q178 := eq_true q178
           try go_wp2_with (first | ((with_reducible refine gate_dst (N := 4) rfl ?_); (try (refine gate_guard (by rfl) ?_; dsimp only)); refine Hd.box_ 4 (#[.int .i64 0, .int .i64 0]) 27 ?_; intro gb179 hg w25 hbox hb; have BK179 := Aside0.mk (hbox); have GW179 := Aside0.mk ((Hd.g_ hg Hd.b_ : w.heap.size ≤ gb179)); have GE179 := Aside0.mk ((Hd.g_ hg Hd.b_ : w.heap.size ≤ gb179)); replace HB := Aside0.mk (below_step Hd.b_ hb); clear hb hbox hg; obtain ⟨hcz26_0, hcz26_1⟩ := Hd.c2_ BK179.out; obtain ⟨hfz26_0, hfz26_1⟩ := Hd.f2_ BK179.out))
           have n0_ : Aside0 (((w25.setCell ⟨gb179, 0, none⟩ (.int .i64 ((rd_T27 l0 x15_2).f0))).setCell ⟨gb179, 1, none⟩ (.int .i64 ((rd_T27 l0 x15_2).f1))).heap[gb179]? = some (.cells #[.int .i64 ((rd_T27 l0 x15_2).f0), .int .i64 ((rd_T27 l0 x15_2).f1)] 27 (0, 0))) := ⟨by (with_reducible repeat (first | refine blk_drewN ?_ _ | refine blk_drew ?_ | refine blk_alloc ?_ _)); refine blk_put (cs := #[.int .i64 ((rd_T27 l0 x15_2).f0), .int .i64 0]) ?_ 1 _ rfl; (with_reducible repeat (first | refine blk_drewN ?_ _ | refine blk_drew ?_ | refine blk_alloc ?_ _)); refine blk_put (cs := #[.int .i64 0, .int .i64 0]) ?_ 0 _ rfl; (with_reducible repeat (first | refine blk_drewN ?_ _ | refine blk_drew ?_ | refine blk_alloc ?_ _)); exact BK179.out⟩
           have n1_ : Aside0 (Below w.heap.size w ((w25.setCell ⟨gb179, 0, none⟩ (.int .i64 ((rd_T27 l0 x15_2).f0))).setCell ⟨gb179, 1, none⟩ (.int .i64 ((rd_T27 l0 x15_2).f1)))) := ⟨Hd.b_⟩
           (try clear BK179)
           (try clear HB)
           generalize ((w25.setCell ⟨gb179, 0, none⟩ (.int .i64 ((rd_T27 l0 x15_2).f0))).setCell ⟨gb179, 1, none⟩ (.int .i64 ((rd_T27 l0 x15_2).f1))) = w27 at n0_ n1_ ⊢
           have BK179 := n0_
           have HB := n1_
           clear n0_ n1_
           replace BK179 := Aside0.mk (blk_drew BK179.out)
           replace HB := Aside0.mk (below_drew1 HB.out)
           obtain ⟨s0_, s1_⟩ := Hd.HW.k2 (W0 := w27.drew) BK179
           refine Hd.HW.region (by kernel_rfl) (by kernel_rfl) ?_
           repeat (go_big_quiet_step ((first | (go_at_call 45; with_reducible exact Hd.HW.c (impl_IsPoint.calls ((rd_T27 l0 x15_2).f0) ((rd_T27 l0 x15_2).f1) true _ A8.out)))))
           refine wpQuiet_nil ?_
           intro _ hq_
           obtain ⟨q_, rfl⟩ := hq_
           clear s0_ s1_
           replace BK179 := Aside0.mk (blk_below BK179.out q_.b)
           replace HB := Aside0.mk (below_step HB.out q_.b)
           generalize q_.W = w29 at BK179 HB ⊢
           try simp only [i64_w, i32_w]
           try go_wp2
           go_roundg k2
           case measure => have := HJ1.out; have := HK2.out; omega
           case rel => exact ⟨(wrap64 (x15_2 + 1)), (by first | rfl | (simp; done) | (simp [*]; done)), H', ⟨by have := HJ1.out; have := HK2.out; omega⟩, ⟨Hd.b_⟩⟩
         ·
          replace c9 := Bool.eq_false_iff.mpr c9
          subst c9
          have H1 : (some false) = some r := by rw [if_neg (show ¬ (false = true) by decide)] at H; exact H
          clear H
          have H := H1
          clear H1
          obtain rfl := Option.some.inj H
          have p178 : 0 ≤ (x15_2 : Int) := of_decide_eq_true Hd.a_
          have q178 : x15_2 < (l0.length : Int) := of_decide_eq_true Hd.a_
          obtain ⟨ad178, e178, hx178_0, hx178_1⟩ := at_T27 HR0.out x15_2 p178 q178
          cases e178
          replace hx178_0 := (HB.out.cell (World.block_lt_of_cell? w _ hx178_0)).trans hx178_0
          replace hx178_1 := (HB.out.cell (World.block_lt_of_cell? w _ hx178_1)).trans hx178_1
          replace p178 := eq_true p178
          replace q178 := eq_true q178
          try go_wp2_with (first | ((with_reducible refine gate_dst (N := 4) rfl ?_); (try (refine gate_guard (by rfl) ?_; dsimp only)); refine Hd.box_ 4 (#[.int .i64 0, .int .i64 0]) 27 ?_; intro gb179 hg w30 hbox hb; have BK179 := Aside0.mk (hbox); have GW179 := Aside0.mk ((Hd.g_ hg Hd.b_ : w.heap.size ≤ gb179)); have GE179 := Aside0.mk ((Hd.g_ hg Hd.b_ : w.heap.size ≤ gb179)); replace HB := Aside0.mk (below_step Hd.b_ hb); clear hb hbox hg; obtain ⟨hcz31_0, hcz31_1⟩ := Hd.c2_ BK179.out; obtain ⟨hfz31_0, hfz31_1⟩ := Hd.f2_ BK179.out))
          have n0_ : Aside0 (((w30.setCell ⟨gb179, 0, none⟩ (.int .i64 ((rd_T27 l0 x15_2).f0))).setCell ⟨gb179, 1, none⟩ (.int .i64 ((rd_T27 l0 x15_2).f1))).heap[gb179]? = some (.cells #[.int .i64 ((rd_T27 l0 x15_2).f0), .int .i64 ((rd_T27 l0 x15_2).f1)] 27 (0, 0))) := ⟨by (with_reducible repeat (first | refine blk_drewN ?_ _ | refine blk_drew ?_ | refine blk_alloc ?_ _)); refine blk_put (cs := #[.int .i64 ((rd_T27 l0 x15_2).f0), .int .i64 0]) ?_ 1 _ rfl; (with_reducible repeat (first | refine blk_drewN ?_ _ | refine blk_drew ?_ | refine blk_alloc ?_ _)); refine blk_put (cs := #[.int .i64 0, .int .i64 0]) ?_ 0 _ rfl; (with_reducible repeat (first | refine blk_drewN ?_ _ | refine blk_drew ?_ | refine blk_alloc ?_ _)); exact BK179.out⟩
          have n1_ : Aside0 (Below w.heap.size w ((w30.setCell ⟨gb179, 0, none⟩ (.int .i64 ((rd_T27 l0 x15_2).f0))).setCell ⟨gb179, 1, none⟩ (.int .i64 ((rd_T27 l0 x15_2).f1)))) := ⟨Hd.b_⟩
          (try clear BK179)
          (try clear HB)
          generalize ((w30.setCell ⟨gb179, 0, none⟩ (.int .i64 ((rd_T27 l0 x15_2).f0))).setCell ⟨gb179, 1, none⟩ (.int .i64 ((rd_T27 l0 x15_2).f1))) = w32 at n0_ n1_ ⊢
          have BK179 := n0_
          have HB := n1_
          clear n0_ n1_
          replace BK179 := Aside0.mk (blk_drew BK179.out)
          replace HB := Aside0.mk (below_drew1 HB.out)
          obtain ⟨s0_, s1_⟩ := Hd.HW.k2 (W0 := w32.drew) BK179
          refine Hd.HW.region (by kernel_rfl) (by kernel_rfl) ?_
          repeat (go_big_quiet_step ((first | (go_at_call 45; with_reducible exact Hd.HW.c (impl_IsPoint.calls ((rd_T27 l0 x15_2).f0) ((rd_T27 l0 x15_2).f1) false _ A8.out)))))
          refine wpQuiet_nil ?_
          intro _ hq_
          obtain ⟨q_, rfl⟩ := hq_
          clear s0_ s1_
          replace BK179 := Aside0.mk (blk_below BK179.out q_.b)
          replace HB := Aside0.mk (below_step HB.out q_.b)
          generalize q_.W = w34 at BK179 HB ⊢
          try simp only [i64_w, i32_w]
          try go_wp2
          go_ret
          exact ⟨Hd.e_, Hd.b_⟩
        ·
         rw [if_neg c7] at H
         exact absurd H (by simp)
       ·
        rw [if_neg c6] at H
        exact absurd H (by simp)
      ·
       rw [if_neg c5] at H
       have c5b0 : decide (x15_2 < (l0.length : Int)) = false := decide_eq_false c5
       clear c5
       obtain rfl := Option.some.inj H
       go_wp2
       go_ret
       exact ⟨Hd.e_, Hd.b_⟩
def impl_Point.f (l0 : List (S27)) : Option ((List (S27))) := (some (([] : List (S27)) : List (S27))).bind fun y182 => (if y182.length + l0.length < 8796093022208 then (some (y182 ++ l0)) else (none))
theorem impl_Point.eqnil (W : World) (a : Option Addr) (l c : Nat) : (binOp .eql 24 (.slice a l c) (.slice none 0 0)).run Try.prog W = .ok (.bool a.isNone) W := by
  cases a <;> kernel_rfl
attribute [local go_sem] impl_Point.eqnil
set_option maxHeartbeats 8000000 in
set_option maxRecDepth 100000 in
theorem impl_Point.calls (A0 : Option Addr) (c0 : Nat) (l0 : List (S27)) (r : List (S27)) (w : World) (hr0 : Kd.C k27 w A0 l0.length l0) (hc0 : l0.length ≤ c0) (h : impl_Point.f l0 = some r) :
    Calls Try.prog 76 #[.slice A0 l0.length c0] w fun e w' => ∃ v0_ : Value, e = .returned (v0_) ∧ Kd.R k27 27 w' w.heap.size (fun _ => True) v0_ r ∧ Below w.heap.size w w' := by
  cases A0
  case none =>
    have hl : l0 = [] := by
      obtain ⟨_, _, h3⟩ := hr0
      cases l0 with
      | nil => rfl
      | cons a l => obtain ⟨ad, e, _⟩ := h3 (by simp); cases e
    subst hl
    have hr : r = [] := by simp [impl_Point.f] at h; exact h
    subst hr
    go_enter Try.func76, Try.ntmps76
    go_wp2
    go_ret
    exact ⟨_, rfl, Kd.R_nil _ _ _ _ _, by repeat (first | exact Below.refl _ _ | apply below_alloc | apply pw_below_drewN | apply below_drew1)⟩
  have HR0 := Aside0.mk hr0
  have HC0 := Aside0.mk hc0
  clear hr0 hc0
  have HB := Aside0.mk (Below.refl w.heap.size w)
  have H : ((some (([] : List (S27)) : List (S27))).bind fun y182 => (if y182.length + l0.length < 8796093022208 then (some (y182 ++ l0)) else (none))) = some r := h
  clear h
  obtain ⟨y182, hy182⟩ : ∃ y_ : List (S27), y_ = (([] : List (S27))) := ⟨_, rfl⟩
  replace H : (if y182.length + l0.length < 8796093022208 then (some (y182 ++ l0)) else (none)) = some r := by first | (rw [hy182]; with_reducible exact H) | (have H2_ := (Option.bind_some _ _).symm.trans H; rw [hy182]; with_reducible exact H2_) | (have H2_ := (Option.bind_some _ _).symm.trans H; with_reducible exact H2_) | with_reducible exact H | (rw [hy182]; exact H) | exact H
  have Ny182 := Aside0.mk hy182
  clear hy182
  by_cases c2 : y182.length + l0.length < 8796093022208
  · rw [if_pos c2] at H
    have LMc2 := Aside0.mk c2
    clear c2
    obtain ⟨y185, hy185⟩ : ∃ y_ : List (S27), y_ = (y182 ++ l0) := ⟨_, rfl⟩
    replace H : (some y185) = some r := by first | (rw [hy185]; with_reducible exact H) | (have H2_ := (Option.bind_some _ _).symm.trans H; rw [hy185]; with_reducible exact H2_) | (have H2_ := (Option.bind_some _ _).symm.trans H; with_reducible exact H2_) | with_reducible exact H | (rw [hy185]; exact H) | exact H
    have Ny185 := Aside0.mk hy185
    clear hy185
    obtain rfl := Option.some.inj H
    go_enter Try.func76, Try.ntmps76
    go_wp2_with (first | ((with_reducible refine gate_dst (N := 5) rfl ?_); refine Kd.R_lit k27 _ 27 ?hg (N := 5) ?hd (xs := ([] : List (S27))) (inner := []) (ok := fun _ => True) (okp := fun _ => True) ?hr ?hp (fun _ hk => hk) trivial (Below.refl _ _) (Nat.le_refl _) (by simp) ?_; (case hd => rfl); (case hg => rfl); (case hr => first | (go_simp; done) | (go_simp; rfl)); (case hp => exact (Reps.none _ _)); intro v183 w3 ho4 hb hg_ hnew_; clear hg_ hnew_; (first | rw [← Ny182.out] at ho4 | (simp only [Int.reduceToNat] at ho4; rw [← Ny182.out] at ho4)); have n0_ := Aside0.mk (Kd.R_lower ho4 (below_size (by repeat (first | (with_reducible first | exact HB.out | apply below_alloc | apply pw_below_drewN | apply below_drew1) | exact HB.out)))); have n1_ := Aside0.mk (below_step (by repeat (first | (with_reducible first | exact HB.out | apply below_alloc | apply pw_below_drewN | apply below_drew1) | exact HB.out)) hb); clear HB; have HO184 := n0_; have HB := n1_; clear n0_ n1_; clear hb ho4) | ((with_reducible refine gate_builtin (b := .append) (xs := #[.tmp 5, .tmp 6]) rfl ?_); at_builtin; refine Kd.R_append_rows k27 (w0 := w) w.heap.size rfl (.tmp 5) (.tmp 6) 24 27 (.agg #[(.int .i64 0), (.int .i64 0)]) 16 rfl Try.underlying24 info27 rfl (by decide) (by omega) v183 y182 l0 _ _ _ (fun _ => True) (fun _ => False) rfl rfl ?aO ?aR (fun _ _ h => h) (fun _ h => h.elim) ?aF ?aB ?aS ?aL ?_; (case aR => repeat (first | exact (Kd.C_below HR0.out HB.out) | (with_reducible refine Kd.C_alloc ?_ _) | (with_reducible refine Kd.C_drewN ?_ _) | (with_reducible refine Kd.C_drew ?_))); (case aB => exact (by repeat (first | (with_reducible first | exact HB.out | apply below_alloc | apply pw_below_drewN | apply below_drew1) | exact HB.out))); (case aF => exact (fun _ _ => trivial)); (case aO => exact (by (with_reducible repeat (first | apply Kd.R_alloc | apply Kd.R_drewN | apply Kd.R_drew)); exact HO184.out)); (case aS => exact (below_size (by repeat (first | (with_reducible first | exact HB.out | apply below_alloc | apply pw_below_drewN | apply below_drew1) | exact HB.out)))); (case aL => have := LMc2.out; omega); intro v186 w5 ho hb hg hat; rw [← Ny185.out] at ho; have n0_ := Aside0.mk (hb); have n1_ := Aside0.mk (ho); clear HB; clear HO184; have HB := n0_; have HO187 := n1_; clear n0_ n1_; clear ho hb hg hat))
    go_ret
    exact ⟨_, by first | rfl | (simp [errW_none, errW_some] <;> rfl) | (simp [*, errW_none, errW_some] <;> rfl), by (with_reducible repeat (first | apply Kd.R_alloc | apply Kd.R_drewN | apply Kd.R_drew)); exact HO187.out, by repeat (first | (with_reducible first | exact HB.out | apply below_alloc | apply pw_below_drewN | apply below_drew1) | exact HB.out)⟩
  · rw [if_neg c2] at H
    exact absurd H (by simp)
def impl_FarSquared.f (a0_0 : Int) (a0_1 : Int) (a1_0 : Int) (a1_1 : Int) : Option (Int) := (impl_IsPoint.f a0_0 a0_1).bind fun t190 => (if t190 = true then ((impl_IsPoint.f a1_0 a1_1).bind fun t191 => (if t191 = true then (some (wrap64 ((wrap64 ((wrap64 (a0_0 - a1_0)) * (wrap64 (a0_0 - a1_0)))) + (wrap64 ((wrap64 (a0_1 - a1_1)) * (wrap64 (a0_1 - a1_1))))))) else (some (-1)))) else (some (-1)))
set_option maxHeartbeats 8000000 in
set_option maxRecDepth 100000 in
theorem impl_FarSquared.calls (a0_0 : Int) (a0_1 : Int) (a1_0 : Int) (a1_1 : Int) (r : Int) (w : World) (h : impl_FarSquared.f a0_0 a0_1 a1_0 a1_1 = some r) :
  Calls Try.prog 108 #[.agg #[.int .i64 a0_0, .int .i64 a0_1], .agg #[.int .i64 a1_0, .int .i64 a1_1]] w fun e w' => e = .returned (.int .i64 r) ∧ Below w.heap.size w w' := by
 have hu27 := Try.underlying27
 have HB := Aside0.mk (Below.refl w.heap.size w)
 have H : ((impl_IsPoint.f a0_0 a0_1).bind fun t190 => (if t190 = true then ((impl_IsPoint.f a1_0 a1_1).bind fun t191 => (if t191 = true then (some (wrap64 ((wrap64 ((wrap64 (a0_0 - a1_0)) * (wrap64 (a0_0 - a1_0)))) + (wrap64 ((wrap64 (a0_1 - a1_1)) * (wrap64 (a0_1 - a1_1))))))) else (some (-1)))) else (some (-1)))) = some r := h
 clear h
 replace H := Option.bind_eq_some_iff.mp H
 obtain ⟨t190, A30, H⟩ := H
 replace H : (if t190 = true then ((impl_IsPoint.f a1_0 a1_1).bind fun t191 => (if t191 = true then (some (wrap64 ((wrap64 ((wrap64 (a0_0 - a1_0)) * (wrap64 (a0_0 - a1_0)))) + (wrap64 ((wrap64 (a0_1 - a1_1)) * (wrap64 (a0_1 - a1_1))))))) else (some (-1)))) else (some (-1))) = some r := H
 have A3 := Aside0.mk A30
 clear A30
 by_cases c4 : t190 = true
 ·
  subst c4
  have H1 : ((impl_IsPoint.f a1_0 a1_1).bind fun t191 => (if t191 = true then (some (wrap64 ((wrap64 ((wrap64 (a0_0 - a1_0)) * (wrap64 (a0_0 - a1_0)))) + (wrap64 ((wrap64 (a0_1 - a1_1)) * (wrap64 (a0_1 - a1_1))))))) else (some (-1)))) = some r := by rw [if_pos rfl] at H; exact H
  clear H
  have H := H1
  clear H1
  replace H := Option.bind_eq_some_iff.mp H
  obtain ⟨t191, A50, H⟩ := H
  replace H : (if t191 = true then (some (wrap64 ((wrap64 ((wrap64 (a0_0 - a1_0)) * (wrap64 (a0_0 - a1_0)))) + (wrap64 ((wrap64 (a0_1 - a1_1)) * (wrap64 (a0_1 - a1_1))))))) else (some (-1))) = some r := H
  have A5 := Aside0.mk A50
  clear A50
  by_cases c6 : t191 = true
  ·
   subst c6
   have H1 : (some (wrap64 ((wrap64 ((wrap64 (a0_0 - a1_0)) * (wrap64 (a0_0 - a1_0)))) + (wrap64 ((wrap64 (a0_1 - a1_1)) * (wrap64 (a0_1 - a1_1))))))) = some r := by rw [if_pos rfl] at H; exact H
   clear H
   have H := H1
   clear H1
   obtain rfl := Option.some.inj H
   go_enter Try.func108, Try.ntmps108
   go_wp2_with (first | ((with_reducible refine gate_dst (N := 2) rfl ?_); refine Hd.box_ 2 (#[.int .i64 a0_0, .int .i64 a0_1]) 27 ?_; intro gb188 hg w7 hbox hb; have BK188 := Aside0.mk (hbox); have GW188 := Aside0.mk ((Hd.g_ hg Hd.b_ : w.heap.size ≤ gb188)); have GE188 := Aside0.mk ((Hd.g_ hg Hd.b_ : w.heap.size ≤ gb188)); replace HB := Aside0.mk (below_step Hd.b_ hb); clear hb hbox hg) | ((with_reducible refine gate_dst (N := 3) rfl ?_); refine Hd.box_ 3 (#[.int .i64 a1_0, .int .i64 a1_1]) 27 ?_; intro gb189 hg w8 hbox hb; have BK189 := Aside0.mk (hbox); have GW189 := Aside0.mk ((Hd.g_ hg Hd.b_ : w.heap.size ≤ gb189)); have GE189 := Aside0.mk ((Hd.g_ hg Hd.b_ : w.heap.size ≤ gb189)); replace HB := Aside0.mk (below_step Hd.b_ hb); have NB188_189 := Aside0.mk ((Hd.lt_ BK188 hg)); have NB189_188 := Aside0.mk ((Hd.gt_ BK188 hg)); replace BK188 := Aside0.mk (Hd.kb_ BK188 hb); clear hb hbox hg; have hnb9 := NB188_189.out; have hnc9 := NB189_188.out; obtain ⟨hcz10_0, hcz10_1⟩ := Hd.c2_ BK188.out; obtain ⟨hfz10_0, hfz10_1⟩ := Hd.f2_ BK188.out) | (go_at_call 45; (with_reducible refine (impl_IsPoint.calls a0_0 a0_1 true _ A3.out).mono ?_); rintro e w11 ⟨rfl, hb⟩; replace BK188 := Aside0.mk (Hd.kb_ BK188 hb); replace BK189 := Aside0.mk (Hd.kb_ BK189 hb); replace HB := Aside0.mk (below_step Hd.b_ hb); (try clear hb); (try clear hb2); (try clear hk); (try clear hi); obtain ⟨hcz12_0, hcz12_1⟩ := Hd.c2_ BK189.out; obtain ⟨hfz12_0, hfz12_1⟩ := Hd.f2_ BK189.out) | (go_at_call 45; (with_reducible refine (impl_IsPoint.calls a1_0 a1_1 true _ A5.out).mono ?_); rintro e w13 ⟨rfl, hb⟩; replace BK188 := Aside0.mk (Hd.kb_ BK188 hb); replace BK189 := Aside0.mk (Hd.kb_ BK189 hb); replace HB := Aside0.mk (below_step Hd.b_ hb); (try clear hb); (try clear hb2); (try clear hk); (try clear hi); obtain ⟨hcz14_0, hcz14_1⟩ := Hd.c2_ BK188.out; obtain ⟨hfz14_0, hfz14_1⟩ := Hd.f2_ BK188.out; obtain ⟨hcz15_0, hcz15_1⟩ := Hd.c2_ BK189.out; obtain ⟨hfz15_0, hfz15_1⟩ := Hd.f2_ BK189.out))
   repeat (go_quiet (first | ((with_reducible refine gate_dst (N := 2) rfl ?_); refine Hd.box_ 2 (#[.int .i64 a0_0, .int .i64 a0_1]) 27 ?_; intro gb188 hg w7 hbox hb; have BK188 := Aside0.mk (hbox); have GW188 := Aside0.mk ((Hd.g_ hg Hd.b_ : w.heap.size ≤ gb188)); have GE188 := Aside0.mk ((Hd.g_ hg Hd.b_ : w.heap.size ≤ gb188)); replace HB := Aside0.mk (below_step Hd.b_ hb); clear hb hbox hg) | ((with_reducible refine gate_dst (N := 3) rfl ?_); refine Hd.box_ 3 (#[.int .i64 a1_0, .int .i64 a1_1]) 27 ?_; intro gb189 hg w8 hbox hb; have BK189 := Aside0.mk (hbox); have GW189 := Aside0.mk ((Hd.g_ hg Hd.b_ : w.heap.size ≤ gb189)); have GE189 := Aside0.mk ((Hd.g_ hg Hd.b_ : w.heap.size ≤ gb189)); replace HB := Aside0.mk (below_step Hd.b_ hb); have NB188_189 := Aside0.mk ((Hd.lt_ BK188 hg)); have NB189_188 := Aside0.mk ((Hd.gt_ BK188 hg)); replace BK188 := Aside0.mk (Hd.kb_ BK188 hb); clear hb hbox hg; have hnb9 := NB188_189.out; have hnc9 := NB189_188.out; obtain ⟨hcz10_0, hcz10_1⟩ := Hd.c2_ BK188.out; obtain ⟨hfz10_0, hfz10_1⟩ := Hd.f2_ BK188.out) | (go_at_call 45; (with_reducible refine (impl_IsPoint.calls a0_0 a0_1 true _ A3.out).mono ?_); rintro e w11 ⟨rfl, hb⟩; replace BK188 := Aside0.mk (Hd.kb_ BK188 hb); replace BK189 := Aside0.mk (Hd.kb_ BK189 hb); replace HB := Aside0.mk (below_step Hd.b_ hb); (try clear hb); (try clear hb2); (try clear hk); (try clear hi); obtain ⟨hcz12_0, hcz12_1⟩ := Hd.c2_ BK189.out; obtain ⟨hfz12_0, hfz12_1⟩ := Hd.f2_ BK189.out) | (go_at_call 45; (with_reducible refine (impl_IsPoint.calls a1_0 a1_1 true _ A5.out).mono ?_); rintro e w13 ⟨rfl, hb⟩; replace BK188 := Aside0.mk (Hd.kb_ BK188 hb); replace BK189 := Aside0.mk (Hd.kb_ BK189 hb); replace HB := Aside0.mk (below_step Hd.b_ hb); (try clear hb); (try clear hb2); (try clear hk); (try clear hi); obtain ⟨hcz14_0, hcz14_1⟩ := Hd.c2_ BK188.out; obtain ⟨hfz14_0, hfz14_1⟩ := Hd.f2_ BK188.out; obtain ⟨hcz15_0, hcz15_1⟩ := Hd.c2_ BK189.out; obtain ⟨hfz15_0, hfz15_1⟩ := Hd.f2_ BK189.out)); try go_wp2_with (first | ((with_reducible refine gate_dst (N := 2) rfl ?_); refine Hd.box_ 2 (#[.int .i64 a0_0, .int .i64 a0_1]) 27 ?_; intro gb188 hg w7 hbox hb; have BK188 := Aside0.mk (hbox); have GW188 := Aside0.mk ((Hd.g_ hg Hd.b_ : w.heap.size ≤ gb188)); have GE188 := Aside0.mk ((Hd.g_ hg Hd.b_ : w.heap.size ≤ gb188)); replace HB := Aside0.mk (below_step Hd.b_ hb); clear hb hbox hg) | ((with_reducible refine gate_dst (N := 3) rfl ?_); refine Hd.box_ 3 (#[.int .i64 a1_0, .int .i64 a1_1]) 27 ?_; intro gb189 hg w8 hbox hb; have BK189 := Aside0.mk (hbox); have GW189 := Aside0.mk ((Hd.g_ hg Hd.b_ : w.heap.size ≤ gb189)); have GE189 := Aside0.mk ((Hd.g_ hg Hd.b_ : w.heap.size ≤ gb189)); replace HB := Aside0.mk (below_step Hd.b_ hb); have NB188_189 := Aside0.mk ((Hd.lt_ BK188 hg)); have NB189_188 := Aside0.mk ((Hd.gt_ BK188 hg)); replace BK188 := Aside0.mk (Hd.kb_ BK188 hb); clear hb hbox hg; have hnb9 := NB188_189.out; have hnc9 := NB189_188.out; obtain ⟨hcz10_0, hcz10_1⟩ := Hd.c2_ BK188.out; obtain ⟨hfz10_0, hfz10_1⟩ := Hd.f2_ BK188.out) | (go_at_call 45; (with_reducible refine (impl_IsPoint.calls a0_0 a0_1 true _ A3.out).mono ?_); rintro e w11 ⟨rfl, hb⟩; replace BK188 := Aside0.mk (Hd.kb_ BK188 hb); replace BK189 := Aside0.mk (Hd.kb_ BK189 hb); replace HB := Aside0.mk (below_step Hd.b_ hb); (try clear hb); (try clear hb2); (try clear hk); (try clear hi); obtain ⟨hcz12_0, hcz12_1⟩ := Hd.c2_ BK189.out; obtain ⟨hfz12_0, hfz12_1⟩ := Hd.f2_ BK189.out) | (go_at_call 45; (with_reducible refine (impl_IsPoint.calls a1_0 a1_1 true _ A5.out).mono ?_); rintro e w13 ⟨rfl, hb⟩; replace BK188 := Aside0.mk (Hd.kb_ BK188 hb); replace BK189 := Aside0.mk (Hd.kb_ BK189 hb); replace HB := Aside0.mk (below_step Hd.b_ hb); (try clear hb); (try clear hb2); (try clear hk); (try clear hi); obtain ⟨hcz14_0, hcz14_1⟩ := Hd.c2_ BK188.out; obtain ⟨hfz14_0, hfz14_1⟩ := Hd.f2_ BK188.out; obtain ⟨hcz15_0, hcz15_1⟩ := Hd.c2_ BK189.out; obtain ⟨hfz15_0, hfz15_1⟩ := Hd.f2_ BK189.out)))
   go_ret
   exact ⟨Hd.e_, Hd.b_⟩
  ·
   replace c6 := Bool.eq_false_iff.mpr c6
   subst c6
   have H1 : (some (-1)) = some r := by rw [if_neg (show ¬ (false = true) by decide)] at H; exact H
   clear H
   have H := H1
   clear H1
   obtain rfl := Option.some.inj H
   go_enter Try.func108, Try.ntmps108
   go_wp2_with (first | ((with_reducible refine gate_dst (N := 2) rfl ?_); refine Hd.box_ 2 (#[.int .i64 a0_0, .int .i64 a0_1]) 27 ?_; intro gb188 hg w16 hbox hb; have BK188 := Aside0.mk (hbox); have GW188 := Aside0.mk ((Hd.g_ hg Hd.b_ : w.heap.size ≤ gb188)); have GE188 := Aside0.mk ((Hd.g_ hg Hd.b_ : w.heap.size ≤ gb188)); replace HB := Aside0.mk (below_step Hd.b_ hb); clear hb hbox hg) | ((with_reducible refine gate_dst (N := 3) rfl ?_); refine Hd.box_ 3 (#[.int .i64 a1_0, .int .i64 a1_1]) 27 ?_; intro gb189 hg w17 hbox hb; have BK189 := Aside0.mk (hbox); have GW189 := Aside0.mk ((Hd.g_ hg Hd.b_ : w.heap.size ≤ gb189)); have GE189 := Aside0.mk ((Hd.g_ hg Hd.b_ : w.heap.size ≤ gb189)); replace HB := Aside0.mk (below_step Hd.b_ hb); have NB188_189 := Aside0.mk ((Hd.lt_ BK188 hg)); have NB189_188 := Aside0.mk ((Hd.gt_ BK188 hg)); replace BK188 := Aside0.mk (Hd.kb_ BK188 hb); clear hb hbox hg; have hnb18 := NB188_189.out; have hnc18 := NB189_188.out; obtain ⟨hcz19_0, hcz19_1⟩ := Hd.c2_ BK188.out; obtain ⟨hfz19_0, hfz19_1⟩ := Hd.f2_ BK188.out) | (go_at_call 45; (with_reducible refine (impl_IsPoint.calls a0_0 a0_1 true _ A3.out).mono ?_); rintro e w20 ⟨rfl, hb⟩; replace BK188 := Aside0.mk (Hd.kb_ BK188 hb); replace BK189 := Aside0.mk (Hd.kb_ BK189 hb); replace HB := Aside0.mk (below_step Hd.b_ hb); (try clear hb); (try clear hb2); (try clear hk); (try clear hi); obtain ⟨hcz21_0, hcz21_1⟩ := Hd.c2_ BK189.out; obtain ⟨hfz21_0, hfz21_1⟩ := Hd.f2_ BK189.out) | (go_at_call 45; (with_reducible refine (impl_IsPoint.calls a1_0 a1_1 false _ A5.out).mono ?_); rintro e w22 ⟨rfl, hb⟩; replace BK188 := Aside0.mk (Hd.kb_ BK188 hb); replace BK189 := Aside0.mk (Hd.kb_ BK189 hb); replace HB := Aside0.mk (below_step Hd.b_ hb); (try clear hb); (try clear hb2); (try clear hk); (try clear hi)))
   repeat (go_quiet (first | ((with_reducible refine gate_dst (N := 2) rfl ?_); refine Hd.box_ 2 (#[.int .i64 a0_0, .int .i64 a0_1]) 27 ?_; intro gb188 hg w16 hbox hb; have BK188 := Aside0.mk (hbox); have GW188 := Aside0.mk ((Hd.g_ hg Hd.b_ : w.heap.size ≤ gb188)); have GE188 := Aside0.mk ((Hd.g_ hg Hd.b_ : w.heap.size ≤ gb188)); replace HB := Aside0.mk (below_step Hd.b_ hb); clear hb hbox hg) | ((with_reducible refine gate_dst (N := 3) rfl ?_); refine Hd.box_ 3 (#[.int .i64 a1_0, .int .i64 a1_1]) 27 ?_; intro gb189 hg w17 hbox hb; have BK189 := Aside0.mk (hbox); have GW189 := Aside0.mk ((Hd.g_ hg Hd.b_ : w.heap.size ≤ gb189)); have GE189 := Aside0.mk ((Hd.g_ hg Hd.b_ : w.heap.size ≤ gb189)); replace HB := Aside0.mk (below_step Hd.b_ hb); have NB188_189 := Aside0.mk ((Hd.lt_ BK188 hg)); have NB189_188 := Aside0.mk ((Hd.gt_ BK188 hg)); replace BK188 := Aside0.mk (Hd.kb_ BK188 hb); clear hb hbox hg; have hnb18 := NB188_189.out; have hnc18 := NB189_188.out; obtain ⟨hcz19_0, hcz19_1⟩ := Hd.c2_ BK188.out; obtain ⟨hfz19_0, hfz19_1⟩ := Hd.f2_ BK188.out) | (go_at_call 45; (with_reducible refine (impl_IsPoint.calls a0_0 a0_1 true _ A3.out).mono ?_); rintro e w20 ⟨rfl, hb⟩; replace BK188 := Aside0.mk (Hd.kb_ BK188 hb); replace BK189 := Aside0.mk (Hd.kb_ BK189 hb); replace HB := Aside0.mk (below_step Hd.b_ hb); (try clear hb); (try clear hb2); (try clear hk); (try clear hi); obtain ⟨hcz21_0, hcz21_1⟩ := Hd.c2_ BK189.out; obtain ⟨hfz21_0, hfz21_1⟩ := Hd.f2_ BK189.out) | (go_at_call 45; (with_reducible refine (impl_IsPoint.calls a1_0 a1_1 false _ A5.out).mono ?_); rintro e w22 ⟨rfl, hb⟩; replace BK188 := Aside0.mk (Hd.kb_ BK188 hb); replace BK189 := Aside0.mk (Hd.kb_ BK189 hb); replace HB := Aside0.mk (below_step Hd.b_ hb); (try clear hb); (try clear hb2); (try clear hk); (try clear hi))); try go_wp2_with (first | ((with_reducible refine gate_dst (N := 2) rfl ?_); refine Hd.box_ 2 (#[.int .i64 a0_0, .int .i64 a0_1]) 27 ?_; intro gb188 hg w16 hbox hb; have BK188 := Aside0.mk (hbox); have GW188 := Aside0.mk ((Hd.g_ hg Hd.b_ : w.heap.size ≤ gb188)); have GE188 := Aside0.mk ((Hd.g_ hg Hd.b_ : w.heap.size ≤ gb188)); replace HB := Aside0.mk (below_step Hd.b_ hb); clear hb hbox hg) | ((with_reducible refine gate_dst (N := 3) rfl ?_); refine Hd.box_ 3 (#[.int .i64 a1_0, .int .i64 a1_1]) 27 ?_; intro gb189 hg w17 hbox hb; have BK189 := Aside0.mk (hbox); have GW189 := Aside0.mk ((Hd.g_ hg Hd.b_ : w.heap.size ≤ gb189)); have GE189 := Aside0.mk ((Hd.g_ hg Hd.b_ : w.heap.size ≤ gb189)); replace HB := Aside0.mk (below_step Hd.b_ hb); have NB188_189 := Aside0.mk ((Hd.lt_ BK188 hg)); have NB189_188 := Aside0.mk ((Hd.gt_ BK188 hg)); replace BK188 := Aside0.mk (Hd.kb_ BK188 hb); clear hb hbox hg; have hnb18 := NB188_189.out; have hnc18 := NB189_188.out; obtain ⟨hcz19_0, hcz19_1⟩ := Hd.c2_ BK188.out; obtain ⟨hfz19_0, hfz19_1⟩ := Hd.f2_ BK188.out) | (go_at_call 45; (with_reducible refine (impl_IsPoint.calls a0_0 a0_1 true _ A3.out).mono ?_); rintro e w20 ⟨rfl, hb⟩; replace BK188 := Aside0.mk (Hd.kb_ BK188 hb); replace BK189 := Aside0.mk (Hd.kb_ BK189 hb); replace HB := Aside0.mk (below_step Hd.b_ hb); (try clear hb); (try clear hb2); (try clear hk); (try clear hi); obtain ⟨hcz21_0, hcz21_1⟩ := Hd.c2_ BK189.out; obtain ⟨hfz21_0, hfz21_1⟩ := Hd.f2_ BK189.out) | (go_at_call 45; (with_reducible refine (impl_IsPoint.calls a1_0 a1_1 false _ A5.out).mono ?_); rintro e w22 ⟨rfl, hb⟩; replace BK188 := Aside0.mk (Hd.kb_ BK188 hb); replace BK189 := Aside0.mk (Hd.kb_ BK189 hb); replace HB := Aside0.mk (below_step Hd.b_ hb); (try clear hb); (try clear hb2); (try clear hk); (try clear hi))))
   go_ret
   exact ⟨Hd.e_, Hd.b_⟩
 ·
  replace c4 := Bool.eq_false_iff.mpr c4
  subst c4
  have H1 : (some (-1)) = some r := by rw [if_neg (show ¬ (false = true) by decide)] at H; exact H
  clear H
  have H := H1
  clear H1
  obtain rfl := Option.some.inj H
  go_enter Try.func108, Try.ntmps108
  go_wp2_with (first | ((with_reducible refine gate_dst (N := 2) rfl ?_); refine Hd.box_ 2 (#[.int .i64 a0_0, .int .i64 a0_1]) 27 ?_; intro gb188 hg w23 hbox hb; have BK188 := Aside0.mk (hbox); have GW188 := Aside0.mk ((Hd.g_ hg Hd.b_ : w.heap.size ≤ gb188)); have GE188 := Aside0.mk ((Hd.g_ hg Hd.b_ : w.heap.size ≤ gb188)); replace HB := Aside0.mk (below_step Hd.b_ hb); clear hb hbox hg) | ((with_reducible refine gate_dst (N := 3) rfl ?_); refine Hd.box_ 3 (#[.int .i64 a1_0, .int .i64 a1_1]) 27 ?_; intro gb189 hg w24 hbox hb; have BK189 := Aside0.mk (hbox); have GW189 := Aside0.mk ((Hd.g_ hg Hd.b_ : w.heap.size ≤ gb189)); have GE189 := Aside0.mk ((Hd.g_ hg Hd.b_ : w.heap.size ≤ gb189)); replace HB := Aside0.mk (below_step Hd.b_ hb); have NB188_189 := Aside0.mk ((Hd.lt_ BK188 hg)); have NB189_188 := Aside0.mk ((Hd.gt_ BK188 hg)); replace BK188 := Aside0.mk (Hd.kb_ BK188 hb); clear hb hbox hg; have hnb25 := NB188_189.out; have hnc25 := NB189_188.out; obtain ⟨hcz26_0, hcz26_1⟩ := Hd.c2_ BK188.out; obtain ⟨hfz26_0, hfz26_1⟩ := Hd.f2_ BK188.out) | (go_at_call 45; (with_reducible refine (impl_IsPoint.calls a0_0 a0_1 false _ A3.out).mono ?_); rintro e w27 ⟨rfl, hb⟩; replace BK188 := Aside0.mk (Hd.kb_ BK188 hb); replace BK189 := Aside0.mk (Hd.kb_ BK189 hb); replace HB := Aside0.mk (below_step Hd.b_ hb); (try clear hb); (try clear hb2); (try clear hk); (try clear hi)))
  repeat (go_quiet (first | ((with_reducible refine gate_dst (N := 2) rfl ?_); refine Hd.box_ 2 (#[.int .i64 a0_0, .int .i64 a0_1]) 27 ?_; intro gb188 hg w23 hbox hb; have BK188 := Aside0.mk (hbox); have GW188 := Aside0.mk ((Hd.g_ hg Hd.b_ : w.heap.size ≤ gb188)); have GE188 := Aside0.mk ((Hd.g_ hg Hd.b_ : w.heap.size ≤ gb188)); replace HB := Aside0.mk (below_step Hd.b_ hb); clear hb hbox hg) | ((with_reducible refine gate_dst (N := 3) rfl ?_); refine Hd.box_ 3 (#[.int .i64 a1_0, .int .i64 a1_1]) 27 ?_; intro gb189 hg w24 hbox hb; have BK189 := Aside0.mk (hbox); have GW189 := Aside0.mk ((Hd.g_ hg Hd.b_ : w.heap.size ≤ gb189)); have GE189 := Aside0.mk ((Hd.g_ hg Hd.b_ : w.heap.size ≤ gb189)); replace HB := Aside0.mk (below_step Hd.b_ hb); have NB188_189 := Aside0.mk ((Hd.lt_ BK188 hg)); have NB189_188 := Aside0.mk ((Hd.gt_ BK188 hg)); replace BK188 := Aside0.mk (Hd.kb_ BK188 hb); clear hb hbox hg; have hnb25 := NB188_189.out; have hnc25 := NB189_188.out; obtain ⟨hcz26_0, hcz26_1⟩ := Hd.c2_ BK188.out; obtain ⟨hfz26_0, hfz26_1⟩ := Hd.f2_ BK188.out) | (go_at_call 45; (with_reducible refine (impl_IsPoint.calls a0_0 a0_1 false _ A3.out).mono ?_); rintro e w27 ⟨rfl, hb⟩; replace BK188 := Aside0.mk (Hd.kb_ BK188 hb); replace BK189 := Aside0.mk (Hd.kb_ BK189 hb); replace HB := Aside0.mk (below_step Hd.b_ hb); (try clear hb); (try clear hb2); (try clear hk); (try clear hi))); try go_wp2_with (first | ((with_reducible refine gate_dst (N := 2) rfl ?_); refine Hd.box_ 2 (#[.int .i64 a0_0, .int .i64 a0_1]) 27 ?_; intro gb188 hg w23 hbox hb; have BK188 := Aside0.mk (hbox); have GW188 := Aside0.mk ((Hd.g_ hg Hd.b_ : w.heap.size ≤ gb188)); have GE188 := Aside0.mk ((Hd.g_ hg Hd.b_ : w.heap.size ≤ gb188)); replace HB := Aside0.mk (below_step Hd.b_ hb); clear hb hbox hg) | ((with_reducible refine gate_dst (N := 3) rfl ?_); refine Hd.box_ 3 (#[.int .i64 a1_0, .int .i64 a1_1]) 27 ?_; intro gb189 hg w24 hbox hb; have BK189 := Aside0.mk (hbox); have GW189 := Aside0.mk ((Hd.g_ hg Hd.b_ : w.heap.size ≤ gb189)); have GE189 := Aside0.mk ((Hd.g_ hg Hd.b_ : w.heap.size ≤ gb189)); replace HB := Aside0.mk (below_step Hd.b_ hb); have NB188_189 := Aside0.mk ((Hd.lt_ BK188 hg)); have NB189_188 := Aside0.mk ((Hd.gt_ BK188 hg)); replace BK188 := Aside0.mk (Hd.kb_ BK188 hb); clear hb hbox hg; have hnb25 := NB188_189.out; have hnc25 := NB189_188.out; obtain ⟨hcz26_0, hcz26_1⟩ := Hd.c2_ BK188.out; obtain ⟨hfz26_0, hfz26_1⟩ := Hd.f2_ BK188.out) | (go_at_call 45; (with_reducible refine (impl_IsPoint.calls a0_0 a0_1 false _ A3.out).mono ?_); rintro e w27 ⟨rfl, hb⟩; replace BK188 := Aside0.mk (Hd.kb_ BK188 hb); replace BK189 := Aside0.mk (Hd.kb_ BK189 hb); replace HB := Aside0.mk (below_step Hd.b_ hb); (try clear hb); (try clear hb2); (try clear hk); (try clear hi))))
  go_ret
  exact ⟨Hd.e_, Hd.b_⟩
def impl_cross.f (a0_0 : Int) (a0_1 : Int) (a1_0 : Int) (a1_1 : Int) (a2_0 : Int) (a2_1 : Int) : Option (Int) := some (wrap64 ((wrap64 ((wrap64 (a1_0 - a0_0)) * (wrap64 (a2_1 - a0_1)))) - (wrap64 ((wrap64 (a1_1 - a0_1)) * (wrap64 (a2_0 - a0_0))))))
set_option maxHeartbeats 8000000 in
set_option maxRecDepth 100000 in
theorem impl_cross.calls (a0_0 : Int) (a0_1 : Int) (a1_0 : Int) (a1_1 : Int) (a2_0 : Int) (a2_1 : Int) (r : Int) (w : World) (h : impl_cross.f a0_0 a0_1 a1_0 a1_1 a2_0 a2_1 = some r) :
  Calls Try.prog 109 #[.agg #[.int .i64 a0_0, .int .i64 a0_1], .agg #[.int .i64 a1_0, .int .i64 a1_1], .agg #[.int .i64 a2_0, .int .i64 a2_1]] w fun e w' => e = .returned (.int .i64 r) ∧ Below w.heap.size w w' := by
 have hu27 := Try.underlying27
 have HB := Aside0.mk (Below.refl w.heap.size w)
 have H : (some (wrap64 ((wrap64 ((wrap64 (a1_0 - a0_0)) * (wrap64 (a2_1 - a0_1)))) - (wrap64 ((wrap64 (a1_1 - a0_1)) * (wrap64 (a2_0 - a0_0))))))) = some r := h
 clear h
 obtain rfl := Option.some.inj H
 go_enter Try.func109, Try.ntmps109
 go_wp2_with (first | ((with_reducible refine gate_dst (N := 3) rfl ?_); refine Hd.box_ 3 (#[.int .i64 a0_0, .int .i64 a0_1]) 27 ?_; intro gb192 hg w4 hbox hb; have BK192 := Aside0.mk (hbox); have GW192 := Aside0.mk ((Hd.g_ hg Hd.b_ : w.heap.size ≤ gb192)); have GE192 := Aside0.mk ((Hd.g_ hg Hd.b_ : w.heap.size ≤ gb192)); replace HB := Aside0.mk (below_step Hd.b_ hb); clear hb hbox hg) | ((with_reducible refine gate_dst (N := 4) rfl ?_); refine Hd.box_ 4 (#[.int .i64 a1_0, .int .i64 a1_1]) 27 ?_; intro gb193 hg w5 hbox hb; have BK193 := Aside0.mk (hbox); have GW193 := Aside0.mk ((Hd.g_ hg Hd.b_ : w.heap.size ≤ gb193)); have GE193 := Aside0.mk ((Hd.g_ hg Hd.b_ : w.heap.size ≤ gb193)); replace HB := Aside0.mk (below_step Hd.b_ hb); have NB192_193 := Aside0.mk ((Hd.lt_ BK192 hg)); have NB193_192 := Aside0.mk ((Hd.gt_ BK192 hg)); replace BK192 := Aside0.mk (Hd.kb_ BK192 hb); clear hb hbox hg) | ((with_reducible refine gate_dst (N := 5) rfl ?_); refine Hd.box_ 5 (#[.int .i64 a2_0, .int .i64 a2_1]) 27 ?_; intro gb194 hg w6 hbox hb; have BK194 := Aside0.mk (hbox); have GW194 := Aside0.mk ((Hd.g_ hg Hd.b_ : w.heap.size ≤ gb194)); have GE194 := Aside0.mk ((Hd.g_ hg Hd.b_ : w.heap.size ≤ gb194)); replace HB := Aside0.mk (below_step Hd.b_ hb); have NB192_194 := Aside0.mk ((Hd.lt_ BK192 hg)); have NB194_192 := Aside0.mk ((Hd.gt_ BK192 hg)); replace BK192 := Aside0.mk (Hd.kb_ BK192 hb); have NB193_194 := Aside0.mk ((Hd.lt_ BK193 hg)); have NB194_193 := Aside0.mk ((Hd.gt_ BK193 hg)); replace BK193 := Aside0.mk (Hd.kb_ BK193 hb); clear hb hbox hg; have hnb7 := NB193_192.out; have hnc7 := NB192_193.out; have hnb8 := NB193_194.out; have hnc8 := NB194_193.out; obtain ⟨hcz9_0, hcz9_1⟩ := Hd.c2_ BK193.out; obtain ⟨hfz9_0, hfz9_1⟩ := Hd.f2_ BK193.out; have hnb10 := NB192_194.out; have hnc10 := NB194_192.out; obtain ⟨hcz11_0, hcz11_1⟩ := Hd.c2_ BK192.out; obtain ⟨hfz11_0, hfz11_1⟩ := Hd.f2_ BK192.out; obtain ⟨hcz12_0, hcz12_1⟩ := Hd.c2_ BK194.out; obtain ⟨hfz12_0, hfz12_1⟩ := Hd.f2_ BK194.out))
 go_ret
 exact ⟨Hd.e_, Hd.b_⟩
def impl_farness.f (a0_0 : Int) (a0_1 : Int) (a0_2 : Int) (a0_3 : Int) (a1_0 : Int) (a1_1 : Int) : Option (Int × Int) := (impl_FarSquared.f a0_0 a0_1 a0_2 a0_3).bind fun t197 => (if t197 = 0 then ((impl_FarSquared.f a0_0 a0_1 a1_0 a1_1).bind fun t198 => (some (t198, 1))) else (if (wrap64 ((wrap64 ((wrap64 (a1_0 - a0_0)) * (wrap64 (a0_2 - a0_0)))) + (wrap64 ((wrap64 (a1_1 - a0_1)) * (wrap64 (a0_3 - a0_1)))))) ≤ 0 then ((impl_FarSquared.f a0_0 a0_1 a1_0 a1_1).bind fun t199 => (some (wrap64 (t199 * t197), t197))) else (if (wrap64 ((wrap64 ((wrap64 (a1_0 - a0_0)) * (wrap64 (a0_2 - a0_0)))) + (wrap64 ((wrap64 (a1_1 - a0_1)) * (wrap64 (a0_3 - a0_1)))))) ≥ t197 then ((impl_FarSquared.f a0_2 a0_3 a1_0 a1_1).bind fun t200 => (some (wrap64 (t200 * t197), t197))) else ((impl_cross.f a0_0 a0_1 a0_2 a0_3 a1_0 a1_1).bind fun t201 => (some (wrap64 (t201 * t201), t197))))))
set_option maxHeartbeats 8000000 in
set_option maxRecDepth 100000 in
theorem impl_farness.calls (a0_0 : Int) (a0_1 : Int) (a0_2 : Int) (a0_3 : Int) (a1_0 : Int) (a1_1 : Int) (r1 : Int) (r2 : Int) (w : World) (h : impl_farness.f a0_0 a0_1 a0_2 a0_3 a1_0 a1_1 = some (r1, r2)) :
  Calls Try.prog 84 #[.agg #[.int .i64 a0_0, .int .i64 a0_1, .int .i64 a0_2, .int .i64 a0_3], .agg #[.int .i64 a1_0, .int .i64 a1_1]] w fun e w' => e = .returned (.tuple #[.int .i64 r1, .int .i64 r2]) ∧ Below w.heap.size w w' := by
 have hu53 := Try.underlying53
 have hu27 := Try.underlying27
 have HB := Aside0.mk (Below.refl w.heap.size w)
 have H : ((impl_FarSquared.f a0_0 a0_1 a0_2 a0_3).bind fun t197 => (if t197 = 0 then ((impl_FarSquared.f a0_0 a0_1 a1_0 a1_1).bind fun t198 => (some (t198, 1))) else (if (wrap64 ((wrap64 ((wrap64 (a1_0 - a0_0)) * (wrap64 (a0_2 - a0_0)))) + (wrap64 ((wrap64 (a1_1 - a0_1)) * (wrap64 (a0_3 - a0_1)))))) ≤ 0 then ((impl_FarSquared.f a0_0 a0_1 a1_0 a1_1).bind fun t199 => (some (wrap64 (t199 * t197), t197))) else (if (wrap64 ((wrap64 ((wrap64 (a1_0 - a0_0)) * (wrap64 (a0_2 - a0_0)))) + (wrap64 ((wrap64 (a1_1 - a0_1)) * (wrap64 (a0_3 - a0_1)))))) ≥ t197 then ((impl_FarSquared.f a0_2 a0_3 a1_0 a1_1).bind fun t200 => (some (wrap64 (t200 * t197), t197))) else ((impl_cross.f a0_0 a0_1 a0_2 a0_3 a1_0 a1_1).bind fun t201 => (some (wrap64 (t201 * t201), t197))))))) = some (r1, r2) := h
 clear h
 replace H := Option.bind_eq_some_iff.mp H
 obtain ⟨t197, A30, H⟩ := H
 replace H : (if t197 = 0 then ((impl_FarSquared.f a0_0 a0_1 a1_0 a1_1).bind fun t198 => (some (t198, 1))) else (if (wrap64 ((wrap64 ((wrap64 (a1_0 - a0_0)) * (wrap64 (a0_2 - a0_0)))) + (wrap64 ((wrap64 (a1_1 - a0_1)) * (wrap64 (a0_3 - a0_1)))))) ≤ 0 then ((impl_FarSquared.f a0_0 a0_1 a1_0 a1_1).bind fun t199 => (some (wrap64 (t199 * t197), t197))) else (if (wrap64 ((wrap64 ((wrap64 (a1_0 - a0_0)) * (wrap64 (a0_2 - a0_0)))) + (wrap64 ((wrap64 (a1_1 - a0_1)) * (wrap64 (a0_3 - a0_1)))))) ≥ t197 then ((impl_FarSquared.f a0_2 a0_3 a1_0 a1_1).bind fun t200 => (some (wrap64 (t200 * t197), t197))) else ((impl_cross.f a0_0 a0_1 a0_2 a0_3 a1_0 a1_1).bind fun t201 => (some (wrap64 (t201 * t201), t197)))))) = some (r1, r2) := H
 have A3 := Aside0.mk A30
 clear A30
 by_cases c4 : t197 = 0
 ·
  rw [if_pos c4] at H
  have c4b0 : (t197 == 0) = true := beq_iff_eq.mpr c4
  have c4b1 : (t197 != 0) = false := bne_eq_false_iff_eq.mpr c4
  clear c4
  replace H := Option.bind_eq_some_iff.mp H
  obtain ⟨t198, A50, H⟩ := H
  replace H : (some (t198, 1)) = some (r1, r2) := H
  have A5 := Aside0.mk A50
  clear A50
  simp only [Option.some.injEq, Prod.mk.injEq] at H
  obtain ⟨rfl, rfl⟩ := H
  go_enter Try.func84, Try.ntmps84
  go_wp2_with (first | ((with_reducible refine gate_dst (N := 2) rfl ?_); refine Hd.box_ 2 (#[.int .i64 a0_0, .int .i64 a0_1, .int .i64 a0_2, .int .i64 a0_3]) 53 ?_; intro gb195 hg w6 hbox hb; have BK195 := Aside0.mk (hbox); have GW195 := Aside0.mk ((Hd.g_ hg Hd.b_ : w.heap.size ≤ gb195)); have GE195 := Aside0.mk ((Hd.g_ hg Hd.b_ : w.heap.size ≤ gb195)); replace HB := Aside0.mk (below_step Hd.b_ hb); clear hb hbox hg) | ((with_reducible refine gate_dst (N := 3) rfl ?_); refine Hd.box_ 3 (#[.int .i64 a1_0, .int .i64 a1_1]) 27 ?_; intro gb196 hg w7 hbox hb; have BK196 := Aside0.mk (hbox); have GW196 := Aside0.mk ((Hd.g_ hg Hd.b_ : w.heap.size ≤ gb196)); have GE196 := Aside0.mk ((Hd.g_ hg Hd.b_ : w.heap.size ≤ gb196)); replace HB := Aside0.mk (below_step Hd.b_ hb); have NB195_196 := Aside0.mk ((Hd.lt_ BK195 hg)); have NB196_195 := Aside0.mk ((Hd.gt_ BK195 hg)); replace BK195 := Aside0.mk (Hd.kb_ BK195 hb); clear hb hbox hg; have hnb8 := NB195_196.out; have hnc8 := NB196_195.out; obtain ⟨hcz9_0, hcz9_1, hcz9_2, hcz9_3⟩ := Hd.c4_ BK195.out; obtain ⟨hfz9_0, hfz9_1, hfz9_2, hfz9_3⟩ := Hd.f4_ BK195.out) | ((with_reducible refine gate_callee (f := 108) rfl ?_); refine goesL_ (some 13) rfl rfl Try.func108 (by kernel_rfl) rfl #[.agg #[.int .i64 a0_0, .int .i64 a0_1], .agg #[.int .i64 a0_2, .int .i64 a0_3]] rfl Hd.m_ ?_; (with_reducible refine (impl_FarSquared.calls a0_0 a0_1 a0_2 a0_3 t197 _ A3.out).mono ?_); rintro e w10 ⟨rfl, hb⟩; refine ⟨_, rfl, ?_⟩; replace BK195 := Aside0.mk (Hd.kb_ BK195 hb); replace BK196 := Aside0.mk (Hd.kb_ BK196 hb); replace HB := Aside0.mk (below_step Hd.b_ hb); (try clear hb); (try clear hb2); (try clear hk); (try clear hi); obtain ⟨hcz11_0, hcz11_1, hcz11_2, hcz11_3⟩ := Hd.c4_ BK195.out; obtain ⟨hfz11_0, hfz11_1, hfz11_2, hfz11_3⟩ := Hd.f4_ BK195.out; obtain ⟨hcz12_0, hcz12_1⟩ := Hd.c2_ BK196.out; obtain ⟨hfz12_0, hfz12_1⟩ := Hd.f2_ BK196.out) | ((with_reducible refine gate_callee (f := 108) rfl ?_); refine goesL_ (some 19) rfl rfl Try.func108 (by kernel_rfl) rfl #[.agg #[.int .i64 a0_0, .int .i64 a0_1], .agg #[.int .i64 a1_0, .int .i64 a1_1]] rfl Hd.m_ ?_; (with_reducible refine (impl_FarSquared.calls a0_0 a0_1 a1_0 a1_1 t198 _ A5.out).mono ?_); rintro e w13 ⟨rfl, hb⟩; refine ⟨_, rfl, ?_⟩; replace BK195 := Aside0.mk (Hd.kb_ BK195 hb); replace BK196 := Aside0.mk (Hd.kb_ BK196 hb); replace HB := Aside0.mk (below_step Hd.b_ hb); (try clear hb); (try clear hb2); (try clear hk); (try clear hi)))
  go_ret2
  exact ⟨Hd.e_, Hd.b_⟩
 ·
  rw [if_neg c4] at H
  have c4b0 : (t197 == 0) = false := beq_eq_false_iff_ne.mpr c4
  have c4b1 : (t197 != 0) = true := bne_iff_ne.mpr c4
  by_cases c14 : (wrap64 ((wrap64 ((wrap64 (a1_0 - a0_0)) * (wrap64 (a0_2 - a0_0)))) + (wrap64 ((wrap64 (a1_1 - a0_1)) * (wrap64 (a0_3 - a0_1)))))) ≤ 0
  ·
   rw [if_pos c14] at H
   have c14b0 : decide ((wrap64 ((wrap64 ((wrap64 (a1_0 - a0_0)) * (wrap64 (a0_2 - a0_0)))) + (wrap64 ((wrap64 (a1_1 - a0_1)) * (wrap64 (a0_3 - a0_1)))))) ≤ 0) = true := decide_eq_true c14
   clear c14
   replace H := Option.bind_eq_some_iff.mp H
   obtain ⟨t199, A150, H⟩ := H
   replace H : (some (wrap64 (t199 * t197), t197)) = some (r1, r2) := H
   have A15 := Aside0.mk A150
   clear A150
   simp only [Option.some.injEq, Prod.mk.injEq] at H
   obtain ⟨rfl, rfl⟩ := H
   go_enter Try.func84, Try.ntmps84
   go_wp2_with (first | ((with_reducible refine gate_dst (N := 2) rfl ?_); refine Hd.box_ 2 (#[.int .i64 a0_0, .int .i64 a0_1, .int .i64 a0_2, .int .i64 a0_3]) 53 ?_; intro gb195 hg w16 hbox hb; have BK195 := Aside0.mk (hbox); have GW195 := Aside0.mk ((Hd.g_ hg Hd.b_ : w.heap.size ≤ gb195)); have GE195 := Aside0.mk ((Hd.g_ hg Hd.b_ : w.heap.size ≤ gb195)); replace HB := Aside0.mk (below_step Hd.b_ hb); clear hb hbox hg) | ((with_reducible refine gate_dst (N := 3) rfl ?_); refine Hd.box_ 3 (#[.int .i64 a1_0, .int .i64 a1_1]) 27 ?_; intro gb196 hg w17 hbox hb; have BK196 := Aside0.mk (hbox); have GW196 := Aside0.mk ((Hd.g_ hg Hd.b_ : w.heap.size ≤ gb196)); have GE196 := Aside0.mk ((Hd.g_ hg Hd.b_ : w.heap.size ≤ gb196)); replace HB := Aside0.mk (below_step Hd.b_ hb); have NB195_196 := Aside0.mk ((Hd.lt_ BK195 hg)); have NB196_195 := Aside0.mk ((Hd.gt_ BK195 hg)); replace BK195 := Aside0.mk (Hd.kb_ BK195 hb); clear hb hbox hg; have hnb18 := NB195_196.out; have hnc18 := NB196_195.out; obtain ⟨hcz19_0, hcz19_1, hcz19_2, hcz19_3⟩ := Hd.c4_ BK195.out; obtain ⟨hfz19_0, hfz19_1, hfz19_2, hfz19_3⟩ := Hd.f4_ BK195.out) | ((with_reducible refine gate_callee (f := 108) rfl ?_); refine goesL_ (some 13) rfl rfl Try.func108 (by kernel_rfl) rfl #[.agg #[.int .i64 a0_0, .int .i64 a0_1], .agg #[.int .i64 a0_2, .int .i64 a0_3]] rfl Hd.m_ ?_; (with_reducible refine (impl_FarSquared.calls a0_0 a0_1 a0_2 a0_3 t197 _ A3.out).mono ?_); rintro e w20 ⟨rfl, hb⟩; refine ⟨_, rfl, ?_⟩; replace BK195 := Aside0.mk (Hd.kb_ BK195 hb); replace BK196 := Aside0.mk (Hd.kb_ BK196 hb); replace HB := Aside0.mk (below_step Hd.b_ hb); (try clear hb); (try clear hb2); (try clear hk); (try clear hi); obtain ⟨hcz21_0, hcz21_1⟩ := Hd.c2_ BK196.out; obtain ⟨hfz21_0, hfz21_1⟩ := Hd.f2_ BK196.out; obtain ⟨hcz22_0, hcz22_1, hcz22_2, hcz22_3⟩ := Hd.c4_ BK195.out; obtain ⟨hfz22_0, hfz22_1, hfz22_2, hfz22_3⟩ := Hd.f4_ BK195.out) | ((with_reducible refine gate_callee (f := 108) rfl ?_); refine goesL_ (some 55) rfl rfl Try.func108 (by kernel_rfl) rfl #[.agg #[.int .i64 a0_0, .int .i64 a0_1], .agg #[.int .i64 a1_0, .int .i64 a1_1]] rfl Hd.m_ ?_; (with_reducible refine (impl_FarSquared.calls a0_0 a0_1 a1_0 a1_1 t199 _ A15.out).mono ?_); rintro e w23 ⟨rfl, hb⟩; refine ⟨_, rfl, ?_⟩; replace BK195 := Aside0.mk (Hd.kb_ BK195 hb); replace BK196 := Aside0.mk (Hd.kb_ BK196 hb); replace HB := Aside0.mk (below_step Hd.b_ hb); (try clear hb); (try clear hb2); (try clear hk); (try clear hi)))
   go_ret2
   exact ⟨Hd.e_, Hd.b_⟩
  ·
   rw [if_neg c14] at H
   have c14b0 : decide ((wrap64 ((wrap64 ((wrap64 (a1_0 - a0_0)) * (wrap64 (a0_2 - a0_0)))) + (wrap64 ((wrap64 (a1_1 - a0_1)) * (wrap64 (a0_3 - a0_1)))))) ≤ 0) = false := decide_eq_false c14
   clear c14
   by_cases c24 : (wrap64 ((wrap64 ((wrap64 (a1_0 - a0_0)) * (wrap64 (a0_2 - a0_0)))) + (wrap64 ((wrap64 (a1_1 - a0_1)) * (wrap64 (a0_3 - a0_1)))))) ≥ t197
   ·
    rw [if_pos c24] at H
    have c24b0 : decide (t197 ≤ (wrap64 ((wrap64 ((wrap64 (a1_0 - a0_0)) * (wrap64 (a0_2 - a0_0)))) + (wrap64 ((wrap64 (a1_1 - a0_1)) * (wrap64 (a0_3 - a0_1))))))) = true := decide_eq_true c24
    clear c24
    replace H := Option.bind_eq_some_iff.mp H
    obtain ⟨t200, A250, H⟩ := H
    replace H : (some (wrap64 (t200 * t197), t197)) = some (r1, r2) := H
    have A25 := Aside0.mk A250
    clear A250
    simp only [Option.some.injEq, Prod.mk.injEq] at H
    obtain ⟨rfl, rfl⟩ := H
    go_enter Try.func84, Try.ntmps84
    go_wp2_with (first | ((with_reducible refine gate_dst (N := 2) rfl ?_); refine Hd.box_ 2 (#[.int .i64 a0_0, .int .i64 a0_1, .int .i64 a0_2, .int .i64 a0_3]) 53 ?_; intro gb195 hg w26 hbox hb; have BK195 := Aside0.mk (hbox); have GW195 := Aside0.mk ((Hd.g_ hg Hd.b_ : w.heap.size ≤ gb195)); have GE195 := Aside0.mk ((Hd.g_ hg Hd.b_ : w.heap.size ≤ gb195)); replace HB := Aside0.mk (below_step Hd.b_ hb); clear hb hbox hg) | ((with_reducible refine gate_dst (N := 3) rfl ?_); refine Hd.box_ 3 (#[.int .i64 a1_0, .int .i64 a1_1]) 27 ?_; intro gb196 hg w27 hbox hb; have BK196 := Aside0.mk (hbox); have GW196 := Aside0.mk ((Hd.g_ hg Hd.b_ : w.heap.size ≤ gb196)); have GE196 := Aside0.mk ((Hd.g_ hg Hd.b_ : w.heap.size ≤ gb196)); replace HB := Aside0.mk (below_step Hd.b_ hb); have NB195_196 := Aside0.mk ((Hd.lt_ BK195 hg)); have NB196_195 := Aside0.mk ((Hd.gt_ BK195 hg)); replace BK195 := Aside0.mk (Hd.kb_ BK195 hb); clear hb hbox hg; have hnb28 := NB195_196.out; have hnc28 := NB196_195.out; obtain ⟨hcz29_0, hcz29_1, hcz29_2, hcz29_3⟩ := Hd.c4_ BK195.out; obtain ⟨hfz29_0, hfz29_1, hfz29_2, hfz29_3⟩ := Hd.f4_ BK195.out) | ((with_reducible refine gate_callee (f := 108) rfl ?_); refine goesL_ (some 13) rfl rfl Try.func108 (by kernel_rfl) rfl #[.agg #[.int .i64 a0_0, .int .i64 a0_1], .agg #[.int .i64 a0_2, .int .i64 a0_3]] rfl Hd.m_ ?_; (with_reducible refine (impl_FarSquared.calls a0_0 a0_1 a0_2 a0_3 t197 _ A3.out).mono ?_); rintro e w30 ⟨rfl, hb⟩; refine ⟨_, rfl, ?_⟩; replace BK195 := Aside0.mk (Hd.kb_ BK195 hb); replace BK196 := Aside0.mk (Hd.kb_ BK196 hb); replace HB := Aside0.mk (below_step Hd.b_ hb); (try clear hb); (try clear hb2); (try clear hk); (try clear hi); obtain ⟨hcz31_0, hcz31_1⟩ := Hd.c2_ BK196.out; obtain ⟨hfz31_0, hfz31_1⟩ := Hd.f2_ BK196.out; obtain ⟨hcz32_0, hcz32_1, hcz32_2, hcz32_3⟩ := Hd.c4_ BK195.out; obtain ⟨hfz32_0, hfz32_1, hfz32_2, hfz32_3⟩ := Hd.f4_ BK195.out) | ((with_reducible refine gate_callee (f := 108) rfl ?_); refine goesL_ (some 66) rfl rfl Try.func108 (by kernel_rfl) rfl #[.agg #[.int .i64 a0_2, .int .i64 a0_3], .agg #[.int .i64 a1_0, .int .i64 a1_1]] rfl Hd.m_ ?_; (with_reducible refine (impl_FarSquared.calls a0_2 a0_3 a1_0 a1_1 t200 _ A25.out).mono ?_); rintro e w33 ⟨rfl, hb⟩; refine ⟨_, rfl, ?_⟩; replace BK195 := Aside0.mk (Hd.kb_ BK195 hb); replace BK196 := Aside0.mk (Hd.kb_ BK196 hb); replace HB := Aside0.mk (below_step Hd.b_ hb); (try clear hb); (try clear hb2); (try clear hk); (try clear hi)))
    go_ret2
    exact ⟨Hd.e_, Hd.b_⟩
   ·
    rw [if_neg c24] at H
    have c24b0 : decide (t197 ≤ (wrap64 ((wrap64 ((wrap64 (a1_0 - a0_0)) * (wrap64 (a0_2 - a0_0)))) + (wrap64 ((wrap64 (a1_1 - a0_1)) * (wrap64 (a0_3 - a0_1))))))) = false := decide_eq_false c24
    clear c24
    replace H := Option.bind_eq_some_iff.mp H
    obtain ⟨t201, A340, H⟩ := H
    replace H : (some (wrap64 (t201 * t201), t197)) = some (r1, r2) := H
    have A34 := Aside0.mk A340
    clear A340
    simp only [Option.some.injEq, Prod.mk.injEq] at H
    obtain ⟨rfl, rfl⟩ := H
    go_enter Try.func84, Try.ntmps84
    go_wp2_with (first | ((with_reducible refine gate_dst (N := 2) rfl ?_); refine Hd.box_ 2 (#[.int .i64 a0_0, .int .i64 a0_1, .int .i64 a0_2, .int .i64 a0_3]) 53 ?_; intro gb195 hg w35 hbox hb; have BK195 := Aside0.mk (hbox); have GW195 := Aside0.mk ((Hd.g_ hg Hd.b_ : w.heap.size ≤ gb195)); have GE195 := Aside0.mk ((Hd.g_ hg Hd.b_ : w.heap.size ≤ gb195)); replace HB := Aside0.mk (below_step Hd.b_ hb); clear hb hbox hg) | ((with_reducible refine gate_dst (N := 3) rfl ?_); refine Hd.box_ 3 (#[.int .i64 a1_0, .int .i64 a1_1]) 27 ?_; intro gb196 hg w36 hbox hb; have BK196 := Aside0.mk (hbox); have GW196 := Aside0.mk ((Hd.g_ hg Hd.b_ : w.heap.size ≤ gb196)); have GE196 := Aside0.mk ((Hd.g_ hg Hd.b_ : w.heap.size ≤ gb196)); replace HB := Aside0.mk (below_step Hd.b_ hb); have NB195_196 := Aside0.mk ((Hd.lt_ BK195 hg)); have NB196_195 := Aside0.mk ((Hd.gt_ BK195 hg)); replace BK195 := Aside0.mk (Hd.kb_ BK195 hb); clear hb hbox hg; have hnb37 := NB195_196.out; have hnc37 := NB196_195.out; obtain ⟨hcz38_0, hcz38_1, hcz38_2, hcz38_3⟩ := Hd.c4_ BK195.out; obtain ⟨hfz38_0, hfz38_1, hfz38_2, hfz38_3⟩ := Hd.f4_ BK195.out) | ((with_reducible refine gate_callee (f := 108) rfl ?_); refine goesL_ (some 13) rfl rfl Try.func108 (by kernel_rfl) rfl #[.agg #[.int .i64 a0_0, .int .i64 a0_1], .agg #[.int .i64 a0_2, .int .i64 a0_3]] rfl Hd.m_ ?_; (with_reducible refine (impl_FarSquared.calls a0_0 a0_1 a0_2 a0_3 t197 _ A3.out).mono ?_); rintro e w39 ⟨rfl, hb⟩; refine ⟨_, rfl, ?_⟩; replace BK195 := Aside0.mk (Hd.kb_ BK195 hb); replace BK196 := Aside0.mk (Hd.kb_ BK196 hb); replace HB := Aside0.mk (below_step Hd.b_ hb); (try clear hb); (try clear hb2); (try clear hk); (try clear hi); obtain ⟨hcz40_0, hcz40_1⟩ := Hd.c2_ BK196.out; obtain ⟨hfz40_0, hfz40_1⟩ := Hd.f2_ BK196.out; obtain ⟨hcz41_0, hcz41_1, hcz41_2, hcz41_3⟩ := Hd.c4_ BK195.out; obtain ⟨hfz41_0, hfz41_1, hfz41_2, hfz41_3⟩ := Hd.f4_ BK195.out) | ((with_reducible refine gate_callee (f := 109) rfl ?_); refine goesL_ (some 75) rfl rfl Try.func109 (by kernel_rfl) rfl #[.agg #[.int .i64 a0_0, .int .i64 a0_1], .agg #[.int .i64 a0_2, .int .i64 a0_3], .agg #[.int .i64 a1_0, .int .i64 a1_1]] rfl Hd.m_ ?_; (with_reducible refine (impl_cross.calls a0_0 a0_1 a0_2 a0_3 a1_0 a1_1 t201 _ A34.out).mono ?_); rintro e w42 ⟨rfl, hb⟩; refine ⟨_, rfl, ?_⟩; replace BK195 := Aside0.mk (Hd.kb_ BK195 hb); replace BK196 := Aside0.mk (Hd.kb_ BK196 hb); replace HB := Aside0.mk (below_step Hd.b_ hb); (try clear hb); (try clear hb2); (try clear hk); (try clear hi)))
    go_ret2
    exact ⟨Hd.e_, Hd.b_⟩
end Go.Proofs.Ytbackoeakepngaa.MFnExactCountLeftOut
