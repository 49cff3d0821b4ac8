-- Laid by this session's program pp.py, after the kit's print and texts of the session's own. Not trusted: Lean checks it.
import Derived.Test.YtbackoeakepngaaZFnAreasMx0
import Derived.Test.YtbackoeakepngaaZFnAreasMx1
import Derived.Test.YtbackoeakepngaaZFnAreasMx2
namespace Go.Proofs.Ytbackoeakepngaa.MFnAreas
open Go.RowKit Go.Proofs.YtbackoeakepngaaW.PrintWords Go.Proofs.YtbackoeakepngaaW.PrintLast Go.Proofs.YtbackoeakepngaaW.PrintMore
attribute [local go_sem] max2_int min2_int max_two min_two max_three min_three max_four min_four   -- for this text's walks alone
set_option linter.unusedVariables false
set_option linter.unusedSimpArgs false
attribute [local go_sem high] eqA27
def impl_TurnRing.f (l0 : List S27) : Option (List S27) := (impl_Point_76.f l0).bind fun l => some (l.take 1 ++ (l.drop 1).reverse)
instance impl_TurnRing.inh : Inhabited S27 := ⟨z27⟩
def impl_TurnRing.enc (x : S27) : List Value := [.int .i64 x.f0, .int .i64 x.f1]
def impl_TurnRing.ren : Go.Shelf.Ren := ⟨fun | 35 => 86 | n => n, fun | 22 => 24 | 23 => 27 | 3 => 3 | 4 => 4 | 0 => 0 | n => n, fun | n => n⟩
theorem impl_TurnRing.lay : Go.Proofs.SlLaysE0.n35 Try.prog impl_TurnRing.ren := {
  mixed := by kernel_rfl
  f35 := ⟨Try.f86.name, by decide, Try.func86.trans (congrArg some (by kernel_rfl))⟩
  t0 := Try.underlying0
  a0 := Try.isAgg0
  z0 := Try.sizeOf0
  v0 := Try.zeroValue0
  t3 := Try.underlying3
  a3 := Try.isAgg3
  z3 := Try.sizeOf3
  v3 := Try.zeroValue3
  t4 := Try.underlying4
  a4 := Try.isAgg4
  z4 := Try.sizeOf4
  v4 := Try.zeroValue4
  t22 := Try.underlying24
  a22 := Try.isAgg24
  z22 := Try.sizeOf24
  v22 := Try.zeroValue24 }
theorem impl_TurnRing.rev (g n c : Nat) (l : List S27) (base : Nat) (w1 : World) (h1 : 1 < l.length) (hn : l.length ≤ 9223372036854775807) (hR : Kd.R k27 27 w1 base (fun _ => True) (.slice (some ⟨g, 0, none⟩) l.length c) l) :
    Calls Try.prog 86 #[.slice (some ⟨g, 2, none⟩) (l.length - 1) (c - 1)] w1 fun e w' => e = .returned (.tuple #[]) ∧ Kd.R k27 27 w' base (fun _ => True) (.slice (some ⟨g, 0, none⟩) l.length c) (l.take 1 ++ (l.drop 1).reverse) ∧ ∀ w0, ∀ B, Below B w0 w1 → B ≤ g → Below B w0 w' := by
  have hk : ∀ x, (impl_TurnRing.enc x).length = k27.sz := fun _ => rfl
  have hM : ∀ {w base ok x cs}, k27.M w base ok x cs → cs = impl_TurnRing.enc x := fun h => k27_openM h
  have hH := Rw.holds hk hM hR 1 (by omega)
  have hcon := AnyQ.slices_Reverse impl_TurnRing.lay k27.sz Try.isAgg27 Try.sizeOf27 impl_TurnRing.enc hk (fun x v hv => by simp [impl_TurnRing.enc] at hv; rcases hv with rfl | rfl <;> rfl) g (1 * k27.sz) (c - 1) (l.drop 1).toArray w1 hH (by simp; omega)
  have es : (l.drop 1).toArray.size = l.length - 1 := by simp
  rw [es] at hcon
  refine Calls.mono (show Calls Try.prog 86 #[.slice (some ⟨g, 2, none⟩) (l.length - 1) (c - 1)] w1 _ from hcon) ?_
  rintro e w2 ⟨rfl, m, rfl⟩
  have er : (l.drop 1).toArray.reverse = (l.drop 1).reverse.toArray := by simp
  rw [er]
  exact ⟨rfl, Rw.put hk hM (fun {w base ok x} => k27_mkM w base ok x) hR 1 (l.drop 1).reverse (by simp; omega) m, fun w0 B hb hB => Rw.below_put hb hB m _ _ _⟩
set_option maxHeartbeats 8000000 in
set_option maxRecDepth 100000 in
theorem impl_TurnRing.calls (A0 : Option Addr) (c0 : Nat) (l0 : List S27) (r : List S27) (w : World) (hr0 : Kd.C k27 w A0 l0.length l0) (hc0 : l0.length ≤ c0) (h : impl_TurnRing.f l0 = some r) :
    Calls Try.prog 38 #[.slice A0 l0.length c0] w fun e w' => ∃ v0_ : Value, e = .returned (v0_) ∧ Kd.R k27 27 w' w.heap.size (fun _ => True) v0_ r ∧ Below w.heap.size w w' := by
  unfold impl_TurnRing.f at h
  obtain ⟨l, hl, h⟩ := Option.bind_eq_some_iff.1 h
  obtain rfl := Option.some.inj h
  have hu24 := Try.underlying24
  obtain ⟨i0, hi, hzz⟩ := Option.map_eq_some_iff.1 info27
  simp only [Prod.mk.injEq] at hzz
  obtain ⟨hz0, hz1, hz2⟩ := hzz
  have HL := Aside0.mk hl
  have HR := Aside0.mk hr0
  have HC := Aside0.mk hc0
  clear h hl hr0 hc0
  by_cases h1 : 1 < l.length
  · have H1 := Aside0.mk h1
    have b1 : decide ((l.length : Int) > 1) = true := decide_eq_true (by omega)
    have b2 : decide (1 < (l.length : Int)) = true := decide_eq_true (by omega)
    clear h1
    go_enter Try.func38, Try.ntmps38
    go_wp2_with (first | (go_at_call 76; (with_reducible refine (impl_Point_76.calls A0 c0 l0 l w HR.out HC.out HL.out).mono ?_); rintro e w1 ⟨v0, rfl, hR, hb⟩; obtain ⟨g, c1, he, hg, hgl, _⟩ := Kd.R_form hR (by have := H1.out; omega); subst he; have hle := (Kd.R_reads' hR).2.1; have hle2 := (Kd.R_reads' hR).2.2.2.1; have hcut : ∀ W : World, (Instr.slice 24 (.slice (some ⟨g, 0, none⟩) l.length c1) (some (.int .i64 1)) none none).run Try.prog W = .ok (.slice (some ⟨g, 2, none⟩) (l.length - 1) (c1 - 1)) W := (fun W => by have h_ := cut_from (P := Try.prog) 24 27 .i64 hu24 hi 2 hz1 (some ⟨g, 0, none⟩) l.length c1 1 (by omega) (by have := H1.out; omega) W; rw [if_neg (by have := H1.out; have : (1 : Int).toNat = 1 := rfl; omega)] at h_; exact h_); have hrev := impl_TurnRing.rev g l.length c1 l _ w1 H1.out hle2 hR; have HG := Aside0.mk hg; have HB := Aside0.mk hb; clear hg hgl hb hR hle hle2) | (go_at_call 86; (with_reducible refine hrev.mono ?_); rintro e w2 ⟨rfl, hR2, hb2⟩))
    go_ret
    exact ⟨_, rfl, hR2, hb2 _ _ HB.out HG.out⟩
  · have H1 := Aside0.mk h1
    have b1 : decide ((l.length : Int) > 1) = false := decide_eq_false (by omega)
    have b2 : decide (1 < (l.length : Int)) = false := decide_eq_false (by omega)
    clear h1
    have er : l.take 1 ++ (l.drop 1).reverse = l := by
      have := H1.out
      rcases l with _ | ⟨x, l⟩
      · rfl
      · have : l = [] := List.length_eq_zero_iff.1 (by simp only [List.length_cons] at this; omega)
        subst this; rfl
    rw [er]
    go_enter Try.func38, Try.ntmps38
    go_wp2_with (first | (go_at_call 76; (with_reducible refine (impl_Point_76.calls A0 c0 l0 l w HR.out HC.out HL.out).mono ?_); rintro e w1 ⟨v0, rfl, hR, hb⟩; obtain ⟨A1, c1, rfl⟩ := Kd.R_slice hR))
    go_ret
    exact ⟨_, rfl, hR, hb⟩
def impl_IsSegment.f (a0_0 : Int) (a0_1 : Int) (a0_2 : Int) (a0_3 : Int) : Option (Bool) := (impl_IsPoint.f a0_0 a0_1).bind fun t129 => (if t129 = true then ((impl_IsPoint.f a0_2 a0_3).bind fun t130 => (if t130 = true then (some (!(a0_0 == a0_2) || (!(a0_1 == a0_3)))) else (some false))) else (some false))
set_option maxHeartbeats 8000000 in
set_option maxRecDepth 100000 in
theorem impl_IsSegment.calls (a0_0 : Int) (a0_1 : Int) (a0_2 : Int) (a0_3 : Int) (r : Bool) (w : World) (h : impl_IsSegment.f a0_0 a0_1 a0_2 a0_3 = some r) :
  Calls Try.prog 83 #[.agg #[.int .i64 a0_0, .int .i64 a0_1, .int .i64 a0_2, .int .i64 a0_3]] w fun e w' => e = .returned (.bool r) ∧ Below w.heap.size w w' := by
 have hu53 := Try.underlying53
 have hu27 := Try.underlying27
 have HB := Aside0.mk (Below.refl w.heap.size w)
 have H : ((impl_IsPoint.f a0_0 a0_1).bind fun t129 => (if t129 = true then ((impl_IsPoint.f a0_2 a0_3).bind fun t130 => (if t130 = true then (some (!(a0_0 == a0_2) || (!(a0_1 == a0_3)))) else (some false))) else (some false))) = some r := h
 clear h
 replace H := Option.bind_eq_some_iff.mp H
 obtain ⟨t129, A20, H⟩ := H
 replace H : (if t129 = true then ((impl_IsPoint.f a0_2 a0_3).bind fun t130 => (if t130 = true then (some (!(a0_0 == a0_2) || (!(a0_1 == a0_3)))) else (some false))) else (some false)) = some r := H
 have A2 := Aside0.mk A20
 clear A20
 by_cases c3 : t129 = true
 ·
  subst c3
  have H1 : ((impl_IsPoint.f a0_2 a0_3).bind fun t130 => (if t130 = true then (some (!(a0_0 == a0_2) || (!(a0_1 == a0_3)))) else (some false))) = some r := by rw [if_pos rfl] at H; exact H
  clear H
  have H := H1
  clear H1
  replace H := Option.bind_eq_some_iff.mp H
  obtain ⟨t130, A40, H⟩ := H
  replace H : (if t130 = true then (some (!(a0_0 == a0_2) || (!(a0_1 == a0_3)))) else (some false)) = some r := H
  have A4 := Aside0.mk A40
  clear A40
  by_cases c5 : t130 = true
  ·
   subst c5
   have H1 : (some (!(a0_0 == a0_2) || (!(a0_1 == a0_3)))) = some r := by rw [if_pos rfl] at H; exact H
   clear H
   have H := H1
   clear H1
   obtain rfl := Option.some.inj H
   go_enter Try.func83, Try.ntmps83
   go_wp2_with (first | ((with_reducible refine gate_dst (N := 1) rfl ?_); refine Hd.box_ 1 (#[.int .i64 a0_0, .int .i64 a0_1, .int .i64 a0_2, .int .i64 a0_3]) 53 ?_; intro gb128 hg w6 hbox hb; have BK128 := Aside0.mk (hbox); have GW128 := Aside0.mk ((Hd.g_ hg Hd.b_ : w.heap.size ≤ gb128)); have GE128 := Aside0.mk ((Hd.g_ hg Hd.b_ : w.heap.size ≤ gb128)); replace HB := Aside0.mk (below_step Hd.b_ hb); clear hb hbox hg; obtain ⟨hcz7_0, hcz7_1, hcz7_2, hcz7_3⟩ := Hd.c4_ BK128.out; obtain ⟨hfz7_0, hfz7_1, hfz7_2, hfz7_3⟩ := Hd.f4_ BK128.out) | ((with_reducible refine gate_callee (f := 45) rfl ?_); refine goesL_ (some 5) rfl rfl Try.func45 (by kernel_rfl) rfl #[.agg #[.int .i64 a0_0, .int .i64 a0_1]] rfl Hd.m_ ?_; (with_reducible refine (impl_IsPoint.calls a0_0 a0_1 true _ A2.out).mono ?_); rintro e w8 ⟨rfl, hb⟩; refine ⟨_, rfl, ?_⟩; replace BK128 := Aside0.mk (Hd.kb_ BK128 hb); replace HB := Aside0.mk (below_step Hd.b_ hb); (try clear hb); (try clear hb2); (try clear hk); (try clear hi); obtain ⟨hcz9_0, hcz9_1, hcz9_2, hcz9_3⟩ := Hd.c4_ BK128.out; obtain ⟨hfz9_0, hfz9_1, hfz9_2, hfz9_3⟩ := Hd.f4_ BK128.out) | (go_at_call 45; (with_reducible refine (impl_IsPoint.calls a0_2 a0_3 true _ A4.out).mono ?_); rintro e w10 ⟨rfl, hb⟩; replace BK128 := Aside0.mk (Hd.kb_ BK128 hb); replace HB := Aside0.mk (below_step Hd.b_ hb); (try clear hb); (try clear hb2); (try clear hk); (try clear hi); obtain ⟨hcz11_0, hcz11_1, hcz11_2, hcz11_3⟩ := Hd.c4_ BK128.out; obtain ⟨hfz11_0, hfz11_1, hfz11_2, hfz11_3⟩ := Hd.f4_ BK128.out))
   go_ret
   exact ⟨Hd.e_, Hd.b_⟩
  ·
   replace c5 := Bool.eq_false_iff.mpr c5
   subst c5
   have H1 : (some false) = some r := by rw [if_neg (show ¬ (false = true) by decide)] at H; exact H
   clear H
   have H := H1
   clear H1
   obtain rfl := Option.some.inj H
   go_enter Try.func83, Try.ntmps83
   go_wp2_with (first | ((with_reducible refine gate_dst (N := 1) rfl ?_); refine Hd.box_ 1 (#[.int .i64 a0_0, .int .i64 a0_1, .int .i64 a0_2, .int .i64 a0_3]) 53 ?_; intro gb128 hg w12 hbox hb; have BK128 := Aside0.mk (hbox); have GW128 := Aside0.mk ((Hd.g_ hg Hd.b_ : w.heap.size ≤ gb128)); have GE128 := Aside0.mk ((Hd.g_ hg Hd.b_ : w.heap.size ≤ gb128)); replace HB := Aside0.mk (below_step Hd.b_ hb); clear hb hbox hg; obtain ⟨hcz13_0, hcz13_1, hcz13_2, hcz13_3⟩ := Hd.c4_ BK128.out; obtain ⟨hfz13_0, hfz13_1, hfz13_2, hfz13_3⟩ := Hd.f4_ BK128.out) | ((with_reducible refine gate_callee (f := 45) rfl ?_); refine goesL_ (some 5) rfl rfl Try.func45 (by kernel_rfl) rfl #[.agg #[.int .i64 a0_0, .int .i64 a0_1]] rfl Hd.m_ ?_; (with_reducible refine (impl_IsPoint.calls a0_0 a0_1 true _ A2.out).mono ?_); rintro e w14 ⟨rfl, hb⟩; refine ⟨_, rfl, ?_⟩; replace BK128 := Aside0.mk (Hd.kb_ BK128 hb); replace HB := Aside0.mk (below_step Hd.b_ hb); (try clear hb); (try clear hb2); (try clear hk); (try clear hi); obtain ⟨hcz15_0, hcz15_1, hcz15_2, hcz15_3⟩ := Hd.c4_ BK128.out; obtain ⟨hfz15_0, hfz15_1, hfz15_2, hfz15_3⟩ := Hd.f4_ BK128.out) | (go_at_call 45; (with_reducible refine (impl_IsPoint.calls a0_2 a0_3 false _ A4.out).mono ?_); rintro e w16 ⟨rfl, hb⟩; replace BK128 := Aside0.mk (Hd.kb_ BK128 hb); replace HB := Aside0.mk (below_step Hd.b_ hb); (try clear hb); (try clear hb2); (try clear hk); (try clear hi)))
   go_ret
   exact ⟨Hd.e_, Hd.b_⟩
 ·
  replace c3 := Bool.eq_false_iff.mpr c3
  subst c3
  have H1 : (some false) = some r := by rw [if_neg (show ¬ (false = true) by decide)] at H; exact H
  clear H
  have H := H1
  clear H1
  obtain rfl := Option.some.inj H
  go_enter Try.func83, Try.ntmps83
  go_wp2_with (first | ((with_reducible refine gate_dst (N := 1) rfl ?_); refine Hd.box_ 1 (#[.int .i64 a0_0, .int .i64 a0_1, .int .i64 a0_2, .int .i64 a0_3]) 53 ?_; intro gb128 hg w17 hbox hb; have BK128 := Aside0.mk (hbox); have GW128 := Aside0.mk ((Hd.g_ hg Hd.b_ : w.heap.size ≤ gb128)); have GE128 := Aside0.mk ((Hd.g_ hg Hd.b_ : w.heap.size ≤ gb128)); replace HB := Aside0.mk (below_step Hd.b_ hb); clear hb hbox hg; obtain ⟨hcz18_0, hcz18_1, hcz18_2, hcz18_3⟩ := Hd.c4_ BK128.out; obtain ⟨hfz18_0, hfz18_1, hfz18_2, hfz18_3⟩ := Hd.f4_ BK128.out) | ((with_reducible refine gate_callee (f := 45) rfl ?_); refine goesL_ (some 5) rfl rfl Try.func45 (by kernel_rfl) rfl #[.agg #[.int .i64 a0_0, .int .i64 a0_1]] rfl Hd.m_ ?_; (with_reducible refine (impl_IsPoint.calls a0_0 a0_1 false _ A2.out).mono ?_); rintro e w19 ⟨rfl, hb⟩; refine ⟨_, rfl, ?_⟩; replace BK128 := Aside0.mk (Hd.kb_ BK128 hb); replace HB := Aside0.mk (below_step Hd.b_ hb); (try clear hb); (try clear hb2); (try clear hk); (try clear hi)))
  go_ret
  exact ⟨Hd.e_, Hd.b_⟩
def impl_around.l0 : Nat → List (S27) → List (S53) → List (S27) → Int → Int → Option ((List (S53)))
 | 0, _, _, _, _, _ => none
 | k + 1, x0, x3, x7, x8, x9 => if x9 < x8 then (if 0 ≤ x9 then (if x9 < (x7.length : Int) then (if (x0.length : Int) = 0 then (none) else (if 0 ≤ (Int.tmod (wrap64 (x9 + 1)) (x0.length : Int)) then (if (Int.tmod (wrap64 (x9 + 1)) (x0.length : Int)) < (x0.length : Int) then (if x3.length < 4398046511104 then (impl_around.l0 k x0 (x3 ++ [(⟨(⟨(rd_T27 x7 x9).f0, (rd_T27 x7 x9).f1⟩ : S27), (⟨(rd_T27 x0 (Int.tmod (wrap64 (x9 + 1)) (x0.length : Int))).f0, (rd_T27 x0 (Int.tmod (wrap64 (x9 + 1)) (x0.length : Int))).f1⟩ : S27)⟩ : S53)]) x7 x8 (wrap64 (x9 + 1))) else (none)) else (none)) else (none))) else (none)) else (none)) else (some x3)
def impl_around.f (k : Nat) (l0 : List (S27)) : Option ((List (S53))) := impl_around.l0 k l0 (([] : List (S53))) l0 (l0.length : Int) 0
def impl_around.T5 : Bool × List (List Nat × List Nat) := (true, [([], []), ([], []), ([], []), ([], []), ([3], [3]), ([], []), ([5], [5]), ([4, 6], [4, 6]), ([2, 7], [2, 7]), ([8], [8]), ([1, 9], [1, 9]), ([10], [10]), ([0, 11], [0, 11]), ([12, 12, 0, 1, 2, 3, 4, 5, 6, 7, 8, 9, 10, 11, 12], [0, 12])])
def impl_around.B5 : List Nat := [0, 0, 0, 0, 8, 0, 32, 120, 252, 508, 1022, 2046, 4095, 8191]
theorem impl_around.tab5 : rtab .any (opsOf Try.f87 5) = impl_around.T5 := by kernel_rfl
theorem impl_around.bits5 : waitsOk impl_around.T5.2 impl_around.B5 = true := by kernel_rfl
set_option maxHeartbeats 8000000 in
set_option maxRecDepth 100000 in
theorem impl_around.calls (k : Nat) (A0 : Option Addr) (c0 : Nat) (l0 : List (S27)) (r : List (S53)) (w : World) (hr0 : Kd.C k27 w A0 l0.length l0) (hc0 : l0.length ≤ c0) (h : impl_around.f k l0 = some r) :
  Calls Try.prog 87 #[.slice A0 l0.length c0] w fun e w' => ∃ v0_ : Value, e = .returned (v0_) ∧ Kd.R k53 53 w' w.heap.size (fun _ => True) v0_ r ∧ Below w.heap.size w w' := by
 have hu27 := Try.underlying27
 have hu53 := Try.underlying53
 have HR0 := Aside0.mk hr0
 have HC0 := Aside0.mk hc0
 clear hr0 hc0
 have HB := Aside0.mk (Below.refl w.heap.size w)
 have H : (impl_around.l0 k l0 (([] : List (S53))) l0 (l0.length : Int) 0) = some r := h
 clear h
 obtain ⟨y131, hy131⟩ : ∃ y_ : List (S53), y_ = (([] : List (S53))) := ⟨_, rfl⟩
 replace H : (impl_around.l0 k l0 y131 l0 (l0.length : Int) 0) = some r := by first | (rw [hy131]; with_reducible exact H) | (have H2_ := (Option.bind_some _ _).symm.trans H; rw [hy131]; with_reducible exact H2_) | (have H2_ := (Option.bind_some _ _).symm.trans H; with_reducible exact H2_) | with_reducible exact H | (rw [hy131]; exact H) | exact H
 have Ny131 := Aside0.mk hy131
 clear hy131
 have H' := Aside0.mk H
 clear H
 go_enter Try.func87, Try.ntmps87
 go_wp2_with (first | ((with_reducible refine gate_dst (N := 6) rfl ?_); refine Kd.R_lit k53 _ 53 ?hg (N := 6) ?hd (xs := ([] : List (S53))) (inner := []) (ok := fun _ => True) (okp := fun _ => True) ?hr ?hp (fun _ hk => hk) trivial (Below.refl _ _) (Nat.le_refl _) (by simp) ?_; (case hd => rfl); (case hg => rfl); (case hr => first | (go_simp; done) | (go_simp; rfl)); (case hp => exact (Reps.none _ _)); intro v132 w2 ho3 hb hg_ hnew_; clear hg_ hnew_; (first | rw [← Ny131.out] at ho3 | (simp only [Int.reduceToNat] at ho3; rw [← Ny131.out] at ho3)); have HO133 := Aside0.mk (Kd.R_lower ho3 (below_size Hd.b_)); replace HB := Aside0.mk (below_step Hd.b_ hb); clear hb ho3))
 go_loopg [3, 9] k (fun kq v3 v9 w' => ∃ (x3_1 : List (S53)) (x9_1 : Int), v9 = .int .i64 x9_1 ∧ Aside0 (impl_around.l0 kq l0 x3_1 l0 (l0.length : Int) x9_1 = some r) ∧ Aside0 (kq ≤ k) ∧ Aside0 (Kd.R k53 53 w' w.heap.size (fun _ => True) v3 x3_1) ∧ Aside0 (Below w.heap.size w w'))
 case atStart => exact ⟨(y131), (0), (by first | rfl | (simp; done) | (simp [*]; done)), H', ⟨Nat.le_refl _⟩, ⟨by (with_reducible repeat (first | apply Kd.R_alloc | apply Kd.R_drewN | apply Kd.R_drew)); exact HO133.out⟩, ⟨Hd.b_⟩⟩
 case round =>
  clear H'
  try clear p2
  obtain ⟨x3_1, x9_1, rfl, HA, HK1, HO_3, HB⟩ := hrel
  cases gk with
  | zero => exact absurd HA.out (by simp [impl_around.l0])
  | succ k1 =>
   have H := HA.out
   clear HA
   simp only [impl_around.l0] at H
   by_cases c4 : x9_1 < (l0.length : Int)
   ·
    rw [if_pos c4] at H
    have c4b0 : decide (x9_1 < (l0.length : Int)) = true := decide_eq_true c4
    clear c4
    by_cases c5 : 0 ≤ x9_1
    ·
     rw [if_pos c5] at H
     have c5b0 : decide (0 ≤ x9_1) = true := decide_eq_true c5
     clear c5
     by_cases c6 : x9_1 < (l0.length : Int)
     ·
      rw [if_pos c6] at H
      have c6b0 : decide (x9_1 < (l0.length : Int)) = true := decide_eq_true c6
      clear c6
      by_cases c7 : (l0.length : Int) = 0
      ·
       rw [if_pos c7] at H
       exact absurd H (by simp)
      ·
       rw [if_neg c7] at H
       have c7b0 : ((l0.length : Int) == 0) = false := beq_eq_false_iff_ne.mpr c7
       have c7b1 : ((l0.length : Int) != 0) = true := bne_iff_ne.mpr c7
       have c7b2 : ¬ (l0 = []) := fun h_ => c7 (by rw [h_]; rfl)
       obtain ⟨ji8, hji8⟩ : ∃ j_ : Int, (Int.tmod (wrap64 (x9_1 + 1)) (l0.length : Int)) = j_ := ⟨_, rfl⟩
       replace H : (if 0 ≤ (ji8) then (if (ji8) < (l0.length : Int) then (if x3_1.length < 4398046511104 then (impl_around.l0 k1 l0 (x3_1 ++ [(⟨(⟨(rd_T27 l0 x9_1).f0, (rd_T27 l0 x9_1).f1⟩ : S27), (⟨(rd_T27 l0 (ji8)).f0, (rd_T27 l0 (ji8)).f1⟩ : S27)⟩ : S53)]) l0 (l0.length : Int) (wrap64 (x9_1 + 1))) else (none)) else (none)) else (none)) = some r := by first | (rw [hji8] at H; exact H) | (simp only [hji8] at H ⊢; exact H)
       by_cases c9 : 0 ≤ (ji8)
       ·
        rw [if_pos c9] at H
        have c9b0 : decide (0 ≤ (ji8)) = true := decide_eq_true c9
        clear c9
        by_cases c10 : (ji8) < (l0.length : Int)
        ·
         rw [if_pos c10] at H
         have c10b0 : decide ((ji8) < (l0.length : Int)) = true := decide_eq_true c10
         clear c10
         by_cases c11 : x3_1.length < 4398046511104
         ·
          rw [if_pos c11] at H
          have LMc11 := Aside0.mk c11
          clear c11
          obtain ⟨y137, hy137⟩ : ∃ y_ : List (S53), y_ = (x3_1 ++ [(⟨(⟨(rd_T27 l0 x9_1).f0, (rd_T27 l0 x9_1).f1⟩ : S27), (⟨(rd_T27 l0 (ji8)).f0, (rd_T27 l0 (ji8)).f1⟩ : S27)⟩ : S53)]) := ⟨_, rfl⟩
          replace H : (impl_around.l0 k1 l0 y137 l0 (l0.length : Int) (wrap64 (x9_1 + 1))) = some r := by first | (rw [hy137]; with_reducible exact H) | (have H2_ := (Option.bind_some _ _).symm.trans H; rw [hy137]; with_reducible exact H2_) | (have H2_ := (Option.bind_some _ _).symm.trans H; with_reducible exact H2_) | with_reducible exact H | (rw [hy137]; exact H) | exact H
          have Ny137 := Aside0.mk hy137
          clear hy137
          have H' := Aside0.mk H
          clear H
          have p134 : 0 ≤ (x9_1 : Int) := of_decide_eq_true Hd.a_
          have q134 : x9_1 < (l0.length : Int) := of_decide_eq_true Hd.a_
          obtain ⟨ad134, e134, hx134_0, hx134_1⟩ := at_T27 HR0.out x9_1 p134 q134
          cases e134
          replace hx134_0 := (HB.out.cell (World.block_lt_of_cell? w _ hx134_0)).trans hx134_0
          replace hx134_1 := (HB.out.cell (World.block_lt_of_cell? w _ hx134_1)).trans hx134_1
          replace p134 := eq_true p134
          replace q134 := eq_true q134
          try go_wp2_with (first | ((with_reducible refine gate_dst (N := 5) rfl ?_); refine Hd.box_ 5 (#[.int .i64 0, .int .i64 0]) 27 ?_; intro gb135 hg w12 hbox hb; replace HO_3 := Aside0.mk (Kd.R_below (Hd.r_ HO_3) hb); have BK135 := Aside0.mk (hbox); have GW135 := Aside0.mk ((Hd.g_ hg Hd.b_ : w.heap.size ≤ gb135)); have GE135 := Aside0.mk ((Hd.g_ hg Hd.b_ : w.heap.size ≤ gb135)); replace HB := Aside0.mk (below_step Hd.b_ hb); clear hb hbox hg; obtain ⟨hcz13_0, hcz13_1⟩ := Hd.c2_ BK135.out; obtain ⟨hfz13_0, hfz13_1⟩ := Hd.f2_ BK135.out))
          have n0_ : Aside0 (Kd.R k53 53 ((w12.setCell ⟨gb135, 0, none⟩ (.int .i64 ((rd_T27 l0 x9_1).f0))).setCell ⟨gb135, 1, none⟩ (.int .i64 ((rd_T27 l0 x9_1).f1))) w.heap.size (fun _ => True) u3 x3_1) := ⟨by (with_reducible repeat (first | apply Kd.R_alloc | apply Kd.R_drewN | apply Kd.R_drew)); exact Kd.R_mono (Kd.R_far (p := ⟨gb135, 1, none⟩) (Kd.R_far (p := ⟨gb135, 0, none⟩) (Kd.R_types HO_3.out BK135.out (by decide)) (fun _ hk => hk.2) (.int .i64 ((rd_T27 l0 x9_1).f0))) (fun _ hk => hk.2) (.int .i64 ((rd_T27 l0 x9_1).f1))) (fun _ hk => trivial)⟩
          have n1_ : Aside0 (((w12.setCell ⟨gb135, 0, none⟩ (.int .i64 ((rd_T27 l0 x9_1).f0))).setCell ⟨gb135, 1, none⟩ (.int .i64 ((rd_T27 l0 x9_1).f1))).heap[gb135]? = some (.cells #[.int .i64 ((rd_T27 l0 x9_1).f0), .int .i64 ((rd_T27 l0 x9_1).f1)] 27 (0, 0))) := ⟨by (with_reducible repeat (first | refine blk_drewN ?_ _ | refine blk_drew ?_ | refine blk_alloc ?_ _)); refine blk_put (cs := #[.int .i64 ((rd_T27 l0 x9_1).f0), .int .i64 0]) ?_ 1 _ rfl; (with_reducible repeat (first | refine blk_drewN ?_ _ | refine blk_drew ?_ | refine blk_alloc ?_ _)); refine blk_put (cs := #[.int .i64 0, .int .i64 0]) ?_ 0 _ rfl; (with_reducible repeat (first | refine blk_drewN ?_ _ | refine blk_drew ?_ | refine blk_alloc ?_ _)); exact BK135.out⟩
          have n2_ : Aside0 (Below w.heap.size w ((w12.setCell ⟨gb135, 0, none⟩ (.int .i64 ((rd_T27 l0 x9_1).f0))).setCell ⟨gb135, 1, none⟩ (.int .i64 ((rd_T27 l0 x9_1).f1)))) := ⟨Hd.b_⟩
          (try clear HO_3)
          (try clear BK135)
          (try clear HB)
          generalize ((w12.setCell ⟨gb135, 0, none⟩ (.int .i64 ((rd_T27 l0 x9_1).f0))).setCell ⟨gb135, 1, none⟩ (.int .i64 ((rd_T27 l0 x9_1).f1))) = w14 at n0_ n1_ n2_ ⊢
          have HO_3 := n0_
          have BK135 := n1_
          have HB := n2_
          clear n0_ n1_ n2_
          replace HO_3 := Aside0.mk (Kd.R_drew HO_3.out)
          replace BK135 := Aside0.mk (blk_drew BK135.out)
          replace HB := Aside0.mk (below_drew1 HB.out)
          have p136 : 0 ≤ ((ji8) : Int) := of_decide_eq_true Hd.a_
          have q136 : (ji8) < (l0.length : Int) := of_decide_eq_true Hd.a_
          obtain ⟨ad136, e136, hx136_0, hx136_1⟩ := at_T27 HR0.out (ji8) p136 q136
          have hw136_1 := hx136_1
          have hw136_0 := hx136_0
          obtain rfl : ad134 = ad136 := (by injection e136)
          replace hx136_0 := (HB.out.cell (World.block_lt_of_cell? w _ hx136_0)).trans hx136_0
          replace hx136_1 := (HB.out.cell (World.block_lt_of_cell? w _ hx136_1)).trans hx136_1
          replace p136 := eq_true p136
          replace q136 := eq_true q136
          refine start_ (n := 14) (S := fun w' => w'.cell? ⟨gb135, 0, none⟩ = some (.int .i64 ((rd_T27 l0 x9_1).f0)) ∧ w'.cell? ⟨gb135, 1, none⟩ = some (.int .i64 ((rd_T27 l0 x9_1).f1)) ∧ w'.cell? (ad134.add (((ji8)).toNat * 2)) = some (.int .i64 ((rd_T27 l0 (ji8)).f0)) ∧ w'.cell? ⟨(ad134.add (((ji8)).toNat * 2)).block, (ad134.add (((ji8)).toNat * 2)).off + 1, none⟩ = some (.int .i64 ((rd_T27 l0 (ji8)).f1))) (ds := []) #[false, false, false, false, false, false, false, false, false, false, false, false, false, false] (by kernel_rfl) rfl rfl ⟨(blk_cell BK135.out 0).trans rfl, (blk_cell BK135.out 1).trans rfl, ((HB.out.cell (World.block_lt_of_cell? w _ hw136_0)).trans hw136_0), ((HB.out.cell (World.block_lt_of_cell? w _ hw136_1)).trans hw136_1)⟩ (fun hHeld => ?_); refine with_tabW impl_around.tab5 impl_around.bits5 (fun HT_ HW_ => ?_)
          generalize w14.drew = w15 at HO_3 BK135 HB hx136_0 hx136_1 hHeld ⊢
          refine Hd.p_ HT_ 0 (some 14) #[true, false, false, false, false, false, false, false, false, false, false, false, false, false] ?_
          refine Hd.p_ HT_ 2 (some 16) #[true, false, true, false, false, false, false, false, false, false, false, false, false, false] ?_
          refine Hd.p_ HT_ 3 (some 17) #[true, false, true, true, false, false, false, false, false, false, false, false, false, false] ?_
          refine Hd.p_ HT_ 4 (some 18) #[true, false, true, true, true, false, false, false, false, false, false, false, false, false] ?_
          refine Hd.p_ HT_ 5 (some 19) #[true, false, true, true, true, true, false, false, false, false, false, false, false, false] ?_
          refine Hd.p_ HT_ 6 (some 20) #[true, false, true, true, true, true, true, false, false, false, false, false, false, false] ?_
          refine Hd.p_ HT_ 7 (some 21) #[true, false, true, true, true, true, true, true, false, false, false, false, false, false] ?_
          refine Hd.p_ HT_ 8 (some 22) #[true, false, true, true, true, true, true, true, true, false, false, false, false, false] ?_
          refine Hd.t_ HT_ HW_ hHeld 1 (some 15) #[true, true, true, true, true, true, true, true, true, false, false, false, false, false] ?_
          refine Hd.t_ HT_ HW_ hHeld 9 (some 23) #[true, true, true, true, true, true, true, true, true, true, false, false, false, false] ?_
          refine Hd.p_ HT_ 10 (some 24) #[true, true, true, true, true, true, true, true, true, true, true, false, false, false] ?_
          refine Hd.o_ HT_ 11 (some 25) #[true, true, true, true, true, true, true, true, true, true, true, true, false, false] (fun K hK => ?_)
          refine value_ (w1 := ?_) (v := ?_) (by rfl) rfl ?_ ?_
          rotate_left 2
          ·
           go_simp
           constructor
           ·
            rfl
           ·
            rfl
          refine hK.out _ _ ⟨(blk_cell (blk_alloc BK135.out _) 0).trans rfl, (blk_cell (blk_alloc BK135.out _) 1).trans rfl, (World.cell?_alloc_lt _ _ _ (World.block_lt_of_cell? _ _ (((HB.out.cell (World.block_lt_of_cell? w _ hw136_0)).trans hw136_0)))).trans (((HB.out.cell (World.block_lt_of_cell? w _ hw136_0)).trans hw136_0)), (World.cell?_alloc_lt _ _ _ (World.block_lt_of_cell? _ _ (((HB.out.cell (World.block_lt_of_cell? w _ hw136_1)).trans hw136_1)))).trans (((HB.out.cell (World.block_lt_of_cell? w _ hw136_1)).trans hw136_1))⟩ (fun hHeld => ?_)
          clear hK K
          refine Hd.n_ (some 25) ?_
          refine Hd.o_ HT_ 12 (some 26) #[true, true, true, true, true, true, true, true, true, true, true, true, true, false] (fun K hK => ?_)
          refine Kd.R_append_step k53 (w0 := w) w.heap.size (by rfl) (.tmp 14) (.tmp 25) 63 53 (.agg #[(.int .i64 0), (.int .i64 0), (.int .i64 0), (.int .i64 0)]) 32 rfl Try.underlying63 info53 rfl (by decide) (by omega) u3 x3_1 (⟨(⟨(rd_T27 l0 x9_1).f0, (rd_T27 l0 x9_1).f1⟩ : S27), (⟨(rd_T27 l0 (ji8)).f0, (rd_T27 l0 (ji8)).f1⟩ : S27)⟩ : S53) [.int .i64 ((rd_T27 l0 x9_1).f0), .int .i64 ((rd_T27 l0 x9_1).f1), .int .i64 ((rd_T27 l0 (ji8)).f0), .int .i64 ((rd_T27 l0 (ji8)).f1)] (fun _ => True) (fun _ => False) rfl rfl ?aP (fun _ hk => hk.elim) ?aF ?aO ?aB ?aS ?aL ?_
          (case aP => exact k53_mkM _ _ _ (⟨(⟨(rd_T27 l0 x9_1).f0, (rd_T27 l0 x9_1).f1⟩ : S27), (⟨(rd_T27 l0 (ji8)).f0, (rd_T27 l0 (ji8)).f1⟩ : S27)⟩ : S53))
          (case aB => exact Hd.b_)
          (case aF => exact (fun _ _ => trivial))
          (case aO => exact (Hd.r_ HO_3))
          (case aS => exact (below_size Hd.b_))
          (case aL => have := LMc11.out; omega)
          intro v138 w16 ho hb hg hat
          rw [← Ny137.out] at ho
          have n0_ := Aside0.mk (blk_grown (g := gb135) (o := .cells #[.int .i64 ((rd_T27 l0 x9_1).f0), .int .i64 ((rd_T27 l0 x9_1).f1)] 27 (0, 0)) (Hd.k_ BK135) hg (Kd.R_ne HO_3.out BK135.out (by decide)))
          have n1_ := Aside0.mk (hb)
          have n2_ := Aside0.mk (ho)
          clear BK135
          clear HB
          clear HO_3
          have BK135 := n0_
          have HB := n1_
          have HO139 := n2_
          clear n0_ n1_ n2_
          clear ho hb hg hat
          refine hK.out _ _ ⟨(blk_cell BK135.out 0).trans rfl, (blk_cell BK135.out 1).trans rfl, ((HB.out.cell (World.block_lt_of_cell? w _ hw136_0)).trans hw136_0), ((HB.out.cell (World.block_lt_of_cell? w _ hw136_1)).trans hw136_1)⟩ (fun hHeld => ?_)
          clear hK K
          refine Hd.n_ (some 26) ?_
          refine Hd.p_ HT_ 13 (some 3) #[true, true, true, true, true, true, true, true, true, true, true, true, true, true] ?_
          refine done_ (done_of HT_.out (by kernel_rfl)) ?_
          try go_wp2
          go_roundg k1
          case measure => have := HK1.out; omega
          case rel => exact ⟨(y137), (wrap64 (x9_1 + 1)), (by first | rfl | (simp; done) | (simp [*]; done)), H', ⟨by have := HK1.out; omega⟩, ⟨by (with_reducible repeat (first | apply Kd.R_alloc | apply Kd.R_drewN | apply Kd.R_drew)); exact HO139.out⟩, ⟨Hd.b_⟩⟩
         ·
          rw [if_neg c11] at H
          exact absurd H (by simp)
        ·
         rw [if_neg c10] at H
         exact absurd H (by simp)
       ·
        rw [if_neg c9] at H
        exact absurd H (by simp)
     ·
      rw [if_neg c6] at H
      exact absurd H (by simp)
    ·
     rw [if_neg c5] at H
     exact absurd H (by simp)
   ·
    rw [if_neg c4] at H
    have c4b0 : decide (x9_1 < (l0.length : Int)) = false := decide_eq_false c4
    clear c4
    obtain rfl := Option.some.inj H
    go_wp2
    go_ret
    exact ⟨_, Hd.e_, by (with_reducible repeat (first | apply Kd.R_alloc | apply Kd.R_drewN | apply Kd.R_drew)); exact HO_3.out, Hd.b_⟩
def cmp_isNaN_int.f (a0 : Int) : Option (Bool) := some (a0 != a0)
set_option maxHeartbeats 8000000 in
set_option maxRecDepth 100000 in
theorem cmp_isNaN_int.calls (a0 : Int) (r : Bool) (w : World) (h : cmp_isNaN_int.f a0 = some r) :
  Calls Try.prog 116 #[.int .i64 a0] w fun e w' => e = .returned (.bool r) ∧ Drawn0 w w' := by
 have H : (some (a0 != a0)) = some r := h
 clear h
 obtain rfl := Option.some.inj H
 go_enter Try.func116, Try.ntmps116
 go_wp2
 go_ret
 exact ⟨by first | rfl | (simp; done) | (simp [*]; done), by repeat (first | exact Drawn0.refl _ | apply Drawn0.step)⟩
def cmp_Compare_int.f (a0 : Int) (a1 : Int) : Option (Int) := (cmp_isNaN_int.f a0).bind fun t140 => ((cmp_isNaN_int.f a1).bind fun t141 => (if t140 = true then (if t141 = true then (some 0) else (some (-1))) else (if t141 = true then (some 1) else (if a0 < a1 then (some (-1)) else (if a0 > a1 then (some 1) else (some 0))))))
set_option maxHeartbeats 8000000 in
set_option maxRecDepth 100000 in
theorem cmp_Compare_int.calls (a0 : Int) (a1 : Int) (r : Int) (w : World) (h : cmp_Compare_int.f a0 a1 = some r) :
  Calls Try.prog 98 #[.int .i64 a0, .int .i64 a1] w fun e w' => e = .returned (.int .i64 r) ∧ Drawn0 w w' := by
 have H : ((cmp_isNaN_int.f a0).bind fun t140 => ((cmp_isNaN_int.f a1).bind fun t141 => (if t140 = true then (if t141 = true then (some 0) else (some (-1))) else (if t141 = true then (some 1) else (if a0 < a1 then (some (-1)) else (if a0 > a1 then (some 1) else (some 0))))))) = some r := h
 clear h
 replace H := Option.bind_eq_some_iff.mp H
 obtain ⟨t140, A30, H⟩ := H
 replace H : ((cmp_isNaN_int.f a1).bind fun t141 => (if t140 = true then (if t141 = true then (some 0) else (some (-1))) else (if t141 = true then (some 1) else (if a0 < a1 then (some (-1)) else (if a0 > a1 then (some 1) else (some 0)))))) = some r := H
 have A3 := Aside0.mk A30
 clear A30
 replace H := Option.bind_eq_some_iff.mp H
 obtain ⟨t141, A40, H⟩ := H
 replace H : (if t140 = true then (if t141 = true then (some 0) else (some (-1))) else (if t141 = true then (some 1) else (if a0 < a1 then (some (-1)) else (if a0 > a1 then (some 1) else (some 0))))) = some r := H
 have A4 := Aside0.mk A40
 clear A40
 by_cases c5 : t140 = true
 ·
  subst c5
  have H1 : (if t141 = true then (some 0) else (some (-1))) = some r := by rw [if_pos rfl] at H; exact H
  clear H
  have H := H1
  clear H1
  by_cases c6 : t141 = true
  ·
   subst c6
   have H1 : (some 0) = some r := by rw [if_pos rfl] at H; exact H
   clear H
   have H := H1
   clear H1
   obtain rfl := Option.some.inj H
   go_enter Try.func98, Try.ntmps98
   go_wp2_with (first | ((with_reducible refine gate_callee (f := 116) rfl ?_); refine goesL_ (some 8) rfl rfl Try.func116 (by kernel_rfl) rfl #[.int .i64 a0] rfl Hd.m_ ?_; (with_reducible refine (cmp_isNaN_int.calls a0 true _ A3.out).mono ?_); rintro e w' ⟨rfl, ⟨nd, rfl⟩⟩; refine ⟨_, rfl, ?_⟩) | ((with_reducible refine gate_callee (f := 116) rfl ?_); refine goesL_ (some 10) rfl rfl Try.func116 (by kernel_rfl) rfl #[.int .i64 a1] rfl Hd.m_ ?_; (with_reducible refine (cmp_isNaN_int.calls a1 true _ A4.out).mono ?_); rintro e w' ⟨rfl, ⟨nd, rfl⟩⟩; refine ⟨_, rfl, ?_⟩))
   go_ret
   exact ⟨by first | rfl | (simp; done) | (simp [*]; done), by repeat (first | exact Drawn0.refl _ | apply Drawn0.step)⟩
  ·
   replace c6 := Bool.eq_false_iff.mpr c6
   subst c6
   have H1 : (some (-1)) = some r := by rw [if_neg (show ¬ (false = true) by decide)] at H; exact H
   clear H
   have H := H1
   clear H1
   obtain rfl := Option.some.inj H
   go_enter Try.func98, Try.ntmps98
   go_wp2_with (first | ((with_reducible refine gate_callee (f := 116) rfl ?_); refine goesL_ (some 8) rfl rfl Try.func116 (by kernel_rfl) rfl #[.int .i64 a0] rfl Hd.m_ ?_; (with_reducible refine (cmp_isNaN_int.calls a0 true _ A3.out).mono ?_); rintro e w' ⟨rfl, ⟨nd, rfl⟩⟩; refine ⟨_, rfl, ?_⟩) | ((with_reducible refine gate_callee (f := 116) rfl ?_); refine goesL_ (some 10) rfl rfl Try.func116 (by kernel_rfl) rfl #[.int .i64 a1] rfl Hd.m_ ?_; (with_reducible refine (cmp_isNaN_int.calls a1 false _ A4.out).mono ?_); rintro e w' ⟨rfl, ⟨nd, rfl⟩⟩; refine ⟨_, rfl, ?_⟩))
   go_ret
   exact ⟨by first | rfl | (simp; done) | (simp [*]; done), by repeat (first | exact Drawn0.refl _ | apply Drawn0.step)⟩
 ·
  replace c5 := Bool.eq_false_iff.mpr c5
  subst c5
  have H1 : (if t141 = true then (some 1) else (if a0 < a1 then (some (-1)) else (if a0 > a1 then (some 1) else (some 0)))) = some r := by rw [if_neg (show ¬ (false = true) by decide)] at H; exact H
  clear H
  have H := H1
  clear H1
  by_cases c7 : t141 = true
  ·
   subst c7
   have H1 : (some 1) = some r := by rw [if_pos rfl] at H; exact H
   clear H
   have H := H1
   clear H1
   obtain rfl := Option.some.inj H
   go_enter Try.func98, Try.ntmps98
   go_wp2_with (first | ((with_reducible refine gate_callee (f := 116) rfl ?_); refine goesL_ (some 8) rfl rfl Try.func116 (by kernel_rfl) rfl #[.int .i64 a0] rfl Hd.m_ ?_; (with_reducible refine (cmp_isNaN_int.calls a0 false _ A3.out).mono ?_); rintro e w' ⟨rfl, ⟨nd, rfl⟩⟩; refine ⟨_, rfl, ?_⟩) | ((with_reducible refine gate_callee (f := 116) rfl ?_); refine goesL_ (some 10) rfl rfl Try.func116 (by kernel_rfl) rfl #[.int .i64 a1] rfl Hd.m_ ?_; (with_reducible refine (cmp_isNaN_int.calls a1 true _ A4.out).mono ?_); rintro e w' ⟨rfl, ⟨nd, rfl⟩⟩; refine ⟨_, rfl, ?_⟩))
   go_ret
   exact ⟨by first | rfl | (simp; done) | (simp [*]; done), by repeat (first | exact Drawn0.refl _ | apply Drawn0.step)⟩
  ·
   replace c7 := Bool.eq_false_iff.mpr c7
   subst c7
   have H1 : (if a0 < a1 then (some (-1)) else (if a0 > a1 then (some 1) else (some 0))) = some r := by rw [if_neg (show ¬ (false = true) by decide)] at H; exact H
   clear H
   have H := H1
   clear H1
   by_cases c8 : a0 < a1
   ·
    rw [if_pos c8] at H
    have c8b0 : decide (a0 < a1) = true := decide_eq_true c8
    clear c8
    obtain rfl := Option.some.inj H
    go_enter Try.func98, Try.ntmps98
    go_wp2_with (first | ((with_reducible refine gate_callee (f := 116) rfl ?_); refine goesL_ (some 8) rfl rfl Try.func116 (by kernel_rfl) rfl #[.int .i64 a0] rfl Hd.m_ ?_; (with_reducible refine (cmp_isNaN_int.calls a0 false _ A3.out).mono ?_); rintro e w' ⟨rfl, ⟨nd, rfl⟩⟩; refine ⟨_, rfl, ?_⟩) | ((with_reducible refine gate_callee (f := 116) rfl ?_); refine goesL_ (some 10) rfl rfl Try.func116 (by kernel_rfl) rfl #[.int .i64 a1] rfl Hd.m_ ?_; (with_reducible refine (cmp_isNaN_int.calls a1 false _ A4.out).mono ?_); rintro e w' ⟨rfl, ⟨nd, rfl⟩⟩; refine ⟨_, rfl, ?_⟩))
    go_ret
    exact ⟨by first | rfl | (simp; done) | (simp [*]; done), by repeat (first | exact Drawn0.refl _ | apply Drawn0.step)⟩
   ·
    rw [if_neg c8] at H
    have c8b0 : decide (a0 < a1) = false := decide_eq_false c8
    clear c8
    by_cases c9 : a0 > a1
    ·
     rw [if_pos c9] at H
     have c9b0 : decide (a1 < a0) = true := decide_eq_true c9
     clear c9
     obtain rfl := Option.some.inj H
     go_enter Try.func98, Try.ntmps98
     go_wp2_with (first | ((with_reducible refine gate_callee (f := 116) rfl ?_); refine goesL_ (some 8) rfl rfl Try.func116 (by kernel_rfl) rfl #[.int .i64 a0] rfl Hd.m_ ?_; (with_reducible refine (cmp_isNaN_int.calls a0 false _ A3.out).mono ?_); rintro e w' ⟨rfl, ⟨nd, rfl⟩⟩; refine ⟨_, rfl, ?_⟩) | ((with_reducible refine gate_callee (f := 116) rfl ?_); refine goesL_ (some 10) rfl rfl Try.func116 (by kernel_rfl) rfl #[.int .i64 a1] rfl Hd.m_ ?_; (with_reducible refine (cmp_isNaN_int.calls a1 false _ A4.out).mono ?_); rintro e w' ⟨rfl, ⟨nd, rfl⟩⟩; refine ⟨_, rfl, ?_⟩))
     go_ret
     exact ⟨by first | rfl | (simp; done) | (simp [*]; done), by repeat (first | exact Drawn0.refl _ | apply Drawn0.step)⟩
    ·
     rw [if_neg c9] at H
     have c9b0 : decide (a1 < a0) = false := decide_eq_false c9
     clear c9
     obtain rfl := Option.some.inj H
     go_enter Try.func98, Try.ntmps98
     go_wp2_with (first | ((with_reducible refine gate_callee (f := 116) rfl ?_); refine goesL_ (some 8) rfl rfl Try.func116 (by kernel_rfl) rfl #[.int .i64 a0] rfl Hd.m_ ?_; (with_reducible refine (cmp_isNaN_int.calls a0 false _ A3.out).mono ?_); rintro e w' ⟨rfl, ⟨nd, rfl⟩⟩; refine ⟨_, rfl, ?_⟩) | ((with_reducible refine gate_callee (f := 116) rfl ?_); refine goesL_ (some 10) rfl rfl Try.func116 (by kernel_rfl) rfl #[.int .i64 a1] rfl Hd.m_ ?_; (with_reducible refine (cmp_isNaN_int.calls a1 false _ A4.out).mono ?_); rintro e w' ⟨rfl, ⟨nd, rfl⟩⟩; refine ⟨_, rfl, ?_⟩))
     go_ret
     exact ⟨by first | rfl | (simp; done) | (simp [*]; done), by repeat (first | exact Drawn0.refl _ | apply Drawn0.step)⟩
def impl_cross.f (a0_0 : Int) (a0_1 : Int) (a1_0 : Int) (a1_1 : Int) (a2_0 : Int) (a2_1 : Int) : Option (Int) := some (wrap64 ((wrap64 ((wrap64 (a1_0 - a0_0)) * (wrap64 (a2_1 - a0_1)))) - (wrap64 ((wrap64 (a1_1 - a0_1)) * (wrap64 (a2_0 - a0_0))))))
set_option maxHeartbeats 8000000 in
set_option maxRecDepth 100000 in
theorem impl_cross.calls (a0_0 : Int) (a0_1 : Int) (a1_0 : Int) (a1_1 : Int) (a2_0 : Int) (a2_1 : Int) (r : Int) (w : World) (h : impl_cross.f a0_0 a0_1 a1_0 a1_1 a2_0 a2_1 = some r) :
  Calls Try.prog 109 #[.agg #[.int .i64 a0_0, .int .i64 a0_1], .agg #[.int .i64 a1_0, .int .i64 a1_1], .agg #[.int .i64 a2_0, .int .i64 a2_1]] w fun e w' => e = .returned (.int .i64 r) ∧ Below w.heap.size w w' := by
 have hu27 := Try.underlying27
 have HB := Aside0.mk (Below.refl w.heap.size w)
 have H : (some (wrap64 ((wrap64 ((wrap64 (a1_0 - a0_0)) * (wrap64 (a2_1 - a0_1)))) - (wrap64 ((wrap64 (a1_1 - a0_1)) * (wrap64 (a2_0 - a0_0))))))) = some r := h
 clear h
 obtain rfl := Option.some.inj H
 go_enter Try.func109, Try.ntmps109
 go_wp2_with (first | ((with_reducible refine gate_dst (N := 3) rfl ?_); refine Hd.box_ 3 (#[.int .i64 a0_0, .int .i64 a0_1]) 27 ?_; intro gb142 hg w4 hbox hb; have BK142 := Aside0.mk (hbox); have GW142 := Aside0.mk ((Hd.g_ hg Hd.b_ : w.heap.size ≤ gb142)); have GE142 := Aside0.mk ((Hd.g_ hg Hd.b_ : w.heap.size ≤ gb142)); replace HB := Aside0.mk (below_step Hd.b_ hb); clear hb hbox hg) | ((with_reducible refine gate_dst (N := 4) rfl ?_); refine Hd.box_ 4 (#[.int .i64 a1_0, .int .i64 a1_1]) 27 ?_; intro gb143 hg w5 hbox hb; have BK143 := Aside0.mk (hbox); have GW143 := Aside0.mk ((Hd.g_ hg Hd.b_ : w.heap.size ≤ gb143)); have GE143 := Aside0.mk ((Hd.g_ hg Hd.b_ : w.heap.size ≤ gb143)); replace HB := Aside0.mk (below_step Hd.b_ hb); have NB142_143 := Aside0.mk ((Hd.lt_ BK142 hg)); have NB143_142 := Aside0.mk ((Hd.gt_ BK142 hg)); replace BK142 := Aside0.mk (Hd.kb_ BK142 hb); clear hb hbox hg) | ((with_reducible refine gate_dst (N := 5) rfl ?_); refine Hd.box_ 5 (#[.int .i64 a2_0, .int .i64 a2_1]) 27 ?_; intro gb144 hg w6 hbox hb; have BK144 := Aside0.mk (hbox); have GW144 := Aside0.mk ((Hd.g_ hg Hd.b_ : w.heap.size ≤ gb144)); have GE144 := Aside0.mk ((Hd.g_ hg Hd.b_ : w.heap.size ≤ gb144)); replace HB := Aside0.mk (below_step Hd.b_ hb); have NB142_144 := Aside0.mk ((Hd.lt_ BK142 hg)); have NB144_142 := Aside0.mk ((Hd.gt_ BK142 hg)); replace BK142 := Aside0.mk (Hd.kb_ BK142 hb); have NB143_144 := Aside0.mk ((Hd.lt_ BK143 hg)); have NB144_143 := Aside0.mk ((Hd.gt_ BK143 hg)); replace BK143 := Aside0.mk (Hd.kb_ BK143 hb); clear hb hbox hg; have hnb7 := NB143_142.out; have hnc7 := NB142_143.out; have hnb8 := NB143_144.out; have hnc8 := NB144_143.out; obtain ⟨hcz9_0, hcz9_1⟩ := Hd.c2_ BK143.out; obtain ⟨hfz9_0, hfz9_1⟩ := Hd.f2_ BK143.out; have hnb10 := NB142_144.out; have hnc10 := NB144_142.out; obtain ⟨hcz11_0, hcz11_1⟩ := Hd.c2_ BK142.out; obtain ⟨hfz11_0, hfz11_1⟩ := Hd.f2_ BK142.out; obtain ⟨hcz12_0, hcz12_1⟩ := Hd.c2_ BK144.out; obtain ⟨hfz12_0, hfz12_1⟩ := Hd.f2_ BK144.out))
 go_ret
 exact ⟨Hd.e_, Hd.b_⟩
def impl_SideOf.j0 : Nat → Bool → Int → Int → Int → Int → Int → Int → Option (Int)
 | 0, _, _, _, _, _, _, _ => none
 | k + 1, x19, x146000, x146001, x147000, x147001, x148000, x148001 => if x19 = true then (some 0) else ((impl_cross.f x146000 x146001 x147000 x147001 x148000 x148001).bind fun t151 => ((cmp_Compare_int.f t151 0).bind fun t152 => (some t152)))
def impl_SideOf.f (k : Nat) (a0_0 : Int) (a0_1 : Int) (a1_0 : Int) (a1_1 : Int) (a2_0 : Int) (a2_1 : Int) : Option (Int) := (impl_IsPoint.f a0_0 a0_1).bind fun t148 => (if t148 = true then ((impl_IsPoint.f a1_0 a1_1).bind fun t149 => (if t149 = true then ((impl_IsPoint.f a2_0 a2_1).bind fun t150 => (impl_SideOf.j0 k (!t150) a0_0 a0_1 a1_0 a1_1 a2_0 a2_1)) else (impl_SideOf.j0 k true a0_0 a0_1 a1_0 a1_1 a2_0 a2_1))) else (impl_SideOf.j0 k true a0_0 a0_1 a1_0 a1_1 a2_0 a2_1))
set_option maxHeartbeats 8000000 in
set_option maxRecDepth 100000 in
theorem impl_SideOf.calls (k : Nat) (a0_0 : Int) (a0_1 : Int) (a1_0 : Int) (a1_1 : Int) (a2_0 : Int) (a2_1 : Int) (r : Int) (w : World) (h : impl_SideOf.f k a0_0 a0_1 a1_0 a1_1 a2_0 a2_1 = some r) :
  Calls Try.prog 92 #[.agg #[.int .i64 a0_0, .int .i64 a0_1], .agg #[.int .i64 a1_0, .int .i64 a1_1], .agg #[.int .i64 a2_0, .int .i64 a2_1]] w fun e w' => e = .returned (.int .i64 r) ∧ Below w.heap.size w w' := by
 have hu27 := Try.underlying27
 have HB := Aside0.mk (Below.refl w.heap.size w)
 have H : ((impl_IsPoint.f a0_0 a0_1).bind fun t148 => (if t148 = true then ((impl_IsPoint.f a1_0 a1_1).bind fun t149 => (if t149 = true then ((impl_IsPoint.f a2_0 a2_1).bind fun t150 => (impl_SideOf.j0 k (!t150) a0_0 a0_1 a1_0 a1_1 a2_0 a2_1)) else (impl_SideOf.j0 k true a0_0 a0_1 a1_0 a1_1 a2_0 a2_1))) else (impl_SideOf.j0 k true a0_0 a0_1 a1_0 a1_1 a2_0 a2_1))) = some r := h
 clear h
 have HC4 := Aside0.mk H
 clear H
 go_enter Try.func92, Try.ntmps92
 go_upto_region 1 with (first | ((with_reducible refine gate_dst (N := 3) rfl ?_); refine Hd.box_ 3 (#[.int .i64 a0_0, .int .i64 a0_1]) 27 ?_; intro gb145 hg w5 hbox hb; have BK145 := Aside0.mk (hbox); have GW145 := Aside0.mk ((Hd.g_ hg Hd.b_ : w.heap.size ≤ gb145)); have GE145 := Aside0.mk ((Hd.g_ hg Hd.b_ : w.heap.size ≤ gb145)); replace HB := Aside0.mk (below_step Hd.b_ hb); clear hb hbox hg) | ((with_reducible refine gate_dst (N := 4) rfl ?_); refine Hd.box_ 4 (#[.int .i64 a1_0, .int .i64 a1_1]) 27 ?_; intro gb146 hg w6 hbox hb; have BK146 := Aside0.mk (hbox); have GW146 := Aside0.mk ((Hd.g_ hg Hd.b_ : w.heap.size ≤ gb146)); have GE146 := Aside0.mk ((Hd.g_ hg Hd.b_ : w.heap.size ≤ gb146)); replace HB := Aside0.mk (below_step Hd.b_ hb); have NB145_146 := Aside0.mk ((Hd.lt_ BK145 hg)); have NB146_145 := Aside0.mk ((Hd.gt_ BK145 hg)); replace BK145 := Aside0.mk (Hd.kb_ BK145 hb); clear hb hbox hg) | ((with_reducible refine gate_dst (N := 5) rfl ?_); refine Hd.box_ 5 (#[.int .i64 a2_0, .int .i64 a2_1]) 27 ?_; intro gb147 hg w7 hbox hb; have BK147 := Aside0.mk (hbox); have GW147 := Aside0.mk ((Hd.g_ hg Hd.b_ : w.heap.size ≤ gb147)); have GE147 := Aside0.mk ((Hd.g_ hg Hd.b_ : w.heap.size ≤ gb147)); replace HB := Aside0.mk (below_step Hd.b_ hb); have NB145_147 := Aside0.mk ((Hd.lt_ BK145 hg)); have NB147_145 := Aside0.mk ((Hd.gt_ BK145 hg)); replace BK145 := Aside0.mk (Hd.kb_ BK145 hb); have NB146_147 := Aside0.mk ((Hd.lt_ BK146 hg)); have NB147_146 := Aside0.mk ((Hd.gt_ BK146 hg)); replace BK146 := Aside0.mk (Hd.kb_ BK146 hb); clear hb hbox hg))
 (try simp only [Act.put, List.setIfInBounds_toArray, List.set_cons_zero, List.set_cons_succ])
 go_cut [19] (fun v19 wc => ∃ (kq : Nat) (x19_3 : Bool), v19 = .bool x19_3 ∧ Aside0 (impl_SideOf.j0 kq x19_3 a0_0 a0_1 a1_0 a1_1 a2_0 a2_1 = some r) ∧ Aside0 (kq ≤ k) ∧ Aside0 (wc.heap[gb145]? = some (.cells #[.int .i64 a0_0, .int .i64 a0_1] 27 (0, 0))) ∧ Aside0 (wc.heap[gb146]? = some (.cells #[.int .i64 a1_0, .int .i64 a1_1] 27 (0, 0))) ∧ Aside0 (wc.heap[gb147]? = some (.cells #[.int .i64 a2_0, .int .i64 a2_1] 27 (0, 0))) ∧ Aside0 (Below w.heap.size w wc))
 case first =>
  have H := HC4.out
  clear HC4
  replace H := Option.bind_eq_some_iff.mp H
  obtain ⟨t148, A80, H⟩ := H
  replace H : (if t148 = true then ((impl_IsPoint.f a1_0 a1_1).bind fun t149 => (if t149 = true then ((impl_IsPoint.f a2_0 a2_1).bind fun t150 => (impl_SideOf.j0 k (!t150) a0_0 a0_1 a1_0 a1_1 a2_0 a2_1)) else (impl_SideOf.j0 k true a0_0 a0_1 a1_0 a1_1 a2_0 a2_1))) else (impl_SideOf.j0 k true a0_0 a0_1 a1_0 a1_1 a2_0 a2_1)) = some r := H
  have A8 := Aside0.mk A80
  clear A80
  by_cases c9 : t148 = true
  ·
   subst c9
   have H1 : ((impl_IsPoint.f a1_0 a1_1).bind fun t149 => (if t149 = true then ((impl_IsPoint.f a2_0 a2_1).bind fun t150 => (impl_SideOf.j0 k (!t150) a0_0 a0_1 a1_0 a1_1 a2_0 a2_1)) else (impl_SideOf.j0 k true a0_0 a0_1 a1_0 a1_1 a2_0 a2_1))) = some r := by rw [if_pos rfl] at H; exact H
   clear H
   have H := H1
   clear H1
   replace H := Option.bind_eq_some_iff.mp H
   obtain ⟨t149, A100, H⟩ := H
   replace H : (if t149 = true then ((impl_IsPoint.f a2_0 a2_1).bind fun t150 => (impl_SideOf.j0 k (!t150) a0_0 a0_1 a1_0 a1_1 a2_0 a2_1)) else (impl_SideOf.j0 k true a0_0 a0_1 a1_0 a1_1 a2_0 a2_1)) = some r := H
   have A10 := Aside0.mk A100
   clear A100
   by_cases c11 : t149 = true
   ·
    subst c11
    have H1 : ((impl_IsPoint.f a2_0 a2_1).bind fun t150 => (impl_SideOf.j0 k (!t150) a0_0 a0_1 a1_0 a1_1 a2_0 a2_1)) = some r := by rw [if_pos rfl] at H; exact H
    clear H
    have H := H1
    clear H1
    replace H := Option.bind_eq_some_iff.mp H
    obtain ⟨t150, A120, H⟩ := H
    replace H : (impl_SideOf.j0 k (!t150) a0_0 a0_1 a1_0 a1_1 a2_0 a2_1) = some r := H
    have A12 := Aside0.mk A120
    clear A120
    have H' := Aside0.mk H
    clear H
    have hnb13 := NB145_146.out
    have hnc13 := NB146_145.out
    have hnb14 := NB145_147.out
    have hnc14 := NB147_145.out
    obtain ⟨hcz15_0, hcz15_1⟩ := Hd.c2_ BK145.out
    obtain ⟨hfz15_0, hfz15_1⟩ := Hd.f2_ BK145.out
    go_wp2_with (first | ((with_reducible refine gate_callee (f := 45) rfl ?_); refine goesL_ (some 8) rfl rfl Try.func45 (by kernel_rfl) rfl #[.agg #[.int .i64 a0_0, .int .i64 a0_1]] rfl Hd.m_ ?_; (with_reducible refine (impl_IsPoint.calls a0_0 a0_1 true _ A8.out).mono ?_); rintro e w16 ⟨rfl, hb⟩; refine ⟨_, rfl, ?_⟩; replace BK145 := Aside0.mk (Hd.kb_ BK145 hb); replace BK146 := Aside0.mk (Hd.kb_ BK146 hb); replace BK147 := Aside0.mk (Hd.kb_ BK147 hb); replace HB := Aside0.mk (below_step Hd.b_ hb); (try clear hb); (try clear hb2); (try clear hk); (try clear hi); have hnb17 := NB146_147.out; have hnc17 := NB147_146.out; obtain ⟨hcz18_0, hcz18_1⟩ := Hd.c2_ BK146.out; obtain ⟨hfz18_0, hfz18_1⟩ := Hd.f2_ BK146.out) | (go_at_call 45; (with_reducible refine (impl_IsPoint.calls a1_0 a1_1 true _ A10.out).mono ?_); rintro e w19 ⟨rfl, hb⟩; replace BK145 := Aside0.mk (Hd.kb_ BK145 hb); replace BK146 := Aside0.mk (Hd.kb_ BK146 hb); replace BK147 := Aside0.mk (Hd.kb_ BK147 hb); replace HB := Aside0.mk (below_step Hd.b_ hb); (try clear hb); (try clear hb2); (try clear hk); (try clear hi); obtain ⟨hcz20_0, hcz20_1⟩ := Hd.c2_ BK147.out; obtain ⟨hfz20_0, hfz20_1⟩ := Hd.f2_ BK147.out) | (go_at_call 45; (with_reducible refine (impl_IsPoint.calls a2_0 a2_1 t150 _ A12.out).mono ?_); rintro e w21 ⟨rfl, hb⟩; replace BK145 := Aside0.mk (Hd.kb_ BK145 hb); replace BK146 := Aside0.mk (Hd.kb_ BK146 hb); replace BK147 := Aside0.mk (Hd.kb_ BK147 hb); replace HB := Aside0.mk (below_step Hd.b_ hb); (try clear hb); (try clear hb2); (try clear hk); (try clear hi)))
    go_meet
    case rel => exact ⟨_, (!t150), (by first | rfl | (simp; done) | (simp [*]; done)), H', ⟨by first | omega | exact Nat.le_refl _⟩, ⟨by (with_reducible repeat (first | refine blk_drewN ?_ _ | refine blk_drew ?_ | refine blk_alloc ?_ _)); exact BK145.out⟩, ⟨by (with_reducible repeat (first | refine blk_drewN ?_ _ | refine blk_drew ?_ | refine blk_alloc ?_ _)); exact BK146.out⟩, ⟨by (with_reducible repeat (first | refine blk_drewN ?_ _ | refine blk_drew ?_ | refine blk_alloc ?_ _)); exact BK147.out⟩, ⟨Hd.b_⟩⟩
   ·
    replace c11 := Bool.eq_false_iff.mpr c11
    subst c11
    have H1 : (impl_SideOf.j0 k true a0_0 a0_1 a1_0 a1_1 a2_0 a2_1) = some r := by rw [if_neg (show ¬ (false = true) by decide)] at H; exact H
    clear H
    have H := H1
    clear H1
    have H' := Aside0.mk H
    clear H
    have hnb22 := NB145_146.out
    have hnc22 := NB146_145.out
    have hnb23 := NB145_147.out
    have hnc23 := NB147_145.out
    obtain ⟨hcz24_0, hcz24_1⟩ := Hd.c2_ BK145.out
    obtain ⟨hfz24_0, hfz24_1⟩ := Hd.f2_ BK145.out
    go_wp2_with (first | ((with_reducible refine gate_callee (f := 45) rfl ?_); refine goesL_ (some 8) rfl rfl Try.func45 (by kernel_rfl) rfl #[.agg #[.int .i64 a0_0, .int .i64 a0_1]] rfl Hd.m_ ?_; (with_reducible refine (impl_IsPoint.calls a0_0 a0_1 true _ A8.out).mono ?_); rintro e w25 ⟨rfl, hb⟩; refine ⟨_, rfl, ?_⟩; replace BK145 := Aside0.mk (Hd.kb_ BK145 hb); replace BK146 := Aside0.mk (Hd.kb_ BK146 hb); replace BK147 := Aside0.mk (Hd.kb_ BK147 hb); replace HB := Aside0.mk (below_step Hd.b_ hb); (try clear hb); (try clear hb2); (try clear hk); (try clear hi); have hnb26 := NB146_147.out; have hnc26 := NB147_146.out; obtain ⟨hcz27_0, hcz27_1⟩ := Hd.c2_ BK146.out; obtain ⟨hfz27_0, hfz27_1⟩ := Hd.f2_ BK146.out) | (go_at_call 45; (with_reducible refine (impl_IsPoint.calls a1_0 a1_1 false _ A10.out).mono ?_); rintro e w28 ⟨rfl, hb⟩; replace BK145 := Aside0.mk (Hd.kb_ BK145 hb); replace BK146 := Aside0.mk (Hd.kb_ BK146 hb); replace BK147 := Aside0.mk (Hd.kb_ BK147 hb); replace HB := Aside0.mk (below_step Hd.b_ hb); (try clear hb); (try clear hb2); (try clear hk); (try clear hi)))
    go_meet
    case rel => exact ⟨_, (true), (by first | rfl | (simp; done) | (simp [*]; done)), H', ⟨by first | omega | exact Nat.le_refl _⟩, ⟨by (with_reducible repeat (first | refine blk_drewN ?_ _ | refine blk_drew ?_ | refine blk_alloc ?_ _)); exact BK145.out⟩, ⟨by (with_reducible repeat (first | refine blk_drewN ?_ _ | refine blk_drew ?_ | refine blk_alloc ?_ _)); exact BK146.out⟩, ⟨by (with_reducible repeat (first | refine blk_drewN ?_ _ | refine blk_drew ?_ | refine blk_alloc ?_ _)); exact BK147.out⟩, ⟨Hd.b_⟩⟩
  ·
   replace c9 := Bool.eq_false_iff.mpr c9
   subst c9
   have H1 : (impl_SideOf.j0 k true a0_0 a0_1 a1_0 a1_1 a2_0 a2_1) = some r := by rw [if_neg (show ¬ (false = true) by decide)] at H; exact H
   clear H
   have H := H1
   clear H1
   have H' := Aside0.mk H
   clear H
   have hnb29 := NB145_146.out
   have hnc29 := NB146_145.out
   have hnb30 := NB145_147.out
   have hnc30 := NB147_145.out
   obtain ⟨hcz31_0, hcz31_1⟩ := Hd.c2_ BK145.out
   obtain ⟨hfz31_0, hfz31_1⟩ := Hd.f2_ BK145.out
   go_wp2_with (first | ((with_reducible refine gate_callee (f := 45) rfl ?_); refine goesL_ (some 8) rfl rfl Try.func45 (by kernel_rfl) rfl #[.agg #[.int .i64 a0_0, .int .i64 a0_1]] rfl Hd.m_ ?_; (with_reducible refine (impl_IsPoint.calls a0_0 a0_1 false _ A8.out).mono ?_); rintro e w32 ⟨rfl, hb⟩; refine ⟨_, rfl, ?_⟩; replace BK145 := Aside0.mk (Hd.kb_ BK145 hb); replace BK146 := Aside0.mk (Hd.kb_ BK146 hb); replace BK147 := Aside0.mk (Hd.kb_ BK147 hb); replace HB := Aside0.mk (below_step Hd.b_ hb); (try clear hb); (try clear hb2); (try clear hk); (try clear hi)))
   go_meet
   case rel => exact ⟨_, (true), (by first | rfl | (simp; done) | (simp [*]; done)), H', ⟨by first | omega | exact Nat.le_refl _⟩, ⟨by (with_reducible repeat (first | refine blk_drewN ?_ _ | refine blk_drew ?_ | refine blk_alloc ?_ _)); exact BK145.out⟩, ⟨by (with_reducible repeat (first | refine blk_drewN ?_ _ | refine blk_drew ?_ | refine blk_alloc ?_ _)); exact BK146.out⟩, ⟨by (with_reducible repeat (first | refine blk_drewN ?_ _ | refine blk_drew ?_ | refine blk_alloc ?_ _)); exact BK147.out⟩, ⟨Hd.b_⟩⟩
 case rest =>
  clear HC4
  try clear c1
  try clear c2
  try clear p2
  try clear c3
  try clear c4
  try clear c9
  try clear c11
  try clear c13
  try clear c14
  try clear c17
  try clear c22
  try clear c23
  try clear c26
  try clear c29
  try clear c30
  try clear hcz15_0
  try clear hcz15_1
  try clear hcz18_0
  try clear hcz18_1
  try clear hcz20_0
  try clear hcz20_1
  try clear hcz24_0
  try clear hcz24_1
  try clear hcz27_0
  try clear hcz27_1
  try clear hcz31_0
  try clear hcz31_1
  try clear hfz15_0
  try clear hfz15_1
  try clear hfz18_0
  try clear hfz18_1
  try clear hfz20_0
  try clear hfz20_1
  try clear hfz24_0
  try clear hfz24_1
  try clear hfz27_0
  try clear hfz27_1
  try clear hfz31_0
  try clear hfz31_1
  obtain ⟨kq, x19_3, rfl, HA, HJ3, BK145, BK146, BK147, HB⟩ := hcut
  cases kq with
  | zero => exact absurd HA.out (by simp [impl_SideOf.j0])
  | succ kj3 =>
   have H := HA.out
   clear HA
   simp only [impl_SideOf.j0] at H
   by_cases c33 : x19_3 = true
   ·
    subst c33
    have H1 : (some 0) = some r := by rw [if_pos rfl] at H; exact H
    clear H
    have H := H1
    clear H1
    obtain rfl := Option.some.inj H
    go_wp2
    go_ret
    exact ⟨Hd.e_, Hd.b_⟩
   ·
    replace c33 := Bool.eq_false_iff.mpr c33
    subst c33
    have H1 : ((impl_cross.f a0_0 a0_1 a1_0 a1_1 a2_0 a2_1).bind fun t151 => ((cmp_Compare_int.f t151 0).bind fun t152 => (some t152))) = some r := by rw [if_neg (show ¬ (false = true) by decide)] at H; exact H
    clear H
    have H := H1
    clear H1
    replace H := Option.bind_eq_some_iff.mp H
    obtain ⟨t151, A340, H⟩ := H
    replace H : ((cmp_Compare_int.f t151 0).bind fun t152 => (some t152)) = some r := H
    have A34 := Aside0.mk A340
    clear A340
    replace H := Option.bind_eq_some_iff.mp H
    obtain ⟨t152, A350, H⟩ := H
    replace H : (some t152) = some r := H
    have A35 := Aside0.mk A350
    clear A350
    obtain rfl := Option.some.inj H
    have hnb36 := NB145_146.out
    have hnc36 := NB146_145.out
    have hnb37 := NB145_147.out
    have hnc37 := NB147_145.out
    obtain ⟨hcz38_0, hcz38_1⟩ := Hd.c2_ BK145.out
    obtain ⟨hfz38_0, hfz38_1⟩ := Hd.f2_ BK145.out
    have hnb39 := NB146_147.out
    have hnc39 := NB147_146.out
    obtain ⟨hcz40_0, hcz40_1⟩ := Hd.c2_ BK146.out
    obtain ⟨hfz40_0, hfz40_1⟩ := Hd.f2_ BK146.out
    obtain ⟨hcz41_0, hcz41_1⟩ := Hd.c2_ BK147.out
    obtain ⟨hfz41_0, hfz41_1⟩ := Hd.f2_ BK147.out
    go_wp2_with (first | ((with_reducible refine gate_callee (f := 109) rfl ?_); refine goesL_ (some 23) rfl rfl Try.func109 (by kernel_rfl) rfl #[.agg #[.int .i64 a0_0, .int .i64 a0_1], .agg #[.int .i64 a1_0, .int .i64 a1_1], .agg #[.int .i64 a2_0, .int .i64 a2_1]] rfl Hd.m_ ?_; (with_reducible refine (impl_cross.calls a0_0 a0_1 a1_0 a1_1 a2_0 a2_1 t151 _ A34.out).mono ?_); rintro e w42 ⟨rfl, hb⟩; refine ⟨_, rfl, ?_⟩; replace BK145 := Aside0.mk (Hd.kb_ BK145 hb); replace BK146 := Aside0.mk (Hd.kb_ BK146 hb); replace BK147 := Aside0.mk (Hd.kb_ BK147 hb); replace HB := Aside0.mk (below_step Hd.b_ hb); (try clear hb); (try clear hb2); (try clear hk); (try clear hi)) | ((with_reducible refine gate_callee (f := 98) rfl ?_); refine goesL_ (some 24) rfl rfl Try.func98 (by kernel_rfl) rfl #[.int .i64 t151, .int .i64 0] rfl Hd.m_ ?_; (with_reducible refine (cmp_Compare_int.calls t151 0 t152 _ A35.out).mono ?_); rintro e w' ⟨rfl, ⟨nd, rfl⟩⟩; refine ⟨_, rfl, ?_⟩))
    go_ret
    exact ⟨Hd.e_, Hd.b_⟩
def impl_IsOn.f (k : Nat) (a0_0 : Int) (a0_1 : Int) (a0_2 : Int) (a0_3 : Int) (a1_0 : Int) (a1_1 : Int) : Option (Bool) := (impl_IsSegment.f a0_0 a0_1 a0_2 a0_3).bind fun t155 => (if t155 = true then ((impl_IsPoint.f a1_0 a1_1).bind fun t156 => (if t156 = true then ((impl_SideOf.f k a0_0 a0_1 a0_2 a0_3 a1_0 a1_1).bind fun t157 => (if t157 = 0 then ((impl_InRange.f a1_0 (mn a0_0 a0_2) (mx a0_0 a0_2)).bind fun t158 => (if t158 = true then ((impl_InRange.f a1_1 (mn a0_1 a0_3) (mx a0_1 a0_3)).bind fun t159 => (some t159)) else (some false))) else (some false))) else (some false))) else (some false))
set_option maxHeartbeats 8000000 in
set_option maxRecDepth 100000 in
theorem impl_IsOn.calls (k : Nat) (a0_0 : Int) (a0_1 : Int) (a0_2 : Int) (a0_3 : Int) (a1_0 : Int) (a1_1 : Int) (r : Bool) (w : World) (h : impl_IsOn.f k a0_0 a0_1 a0_2 a0_3 a1_0 a1_1 = some r) :
  Calls Try.prog 91 #[.agg #[.int .i64 a0_0, .int .i64 a0_1, .int .i64 a0_2, .int .i64 a0_3], .agg #[.int .i64 a1_0, .int .i64 a1_1]] w fun e w' => e = .returned (.bool r) ∧ Below w.heap.size w w' := by
 have hu53 := Try.underlying53
 have hu27 := Try.underlying27
 have HB := Aside0.mk (Below.refl w.heap.size w)
 have H : ((impl_IsSegment.f a0_0 a0_1 a0_2 a0_3).bind fun t155 => (if t155 = true then ((impl_IsPoint.f a1_0 a1_1).bind fun t156 => (if t156 = true then ((impl_SideOf.f k a0_0 a0_1 a0_2 a0_3 a1_0 a1_1).bind fun t157 => (if t157 = 0 then ((impl_InRange.f a1_0 (mn a0_0 a0_2) (mx a0_0 a0_2)).bind fun t158 => (if t158 = true then ((impl_InRange.f a1_1 (mn a0_1 a0_3) (mx a0_1 a0_3)).bind fun t159 => (some t159)) else (some false))) else (some false))) else (some false))) else (some false))) = some r := h
 clear h
 replace H := Option.bind_eq_some_iff.mp H
 obtain ⟨t155, A30, H⟩ := H
 replace H : (if t155 = true then ((impl_IsPoint.f a1_0 a1_1).bind fun t156 => (if t156 = true then ((impl_SideOf.f k a0_0 a0_1 a0_2 a0_3 a1_0 a1_1).bind fun t157 => (if t157 = 0 then ((impl_InRange.f a1_0 (mn a0_0 a0_2) (mx a0_0 a0_2)).bind fun t158 => (if t158 = true then ((impl_InRange.f a1_1 (mn a0_1 a0_3) (mx a0_1 a0_3)).bind fun t159 => (some t159)) else (some false))) else (some false))) else (some false))) else (some false)) = some r := H
 have A3 := Aside0.mk A30
 clear A30
 by_cases c4 : t155 = true
 ·
  subst c4
  have H1 : ((impl_IsPoint.f a1_0 a1_1).bind fun t156 => (if t156 = true then ((impl_SideOf.f k a0_0 a0_1 a0_2 a0_3 a1_0 a1_1).bind fun t157 => (if t157 = 0 then ((impl_InRange.f a1_0 (mn a0_0 a0_2) (mx a0_0 a0_2)).bind fun t158 => (if t158 = true then ((impl_InRange.f a1_1 (mn a0_1 a0_3) (mx a0_1 a0_3)).bind fun t159 => (some t159)) else (some false))) else (some false))) else (some false))) = some r := by rw [if_pos rfl] at H; exact H
  clear H
  have H := H1
  clear H1
  replace H := Option.bind_eq_some_iff.mp H
  obtain ⟨t156, A50, H⟩ := H
  replace H : (if t156 = true then ((impl_SideOf.f k a0_0 a0_1 a0_2 a0_3 a1_0 a1_1).bind fun t157 => (if t157 = 0 then ((impl_InRange.f a1_0 (mn a0_0 a0_2) (mx a0_0 a0_2)).bind fun t158 => (if t158 = true then ((impl_InRange.f a1_1 (mn a0_1 a0_3) (mx a0_1 a0_3)).bind fun t159 => (some t159)) else (some false))) else (some false))) else (some false)) = some r := H
  have A5 := Aside0.mk A50
  clear A50
  by_cases c6 : t156 = true
  ·
   subst c6
   have H1 : ((impl_SideOf.f k a0_0 a0_1 a0_2 a0_3 a1_0 a1_1).bind fun t157 => (if t157 = 0 then ((impl_InRange.f a1_0 (mn a0_0 a0_2) (mx a0_0 a0_2)).bind fun t158 => (if t158 = true then ((impl_InRange.f a1_1 (mn a0_1 a0_3) (mx a0_1 a0_3)).bind fun t159 => (some t159)) else (some false))) else (some false))) = some r := by rw [if_pos rfl] at H; exact H
   clear H
   have H := H1
   clear H1
   replace H := Option.bind_eq_some_iff.mp H
   obtain ⟨t157, A70, H⟩ := H
   replace H : (if t157 = 0 then ((impl_InRange.f a1_0 (mn a0_0 a0_2) (mx a0_0 a0_2)).bind fun t158 => (if t158 = true then ((impl_InRange.f a1_1 (mn a0_1 a0_3) (mx a0_1 a0_3)).bind fun t159 => (some t159)) else (some false))) else (some false)) = some r := H
   have A7 := Aside0.mk A70
   clear A70
   by_cases c8 : t157 = 0
   ·
    rw [if_pos c8] at H
    have c8b0 : (t157 == 0) = true := beq_iff_eq.mpr c8
    have c8b1 : (t157 != 0) = false := bne_eq_false_iff_eq.mpr c8
    clear c8
    obtain ⟨ji9, hji9⟩ : ∃ j_ : Int, (mn a0_0 a0_2) = j_ := ⟨_, rfl⟩
    replace H : ((impl_InRange.f a1_0 (ji9) (mx a0_0 a0_2)).bind fun t158 => (if t158 = true then ((impl_InRange.f a1_1 (mn a0_1 a0_3) (mx a0_1 a0_3)).bind fun t159 => (some t159)) else (some false))) = some r := by first | (rw [hji9] at H; exact H) | (simp only [hji9] at H ⊢; exact H)
    (try rw [hji9] at A3)
    (try rw [hji9] at A5)
    (try rw [hji9] at A7)
    have hji9_ : (if a0_2 < a0_0 then a0_2 else a0_0) = ji9 := hji9
    obtain ⟨ji10, hji10⟩ : ∃ j_ : Int, (mx a0_0 a0_2) = j_ := ⟨_, rfl⟩
    replace H : ((impl_InRange.f a1_0 (ji9) (ji10)).bind fun t158 => (if t158 = true then ((impl_InRange.f a1_1 (mn a0_1 a0_3) (mx a0_1 a0_3)).bind fun t159 => (some t159)) else (some false))) = some r := by first | (rw [hji10] at H; exact H) | (simp only [hji10] at H ⊢; exact H)
    (try rw [hji10] at A3)
    (try rw [hji10] at A5)
    (try rw [hji10] at A7)
    have hji10_ : (if a0_0 < a0_2 then a0_2 else a0_0) = ji10 := hji10
    replace H := Option.bind_eq_some_iff.mp H
    obtain ⟨t158, A110, H⟩ := H
    replace H : (if t158 = true then ((impl_InRange.f a1_1 (mn a0_1 a0_3) (mx a0_1 a0_3)).bind fun t159 => (some t159)) else (some false)) = some r := H
    have A11 := Aside0.mk A110
    clear A110
    by_cases c12 : t158 = true
    ·
     subst c12
     have H1 : ((impl_InRange.f a1_1 (mn a0_1 a0_3) (mx a0_1 a0_3)).bind fun t159 => (some t159)) = some r := by rw [if_pos rfl] at H; exact H
     clear H
     have H := H1
     clear H1
     obtain ⟨ji13, hji13⟩ : ∃ j_ : Int, (mn a0_1 a0_3) = j_ := ⟨_, rfl⟩
     replace H : ((impl_InRange.f a1_1 (ji13) (mx a0_1 a0_3)).bind fun t159 => (some t159)) = some r := by first | (rw [hji13] at H; exact H) | (simp only [hji13] at H ⊢; exact H)
     (try rw [hji13] at A3)
     (try rw [hji13] at A5)
     (try rw [hji13] at A7)
     (try rw [hji13] at A11)
     have hji13_ : (if a0_3 < a0_1 then a0_3 else a0_1) = ji13 := hji13
     obtain ⟨ji14, hji14⟩ : ∃ j_ : Int, (mx a0_1 a0_3) = j_ := ⟨_, rfl⟩
     replace H : ((impl_InRange.f a1_1 (ji13) (ji14)).bind fun t159 => (some t159)) = some r := by first | (rw [hji14] at H; exact H) | (simp only [hji14] at H ⊢; exact H)
     (try rw [hji14] at A3)
     (try rw [hji14] at A5)
     (try rw [hji14] at A7)
     (try rw [hji14] at A11)
     have hji14_ : (if a0_1 < a0_3 then a0_3 else a0_1) = ji14 := hji14
     replace H := Option.bind_eq_some_iff.mp H
     obtain ⟨t159, A150, H⟩ := H
     replace H : (some t159) = some r := H
     have A15 := Aside0.mk A150
     clear A150
     obtain rfl := Option.some.inj H
     go_enter Try.func91, Try.ntmps91
     go_wp2_with (first | ((with_reducible refine gate_dst (N := 2) rfl ?_); (try (refine gate_guard (by rfl) ?_; dsimp only)); refine Hd.box_ 2 (#[.int .i64 a0_0, .int .i64 a0_1, .int .i64 a0_2, .int .i64 a0_3]) 53 ?_; intro gb153 hg w16 hbox hb; have BK153 := Aside0.mk (hbox); have GW153 := Aside0.mk ((Hd.g_ hg Hd.b_ : w.heap.size ≤ gb153)); have GE153 := Aside0.mk ((Hd.g_ hg Hd.b_ : w.heap.size ≤ gb153)); replace HB := Aside0.mk (below_step Hd.b_ hb); clear hb hbox hg) | ((with_reducible refine gate_dst (N := 3) rfl ?_); (try (refine gate_guard (by rfl) ?_; dsimp only)); refine Hd.box_ 3 (#[.int .i64 a1_0, .int .i64 a1_1]) 27 ?_; intro gb154 hg w17 hbox hb; have BK154 := Aside0.mk (hbox); have GW154 := Aside0.mk ((Hd.g_ hg Hd.b_ : w.heap.size ≤ gb154)); have GE154 := Aside0.mk ((Hd.g_ hg Hd.b_ : w.heap.size ≤ gb154)); replace HB := Aside0.mk (below_step Hd.b_ hb); have NB153_154 := Aside0.mk ((Hd.lt_ BK153 hg)); have NB154_153 := Aside0.mk ((Hd.gt_ BK153 hg)); replace BK153 := Aside0.mk (Hd.kb_ BK153 hb); clear hb hbox hg; have hnb18 := NB153_154.out; have hnc18 := NB154_153.out; obtain ⟨hcz19_0, hcz19_1, hcz19_2, hcz19_3⟩ := Hd.c4_ BK153.out; obtain ⟨hfz19_0, hfz19_1, hfz19_2, hfz19_3⟩ := Hd.f4_ BK153.out) | ((with_reducible refine gate_callee (f := 83) rfl ?_); refine goesL_ (some 6) rfl rfl Try.func83 (by kernel_rfl) rfl #[.agg #[.int .i64 a0_0, .int .i64 a0_1, .int .i64 a0_2, .int .i64 a0_3]] rfl Hd.m_ ?_; (with_reducible refine (impl_IsSegment.calls a0_0 a0_1 a0_2 a0_3 true _ A3.out).mono ?_); rintro e w20 ⟨rfl, hb⟩; refine ⟨_, rfl, ?_⟩; replace BK153 := Aside0.mk (Hd.kb_ BK153 hb); replace BK154 := Aside0.mk (Hd.kb_ BK154 hb); replace HB := Aside0.mk (below_step Hd.b_ hb); (try clear hb); (try clear hb2); (try clear hk); (try clear hi); obtain ⟨hcz21_0, hcz21_1⟩ := Hd.c2_ BK154.out; obtain ⟨hfz21_0, hfz21_1⟩ := Hd.f2_ BK154.out) | (go_at_call 45; (with_reducible refine (impl_IsPoint.calls a1_0 a1_1 true _ A5.out).mono ?_); rintro e w22 ⟨rfl, hb⟩; replace BK153 := Aside0.mk (Hd.kb_ BK153 hb); replace BK154 := Aside0.mk (Hd.kb_ BK154 hb); replace HB := Aside0.mk (below_step Hd.b_ hb); (try clear hb); (try clear hb2); (try clear hk); (try clear hi); obtain ⟨hcz23_0, hcz23_1, hcz23_2, hcz23_3⟩ := Hd.c4_ BK153.out; obtain ⟨hfz23_0, hfz23_1, hfz23_2, hfz23_3⟩ := Hd.f4_ BK153.out; obtain ⟨hcz24_0, hcz24_1⟩ := Hd.c2_ BK154.out; obtain ⟨hfz24_0, hfz24_1⟩ := Hd.f2_ BK154.out) | (go_at_call 92; (with_reducible refine (impl_SideOf.calls k a0_0 a0_1 a0_2 a0_3 a1_0 a1_1 t157 _ A7.out).mono ?_); rintro e w25 ⟨rfl, hb⟩; replace BK153 := Aside0.mk (Hd.kb_ BK153 hb); replace BK154 := Aside0.mk (Hd.kb_ BK154 hb); replace HB := Aside0.mk (below_step Hd.b_ hb); (try clear hb); (try clear hb2); (try clear hk); (try clear hi); obtain ⟨hcz26_0, hcz26_1⟩ := Hd.c2_ BK154.out; obtain ⟨hfz26_0, hfz26_1⟩ := Hd.f2_ BK154.out; obtain ⟨hcz27_0, hcz27_1, hcz27_2, hcz27_3⟩ := Hd.c4_ BK153.out; obtain ⟨hfz27_0, hfz27_1, hfz27_2, hfz27_3⟩ := Hd.f4_ BK153.out) | (go_at_call 65; (with_reducible refine (impl_InRange.calls a1_0 ji9 ji10 true _ A11.out).mono ?_); rintro e w' ⟨rfl, ⟨nd, rfl⟩⟩) | (go_at_call 65; (with_reducible refine (impl_InRange.calls a1_1 ji13 ji14 t159 _ A15.out).mono ?_); rintro e w' ⟨rfl, ⟨nd, rfl⟩⟩))
     go_ret
     exact ⟨by first | rfl | (simp [errW_none, errW_some] <;> rfl) | (simp only [← hji9, ← hji10, ← hji13, ← hji14]; first | rfl | (simp [errW_none, errW_some] <;> rfl)) | (simp [*, errW_none, errW_some] <;> rfl), Hd.b_⟩
    ·
     replace c12 := Bool.eq_false_iff.mpr c12
     subst c12
     have H1 : (some false) = some r := by rw [if_neg (show ¬ (false = true) by decide)] at H; exact H
     clear H
     have H := H1
     clear H1
     obtain rfl := Option.some.inj H
     go_enter Try.func91, Try.ntmps91
     go_wp2_with (first | ((with_reducible refine gate_dst (N := 2) rfl ?_); (try (refine gate_guard (by rfl) ?_; dsimp only)); refine Hd.box_ 2 (#[.int .i64 a0_0, .int .i64 a0_1, .int .i64 a0_2, .int .i64 a0_3]) 53 ?_; intro gb153 hg w28 hbox hb; have BK153 := Aside0.mk (hbox); have GW153 := Aside0.mk ((Hd.g_ hg Hd.b_ : w.heap.size ≤ gb153)); have GE153 := Aside0.mk ((Hd.g_ hg Hd.b_ : w.heap.size ≤ gb153)); replace HB := Aside0.mk (below_step Hd.b_ hb); clear hb hbox hg) | ((with_reducible refine gate_dst (N := 3) rfl ?_); (try (refine gate_guard (by rfl) ?_; dsimp only)); refine Hd.box_ 3 (#[.int .i64 a1_0, .int .i64 a1_1]) 27 ?_; intro gb154 hg w29 hbox hb; have BK154 := Aside0.mk (hbox); have GW154 := Aside0.mk ((Hd.g_ hg Hd.b_ : w.heap.size ≤ gb154)); have GE154 := Aside0.mk ((Hd.g_ hg Hd.b_ : w.heap.size ≤ gb154)); replace HB := Aside0.mk (below_step Hd.b_ hb); have NB153_154 := Aside0.mk ((Hd.lt_ BK153 hg)); have NB154_153 := Aside0.mk ((Hd.gt_ BK153 hg)); replace BK153 := Aside0.mk (Hd.kb_ BK153 hb); clear hb hbox hg; have hnb30 := NB153_154.out; have hnc30 := NB154_153.out; obtain ⟨hcz31_0, hcz31_1, hcz31_2, hcz31_3⟩ := Hd.c4_ BK153.out; obtain ⟨hfz31_0, hfz31_1, hfz31_2, hfz31_3⟩ := Hd.f4_ BK153.out) | ((with_reducible refine gate_callee (f := 83) rfl ?_); refine goesL_ (some 6) rfl rfl Try.func83 (by kernel_rfl) rfl #[.agg #[.int .i64 a0_0, .int .i64 a0_1, .int .i64 a0_2, .int .i64 a0_3]] rfl Hd.m_ ?_; (with_reducible refine (impl_IsSegment.calls a0_0 a0_1 a0_2 a0_3 true _ A3.out).mono ?_); rintro e w32 ⟨rfl, hb⟩; refine ⟨_, rfl, ?_⟩; replace BK153 := Aside0.mk (Hd.kb_ BK153 hb); replace BK154 := Aside0.mk (Hd.kb_ BK154 hb); replace HB := Aside0.mk (below_step Hd.b_ hb); (try clear hb); (try clear hb2); (try clear hk); (try clear hi); obtain ⟨hcz33_0, hcz33_1⟩ := Hd.c2_ BK154.out; obtain ⟨hfz33_0, hfz33_1⟩ := Hd.f2_ BK154.out) | (go_at_call 45; (with_reducible refine (impl_IsPoint.calls a1_0 a1_1 true _ A5.out).mono ?_); rintro e w34 ⟨rfl, hb⟩; replace BK153 := Aside0.mk (Hd.kb_ BK153 hb); replace BK154 := Aside0.mk (Hd.kb_ BK154 hb); replace HB := Aside0.mk (below_step Hd.b_ hb); (try clear hb); (try clear hb2); (try clear hk); (try clear hi); obtain ⟨hcz35_0, hcz35_1, hcz35_2, hcz35_3⟩ := Hd.c4_ BK153.out; obtain ⟨hfz35_0, hfz35_1, hfz35_2, hfz35_3⟩ := Hd.f4_ BK153.out; obtain ⟨hcz36_0, hcz36_1⟩ := Hd.c2_ BK154.out; obtain ⟨hfz36_0, hfz36_1⟩ := Hd.f2_ BK154.out) | (go_at_call 92; (with_reducible refine (impl_SideOf.calls k a0_0 a0_1 a0_2 a0_3 a1_0 a1_1 t157 _ A7.out).mono ?_); rintro e w37 ⟨rfl, hb⟩; replace BK153 := Aside0.mk (Hd.kb_ BK153 hb); replace BK154 := Aside0.mk (Hd.kb_ BK154 hb); replace HB := Aside0.mk (below_step Hd.b_ hb); (try clear hb); (try clear hb2); (try clear hk); (try clear hi); obtain ⟨hcz38_0, hcz38_1⟩ := Hd.c2_ BK154.out; obtain ⟨hfz38_0, hfz38_1⟩ := Hd.f2_ BK154.out; obtain ⟨hcz39_0, hcz39_1, hcz39_2, hcz39_3⟩ := Hd.c4_ BK153.out; obtain ⟨hfz39_0, hfz39_1, hfz39_2, hfz39_3⟩ := Hd.f4_ BK153.out) | (go_at_call 65; (with_reducible refine (impl_InRange.calls a1_0 ji9 ji10 false _ A11.out).mono ?_); rintro e w' ⟨rfl, ⟨nd, rfl⟩⟩))
     go_ret
     exact ⟨by first | rfl | (simp [errW_none, errW_some] <;> rfl) | (simp only [← hji9, ← hji10]; first | rfl | (simp [errW_none, errW_some] <;> rfl)) | (simp [*, errW_none, errW_some] <;> rfl), Hd.b_⟩
   ·
    rw [if_neg c8] at H
    have c8b0 : (t157 == 0) = false := beq_eq_false_iff_ne.mpr c8
    have c8b1 : (t157 != 0) = true := bne_iff_ne.mpr c8
    obtain rfl := Option.some.inj H
    go_enter Try.func91, Try.ntmps91
    go_wp2_with (first | ((with_reducible refine gate_dst (N := 2) rfl ?_); (try (refine gate_guard (by rfl) ?_; dsimp only)); refine Hd.box_ 2 (#[.int .i64 a0_0, .int .i64 a0_1, .int .i64 a0_2, .int .i64 a0_3]) 53 ?_; intro gb153 hg w40 hbox hb; have BK153 := Aside0.mk (hbox); have GW153 := Aside0.mk ((Hd.g_ hg Hd.b_ : w.heap.size ≤ gb153)); have GE153 := Aside0.mk ((Hd.g_ hg Hd.b_ : w.heap.size ≤ gb153)); replace HB := Aside0.mk (below_step Hd.b_ hb); clear hb hbox hg) | ((with_reducible refine gate_dst (N := 3) rfl ?_); (try (refine gate_guard (by rfl) ?_; dsimp only)); refine Hd.box_ 3 (#[.int .i64 a1_0, .int .i64 a1_1]) 27 ?_; intro gb154 hg w41 hbox hb; have BK154 := Aside0.mk (hbox); have GW154 := Aside0.mk ((Hd.g_ hg Hd.b_ : w.heap.size ≤ gb154)); have GE154 := Aside0.mk ((Hd.g_ hg Hd.b_ : w.heap.size ≤ gb154)); replace HB := Aside0.mk (below_step Hd.b_ hb); have NB153_154 := Aside0.mk ((Hd.lt_ BK153 hg)); have NB154_153 := Aside0.mk ((Hd.gt_ BK153 hg)); replace BK153 := Aside0.mk (Hd.kb_ BK153 hb); clear hb hbox hg; have hnb42 := NB153_154.out; have hnc42 := NB154_153.out; obtain ⟨hcz43_0, hcz43_1, hcz43_2, hcz43_3⟩ := Hd.c4_ BK153.out; obtain ⟨hfz43_0, hfz43_1, hfz43_2, hfz43_3⟩ := Hd.f4_ BK153.out) | ((with_reducible refine gate_callee (f := 83) rfl ?_); refine goesL_ (some 6) rfl rfl Try.func83 (by kernel_rfl) rfl #[.agg #[.int .i64 a0_0, .int .i64 a0_1, .int .i64 a0_2, .int .i64 a0_3]] rfl Hd.m_ ?_; (with_reducible refine (impl_IsSegment.calls a0_0 a0_1 a0_2 a0_3 true _ A3.out).mono ?_); rintro e w44 ⟨rfl, hb⟩; refine ⟨_, rfl, ?_⟩; replace BK153 := Aside0.mk (Hd.kb_ BK153 hb); replace BK154 := Aside0.mk (Hd.kb_ BK154 hb); replace HB := Aside0.mk (below_step Hd.b_ hb); (try clear hb); (try clear hb2); (try clear hk); (try clear hi); obtain ⟨hcz45_0, hcz45_1⟩ := Hd.c2_ BK154.out; obtain ⟨hfz45_0, hfz45_1⟩ := Hd.f2_ BK154.out) | (go_at_call 45; (with_reducible refine (impl_IsPoint.calls a1_0 a1_1 true _ A5.out).mono ?_); rintro e w46 ⟨rfl, hb⟩; replace BK153 := Aside0.mk (Hd.kb_ BK153 hb); replace BK154 := Aside0.mk (Hd.kb_ BK154 hb); replace HB := Aside0.mk (below_step Hd.b_ hb); (try clear hb); (try clear hb2); (try clear hk); (try clear hi); obtain ⟨hcz47_0, hcz47_1, hcz47_2, hcz47_3⟩ := Hd.c4_ BK153.out; obtain ⟨hfz47_0, hfz47_1, hfz47_2, hfz47_3⟩ := Hd.f4_ BK153.out; obtain ⟨hcz48_0, hcz48_1⟩ := Hd.c2_ BK154.out; obtain ⟨hfz48_0, hfz48_1⟩ := Hd.f2_ BK154.out) | (go_at_call 92; (with_reducible refine (impl_SideOf.calls k a0_0 a0_1 a0_2 a0_3 a1_0 a1_1 t157 _ A7.out).mono ?_); rintro e w49 ⟨rfl, hb⟩; replace BK153 := Aside0.mk (Hd.kb_ BK153 hb); replace BK154 := Aside0.mk (Hd.kb_ BK154 hb); replace HB := Aside0.mk (below_step Hd.b_ hb); (try clear hb); (try clear hb2); (try clear hk); (try clear hi)))
    go_ret
    exact ⟨Hd.e_, Hd.b_⟩
  ·
   replace c6 := Bool.eq_false_iff.mpr c6
   subst c6
   have H1 : (some false) = some r := by rw [if_neg (show ¬ (false = true) by decide)] at H; exact H
   clear H
   have H := H1
   clear H1
   obtain rfl := Option.some.inj H
   go_enter Try.func91, Try.ntmps91
   go_wp2_with (first | ((with_reducible refine gate_dst (N := 2) rfl ?_); (try (refine gate_guard (by rfl) ?_; dsimp only)); refine Hd.box_ 2 (#[.int .i64 a0_0, .int .i64 a0_1, .int .i64 a0_2, .int .i64 a0_3]) 53 ?_; intro gb153 hg w50 hbox hb; have BK153 := Aside0.mk (hbox); have GW153 := Aside0.mk ((Hd.g_ hg Hd.b_ : w.heap.size ≤ gb153)); have GE153 := Aside0.mk ((Hd.g_ hg Hd.b_ : w.heap.size ≤ gb153)); replace HB := Aside0.mk (below_step Hd.b_ hb); clear hb hbox hg) | ((with_reducible refine gate_dst (N := 3) rfl ?_); (try (refine gate_guard (by rfl) ?_; dsimp only)); refine Hd.box_ 3 (#[.int .i64 a1_0, .int .i64 a1_1]) 27 ?_; intro gb154 hg w51 hbox hb; have BK154 := Aside0.mk (hbox); have GW154 := Aside0.mk ((Hd.g_ hg Hd.b_ : w.heap.size ≤ gb154)); have GE154 := Aside0.mk ((Hd.g_ hg Hd.b_ : w.heap.size ≤ gb154)); replace HB := Aside0.mk (below_step Hd.b_ hb); have NB153_154 := Aside0.mk ((Hd.lt_ BK153 hg)); have NB154_153 := Aside0.mk ((Hd.gt_ BK153 hg)); replace BK153 := Aside0.mk (Hd.kb_ BK153 hb); clear hb hbox hg; have hnb52 := NB153_154.out; have hnc52 := NB154_153.out; obtain ⟨hcz53_0, hcz53_1, hcz53_2, hcz53_3⟩ := Hd.c4_ BK153.out; obtain ⟨hfz53_0, hfz53_1, hfz53_2, hfz53_3⟩ := Hd.f4_ BK153.out) | ((with_reducible refine gate_callee (f := 83) rfl ?_); refine goesL_ (some 6) rfl rfl Try.func83 (by kernel_rfl) rfl #[.agg #[.int .i64 a0_0, .int .i64 a0_1, .int .i64 a0_2, .int .i64 a0_3]] rfl Hd.m_ ?_; (with_reducible refine (impl_IsSegment.calls a0_0 a0_1 a0_2 a0_3 true _ A3.out).mono ?_); rintro e w54 ⟨rfl, hb⟩; refine ⟨_, rfl, ?_⟩; replace BK153 := Aside0.mk (Hd.kb_ BK153 hb); replace BK154 := Aside0.mk (Hd.kb_ BK154 hb); replace HB := Aside0.mk (below_step Hd.b_ hb); (try clear hb); (try clear hb2); (try clear hk); (try clear hi); obtain ⟨hcz55_0, hcz55_1⟩ := Hd.c2_ BK154.out; obtain ⟨hfz55_0, hfz55_1⟩ := Hd.f2_ BK154.out) | (go_at_call 45; (with_reducible refine (impl_IsPoint.calls a1_0 a1_1 false _ A5.out).mono ?_); rintro e w56 ⟨rfl, hb⟩; replace BK153 := Aside0.mk (Hd.kb_ BK153 hb); replace BK154 := Aside0.mk (Hd.kb_ BK154 hb); replace HB := Aside0.mk (below_step Hd.b_ hb); (try clear hb); (try clear hb2); (try clear hk); (try clear hi)))
   go_ret
   exact ⟨Hd.e_, Hd.b_⟩
 ·
  replace c4 := Bool.eq_false_iff.mpr c4
  subst c4
  have H1 : (some false) = some r := by rw [if_neg (show ¬ (false = true) by decide)] at H; exact H
  clear H
  have H := H1
  clear H1
  obtain rfl := Option.some.inj H
  go_enter Try.func91, Try.ntmps91
  go_wp2_with (first | ((with_reducible refine gate_dst (N := 2) rfl ?_); (try (refine gate_guard (by rfl) ?_; dsimp only)); refine Hd.box_ 2 (#[.int .i64 a0_0, .int .i64 a0_1, .int .i64 a0_2, .int .i64 a0_3]) 53 ?_; intro gb153 hg w57 hbox hb; have BK153 := Aside0.mk (hbox); have GW153 := Aside0.mk ((Hd.g_ hg Hd.b_ : w.heap.size ≤ gb153)); have GE153 := Aside0.mk ((Hd.g_ hg Hd.b_ : w.heap.size ≤ gb153)); replace HB := Aside0.mk (below_step Hd.b_ hb); clear hb hbox hg) | ((with_reducible refine gate_dst (N := 3) rfl ?_); (try (refine gate_guard (by rfl) ?_; dsimp only)); refine Hd.box_ 3 (#[.int .i64 a1_0, .int .i64 a1_1]) 27 ?_; intro gb154 hg w58 hbox hb; have BK154 := Aside0.mk (hbox); have GW154 := Aside0.mk ((Hd.g_ hg Hd.b_ : w.heap.size ≤ gb154)); have GE154 := Aside0.mk ((Hd.g_ hg Hd.b_ : w.heap.size ≤ gb154)); replace HB := Aside0.mk (below_step Hd.b_ hb); have NB153_154 := Aside0.mk ((Hd.lt_ BK153 hg)); have NB154_153 := Aside0.mk ((Hd.gt_ BK153 hg)); replace BK153 := Aside0.mk (Hd.kb_ BK153 hb); clear hb hbox hg; have hnb59 := NB153_154.out; have hnc59 := NB154_153.out; obtain ⟨hcz60_0, hcz60_1, hcz60_2, hcz60_3⟩ := Hd.c4_ BK153.out; obtain ⟨hfz60_0, hfz60_1, hfz60_2, hfz60_3⟩ := Hd.f4_ BK153.out) | ((with_reducible refine gate_callee (f := 83) rfl ?_); refine goesL_ (some 6) rfl rfl Try.func83 (by kernel_rfl) rfl #[.agg #[.int .i64 a0_0, .int .i64 a0_1, .int .i64 a0_2, .int .i64 a0_3]] rfl Hd.m_ ?_; (with_reducible refine (impl_IsSegment.calls a0_0 a0_1 a0_2 a0_3 false _ A3.out).mono ?_); rintro e w61 ⟨rfl, hb⟩; refine ⟨_, rfl, ?_⟩; replace BK153 := Aside0.mk (Hd.kb_ BK153 hb); replace BK154 := Aside0.mk (Hd.kb_ BK154 hb); replace HB := Aside0.mk (below_step Hd.b_ hb); (try clear hb); (try clear hb2); (try clear hk); (try clear hi)))
  go_ret
  exact ⟨Hd.e_, Hd.b_⟩
def impl_BeforePoint.f (a0_0 : Int) (a0_1 : Int) (a1_0 : Int) (a1_1 : Int) : Option (Bool) := if a0_1 < a1_1 then (some true) else (if a0_1 = a1_1 then (some (decide (a0_0 < a1_0))) else (some false))
set_option maxHeartbeats 8000000 in
set_option maxRecDepth 100000 in
theorem impl_BeforePoint.calls (a0_0 : Int) (a0_1 : Int) (a1_0 : Int) (a1_1 : Int) (r : Bool) (w : World) (h : impl_BeforePoint.f a0_0 a0_1 a1_0 a1_1 = some r) :
  Calls Try.prog 112 #[.agg #[.int .i64 a0_0, .int .i64 a0_1], .agg #[.int .i64 a1_0, .int .i64 a1_1]] w fun e w' => e = .returned (.bool r) ∧ Below w.heap.size w w' := by
 have hu27 := Try.underlying27
 have HB := Aside0.mk (Below.refl w.heap.size w)
 have H : (if a0_1 < a1_1 then (some true) else (if a0_1 = a1_1 then (some (decide (a0_0 < a1_0))) else (some false))) = some r := h
 clear h
 by_cases c3 : a0_1 < a1_1
 ·
  rw [if_pos c3] at H
  have c3b0 : decide (a0_1 < a1_1) = true := decide_eq_true c3
  clear c3
  obtain rfl := Option.some.inj H
  go_enter Try.func112, Try.ntmps112
  go_wp2_with (first | ((with_reducible refine gate_dst (N := 2) rfl ?_); refine Hd.box_ 2 (#[.int .i64 a0_0, .int .i64 a0_1]) 27 ?_; intro gb160 hg w4 hbox hb; have BK160 := Aside0.mk (hbox); have GW160 := Aside0.mk ((Hd.g_ hg Hd.b_ : w.heap.size ≤ gb160)); have GE160 := Aside0.mk ((Hd.g_ hg Hd.b_ : w.heap.size ≤ gb160)); replace HB := Aside0.mk (below_step Hd.b_ hb); clear hb hbox hg) | ((with_reducible refine gate_dst (N := 3) rfl ?_); refine Hd.box_ 3 (#[.int .i64 a1_0, .int .i64 a1_1]) 27 ?_; intro gb161 hg w5 hbox hb; have BK161 := Aside0.mk (hbox); have GW161 := Aside0.mk ((Hd.g_ hg Hd.b_ : w.heap.size ≤ gb161)); have GE161 := Aside0.mk ((Hd.g_ hg Hd.b_ : w.heap.size ≤ gb161)); replace HB := Aside0.mk (below_step Hd.b_ hb); have NB160_161 := Aside0.mk ((Hd.lt_ BK160 hg)); have NB161_160 := Aside0.mk ((Hd.gt_ BK160 hg)); replace BK160 := Aside0.mk (Hd.kb_ BK160 hb); clear hb hbox hg; have hnb6 := NB160_161.out; have hnc6 := NB161_160.out; obtain ⟨hcz7_0, hcz7_1⟩ := Hd.c2_ BK160.out; obtain ⟨hfz7_0, hfz7_1⟩ := Hd.f2_ BK160.out; obtain ⟨hcz8_0, hcz8_1⟩ := Hd.c2_ BK161.out; obtain ⟨hfz8_0, hfz8_1⟩ := Hd.f2_ BK161.out))
  go_ret
  exact ⟨Hd.e_, Hd.b_⟩
 ·
  rw [if_neg c3] at H
  have c3b0 : decide (a0_1 < a1_1) = false := decide_eq_false c3
  clear c3
  by_cases c9 : a0_1 = a1_1
  ·
   rw [if_pos c9] at H
   have c9b0 : (a0_1 == a1_1) = true := beq_iff_eq.mpr c9
   have c9b1 : (a0_1 != a1_1) = false := bne_eq_false_iff_eq.mpr c9
   clear c9
   obtain rfl := Option.some.inj H
   go_enter Try.func112, Try.ntmps112
   go_wp2_with (first | ((with_reducible refine gate_dst (N := 2) rfl ?_); refine Hd.box_ 2 (#[.int .i64 a0_0, .int .i64 a0_1]) 27 ?_; intro gb160 hg w10 hbox hb; have BK160 := Aside0.mk (hbox); have GW160 := Aside0.mk ((Hd.g_ hg Hd.b_ : w.heap.size ≤ gb160)); have GE160 := Aside0.mk ((Hd.g_ hg Hd.b_ : w.heap.size ≤ gb160)); replace HB := Aside0.mk (below_step Hd.b_ hb); clear hb hbox hg) | ((with_reducible refine gate_dst (N := 3) rfl ?_); refine Hd.box_ 3 (#[.int .i64 a1_0, .int .i64 a1_1]) 27 ?_; intro gb161 hg w11 hbox hb; have BK161 := Aside0.mk (hbox); have GW161 := Aside0.mk ((Hd.g_ hg Hd.b_ : w.heap.size ≤ gb161)); have GE161 := Aside0.mk ((Hd.g_ hg Hd.b_ : w.heap.size ≤ gb161)); replace HB := Aside0.mk (below_step Hd.b_ hb); have NB160_161 := Aside0.mk ((Hd.lt_ BK160 hg)); have NB161_160 := Aside0.mk ((Hd.gt_ BK160 hg)); replace BK160 := Aside0.mk (Hd.kb_ BK160 hb); clear hb hbox hg; have hnb12 := NB160_161.out; have hnc12 := NB161_160.out; obtain ⟨hcz13_0, hcz13_1⟩ := Hd.c2_ BK160.out; obtain ⟨hfz13_0, hfz13_1⟩ := Hd.f2_ BK160.out; obtain ⟨hcz14_0, hcz14_1⟩ := Hd.c2_ BK161.out; obtain ⟨hfz14_0, hfz14_1⟩ := Hd.f2_ BK161.out))
   go_ret
   exact ⟨Hd.e_, Hd.b_⟩
  ·
   rw [if_neg c9] at H
   have c9b0 : (a0_1 == a1_1) = false := beq_eq_false_iff_ne.mpr c9
   have c9b1 : (a0_1 != a1_1) = true := bne_iff_ne.mpr c9
   obtain rfl := Option.some.inj H
   go_enter Try.func112, Try.ntmps112
   go_wp2_with (first | ((with_reducible refine gate_dst (N := 2) rfl ?_); refine Hd.box_ 2 (#[.int .i64 a0_0, .int .i64 a0_1]) 27 ?_; intro gb160 hg w15 hbox hb; have BK160 := Aside0.mk (hbox); have GW160 := Aside0.mk ((Hd.g_ hg Hd.b_ : w.heap.size ≤ gb160)); have GE160 := Aside0.mk ((Hd.g_ hg Hd.b_ : w.heap.size ≤ gb160)); replace HB := Aside0.mk (below_step Hd.b_ hb); clear hb hbox hg) | ((with_reducible refine gate_dst (N := 3) rfl ?_); refine Hd.box_ 3 (#[.int .i64 a1_0, .int .i64 a1_1]) 27 ?_; intro gb161 hg w16 hbox hb; have BK161 := Aside0.mk (hbox); have GW161 := Aside0.mk ((Hd.g_ hg Hd.b_ : w.heap.size ≤ gb161)); have GE161 := Aside0.mk ((Hd.g_ hg Hd.b_ : w.heap.size ≤ gb161)); replace HB := Aside0.mk (below_step Hd.b_ hb); have NB160_161 := Aside0.mk ((Hd.lt_ BK160 hg)); have NB161_160 := Aside0.mk ((Hd.gt_ BK160 hg)); replace BK160 := Aside0.mk (Hd.kb_ BK160 hb); clear hb hbox hg; have hnb17 := NB160_161.out; have hnc17 := NB161_160.out; obtain ⟨hcz18_0, hcz18_1⟩ := Hd.c2_ BK160.out; obtain ⟨hfz18_0, hfz18_1⟩ := Hd.f2_ BK160.out; obtain ⟨hcz19_0, hcz19_1⟩ := Hd.c2_ BK161.out; obtain ⟨hfz19_0, hfz19_1⟩ := Hd.f2_ BK161.out))
   go_ret
   exact ⟨Hd.e_, Hd.b_⟩
def impl_TurnSegment.f (a0_0 : Int) (a0_1 : Int) (a0_2 : Int) (a0_3 : Int) : Option (Int × Int × Int × Int) := some (a0_2, a0_3, a0_0, a0_1)
set_option maxHeartbeats 8000000 in
set_option maxRecDepth 100000 in
theorem impl_TurnSegment.calls (a0_0 : Int) (a0_1 : Int) (a0_2 : Int) (a0_3 : Int) (r1 : Int) (r2 : Int) (r3 : Int) (r4 : Int) (w : World) (h : impl_TurnSegment.f a0_0 a0_1 a0_2 a0_3 = some (r1, r2, r3, r4)) :
  Calls Try.prog 121 #[.agg #[.int .i64 a0_0, .int .i64 a0_1, .int .i64 a0_2, .int .i64 a0_3]] w fun e w' => e = .returned (.agg #[.int .i64 r1, .int .i64 r2, .int .i64 r3, .int .i64 r4]) ∧ Below w.heap.size w w' := by
 have hu53 := Try.underlying53
 have hu27 := Try.underlying27
 have HB := Aside0.mk (Below.refl w.heap.size w)
 have H : (some (a0_2, a0_3, a0_0, a0_1)) = some (r1, r2, r3, r4) := h
 clear h
 simp only [Option.some.injEq, Prod.mk.injEq] at H
 obtain ⟨rfl, rfl, rfl, rfl⟩ := H
 go_enter Try.func121, Try.ntmps121
 go_wp2_with (first | ((with_reducible refine gate_dst (N := 1) rfl ?_); refine Hd.box_ 1 (#[.int .i64 a0_0, .int .i64 a0_1, .int .i64 a0_2, .int .i64 a0_3]) 53 ?_; intro gb162 hg w2 hbox hb; have BK162 := Aside0.mk (hbox); have GW162 := Aside0.mk ((Hd.g_ hg Hd.b_ : w.heap.size ≤ gb162)); have GE162 := Aside0.mk ((Hd.g_ hg Hd.b_ : w.heap.size ≤ gb162)); replace HB := Aside0.mk (below_step Hd.b_ hb); clear hb hbox hg) | ((with_reducible refine gate_dst (N := 2) rfl ?_); refine Hd.box_ 2 (#[.int .i64 0, .int .i64 0, .int .i64 0, .int .i64 0]) 53 ?_; intro gb163 hg w3 hbox hb; have BK163 := Aside0.mk (hbox); have GW163 := Aside0.mk ((Hd.g_ hg Hd.b_ : w.heap.size ≤ gb163)); have GE163 := Aside0.mk ((Hd.g_ hg Hd.b_ : w.heap.size ≤ gb163)); replace HB := Aside0.mk (below_step Hd.b_ hb); have NB162_163 := Aside0.mk ((Hd.lt_ BK162 hg)); have NB163_162 := Aside0.mk ((Hd.gt_ BK162 hg)); replace BK162 := Aside0.mk (Hd.kb_ BK162 hb); clear hb hbox hg; have hnb4 := NB162_163.out; have hnc4 := NB163_162.out; obtain ⟨hcz5_0, hcz5_1, hcz5_2, hcz5_3⟩ := Hd.c4_ BK162.out; obtain ⟨hfz5_0, hfz5_1, hfz5_2, hfz5_3⟩ := Hd.f4_ BK162.out; obtain ⟨hcz6_0, hcz6_1, hcz6_2, hcz6_3⟩ := Hd.c4_ BK163.out; obtain ⟨hfz6_0, hfz6_1, hfz6_2, hfz6_3⟩ := Hd.f4_ BK163.out))
 refine bodyPost_ret (results_cell_row rfl _ _ gb163 53 #[.int .i64 a0_2, .int .i64 a0_3, .int .i64 a0_0, .int .i64 a0_1] (0, 0) _ rfl (by (with_reducible repeat (first | refine blk_drewN ?_ _ | refine blk_drew ?_ | refine blk_alloc ?_ _)); refine blk_put (cs := #[.int .i64 a0_2, .int .i64 a0_3, .int .i64 a0_0, .int .i64 0]) ?_ 3 _ rfl; (with_reducible repeat (first | refine blk_drewN ?_ _ | refine blk_drew ?_ | refine blk_alloc ?_ _)); refine blk_put (cs := #[.int .i64 a0_2, .int .i64 a0_3, .int .i64 0, .int .i64 0]) ?_ 2 _ rfl; (with_reducible repeat (first | refine blk_drewN ?_ _ | refine blk_drew ?_ | refine blk_alloc ?_ _)); refine blk_put (cs := #[.int .i64 a0_2, .int .i64 0, .int .i64 0, .int .i64 0]) ?_ 1 _ rfl; (with_reducible repeat (first | refine blk_drewN ?_ _ | refine blk_drew ?_ | refine blk_alloc ?_ _)); refine blk_put (cs := #[.int .i64 0, .int .i64 0, .int .i64 0, .int .i64 0]) ?_ 0 _ rfl; (with_reducible repeat (first | refine blk_drewN ?_ _ | refine blk_drew ?_ | refine blk_alloc ?_ _)); exact BK163.out) Try.underlying53 rfl (by kernel_rfl)) rfl ?_
 exact ⟨Hd.e_, Hd.b_⟩
end Go.Proofs.Ytbackoeakepngaa.MFnAreas
