-- Laid by this session's program pp.py, after the kit's print and texts of the session's own. Not trusted: Lean checks it.
import Derived.Test.YtchmbcembbbplaaZBoxOfMx0
import Derived.Test.YtchmbcembbbplaaZBoxOfMx1
namespace Go.Proofs.Ytchmbcembbbplaa.MFnExactBoxOf
open Go.RowKit Go.Proofs.YtchmbcembbbplaaW.PrintWords Go.Proofs.YtchmbcembbbplaaW.PrintLast Go.Proofs.YtchmbcembbbplaaW.PrintMore
attribute [local go_sem] max2_int min2_int max_two min_two max_three min_three max_four min_four   -- for this text's walks alone
set_option linter.unusedVariables false
set_option linter.unusedSimpArgs false
def spec_BoxOf.l0 : Nat → List (S44) → Int → Int → Int → Int → Int → Option (Int × Int × Int × Int × Bool)
 | 0, _, _, _, _, _, _ => none
 | k + 1, x0, x5, x127000, x127001, x127002, x127003 => if x5 < (x0.length : Int) then (if 0 ≤ x5 then ((spec_IsPoint.f ((rd_T44 x0 x5).f0) ((rd_T44 x0 x5).f1)).bind fun t128 => (if t128 = true then ((spec_Min.f x127000 ((rd_T44 x0 x5).f0)).bind fun t130 => ((spec_Min.f x127001 ((rd_T44 x0 x5).f1)).bind fun t132 => ((spec_Max.f x127002 ((rd_T44 x0 x5).f0)).bind fun t134 => ((spec_Max.f x127003 ((rd_T44 x0 x5).f1)).bind fun t136 => (spec_BoxOf.l0 k x0 (wrap64 (x5 + 1)) t130 t132 t134 t136))))) else (some (0, 0, 0, 0, false)))) else (none)) else (some (x127000, x127001, x127002, x127003, true))
def spec_BoxOf.f (k : Nat) (l0 : List (S44)) : Option (Int × Int × Int × Int × Bool) := if (l0.length : Int) = 0 then (some (0, 0, 0, 0, false)) else (if 0 < (l0.length : Int) then (spec_BoxOf.l0 k l0 0 ((rd_T44 l0 0).f0) ((rd_T44 l0 0).f1) ((rd_T44 l0 0).f0) ((rd_T44 l0 0).f1)) else (none))
def spec_BoxOf.T3 : Bool × List (List Nat × List Nat) := (true, [([], []), ([0], [0]), ([1], [1]), ([], []), ([3], [3]), ([4], [4]), ([2, 5], [2, 5]), ([], []), ([7, 6, 0, 1, 2, 3, 4, 5, 6, 7], [6, 7])])
def spec_BoxOf.B3 : List Nat := [0, 1, 3, 0, 8, 24, 63, 0, 255]
theorem spec_BoxOf.tab3 : rtab .any (opsOf Try.f42 3) = spec_BoxOf.T3 := by kernel_rfl
theorem spec_BoxOf.bits3 : waitsOk spec_BoxOf.T3.2 spec_BoxOf.B3 = true := by kernel_rfl
def spec_BoxOf.T9 : Bool × List (List Nat × List Nat) := (true, [([], []), ([0], [0]), ([1], [1]), ([], []), ([], []), ([3, 4], [3, 4]), ([5], [5]), ([6], [6]), ([2, 7], [2, 7]), ([0, 1, 2, 3, 4, 5, 6, 7, 8], []), ([9, 0, 1, 2, 3, 4, 5, 6, 7, 8], [9]), ([10, 8, 8, 0, 1, 2, 3, 4, 5, 6, 7, 8], [8, 10])])
def spec_BoxOf.B9 : List Nat := [0, 1, 3, 0, 0, 24, 56, 120, 255, 511, 1023, 2047]
theorem spec_BoxOf.tab9 : rtab .any (opsOf Try.f42 9) = spec_BoxOf.T9 := by kernel_rfl
theorem spec_BoxOf.bits9 : waitsOk spec_BoxOf.T9.2 spec_BoxOf.B9 = true := by kernel_rfl
def spec_BoxOf.T10 : Bool × List (List Nat × List Nat) := (true, [([], []), ([0], [0]), ([1], [1]), ([], []), ([], []), ([3, 4], [3, 4]), ([5], [5]), ([6], [6]), ([2, 7], [2, 7]), ([0, 1, 2, 3, 4, 5, 6, 7, 8], []), ([9, 0, 1, 2, 3, 4, 5, 6, 7, 8], [9]), ([10, 8, 8, 0, 1, 2, 3, 4, 5, 6, 7, 8], [8, 10])])
def spec_BoxOf.B10 : List Nat := [0, 1, 3, 0, 0, 24, 56, 120, 255, 511, 1023, 2047]
theorem spec_BoxOf.tab10 : rtab .any (opsOf Try.f42 10) = spec_BoxOf.T10 := by kernel_rfl
theorem spec_BoxOf.bits10 : waitsOk spec_BoxOf.T10.2 spec_BoxOf.B10 = true := by kernel_rfl
def spec_BoxOf.T11 : Bool × List (List Nat × List Nat) := (true, [([], []), ([0], [0]), ([1], [1]), ([], []), ([], []), ([3, 4], [3, 4]), ([5], [5]), ([6], [6]), ([2, 7], [2, 7]), ([0, 1, 2, 3, 4, 5, 6, 7, 8], []), ([9, 0, 1, 2, 3, 4, 5, 6, 7, 8], [9]), ([10, 8, 8, 0, 1, 2, 3, 4, 5, 6, 7, 8], [8, 10])])
def spec_BoxOf.B11 : List Nat := [0, 1, 3, 0, 0, 24, 56, 120, 255, 511, 1023, 2047]
theorem spec_BoxOf.tab11 : rtab .any (opsOf Try.f42 11) = spec_BoxOf.T11 := by kernel_rfl
theorem spec_BoxOf.bits11 : waitsOk spec_BoxOf.T11.2 spec_BoxOf.B11 = true := by kernel_rfl
def spec_BoxOf.T12 : Bool × List (List Nat × List Nat) := (true, [([], []), ([0], [0]), ([1], [1]), ([], []), ([], []), ([3, 4], [3, 4]), ([5], [5]), ([6], [6]), ([2, 7], [2, 7]), ([0, 1, 2, 3, 4, 5, 6, 7, 8], []), ([9, 0, 1, 2, 3, 4, 5, 6, 7, 8], [9]), ([10, 8, 8, 0, 1, 2, 3, 4, 5, 6, 7, 8], [8, 10])])
def spec_BoxOf.B12 : List Nat := [0, 1, 3, 0, 0, 24, 56, 120, 255, 511, 1023, 2047]
theorem spec_BoxOf.tab12 : rtab .any (opsOf Try.f42 12) = spec_BoxOf.T12 := by kernel_rfl
theorem spec_BoxOf.bits12 : waitsOk spec_BoxOf.T12.2 spec_BoxOf.B12 = true := by kernel_rfl
set_option maxHeartbeats 8000000 in
set_option maxRecDepth 100000 in
theorem spec_BoxOf.calls (k : Nat) (A0 : Option Addr) (c0 : Nat) (l0 : List (S44)) (r1 : Int) (r2 : Int) (r3 : Int) (r4 : Int) (r5 : Bool) (w : World) (hr0 : Kd.C k44 w A0 l0.length l0) (hc0 : l0.length ≤ c0) (h : spec_BoxOf.f k l0 = some (r1, r2, r3, r4, r5)) :
  Calls Try.prog 42 #[.slice A0 l0.length c0] w fun e w' => e = .returned (.tuple #[.agg #[.int .i64 r1, .int .i64 r2, .int .i64 r3, .int .i64 r4], .bool r5]) ∧ Below w.heap.size w w' := by
 have hu66 := Try.underlying66
 have hu44 := Try.underlying44
 have HR0 := Aside0.mk hr0
 have HC0 := Aside0.mk hc0
 clear hr0 hc0
 have HB := Aside0.mk (Below.refl w.heap.size w)
 have H : (if (l0.length : Int) = 0 then (some (0, 0, 0, 0, false)) else (if 0 < (l0.length : Int) then (spec_BoxOf.l0 k l0 0 ((rd_T44 l0 0).f0) ((rd_T44 l0 0).f1) ((rd_T44 l0 0).f0) ((rd_T44 l0 0).f1)) else (none))) = some (r1, r2, r3, r4, r5) := h
 clear h
 by_cases c2 : (l0.length : Int) = 0
 ·
  rw [if_pos c2] at H
  have c2b0 : ((l0.length : Int) == 0) = true := beq_iff_eq.mpr c2
  have c2b1 : ((l0.length : Int) != 0) = false := bne_eq_false_iff_eq.mpr c2
  clear c2
  simp only [Option.some.injEq, Prod.mk.injEq] at H
  obtain ⟨rfl, rfl, rfl, rfl, rfl⟩ := H
  go_enter Try.func42, Try.ntmps42
  go_wp2_with (first | ((with_reducible refine gate_dst (N := 2) rfl ?_); refine Hd.box_ 2 (#[.int .i64 0, .int .i64 0, .int .i64 0, .int .i64 0]) 66 ?_; intro gb123 hg w3 hbox hb; have BK123 := Aside0.mk (hbox); have GW123 := Aside0.mk ((Hd.g_ hg Hd.b_ : w.heap.size ≤ gb123)); have GE123 := Aside0.mk ((Hd.g_ hg Hd.b_ : w.heap.size ≤ gb123)); replace HB := Aside0.mk (below_step Hd.b_ hb); clear hb hbox hg; obtain ⟨hcz4_0, hcz4_1, hcz4_2, hcz4_3⟩ := Hd.c4_ BK123.out; obtain ⟨hfz4_0, hfz4_1, hfz4_2, hfz4_3⟩ := Hd.f4_ BK123.out))
  refine bodyPost_ret (results_ct rfl _ _ gb123 66 #[.int .i64 0, .int .i64 0, .int .i64 0, .int .i64 0] (0, 0) _ rfl (by (with_reducible repeat (first | refine blk_drewN ?_ _ | refine blk_drew ?_ | refine blk_alloc ?_ _)); refine blk_put (cs := #[.int .i64 0, .int .i64 0, .int .i64 0, .int .i64 0]) ?_ 3 _ rfl; (with_reducible repeat (first | refine blk_drewN ?_ _ | refine blk_drew ?_ | refine blk_alloc ?_ _)); refine blk_put (cs := #[.int .i64 0, .int .i64 0, .int .i64 0, .int .i64 0]) ?_ 2 _ rfl; (with_reducible repeat (first | refine blk_drewN ?_ _ | refine blk_drew ?_ | refine blk_alloc ?_ _)); refine blk_put (cs := #[.int .i64 0, .int .i64 0, .int .i64 0, .int .i64 0]) ?_ 1 _ rfl; (with_reducible repeat (first | refine blk_drewN ?_ _ | refine blk_drew ?_ | refine blk_alloc ?_ _)); refine blk_put (cs := #[.int .i64 0, .int .i64 0, .int .i64 0, .int .i64 0]) ?_ 0 _ rfl; (with_reducible repeat (first | refine blk_drewN ?_ _ | refine blk_drew ?_ | refine blk_alloc ?_ _)); exact BK123.out) Try.underlying66 rfl (by kernel_rfl)) rfl ?_
  exact ⟨Hd.e_, Hd.b_⟩
 ·
  rw [if_neg c2] at H
  have c2b0 : ((l0.length : Int) == 0) = false := beq_eq_false_iff_ne.mpr c2
  have c2b1 : ((l0.length : Int) != 0) = true := bne_iff_ne.mpr c2
  have c2b2 : ¬ (l0 = []) := fun h_ => c2 (by rw [h_]; rfl)
  by_cases c5 : 0 < (l0.length : Int)
  ·
   rw [if_pos c5] at H
   have c5b0 : decide (0 < (l0.length : Int)) = true := decide_eq_true c5
   have c5b1 : decide (0 < l0.length) = true := decide_eq_true (by omega)
   clear c5
   have H' := Aside0.mk H
   clear H
   go_enter Try.func42, Try.ntmps42
   try go_wp2_with (first | ((with_reducible refine gate_dst (N := 2) rfl ?_); refine Hd.box_ 2 (#[.int .i64 0, .int .i64 0, .int .i64 0, .int .i64 0]) 66 ?_; intro gb123 hg w6 hbox hb; have BK123 := Aside0.mk (hbox); have GW123 := Aside0.mk ((Hd.g_ hg Hd.b_ : w.heap.size ≤ gb123)); have GE123 := Aside0.mk ((Hd.g_ hg Hd.b_ : w.heap.size ≤ gb123)); replace HB := Aside0.mk (below_step Hd.b_ hb); clear hb hbox hg))
   replace BK123 := Aside0.mk (blk_drew BK123.out)
   replace HB := Aside0.mk (below_drew1 HB.out)
   have p124 : 0 ≤ (0 : Int) := (by omega)
   have q124 : 0 < (l0.length : Int) := of_decide_eq_true Hd.a_
   obtain ⟨ad124, e124, hx124_0, hx124_1⟩ := at_T44 HR0.out 0 p124 q124
   have hw124_1 := hx124_1
   (try rw [show ((0 : Int)).toNat = 0 from rfl] at hw124_1)
   (try rw [show 0 * 2 = 0 from rfl] at hw124_1)
   (try rw [Addr.add_zero'] at hw124_1)
   have hw124_0 := hx124_0
   (try rw [show ((0 : Int)).toNat = 0 from rfl] at hw124_0)
   (try rw [show 0 * 2 = 0 from rfl] at hw124_0)
   (try rw [Addr.add_zero'] at hw124_0)
   cases e124
   have qi124 : (0 < l0.length) = True := eq_true (by omega)
   (try rw [show ((0 : Int)).toNat = 0 from rfl] at hx124_0)
   (try rw [show 0 * 2 = 0 from rfl] at hx124_0)
   (try rw [Addr.add_zero'] at hx124_0)
   (try rw [show ((0 : Int)).toNat = 0 from rfl] at hx124_1)
   (try rw [show 0 * 2 = 0 from rfl] at hx124_1)
   (try rw [Addr.add_zero'] at hx124_1)
   replace hx124_0 := (HB.out.cell (World.block_lt_of_cell? w _ hx124_0)).trans hx124_0
   replace hx124_1 := (HB.out.cell (World.block_lt_of_cell? w _ hx124_1)).trans hx124_1
   replace p124 := eq_true p124
   replace q124 := eq_true q124
   have p125 : 0 ≤ (0 : Int) := (by omega)
   have q125 : 0 < (l0.length : Int) := of_decide_eq_true Hd.a_
   obtain ⟨ad125, e125, hx125_0, hx125_1⟩ := at_T44 HR0.out 0 p125 q125
   have hw125_1 := hx125_1
   (try rw [show ((0 : Int)).toNat = 0 from rfl] at hw125_1)
   (try rw [show 0 * 2 = 0 from rfl] at hw125_1)
   (try rw [Addr.add_zero'] at hw125_1)
   have hw125_0 := hx125_0
   (try rw [show ((0 : Int)).toNat = 0 from rfl] at hw125_0)
   (try rw [show 0 * 2 = 0 from rfl] at hw125_0)
   (try rw [Addr.add_zero'] at hw125_0)
   obtain rfl : ad124 = ad125 := (by injection e125)
   have qi125 : (0 < l0.length) = True := eq_true (by omega)
   (try rw [show ((0 : Int)).toNat = 0 from rfl] at hx125_0)
   (try rw [show 0 * 2 = 0 from rfl] at hx125_0)
   (try rw [Addr.add_zero'] at hx125_0)
   (try rw [show ((0 : Int)).toNat = 0 from rfl] at hx125_1)
   (try rw [show 0 * 2 = 0 from rfl] at hx125_1)
   (try rw [Addr.add_zero'] at hx125_1)
   replace hx125_0 := (HB.out.cell (World.block_lt_of_cell? w _ hx125_0)).trans hx125_0
   replace hx125_1 := (HB.out.cell (World.block_lt_of_cell? w _ hx125_1)).trans hx125_1
   replace p125 := eq_true p125
   replace q125 := eq_true q125
   refine start_ (n := 9) (S := fun w' => w'.cell? ad124 = some (.int .i64 ((rd_T44 l0 0).f0)) ∧ w'.cell? ⟨ad124.block, ad124.off + 1, none⟩ = some (.int .i64 ((rd_T44 l0 0).f1)) ∧ w'.cell? ad124 = some (.int .i64 ((rd_T44 l0 0).f0)) ∧ w'.cell? ⟨ad124.block, ad124.off + 1, none⟩ = some (.int .i64 ((rd_T44 l0 0).f1))) (ds := []) #[false, false, false, false, false, false, false, false, false] (by kernel_rfl) rfl rfl ⟨((HB.out.cell (World.block_lt_of_cell? w _ hw124_0)).trans hw124_0), ((HB.out.cell (World.block_lt_of_cell? w _ hw124_1)).trans hw124_1), ((HB.out.cell (World.block_lt_of_cell? w _ hw125_0)).trans hw125_0), ((HB.out.cell (World.block_lt_of_cell? w _ hw125_1)).trans hw125_1)⟩ (fun hHeld => ?_); refine with_tabW spec_BoxOf.tab3 spec_BoxOf.bits3 (fun HT_ HW_ => ?_)
   generalize w6.drew = w7 at BK123 HB hx124_0 hx124_1 hx125_0 hx125_1 hHeld ⊢
   refine Hd.p_ HT_ 0 (some 10) #[true, false, false, false, false, false, false, false, false] ?_
   refine Hd.p_ HT_ 1 (some 11) #[true, true, false, false, false, false, false, false, false] ?_
   refine Hd.p_ HT_ 3 (some 13) #[true, true, false, true, false, false, false, false, false] ?_
   refine Hd.p_ HT_ 4 (some 14) #[true, true, false, true, true, false, false, false, false] ?_
   refine Hd.t_ HT_ HW_ hHeld 2 (some 12) #[true, true, true, true, true, false, false, false, false] ?_
   refine Hd.t_ HT_ HW_ hHeld 5 (some 15) #[true, true, true, true, true, true, false, false, false] ?_
   refine Hd.p_ HT_ 6 (some 16) #[true, true, true, true, true, true, true, false, false] ?_
   refine Hd.o_ HT_ 7 (some 4) #[true, true, true, true, true, true, true, true, false] (fun K hK => ?_)
   refine box_step ?hg (N := 4) ?hd (cs := #[.int .i64 0, .int .i64 0, .int .i64 0, .int .i64 0]) (t := 66) ?hr ?_; (case hd => rfl); (case hg => rfl); (case hr => first | (go_simp; done) | (go_simp; rfl))
   intro gb126 hg w8 hbox hb
   have BK126 := Aside0.mk (hbox)
   have GW126 := Aside0.mk ((Hd.g_ hg Hd.b_ : w.heap.size ≤ gb126))
   have GE126 := Aside0.mk ((Hd.g_ hg Hd.b_ : w.heap.size ≤ gb126))
   replace HB := Aside0.mk (below_step Hd.b_ hb)
   have NB123_126 := Aside0.mk ((Hd.lt_ BK123 hg))
   have NB126_123 := Aside0.mk ((Hd.gt_ BK123 hg))
   replace BK123 := Aside0.mk (Hd.kb_ BK123 hb)
   clear hb hbox hg
   refine hK.out _ _ ⟨((HB.out.cell (World.block_lt_of_cell? w _ hw124_0)).trans hw124_0), ((HB.out.cell (World.block_lt_of_cell? w _ hw124_1)).trans hw124_1), ((HB.out.cell (World.block_lt_of_cell? w _ hw125_0)).trans hw125_0), ((HB.out.cell (World.block_lt_of_cell? w _ hw125_1)).trans hw125_1)⟩ (fun hHeld => ?_)
   clear hK K
   refine Hd.n_ (some 4) ?_
   refine Hd.o_ HT_ 8 (none) #[true, true, true, true, true, true, true, true, true] (fun K hK => ?_)
   have hs9 : w8.cell? ⟨gb126, 0, none⟩ = some (.int .i64 0) := (blk_cell BK126.out 0).trans rfl
   have hfs9 := blk_frozen BK126.out 0
   have hns9_0 := NB123_126.out
   have hms9_0 := NB126_123.out
   have hs10 : w8.cell? ⟨gb126, 1, none⟩ = some (.int .i64 0) := (blk_cell BK126.out 1).trans rfl
   have hfs10 := blk_frozen BK126.out 1
   have hns10_0 := NB123_126.out
   have hms10_0 := NB126_123.out
   have hs11 : w8.cell? ⟨gb126, 2, none⟩ = some (.int .i64 0) := (blk_cell BK126.out 2).trans rfl
   have hfs11 := blk_frozen BK126.out 2
   have hns11_0 := NB123_126.out
   have hms11_0 := NB126_123.out
   have hs12 : w8.cell? ⟨gb126, 3, none⟩ = some (.int .i64 0) := (blk_cell BK126.out 3).trans rfl
   have hfs12 := blk_frozen BK126.out 3
   have hns12_0 := NB123_126.out
   have hms12_0 := NB126_123.out
   refine skip_ (w1 := ?_) (by rfl) rfl ?_ ?_
   rotate_left
   ·
    go_simp
    rfl
   refine hK.out _ _ ⟨((cell_far (p := ⟨gb126, _, none⟩) (by first | exact Nat.ne_of_lt (Nat.lt_of_lt_of_le (by have := World.block_lt_of_cell? _ _ hw124_0; first | rwa [add_block] at this | exact this) GW126.out) | (rw [add_block]; exact Nat.ne_of_lt (Nat.lt_of_lt_of_le (by have := World.block_lt_of_cell? _ _ hw124_0; first | rwa [add_block] at this | exact this) GW126.out)) | (show (Addr.add _ _).block ≠ _; rw [add_block]; exact Nat.ne_of_lt (Nat.lt_of_lt_of_le (by have := World.block_lt_of_cell? _ _ hw124_0; first | rwa [add_block] at this | exact this) GW126.out)) | (dsimp only; exact Nat.ne_of_lt (Nat.lt_of_lt_of_le (by have := World.block_lt_of_cell? _ _ hw124_0; first | rwa [add_block] at this | exact this) GW126.out))) _).trans (((cell_far (p := ⟨gb126, _, none⟩) (by first | exact Nat.ne_of_lt (Nat.lt_of_lt_of_le (by have := World.block_lt_of_cell? _ _ hw124_0; first | rwa [add_block] at this | exact this) GW126.out) | (rw [add_block]; exact Nat.ne_of_lt (Nat.lt_of_lt_of_le (by have := World.block_lt_of_cell? _ _ hw124_0; first | rwa [add_block] at this | exact this) GW126.out)) | (show (Addr.add _ _).block ≠ _; rw [add_block]; exact Nat.ne_of_lt (Nat.lt_of_lt_of_le (by have := World.block_lt_of_cell? _ _ hw124_0; first | rwa [add_block] at this | exact this) GW126.out)) | (dsimp only; exact Nat.ne_of_lt (Nat.lt_of_lt_of_le (by have := World.block_lt_of_cell? _ _ hw124_0; first | rwa [add_block] at this | exact this) GW126.out))) _).trans (((cell_far (p := ⟨gb126, _, none⟩) (by first | exact Nat.ne_of_lt (Nat.lt_of_lt_of_le (by have := World.block_lt_of_cell? _ _ hw124_0; first | rwa [add_block] at this | exact this) GW126.out) | (rw [add_block]; exact Nat.ne_of_lt (Nat.lt_of_lt_of_le (by have := World.block_lt_of_cell? _ _ hw124_0; first | rwa [add_block] at this | exact this) GW126.out)) | (show (Addr.add _ _).block ≠ _; rw [add_block]; exact Nat.ne_of_lt (Nat.lt_of_lt_of_le (by have := World.block_lt_of_cell? _ _ hw124_0; first | rwa [add_block] at this | exact this) GW126.out)) | (dsimp only; exact Nat.ne_of_lt (Nat.lt_of_lt_of_le (by have := World.block_lt_of_cell? _ _ hw124_0; first | rwa [add_block] at this | exact this) GW126.out))) _).trans (((cell_far (p := ⟨gb126, _, none⟩) (by first | exact Nat.ne_of_lt (Nat.lt_of_lt_of_le (by have := World.block_lt_of_cell? _ _ hw124_0; first | rwa [add_block] at this | exact this) GW126.out) | (rw [add_block]; exact Nat.ne_of_lt (Nat.lt_of_lt_of_le (by have := World.block_lt_of_cell? _ _ hw124_0; first | rwa [add_block] at this | exact this) GW126.out)) | (show (Addr.add _ _).block ≠ _; rw [add_block]; exact Nat.ne_of_lt (Nat.lt_of_lt_of_le (by have := World.block_lt_of_cell? _ _ hw124_0; first | rwa [add_block] at this | exact this) GW126.out)) | (dsimp only; exact Nat.ne_of_lt (Nat.lt_of_lt_of_le (by have := World.block_lt_of_cell? _ _ hw124_0; first | rwa [add_block] at this | exact this) GW126.out))) _).trans (hHeld.1)))))))), ((cell_far (p := ⟨gb126, _, none⟩) (by first | exact Nat.ne_of_lt (Nat.lt_of_lt_of_le (by have := World.block_lt_of_cell? _ _ hw124_1; first | rwa [add_block] at this | exact this) GW126.out) | (rw [add_block]; exact Nat.ne_of_lt (Nat.lt_of_lt_of_le (by have := World.block_lt_of_cell? _ _ hw124_1; first | rwa [add_block] at this | exact this) GW126.out)) | (show (Addr.add _ _).block ≠ _; rw [add_block]; exact Nat.ne_of_lt (Nat.lt_of_lt_of_le (by have := World.block_lt_of_cell? _ _ hw124_1; first | rwa [add_block] at this | exact this) GW126.out)) | (dsimp only; exact Nat.ne_of_lt (Nat.lt_of_lt_of_le (by have := World.block_lt_of_cell? _ _ hw124_1; first | rwa [add_block] at this | exact this) GW126.out))) _).trans (((cell_far (p := ⟨gb126, _, none⟩) (by first | exact Nat.ne_of_lt (Nat.lt_of_lt_of_le (by have := World.block_lt_of_cell? _ _ hw124_1; first | rwa [add_block] at this | exact this) GW126.out) | (rw [add_block]; exact Nat.ne_of_lt (Nat.lt_of_lt_of_le (by have := World.block_lt_of_cell? _ _ hw124_1; first | rwa [add_block] at this | exact this) GW126.out)) | (show (Addr.add _ _).block ≠ _; rw [add_block]; exact Nat.ne_of_lt (Nat.lt_of_lt_of_le (by have := World.block_lt_of_cell? _ _ hw124_1; first | rwa [add_block] at this | exact this) GW126.out)) | (dsimp only; exact Nat.ne_of_lt (Nat.lt_of_lt_of_le (by have := World.block_lt_of_cell? _ _ hw124_1; first | rwa [add_block] at this | exact this) GW126.out))) _).trans (((cell_far (p := ⟨gb126, _, none⟩) (by first | exact Nat.ne_of_lt (Nat.lt_of_lt_of_le (by have := World.block_lt_of_cell? _ _ hw124_1; first | rwa [add_block] at this | exact this) GW126.out) | (rw [add_block]; exact Nat.ne_of_lt (Nat.lt_of_lt_of_le (by have := World.block_lt_of_cell? _ _ hw124_1; first | rwa [add_block] at this | exact this) GW126.out)) | (show (Addr.add _ _).block ≠ _; rw [add_block]; exact Nat.ne_of_lt (Nat.lt_of_lt_of_le (by have := World.block_lt_of_cell? _ _ hw124_1; first | rwa [add_block] at this | exact this) GW126.out)) | (dsimp only; exact Nat.ne_of_lt (Nat.lt_of_lt_of_le (by have := World.block_lt_of_cell? _ _ hw124_1; first | rwa [add_block] at this | exact this) GW126.out))) _).trans (((cell_far (p := ⟨gb126, _, none⟩) (by first | exact Nat.ne_of_lt (Nat.lt_of_lt_of_le (by have := World.block_lt_of_cell? _ _ hw124_1; first | rwa [add_block] at this | exact this) GW126.out) | (rw [add_block]; exact Nat.ne_of_lt (Nat.lt_of_lt_of_le (by have := World.block_lt_of_cell? _ _ hw124_1; first | rwa [add_block] at this | exact this) GW126.out)) | (show (Addr.add _ _).block ≠ _; rw [add_block]; exact Nat.ne_of_lt (Nat.lt_of_lt_of_le (by have := World.block_lt_of_cell? _ _ hw124_1; first | rwa [add_block] at this | exact this) GW126.out)) | (dsimp only; exact Nat.ne_of_lt (Nat.lt_of_lt_of_le (by have := World.block_lt_of_cell? _ _ hw124_1; first | rwa [add_block] at this | exact this) GW126.out))) _).trans (hHeld.2.1)))))))), ((cell_far (p := ⟨gb126, _, none⟩) (by first | exact Nat.ne_of_lt (Nat.lt_of_lt_of_le (by have := World.block_lt_of_cell? _ _ hw125_0; first | rwa [add_block] at this | exact this) GW126.out) | (rw [add_block]; exact Nat.ne_of_lt (Nat.lt_of_lt_of_le (by have := World.block_lt_of_cell? _ _ hw125_0; first | rwa [add_block] at this | exact this) GW126.out)) | (show (Addr.add _ _).block ≠ _; rw [add_block]; exact Nat.ne_of_lt (Nat.lt_of_lt_of_le (by have := World.block_lt_of_cell? _ _ hw125_0; first | rwa [add_block] at this | exact this) GW126.out)) | (dsimp only; exact Nat.ne_of_lt (Nat.lt_of_lt_of_le (by have := World.block_lt_of_cell? _ _ hw125_0; first | rwa [add_block] at this | exact this) GW126.out))) _).trans (((cell_far (p := ⟨gb126, _, none⟩) (by first | exact Nat.ne_of_lt (Nat.lt_of_lt_of_le (by have := World.block_lt_of_cell? _ _ hw125_0; first | rwa [add_block] at this | exact this) GW126.out) | (rw [add_block]; exact Nat.ne_of_lt (Nat.lt_of_lt_of_le (by have := World.block_lt_of_cell? _ _ hw125_0; first | rwa [add_block] at this | exact this) GW126.out)) | (show (Addr.add _ _).block ≠ _; rw [add_block]; exact Nat.ne_of_lt (Nat.lt_of_lt_of_le (by have := World.block_lt_of_cell? _ _ hw125_0; first | rwa [add_block] at this | exact this) GW126.out)) | (dsimp only; exact Nat.ne_of_lt (Nat.lt_of_lt_of_le (by have := World.block_lt_of_cell? _ _ hw125_0; first | rwa [add_block] at this | exact this) GW126.out))) _).trans (((cell_far (p := ⟨gb126, _, none⟩) (by first | exact Nat.ne_of_lt (Nat.lt_of_lt_of_le (by have := World.block_lt_of_cell? _ _ hw125_0; first | rwa [add_block] at this | exact this) GW126.out) | (rw [add_block]; exact Nat.ne_of_lt (Nat.lt_of_lt_of_le (by have := World.block_lt_of_cell? _ _ hw125_0; first | rwa [add_block] at this | exact this) GW126.out)) | (show (Addr.add _ _).block ≠ _; rw [add_block]; exact Nat.ne_of_lt (Nat.lt_of_lt_of_le (by have := World.block_lt_of_cell? _ _ hw125_0; first | rwa [add_block] at this | exact this) GW126.out)) | (dsimp only; exact Nat.ne_of_lt (Nat.lt_of_lt_of_le (by have := World.block_lt_of_cell? _ _ hw125_0; first | rwa [add_block] at this | exact this) GW126.out))) _).trans (((cell_far (p := ⟨gb126, _, none⟩) (by first | exact Nat.ne_of_lt (Nat.lt_of_lt_of_le (by have := World.block_lt_of_cell? _ _ hw125_0; first | rwa [add_block] at this | exact this) GW126.out) | (rw [add_block]; exact Nat.ne_of_lt (Nat.lt_of_lt_of_le (by have := World.block_lt_of_cell? _ _ hw125_0; first | rwa [add_block] at this | exact this) GW126.out)) | (show (Addr.add _ _).block ≠ _; rw [add_block]; exact Nat.ne_of_lt (Nat.lt_of_lt_of_le (by have := World.block_lt_of_cell? _ _ hw125_0; first | rwa [add_block] at this | exact this) GW126.out)) | (dsimp only; exact Nat.ne_of_lt (Nat.lt_of_lt_of_le (by have := World.block_lt_of_cell? _ _ hw125_0; first | rwa [add_block] at this | exact this) GW126.out))) _).trans (hHeld.2.2.1)))))))), ((cell_far (p := ⟨gb126, _, none⟩) (by first | exact Nat.ne_of_lt (Nat.lt_of_lt_of_le (by have := World.block_lt_of_cell? _ _ hw125_1; first | rwa [add_block] at this | exact this) GW126.out) | (rw [add_block]; exact Nat.ne_of_lt (Nat.lt_of_lt_of_le (by have := World.block_lt_of_cell? _ _ hw125_1; first | rwa [add_block] at this | exact this) GW126.out)) | (show (Addr.add _ _).block ≠ _; rw [add_block]; exact Nat.ne_of_lt (Nat.lt_of_lt_of_le (by have := World.block_lt_of_cell? _ _ hw125_1; first | rwa [add_block] at this | exact this) GW126.out)) | (dsimp only; exact Nat.ne_of_lt (Nat.lt_of_lt_of_le (by have := World.block_lt_of_cell? _ _ hw125_1; first | rwa [add_block] at this | exact this) GW126.out))) _).trans (((cell_far (p := ⟨gb126, _, none⟩) (by first | exact Nat.ne_of_lt (Nat.lt_of_lt_of_le (by have := World.block_lt_of_cell? _ _ hw125_1; first | rwa [add_block] at this | exact this) GW126.out) | (rw [add_block]; exact Nat.ne_of_lt (Nat.lt_of_lt_of_le (by have := World.block_lt_of_cell? _ _ hw125_1; first | rwa [add_block] at this | exact this) GW126.out)) | (show (Addr.add _ _).block ≠ _; rw [add_block]; exact Nat.ne_of_lt (Nat.lt_of_lt_of_le (by have := World.block_lt_of_cell? _ _ hw125_1; first | rwa [add_block] at this | exact this) GW126.out)) | (dsimp only; exact Nat.ne_of_lt (Nat.lt_of_lt_of_le (by have := World.block_lt_of_cell? _ _ hw125_1; first | rwa [add_block] at this | exact this) GW126.out))) _).trans (((cell_far (p := ⟨gb126, _, none⟩) (by first | exact Nat.ne_of_lt (Nat.lt_of_lt_of_le (by have := World.block_lt_of_cell? _ _ hw125_1; first | rwa [add_block] at this | exact this) GW126.out) | (rw [add_block]; exact Nat.ne_of_lt (Nat.lt_of_lt_of_le (by have := World.block_lt_of_cell? _ _ hw125_1; first | rwa [add_block] at this | exact this) GW126.out)) | (show (Addr.add _ _).block ≠ _; rw [add_block]; exact Nat.ne_of_lt (Nat.lt_of_lt_of_le (by have := World.block_lt_of_cell? _ _ hw125_1; first | rwa [add_block] at this | exact this) GW126.out)) | (dsimp only; exact Nat.ne_of_lt (Nat.lt_of_lt_of_le (by have := World.block_lt_of_cell? _ _ hw125_1; first | rwa [add_block] at this | exact this) GW126.out))) _).trans (((cell_far (p := ⟨gb126, _, none⟩) (by first | exact Nat.ne_of_lt (Nat.lt_of_lt_of_le (by have := World.block_lt_of_cell? _ _ hw125_1; first | rwa [add_block] at this | exact this) GW126.out) | (rw [add_block]; exact Nat.ne_of_lt (Nat.lt_of_lt_of_le (by have := World.block_lt_of_cell? _ _ hw125_1; first | rwa [add_block] at this | exact this) GW126.out)) | (show (Addr.add _ _).block ≠ _; rw [add_block]; exact Nat.ne_of_lt (Nat.lt_of_lt_of_le (by have := World.block_lt_of_cell? _ _ hw125_1; first | rwa [add_block] at this | exact this) GW126.out)) | (dsimp only; exact Nat.ne_of_lt (Nat.lt_of_lt_of_le (by have := World.block_lt_of_cell? _ _ hw125_1; first | rwa [add_block] at this | exact this) GW126.out))) _).trans (hHeld.2.2.2))))))))⟩ (fun hHeld => ?_)
   clear hK K
   refine done_ (done_of HT_.out (by kernel_rfl)) ?_
   try go_wp2
   go_loopg [5] k (fun kq v5 w' => ∃ (x5_1 : Int) (x124000_1 : Int) (x124001_1 : Int) (x124002_1 : Int) (x124003_1 : Int) (x127000_1 : Int) (x127001_1 : Int) (x127002_1 : Int) (x127003_1 : Int), v5 = .int .i64 x5_1 ∧ Aside0 (spec_BoxOf.l0 kq l0 x5_1 x127000_1 x127001_1 x127002_1 x127003_1 = some (r1, r2, r3, r4, r5)) ∧ Aside0 (kq ≤ k) ∧ Aside0 (w'.heap[gb123]? = some (.cells #[.int .i64 x124000_1, .int .i64 x124001_1, .int .i64 x124002_1, .int .i64 x124003_1] 66 (0, 0))) ∧ Aside0 (w'.heap[gb126]? = some (.cells #[.int .i64 x127000_1, .int .i64 x127001_1, .int .i64 x127002_1, .int .i64 x127003_1] 66 (0, 0))) ∧ Aside0 (Below w.heap.size w w'))
   case atStart => exact ⟨(0), (0), (0), (0), (0), ((rd_T44 l0 0).f0), ((rd_T44 l0 0).f1), ((rd_T44 l0 0).f0), ((rd_T44 l0 0).f1), (by first | rfl | (simp; done) | (simp [*]; done)), H', ⟨Nat.le_refl _⟩, ⟨by (with_reducible repeat (first | refine blk_drewN ?_ _ | refine blk_drew ?_ | refine blk_alloc ?_ _)); refine blk_far ?_ NB123_126.out _; (with_reducible repeat (first | refine blk_drewN ?_ _ | refine blk_drew ?_ | refine blk_alloc ?_ _)); refine blk_far ?_ NB123_126.out _; (with_reducible repeat (first | refine blk_drewN ?_ _ | refine blk_drew ?_ | refine blk_alloc ?_ _)); refine blk_far ?_ NB123_126.out _; (with_reducible repeat (first | refine blk_drewN ?_ _ | refine blk_drew ?_ | refine blk_alloc ?_ _)); refine blk_far ?_ NB123_126.out _; (with_reducible repeat (first | refine blk_drewN ?_ _ | refine blk_drew ?_ | refine blk_alloc ?_ _)); exact BK123.out⟩, ⟨by (with_reducible repeat (first | refine blk_drewN ?_ _ | refine blk_drew ?_ | refine blk_alloc ?_ _)); refine blk_put (cs := #[.int .i64 ((rd_T44 l0 0).f0), .int .i64 ((rd_T44 l0 0).f1), .int .i64 ((rd_T44 l0 0).f0), .int .i64 0]) ?_ 3 _ rfl; (with_reducible repeat (first | refine blk_drewN ?_ _ | refine blk_drew ?_ | refine blk_alloc ?_ _)); refine blk_put (cs := #[.int .i64 ((rd_T44 l0 0).f0), .int .i64 ((rd_T44 l0 0).f1), .int .i64 0, .int .i64 0]) ?_ 2 _ rfl; (with_reducible repeat (first | refine blk_drewN ?_ _ | refine blk_drew ?_ | refine blk_alloc ?_ _)); refine blk_put (cs := #[.int .i64 ((rd_T44 l0 0).f0), .int .i64 0, .int .i64 0, .int .i64 0]) ?_ 1 _ rfl; (with_reducible repeat (first | refine blk_drewN ?_ _ | refine blk_drew ?_ | refine blk_alloc ?_ _)); refine blk_put (cs := #[.int .i64 0, .int .i64 0, .int .i64 0, .int .i64 0]) ?_ 0 _ rfl; (with_reducible repeat (first | refine blk_drewN ?_ _ | refine blk_drew ?_ | refine blk_alloc ?_ _)); exact BK126.out⟩, ⟨Hd.b_⟩⟩
   case round =>
    clear H'
    try clear p1
    try clear q1
    try clear hx1
    try clear qi1
    try clear c2
    try clear c2b0
    try clear c2b1
    try clear c2b2
    try clear p2
    try clear c4
    try clear c5
    try clear c5b0
    try clear c5b1
    try clear p12
    try clear q12
    try clear hx12
    try clear qi12
    try clear hcz4_0
    try clear hcz4_1
    try clear hcz4_2
    try clear hcz4_3
    try clear hfz4_0
    try clear hfz4_1
    try clear hfz4_2
    try clear hfz4_3
    try clear hx124_0
    try clear hx124_1
    try clear hx125_0
    try clear hx125_1
    try clear p124
    try clear p125
    try clear q124
    try clear q125
    obtain ⟨x5_1, x124000_1, x124001_1, x124002_1, x124003_1, x127000_1, x127001_1, x127002_1, x127003_1, rfl, HA, HK1, BK123, BK126, HB⟩ := hrel
    cases gk with
    | zero => exact absurd HA.out (by simp [spec_BoxOf.l0])
    | succ k1 =>
     have H := HA.out
     clear HA
     simp only [spec_BoxOf.l0] at H
     by_cases c13 : x5_1 < (l0.length : Int)
     ·
      rw [if_pos c13] at H
      have c13b0 : decide (x5_1 < (l0.length : Int)) = true := decide_eq_true c13
      clear c13
      by_cases c14 : 0 ≤ x5_1
      ·
       rw [if_pos c14] at H
       have c14b0 : decide (0 ≤ x5_1) = true := decide_eq_true c14
       clear c14
       replace H := Option.bind_eq_some_iff.mp H
       obtain ⟨t128, A150, H⟩ := H
       replace H : (if t128 = true then ((spec_Min.f x127000_1 ((rd_T44 l0 x5_1).f0)).bind fun t130 => ((spec_Min.f x127001_1 ((rd_T44 l0 x5_1).f1)).bind fun t132 => ((spec_Max.f x127002_1 ((rd_T44 l0 x5_1).f0)).bind fun t134 => ((spec_Max.f x127003_1 ((rd_T44 l0 x5_1).f1)).bind fun t136 => (spec_BoxOf.l0 k1 l0 (wrap64 (x5_1 + 1)) t130 t132 t134 t136))))) else (some (0, 0, 0, 0, false))) = some (r1, r2, r3, r4, r5) := H
       have A15 := Aside0.mk A150
       clear A150
       by_cases c16 : t128 = true
       ·
        subst c16
        have H1 : ((spec_Min.f x127000_1 ((rd_T44 l0 x5_1).f0)).bind fun t130 => ((spec_Min.f x127001_1 ((rd_T44 l0 x5_1).f1)).bind fun t132 => ((spec_Max.f x127002_1 ((rd_T44 l0 x5_1).f0)).bind fun t134 => ((spec_Max.f x127003_1 ((rd_T44 l0 x5_1).f1)).bind fun t136 => (spec_BoxOf.l0 k1 l0 (wrap64 (x5_1 + 1)) t130 t132 t134 t136))))) = some (r1, r2, r3, r4, r5) := by rw [if_pos rfl] at H; exact H
        clear H
        have H := H1
        clear H1
        replace H := Option.bind_eq_some_iff.mp H
        obtain ⟨t130, A170, H⟩ := H
        replace H : ((spec_Min.f x127001_1 ((rd_T44 l0 x5_1).f1)).bind fun t132 => ((spec_Max.f x127002_1 ((rd_T44 l0 x5_1).f0)).bind fun t134 => ((spec_Max.f x127003_1 ((rd_T44 l0 x5_1).f1)).bind fun t136 => (spec_BoxOf.l0 k1 l0 (wrap64 (x5_1 + 1)) t130 t132 t134 t136)))) = some (r1, r2, r3, r4, r5) := H
        have A17 := Aside0.mk A170
        clear A170
        replace H := Option.bind_eq_some_iff.mp H
        obtain ⟨t132, A180, H⟩ := H
        replace H : ((spec_Max.f x127002_1 ((rd_T44 l0 x5_1).f0)).bind fun t134 => ((spec_Max.f x127003_1 ((rd_T44 l0 x5_1).f1)).bind fun t136 => (spec_BoxOf.l0 k1 l0 (wrap64 (x5_1 + 1)) t130 t132 t134 t136))) = some (r1, r2, r3, r4, r5) := H
        have A18 := Aside0.mk A180
        clear A180
        replace H := Option.bind_eq_some_iff.mp H
        obtain ⟨t134, A190, H⟩ := H
        replace H : ((spec_Max.f x127003_1 ((rd_T44 l0 x5_1).f1)).bind fun t136 => (spec_BoxOf.l0 k1 l0 (wrap64 (x5_1 + 1)) t130 t132 t134 t136)) = some (r1, r2, r3, r4, r5) := H
        have A19 := Aside0.mk A190
        clear A190
        replace H := Option.bind_eq_some_iff.mp H
        obtain ⟨t136, A200, H⟩ := H
        replace H : (spec_BoxOf.l0 k1 l0 (wrap64 (x5_1 + 1)) t130 t132 t134 t136) = some (r1, r2, r3, r4, r5) := H
        have A20 := Aside0.mk A200
        clear A200
        have H' := Aside0.mk H
        clear H
        have p127 : 0 ≤ (x5_1 : Int) := of_decide_eq_true Hd.a_
        have q127 : x5_1 < (l0.length : Int) := of_decide_eq_true Hd.a_
        obtain ⟨ad127, e127, hx127_0, hx127_1⟩ := at_T44 HR0.out x5_1 p127 q127
        obtain rfl : ad124 = ad127 := (by injection e127)
        replace hx127_0 := (HB.out.cell (World.block_lt_of_cell? w _ hx127_0)).trans hx127_0
        replace hx127_1 := (HB.out.cell (World.block_lt_of_cell? w _ hx127_1)).trans hx127_1
        replace p127 := eq_true p127
        replace q127 := eq_true q127
        try go_wp2_with (first | ((with_reducible refine gate_callee (f := 87) rfl ?_); refine goesL_ (some 27) rfl rfl Try.func87 (by kernel_rfl) rfl #[.agg #[.int .i64 ((rd_T44 l0 x5_1).f0), .int .i64 ((rd_T44 l0 x5_1).f1)]] rfl Hd.m_ ?_; (with_reducible refine (spec_IsPoint.calls ((rd_T44 l0 x5_1).f0) ((rd_T44 l0 x5_1).f1) true _ A15.out).mono ?_); rintro e w21 ⟨rfl, hb⟩; refine ⟨_, rfl, ?_⟩; replace BK123 := Aside0.mk (Hd.kb_ BK123 hb); replace BK126 := Aside0.mk (Hd.kb_ BK126 hb); replace HB := Aside0.mk (below_step Hd.b_ hb); (try clear hb); (try clear hb2); (try clear hk); (try clear hi)))
        replace BK123 := Aside0.mk (blk_drew BK123.out)
        replace BK126 := Aside0.mk (blk_drew BK126.out)
        replace HB := Aside0.mk (below_drew1 HB.out)
        have p129 : 0 ≤ (x5_1 : Int) := of_decide_eq_true Hd.a_
        have q129 : x5_1 < (l0.length : Int) := of_decide_eq_true Hd.a_
        obtain ⟨ad129, e129, hx129_0, hx129_1⟩ := at_T44 HR0.out x5_1 p129 q129
        have hw129_1 := hx129_1
        have hw129_0 := hx129_0
        obtain rfl : ad124 = ad129 := (by injection e129)
        replace hx129_0 := (HB.out.cell (World.block_lt_of_cell? w _ hx129_0)).trans hx129_0
        replace hx129_1 := (HB.out.cell (World.block_lt_of_cell? w _ hx129_1)).trans hx129_1
        replace p129 := eq_true p129
        replace q129 := eq_true q129
        refine start_ (n := 12) (S := fun w' => w'.cell? ⟨gb126, 0, none⟩ = some (.int .i64 x127000_1) ∧ w'.cell? ⟨gb126, 1, none⟩ = some (.int .i64 x127001_1) ∧ w'.cell? ⟨gb126, 2, none⟩ = some (.int .i64 x127002_1) ∧ w'.cell? ⟨gb126, 3, none⟩ = some (.int .i64 x127003_1) ∧ w'.cell? (ad124.add ((x5_1).toNat * 2)) = some (.int .i64 ((rd_T44 l0 x5_1).f0)) ∧ w'.cell? ⟨(ad124.add ((x5_1).toNat * 2)).block, (ad124.add ((x5_1).toNat * 2)).off + 1, none⟩ = some (.int .i64 ((rd_T44 l0 x5_1).f1))) (ds := [11]) #[false, false, false, false, false, false, false, false, false, false, false, false] (by kernel_rfl) rfl rfl ⟨(blk_cell BK126.out 0).trans rfl, (blk_cell BK126.out 1).trans rfl, (blk_cell BK126.out 2).trans rfl, (blk_cell BK126.out 3).trans rfl, ((HB.out.cell (World.block_lt_of_cell? w _ hw129_0)).trans hw129_0), ((HB.out.cell (World.block_lt_of_cell? w _ hw129_1)).trans hw129_1)⟩ (fun hHeld => ?_); refine with_tabW spec_BoxOf.tab9 spec_BoxOf.bits9 (fun HT_ HW_ => ?_)
        generalize w21.drew = w22 at BK123 BK126 HB hx129_0 hx129_1 hHeld ⊢
        refine Hd.p_ HT_ 0 (some 30) #[true, false, false, false, false, false, false, false, false, false, false, false] ?_
        refine Hd.p_ HT_ 1 (some 31) #[true, true, false, false, false, false, false, false, false, false, false, false] ?_
        refine Hd.p_ HT_ 3 (some 33) #[true, true, false, true, false, false, false, false, false, false, false, false] ?_
        refine Hd.p_ HT_ 4 (some 34) #[true, true, false, true, true, false, false, false, false, false, false, false] ?_
        refine Hd.p_ HT_ 5 (some 35) #[true, true, false, true, true, true, false, false, false, false, false, false] ?_
        refine Hd.p_ HT_ 6 (some 36) #[true, true, false, true, true, true, true, false, false, false, false, false] ?_
        refine Hd.t_ HT_ HW_ hHeld 2 (some 32) #[true, true, true, true, true, true, true, false, false, false, false, false] ?_
        refine Hd.t_ HT_ HW_ hHeld 7 (some 37) #[true, true, true, true, true, true, true, true, false, false, false, false] ?_
        refine Hd.o_ HT_ 8 (some 38) #[true, true, true, true, true, true, true, true, true, false, false, false] (fun K hK => ?_)
        refine goes_ Try.func104 (by kernel_rfl) rfl #[.int .i64 x127000_1, .int .i64 ((rd_T44 l0 x5_1).f0)] (by rfl) rfl rfl Hd.m_ ?_
        with_reducible refine (spec_Min.calls x127000_1 ((rd_T44 l0 x5_1).f0) t130 _ A17.out).mono ?_
        rintro e w' ⟨rfl, ⟨nd, rfl⟩⟩
        refine ⟨_, rfl, ?_⟩
        replace BK123 := Aside0.mk (blk_drewN BK123.out nd)
        replace BK126 := Aside0.mk (blk_drewN BK126.out nd)
        replace HB := Aside0.mk (pw_below_drewN HB.out nd)
        generalize w22.drewN nd = w22 at BK123 BK126 HB ⊢
        refine hK.out _ _ ⟨(blk_cell BK126.out 0).trans rfl, (blk_cell BK126.out 1).trans rfl, (blk_cell BK126.out 2).trans rfl, (blk_cell BK126.out 3).trans rfl, ((HB.out.cell (World.block_lt_of_cell? w _ hw129_0)).trans hw129_0), ((HB.out.cell (World.block_lt_of_cell? w _ hw129_1)).trans hw129_1)⟩ (fun hHeld => ?_)
        clear hK K
        refine Hd.n_ (some 38) ?_
        refine Hd.p_ HT_ 9 (some 39) #[true, true, true, true, true, true, true, true, true, true, false, false] ?_
        refine Hd.p_ HT_ 10 (some 40) #[true, true, true, true, true, true, true, true, true, true, true, false] ?_
        refine last_ (i := 11) (N := none) #[true, true, true, true, true, true, true, true, true, true, true, true] rfl rfl (one_of HT_.out (by kernel_rfl)) (by decide) (fun K hK => ?_)
        have hs23 : w22.cell? ⟨gb126, 0, none⟩ = some (.int .i64 x127000_1) := (blk_cell BK126.out 0).trans rfl
        have hfs23 := blk_frozen BK126.out 0
        have hns23_0 := NB123_126.out
        have hms23_0 := NB126_123.out
        refine skip_ (w1 := ?_) (by rfl) rfl ?_ ?_
        rotate_left
        ·
         go_simp
         rfl
        refine hK.out _ _ ?_
        clear hK K
        refine done_ (done_of HT_.out (by kernel_rfl)) ?_
        try go_wp2
        have n0_ : Aside0 ((w22.setCell ⟨gb126, 0, none⟩ (.int .i64 t130)).heap[gb123]? = some (.cells #[.int .i64 x124000_1, .int .i64 x124001_1, .int .i64 x124002_1, .int .i64 x124003_1] 66 (0, 0))) := ⟨by (with_reducible repeat (first | refine blk_drewN ?_ _ | refine blk_drew ?_ | refine blk_alloc ?_ _)); refine blk_far ?_ NB123_126.out _; (with_reducible repeat (first | refine blk_drewN ?_ _ | refine blk_drew ?_ | refine blk_alloc ?_ _)); exact BK123.out⟩
        have n1_ : Aside0 ((w22.setCell ⟨gb126, 0, none⟩ (.int .i64 t130)).heap[gb126]? = some (.cells #[.int .i64 t130, .int .i64 x127001_1, .int .i64 x127002_1, .int .i64 x127003_1] 66 (0, 0))) := ⟨by (with_reducible repeat (first | refine blk_drewN ?_ _ | refine blk_drew ?_ | refine blk_alloc ?_ _)); refine blk_put (cs := #[.int .i64 x127000_1, .int .i64 x127001_1, .int .i64 x127002_1, .int .i64 x127003_1]) ?_ 0 _ rfl; (with_reducible repeat (first | refine blk_drewN ?_ _ | refine blk_drew ?_ | refine blk_alloc ?_ _)); exact BK126.out⟩
        have n2_ : Aside0 (Below w.heap.size w (w22.setCell ⟨gb126, 0, none⟩ (.int .i64 t130))) := ⟨Hd.b_⟩
        (try clear BK123)
        (try clear BK126)
        (try clear HB)
        generalize (w22.setCell ⟨gb126, 0, none⟩ (.int .i64 t130)) = w24 at n0_ n1_ n2_ ⊢
        have BK123 := n0_
        have BK126 := n1_
        have HB := n2_
        clear n0_ n1_ n2_
        (try (rw [drewN_self w24]; generalize hq_ : World.drewN w24 _ = w24; have n0_ : Aside0 (w24.heap[gb123]? = some (.cells #[.int .i64 x124000_1, .int .i64 x124001_1, .int .i64 x124002_1, .int .i64 x124003_1] 66 (0, 0))) := ⟨by rw [← hq_]; exact (Hd.k_ BK123)⟩; have n1_ : Aside0 (w24.heap[gb126]? = some (.cells #[.int .i64 t130, .int .i64 x127001_1, .int .i64 x127002_1, .int .i64 x127003_1] 66 (0, 0))) := ⟨by rw [← hq_]; exact (Hd.k_ BK126)⟩; have n2_ : Aside0 (Below w.heap.size w w24) := ⟨by rw [← hq_]; exact Hd.b_⟩; clear BK123 BK126 HB hq_; have BK123 := n0_; have BK126 := n1_; have HB := n2_; clear n0_ n1_ n2_))
        replace BK123 := Aside0.mk (blk_drew BK123.out)
        replace BK126 := Aside0.mk (blk_drew BK126.out)
        replace HB := Aside0.mk (below_drew1 HB.out)
        have p131 : 0 ≤ (x5_1 : Int) := of_decide_eq_true Hd.a_
        have q131 : x5_1 < (l0.length : Int) := of_decide_eq_true Hd.a_
        obtain ⟨ad131, e131, hx131_0, hx131_1⟩ := at_T44 HR0.out x5_1 p131 q131
        have hw131_1 := hx131_1
        have hw131_0 := hx131_0
        obtain rfl : ad124 = ad131 := (by injection e131)
        replace hx131_0 := (HB.out.cell (World.block_lt_of_cell? w _ hx131_0)).trans hx131_0
        replace hx131_1 := (HB.out.cell (World.block_lt_of_cell? w _ hx131_1)).trans hx131_1
        replace p131 := eq_true p131
        replace q131 := eq_true q131
        refine start_ (n := 12) (S := fun w' => w'.cell? ⟨gb126, 0, none⟩ = some (.int .i64 t130) ∧ w'.cell? ⟨gb126, 1, none⟩ = some (.int .i64 x127001_1) ∧ w'.cell? ⟨gb126, 2, none⟩ = some (.int .i64 x127002_1) ∧ w'.cell? ⟨gb126, 3, none⟩ = some (.int .i64 x127003_1) ∧ w'.cell? (ad124.add ((x5_1).toNat * 2)) = some (.int .i64 ((rd_T44 l0 x5_1).f0)) ∧ w'.cell? ⟨(ad124.add ((x5_1).toNat * 2)).block, (ad124.add ((x5_1).toNat * 2)).off + 1, none⟩ = some (.int .i64 ((rd_T44 l0 x5_1).f1))) (ds := [11]) #[false, false, false, false, false, false, false, false, false, false, false, false] (by kernel_rfl) rfl rfl ⟨(blk_cell BK126.out 0).trans rfl, (blk_cell BK126.out 1).trans rfl, (blk_cell BK126.out 2).trans rfl, (blk_cell BK126.out 3).trans rfl, ((HB.out.cell (World.block_lt_of_cell? w _ hw131_0)).trans hw131_0), ((HB.out.cell (World.block_lt_of_cell? w _ hw131_1)).trans hw131_1)⟩ (fun hHeld => ?_); refine with_tabW spec_BoxOf.tab10 spec_BoxOf.bits10 (fun HT_ HW_ => ?_)
        generalize w24.drew = w25 at BK123 BK126 HB hx131_0 hx131_1 hHeld ⊢
        refine Hd.p_ HT_ 0 (some 41) #[true, false, false, false, false, false, false, false, false, false, false, false] ?_
        refine Hd.p_ HT_ 1 (some 42) #[true, true, false, false, false, false, false, false, false, false, false, false] ?_
        refine Hd.p_ HT_ 3 (some 44) #[true, true, false, true, false, false, false, false, false, false, false, false] ?_
        refine Hd.p_ HT_ 4 (some 45) #[true, true, false, true, true, false, false, false, false, false, false, false] ?_
        refine Hd.p_ HT_ 5 (some 46) #[true, true, false, true, true, true, false, false, false, false, false, false] ?_
        refine Hd.p_ HT_ 6 (some 47) #[true, true, false, true, true, true, true, false, false, false, false, false] ?_
        refine Hd.t_ HT_ HW_ hHeld 2 (some 43) #[true, true, true, true, true, true, true, false, false, false, false, false] ?_
        refine Hd.t_ HT_ HW_ hHeld 7 (some 48) #[true, true, true, true, true, true, true, true, false, false, false, false] ?_
        refine Hd.o_ HT_ 8 (some 49) #[true, true, true, true, true, true, true, true, true, false, false, false] (fun K hK => ?_)
        refine goes_ Try.func104 (by kernel_rfl) rfl #[.int .i64 x127001_1, .int .i64 ((rd_T44 l0 x5_1).f1)] (by rfl) rfl rfl Hd.m_ ?_
        with_reducible refine (spec_Min.calls x127001_1 ((rd_T44 l0 x5_1).f1) t132 _ A18.out).mono ?_
        rintro e w' ⟨rfl, ⟨nd, rfl⟩⟩
        refine ⟨_, rfl, ?_⟩
        replace BK123 := Aside0.mk (blk_drewN BK123.out nd)
        replace BK126 := Aside0.mk (blk_drewN BK126.out nd)
        replace HB := Aside0.mk (pw_below_drewN HB.out nd)
        generalize w25.drewN nd = w25 at BK123 BK126 HB ⊢
        refine hK.out _ _ ⟨(blk_cell BK126.out 0).trans rfl, (blk_cell BK126.out 1).trans rfl, (blk_cell BK126.out 2).trans rfl, (blk_cell BK126.out 3).trans rfl, ((HB.out.cell (World.block_lt_of_cell? w _ hw131_0)).trans hw131_0), ((HB.out.cell (World.block_lt_of_cell? w _ hw131_1)).trans hw131_1)⟩ (fun hHeld => ?_)
        clear hK K
        refine Hd.n_ (some 49) ?_
        refine Hd.p_ HT_ 9 (some 50) #[true, true, true, true, true, true, true, true, true, true, false, false] ?_
        refine Hd.p_ HT_ 10 (some 51) #[true, true, true, true, true, true, true, true, true, true, true, false] ?_
        refine last_ (i := 11) (N := none) #[true, true, true, true, true, true, true, true, true, true, true, true] rfl rfl (one_of HT_.out (by kernel_rfl)) (by decide) (fun K hK => ?_)
        have hs26 : w25.cell? ⟨gb126, 1, none⟩ = some (.int .i64 x127001_1) := (blk_cell BK126.out 1).trans rfl
        have hfs26 := blk_frozen BK126.out 1
        have hns26_0 := NB123_126.out
        have hms26_0 := NB126_123.out
        refine skip_ (w1 := ?_) (by rfl) rfl ?_ ?_
        rotate_left
        ·
         go_simp
         rfl
        refine hK.out _ _ ?_
        clear hK K
        refine done_ (done_of HT_.out (by kernel_rfl)) ?_
        try go_wp2
        have n0_ : Aside0 ((w25.setCell ⟨gb126, 1, none⟩ (.int .i64 t132)).heap[gb123]? = some (.cells #[.int .i64 x124000_1, .int .i64 x124001_1, .int .i64 x124002_1, .int .i64 x124003_1] 66 (0, 0))) := ⟨by (with_reducible repeat (first | refine blk_drewN ?_ _ | refine blk_drew ?_ | refine blk_alloc ?_ _)); refine blk_far ?_ NB123_126.out _; (with_reducible repeat (first | refine blk_drewN ?_ _ | refine blk_drew ?_ | refine blk_alloc ?_ _)); exact BK123.out⟩
        have n1_ : Aside0 ((w25.setCell ⟨gb126, 1, none⟩ (.int .i64 t132)).heap[gb126]? = some (.cells #[.int .i64 t130, .int .i64 t132, .int .i64 x127002_1, .int .i64 x127003_1] 66 (0, 0))) := ⟨by (with_reducible repeat (first | refine blk_drewN ?_ _ | refine blk_drew ?_ | refine blk_alloc ?_ _)); refine blk_put (cs := #[.int .i64 t130, .int .i64 x127001_1, .int .i64 x127002_1, .int .i64 x127003_1]) ?_ 1 _ rfl; (with_reducible repeat (first | refine blk_drewN ?_ _ | refine blk_drew ?_ | refine blk_alloc ?_ _)); exact BK126.out⟩
        have n2_ : Aside0 (Below w.heap.size w (w25.setCell ⟨gb126, 1, none⟩ (.int .i64 t132))) := ⟨Hd.b_⟩
        (try clear BK123)
        (try clear BK126)
        (try clear HB)
        generalize (w25.setCell ⟨gb126, 1, none⟩ (.int .i64 t132)) = w27 at n0_ n1_ n2_ ⊢
        have BK123 := n0_
        have BK126 := n1_
        have HB := n2_
        clear n0_ n1_ n2_
        (try (rw [drewN_self w27]; generalize hq_ : World.drewN w27 _ = w27; have n0_ : Aside0 (w27.heap[gb123]? = some (.cells #[.int .i64 x124000_1, .int .i64 x124001_1, .int .i64 x124002_1, .int .i64 x124003_1] 66 (0, 0))) := ⟨by rw [← hq_]; exact (Hd.k_ BK123)⟩; have n1_ : Aside0 (w27.heap[gb126]? = some (.cells #[.int .i64 t130, .int .i64 t132, .int .i64 x127002_1, .int .i64 x127003_1] 66 (0, 0))) := ⟨by rw [← hq_]; exact (Hd.k_ BK126)⟩; have n2_ : Aside0 (Below w.heap.size w w27) := ⟨by rw [← hq_]; exact Hd.b_⟩; clear BK123 BK126 HB hq_; have BK123 := n0_; have BK126 := n1_; have HB := n2_; clear n0_ n1_ n2_))
        replace BK123 := Aside0.mk (blk_drew BK123.out)
        replace BK126 := Aside0.mk (blk_drew BK126.out)
        replace HB := Aside0.mk (below_drew1 HB.out)
        have p133 : 0 ≤ (x5_1 : Int) := of_decide_eq_true Hd.a_
        have q133 : x5_1 < (l0.length : Int) := of_decide_eq_true Hd.a_
        obtain ⟨ad133, e133, hx133_0, hx133_1⟩ := at_T44 HR0.out x5_1 p133 q133
        have hw133_1 := hx133_1
        have hw133_0 := hx133_0
        obtain rfl : ad124 = ad133 := (by injection e133)
        replace hx133_0 := (HB.out.cell (World.block_lt_of_cell? w _ hx133_0)).trans hx133_0
        replace hx133_1 := (HB.out.cell (World.block_lt_of_cell? w _ hx133_1)).trans hx133_1
        replace p133 := eq_true p133
        replace q133 := eq_true q133
        refine start_ (n := 12) (S := fun w' => w'.cell? ⟨gb126, 0, none⟩ = some (.int .i64 t130) ∧ w'.cell? ⟨gb126, 1, none⟩ = some (.int .i64 t132) ∧ w'.cell? ⟨gb126, 2, none⟩ = some (.int .i64 x127002_1) ∧ w'.cell? ⟨gb126, 3, none⟩ = some (.int .i64 x127003_1) ∧ w'.cell? (ad124.add ((x5_1).toNat * 2)) = some (.int .i64 ((rd_T44 l0 x5_1).f0)) ∧ w'.cell? ⟨(ad124.add ((x5_1).toNat * 2)).block, (ad124.add ((x5_1).toNat * 2)).off + 1, none⟩ = some (.int .i64 ((rd_T44 l0 x5_1).f1))) (ds := [11]) #[false, false, false, false, false, false, false, false, false, false, false, false] (by kernel_rfl) rfl rfl ⟨(blk_cell BK126.out 0).trans rfl, (blk_cell BK126.out 1).trans rfl, (blk_cell BK126.out 2).trans rfl, (blk_cell BK126.out 3).trans rfl, ((HB.out.cell (World.block_lt_of_cell? w _ hw133_0)).trans hw133_0), ((HB.out.cell (World.block_lt_of_cell? w _ hw133_1)).trans hw133_1)⟩ (fun hHeld => ?_); refine with_tabW spec_BoxOf.tab11 spec_BoxOf.bits11 (fun HT_ HW_ => ?_)
        generalize w27.drew = w28 at BK123 BK126 HB hx133_0 hx133_1 hHeld ⊢
        refine Hd.p_ HT_ 0 (some 52) #[true, false, false, false, false, false, false, false, false, false, false, false] ?_
        refine Hd.p_ HT_ 1 (some 53) #[true, true, false, false, false, false, false, false, false, false, false, false] ?_
        refine Hd.p_ HT_ 3 (some 55) #[true, true, false, true, false, false, false, false, false, false, false, false] ?_
        refine Hd.p_ HT_ 4 (some 56) #[true, true, false, true, true, false, false, false, false, false, false, false] ?_
        refine Hd.p_ HT_ 5 (some 57) #[true, true, false, true, true, true, false, false, false, false, false, false] ?_
        refine Hd.p_ HT_ 6 (some 58) #[true, true, false, true, true, true, true, false, false, false, false, false] ?_
        refine Hd.t_ HT_ HW_ hHeld 2 (some 54) #[true, true, true, true, true, true, true, false, false, false, false, false] ?_
        refine Hd.t_ HT_ HW_ hHeld 7 (some 59) #[true, true, true, true, true, true, true, true, false, false, false, false] ?_
        refine Hd.o_ HT_ 8 (some 60) #[true, true, true, true, true, true, true, true, true, false, false, false] (fun K hK => ?_)
        refine goes_ Try.func98 (by kernel_rfl) rfl #[.int .i64 x127002_1, .int .i64 ((rd_T44 l0 x5_1).f0)] (by rfl) rfl rfl Hd.m_ ?_
        with_reducible refine (spec_Max.calls x127002_1 ((rd_T44 l0 x5_1).f0) t134 _ A19.out).mono ?_
        rintro e w' ⟨rfl, ⟨nd, rfl⟩⟩
        refine ⟨_, rfl, ?_⟩
        replace BK123 := Aside0.mk (blk_drewN BK123.out nd)
        replace BK126 := Aside0.mk (blk_drewN BK126.out nd)
        replace HB := Aside0.mk (pw_below_drewN HB.out nd)
        generalize w28.drewN nd = w28 at BK123 BK126 HB ⊢
        refine hK.out _ _ ⟨(blk_cell BK126.out 0).trans rfl, (blk_cell BK126.out 1).trans rfl, (blk_cell BK126.out 2).trans rfl, (blk_cell BK126.out 3).trans rfl, ((HB.out.cell (World.block_lt_of_cell? w _ hw133_0)).trans hw133_0), ((HB.out.cell (World.block_lt_of_cell? w _ hw133_1)).trans hw133_1)⟩ (fun hHeld => ?_)
        clear hK K
        refine Hd.n_ (some 60) ?_
        refine Hd.p_ HT_ 9 (some 61) #[true, true, true, true, true, true, true, true, true, true, false, false] ?_
        refine Hd.p_ HT_ 10 (some 62) #[true, true, true, true, true, true, true, true, true, true, true, false] ?_
        refine last_ (i := 11) (N := none) #[true, true, true, true, true, true, true, true, true, true, true, true] rfl rfl (one_of HT_.out (by kernel_rfl)) (by decide) (fun K hK => ?_)
        have hs29 : w28.cell? ⟨gb126, 2, none⟩ = some (.int .i64 x127002_1) := (blk_cell BK126.out 2).trans rfl
        have hfs29 := blk_frozen BK126.out 2
        have hns29_0 := NB123_126.out
        have hms29_0 := NB126_123.out
        refine skip_ (w1 := ?_) (by rfl) rfl ?_ ?_
        rotate_left
        ·
         go_simp
         rfl
        refine hK.out _ _ ?_
        clear hK K
        refine done_ (done_of HT_.out (by kernel_rfl)) ?_
        try go_wp2
        have n0_ : Aside0 ((w28.setCell ⟨gb126, 2, none⟩ (.int .i64 t134)).heap[gb123]? = some (.cells #[.int .i64 x124000_1, .int .i64 x124001_1, .int .i64 x124002_1, .int .i64 x124003_1] 66 (0, 0))) := ⟨by (with_reducible repeat (first | refine blk_drewN ?_ _ | refine blk_drew ?_ | refine blk_alloc ?_ _)); refine blk_far ?_ NB123_126.out _; (with_reducible repeat (first | refine blk_drewN ?_ _ | refine blk_drew ?_ | refine blk_alloc ?_ _)); exact BK123.out⟩
        have n1_ : Aside0 ((w28.setCell ⟨gb126, 2, none⟩ (.int .i64 t134)).heap[gb126]? = some (.cells #[.int .i64 t130, .int .i64 t132, .int .i64 t134, .int .i64 x127003_1] 66 (0, 0))) := ⟨by (with_reducible repeat (first | refine blk_drewN ?_ _ | refine blk_drew ?_ | refine blk_alloc ?_ _)); refine blk_put (cs := #[.int .i64 t130, .int .i64 t132, .int .i64 x127002_1, .int .i64 x127003_1]) ?_ 2 _ rfl; (with_reducible repeat (first | refine blk_drewN ?_ _ | refine blk_drew ?_ | refine blk_alloc ?_ _)); exact BK126.out⟩
        have n2_ : Aside0 (Below w.heap.size w (w28.setCell ⟨gb126, 2, none⟩ (.int .i64 t134))) := ⟨Hd.b_⟩
        (try clear BK123)
        (try clear BK126)
        (try clear HB)
        generalize (w28.setCell ⟨gb126, 2, none⟩ (.int .i64 t134)) = w30 at n0_ n1_ n2_ ⊢
        have BK123 := n0_
        have BK126 := n1_
        have HB := n2_
        clear n0_ n1_ n2_
        (try (rw [drewN_self w30]; generalize hq_ : World.drewN w30 _ = w30; have n0_ : Aside0 (w30.heap[gb123]? = some (.cells #[.int .i64 x124000_1, .int .i64 x124001_1, .int .i64 x124002_1, .int .i64 x124003_1] 66 (0, 0))) := ⟨by rw [← hq_]; exact (Hd.k_ BK123)⟩; have n1_ : Aside0 (w30.heap[gb126]? = some (.cells #[.int .i64 t130, .int .i64 t132, .int .i64 t134, .int .i64 x127003_1] 66 (0, 0))) := ⟨by rw [← hq_]; exact (Hd.k_ BK126)⟩; have n2_ : Aside0 (Below w.heap.size w w30) := ⟨by rw [← hq_]; exact Hd.b_⟩; clear BK123 BK126 HB hq_; have BK123 := n0_; have BK126 := n1_; have HB := n2_; clear n0_ n1_ n2_))
        replace BK123 := Aside0.mk (blk_drew BK123.out)
        replace BK126 := Aside0.mk (blk_drew BK126.out)
        replace HB := Aside0.mk (below_drew1 HB.out)
        have p135 : 0 ≤ (x5_1 : Int) := of_decide_eq_true Hd.a_
        have q135 : x5_1 < (l0.length : Int) := of_decide_eq_true Hd.a_
        obtain ⟨ad135, e135, hx135_0, hx135_1⟩ := at_T44 HR0.out x5_1 p135 q135
        have hw135_1 := hx135_1
        have hw135_0 := hx135_0
        obtain rfl : ad124 = ad135 := (by injection e135)
        replace hx135_0 := (HB.out.cell (World.block_lt_of_cell? w _ hx135_0)).trans hx135_0
        replace hx135_1 := (HB.out.cell (World.block_lt_of_cell? w _ hx135_1)).trans hx135_1
        replace p135 := eq_true p135
        replace q135 := eq_true q135
        refine start_ (n := 12) (S := fun w' => w'.cell? ⟨gb126, 0, none⟩ = some (.int .i64 t130) ∧ w'.cell? ⟨gb126, 1, none⟩ = some (.int .i64 t132) ∧ w'.cell? ⟨gb126, 2, none⟩ = some (.int .i64 t134) ∧ w'.cell? ⟨gb126, 3, none⟩ = some (.int .i64 x127003_1) ∧ w'.cell? (ad124.add ((x5_1).toNat * 2)) = some (.int .i64 ((rd_T44 l0 x5_1).f0)) ∧ w'.cell? ⟨(ad124.add ((x5_1).toNat * 2)).block, (ad124.add ((x5_1).toNat * 2)).off + 1, none⟩ = some (.int .i64 ((rd_T44 l0 x5_1).f1))) (ds := [11]) #[false, false, false, false, false, false, false, false, false, false, false, false] (by kernel_rfl) rfl rfl ⟨(blk_cell BK126.out 0).trans rfl, (blk_cell BK126.out 1).trans rfl, (blk_cell BK126.out 2).trans rfl, (blk_cell BK126.out 3).trans rfl, ((HB.out.cell (World.block_lt_of_cell? w _ hw135_0)).trans hw135_0), ((HB.out.cell (World.block_lt_of_cell? w _ hw135_1)).trans hw135_1)⟩ (fun hHeld => ?_); refine with_tabW spec_BoxOf.tab12 spec_BoxOf.bits12 (fun HT_ HW_ => ?_)
        generalize w30.drew = w31 at BK123 BK126 HB hx135_0 hx135_1 hHeld ⊢
        refine Hd.p_ HT_ 0 (some 63) #[true, false, false, false, false, false, false, false, false, false, false, false] ?_
        refine Hd.p_ HT_ 1 (some 64) #[true, true, false, false, false, false, false, false, false, false, false, false] ?_
        refine Hd.p_ HT_ 3 (some 66) #[true, true, false, true, false, false, false, false, false, false, false, false] ?_
        refine Hd.p_ HT_ 4 (some 67) #[true, true, false, true, true, false, false, false, false, false, false, false] ?_
        refine Hd.p_ HT_ 5 (some 68) #[true, true, false, true, true, true, false, false, false, false, false, false] ?_
        refine Hd.p_ HT_ 6 (some 69) #[true, true, false, true, true, true, true, false, false, false, false, false] ?_
        refine Hd.t_ HT_ HW_ hHeld 2 (some 65) #[true, true, true, true, true, true, true, false, false, false, false, false] ?_
        refine Hd.t_ HT_ HW_ hHeld 7 (some 70) #[true, true, true, true, true, true, true, true, false, false, false, false] ?_
        refine Hd.o_ HT_ 8 (some 71) #[true, true, true, true, true, true, true, true, true, false, false, false] (fun K hK => ?_)
        refine goes_ Try.func98 (by kernel_rfl) rfl #[.int .i64 x127003_1, .int .i64 ((rd_T44 l0 x5_1).f1)] (by rfl) rfl rfl Hd.m_ ?_
        with_reducible refine (spec_Max.calls x127003_1 ((rd_T44 l0 x5_1).f1) t136 _ A20.out).mono ?_
        rintro e w' ⟨rfl, ⟨nd, rfl⟩⟩
        refine ⟨_, rfl, ?_⟩
        replace BK123 := Aside0.mk (blk_drewN BK123.out nd)
        replace BK126 := Aside0.mk (blk_drewN BK126.out nd)
        replace HB := Aside0.mk (pw_below_drewN HB.out nd)
        generalize w31.drewN nd = w31 at BK123 BK126 HB ⊢
        refine hK.out _ _ ⟨(blk_cell BK126.out 0).trans rfl, (blk_cell BK126.out 1).trans rfl, (blk_cell BK126.out 2).trans rfl, (blk_cell BK126.out 3).trans rfl, ((HB.out.cell (World.block_lt_of_cell? w _ hw135_0)).trans hw135_0), ((HB.out.cell (World.block_lt_of_cell? w _ hw135_1)).trans hw135_1)⟩ (fun hHeld => ?_)
        clear hK K
        refine Hd.n_ (some 71) ?_
        refine Hd.p_ HT_ 9 (some 72) #[true, true, true, true, true, true, true, true, true, true, false, false] ?_
        refine Hd.p_ HT_ 10 (some 73) #[true, true, true, true, true, true, true, true, true, true, true, false] ?_
        refine last_ (i := 11) (N := none) #[true, true, true, true, true, true, true, true, true, true, true, true] rfl rfl (one_of HT_.out (by kernel_rfl)) (by decide) (fun K hK => ?_)
        have hs32 : w31.cell? ⟨gb126, 3, none⟩ = some (.int .i64 x127003_1) := (blk_cell BK126.out 3).trans rfl
        have hfs32 := blk_frozen BK126.out 3
        have hns32_0 := NB123_126.out
        have hms32_0 := NB126_123.out
        refine skip_ (w1 := ?_) (by rfl) rfl ?_ ?_
        rotate_left
        ·
         go_simp
         rfl
        refine hK.out _ _ ?_
        clear hK K
        refine done_ (done_of HT_.out (by kernel_rfl)) ?_
        try go_wp2
        go_roundg k1
        case measure => have := HK1.out; omega
        case rel => exact ⟨(wrap64 (x5_1 + 1)), (x124000_1), (x124001_1), (x124002_1), (x124003_1), (t130), (t132), (t134), (t136), (by first | rfl | (simp; done) | (simp [*]; done)), H', ⟨by have := HK1.out; omega⟩, ⟨by (with_reducible repeat (first | refine blk_drewN ?_ _ | refine blk_drew ?_ | refine blk_alloc ?_ _)); refine blk_far ?_ NB123_126.out _; (with_reducible repeat (first | refine blk_drewN ?_ _ | refine blk_drew ?_ | refine blk_alloc ?_ _)); exact BK123.out⟩, ⟨by (with_reducible repeat (first | refine blk_drewN ?_ _ | refine blk_drew ?_ | refine blk_alloc ?_ _)); refine blk_put (cs := #[.int .i64 t130, .int .i64 t132, .int .i64 t134, .int .i64 x127003_1]) ?_ 3 _ rfl; (with_reducible repeat (first | refine blk_drewN ?_ _ | refine blk_drew ?_ | refine blk_alloc ?_ _)); exact BK126.out⟩, ⟨Hd.b_⟩⟩
       ·
        replace c16 := Bool.eq_false_iff.mpr c16
        subst c16
        have H1 : (some (0, 0, 0, 0, false)) = some (r1, r2, r3, r4, r5) := by rw [if_neg (show ¬ (false = true) by decide)] at H; exact H
        clear H
        have H := H1
        clear H1
        simp only [Option.some.injEq, Prod.mk.injEq] at H
        obtain ⟨rfl, rfl, rfl, rfl, rfl⟩ := H
        have p127 : 0 ≤ (x5_1 : Int) := of_decide_eq_true Hd.a_
        have q127 : x5_1 < (l0.length : Int) := of_decide_eq_true Hd.a_
        obtain ⟨ad127, e127, hx127_0, hx127_1⟩ := at_T44 HR0.out x5_1 p127 q127
        obtain rfl : ad124 = ad127 := (by injection e127)
        replace hx127_0 := (HB.out.cell (World.block_lt_of_cell? w _ hx127_0)).trans hx127_0
        replace hx127_1 := (HB.out.cell (World.block_lt_of_cell? w _ hx127_1)).trans hx127_1
        replace p127 := eq_true p127
        replace q127 := eq_true q127
        go_wp2_with (first | ((with_reducible refine gate_callee (f := 87) rfl ?_); refine goesL_ (some 27) rfl rfl Try.func87 (by kernel_rfl) rfl #[.agg #[.int .i64 ((rd_T44 l0 x5_1).f0), .int .i64 ((rd_T44 l0 x5_1).f1)]] rfl Hd.m_ ?_; (with_reducible refine (spec_IsPoint.calls ((rd_T44 l0 x5_1).f0) ((rd_T44 l0 x5_1).f1) false _ A15.out).mono ?_); rintro e w33 ⟨rfl, hb⟩; refine ⟨_, rfl, ?_⟩; replace BK123 := Aside0.mk (Hd.kb_ BK123 hb); replace BK126 := Aside0.mk (Hd.kb_ BK126 hb); replace HB := Aside0.mk (below_step Hd.b_ hb); (try clear hb); (try clear hb2); (try clear hk); (try clear hi); have hnb34 := NB123_126.out; have hnc34 := NB126_123.out; obtain ⟨hcz35_0, hcz35_1, hcz35_2, hcz35_3⟩ := Hd.c4_ BK123.out; obtain ⟨hfz35_0, hfz35_1, hfz35_2, hfz35_3⟩ := Hd.f4_ BK123.out))
        refine bodyPost_ret (results_ct rfl _ _ gb123 66 #[.int .i64 0, .int .i64 0, .int .i64 0, .int .i64 0] (0, 0) _ rfl (by (with_reducible repeat (first | refine blk_drewN ?_ _ | refine blk_drew ?_ | refine blk_alloc ?_ _)); refine blk_put (cs := #[.int .i64 0, .int .i64 0, .int .i64 0, .int .i64 x124003_1]) ?_ 3 _ rfl; (with_reducible repeat (first | refine blk_drewN ?_ _ | refine blk_drew ?_ | refine blk_alloc ?_ _)); refine blk_put (cs := #[.int .i64 0, .int .i64 0, .int .i64 x124002_1, .int .i64 x124003_1]) ?_ 2 _ rfl; (with_reducible repeat (first | refine blk_drewN ?_ _ | refine blk_drew ?_ | refine blk_alloc ?_ _)); refine blk_put (cs := #[.int .i64 0, .int .i64 x124001_1, .int .i64 x124002_1, .int .i64 x124003_1]) ?_ 1 _ rfl; (with_reducible repeat (first | refine blk_drewN ?_ _ | refine blk_drew ?_ | refine blk_alloc ?_ _)); refine blk_put (cs := #[.int .i64 x124000_1, .int .i64 x124001_1, .int .i64 x124002_1, .int .i64 x124003_1]) ?_ 0 _ rfl; (with_reducible repeat (first | refine blk_drewN ?_ _ | refine blk_drew ?_ | refine blk_alloc ?_ _)); exact BK123.out) Try.underlying66 rfl (by kernel_rfl)) rfl ?_
        exact ⟨Hd.e_, Hd.b_⟩
      ·
       rw [if_neg c14] at H
       exact absurd H (by simp)
     ·
      rw [if_neg c13] at H
      have c13b0 : decide (x5_1 < (l0.length : Int)) = false := decide_eq_false c13
      clear c13
      simp only [Option.some.injEq, Prod.mk.injEq] at H
      obtain ⟨rfl, rfl, rfl, rfl, rfl⟩ := H
      have hnb36 := NB126_123.out
      have hnc36 := NB123_126.out
      obtain ⟨hcz37_0, hcz37_1, hcz37_2, hcz37_3⟩ := Hd.c4_ BK126.out
      obtain ⟨hfz37_0, hfz37_1, hfz37_2, hfz37_3⟩ := Hd.f4_ BK126.out
      obtain ⟨hcz38_0, hcz38_1, hcz38_2, hcz38_3⟩ := Hd.c4_ BK123.out
      obtain ⟨hfz38_0, hfz38_1, hfz38_2, hfz38_3⟩ := Hd.f4_ BK123.out
      go_wp2
      refine bodyPost_ret (results_ct rfl _ _ gb123 66 #[.int .i64 x127000_1, .int .i64 x127001_1, .int .i64 x127002_1, .int .i64 x127003_1] (0, 0) _ rfl (by (with_reducible repeat (first | refine blk_drewN ?_ _ | refine blk_drew ?_ | refine blk_alloc ?_ _)); refine blk_put (cs := #[.int .i64 x127000_1, .int .i64 x127001_1, .int .i64 x127002_1, .int .i64 x124003_1]) ?_ 3 _ rfl; (with_reducible repeat (first | refine blk_drewN ?_ _ | refine blk_drew ?_ | refine blk_alloc ?_ _)); refine blk_put (cs := #[.int .i64 x127000_1, .int .i64 x127001_1, .int .i64 x124002_1, .int .i64 x124003_1]) ?_ 2 _ rfl; (with_reducible repeat (first | refine blk_drewN ?_ _ | refine blk_drew ?_ | refine blk_alloc ?_ _)); refine blk_put (cs := #[.int .i64 x127000_1, .int .i64 x124001_1, .int .i64 x124002_1, .int .i64 x124003_1]) ?_ 1 _ rfl; (with_reducible repeat (first | refine blk_drewN ?_ _ | refine blk_drew ?_ | refine blk_alloc ?_ _)); refine blk_put (cs := #[.int .i64 x124000_1, .int .i64 x124001_1, .int .i64 x124002_1, .int .i64 x124003_1]) ?_ 0 _ rfl; (with_reducible repeat (first | refine blk_drewN ?_ _ | refine blk_drew ?_ | refine blk_alloc ?_ _)); exact BK123.out) Try.underlying66 rfl (by kernel_rfl)) rfl ?_
      exact ⟨Hd.e_, Hd.b_⟩
  ·
   rw [if_neg c5] at H
   exact absurd H (by simp)
def impl_InRange.f (a0 : Int) (a1 : Int) (a2 : Int) : Option (Bool) := if a1 ≤ a0 then (some (decide (a0 ≤ a2))) else (some false)
set_option maxHeartbeats 8000000 in
set_option maxRecDepth 100000 in
theorem impl_InRange.calls (a0 : Int) (a1 : Int) (a2 : Int) (r : Bool) (w : World) (h : impl_InRange.f a0 a1 a2 = some r) :
  Calls Try.prog 92 #[.int .i64 a0, .int .i64 a1, .int .i64 a2] w fun e w' => e = .returned (.bool r) ∧ Drawn0 w w' := by
 have H : (if a1 ≤ a0 then (some (decide (a0 ≤ a2))) else (some false)) = some r := h
 clear h
 by_cases c4 : a1 ≤ a0
 ·
  rw [if_pos c4] at H
  have c4b0 : decide (a1 ≤ a0) = true := decide_eq_true c4
  clear c4
  obtain rfl := Option.some.inj H
  go_enter Try.func92, Try.ntmps92
  go_wp2
  go_ret
  exact ⟨by first | rfl | (simp; done) | (simp [*]; done), by repeat (first | exact Drawn0.refl _ | apply Drawn0.step)⟩
 ·
  rw [if_neg c4] at H
  have c4b0 : decide (a1 ≤ a0) = false := decide_eq_false c4
  clear c4
  obtain rfl := Option.some.inj H
  go_enter Try.func92, Try.ntmps92
  go_wp2
  go_ret
  exact ⟨by first | rfl | (simp; done) | (simp [*]; done), by repeat (first | exact Drawn0.refl _ | apply Drawn0.step)⟩
def impl_IsPoint.f (a0_0 : Int) (a0_1 : Int) : Option (Bool) := (impl_InRange.f a0_0 0 200).bind fun t138 => (if t138 = true then ((impl_InRange.f a0_1 0 200).bind fun t139 => (some t139)) else (some false))
set_option maxHeartbeats 8000000 in
set_option maxRecDepth 100000 in
theorem impl_IsPoint.calls (a0_0 : Int) (a0_1 : Int) (r : Bool) (w : World) (h : impl_IsPoint.f a0_0 a0_1 = some r) :
  Calls Try.prog 91 #[.agg #[.int .i64 a0_0, .int .i64 a0_1]] w fun e w' => e = .returned (.bool r) ∧ Below w.heap.size w w' := by
 have hu44 := Try.underlying44
 have HB := Aside0.mk (Below.refl w.heap.size w)
 have H : ((impl_InRange.f a0_0 0 200).bind fun t138 => (if t138 = true then ((impl_InRange.f a0_1 0 200).bind fun t139 => (some t139)) else (some false))) = some r := h
 clear h
 replace H := Option.bind_eq_some_iff.mp H
 obtain ⟨t138, A20, H⟩ := H
 replace H : (if t138 = true then ((impl_InRange.f a0_1 0 200).bind fun t139 => (some t139)) else (some false)) = some r := H
 have A2 := Aside0.mk A20
 clear A20
 by_cases c3 : t138 = true
 ·
  subst c3
  have H1 : ((impl_InRange.f a0_1 0 200).bind fun t139 => (some t139)) = some r := by rw [if_pos rfl] at H; exact H
  clear H
  have H := H1
  clear H1
  replace H := Option.bind_eq_some_iff.mp H
  obtain ⟨t139, A40, H⟩ := H
  replace H : (some t139) = some r := H
  have A4 := Aside0.mk A40
  clear A40
  obtain rfl := Option.some.inj H
  go_enter Try.func91, Try.ntmps91
  go_wp2_with (first | ((with_reducible refine gate_dst (N := 1) rfl ?_); refine Hd.box_ 1 (#[.int .i64 a0_0, .int .i64 a0_1]) 44 ?_; intro gb137 hg w5 hbox hb; have BK137 := Aside0.mk (hbox); have GW137 := Aside0.mk ((Hd.g_ hg Hd.b_ : w.heap.size ≤ gb137)); have GE137 := Aside0.mk ((Hd.g_ hg Hd.b_ : w.heap.size ≤ gb137)); replace HB := Aside0.mk (below_step Hd.b_ hb); clear hb hbox hg; obtain ⟨hcz6_0, hcz6_1⟩ := Hd.c2_ BK137.out; obtain ⟨hfz6_0, hfz6_1⟩ := Hd.f2_ BK137.out) | ((with_reducible refine gate_callee (f := 92) rfl ?_); refine goesL_ (some 5) rfl rfl Try.func92 (by kernel_rfl) rfl #[.int .i64 a0_0, .int .i64 0, .int .i64 200] rfl Hd.m_ ?_; (with_reducible refine (impl_InRange.calls a0_0 0 200 true _ A2.out).mono ?_); rintro e w' ⟨rfl, ⟨nd, rfl⟩⟩; refine ⟨_, rfl, ?_⟩) | (go_at_call 92; (with_reducible refine (impl_InRange.calls a0_1 0 200 t139 _ A4.out).mono ?_); rintro e w' ⟨rfl, ⟨nd, rfl⟩⟩))
  go_ret
  exact ⟨Hd.e_, Hd.b_⟩
 ·
  replace c3 := Bool.eq_false_iff.mpr c3
  subst c3
  have H1 : (some false) = some r := by rw [if_neg (show ¬ (false = true) by decide)] at H; exact H
  clear H
  have H := H1
  clear H1
  obtain rfl := Option.some.inj H
  go_enter Try.func91, Try.ntmps91
  go_wp2_with (first | ((with_reducible refine gate_dst (N := 1) rfl ?_); refine Hd.box_ 1 (#[.int .i64 a0_0, .int .i64 a0_1]) 44 ?_; intro gb137 hg w7 hbox hb; have BK137 := Aside0.mk (hbox); have GW137 := Aside0.mk ((Hd.g_ hg Hd.b_ : w.heap.size ≤ gb137)); have GE137 := Aside0.mk ((Hd.g_ hg Hd.b_ : w.heap.size ≤ gb137)); replace HB := Aside0.mk (below_step Hd.b_ hb); clear hb hbox hg; obtain ⟨hcz8_0, hcz8_1⟩ := Hd.c2_ BK137.out; obtain ⟨hfz8_0, hfz8_1⟩ := Hd.f2_ BK137.out) | ((with_reducible refine gate_callee (f := 92) rfl ?_); refine goesL_ (some 5) rfl rfl Try.func92 (by kernel_rfl) rfl #[.int .i64 a0_0, .int .i64 0, .int .i64 200] rfl Hd.m_ ?_; (with_reducible refine (impl_InRange.calls a0_0 0 200 false _ A2.out).mono ?_); rintro e w' ⟨rfl, ⟨nd, rfl⟩⟩; refine ⟨_, rfl, ?_⟩))
  go_ret
  exact ⟨Hd.e_, Hd.b_⟩
end Go.Proofs.Ytchmbcembbbplaa.MFnExactBoxOf
