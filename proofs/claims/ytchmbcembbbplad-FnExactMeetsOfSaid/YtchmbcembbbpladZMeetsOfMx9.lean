-- Laid by this session's program pp.py, after the kit's print and texts of the session's own. Not trusted: Lean checks it.
import Derived.Test.YtchmbcembbbpladZMeetsOfMx0
import Derived.Test.YtchmbcembbbpladZMeetsOfMx3
import Derived.Test.YtchmbcembbbpladZMeetsOfMx6
import Derived.Test.YtchmbcembbbpladZMeetsOfMx7
import Derived.Test.YtchmbcembbbpladZMeetsOfMx8
namespace Go.Proofs.Ytchmbcembbbplad.MFnExactMeetsOf
open Go.RowKit Go.Proofs.YtchmbcembbbpladW.PrintWords Go.Proofs.YtchmbcembbbpladW.PrintLast Go.Proofs.YtchmbcembbbpladW.PrintMore
attribute [local go_sem] max2_int min2_int max_two min_two max_three min_three max_four min_four   -- for this text's walks alone
set_option linter.unusedVariables false
set_option linter.unusedSimpArgs false
def impl_IsFeature.j0 : Nat → Bool → Int → Int → Int → ByteArray → List (S63) → Option (Bool)
 | 0,_,_,_,_,_,_ => none
 | k + 1,x23,x261000,x261001,x261002,x261003,x261004 => if x23 = true then (some false) else (if x261001 = 1 then (if (x261004.length : Int) = 1 then (if 0 < (x261004.length : Int) then ((impl_IsPoint.f ((rd_T63 x261004 0).f0) ((rd_T63 x261004 0).f1)).bind fun t265 => (some t265)) else (none)) else (some false)) else (if x261001 = 2 then ((impl_IsSimple.f k x261004).bind fun t266 => (some t266)) else (if x261001 = 3 then ((impl_IsRing.f k x261004).bind fun t267 => (some t267)) else (some false))))
def impl_IsFeature.f (k : Nat) (a0_0 : Int) (a0_1 : Int) (a0_2 : Int) (a0_3 : ByteArray) (l0_4 : List (S63)) : Option (Bool):=(impl_InRange.f a0_0 1 99).bind fun t261 => (if t261 = true then ((impl_InRange.f a0_2 0 9).bind fun t262 => (if t262 = true then (if a0_3.toList = ([] : List UInt8) then (impl_IsFeature.j0 k false a0_0 a0_1 a0_2 a0_3 l0_4) else ((impl_IsName.f k a0_3).bind fun t263 => (impl_IsFeature.j0 k (!t263) a0_0 a0_1 a0_2 a0_3 l0_4))) else (impl_IsFeature.j0 k true a0_0 a0_1 a0_2 a0_3 l0_4))) else (impl_IsFeature.j0 k true a0_0 a0_1 a0_2 a0_3 l0_4))
set_option maxHeartbeats 8000000 in
set_option maxRecDepth 100000 in
theorem impl_IsFeature.calls (k : Nat) (a0_0 : Int) (a0_1 : Int) (a0_2 : Int) (a0_3 : ByteArray) (A0_4 : Option Addr) (c0_4 : Nat) (l0_4 : List (S63)) (r : Bool) (w : World) (hr0_4 : Kd.C k63 w A0_4 l0_4.length l0_4) (hc0_4 : l0_4.length ≤ c0_4) (h : impl_IsFeature.f k a0_0 a0_1 a0_2 a0_3 l0_4 = some r) :
  Calls Try.prog 51 #[.agg #[.int .i64 a0_0,.int .i64 a0_1,.int .i64 a0_2,.string a0_3,.slice A0_4 l0_4.length c0_4]] w fun e w' => e = .returned (.bool r) ∧ Below w.heap.size w w':=by
 have hu37:=Try.underlying37
 have hu63:=Try.underlying63
 have HR0_4:=Aside0.mk hr0_4
 have HC0_4:=Aside0.mk hc0_4
 clear hr0_4 hc0_4
 have HB:=Aside0.mk (Below.refl w.heap.size w)
 have H : ((impl_InRange.f a0_0 1 99).bind fun t261 => (if t261 = true then ((impl_InRange.f a0_2 0 9).bind fun t262 => (if t262 = true then (if a0_3.toList = ([] : List UInt8) then (impl_IsFeature.j0 k false a0_0 a0_1 a0_2 a0_3 l0_4) else ((impl_IsName.f k a0_3).bind fun t263 => (impl_IsFeature.j0 k (!t263) a0_0 a0_1 a0_2 a0_3 l0_4))) else (impl_IsFeature.j0 k true a0_0 a0_1 a0_2 a0_3 l0_4))) else (impl_IsFeature.j0 k true a0_0 a0_1 a0_2 a0_3 l0_4))) = some r:=h
 clear h
 have HC2:=Aside0.mk H
 clear H
 go_enter Try.func51,Try.ntmps51
 go_upto_region 1 with (first | ((with_reducible refine gate_dst (N:=1) rfl ?_);refine Hd.box_ 1 (#[.int .i64 a0_0,.int .i64 a0_1,.int .i64 a0_2,.string a0_3,.slice A0_4 l0_4.length c0_4]) 37 ?_;intro gb260 hg w3 hbox hb;have BK260:=Aside0.mk (hbox);have GW260:=Aside0.mk ((Hd.g_ hg Hd.b_ : w.heap.size ≤ gb260));have GE260:=Aside0.mk ((Hd.g_ hg Hd.b_ : w.heap.size ≤ gb260));replace HB:=Aside0.mk (below_step Hd.b_ hb);clear hb hbox hg))
 (try simp only [Act.put,List.setIfInBounds_toArray,List.set_cons_zero,List.set_cons_succ])
 go_cut [23] (fun v23 wc => ∃ (kq : Nat) (x23_1 : Bool),v23 = .bool x23_1 ∧ Aside0 (impl_IsFeature.j0 kq x23_1 a0_0 a0_1 a0_2 a0_3 l0_4 = some r) ∧ Aside0 (kq ≤ k) ∧ Aside0 (wc.heap[gb260]? = some (.cells #[.int .i64 a0_0,.int .i64 a0_1,.int .i64 a0_2,.string a0_3,(.slice A0_4 l0_4.length c0_4)] 37 (0,0))) ∧ Aside0 (Below w.heap.size w wc))
 case first =>
  have H:=HC2.out
  clear HC2
  replace H:=Option.bind_eq_some_iff.mp H
  obtain ⟨t261,A40,H⟩:=H
  replace H : (if t261 = true then ((impl_InRange.f a0_2 0 9).bind fun t262 => (if t262 = true then (if a0_3.toList = ([] : List UInt8) then (impl_IsFeature.j0 k false a0_0 a0_1 a0_2 a0_3 l0_4) else ((impl_IsName.f k a0_3).bind fun t263 => (impl_IsFeature.j0 k (!t263) a0_0 a0_1 a0_2 a0_3 l0_4))) else (impl_IsFeature.j0 k true a0_0 a0_1 a0_2 a0_3 l0_4))) else (impl_IsFeature.j0 k true a0_0 a0_1 a0_2 a0_3 l0_4)) = some r:=H
  have A4:=Aside0.mk A40
  clear A40
  by_cases c5 : t261 = true
  ·
   subst c5
   have H1 : ((impl_InRange.f a0_2 0 9).bind fun t262 => (if t262 = true then (if a0_3.toList = ([] : List UInt8) then (impl_IsFeature.j0 k false a0_0 a0_1 a0_2 a0_3 l0_4) else ((impl_IsName.f k a0_3).bind fun t263 => (impl_IsFeature.j0 k (!t263) a0_0 a0_1 a0_2 a0_3 l0_4))) else (impl_IsFeature.j0 k true a0_0 a0_1 a0_2 a0_3 l0_4))) = some r:=by rw [if_pos rfl] at H;exact H
   clear H
   have H:=H1
   clear H1
   replace H:=Option.bind_eq_some_iff.mp H
   obtain ⟨t262,A60,H⟩:=H
   replace H : (if t262 = true then (if a0_3.toList = ([] : List UInt8) then (impl_IsFeature.j0 k false a0_0 a0_1 a0_2 a0_3 l0_4) else ((impl_IsName.f k a0_3).bind fun t263 => (impl_IsFeature.j0 k (!t263) a0_0 a0_1 a0_2 a0_3 l0_4))) else (impl_IsFeature.j0 k true a0_0 a0_1 a0_2 a0_3 l0_4)) = some r:=H
   have A6:=Aside0.mk A60
   clear A60
   by_cases c7 : t262 = true
   ·
    subst c7
    have H1 : (if a0_3.toList = ([] : List UInt8) then (impl_IsFeature.j0 k false a0_0 a0_1 a0_2 a0_3 l0_4) else ((impl_IsName.f k a0_3).bind fun t263 => (impl_IsFeature.j0 k (!t263) a0_0 a0_1 a0_2 a0_3 l0_4))) = some r:=by rw [if_pos rfl] at H;exact H
    clear H
    have H:=H1
    clear H1
    by_cases c8 : a0_3.toList = ([] : List UInt8)
    ·
     rw [if_pos c8] at H
     have c8b0 : (a0_3.toList == ([] : List UInt8)) = true:=beq_iff_eq.mpr c8
     have c8b1 : (a0_3.toList != ([] : List UInt8)) = false:=bne_eq_false_iff_eq.mpr c8
     clear c8
     (first | rw [c8b0] | (simp only [i64_w,i32_w];rw [c8b0]) | skip)
     have H':=Aside0.mk H
     clear H
     obtain ⟨hcz9_0,hcz9_1,hcz9_2,hcz9_3,hcz9_4⟩:=Hd.c5_ BK260.out
     obtain ⟨hfz9_0,hfz9_1,hfz9_2,hfz9_3,hfz9_4⟩:=Hd.f5_ BK260.out
     go_wp2_with (first | ((with_reducible refine gate_callee (f:=76) rfl ?_);refine goesL_ (some 5) rfl rfl Try.func76 (by kernel_rfl) rfl #[.int .i64 a0_0,.int .i64 1,.int .i64 99] rfl Hd.m_ ?_;(with_reducible refine (impl_InRange.calls a0_0 1 99 true _ A4.out).mono ?_);rintro e w' ⟨rfl,⟨nd,rfl⟩⟩;refine ⟨_,rfl,?_⟩) | (go_at_call 76;(with_reducible refine (impl_InRange.calls a0_2 0 9 true _ A6.out).mono ?_);rintro e w' ⟨rfl,⟨nd,rfl⟩⟩))
     go_meet
     case rel => exact ⟨_,(false),(by first | rfl | (simp;done) | (simp [*];done)),H',⟨by first | omega | exact Nat.le_refl _⟩,⟨by (with_reducible repeat (first | refine blk_drewN ?_ _ | refine blk_drew ?_ | refine blk_alloc ?_ _));exact BK260.out⟩,⟨Hd.b_⟩⟩
    ·
     rw [if_neg c8] at H
     have c8b0 : (a0_3.toList == ([] : List UInt8)) = false:=beq_eq_false_iff_ne.mpr c8
     have c8b1 : (a0_3.toList != ([] : List UInt8)) = true:=bne_iff_ne.mpr c8
     (first | rw [c8b0] | (simp only [i64_w,i32_w];rw [c8b0]) | skip)
     replace H:=Option.bind_eq_some_iff.mp H
     obtain ⟨t263,A100,H⟩:=H
     replace H : (impl_IsFeature.j0 k (!t263) a0_0 a0_1 a0_2 a0_3 l0_4) = some r:=H
     have A10:=Aside0.mk A100
     clear A100
     have H':=Aside0.mk H
     clear H
     obtain ⟨hcz11_0,hcz11_1,hcz11_2,hcz11_3,hcz11_4⟩:=Hd.c5_ BK260.out
     obtain ⟨hfz11_0,hfz11_1,hfz11_2,hfz11_3,hfz11_4⟩:=Hd.f5_ BK260.out
     go_wp2_with (first | ((with_reducible refine gate_callee (f:=76) rfl ?_);refine goesL_ (some 5) rfl rfl Try.func76 (by kernel_rfl) rfl #[.int .i64 a0_0,.int .i64 1,.int .i64 99] rfl Hd.m_ ?_;(with_reducible refine (impl_InRange.calls a0_0 1 99 true _ A4.out).mono ?_);rintro e w' ⟨rfl,⟨nd,rfl⟩⟩;refine ⟨_,rfl,?_⟩) | (go_at_call 76;(with_reducible refine (impl_InRange.calls a0_2 0 9 true _ A6.out).mono ?_);rintro e w' ⟨rfl,⟨nd,rfl⟩⟩) | (go_at_call 77;(with_reducible refine (impl_IsName.calls k a0_3 t263 _ A10.out).mono ?_);rintro e w' ⟨rfl,⟨nd,rfl⟩⟩))
     go_meet
     case rel => exact ⟨_,(!t263),(by first | rfl | (simp;done) | (simp [*];done)),H',⟨by first | omega | exact Nat.le_refl _⟩,⟨by (with_reducible repeat (first | refine blk_drewN ?_ _ | refine blk_drew ?_ | refine blk_alloc ?_ _));exact BK260.out⟩,⟨Hd.b_⟩⟩
   ·
    replace c7:=Bool.eq_false_iff.mpr c7
    subst c7
    have H1 : (impl_IsFeature.j0 k true a0_0 a0_1 a0_2 a0_3 l0_4) = some r:=by rw [if_neg (show ¬ (false = true) by decide)] at H;exact H
    clear H
    have H:=H1
    clear H1
    have H':=Aside0.mk H
    clear H
    obtain ⟨hcz12_0,hcz12_1,hcz12_2,hcz12_3,hcz12_4⟩:=Hd.c5_ BK260.out
    obtain ⟨hfz12_0,hfz12_1,hfz12_2,hfz12_3,hfz12_4⟩:=Hd.f5_ BK260.out
    go_wp2_with (first | ((with_reducible refine gate_callee (f:=76) rfl ?_);refine goesL_ (some 5) rfl rfl Try.func76 (by kernel_rfl) rfl #[.int .i64 a0_0,.int .i64 1,.int .i64 99] rfl Hd.m_ ?_;(with_reducible refine (impl_InRange.calls a0_0 1 99 true _ A4.out).mono ?_);rintro e w' ⟨rfl,⟨nd,rfl⟩⟩;refine ⟨_,rfl,?_⟩) | (go_at_call 76;(with_reducible refine (impl_InRange.calls a0_2 0 9 false _ A6.out).mono ?_);rintro e w' ⟨rfl,⟨nd,rfl⟩⟩))
    go_meet
    case rel => exact ⟨_,(true),(by first | rfl | (simp;done) | (simp [*];done)),H',⟨by first | omega | exact Nat.le_refl _⟩,⟨by (with_reducible repeat (first | refine blk_drewN ?_ _ | refine blk_drew ?_ | refine blk_alloc ?_ _));exact BK260.out⟩,⟨Hd.b_⟩⟩
  ·
   replace c5:=Bool.eq_false_iff.mpr c5
   subst c5
   have H1 : (impl_IsFeature.j0 k true a0_0 a0_1 a0_2 a0_3 l0_4) = some r:=by rw [if_neg (show ¬ (false = true) by decide)] at H;exact H
   clear H
   have H:=H1
   clear H1
   have H':=Aside0.mk H
   clear H
   obtain ⟨hcz13_0,hcz13_1,hcz13_2,hcz13_3,hcz13_4⟩:=Hd.c5_ BK260.out
   obtain ⟨hfz13_0,hfz13_1,hfz13_2,hfz13_3,hfz13_4⟩:=Hd.f5_ BK260.out
   go_wp2_with (first | ((with_reducible refine gate_callee (f:=76) rfl ?_);refine goesL_ (some 5) rfl rfl Try.func76 (by kernel_rfl) rfl #[.int .i64 a0_0,.int .i64 1,.int .i64 99] rfl Hd.m_ ?_;(with_reducible refine (impl_InRange.calls a0_0 1 99 false _ A4.out).mono ?_);rintro e w' ⟨rfl,⟨nd,rfl⟩⟩;refine ⟨_,rfl,?_⟩))
   go_meet
   case rel => exact ⟨_,(true),(by first | rfl | (simp;done) | (simp [*];done)),H',⟨by first | omega | exact Nat.le_refl _⟩,⟨by (with_reducible repeat (first | refine blk_drewN ?_ _ | refine blk_drew ?_ | refine blk_alloc ?_ _));exact BK260.out⟩,⟨Hd.b_⟩⟩
 case rest =>
  clear HC2
  try clear p2
  try clear c5
  try clear c7
  try clear c8
  try clear c8b0
  try clear c8b1
  try clear hcz11_0
  try clear hcz11_1
  try clear hcz11_2
  try clear hcz11_3
  try clear hcz11_4
  try clear hcz12_0
  try clear hcz12_1
  try clear hcz12_2
  try clear hcz12_3
  try clear hcz12_4
  try clear hcz13_0
  try clear hcz13_1
  try clear hcz13_2
  try clear hcz13_3
  try clear hcz13_4
  try clear hcz9_0
  try clear hcz9_1
  try clear hcz9_2
  try clear hcz9_3
  try clear hcz9_4
  try clear hfz11_0
  try clear hfz11_1
  try clear hfz11_2
  try clear hfz11_3
  try clear hfz11_4
  try clear hfz12_0
  try clear hfz12_1
  try clear hfz12_2
  try clear hfz12_3
  try clear hfz12_4
  try clear hfz13_0
  try clear hfz13_1
  try clear hfz13_2
  try clear hfz13_3
  try clear hfz13_4
  try clear hfz9_0
  try clear hfz9_1
  try clear hfz9_2
  try clear hfz9_3
  try clear hfz9_4
  obtain ⟨kq,x23_1,rfl,HA,HJ1,BK260,HB⟩:=hcut
  cases kq with
  | zero => exact absurd HA.out (by simp [impl_IsFeature.j0])
  | succ kj1 =>
   have H:=HA.out
   clear HA
   simp only [impl_IsFeature.j0] at H
   by_cases c14 : x23_1 = true
   ·
    subst c14
    have H1 : (some false) = some r:=by rw [if_pos rfl] at H;exact H
    clear H
    have H:=H1
    clear H1
    obtain rfl:=Option.some.inj H
    go_wp2
    go_ret
    exact ⟨Hd.e_,Hd.b_⟩
   ·
    replace c14:=Bool.eq_false_iff.mpr c14
    subst c14
    have H1 : (if a0_1 = 1 then (if (l0_4.length : Int) = 1 then (if 0 < (l0_4.length : Int) then ((impl_IsPoint.f ((rd_T63 l0_4 0).f0) ((rd_T63 l0_4 0).f1)).bind fun t265 => (some t265)) else (none)) else (some false)) else (if a0_1 = 2 then ((impl_IsSimple.f kj1 l0_4).bind fun t266 => (some t266)) else (if a0_1 = 3 then ((impl_IsRing.f kj1 l0_4).bind fun t267 => (some t267)) else (some false)))) = some r:=by rw [if_neg (show ¬ (false = true) by decide)] at H;exact H
    clear H
    have H:=H1
    clear H1
    by_cases c15 : a0_1 = 1
    ·
     rw [if_pos c15] at H
     have c15b0 : (a0_1 == 1) = true:=beq_iff_eq.mpr c15
     have c15b1 : (a0_1 != 1) = false:=bne_eq_false_iff_eq.mpr c15
     clear c15
     by_cases c16 : (l0_4.length : Int) = 1
     ·
      rw [if_pos c16] at H
      have c16b0 : ((l0_4.length : Int) == 1) = true:=beq_iff_eq.mpr c16
      have c16b1 : ((l0_4.length : Int) != 1) = false:=bne_eq_false_iff_eq.mpr c16
      clear c16
      by_cases c17 : 0 < (l0_4.length : Int)
      ·
       rw [if_pos c17] at H
       have c17b0 : decide (0 < (l0_4.length : Int)) = true:=decide_eq_true c17
       have c17b1 : decide (0 < l0_4.length) = true:=decide_eq_true (by omega)
       clear c17
       replace H:=Option.bind_eq_some_iff.mp H
       obtain ⟨t265,A180,H⟩:=H
       replace H : (some t265) = some r:=H
       have A18:=Aside0.mk A180
       clear A180
       obtain rfl:=Option.some.inj H
       obtain ⟨hcz19_0,hcz19_1,hcz19_2,hcz19_3,hcz19_4⟩:=Hd.c5_ BK260.out
       obtain ⟨hfz19_0,hfz19_1,hfz19_2,hfz19_3,hfz19_4⟩:=Hd.f5_ BK260.out
       have p264 : 0 ≤ (0 : Int):=(by omega)
       have q264 : 0 < (l0_4.length : Int):=of_decide_eq_true Hd.a_
       obtain ⟨ad264,e264,hx264_0,hx264_1⟩:=at_T63 HR0_4.out 0 p264 q264
       cases e264
       have qi264 : (0 < l0_4.length) = True:=eq_true (by omega)
       (try rw [show ((0 : Int)).toNat = 0 from rfl] at hx264_0)
       (try rw [show 0 * 2 = 0 from rfl] at hx264_0)
       (try rw [Addr.add_zero'] at hx264_0)
       (try rw [show ((0 : Int)).toNat = 0 from rfl] at hx264_1)
       (try rw [show 0 * 2 = 0 from rfl] at hx264_1)
       (try rw [Addr.add_zero'] at hx264_1)
       replace hx264_0:=(HB.out.cell (World.block_lt_of_cell? w _ hx264_0)).trans hx264_0
       replace hx264_1:=(HB.out.cell (World.block_lt_of_cell? w _ hx264_1)).trans hx264_1
       replace p264:=eq_true p264
       replace q264:=eq_true q264
       go_wp2_with (first | (go_at_call 78;(with_reducible refine (impl_IsPoint.calls ((rd_T63 l0_4 0).f0) ((rd_T63 l0_4 0).f1) t265 _ A18.out).mono ?_);rintro e w20 ⟨rfl,hb⟩;replace BK260:=Aside0.mk (Hd.kb_ BK260 hb);replace HB:=Aside0.mk (below_step Hd.b_ hb);(try clear hb);(try clear hb2);(try clear hk);(try clear hi)))
       go_ret
       exact ⟨Hd.e_,Hd.b_⟩
      ·
       rw [if_neg c17] at H
       exact absurd H (by simp)
     ·
      rw [if_neg c16] at H
      have c16b0 : ((l0_4.length : Int) == 1) = false:=beq_eq_false_iff_ne.mpr c16
      have c16b1 : ((l0_4.length : Int) != 1) = true:=bne_iff_ne.mpr c16
      obtain rfl:=Option.some.inj H
      obtain ⟨hcz21_0,hcz21_1,hcz21_2,hcz21_3,hcz21_4⟩:=Hd.c5_ BK260.out
      obtain ⟨hfz21_0,hfz21_1,hfz21_2,hfz21_3,hfz21_4⟩:=Hd.f5_ BK260.out
      go_wp2
      go_ret
      exact ⟨Hd.e_,Hd.b_⟩
    ·
     rw [if_neg c15] at H
     have c15b0 : (a0_1 == 1) = false:=beq_eq_false_iff_ne.mpr c15
     have c15b1 : (a0_1 != 1) = true:=bne_iff_ne.mpr c15
     by_cases c22 : a0_1 = 2
     ·
      rw [if_pos c22] at H
      have c22b0 : (a0_1 == 2) = true:=beq_iff_eq.mpr c22
      have c22b1 : (a0_1 != 2) = false:=bne_eq_false_iff_eq.mpr c22
      clear c22
      replace H:=Option.bind_eq_some_iff.mp H
      obtain ⟨t266,A230,H⟩:=H
      replace H : (some t266) = some r:=H
      have A23:=Aside0.mk A230
      clear A230
      obtain rfl:=Option.some.inj H
      obtain ⟨hcz24_0,hcz24_1,hcz24_2,hcz24_3,hcz24_4⟩:=Hd.c5_ BK260.out
      obtain ⟨hfz24_0,hfz24_1,hfz24_2,hfz24_3,hfz24_4⟩:=Hd.f5_ BK260.out
      go_wp2_with (first | ((with_reducible refine gate_callee (f:=79) rfl ?_);refine goesL_ (some 43) rfl rfl Try.func79 (by kernel_rfl) rfl #[.slice A0_4 l0_4.length c0_4] rfl Hd.m_ ?_;(with_reducible refine (impl_IsSimple.calls kj1 _ _ l0_4 t266 _ ?side1 ?side2 A23.out).mono ?_);(case side1 => repeat (first | exact (Kd.C_below HR0_4.out HB.out) | (with_reducible refine Kd.C_alloc ?_ _) | (with_reducible refine Kd.C_drewN ?_ _) | (with_reducible refine Kd.C_drew ?_)));(case side2 => exact HC0_4.out);rintro e w25 ⟨rfl,hb⟩;refine ⟨_,rfl,?_⟩;replace BK260:=Aside0.mk (Hd.kb_ BK260 hb);replace HB:=Aside0.mk (below_step Hd.b_ hb);(try clear hb);(try clear hb2);(try clear hk);(try clear hi)))
      go_ret
      exact ⟨Hd.e_,Hd.b_⟩
     ·
      rw [if_neg c22] at H
      have c22b0 : (a0_1 == 2) = false:=beq_eq_false_iff_ne.mpr c22
      have c22b1 : (a0_1 != 2) = true:=bne_iff_ne.mpr c22
      by_cases c26 : a0_1 = 3
      ·
       rw [if_pos c26] at H
       have c26b0 : (a0_1 == 3) = true:=beq_iff_eq.mpr c26
       have c26b1 : (a0_1 != 3) = false:=bne_eq_false_iff_eq.mpr c26
       clear c26
       replace H:=Option.bind_eq_some_iff.mp H
       obtain ⟨t267,A270,H⟩:=H
       replace H : (some t267) = some r:=H
       have A27:=Aside0.mk A270
       clear A270
       obtain rfl:=Option.some.inj H
       obtain ⟨hcz28_0,hcz28_1,hcz28_2,hcz28_3,hcz28_4⟩:=Hd.c5_ BK260.out
       obtain ⟨hfz28_0,hfz28_1,hfz28_2,hfz28_3,hfz28_4⟩:=Hd.f5_ BK260.out
       go_wp2_with (first | ((with_reducible refine gate_callee (f:=80) rfl ?_);refine goesL_ (some 48) rfl rfl Try.func80 (by kernel_rfl) rfl #[.slice A0_4 l0_4.length c0_4] rfl Hd.m_ ?_;(with_reducible refine (impl_IsRing.calls kj1 _ _ l0_4 t267 _ ?side1 ?side2 A27.out).mono ?_);(case side1 => repeat (first | exact (Kd.C_below HR0_4.out HB.out) | (with_reducible refine Kd.C_alloc ?_ _) | (with_reducible refine Kd.C_drewN ?_ _) | (with_reducible refine Kd.C_drew ?_)));(case side2 => exact HC0_4.out);rintro e w29 ⟨rfl,hb⟩;refine ⟨_,rfl,?_⟩;replace BK260:=Aside0.mk (Hd.kb_ BK260 hb);replace HB:=Aside0.mk (below_step Hd.b_ hb);(try clear hb);(try clear hb2);(try clear hk);(try clear hi)))
       go_ret
       exact ⟨Hd.e_,Hd.b_⟩
      ·
       rw [if_neg c26] at H
       have c26b0 : (a0_1 == 3) = false:=beq_eq_false_iff_ne.mpr c26
       have c26b1 : (a0_1 != 3) = true:=bne_iff_ne.mpr c26
       obtain rfl:=Option.some.inj H
       obtain ⟨hcz30_0,hcz30_1,hcz30_2,hcz30_3,hcz30_4⟩:=Hd.c5_ BK260.out
       obtain ⟨hfz30_0,hfz30_1,hfz30_2,hfz30_3,hfz30_4⟩:=Hd.f5_ BK260.out
       go_wp2
       go_ret
       exact ⟨Hd.e_,Hd.b_⟩
def impl_RingSegments.f (k : Nat) (l0 : List (S63)) : Option ((List (S100))):=(impl_IsRing.f k l0).bind fun t268 => (if t268 = true then ((impl_around.f k l0).bind fun t269 => (some t269)) else (some (([] : List (S100)))))
set_option maxHeartbeats 8000000 in
set_option maxRecDepth 100000 in
theorem impl_RingSegments.calls (k : Nat) (A0 : Option Addr) (c0 : Nat) (l0 : List (S63)) (r : List (S100)) (w : World) (hr0 : Kd.C k63 w A0 l0.length l0) (hc0 : l0.length ≤ c0) (h : impl_RingSegments.f k l0 = some r) :
  Calls Try.prog 75 #[.slice A0 l0.length c0] w fun e w' => ∃ v0_ : Value,e = .returned (v0_) ∧ Kd.R k100 100 w' w.heap.size (fun _ => True) v0_ r ∧ Below w.heap.size w w':=by
 have HR0:=Aside0.mk hr0
 have HC0:=Aside0.mk hc0
 clear hr0 hc0
 have HB:=Aside0.mk (Below.refl w.heap.size w)
 have H : ((impl_IsRing.f k l0).bind fun t268 => (if t268 = true then ((impl_around.f k l0).bind fun t269 => (some t269)) else (some (([] : List (S100)))))) = some r:=h
 clear h
 replace H:=Option.bind_eq_some_iff.mp H
 obtain ⟨t268,A20,H⟩:=H
 replace H : (if t268 = true then ((impl_around.f k l0).bind fun t269 => (some t269)) else (some (([] : List (S100))))) = some r:=H
 have A2:=Aside0.mk A20
 clear A20
 by_cases c3 : t268 = true
 ·
  subst c3
  have H1 : ((impl_around.f k l0).bind fun t269 => (some t269)) = some r:=by rw [if_pos rfl] at H;exact H
  clear H
  have H:=H1
  clear H1
  replace H:=Option.bind_eq_some_iff.mp H
  obtain ⟨t269,A40,H⟩:=H
  replace H : (some t269) = some r:=H
  have A4:=Aside0.mk A40
  clear A40
  obtain rfl:=Option.some.inj H
  go_enter Try.func75,Try.ntmps75
  go_wp2_with (first | ((with_reducible refine gate_callee (f:=80) rfl ?_);refine goesL_ (some 4) rfl rfl Try.func80 (by kernel_rfl) rfl #[.slice A0 l0.length c0] rfl Hd.m_ ?_;(with_reducible refine (impl_IsRing.calls k _ _ l0 true _ ?side1 ?side2 A2.out).mono ?_);(case side1 => repeat (first | exact HR0.out | (with_reducible refine Kd.C_alloc ?_ _) | (with_reducible refine Kd.C_drewN ?_ _) | (with_reducible refine Kd.C_drew ?_)));(case side2 => exact HC0.out);rintro e w5 ⟨rfl,hb⟩;refine ⟨_,rfl,?_⟩;replace HB:=Aside0.mk (below_step Hd.b_ hb);(try clear hb);(try clear hb2);(try clear hk);(try clear hi)) | ((with_reducible refine gate_callee (f:=111) rfl ?_);refine goesL_ (some 8) rfl rfl Try.func111 (by kernel_rfl) rfl #[.slice A0 l0.length c0] rfl Hd.m_ ?_;(with_reducible refine (impl_around.calls k _ _ l0 t269 _ ?side1 ?side2 A4.out).mono ?_);(case side1 => repeat (first | exact (Kd.C_below HR0.out HB.out) | (with_reducible refine Kd.C_alloc ?_ _) | (with_reducible refine Kd.C_drewN ?_ _) | (with_reducible refine Kd.C_drew ?_)));(case side2 => exact HC0.out);rintro e w6 ⟨v270,rfl,ho0,hb⟩;refine ⟨_,rfl,?_⟩;have HO271:=Aside0.mk (Kd.R_lower ho0 (below_size Hd.b_));replace HB:=Aside0.mk (below_step Hd.b_ hb);(try clear hb);(try clear hb2);(try clear hk);(try clear hi);(try clear ho0)))
  go_ret
  exact ⟨_,Hd.e_,by (with_reducible repeat (first | apply Kd.R_alloc | apply Kd.R_drewN | apply Kd.R_drew));exact HO271.out,Hd.b_⟩
 ·
  replace c3:=Bool.eq_false_iff.mpr c3
  subst c3
  have H1 : (some (([] : List (S100)))) = some r:=by rw [if_neg (show ¬ (false = true) by decide)] at H;exact H
  clear H
  have H:=H1
  clear H1
  obtain ⟨y272,hy272⟩ : ∃ y_ : List (S100),y_ = (([] : List (S100))):=⟨_,rfl⟩
  replace H : (some y272) = some r:=by first | (rw [hy272];with_reducible exact H) | (have H2_:=(Option.bind_some _ _).symm.trans H;rw [hy272];with_reducible exact H2_) | (have H2_:=(Option.bind_some _ _).symm.trans H;with_reducible exact H2_) | with_reducible exact H | (rw [hy272];exact H) | exact H
  have Ny272:=Aside0.mk hy272
  clear hy272
  obtain rfl:=Option.some.inj H
  go_enter Try.func75,Try.ntmps75
  go_wp2_with (first | ((with_reducible refine gate_callee (f:=80) rfl ?_);refine goesL_ (some 4) rfl rfl Try.func80 (by kernel_rfl) rfl #[.slice A0 l0.length c0] rfl Hd.m_ ?_;(with_reducible refine (impl_IsRing.calls k _ _ l0 false _ ?side1 ?side2 A2.out).mono ?_);(case side1 => repeat (first | exact HR0.out | (with_reducible refine Kd.C_alloc ?_ _) | (with_reducible refine Kd.C_drewN ?_ _) | (with_reducible refine Kd.C_drew ?_)));(case side2 => exact HC0.out);rintro e w7 ⟨rfl,hb⟩;refine ⟨_,rfl,?_⟩;replace HB:=Aside0.mk (below_step Hd.b_ hb);(try clear hb);(try clear hb2);(try clear hk);(try clear hi)) | ((with_reducible refine gate_dst (N:=6) rfl ?_);refine Kd.R_lit k100 _ 100 ?hg (N:=6) ?hd (xs:=([] : List (S100))) (inner:=[]) (ok:=fun _ => True) (okp:=fun _ => True) ?hr ?hp (fun _ hk => hk) trivial (Below.refl _ _) (Nat.le_refl _) (by simp) ?_;(case hd => rfl);(case hg => rfl);(case hr => first | (go_simp;done) | (go_simp;rfl));(case hp => exact (Reps.none _ _));intro v273 w8 ho9 hb hg_ hnew_;clear hg_ hnew_;(first | rw [← Ny272.out] at ho9 | (simp only [Int.reduceToNat] at ho9;rw [← Ny272.out] at ho9));have HO274:=Aside0.mk (Kd.R_lower ho9 (below_size Hd.b_));replace HB:=Aside0.mk (below_step Hd.b_ hb);clear hb ho9))
  go_ret
  exact ⟨_,Hd.e_,by (with_reducible repeat (first | apply Kd.R_alloc | apply Kd.R_drewN | apply Kd.R_drew));exact HO274.out,Hd.b_⟩
def impl_PartsOf.f (k : Nat) (a0_0 : Int) (a0_1 : Int) (a0_2 : Int) (a0_3 : ByteArray) (l0_4 : List (S63)) : Option ((List (S100))):=(impl_IsFeature.f k a0_0 a0_1 a0_2 a0_3 l0_4).bind fun t276 => (if t276 = true then (if a0_1 = 2 then ((impl_SegmentsOf.f k l0_4).bind fun t277 => (some t277)) else (if a0_1 = 3 then ((impl_RingSegments.f k l0_4).bind fun t280 => (some t280)) else (some (([] : List (S100)))))) else (some (([] : List (S100)))))
set_option maxHeartbeats 8000000 in
set_option maxRecDepth 100000 in
theorem impl_PartsOf.calls (k : Nat) (a0_0 : Int) (a0_1 : Int) (a0_2 : Int) (a0_3 : ByteArray) (A0_4 : Option Addr) (c0_4 : Nat) (l0_4 : List (S63)) (r : List (S100)) (w : World) (hr0_4 : Kd.C k63 w A0_4 l0_4.length l0_4) (hc0_4 : l0_4.length ≤ c0_4) (h : impl_PartsOf.f k a0_0 a0_1 a0_2 a0_3 l0_4 = some r) :
  Calls Try.prog 49 #[.agg #[.int .i64 a0_0,.int .i64 a0_1,.int .i64 a0_2,.string a0_3,.slice A0_4 l0_4.length c0_4]] w fun e w' => ∃ v0_ : Value,e = .returned (v0_) ∧ Kd.R k100 100 w' w.heap.size (fun _ => True) v0_ r ∧ Below w.heap.size w w':=by
 have hu37:=Try.underlying37
 have HR0_4:=Aside0.mk hr0_4
 have HC0_4:=Aside0.mk hc0_4
 clear hr0_4 hc0_4
 have HB:=Aside0.mk (Below.refl w.heap.size w)
 have H : ((impl_IsFeature.f k a0_0 a0_1 a0_2 a0_3 l0_4).bind fun t276 => (if t276 = true then (if a0_1 = 2 then ((impl_SegmentsOf.f k l0_4).bind fun t277 => (some t277)) else (if a0_1 = 3 then ((impl_RingSegments.f k l0_4).bind fun t280 => (some t280)) else (some (([] : List (S100)))))) else (some (([] : List (S100)))))) = some r:=h
 clear h
 replace H:=Option.bind_eq_some_iff.mp H
 obtain ⟨t276,A20,H⟩:=H
 replace H : (if t276 = true then (if a0_1 = 2 then ((impl_SegmentsOf.f k l0_4).bind fun t277 => (some t277)) else (if a0_1 = 3 then ((impl_RingSegments.f k l0_4).bind fun t280 => (some t280)) else (some (([] : List (S100)))))) else (some (([] : List (S100))))) = some r:=H
 have A2:=Aside0.mk A20
 clear A20
 by_cases c3 : t276 = true
 ·
  subst c3
  have H1 : (if a0_1 = 2 then ((impl_SegmentsOf.f k l0_4).bind fun t277 => (some t277)) else (if a0_1 = 3 then ((impl_RingSegments.f k l0_4).bind fun t280 => (some t280)) else (some (([] : List (S100)))))) = some r:=by rw [if_pos rfl] at H;exact H
  clear H
  have H:=H1
  clear H1
  by_cases c4 : a0_1 = 2
  ·
   rw [if_pos c4] at H
   have c4b0 : (a0_1 == 2) = true:=beq_iff_eq.mpr c4
   have c4b1 : (a0_1 != 2) = false:=bne_eq_false_iff_eq.mpr c4
   clear c4
   replace H:=Option.bind_eq_some_iff.mp H
   obtain ⟨t277,A50,H⟩:=H
   replace H : (some t277) = some r:=H
   have A5:=Aside0.mk A50
   clear A50
   obtain rfl:=Option.some.inj H
   go_enter Try.func49,Try.ntmps49
   go_wp2_with (first | ((with_reducible refine gate_dst (N:=1) rfl ?_);refine Hd.box_ 1 (#[.int .i64 a0_0,.int .i64 a0_1,.int .i64 a0_2,.string a0_3,.slice A0_4 l0_4.length c0_4]) 37 ?_;intro gb275 hg w6 hbox hb;have BK275:=Aside0.mk (hbox);have GW275:=Aside0.mk ((Hd.g_ hg Hd.b_ : w.heap.size ≤ gb275));have GE275:=Aside0.mk ((Hd.g_ hg Hd.b_ : w.heap.size ≤ gb275));replace HB:=Aside0.mk (below_step Hd.b_ hb);clear hb hbox hg;obtain ⟨hcz7_0,hcz7_1,hcz7_2,hcz7_3,hcz7_4⟩:=Hd.c5_ BK275.out;obtain ⟨hfz7_0,hfz7_1,hfz7_2,hfz7_3,hfz7_4⟩:=Hd.f5_ BK275.out) | ((with_reducible refine gate_callee (f:=51) rfl ?_);refine goesL_ (some 4) rfl rfl Try.func51 (by kernel_rfl) rfl #[.agg #[.int .i64 a0_0,.int .i64 a0_1,.int .i64 a0_2,.string a0_3,.slice A0_4 l0_4.length c0_4]] rfl Hd.m_ ?_;(with_reducible refine (impl_IsFeature.calls k a0_0 a0_1 a0_2 a0_3 _ _ l0_4 true _ ?side1 ?side2 A2.out).mono ?_);(case side1 => repeat (first | exact (Kd.C_below HR0_4.out HB.out) | (with_reducible refine Kd.C_alloc ?_ _) | (with_reducible refine Kd.C_drewN ?_ _) | (with_reducible refine Kd.C_drew ?_)));(case side2 => exact HC0_4.out);rintro e w8 ⟨rfl,hb⟩;refine ⟨_,rfl,?_⟩;replace BK275:=Aside0.mk (Hd.kb_ BK275 hb);replace HB:=Aside0.mk (below_step Hd.b_ hb);(try clear hb);(try clear hb2);(try clear hk);(try clear hi);obtain ⟨hcz9_0,hcz9_1,hcz9_2,hcz9_3,hcz9_4⟩:=Hd.c5_ BK275.out;obtain ⟨hfz9_0,hfz9_1,hfz9_2,hfz9_3,hfz9_4⟩:=Hd.f5_ BK275.out) | ((with_reducible refine gate_callee (f:=74) rfl ?_);refine goesL_ (some 11) rfl rfl Try.func74 (by kernel_rfl) rfl #[.slice A0_4 l0_4.length c0_4] rfl Hd.m_ ?_;(with_reducible refine (impl_SegmentsOf.calls k _ _ l0_4 t277 _ ?side1 ?side2 A5.out).mono ?_);(case side1 => repeat (first | exact (Kd.C_below HR0_4.out HB.out) | (with_reducible refine Kd.C_alloc ?_ _) | (with_reducible refine Kd.C_drewN ?_ _) | (with_reducible refine Kd.C_drew ?_)));(case side2 => exact HC0_4.out);rintro e w10 ⟨v278,rfl,ho0,hb⟩;refine ⟨_,rfl,?_⟩;have HO279:=Aside0.mk (Kd.R_lower ho0 (below_size Hd.b_));replace BK275:=Aside0.mk (Hd.kb_ BK275 hb);replace HB:=Aside0.mk (below_step Hd.b_ hb);(try clear hb);(try clear hb2);(try clear hk);(try clear hi);(try clear ho0)))
   go_ret
   exact ⟨_,Hd.e_,by (with_reducible repeat (first | apply Kd.R_alloc | apply Kd.R_drewN | apply Kd.R_drew));exact HO279.out,Hd.b_⟩
  ·
   rw [if_neg c4] at H
   have c4b0 : (a0_1 == 2) = false:=beq_eq_false_iff_ne.mpr c4
   have c4b1 : (a0_1 != 2) = true:=bne_iff_ne.mpr c4
   by_cases c11 : a0_1 = 3
   ·
    rw [if_pos c11] at H
    have c11b0 : (a0_1 == 3) = true:=beq_iff_eq.mpr c11
    have c11b1 : (a0_1 != 3) = false:=bne_eq_false_iff_eq.mpr c11
    clear c11
    replace H:=Option.bind_eq_some_iff.mp H
    obtain ⟨t280,A120,H⟩:=H
    replace H : (some t280) = some r:=H
    have A12:=Aside0.mk A120
    clear A120
    obtain rfl:=Option.some.inj H
    go_enter Try.func49,Try.ntmps49
    go_wp2_with (first | ((with_reducible refine gate_dst (N:=1) rfl ?_);refine Hd.box_ 1 (#[.int .i64 a0_0,.int .i64 a0_1,.int .i64 a0_2,.string a0_3,.slice A0_4 l0_4.length c0_4]) 37 ?_;intro gb275 hg w13 hbox hb;have BK275:=Aside0.mk (hbox);have GW275:=Aside0.mk ((Hd.g_ hg Hd.b_ : w.heap.size ≤ gb275));have GE275:=Aside0.mk ((Hd.g_ hg Hd.b_ : w.heap.size ≤ gb275));replace HB:=Aside0.mk (below_step Hd.b_ hb);clear hb hbox hg;obtain ⟨hcz14_0,hcz14_1,hcz14_2,hcz14_3,hcz14_4⟩:=Hd.c5_ BK275.out;obtain ⟨hfz14_0,hfz14_1,hfz14_2,hfz14_3,hfz14_4⟩:=Hd.f5_ BK275.out) | ((with_reducible refine gate_callee (f:=51) rfl ?_);refine goesL_ (some 4) rfl rfl Try.func51 (by kernel_rfl) rfl #[.agg #[.int .i64 a0_0,.int .i64 a0_1,.int .i64 a0_2,.string a0_3,.slice A0_4 l0_4.length c0_4]] rfl Hd.m_ ?_;(with_reducible refine (impl_IsFeature.calls k a0_0 a0_1 a0_2 a0_3 _ _ l0_4 true _ ?side1 ?side2 A2.out).mono ?_);(case side1 => repeat (first | exact (Kd.C_below HR0_4.out HB.out) | (with_reducible refine Kd.C_alloc ?_ _) | (with_reducible refine Kd.C_drewN ?_ _) | (with_reducible refine Kd.C_drew ?_)));(case side2 => exact HC0_4.out);rintro e w15 ⟨rfl,hb⟩;refine ⟨_,rfl,?_⟩;replace BK275:=Aside0.mk (Hd.kb_ BK275 hb);replace HB:=Aside0.mk (below_step Hd.b_ hb);(try clear hb);(try clear hb2);(try clear hk);(try clear hi);obtain ⟨hcz16_0,hcz16_1,hcz16_2,hcz16_3,hcz16_4⟩:=Hd.c5_ BK275.out;obtain ⟨hfz16_0,hfz16_1,hfz16_2,hfz16_3,hfz16_4⟩:=Hd.f5_ BK275.out) | ((with_reducible refine gate_callee (f:=75) rfl ?_);refine goesL_ (some 16) rfl rfl Try.func75 (by kernel_rfl) rfl #[.slice A0_4 l0_4.length c0_4] rfl Hd.m_ ?_;(with_reducible refine (impl_RingSegments.calls k _ _ l0_4 t280 _ ?side1 ?side2 A12.out).mono ?_);(case side1 => repeat (first | exact (Kd.C_below HR0_4.out HB.out) | (with_reducible refine Kd.C_alloc ?_ _) | (with_reducible refine Kd.C_drewN ?_ _) | (with_reducible refine Kd.C_drew ?_)));(case side2 => exact HC0_4.out);rintro e w17 ⟨v281,rfl,ho0,hb⟩;refine ⟨_,rfl,?_⟩;have HO282:=Aside0.mk (Kd.R_lower ho0 (below_size Hd.b_));replace BK275:=Aside0.mk (Hd.kb_ BK275 hb);replace HB:=Aside0.mk (below_step Hd.b_ hb);(try clear hb);(try clear hb2);(try clear hk);(try clear hi);(try clear ho0)))
    go_ret
    exact ⟨_,Hd.e_,by (with_reducible repeat (first | apply Kd.R_alloc | apply Kd.R_drewN | apply Kd.R_drew));exact HO282.out,Hd.b_⟩
   ·
    rw [if_neg c11] at H
    have c11b0 : (a0_1 == 3) = false:=beq_eq_false_iff_ne.mpr c11
    have c11b1 : (a0_1 != 3) = true:=bne_iff_ne.mpr c11
    obtain ⟨y283,hy283⟩ : ∃ y_ : List (S100),y_ = (([] : List (S100))):=⟨_,rfl⟩
    replace H : (some y283) = some r:=by first | (rw [hy283];with_reducible exact H) | (have H2_:=(Option.bind_some _ _).symm.trans H;rw [hy283];with_reducible exact H2_) | (have H2_:=(Option.bind_some _ _).symm.trans H;with_reducible exact H2_) | with_reducible exact H | (rw [hy283];exact H) | exact H
    have Ny283:=Aside0.mk hy283
    clear hy283
    obtain rfl:=Option.some.inj H
    go_enter Try.func49,Try.ntmps49
    go_wp2_with (first | ((with_reducible refine gate_dst (N:=1) rfl ?_);refine Hd.box_ 1 (#[.int .i64 a0_0,.int .i64 a0_1,.int .i64 a0_2,.string a0_3,.slice A0_4 l0_4.length c0_4]) 37 ?_;intro gb275 hg w18 hbox hb;have BK275:=Aside0.mk (hbox);have GW275:=Aside0.mk ((Hd.g_ hg Hd.b_ : w.heap.size ≤ gb275));have GE275:=Aside0.mk ((Hd.g_ hg Hd.b_ : w.heap.size ≤ gb275));replace HB:=Aside0.mk (below_step Hd.b_ hb);clear hb hbox hg;obtain ⟨hcz19_0,hcz19_1,hcz19_2,hcz19_3,hcz19_4⟩:=Hd.c5_ BK275.out;obtain ⟨hfz19_0,hfz19_1,hfz19_2,hfz19_3,hfz19_4⟩:=Hd.f5_ BK275.out) | ((with_reducible refine gate_callee (f:=51) rfl ?_);refine goesL_ (some 4) rfl rfl Try.func51 (by kernel_rfl) rfl #[.agg #[.int .i64 a0_0,.int .i64 a0_1,.int .i64 a0_2,.string a0_3,.slice A0_4 l0_4.length c0_4]] rfl Hd.m_ ?_;(with_reducible refine (impl_IsFeature.calls k a0_0 a0_1 a0_2 a0_3 _ _ l0_4 true _ ?side1 ?side2 A2.out).mono ?_);(case side1 => repeat (first | exact (Kd.C_below HR0_4.out HB.out) | (with_reducible refine Kd.C_alloc ?_ _) | (with_reducible refine Kd.C_drewN ?_ _) | (with_reducible refine Kd.C_drew ?_)));(case side2 => exact HC0_4.out);rintro e w20 ⟨rfl,hb⟩;refine ⟨_,rfl,?_⟩;replace BK275:=Aside0.mk (Hd.kb_ BK275 hb);replace HB:=Aside0.mk (below_step Hd.b_ hb);(try clear hb);(try clear hb2);(try clear hk);(try clear hi);obtain ⟨hcz21_0,hcz21_1,hcz21_2,hcz21_3,hcz21_4⟩:=Hd.c5_ BK275.out;obtain ⟨hfz21_0,hfz21_1,hfz21_2,hfz21_3,hfz21_4⟩:=Hd.f5_ BK275.out) | ((with_reducible refine gate_dst (N:=17) rfl ?_);refine Kd.R_lit k100 _ 100 ?hg (N:=17) ?hd (xs:=([] : List (S100))) (inner:=[]) (ok:=fun _ => True) (okp:=fun _ => True) ?hr ?hp (fun _ hk => hk) trivial (Below.refl _ _) (Nat.le_refl _) (by simp) ?_;(case hd => rfl);(case hg => rfl);(case hr => first | (go_simp;done) | (go_simp;rfl));(case hp => exact (Reps.none _ _));intro v284 w22 ho23 hb hg_ hnew_;clear hg_ hnew_;(first | rw [← Ny283.out] at ho23 | (simp only [Int.reduceToNat] at ho23;rw [← Ny283.out] at ho23));have HO285:=Aside0.mk (Kd.R_lower ho23 (below_size Hd.b_));replace BK275:=Aside0.mk (Hd.kb_ BK275 hb);replace HB:=Aside0.mk (below_step Hd.b_ hb);clear hb ho23))
    go_ret
    exact ⟨_,Hd.e_,by (with_reducible repeat (first | apply Kd.R_alloc | apply Kd.R_drewN | apply Kd.R_drew));exact HO285.out,Hd.b_⟩
 ·
  replace c3:=Bool.eq_false_iff.mpr c3
  subst c3
  have H1 : (some (([] : List (S100)))) = some r:=by rw [if_neg (show ¬ (false = true) by decide)] at H;exact H
  clear H
  have H:=H1
  clear H1
  obtain ⟨y286,hy286⟩ : ∃ y_ : List (S100),y_ = (([] : List (S100))):=⟨_,rfl⟩
  replace H : (some y286) = some r:=by first | (rw [hy286];with_reducible exact H) | (have H2_:=(Option.bind_some _ _).symm.trans H;rw [hy286];with_reducible exact H2_) | (have H2_:=(Option.bind_some _ _).symm.trans H;with_reducible exact H2_) | with_reducible exact H | (rw [hy286];exact H) | exact H
  have Ny286:=Aside0.mk hy286
  clear hy286
  obtain rfl:=Option.some.inj H
  go_enter Try.func49,Try.ntmps49
  go_wp2_with (first | ((with_reducible refine gate_dst (N:=1) rfl ?_);refine Hd.box_ 1 (#[.int .i64 a0_0,.int .i64 a0_1,.int .i64 a0_2,.string a0_3,.slice A0_4 l0_4.length c0_4]) 37 ?_;intro gb275 hg w24 hbox hb;have BK275:=Aside0.mk (hbox);have GW275:=Aside0.mk ((Hd.g_ hg Hd.b_ : w.heap.size ≤ gb275));have GE275:=Aside0.mk ((Hd.g_ hg Hd.b_ : w.heap.size ≤ gb275));replace HB:=Aside0.mk (below_step Hd.b_ hb);clear hb hbox hg;obtain ⟨hcz25_0,hcz25_1,hcz25_2,hcz25_3,hcz25_4⟩:=Hd.c5_ BK275.out;obtain ⟨hfz25_0,hfz25_1,hfz25_2,hfz25_3,hfz25_4⟩:=Hd.f5_ BK275.out) | ((with_reducible refine gate_callee (f:=51) rfl ?_);refine goesL_ (some 4) rfl rfl Try.func51 (by kernel_rfl) rfl #[.agg #[.int .i64 a0_0,.int .i64 a0_1,.int .i64 a0_2,.string a0_3,.slice A0_4 l0_4.length c0_4]] rfl Hd.m_ ?_;(with_reducible refine (impl_IsFeature.calls k a0_0 a0_1 a0_2 a0_3 _ _ l0_4 false _ ?side1 ?side2 A2.out).mono ?_);(case side1 => repeat (first | exact (Kd.C_below HR0_4.out HB.out) | (with_reducible refine Kd.C_alloc ?_ _) | (with_reducible refine Kd.C_drewN ?_ _) | (with_reducible refine Kd.C_drew ?_)));(case side2 => exact HC0_4.out);rintro e w26 ⟨rfl,hb⟩;refine ⟨_,rfl,?_⟩;replace BK275:=Aside0.mk (Hd.kb_ BK275 hb);replace HB:=Aside0.mk (below_step Hd.b_ hb);(try clear hb);(try clear hb2);(try clear hk);(try clear hi)) | ((with_reducible refine gate_dst (N:=17) rfl ?_);refine Kd.R_lit k100 _ 100 ?hg (N:=17) ?hd (xs:=([] : List (S100))) (inner:=[]) (ok:=fun _ => True) (okp:=fun _ => True) ?hr ?hp (fun _ hk => hk) trivial (Below.refl _ _) (Nat.le_refl _) (by simp) ?_;(case hd => rfl);(case hg => rfl);(case hr => first | (go_simp;done) | (go_simp;rfl));(case hp => exact (Reps.none _ _));intro v287 w27 ho28 hb hg_ hnew_;clear hg_ hnew_;(first | rw [← Ny286.out] at ho28 | (simp only [Int.reduceToNat] at ho28;rw [← Ny286.out] at ho28));have HO288:=Aside0.mk (Kd.R_lower ho28 (below_size Hd.b_));replace BK275:=Aside0.mk (Hd.kb_ BK275 hb);replace HB:=Aside0.mk (below_step Hd.b_ hb);clear hb ho28))
  go_ret
  exact ⟨_,Hd.e_,by (with_reducible repeat (first | apply Kd.R_alloc | apply Kd.R_drewN | apply Kd.R_drew));exact HO288.out,Hd.b_⟩
def impl_FeaturesMeet.f (k : Nat) (a0_0 : Int) (a0_1 : Int) (a0_2 : Int) (a0_3 : ByteArray) (l0_4 : List (S63)) (a1_0 : Int) (a1_1 : Int) (a1_2 : Int) (a1_3 : ByteArray) (l1_4 : List (S63)) : Option (Int):=(impl_PartsOf.f k a0_0 a0_1 a0_2 a0_3 l0_4).bind fun t291 => ((impl_PartsOf.f k a1_0 a1_1 a1_2 a1_3 l1_4).bind fun t294 => ((impl_greatest.f k t291 t294).bind fun t297 => (some t297)))
set_option maxHeartbeats 8000000 in
set_option maxRecDepth 100000 in
theorem impl_FeaturesMeet.calls (k : Nat) (a0_0 : Int) (a0_1 : Int) (a0_2 : Int) (a0_3 : ByteArray) (A0_4 : Option Addr) (c0_4 : Nat) (l0_4 : List (S63)) (a1_0 : Int) (a1_1 : Int) (a1_2 : Int) (a1_3 : ByteArray) (A1_4 : Option Addr) (c1_4 : Nat) (l1_4 : List (S63)) (r : Int) (w : World) (hr0_4 : Kd.C k63 w A0_4 l0_4.length l0_4) (hc0_4 : l0_4.length ≤ c0_4) (hr1_4 : Kd.C k63 w A1_4 l1_4.length l1_4) (hc1_4 : l1_4.length ≤ c1_4) (h : impl_FeaturesMeet.f k a0_0 a0_1 a0_2 a0_3 l0_4 a1_0 a1_1 a1_2 a1_3 l1_4 = some r) :
  Calls Try.prog 19 #[.agg #[.int .i64 a0_0,.int .i64 a0_1,.int .i64 a0_2,.string a0_3,.slice A0_4 l0_4.length c0_4],.agg #[.int .i64 a1_0,.int .i64 a1_1,.int .i64 a1_2,.string a1_3,.slice A1_4 l1_4.length c1_4]] w fun e w' => e = .returned (.int .i64 r) ∧ Below w.heap.size w w':=by
 have hu37:=Try.underlying37
 have HR0_4:=Aside0.mk hr0_4
 have HC0_4:=Aside0.mk hc0_4
 clear hr0_4 hc0_4
 have HR1_4:=Aside0.mk hr1_4
 have HC1_4:=Aside0.mk hc1_4
 clear hr1_4 hc1_4
 have HB:=Aside0.mk (Below.refl w.heap.size w)
 have H : ((impl_PartsOf.f k a0_0 a0_1 a0_2 a0_3 l0_4).bind fun t291 => ((impl_PartsOf.f k a1_0 a1_1 a1_2 a1_3 l1_4).bind fun t294 => ((impl_greatest.f k t291 t294).bind fun t297 => (some t297)))) = some r:=h
 clear h
 replace H:=Option.bind_eq_some_iff.mp H
 obtain ⟨t291,A30,H⟩:=H
 replace H : ((impl_PartsOf.f k a1_0 a1_1 a1_2 a1_3 l1_4).bind fun t294 => ((impl_greatest.f k t291 t294).bind fun t297 => (some t297))) = some r:=H
 have A3:=Aside0.mk A30
 clear A30
 replace H:=Option.bind_eq_some_iff.mp H
 obtain ⟨t294,A40,H⟩:=H
 replace H : ((impl_greatest.f k t291 t294).bind fun t297 => (some t297)) = some r:=H
 have A4:=Aside0.mk A40
 clear A40
 replace H:=Option.bind_eq_some_iff.mp H
 obtain ⟨t297,A50,H⟩:=H
 replace H : (some t297) = some r:=H
 have A5:=Aside0.mk A50
 clear A50
 obtain rfl:=Option.some.inj H
 go_enter Try.func19,Try.ntmps19
 try go_wp2_with (first | ((with_reducible refine gate_dst (N:=2) rfl ?_);refine Hd.box_ 2 (#[.int .i64 a0_0,.int .i64 a0_1,.int .i64 a0_2,.string a0_3,.slice A0_4 l0_4.length c0_4]) 37 ?_;intro gb289 hg w6 hbox hb;have BK289:=Aside0.mk (hbox);have GW289:=Aside0.mk ((Hd.g_ hg Hd.b_ : w.heap.size ≤ gb289));have GE289:=Aside0.mk ((Hd.g_ hg Hd.b_ : w.heap.size ≤ gb289));replace HB:=Aside0.mk (below_step Hd.b_ hb);clear hb hbox hg) | ((with_reducible refine gate_dst (N:=3) rfl ?_);refine Hd.box_ 3 (#[.int .i64 a1_0,.int .i64 a1_1,.int .i64 a1_2,.string a1_3,.slice A1_4 l1_4.length c1_4]) 37 ?_;intro gb290 hg w7 hbox hb;have BK290:=Aside0.mk (hbox);have GW290:=Aside0.mk ((Hd.g_ hg Hd.b_ : w.heap.size ≤ gb290));have GE290:=Aside0.mk ((Hd.g_ hg Hd.b_ : w.heap.size ≤ gb290));replace HB:=Aside0.mk (below_step Hd.b_ hb);have NB289_290:=Aside0.mk ((Hd.lt_ BK289 hg));have NB290_289:=Aside0.mk ((Hd.gt_ BK289 hg));replace BK289:=Aside0.mk (Hd.kb_ BK289 hb);clear hb hbox hg))
 replace BK289:=Aside0.mk (blk_drew BK289.out)
 replace BK290:=Aside0.mk (blk_drew BK290.out)
 replace HB:=Aside0.mk (below_drew1 HB.out)
 refine start_ (n:=6) (S:=fun w' => w'.cell? ⟨gb289,0,none⟩ = some (.int .i64 a0_0) ∧ w'.cell? ⟨gb289,1,none⟩ = some (.int .i64 a0_1) ∧ w'.cell? ⟨gb289,2,none⟩ = some (.int .i64 a0_2) ∧ w'.cell? ⟨gb289,3,none⟩ = some (.string a0_3) ∧ w'.cell? ⟨gb289,4,none⟩ = some (.slice A0_4 l0_4.length c0_4) ∧ w'.cell? ⟨gb290,0,none⟩ = some (.int .i64 a1_0) ∧ w'.cell? ⟨gb290,1,none⟩ = some (.int .i64 a1_1) ∧ w'.cell? ⟨gb290,2,none⟩ = some (.int .i64 a1_2) ∧ w'.cell? ⟨gb290,3,none⟩ = some (.string a1_3) ∧ w'.cell? ⟨gb290,4,none⟩ = some (.slice A1_4 l1_4.length c1_4)) (ds:=[]) #[false,false,false,false,false,false] (by kernel_rfl) rfl rfl ⟨(blk_cell BK289.out 0).trans rfl,(blk_cell BK289.out 1).trans rfl,(blk_cell BK289.out 2).trans rfl,(blk_cell BK289.out 3).trans rfl,(blk_cell BK289.out 4).trans rfl,(blk_cell BK290.out 0).trans rfl,(blk_cell BK290.out 1).trans rfl,(blk_cell BK290.out 2).trans rfl,(blk_cell BK290.out 3).trans rfl,(blk_cell BK290.out 4).trans rfl⟩ (fun hHeld => ?_)
 generalize w7.drew = w8 at BK289 BK290 HB hHeld ⊢
 refine take_ (i:=0) (N:=some 5) (v:=?_) (a':=?_) #[true,false,false,false,false,false] rfl rfl (by kernel_rfl) (fun _ _ _ h => h) (Or.inl ⟨by rfl,?_⟩) hHeld ?_ ?_
 rotate_left
 ·
  rintro w' ⟨s0,s1,s2,s3,s4,s5,s6,s7,s8,s9⟩
  go_simp
  with_reducible rfl
 rotate_left
 ·
  simp only [Act.put,List.setIfInBounds_toArray,List.set_cons_zero,List.set_cons_succ,i64_w,i32_w]
  rfl
 refine take_ (i:=2) (N:=some 7) (v:=?_) (a':=?_) #[true,false,true,false,false,false] rfl rfl (by kernel_rfl) (fun _ _ _ h => h) (Or.inl ⟨by rfl,?_⟩) hHeld ?_ ?_
 rotate_left
 ·
  rintro w' ⟨s0,s1,s2,s3,s4,s5,s6,s7,s8,s9⟩
  go_simp
  with_reducible rfl
 rotate_left
 ·
  simp only [Act.put,List.setIfInBounds_toArray,List.set_cons_zero,List.set_cons_succ,i64_w,i32_w]
  rfl
 refine one_ (i:=1) (N:=some 6) #[true,true,true,false,false,false] rfl rfl (by kernel_rfl) (by decide) (fun K hK => ?_)
 refine goes_ Try.func49 (by kernel_rfl) rfl #[.agg #[.int .i64 a0_0,.int .i64 a0_1,.int .i64 a0_2,.string a0_3,.slice A0_4 l0_4.length c0_4]] (by rfl) rfl rfl Hd.m_ ?_
 with_reducible refine (impl_PartsOf.calls k a0_0 a0_1 a0_2 a0_3 _ _ l0_4 t291 _ ?side1 ?side2 A3.out).mono ?_
 (case side1 => repeat (first | exact (Kd.C_below HR0_4.out HB.out) | (with_reducible refine Kd.C_alloc ?_ _) | (with_reducible refine Kd.C_drewN ?_ _) | (with_reducible refine Kd.C_drew ?_)))
 (case side2 => exact HC0_4.out)
 rintro e w9 ⟨v292,rfl,ho0,hb⟩
 refine ⟨_,rfl,?_⟩
 have HO293:=Aside0.mk (Kd.R_lower ho0 (below_size Hd.b_))
 replace BK289:=Aside0.mk (Hd.kb_ BK289 hb)
 replace BK290:=Aside0.mk (Hd.kb_ BK290 hb)
 replace HB:=Aside0.mk (below_step Hd.b_ hb)
 (try clear hb)
 (try clear hb2)
 (try clear hk)
 (try clear hi)
 (try clear ho0)
 refine hK.out _ _ ⟨(blk_cell BK289.out 0).trans rfl,(blk_cell BK289.out 1).trans rfl,(blk_cell BK289.out 2).trans rfl,(blk_cell BK289.out 3).trans rfl,(blk_cell BK289.out 4).trans rfl,(blk_cell BK290.out 0).trans rfl,(blk_cell BK290.out 1).trans rfl,(blk_cell BK290.out 2).trans rfl,(blk_cell BK290.out 3).trans rfl,(blk_cell BK290.out 4).trans rfl⟩ (fun hHeld => ?_)
 clear hK K
 refine Hd.n_ (some 6) ?_
 refine one_ (i:=3) (N:=some 8) #[true,true,true,true,false,false] rfl rfl (by kernel_rfl) (by decide) (fun K hK => ?_)
 refine goes_ Try.func49 (by kernel_rfl) rfl #[.agg #[.int .i64 a1_0,.int .i64 a1_1,.int .i64 a1_2,.string a1_3,.slice A1_4 l1_4.length c1_4]] (by rfl) rfl rfl Hd.m_ ?_
 with_reducible refine (impl_PartsOf.calls k a1_0 a1_1 a1_2 a1_3 _ _ l1_4 t294 _ ?side1 ?side2 A4.out).mono ?_
 (case side1 => repeat (first | exact (Kd.C_below HR1_4.out HB.out) | (with_reducible refine Kd.C_alloc ?_ _) | (with_reducible refine Kd.C_drewN ?_ _) | (with_reducible refine Kd.C_drew ?_)))
 (case side2 => exact HC1_4.out)
 rintro e w10 ⟨v295,rfl,ho0,hb⟩
 refine ⟨_,rfl,?_⟩
 have HO296:=Aside0.mk (Kd.R_lower (Kd.R_new' ho0 (Kd.R_lt (Hd.r_ HO293))) (below_size Hd.b_))
 replace HO293:=Aside0.mk (Kd.R_elder' (Hd.r_ HO293) (Kd.R_base ho0) hb)
 replace BK289:=Aside0.mk (Hd.kb_ BK289 hb)
 replace BK290:=Aside0.mk (Hd.kb_ BK290 hb)
 replace HB:=Aside0.mk (below_step Hd.b_ hb)
 (try clear hb)
 (try clear hb2)
 (try clear hk)
 (try clear hi)
 (try clear ho0)
 obtain ⟨Ao11,co11,eo11⟩:=Kd.R_slice HO293.out
 (first | subst eo11 | (injection eo11 with f1_ f2_ f3_;have f4_:=f1_.symm;have f5_:=f3_.symm;clear f1_ f2_ f3_;subst f4_;subst f5_))
 obtain ⟨Ao12,co12,eo12⟩:=Kd.R_slice HO296.out
 (first | subst eo12 | (injection eo12 with f1_ f2_ f3_;have f4_:=f1_.symm;have f5_:=f3_.symm;clear f1_ f2_ f3_;subst f4_;subst f5_))
 refine hK.out _ _ ⟨(blk_cell BK289.out 0).trans rfl,(blk_cell BK289.out 1).trans rfl,(blk_cell BK289.out 2).trans rfl,(blk_cell BK289.out 3).trans rfl,(blk_cell BK289.out 4).trans rfl,(blk_cell BK290.out 0).trans rfl,(blk_cell BK290.out 1).trans rfl,(blk_cell BK290.out 2).trans rfl,(blk_cell BK290.out 3).trans rfl,(blk_cell BK290.out 4).trans rfl⟩ (fun hHeld => ?_)
 clear hK K
 refine Hd.n_ (some 8) ?_
 refine one_ (i:=4) (N:=some 9) #[true,true,true,true,true,false] rfl rfl (by kernel_rfl) (by decide) (fun K hK => ?_)
 refine goes_ Try.func48 (by kernel_rfl) rfl #[.slice Ao11 t291.length co11,.slice Ao12 t294.length co12] (by rfl) rfl rfl Hd.m_ ?_
 with_reducible refine (impl_greatest.calls k _ _ t291 _ _ t294 t297 _ ?side1 ?side2 ?side3 ?side4 A5.out).mono ?_
 (case side1 => repeat (first | exact (Kd.R_reads' HO293.out).2.2 | (with_reducible refine Kd.C_alloc ?_ _) | (with_reducible refine Kd.C_drewN ?_ _) | (with_reducible refine Kd.C_drew ?_)))
 (case side2 => exact (Kd.R_reads' HO293.out).2.1)
 (case side3 => repeat (first | exact (Kd.R_reads' HO296.out).2.2 | (with_reducible refine Kd.C_alloc ?_ _) | (with_reducible refine Kd.C_drewN ?_ _) | (with_reducible refine Kd.C_drew ?_)))
 (case side4 => exact (Kd.R_reads' HO296.out).2.1)
 rintro e w13 ⟨rfl,hb⟩
 refine ⟨_,rfl,?_⟩
 replace HO293:=Aside0.mk (Kd.R_below (Hd.r_ HO293) hb)
 replace HO296:=Aside0.mk (Kd.R_below (Hd.r_ HO296) hb)
 replace BK289:=Aside0.mk (Hd.kb_ BK289 hb)
 replace BK290:=Aside0.mk (Hd.kb_ BK290 hb)
 replace HB:=Aside0.mk (below_step Hd.b_ hb)
 (try clear hb)
 (try clear hb2)
 (try clear hk)
 (try clear hi)
 refine hK.out _ _ ⟨(blk_cell BK289.out 0).trans rfl,(blk_cell BK289.out 1).trans rfl,(blk_cell BK289.out 2).trans rfl,(blk_cell BK289.out 3).trans rfl,(blk_cell BK289.out 4).trans rfl,(blk_cell BK290.out 0).trans rfl,(blk_cell BK290.out 1).trans rfl,(blk_cell BK290.out 2).trans rfl,(blk_cell BK290.out 3).trans rfl,(blk_cell BK290.out 4).trans rfl⟩ (fun hHeld => ?_)
 clear hK K
 refine Hd.n_ (some 9) ?_
 refine pure_ (i:=5) (N:=some 4) (v:=?_) (a':=?_) #[true,true,true,true,true,true] rfl rfl (by kernel_rfl) (fun _ _ _ h => h) (Or.inl ⟨by rfl,?_⟩) ?_ ?_
 rotate_left
 ·
  intro w'
  go_simp
  with_reducible rfl
 rotate_left
 ·
  simp only [Act.put,List.setIfInBounds_toArray,List.set_cons_zero,List.set_cons_succ,i64_w,i32_w]
  rfl
 refine done_ (by kernel_rfl) ?_
 try go_wp2
 go_ret
 exact ⟨Hd.e_,Hd.b_⟩
end Go.Proofs.Ytchmbcembbbplad.MFnExactMeetsOf
