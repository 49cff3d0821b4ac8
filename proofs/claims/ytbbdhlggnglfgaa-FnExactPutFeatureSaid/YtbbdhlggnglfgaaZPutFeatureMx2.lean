-- Laid by this session's program pp.py, after the kit's print and texts of the session's own. Not trusted: Lean checks it.
import Derived.Test.YtbbdhlggnglfgaaZPutFeatureMx0
import Derived.Test.YtbbdhlggnglfgaaZPutFeatureMx1
namespace Go.Proofs.Ytbbdhlggnglfgaa.MFnExactPutFeature
open Go.RowKit Go.Proofs.YtbbdhlggnglfgaaW.PrintWords Go.Proofs.YtbbdhlggnglfgaaW.PrintLast Go.Proofs.YtbbdhlggnglfgaaW.PrintMore
attribute [local go_sem] max2_int min2_int max_two min_two max_three min_three max_four min_four   -- for this text's walks alone
set_option linter.unusedVariables false
set_option maxHeartbeats 8000000
set_option maxRecDepth 100000
set_option linter.unusedSimpArgs false
attribute [local go_sem high] eqA75
def laws_szPointS.f (l0 : List (S84)) (a1 : Int) : Option (Int):=if (wrap64 (a1 - (l0.length : Int))) < 0 then (some (-1)) else (some (wrap64 (a1 - (l0.length : Int))))
theorem laws_szPointS.calls (A0 : Option Addr) (c0 : Nat) (l0 : List (S84)) (a1 : Int) (r : Int) (w : World) (hr0 : Kd.C k84 w A0 l0.length l0) (hc0 : l0.length ≤ c0) (h : laws_szPointS.f l0 a1 = some r) :
  Calls Try.prog 33 #[.slice A0 l0.length c0,.int .i64 a1] w fun e w' => e = .returned (.int .i64 r) ∧ Drawn0 w w':=by
 have HR0:=ak hr0
 have HC0:=ak hc0
 clear hr0 hc0
 have H:=h;clear h;unfold laws_szPointS.f at H
 by_cases c3 : (wrap64 (a1 - (l0.length : Int))) < 0
 ·
  rw [if_pos c3] at H
  have c3b0:=decide_eq_true c3
  clear c3
  obtain rfl:=Option.some.inj H
  go_enter Try.func33,Try.ntmps33
  go_wp2
  go_ret
  exact ⟨z2_,z12_⟩
 rw [if_neg c3] at H
 have c3b0:=decide_eq_false c3
 clear c3
 obtain rfl:=Option.some.inj H
 go_enter Try.func33,Try.ntmps33
 go_wp2
 go_ret
 exact ⟨z2_,z12_⟩
def laws_szFeature.f (a0_0 : Int) (a0_1 : Int) (a0_2 : Int) (a0_3 : ByteArray) (l0_4 : List (S84)) (a1 : Int) : Option (Int):=if (wrap64 (a1 - (a0_3.size : Int))) < 0 then (some (-1)) else ((laws_szPointS.f l0_4 (wrap64 (a1 - (a0_3.size : Int)))).bind fun t102 => (if t102 < 0 then (some (-1)) else (some t102)))
theorem laws_szFeature.calls (a0_0 : Int) (a0_1 : Int) (a0_2 : Int) (a0_3 : ByteArray) (A0_4 : Option Addr) (c0_4 : Nat) (l0_4 : List (S84)) (a1 : Int) (r : Int) (w : World) (hr0_4 : Kd.C k84 w A0_4 l0_4.length l0_4) (hc0_4 : l0_4.length ≤ c0_4) (h : laws_szFeature.f a0_0 a0_1 a0_2 a0_3 l0_4 a1 = some r) :
  Calls Try.prog 8 #[.agg #[.int .i64 a0_0,.int .i64 a0_1,.int .i64 a0_2,.string a0_3,.slice A0_4 l0_4.length c0_4],.int .i64 a1] w fun e w' => e = .returned (.int .i64 r) ∧ Below w.heap.size w w':=by
 have hu25:=Try.underlying25
 have HR0_4:=ak hr0_4
 have HC0_4:=ak hc0_4
 clear hr0_4 hc0_4
 have HB:=ak (Below.refl w.heap.size w)
 have H:=h;clear h;unfold laws_szFeature.f at H
 by_cases c3 : (wrap64 (a1 - (a0_3.size : Int))) < 0
 ·
  rw [if_pos c3] at H
  have c3b0:=decide_eq_true c3
  clear c3
  obtain rfl:=Option.some.inj H
  go_enter Try.func8,Try.ntmps8
  go_wp2_with (first | ((with_reducible refine gate_dst (N:=2) rfl ?_);refine Hd.box_ 2 (#[.int .i64 a0_0,.int .i64 a0_1,.int .i64 a0_2,.string a0_3,.slice A0_4 l0_4.length c0_4]) 25 ?_;intro gb101 hg w4 hbox hb;have BK101:=ak (hbox);have GW101:=ak ((Hd.g_ hg Hd.b_ : w.heap.size ≤ gb101));have GE101:=ak ((Hd.g_ hg Hd.b_ : w.heap.size ≤ gb101));replace HB:=ak (below_step Hd.b_ hb);clear hb hbox hg;obtain ⟨hcz5_0,hcz5_1,hcz5_2,hcz5_3,hcz5_4⟩:=Hd.c5_ BK101.out;obtain ⟨hfz5_0,hfz5_1,hfz5_2,hfz5_3,hfz5_4⟩:=Hd.f5_ BK101.out))
  go_ret
  exact ⟨Hd.e_,Hd.b_⟩
 rw [if_neg c3] at H
 have c3b0:=decide_eq_false c3
 clear c3
 replace H:=Hd.bd_ H;obtain ⟨t102,A6,H⟩:=H
 by_cases c7 : t102 < 0
 ·
  rw [if_pos c7] at H
  have c7b0:=decide_eq_true c7
  clear c7
  obtain rfl:=Option.some.inj H
  go_enter Try.func8,Try.ntmps8
  go_wp2_with (first | ((with_reducible refine gate_dst (N:=2) rfl ?_);refine Hd.box_ 2 (#[.int .i64 a0_0,.int .i64 a0_1,.int .i64 a0_2,.string a0_3,.slice A0_4 l0_4.length c0_4]) 25 ?_;intro gb101 hg w8 hbox hb;have BK101:=ak (hbox);have GW101:=ak ((Hd.g_ hg Hd.b_ : w.heap.size ≤ gb101));have GE101:=ak ((Hd.g_ hg Hd.b_ : w.heap.size ≤ gb101));replace HB:=ak (below_step Hd.b_ hb);clear hb hbox hg;obtain ⟨hcz9_0,hcz9_1,hcz9_2,hcz9_3,hcz9_4⟩:=Hd.c5_ BK101.out;obtain ⟨hfz9_0,hfz9_1,hfz9_2,hfz9_3,hfz9_4⟩:=Hd.f5_ BK101.out) | ((with_reducible refine gate_callee (f:=33) rfl ?_);refine Hd.gl_ 15 Try.func33 #[.slice A0_4 l0_4.length c0_4,.int .i64 (wrap64 (a1 - (a0_3.size : Int)))] ?_;(with_reducible refine (laws_szPointS.calls _ _ l0_4 (wrap64 (a1 - (a0_3.size : Int))) t102 _ ?side1 ?side2 A6.out).mono ?_);(case side1 => exact z1_ HR0_4);(case side2 => exact HC0_4.out);rintro e w' ⟨rfl,⟨nd,rfl⟩⟩;refine ⟨_,rfl,?_⟩))
  go_ret
  exact ⟨Hd.e_,Hd.b_⟩
 rw [if_neg c7] at H
 have c7b0:=decide_eq_false c7
 clear c7
 obtain rfl:=Option.some.inj H
 go_enter Try.func8,Try.ntmps8
 go_wp2_with (first | ((with_reducible refine gate_dst (N:=2) rfl ?_);refine Hd.box_ 2 (#[.int .i64 a0_0,.int .i64 a0_1,.int .i64 a0_2,.string a0_3,.slice A0_4 l0_4.length c0_4]) 25 ?_;intro gb101 hg w10 hbox hb;have BK101:=ak (hbox);have GW101:=ak ((Hd.g_ hg Hd.b_ : w.heap.size ≤ gb101));have GE101:=ak ((Hd.g_ hg Hd.b_ : w.heap.size ≤ gb101));replace HB:=ak (below_step Hd.b_ hb);clear hb hbox hg;obtain ⟨hcz11_0,hcz11_1,hcz11_2,hcz11_3,hcz11_4⟩:=Hd.c5_ BK101.out;obtain ⟨hfz11_0,hfz11_1,hfz11_2,hfz11_3,hfz11_4⟩:=Hd.f5_ BK101.out) | ((with_reducible refine gate_callee (f:=33) rfl ?_);refine Hd.gl_ 15 Try.func33 #[.slice A0_4 l0_4.length c0_4,.int .i64 (wrap64 (a1 - (a0_3.size : Int)))] ?_;(with_reducible refine (laws_szPointS.calls _ _ l0_4 (wrap64 (a1 - (a0_3.size : Int))) t102 _ ?side1 ?side2 A6.out).mono ?_);(case side1 => exact z1_ HR0_4);(case side2 => exact HC0_4.out);rintro e w' ⟨rfl,⟨nd,rfl⟩⟩;refine ⟨_,rfl,?_⟩))
 go_ret
 exact ⟨Hd.e_,Hd.b_⟩
def laws_szFeatureS.l0 : Nat → List (S25) → Int → Int → Option (Int)
 | 0,_,_,_ => none
 | k + 1,x0,x1,x5 => if x5 < (x0.length : Int) then (if 0 ≤ x5 then ((laws_szFeature.f ((rd_T25 x0 x5).f0) ((rd_T25 x0 x5).f1) ((rd_T25 x0 x5).f2) ((rd_T25 x0 x5).f3) ((rd_T25 x0 x5).f4) x1).bind fun t104 => (if t104 < 0 then (some (-1)) else (laws_szFeatureS.l0 k x0 t104 (wrap64 (x5 + 1))))) else (none)) else (some x1)
def laws_szFeatureS.f (k : Nat) (l0 : List (S25)) (a1 : Int) : Option (Int):=if (wrap64 (a1 - (l0.length : Int))) < 0 then (some (-1)) else (laws_szFeatureS.l0 k l0 (wrap64 (a1 - (l0.length : Int))) 0)
theorem laws_szFeatureS.calls (k : Nat) (A0 : Option Addr) (c0 : Nat) (l0 : List (S25)) (a1 : Int) (r : Int) (w : World) (hr0 : Kd.C k25 w A0 l0.length l0) (hc0 : l0.length ≤ c0) (h : laws_szFeatureS.f k l0 a1 = some r) :
  Calls Try.prog 7 #[.slice A0 l0.length c0,.int .i64 a1] w fun e w' => e = .returned (.int .i64 r) ∧ Below w.heap.size w w':=by
 have hu25:=Try.underlying25
 have HR0:=ak hr0
 have HC0:=ak hc0
 clear hr0 hc0
 have HB:=ak (Below.refl w.heap.size w)
 have H:=h;clear h;unfold laws_szFeatureS.f at H
 by_cases c3 : (wrap64 (a1 - (l0.length : Int))) < 0
 ·
  rw [if_pos c3] at H
  have c3b0:=decide_eq_true c3
  clear c3
  obtain rfl:=Option.some.inj H
  go_enter Try.func7,Try.ntmps7
  go_wp2
  go_ret
  exact ⟨Hd.e_,Hd.b_⟩
 rw [if_neg c3] at H
 have c3b0:=decide_eq_false c3
 clear c3
 have H':=ak H
 clear H
 go_enter Try.func7,Try.ntmps7
 go_wp2
 go_loopg [1,5] k (fun kq v1 v5 w' => ∃ (x1_1 : Int) (x5_1 : Int),v1 = .int .i64 x1_1 ∧ v5 = .int .i64 x5_1 ∧ Aside0 (laws_szFeatureS.l0 kq l0 x1_1 x5_1 = some r) ∧ Aside0 (kq ≤ k) ∧ Aside0 (Below w.heap.size w w'))
 case atStart => exact ⟨(wrap64 (a1 - (l0.length : Int))),(0),z2_,z2_,H',⟨Nat.le_refl _⟩,⟨Hd.b_⟩⟩
 case round =>
  clear H'
  try clear p2;try clear c3;try clear c3b0
  obtain ⟨x1_1,x5_1,rfl,rfl,HA,HK1,HB⟩:=hrel
  cases gk with
  | zero => exact absurd HA.out (by simp [laws_szFeatureS.l0])
  | succ k1 =>
   have H:=HA.out
   clear HA
   simp only [laws_szFeatureS.l0] at H
   by_cases c4 : x5_1 < (l0.length : Int);rotate_left
   ·
    rw [if_neg c4] at H
    have c4b0:=decide_eq_false c4
    clear c4
    obtain rfl:=Option.some.inj H
    go_wp2
    go_ret
    exact ⟨Hd.e_,Hd.b_⟩
   rw [if_pos c4] at H
   have c4b0:=decide_eq_true c4
   clear c4
   by_cases c5 : 0 ≤ x5_1;rotate_left
   ·
    rw [if_neg c5] at H
    exact absurd H (by simp)
   rw [if_pos c5] at H
   have c5b0:=decide_eq_true c5
   clear c5
   replace H:=Hd.bd_ H;obtain ⟨t104,A6,H⟩:=H
   by_cases c7 : t104 < 0
   ·
    rw [if_pos c7] at H
    have c7b0:=decide_eq_true c7
    clear c7
    obtain rfl:=Option.some.inj H
    have p103 : 0 ≤ (x5_1 : Int):=of_decide_eq_true Hd.a_
    have q103 : x5_1 < (l0.length : Int):=of_decide_eq_true Hd.a_
    obtain ⟨ad103,A103_4,c103_4,e103,hx103_0,hx103_1,hx103_2,hx103_3,hx103_4,hl103_4,hi103_4⟩:=at_T25 HR0.out x5_1 p103 q103
    cases e103
    replace hx103_0:=(HB.out.cell (World.block_lt_of_cell? w _ hx103_0)).trans hx103_0
    replace hx103_1:=(HB.out.cell (World.block_lt_of_cell? w _ hx103_1)).trans hx103_1
    replace hx103_2:=(HB.out.cell (World.block_lt_of_cell? w _ hx103_2)).trans hx103_2
    replace hx103_3:=(HB.out.cell (World.block_lt_of_cell? w _ hx103_3)).trans hx103_3
    replace hx103_4:=(HB.out.cell (World.block_lt_of_cell? w _ hx103_4)).trans hx103_4
    have HR103_4:=ak hi103_4
    have HC103_4:=ak hl103_4
    clear hi103_4 hl103_4
    replace p103:=eq_true p103
    replace q103:=eq_true q103
    go_wp2_with (first | ((with_reducible refine gate_callee (f:=8) rfl ?_);refine Hd.gl_ 23 Try.func8 #[.agg #[.int .i64 ((rd_T25 l0 x5_1).f0),.int .i64 ((rd_T25 l0 x5_1).f1),.int .i64 ((rd_T25 l0 x5_1).f2),.string ((rd_T25 l0 x5_1).f3),.slice A103_4 ((rd_T25 l0 x5_1).f4).length c103_4],.int .i64 x1_1] ?_;(with_reducible refine (laws_szFeature.calls ((rd_T25 l0 x5_1).f0) ((rd_T25 l0 x5_1).f1) ((rd_T25 l0 x5_1).f2) ((rd_T25 l0 x5_1).f3) _ _ ((rd_T25 l0 x5_1).f4) x1_1 t104 _ ?side1 ?side2 A6.out).mono ?_);(case side1 => exact z1_ HR103_4);(case side2 => exact HC103_4.out);rintro e w8 ⟨rfl,hb⟩;refine ⟨_,rfl,?_⟩;replace HB:=ak (below_step Hd.b_ hb);clear hb))
    go_ret
    exact ⟨Hd.e_,Hd.b_⟩
   rw [if_neg c7] at H
   have c7b0:=decide_eq_false c7
   clear c7
   have H':=ak H
   clear H
   have p103 : 0 ≤ (x5_1 : Int):=of_decide_eq_true Hd.a_
   have q103 : x5_1 < (l0.length : Int):=of_decide_eq_true Hd.a_
   obtain ⟨ad103,A103_4,c103_4,e103,hx103_0,hx103_1,hx103_2,hx103_3,hx103_4,hl103_4,hi103_4⟩:=at_T25 HR0.out x5_1 p103 q103
   cases e103
   replace hx103_0:=(HB.out.cell (World.block_lt_of_cell? w _ hx103_0)).trans hx103_0
   replace hx103_1:=(HB.out.cell (World.block_lt_of_cell? w _ hx103_1)).trans hx103_1
   replace hx103_2:=(HB.out.cell (World.block_lt_of_cell? w _ hx103_2)).trans hx103_2
   replace hx103_3:=(HB.out.cell (World.block_lt_of_cell? w _ hx103_3)).trans hx103_3
   replace hx103_4:=(HB.out.cell (World.block_lt_of_cell? w _ hx103_4)).trans hx103_4
   have HR103_4:=ak hi103_4
   have HC103_4:=ak hl103_4
   clear hi103_4 hl103_4
   replace p103:=eq_true p103
   replace q103:=eq_true q103
   go_wp2_with (first | ((with_reducible refine gate_callee (f:=8) rfl ?_);refine Hd.gl_ 23 Try.func8 #[.agg #[.int .i64 ((rd_T25 l0 x5_1).f0),.int .i64 ((rd_T25 l0 x5_1).f1),.int .i64 ((rd_T25 l0 x5_1).f2),.string ((rd_T25 l0 x5_1).f3),.slice A103_4 ((rd_T25 l0 x5_1).f4).length c103_4],.int .i64 x1_1] ?_;(with_reducible refine (laws_szFeature.calls ((rd_T25 l0 x5_1).f0) ((rd_T25 l0 x5_1).f1) ((rd_T25 l0 x5_1).f2) ((rd_T25 l0 x5_1).f3) _ _ ((rd_T25 l0 x5_1).f4) x1_1 t104 _ ?side1 ?side2 A6.out).mono ?_);(case side1 => exact z1_ HR103_4);(case side2 => exact HC103_4.out);rintro e w9 ⟨rfl,hb⟩;refine ⟨_,rfl,?_⟩;replace HB:=ak (below_step Hd.b_ hb);clear hb))
   go_roundg k1
   case measure => have:=HK1.out;omega
   case rel => exact ⟨(t104),(wrap64 (x5_1 + 1)),z2_,z2_,H',⟨by have:=HK1.out;omega⟩,⟨Hd.b_⟩⟩
def spec_l9Feature.f (a0_0 : Int) (a0_1 : Int) (a0_2 : Int) (a0_3 : ByteArray) (l0_4 : List (S75)) : Option (Int × Int × Int × ByteArray × (List (S75))):=(some (([] : List (S75)) : List (S75))).bind fun y107 => (if y107.length + l0_4.length < 8796093022208 then (some (a0_0,a0_1,a0_2,a0_3,(y107 ++ l0_4))) else (none))
theorem spec_l9Feature.calls (a0_0 : Int) (a0_1 : Int) (a0_2 : Int) (a0_3 : ByteArray) (A0_4 : Option Addr) (c0_4 : Nat) (l0_4 : List (S75)) (r1 : Int) (r2 : Int) (r3 : Int) (r4 : ByteArray) (r5 : List (S75)) (w : World) (hr0_4 : Kd.C k75 w A0_4 l0_4.length l0_4) (hc0_4 : l0_4.length ≤ c0_4) (h : spec_l9Feature.f a0_0 a0_1 a0_2 a0_3 l0_4 = some (r1,r2,r3,r4,r5)) :
  Calls Try.prog 35 #[.agg #[.int .i64 a0_0,.int .i64 a0_1,.int .i64 a0_2,.string a0_3,.slice A0_4 l0_4.length c0_4]] w fun e w' => ∃ v4_ : Value,e = .returned (.agg #[.int .i64 r1,.int .i64 r2,.int .i64 r3,.string r4,v4_]) ∧ Kd.R k75 75 w' w.heap.size (fun _ => True) v4_ r5 ∧ Below w.heap.size w w':=by
 have hu34:=Try.underlying34
 have HR0_4:=ak hr0_4
 have HC0_4:=ak hc0_4
 clear hr0_4 hc0_4
 have HB:=ak (Below.refl w.heap.size w)
 have H:=h;clear h;unfold spec_l9Feature.f at H
 generalize hy107 : (([] : List (S75))) = y107 at H;have Ny107:=ak hy107.symm;clear hy107;try rw [Option.bind_some] at H
 by_cases c2 : y107.length + l0_4.length < 8796093022208;rotate_left
 ·
  rw [if_neg c2] at H
  exact absurd H (by simp)
 rw [if_pos c2] at H
 have LMc2:=ak c2
 clear c2
 generalize hy110 : (y107 ++ l0_4) = y110 at H;have Ny110:=ak hy110.symm;clear hy110;try rw [Option.bind_some] at H
 simp only [Option.some.injEq,Prod.mk.injEq] at H
 obtain ⟨rfl,rfl,rfl,rfl,rfl⟩:=H
 go_enter Try.func35,Try.ntmps35
 go_wp2_with (first | ((with_reducible refine gate_dst (N:=1) rfl ?_);refine Hd.box_ 1 (#[.int .i64 a0_0,.int .i64 a0_1,.int .i64 a0_2,.string a0_3,.slice A0_4 l0_4.length c0_4]) 34 ?_;intro gb105 hg w3 hbox hb;have BK105:=ak (hbox);have GW105:=ak ((Hd.g_ hg Hd.b_ : w.heap.size ≤ gb105));have GE105:=ak ((Hd.g_ hg Hd.b_ : w.heap.size ≤ gb105));replace HB:=ak (below_step Hd.b_ hb);clear hb hbox hg) | ((with_reducible refine gate_dst (N:=2) rfl ?_);refine Hd.box_ 2 (#[.int .i64 0,.int .i64 0,.int .i64 0,.string (⟨#[]⟩ : ByteArray),.slice none 0 0]) 34 ?_;intro gb106 hg w4 hbox hb;have BK106:=ak (hbox);have GW106:=ak ((Hd.g_ hg Hd.b_ : w.heap.size ≤ gb106));have GE106:=ak ((Hd.g_ hg Hd.b_ : w.heap.size ≤ gb106));replace HB:=ak (below_step Hd.b_ hb);have NB105_106:=ak ((Hd.lt_ BK105 hg));have NB106_105:=ak ((Hd.gt_ BK105 hg));replace BK105:=ak (Hd.kb_ BK105 hb);clear hb hbox hg) | ((with_reducible refine gate_dst (N:=3) rfl ?_);refine Kd.R_lit k75 _ 75 ?hg (N:=3) ?hd (xs:=([] : List (S75))) (inner:=[]) (ok:=fun _ => True) (okp:=fun _ => True) ?hr ?hp (fun _ hk => hk) trivial (Below.refl _ _) (Nat.le_refl _) (by simp) ?_;(case hd => rfl);(case hg => rfl);(case hr => exact z24_);(case hp => exact (Reps.none _ _));intro v108 w5 ho6 hb hg_ hnew_;clear hg_ hnew_;(first | rw [← Ny107.out] at ho6 | (simp only [Int.reduceToNat] at ho6;rw [← Ny107.out] at ho6));have HO109:=ak (Kd.R_lower ho6 (below_size Hd.b_));replace BK105:=ak (Hd.kb_ BK105 hb);replace BK106:=ak (Hd.kb_ BK106 hb);replace HB:=ak (below_step Hd.b_ hb);clear hb ho6;have hnb7:=NB105_106.out;have hnc7:=NB106_105.out;obtain ⟨hcz8_0,hcz8_1,hcz8_2,hcz8_3,hcz8_4⟩:=Hd.c5_ BK105.out;obtain ⟨hfz8_0,hfz8_1,hfz8_2,hfz8_3,hfz8_4⟩:=Hd.f5_ BK105.out) | ((with_reducible refine gate_builtin (b:=.append) (xs:=#[.tmp 3,.tmp 5]) rfl ?_);at_builtin;refine Kd.R_append_rows k75 (w0:=w) w.heap.size rfl (.tmp 3) (.tmp 5) 32 75 (.agg #[(.int .i64 0),(.int .i64 0)]) 16 rfl Try.underlying32 info75 rfl (by decide) (by omega) v108 y107 l0_4 _ _ _ (fun _ => True) (fun _ => False) rfl rfl ?aO ?aR (fun _ _ h => h) (fun _ h => h.elim) ?aF ?aB ?aS ?aL ?_;(case aR => exact z1_ HR0_4);(case aB => exact Hd.b_);(case aF => exact (fun _ _ => trivial));(case aO => exact (Hd.r_ HO109));(case aS => exact (below_size Hd.b_));(case aL => have:=LMc2.out;omega);intro v111 w9 ho hb hg hat;rw [← Ny110.out] at ho;have n0_:=ak (blk_grown (g:=gb105) (o:=.cells #[.int .i64 a0_0,.int .i64 a0_1,.int .i64 a0_2,.string a0_3,.slice A0_4 l0_4.length c0_4] 34 (0,0)) (Hd.k_ BK105) hg (Kd.R_ne HO109.out BK105.out (by decide)));have n1_:=ak (blk_grown (g:=gb106) (o:=.cells #[.int .i64 0,.int .i64 0,.int .i64 0,.string (⟨#[]⟩ : ByteArray),.slice none 0 0] 34 (0,0)) (Hd.k_ BK106) hg (Kd.R_ne HO109.out BK106.out (by decide)));have n2_:=ak (hb);have n3_:=ak (ho);clear BK105;clear BK106;clear HB;clear HO109;have BK105:=n0_;have BK106:=n1_;have HB:=n2_;have HO112:=n3_;clear n0_ n1_ n2_ n3_;clear ho hb hg hat;obtain ⟨Ao10,co10,eo10⟩:=Kd.R_slice HO112.out;subst eo10;obtain ⟨hcz11_0,hcz11_1,hcz11_2,hcz11_3,hcz11_4⟩:=Hd.c5_ BK105.out;obtain ⟨hfz11_0,hfz11_1,hfz11_2,hfz11_3,hfz11_4⟩:=Hd.f5_ BK105.out;obtain ⟨hcz12_0,hcz12_1,hcz12_2,hcz12_3,hcz12_4⟩:=Hd.c5_ BK106.out;obtain ⟨hfz12_0,hfz12_1,hfz12_2,hfz12_3,hfz12_4⟩:=Hd.f5_ BK106.out))
 refine bodyPost_ret (results_cell_row rfl _ _ gb106 34 #[.int .i64 a0_0,.int .i64 a0_1,.int .i64 a0_2,.string a0_3,.slice Ao10 y110.length co10] (0,0) _ rfl (z8_ NB106_105 BK106) Try.underlying34 rfl (by kernel_rfl)) rfl ?_
 exact ⟨_,Hd.e_,by (with_reducible repeat (first | apply Kd.R_alloc | apply Kd.R_drewN | apply Kd.R_drew));exact Kd.R_mono (Kd.R_far (p:=⟨gb106,4,none⟩) (Kd.R_far (p:=⟨gb106,3,none⟩) (Kd.R_far (p:=⟨gb106,2,none⟩) (Kd.R_far (p:=⟨gb106,1,none⟩) (Kd.R_far (p:=⟨gb106,0,none⟩) (Kd.R_far (p:=⟨gb105,4,none⟩) (Kd.R_types (Kd.R_types HO112.out BK105.out (by decide)) BK106.out (by decide)) (fun _ hk => hk.1.2) (.slice Ao10 y110.length co10)) (fun _ hk => hk.2) (.int .i64 a0_0)) (fun _ hk => hk.2) (.int .i64 a0_1)) (fun _ hk => hk.2) (.int .i64 a0_2)) (fun _ hk => hk.2) (.string a0_3)) (fun _ hk => hk.2) (.slice Ao10 y110.length co10)) (fun _ hk => trivial),Hd.b_⟩
def spec_l9Copy.l0 : Nat → List (S34) → List (S34) → Int → Option ((List (S34)))
 | 0,_,_,_ => none
 | k + 1,x0,x3,x4 => if x4 < (x0.length : Int) then (if 0 ≤ x4 then ((spec_l9Feature.f ((rd_T34 x0 x4).f0) ((rd_T34 x0 x4).f1) ((rd_T34 x0 x4).f2) ((rd_T34 x0 x4).f3) ((rd_T34 x0 x4).f4)).bind fun bt117 => (if x3.length < 2199023255552 then (spec_l9Copy.l0 k x0 (x3 ++ [(⟨bt117.1,bt117.2.1,bt117.2.2.1,bt117.2.2.2.1,bt117.2.2.2.2⟩ : S34)]) (wrap64 (x4 + 1))) else (none))) else (none)) else (some x3)
def spec_l9Copy.f (k : Nat) (l0 : List (S34)) : Option ((List (S34))):=spec_l9Copy.l0 k l0 (([] : List (S34))) 0
theorem spec_l9Copy.calls (k : Nat) (A0 : Option Addr) (c0 : Nat) (l0 : List (S34)) (r : List (S34)) (w : World) (hr0 : Kd.C k34 w A0 l0.length l0) (hc0 : l0.length ≤ c0) (h : spec_l9Copy.f k l0 = some r) :
  Calls Try.prog 34 #[.slice A0 l0.length c0] w fun e w' => ∃ v0_ : Value,e = .returned (v0_) ∧ Kd.S k34 34 w' w.heap.size (fun _ => True) v0_ r ∧ Below w.heap.size w w':=by
 have hu34:=Try.underlying34
 have HR0:=ak hr0
 have HC0:=ak hc0
 clear hr0 hc0
 have HB:=ak (Below.refl w.heap.size w)
 have H:=h;clear h;unfold spec_l9Copy.f at H
 generalize hy113 : (([] : List (S34))) = y113 at H;have Ny113:=ak hy113.symm;clear hy113;try rw [Option.bind_some] at H
 have H':=ak H
 clear H
 go_enter Try.func34,Try.ntmps34
 go_wp2_with (first | ((with_reducible refine gate_dst (N:=5) rfl ?_);refine Kd.S_lit k34 _ 34 ?hg (N:=5) ?hd (xs:=([] : List (S34))) (inner:=[]) (ok:=fun _ => True) (okp:=fun _ => True) ?hr ?hp (fun _ hk => hk) trivial (Below.refl _ _) (Nat.le_refl _) (by simp) ?_;(case hd => rfl);(case hg => rfl);(case hr => exact z24_);(case hp => exact (Reps.none _ _));intro v114 w2 ho3 hb hg_ hnew_;clear hg_ hnew_;(first | rw [← Ny113.out] at ho3 | (simp only [Int.reduceToNat] at ho3;rw [← Ny113.out] at ho3));have HO115:=ak (Kd.S_lower ho3 (below_size Hd.b_));replace HB:=ak (below_step Hd.b_ hb);clear hb ho3))
 go_loopg [3,4] k (fun kq v3 v4 w' => ∃ (x3_1 : List (S34)) (x4_1 : Int),v4 = .int .i64 x4_1 ∧ Aside0 (spec_l9Copy.l0 kq l0 x3_1 x4_1 = some r) ∧ Aside0 (kq ≤ k) ∧ Aside0 (Kd.S k34 34 w' w.heap.size (fun _ => True) v3 x3_1) ∧ Aside0 (Below w.heap.size w w'))
 case atStart => exact ⟨(y113),(0),z2_,H',⟨Nat.le_refl _⟩,⟨z7_ HO115⟩,⟨Hd.b_⟩⟩
 case round =>
  clear H'
  try clear p2;try clear c3
  obtain ⟨x3_1,x4_1,rfl,HA,HK1,HO_3,HB⟩:=hrel
  cases gk with
  | zero => exact absurd HA.out (by simp [spec_l9Copy.l0])
  | succ k1 =>
   have H:=HA.out
   clear HA
   simp only [spec_l9Copy.l0] at H
   by_cases c4 : x4_1 < (l0.length : Int);rotate_left
   ·
    rw [if_neg c4] at H
    have c4b0:=decide_eq_false c4
    clear c4
    obtain rfl:=Option.some.inj H
    go_wp2
    go_ret
    exact ⟨_,Hd.e_,z7_ HO_3,Hd.b_⟩
   rw [if_pos c4] at H
   have c4b0:=decide_eq_true c4
   clear c4
   by_cases c5 : 0 ≤ x4_1;rotate_left
   ·
    rw [if_neg c5] at H
    exact absurd H (by simp)
   rw [if_pos c5] at H
   have c5b0:=decide_eq_true c5
   clear c5
   replace H:=Hd.bd_ H;obtain ⟨⟨t117,t118,t119,t120,t121⟩,A6,H⟩:=H;dsimp only at H
   by_cases c7 : x3_1.length < 2199023255552;rotate_left
   ·
    rw [if_neg c7] at H
    exact absurd H (by simp)
   rw [if_pos c7] at H
   have LMc7:=ak c7
   clear c7
   generalize hy124 : (x3_1 ++ [(⟨t117,t118,t119,t120,t121⟩ : S34)]) = y124 at H;have Ny124:=ak hy124.symm;clear hy124;try rw [Option.bind_some] at H
   have H':=ak H
   clear H
   have p116 : 0 ≤ (x4_1 : Int):=of_decide_eq_true Hd.a_
   have q116 : x4_1 < (l0.length : Int):=of_decide_eq_true Hd.a_
   obtain ⟨ad116,A116_4,c116_4,e116,hx116_0,hx116_1,hx116_2,hx116_3,hx116_4,hl116_4,hi116_4⟩:=at_T34 HR0.out x4_1 p116 q116
   cases e116
   replace hx116_0:=(HB.out.cell (World.block_lt_of_cell? w _ hx116_0)).trans hx116_0
   replace hx116_1:=(HB.out.cell (World.block_lt_of_cell? w _ hx116_1)).trans hx116_1
   replace hx116_2:=(HB.out.cell (World.block_lt_of_cell? w _ hx116_2)).trans hx116_2
   replace hx116_3:=(HB.out.cell (World.block_lt_of_cell? w _ hx116_3)).trans hx116_3
   replace hx116_4:=(HB.out.cell (World.block_lt_of_cell? w _ hx116_4)).trans hx116_4
   have HR116_4:=ak hi116_4
   have HC116_4:=ak hl116_4
   clear hi116_4 hl116_4
   replace p116:=eq_true p116
   replace q116:=eq_true q116
   go_wp2_with (first | ((with_reducible refine gate_callee (f:=35) rfl ?_);refine Hd.gl_ 17 Try.func35 #[.agg #[.int .i64 ((rd_T34 l0 x4_1).f0),.int .i64 ((rd_T34 l0 x4_1).f1),.int .i64 ((rd_T34 l0 x4_1).f2),.string ((rd_T34 l0 x4_1).f3),.slice A116_4 ((rd_T34 l0 x4_1).f4).length c116_4]] ?_;(with_reducible refine (spec_l9Feature.calls ((rd_T34 l0 x4_1).f0) ((rd_T34 l0 x4_1).f1) ((rd_T34 l0 x4_1).f2) ((rd_T34 l0 x4_1).f3) _ _ ((rd_T34 l0 x4_1).f4) t117 t118 t119 t120 t121 _ ?side1 ?side2 A6.out).mono ?_);(case side1 => exact z1_ HR116_4);(case side2 => exact HC116_4.out);rintro e w8 ⟨v122,rfl,ho0,hb⟩;refine ⟨_,rfl,?_⟩;replace HO_3:=ak (Kd.S_elder' (z7_ HO_3) (Kd.R_base ho0) hb);have HO123:=z59_;replace HB:=ak (below_step Hd.b_ hb);clear hb ho0;obtain ⟨Ao10,co10,eo10⟩:=Kd.R_slice HO123.out;subst eo10) | ((with_reducible refine gate_builtin (b:=.append) (xs:=#[.tmp 12,.tmp 18]) rfl ?_);at_builtin;refine Kd.S_append k34 (w0:=w) w.heap.size rfl (.tmp 12) (.tmp 18) 28 34 (.agg #[(.int .i64 0),(.int .i64 0),(.int .i64 0),(.string ⟨#[]⟩),(.slice none 0 0)]) 64 rfl Try.underlying28 info34 rfl (by decide) (by omega) u3 x3_1 (⟨t117,t118,t119,t120,t121⟩ : S34) [.int .i64 t117,.int .i64 t118,.int .i64 t119,.string t120,.slice Ao10 t121.length co10] (fun _ => True) (fun k_ => some k_ = (.slice Ao10 t121.length co10 : Value).ownBlock) rfl rfl ?aP (fun k_ hk_ => ((Kd.R_mono (ok':=fun k_ => ((fun _ => True)) k_ ∧ some k_ ≠ (u3 : Value).ownBlock) (Kd.R_apart' (HO123.out) (Kd.S_typed HO_3.out) (by decide)) (fun k_ hk => ⟨trivial,hk.2⟩))).1 k_ hk_.symm) ?aF ?aO ?aB ?aS ?aL ?_;(case aP => exact k34_mkM _ _ _ (⟨t117,t118,t119,t120,t121⟩ : S34) (Kd.R_mono (Kd.R_tight rfl (Kd.R_mono (ok':=fun k_ => ((fun _ => True)) k_ ∧ some k_ ≠ (u3 : Value).ownBlock) (Kd.R_apart' (HO123.out) (Kd.S_typed HO_3.out) (by decide)) (fun k_ hk => ⟨trivial,hk.2⟩))) (fun _ h_ => h_)));(case aB => exact Hd.b_);(case aF => exact (fun _ _ => trivial));(case aO => exact (by (with_reducible repeat (first | apply Kd.S_alloc | apply Kd.S_drewN | apply Kd.S_drew));exact Kd.S_mono HO_3.out (fun k_ hk => ⟨trivial,fun e_ => hk.2 e_⟩)));(case aS => exact (below_size Hd.b_));(case aL => have:=LMc7.out;omega);intro v125 w9 ho hb hg hat;rw [← Ny124.out] at ho;have n0_:=ak (hb);have n1_:=ak (ho);clear HB;clear HO_3;clear HO123;have HB:=n0_;have HO126:=n1_;clear n0_ n1_;clear ho hb hg hat))
   go_roundg k1
   case measure => have:=HK1.out;omega
   case rel => exact ⟨(y124),(wrap64 (x4_1 + 1)),z2_,H',⟨by have:=HK1.out;omega⟩,⟨z7_ HO126⟩,⟨Hd.b_⟩⟩
def spec_l1In.f (a0 : Int) (a1 : Int) (a2 : Int) : Option (Bool):=if a0 ≥ a1 then (some (decide (a0 ≤ a2))) else (some false)
theorem spec_l1In.calls (a0 : Int) (a1 : Int) (a2 : Int) (r : Bool) (w : World) (h : spec_l1In.f a0 a1 a2 = some r) :
  Calls Try.prog 79 #[.int .i64 a0,.int .i64 a1,.int .i64 a2] w fun e w' => e = .returned (.bool r) ∧ Drawn0 w w':=by
 have H:=h;clear h;unfold spec_l1In.f at H
 by_cases c4 : a0 ≥ a1
 ·
  rw [if_pos c4] at H
  have c4b0 : decide (a1 ≤ a0) = true:=decide_eq_true c4
  clear c4
  obtain rfl:=Option.some.inj H
  go_enter Try.func79,Try.ntmps79
  go_wp2
  go_ret
  exact ⟨z2_,z12_⟩
 rw [if_neg c4] at H
 have c4b0 : decide (a1 ≤ a0) = false:=decide_eq_false c4
 clear c4
 obtain rfl:=Option.some.inj H
 go_enter Try.func79,Try.ntmps79
 go_wp2
 go_ret
 exact ⟨z2_,z12_⟩
def spec_IsName.l0 : Nat → ByteArray → Int → Option (Bool)
 | 0,_,_ => none
 | k + 1,x0,x3 => if x3 < (x0.size : Int) then (if 0 ≤ x3 then (if (bt x0 x3) < 97 then (some false) else (if (bt x0 x3) > 122 then (some false) else (spec_IsName.l0 k x0 (wrap64 (x3 + 1))))) else (none)) else ((spec_l1In.f (x0.size : Int) 1 8).bind fun t127 => (some t127))
def spec_IsName.f (k : Nat) (a0 : ByteArray) : Option (Bool):=spec_IsName.l0 k a0 0
theorem spec_IsName.calls (k : Nat) (a0 : ByteArray) (r : Bool) (w : World) (h : spec_IsName.f k a0 = some r) :
  Calls Try.prog 80 #[.string a0] w fun e w' => e = .returned (.bool r) ∧ Drawn0 w w':=by
 have H:=h;clear h;unfold spec_IsName.f at H
 have H':=ak H
 clear H
 go_enter Try.func80,Try.ntmps80
 go_wp2
 go_loopg [3] k (fun kq v3 w' => ∃ (x3_1 : Int),v3 = .int .i64 x3_1 ∧ Aside0 (spec_IsName.l0 kq a0 x3_1 = some r) ∧ Aside0 (kq ≤ k) ∧ Drawn0 w w')
 case atStart => exact ⟨(0),z2_,H',⟨Nat.le_refl _⟩,z12_⟩
 case round =>
  clear H'
  obtain ⟨x3_1,rfl,HA,HK1,⟨m1,rfl⟩⟩:=hrel
  cases gk with
  | zero => exact absurd HA.out (by simp [spec_IsName.l0])
  | succ k1 =>
   have H:=HA.out
   clear HA
   simp only [spec_IsName.l0] at H
   by_cases c2 : x3_1 < (a0.size : Int);rotate_left
   ·
    rw [if_neg c2] at H
    have c2b0:=decide_eq_false c2
    clear c2
    replace H:=Hd.bd_ H;obtain ⟨t127,A8,H⟩:=H
    obtain rfl:=Option.some.inj H
    go_wp2_with (first | ((with_reducible refine gate_callee (f:=79) rfl ?_);refine Hd.gl_ 22 Try.func79 #[.int .i64 (a0.size : Int),.int .i64 1,.int .i64 8] ?_;(with_reducible refine (spec_l1In.calls (a0.size : Int) 1 8 t127 _ A8.out).mono ?_);rintro e w' ⟨rfl,⟨nd,rfl⟩⟩;refine ⟨_,rfl,?_⟩))
    go_ret
    exact ⟨z2_,z12_⟩
   rw [if_pos c2] at H
   have c2b0:=decide_eq_true c2
   clear c2
   by_cases c3 : 0 ≤ x3_1;rotate_left
   ·
    rw [if_neg c3] at H
    exact absurd H (by simp)
   rw [if_pos c3] at H
   have c3b0:=decide_eq_true c3
   clear c3
   by_cases c5 : (bt a0 x3_1) < 97
   ·
    rw [if_pos c5] at H
    have c5b0:=decide_eq_true c5
    clear c5
    obtain rfl:=Option.some.inj H
    have p4 : 0 ≤ (x3_1 : Int):=of_decide_eq_true Hd.a_
    have q4 : x3_1 < (a0.size : Int):=of_decide_eq_true Hd.a_
    have hx4:=bt_at a0 x3_1
    replace p4:=eq_true p4
    replace q4:=eq_true q4
    go_wp2
    go_ret
    exact ⟨z2_,z12_⟩
   rw [if_neg c5] at H
   have c5b0:=decide_eq_false c5
   clear c5
   by_cases c7 : (bt a0 x3_1) > 122
   ·
    rw [if_pos c7] at H
    have c7b0 : decide (122 < (bt a0 x3_1)) = true:=decide_eq_true c7
    clear c7
    obtain rfl:=Option.some.inj H
    have p4 : 0 ≤ (x3_1 : Int):=of_decide_eq_true Hd.a_
    have q4 : x3_1 < (a0.size : Int):=of_decide_eq_true Hd.a_
    have hx4:=bt_at a0 x3_1
    replace p4:=eq_true p4
    replace q4:=eq_true q4
    have p6 : 0 ≤ (x3_1 : Int):=of_decide_eq_true Hd.a_
    have q6 : x3_1 < (a0.size : Int):=of_decide_eq_true Hd.a_
    have hx6:=bt_at a0 x3_1
    replace p6:=eq_true p6
    replace q6:=eq_true q6
    go_wp2
    go_ret
    exact ⟨z2_,z12_⟩
   rw [if_neg c7] at H
   have c7b0 : decide (122 < (bt a0 x3_1)) = false:=decide_eq_false c7
   clear c7
   have H':=ak H
   clear H
   have p4 : 0 ≤ (x3_1 : Int):=of_decide_eq_true Hd.a_
   have q4 : x3_1 < (a0.size : Int):=of_decide_eq_true Hd.a_
   have hx4:=bt_at a0 x3_1
   replace p4:=eq_true p4
   replace q4:=eq_true q4
   have p6 : 0 ≤ (x3_1 : Int):=of_decide_eq_true Hd.a_
   have q6 : x3_1 < (a0.size : Int):=of_decide_eq_true Hd.a_
   have hx6:=bt_at a0 x3_1
   replace p6:=eq_true p6
   replace q6:=eq_true q6
   go_wp2
   go_roundg k1
   case measure => have:=HK1.out;omega
   case rel => exact ⟨(wrap64 (x3_1 + 1)),z2_,H',⟨by have:=HK1.out;omega⟩,z12_⟩
def spec_IsPoint.f (a0_0 : Int) (a0_1 : Int) : Option (Bool):=(spec_l1In.f a0_0 0 200).bind fun t129 => (if t129 = true then ((spec_l1In.f a0_1 0 200).bind fun t130 => (some t130)) else (some false))
theorem spec_IsPoint.calls (a0_0 : Int) (a0_1 : Int) (r : Bool) (w : World) (h : spec_IsPoint.f a0_0 a0_1 = some r) :
  Calls Try.prog 81 #[.agg #[.int .i64 a0_0,.int .i64 a0_1]] w fun e w' => e = .returned (.bool r) ∧ Below w.heap.size w w':=by
 have hu75:=Try.underlying75
 have HB:=ak (Below.refl w.heap.size w)
 have H:=h;clear h;unfold spec_IsPoint.f at H
 replace H:=Hd.bd_ H;obtain ⟨t129,A2,H⟩:=H
 by_cases c3 : t129 = true
 ·
  subst c3
  rw [if_pos rfl] at H
  replace H:=Hd.bd_ H;obtain ⟨t130,A4,H⟩:=H
  obtain rfl:=Option.some.inj H
  go_enter Try.func81,Try.ntmps81
  go_wp2_with (first | ((with_reducible refine gate_dst (N:=1) rfl ?_);refine Hd.box_ 1 (#[.int .i64 a0_0,.int .i64 a0_1]) 75 ?_;intro gb128 hg w5 hbox hb;have BK128:=ak (hbox);have GW128:=ak ((Hd.g_ hg Hd.b_ : w.heap.size ≤ gb128));have GE128:=ak ((Hd.g_ hg Hd.b_ : w.heap.size ≤ gb128));replace HB:=ak (below_step Hd.b_ hb);clear hb hbox hg;obtain ⟨hcz6_0,hcz6_1⟩:=Hd.c2_ BK128.out;obtain ⟨hfz6_0,hfz6_1⟩:=Hd.f2_ BK128.out) | ((with_reducible refine gate_callee (f:=79) rfl ?_);refine Hd.gl_ 5 Try.func79 #[.int .i64 a0_0,.int .i64 0,.int .i64 200] ?_;(with_reducible refine (spec_l1In.calls a0_0 0 200 true _ A2.out).mono ?_);rintro e w' ⟨rfl,⟨nd,rfl⟩⟩;refine ⟨_,rfl,?_⟩) | (go_at_call 79;(with_reducible refine (spec_l1In.calls a0_1 0 200 t130 _ A4.out).mono ?_);rintro e w' ⟨rfl,⟨nd,rfl⟩⟩))
  go_ret
  exact ⟨Hd.e_,Hd.b_⟩
 replace c3:=Bool.eq_false_iff.mpr c3
 subst c3
 rw [if_neg (show ¬ (false = true) by decide)] at H
 obtain rfl:=Option.some.inj H
 go_enter Try.func81,Try.ntmps81
 go_wp2_with (first | ((with_reducible refine gate_dst (N:=1) rfl ?_);refine Hd.box_ 1 (#[.int .i64 a0_0,.int .i64 a0_1]) 75 ?_;intro gb128 hg w7 hbox hb;have BK128:=ak (hbox);have GW128:=ak ((Hd.g_ hg Hd.b_ : w.heap.size ≤ gb128));have GE128:=ak ((Hd.g_ hg Hd.b_ : w.heap.size ≤ gb128));replace HB:=ak (below_step Hd.b_ hb);clear hb hbox hg;obtain ⟨hcz8_0,hcz8_1⟩:=Hd.c2_ BK128.out;obtain ⟨hfz8_0,hfz8_1⟩:=Hd.f2_ BK128.out) | ((with_reducible refine gate_callee (f:=79) rfl ?_);refine Hd.gl_ 5 Try.func79 #[.int .i64 a0_0,.int .i64 0,.int .i64 200] ?_;(with_reducible refine (spec_l1In.calls a0_0 0 200 false _ A2.out).mono ?_);rintro e w' ⟨rfl,⟨nd,rfl⟩⟩;refine ⟨_,rfl,?_⟩))
 go_ret
 exact ⟨Hd.e_,Hd.b_⟩
def spec_IsLine.l0 : Nat → List (S75) → Int → Option (Bool)
 | 0,_,_ => none
 | k + 1,x0,x3 => if x3 < (x0.length : Int) then (if 0 ≤ x3 then ((spec_IsPoint.f ((rd_T75 x0 x3).f0) ((rd_T75 x0 x3).f1)).bind fun t132 => (if t132 = true then (if x3 > 0 then (if 0 ≤ (wrap64 (x3 - 1)) then (if (wrap64 (x3 - 1)) < (x0.length : Int) then (if (((rd_T75 x0 (wrap64 (x3 - 1))).f0) == ((rd_T75 x0 x3).f0) && (((rd_T75 x0 (wrap64 (x3 - 1))).f1) == ((rd_T75 x0 x3).f1))) = true then (some false) else (spec_IsLine.l0 k x0 (wrap64 (x3 + 1)))) else (none)) else (none)) else (spec_IsLine.l0 k x0 (wrap64 (x3 + 1)))) else (some false))) else (none)) else ((spec_l1In.f (x0.length : Int) 2 10).bind fun t135 => (some t135))
def spec_IsLine.f (k : Nat) (l0 : List (S75)) : Option (Bool):=spec_IsLine.l0 k l0 0
theorem spec_IsLine.calls (k : Nat) (A0 : Option Addr) (c0 : Nat) (l0 : List (S75)) (r : Bool) (w : World) (hr0 : Kd.C k75 w A0 l0.length l0) (hc0 : l0.length ≤ c0) (h : spec_IsLine.f k l0 = some r) :
  Calls Try.prog 97 #[.slice A0 l0.length c0] w fun e w' => e = .returned (.bool r) ∧ Below w.heap.size w w':=by
 have hu75:=Try.underlying75
 have HR0:=ak hr0
 have HC0:=ak hc0
 clear hr0 hc0
 have HB:=ak (Below.refl w.heap.size w)
 have H:=h;clear h;unfold spec_IsLine.f at H
 have H':=ak H
 clear H
 go_enter Try.func97,Try.ntmps97
 go_wp2
 go_loopg [3] k (fun kq v3 w' => ∃ (x3_1 : Int),v3 = .int .i64 x3_1 ∧ Aside0 (spec_IsLine.l0 kq l0 x3_1 = some r) ∧ Aside0 (kq ≤ k) ∧ Aside0 (Below w.heap.size w w'))
 case atStart => exact ⟨(0),z2_,H',⟨Nat.le_refl _⟩,⟨Hd.b_⟩⟩
 case round =>
  clear H'
  obtain ⟨x3_1,rfl,HA,HK1,HB⟩:=hrel
  cases gk with
  | zero => exact absurd HA.out (by simp [spec_IsLine.l0])
  | succ k1 =>
   have H:=HA.out
   clear HA
   simp only [spec_IsLine.l0] at H
   by_cases c2 : x3_1 < (l0.length : Int);rotate_left
   ·
    rw [if_neg c2] at H
    have c2b0:=decide_eq_false c2
    clear c2
    replace H:=Hd.bd_ H;obtain ⟨t135,A19,H⟩:=H
    obtain rfl:=Option.some.inj H
    go_wp2_with (first | ((with_reducible refine gate_callee (f:=79) rfl ?_);refine Hd.gl_ 34 Try.func79 #[.int .i64 (l0.length : Int),.int .i64 2,.int .i64 10] ?_;(with_reducible refine (spec_l1In.calls (l0.length : Int) 2 10 t135 _ A19.out).mono ?_);rintro e w' ⟨rfl,⟨nd,rfl⟩⟩;refine ⟨_,rfl,?_⟩))
    go_ret
    exact ⟨Hd.e_,Hd.b_⟩
   rw [if_pos c2] at H
   have c2b0:=decide_eq_true c2
   clear c2
   by_cases c3 : 0 ≤ x3_1;rotate_left
   ·
    rw [if_neg c3] at H
    exact absurd H (by simp)
   rw [if_pos c3] at H
   have c3b0:=decide_eq_true c3
   clear c3
   replace H:=Hd.bd_ H;obtain ⟨t132,A4,H⟩:=H
   by_cases c5 : t132 = true;rotate_left
   ·
    replace c5:=Bool.eq_false_iff.mpr c5
    subst c5
    rw [if_neg (show ¬ (false = true) by decide)] at H
    obtain rfl:=Option.some.inj H
    try go_wp2
    replace HB:=ak (below_drew1 HB.out)
    have p131 : 0 ≤ (x3_1 : Int):=of_decide_eq_true Hd.a_
    have q131 : x3_1 < (l0.length : Int):=of_decide_eq_true Hd.a_
    obtain ⟨ad131,e131,hx131_0,hx131_1⟩:=at_T75 HR0.out x3_1 p131 q131
    have hw131_1:=hx131_1
    have hw131_0:=hx131_0
    cases e131
    replace hx131_0:=(HB.out.cell (World.block_lt_of_cell? w _ hx131_0)).trans hx131_0
    replace hx131_1:=(HB.out.cell (World.block_lt_of_cell? w _ hx131_1)).trans hx131_1
    replace p131:=eq_true p131
    replace q131:=eq_true q131
    have s0_:=z63_
    have s1_:=z64_
    refine Hd.HW.region (by kernel_rfl) (by kernel_rfl) ?_
    repeat (go_big_quiet_step ((first | (go_at_call 81;with_reducible exact Hd.HW.c (spec_IsPoint.calls ((rd_T75 l0 x3_1).f0) ((rd_T75 l0 x3_1).f1) false _ A4.out)))))
    refine wpQuiet_nil ?_
    intro _ hq_
    obtain ⟨q_,rfl⟩:=hq_
    clear s0_ s1_
    replace HB:=ak (below_step HB.out q_.b)
    replace hx131_0:=q_.cell hx131_0
    replace hx131_1:=q_.cell hx131_1
    generalize q_.W = w18 at HB hx131_0 hx131_1 ⊢
    try simp only [i64_w,i32_w]
    try go_wp2
    go_ret
    exact ⟨Hd.e_,Hd.b_⟩
   subst c5
   rw [if_pos rfl] at H
   by_cases c6 : x3_1 > 0;rotate_left
   ·
    rw [if_neg c6] at H
    have c6b0 : decide (0 < x3_1) = false:=decide_eq_false c6
    clear c6
    have H':=ak H
    clear H
    try go_wp2
    replace HB:=ak (below_drew1 HB.out)
    have p131 : 0 ≤ (x3_1 : Int):=of_decide_eq_true Hd.a_
    have q131 : x3_1 < (l0.length : Int):=of_decide_eq_true Hd.a_
    obtain ⟨ad131,e131,hx131_0,hx131_1⟩:=at_T75 HR0.out x3_1 p131 q131
    have hw131_1:=hx131_1
    have hw131_0:=hx131_0
    cases e131
    replace hx131_0:=(HB.out.cell (World.block_lt_of_cell? w _ hx131_0)).trans hx131_0
    replace hx131_1:=(HB.out.cell (World.block_lt_of_cell? w _ hx131_1)).trans hx131_1
    replace p131:=eq_true p131
    replace q131:=eq_true q131
    have s0_:=z63_
    have s1_:=z64_
    refine Hd.HW.region (by kernel_rfl) (by kernel_rfl) ?_
    repeat (go_big_quiet_step ((first | (go_at_call 81;with_reducible exact Hd.HW.c (spec_IsPoint.calls ((rd_T75 l0 x3_1).f0) ((rd_T75 l0 x3_1).f1) true _ A4.out)))))
    refine wpQuiet_nil ?_
    intro _ hq_
    obtain ⟨q_,rfl⟩:=hq_
    clear s0_ s1_
    replace HB:=ak (below_step HB.out q_.b)
    replace hx131_0:=q_.cell hx131_0
    replace hx131_1:=q_.cell hx131_1
    generalize q_.W = w16 at HB hx131_0 hx131_1 ⊢
    try simp only [i64_w,i32_w]
    try go_wp2
    go_roundg k1
    case measure => have:=HK1.out;omega
    case rel => exact ⟨(wrap64 (x3_1 + 1)),z2_,H',⟨by have:=HK1.out;omega⟩,⟨Hd.b_⟩⟩
   rw [if_pos c6] at H
   have c6b0 : decide (0 < x3_1) = true:=decide_eq_true c6
   clear c6
   obtain ⟨ji7,hji7⟩ : ∃ j_ : Int,(wrap64 (x3_1 - 1)) = j_:=⟨_,rfl⟩
   replace H : (if 0 ≤ (ji7) then (if (ji7) < (l0.length : Int) then (if (((rd_T75 l0 (ji7)).f0) == ((rd_T75 l0 x3_1).f0) && (((rd_T75 l0 (ji7)).f1) == ((rd_T75 l0 x3_1).f1))) = true then (some false) else (spec_IsLine.l0 k1 l0 (wrap64 (x3_1 + 1)))) else (none)) else (none)) = some r:=by first | (rw [hji7] at H;exact H) | (simp only [hji7] at H ⊢;exact H)
   (try rw [hji7] at A4)
   have hji7w : (IntKind.i64.wrap (x3_1 - 1)) = ji7:=(i64_w _).trans hji7
   by_cases c8 : 0 ≤ (ji7);rotate_left
   ·
    rw [if_neg c8] at H
    exact absurd H (by simp)
   rw [if_pos c8] at H
   have c8b0:=decide_eq_true c8
   clear c8
   by_cases c9 : (ji7) < (l0.length : Int);rotate_left
   ·
    rw [if_neg c9] at H
    exact absurd H (by simp)
   rw [if_pos c9] at H
   have c9b0:=decide_eq_true c9
   clear c9
   by_cases c10 : (((rd_T75 l0 (ji7)).f0) == ((rd_T75 l0 x3_1).f0) && (((rd_T75 l0 (ji7)).f1) == ((rd_T75 l0 x3_1).f1))) = true
   ·
    rw [if_pos c10] at H
    have c10b0 : (((rd_T75 l0 (ji7)).f0) == ((rd_T75 l0 x3_1).f0) && (((rd_T75 l0 (ji7)).f1) == ((rd_T75 l0 x3_1).f1))) = true:=c10
    (try (have c10b1 : decide (((rd_T75 l0 (ji7)).f0) = ((rd_T75 l0 x3_1).f0) && (((rd_T75 l0 (ji7)).f1) == ((rd_T75 l0 x3_1).f1))) = true:=by simpa using c10))
    (try (have c10b2 : (((rd_T75 l0 (ji7)).f0) == ((rd_T75 l0 x3_1).f0) && (((rd_T75 l0 (ji7)).f1) == ((rd_T75 l0 x3_1).f1))) = true:=by simpa using c10))
    clear c10
    obtain rfl:=Option.some.inj H
    try go_wp2
    replace HB:=ak (below_drew1 HB.out)
    have p131 : 0 ≤ (x3_1 : Int):=of_decide_eq_true Hd.a_
    have q131 : x3_1 < (l0.length : Int):=of_decide_eq_true Hd.a_
    obtain ⟨ad131,e131,hx131_0,hx131_1⟩:=at_T75 HR0.out x3_1 p131 q131
    have hw131_1:=hx131_1
    have hw131_0:=hx131_0
    cases e131
    replace hx131_0:=(HB.out.cell (World.block_lt_of_cell? w _ hx131_0)).trans hx131_0
    replace hx131_1:=(HB.out.cell (World.block_lt_of_cell? w _ hx131_1)).trans hx131_1
    replace p131:=eq_true p131
    replace q131:=eq_true q131
    have p133 : 0 ≤ ((ji7) : Int):=of_decide_eq_true Hd.a_
    have q133 : (ji7) < (l0.length : Int):=of_decide_eq_true Hd.a_
    obtain ⟨ad133,e133,hx133_0,hx133_1⟩:=at_T75 HR0.out (ji7) p133 q133
    have hw133_1:=hx133_1
    have hw133_0:=hx133_0
    obtain rfl : ad131 = ad133:=(by injection e133)
    replace hx133_0:=(HB.out.cell (World.block_lt_of_cell? w _ hx133_0)).trans hx133_0
    replace hx133_1:=(HB.out.cell (World.block_lt_of_cell? w _ hx133_1)).trans hx133_1
    replace p133:=eq_true p133
    replace q133:=eq_true q133
    have p134 : 0 ≤ (x3_1 : Int):=of_decide_eq_true Hd.a_
    have q134 : x3_1 < (l0.length : Int):=of_decide_eq_true Hd.a_
    obtain ⟨ad134,e134,hx134_0,hx134_1⟩:=at_T75 HR0.out x3_1 p134 q134
    have hw134_1:=hx134_1
    have hw134_0:=hx134_0
    obtain rfl : ad131 = ad134:=(by injection e134)
    replace hx134_0:=(HB.out.cell (World.block_lt_of_cell? w _ hx134_0)).trans hx134_0
    replace hx134_1:=(HB.out.cell (World.block_lt_of_cell? w _ hx134_1)).trans hx134_1
    replace p134:=eq_true p134
    replace q134:=eq_true q134
    have s0_:=z63_
    have s1_:=z64_
    have s2_:=Hd.HW.x (W0:=wr.drew) ((HB.out.cell (World.block_lt_of_cell? w _ hw133_0)).trans hw133_0)
    have s3_:=Hd.HW.x (W0:=wr.drew) ((HB.out.cell (World.block_lt_of_cell? w _ hw133_1)).trans hw133_1)
    have s4_:=Hd.HW.x (W0:=wr.drew) ((HB.out.cell (World.block_lt_of_cell? w _ hw134_0)).trans hw134_0)
    have s5_:=Hd.HW.x (W0:=wr.drew) ((HB.out.cell (World.block_lt_of_cell? w _ hw134_1)).trans hw134_1)
    refine Hd.HW.region (by kernel_rfl) (by kernel_rfl) ?_
    repeat (go_big_quiet_step ((first | (go_at_call 81;with_reducible exact Hd.HW.c (spec_IsPoint.calls ((rd_T75 l0 x3_1).f0) ((rd_T75 l0 x3_1).f1) true _ A4.out)))))
    refine wpQuiet_nil ?_
    intro _ hq_
    obtain ⟨q_,rfl⟩:=hq_
    clear s0_ s1_ s2_ s3_ s4_ s5_
    replace HB:=ak (below_step HB.out q_.b)
    replace hx131_0:=q_.cell hx131_0
    replace hx131_1:=q_.cell hx131_1
    replace hx133_0:=q_.cell hx133_0
    replace hx133_1:=q_.cell hx133_1
    replace hx134_0:=q_.cell hx134_0
    replace hx134_1:=q_.cell hx134_1
    generalize q_.W = w12 at HB hx131_0 hx131_1 hx133_0 hx133_1 hx134_0 hx134_1 ⊢
    try simp only [i64_w,i32_w]
    try go_wp2
    go_ret
    exact ⟨by first | rfl | (simp [errW_none,errW_some] <;> rfl) | (simp only [← hji7];first | rfl | (simp [errW_none,errW_some] <;> rfl)) | (simp [*,errW_none,errW_some] <;> rfl),Hd.b_⟩
   rw [if_neg c10] at H
   have c10b0 : (((rd_T75 l0 (ji7)).f0) == ((rd_T75 l0 x3_1).f0) && (((rd_T75 l0 (ji7)).f1) == ((rd_T75 l0 x3_1).f1))) = false:=by simpa using c10
   (try (have c10b1 : decide (((rd_T75 l0 (ji7)).f0) = ((rd_T75 l0 x3_1).f0) && (((rd_T75 l0 (ji7)).f1) == ((rd_T75 l0 x3_1).f1))) = false:=by simpa using c10))
   (try (have c10b2 : (((rd_T75 l0 (ji7)).f0) == ((rd_T75 l0 x3_1).f0) && (((rd_T75 l0 (ji7)).f1) == ((rd_T75 l0 x3_1).f1))) = false:=by simpa using c10))
   (try (have c10b3 : ¬ (((rd_T75 l0 (ji7)).f0) = ((rd_T75 l0 x3_1).f0) && (((rd_T75 l0 (ji7)).f1) == ((rd_T75 l0 x3_1).f1))):=by simpa using c10))
   clear c10
   have H':=ak H
   clear H
   try go_wp2
   replace HB:=ak (below_drew1 HB.out)
   have p131 : 0 ≤ (x3_1 : Int):=of_decide_eq_true Hd.a_
   have q131 : x3_1 < (l0.length : Int):=of_decide_eq_true Hd.a_
   obtain ⟨ad131,e131,hx131_0,hx131_1⟩:=at_T75 HR0.out x3_1 p131 q131
   have hw131_1:=hx131_1
   have hw131_0:=hx131_0
   cases e131
   replace hx131_0:=(HB.out.cell (World.block_lt_of_cell? w _ hx131_0)).trans hx131_0
   replace hx131_1:=(HB.out.cell (World.block_lt_of_cell? w _ hx131_1)).trans hx131_1
   replace p131:=eq_true p131
   replace q131:=eq_true q131
   have p133 : 0 ≤ ((ji7) : Int):=of_decide_eq_true Hd.a_
   have q133 : (ji7) < (l0.length : Int):=of_decide_eq_true Hd.a_
   obtain ⟨ad133,e133,hx133_0,hx133_1⟩:=at_T75 HR0.out (ji7) p133 q133
   have hw133_1:=hx133_1
   have hw133_0:=hx133_0
   obtain rfl : ad131 = ad133:=(by injection e133)
   replace hx133_0:=(HB.out.cell (World.block_lt_of_cell? w _ hx133_0)).trans hx133_0
   replace hx133_1:=(HB.out.cell (World.block_lt_of_cell? w _ hx133_1)).trans hx133_1
   replace p133:=eq_true p133
   replace q133:=eq_true q133
   have p134 : 0 ≤ (x3_1 : Int):=of_decide_eq_true Hd.a_
   have q134 : x3_1 < (l0.length : Int):=of_decide_eq_true Hd.a_
   obtain ⟨ad134,e134,hx134_0,hx134_1⟩:=at_T75 HR0.out x3_1 p134 q134
   have hw134_1:=hx134_1
   have hw134_0:=hx134_0
   obtain rfl : ad131 = ad134:=(by injection e134)
   replace hx134_0:=(HB.out.cell (World.block_lt_of_cell? w _ hx134_0)).trans hx134_0
   replace hx134_1:=(HB.out.cell (World.block_lt_of_cell? w _ hx134_1)).trans hx134_1
   replace p134:=eq_true p134
   replace q134:=eq_true q134
   have s0_:=z63_
   have s1_:=z64_
   have s2_:=Hd.HW.x (W0:=wr.drew) ((HB.out.cell (World.block_lt_of_cell? w _ hw133_0)).trans hw133_0)
   have s3_:=Hd.HW.x (W0:=wr.drew) ((HB.out.cell (World.block_lt_of_cell? w _ hw133_1)).trans hw133_1)
   have s4_:=Hd.HW.x (W0:=wr.drew) ((HB.out.cell (World.block_lt_of_cell? w _ hw134_0)).trans hw134_0)
   have s5_:=Hd.HW.x (W0:=wr.drew) ((HB.out.cell (World.block_lt_of_cell? w _ hw134_1)).trans hw134_1)
   refine Hd.HW.region (by kernel_rfl) (by kernel_rfl) ?_
   repeat (go_big_quiet_step ((first | (go_at_call 81;with_reducible exact Hd.HW.c (spec_IsPoint.calls ((rd_T75 l0 x3_1).f0) ((rd_T75 l0 x3_1).f1) true _ A4.out)))))
   refine wpQuiet_nil ?_
   intro _ hq_
   obtain ⟨q_,rfl⟩:=hq_
   clear s0_ s1_ s2_ s3_ s4_ s5_
   replace HB:=ak (below_step HB.out q_.b)
   replace hx131_0:=q_.cell hx131_0
   replace hx131_1:=q_.cell hx131_1
   replace hx133_0:=q_.cell hx133_0
   replace hx133_1:=q_.cell hx133_1
   replace hx134_0:=q_.cell hx134_0
   replace hx134_1:=q_.cell hx134_1
   generalize q_.W = w14 at HB hx131_0 hx131_1 hx133_0 hx133_1 hx134_0 hx134_1 ⊢
   try simp only [i64_w,i32_w]
   try go_wp2
   go_roundg k1
   case measure => have:=HK1.out;omega
   case rel => exact ⟨(wrap64 (x3_1 + 1)),z2_,H',⟨by have:=HK1.out;omega⟩,⟨Hd.b_⟩⟩
end Go.Proofs.Ytbbdhlggnglfgaa.MFnExactPutFeature
