-- Laid by this session's program pp.py, after the kit's print and texts of the session's own. Not trusted: Lean checks it.
import Derived.Test.YtbbdhlggnglfgaaZPutFeatureMx0
import Derived.Test.YtbbdhlggnglfgaaZPutFeatureMx18
namespace Go.Proofs.Ytbbdhlggnglfgaa.MFnExactPutFeature
open Go.RowKit Go.Proofs.YtbbdhlggnglfgaaW.PrintWords Go.Proofs.YtbbdhlggnglfgaaW.PrintLast Go.Proofs.YtbbdhlggnglfgaaW.PrintMore
attribute [local go_sem] max2_int min2_int max_two min_two max_three min_three max_four min_four   -- for this text's walks alone
set_option linter.unusedVariables false
set_option maxHeartbeats 8000000
set_option maxRecDepth 100000
set_option linter.unusedSimpArgs false
def laws_heldPointS.l0 : Nat → List (S75) → Int → Int → Option (Int)
 | 0,_,_,_ => none
 | k + 1,x0,x1,x5 => if x5 < (x0.length : Int) then (if 0 ≤ x5 then (if ((rd_T75 x0 x5).f0) = x1 then (if ((rd_T75 x0 x5).f1) = (wrap64 (x1 + 1)) then (laws_heldPointS.l0 k x0 (wrap64 ((wrap64 (x1 + 1)) + 1)) (wrap64 (x5 + 1))) else (some (-1))) else (some (-1))) else (none)) else (some x1)
def laws_heldPointS.f (k : Nat) (l0 : List (S75)) (a1 : Int) : Option (Int):=laws_heldPointS.l0 k l0 a1 0
theorem laws_heldPointS.calls (k : Nat) (A0 : Option Addr) (c0 : Nat) (l0 : List (S75)) (a1 : Int) (r : Int) (w : World) (hr0 : Kd.C k75 w A0 l0.length l0) (hc0 : l0.length ≤ c0) (h : laws_heldPointS.f k l0 a1 = some r) :
  Calls Try.prog 44 #[.slice A0 l0.length c0,.int .i64 a1] w fun e w' => e = .returned (.int .i64 r) ∧ Drawn0 w w':=by
 have HR0:=ak hr0
 have HC0:=ak hc0
 clear hr0 hc0
 have H:=h;clear h;unfold laws_heldPointS.f at H
 have H':=ak H
 clear H
 go_enter Try.func44,Try.ntmps44
 go_wp2
 go_loopg [1,5] k (fun kq v1 v5 w' => ∃ (x1_1 : Int) (x5_1 : Int),v1 = .int .i64 x1_1 ∧ v5 = .int .i64 x5_1 ∧ Aside0 (laws_heldPointS.l0 kq l0 x1_1 x5_1 = some r) ∧ Aside0 (kq ≤ k) ∧ Drawn0 w w')
 case atStart => exact ⟨(a1),(0),z2_,z2_,H',⟨Nat.le_refl _⟩,z12_⟩
 case round =>
  clear H'
  try clear p2
  obtain ⟨x1_1,x5_1,rfl,rfl,HA,HK1,⟨m1,rfl⟩⟩:=hrel
  cases gk with
  | zero => exact absurd HA.out (by simp [laws_heldPointS.l0])
  | succ k1 =>
   have H:=HA.out
   clear HA
   simp only [laws_heldPointS.l0] at H
   by_cases c3 : x5_1 < (l0.length : Int);rotate_left
   ·
    rw [if_neg c3] at H
    have c3b0:=decide_eq_false c3
    clear c3
    obtain rfl:=Option.some.inj H
    go_wp2
    go_ret
    exact ⟨z2_,z12_⟩
   rw [if_pos c3] at H
   have c3b0:=decide_eq_true c3
   clear c3
   by_cases c4 : 0 ≤ x5_1;rotate_left
   ·
    rw [if_neg c4] at H
    exact absurd H (by simp)
   rw [if_pos c4] at H
   have c4b0:=decide_eq_true c4
   clear c4
   by_cases c5 : ((rd_T75 l0 x5_1).f0) = x1_1;rotate_left
   ·
    rw [if_neg c5] at H
    have c5b0:=beq_eq_false_iff_ne.mpr c5
    have c5b1:=bne_iff_ne.mpr c5
    obtain rfl:=Option.some.inj H
    have p528 : 0 ≤ (x5_1 : Int):=of_decide_eq_true Hd.a_
    have q528 : x5_1 < (l0.length : Int):=of_decide_eq_true Hd.a_
    obtain ⟨ad528,e528,hx528_0,hx528_1⟩:=at_T75 HR0.out x5_1 p528 q528
    cases e528
    replace p528:=eq_true p528
    replace q528:=eq_true q528
    go_wp2
    go_ret
    exact ⟨z2_,z12_⟩
   rw [if_pos c5] at H
   have c5b0:=beq_iff_eq.mpr c5
   have c5b1:=bne_eq_false_iff_eq.mpr c5
   clear c5
   by_cases c6 : ((rd_T75 l0 x5_1).f1) = (wrap64 (x1_1 + 1));rotate_left
   ·
    rw [if_neg c6] at H
    have c6b0:=beq_eq_false_iff_ne.mpr c6
    have c6b1:=bne_iff_ne.mpr c6
    obtain rfl:=Option.some.inj H
    have p528 : 0 ≤ (x5_1 : Int):=of_decide_eq_true Hd.a_
    have q528 : x5_1 < (l0.length : Int):=of_decide_eq_true Hd.a_
    obtain ⟨ad528,e528,hx528_0,hx528_1⟩:=at_T75 HR0.out x5_1 p528 q528
    cases e528
    replace p528:=eq_true p528
    replace q528:=eq_true q528
    have p529 : 0 ≤ (x5_1 : Int):=of_decide_eq_true Hd.a_
    have q529 : x5_1 < (l0.length : Int):=of_decide_eq_true Hd.a_
    obtain ⟨ad529,e529,hx529_0,hx529_1⟩:=at_T75 HR0.out x5_1 p529 q529
    obtain rfl : ad528 = ad529:=(by injection e529)
    replace p529:=eq_true p529
    replace q529:=eq_true q529
    go_wp2
    go_ret
    exact ⟨z2_,z12_⟩
   rw [if_pos c6] at H
   have c6b0:=beq_iff_eq.mpr c6
   have c6b1:=bne_eq_false_iff_eq.mpr c6
   clear c6
   have H':=ak H
   clear H
   have p528 : 0 ≤ (x5_1 : Int):=of_decide_eq_true Hd.a_
   have q528 : x5_1 < (l0.length : Int):=of_decide_eq_true Hd.a_
   obtain ⟨ad528,e528,hx528_0,hx528_1⟩:=at_T75 HR0.out x5_1 p528 q528
   cases e528
   replace p528:=eq_true p528
   replace q528:=eq_true q528
   have p529 : 0 ≤ (x5_1 : Int):=of_decide_eq_true Hd.a_
   have q529 : x5_1 < (l0.length : Int):=of_decide_eq_true Hd.a_
   obtain ⟨ad529,e529,hx529_0,hx529_1⟩:=at_T75 HR0.out x5_1 p529 q529
   obtain rfl : ad528 = ad529:=(by injection e529)
   replace p529:=eq_true p529
   replace q529:=eq_true q529
   go_wp2
   go_roundg k1
   case measure => have:=HK1.out;omega
   case rel => exact ⟨(wrap64 ((wrap64 (x1_1 + 1)) + 1)),(wrap64 (x5_1 + 1)),z2_,z2_,H',⟨by have:=HK1.out;omega⟩,z12_⟩
def laws_heldFeatureS.l0 : Nat → List (S34) → Int → Int → Option (Int)
 | 0,_,_,_ => none
 | k + 1,x0,x1,x5 => if x5 < (x0.length : Int) then (if 0 ≤ x5 then (if ((rd_T34 x0 x5).f0) = x1 then (if ((rd_T34 x0 x5).f1) = (wrap64 (x1 + 1)) then (if ((rd_T34 x0 x5).f2) = (wrap64 ((wrap64 (x1 + 1)) + 1)) then ((laws_markText.f k (wrap64 ((wrap64 ((wrap64 (x1 + 1)) + 1)) + 1))).bind fun t534 => (if ((rd_T34 x0 x5).f3).toList = t534.toList then ((laws_heldPointS.f k ((rd_T34 x0 x5).f4) (wrap64 ((wrap64 ((wrap64 ((wrap64 (x1 + 1)) + 1)) + 1)) + 1))).bind fun t536 => (if t536 < 0 then (some (-1)) else (laws_heldFeatureS.l0 k x0 t536 (wrap64 (x5 + 1))))) else (some (-1)))) else (some (-1))) else (some (-1))) else (some (-1))) else (none)) else (some x1)
def laws_heldFeatureS.f (k : Nat) (l0 : List (S34)) (a1 : Int) : Option (Int):=laws_heldFeatureS.l0 k l0 a1 0
def laws_heldFeatureS.T13 : Bool × List (List Nat × List Nat):=(true,[([],[]),([],[]),([0,1],[0,1]),([2],[2]),([3],[3]),([],[]),([5],[5]),([4,6],[4,6])])
def laws_heldFeatureS.B13 : List Nat:=[0,0,3,7,15,0,32,127]
theorem laws_heldFeatureS.tab13 : rtab .any (opsOf Try.f17 13) = laws_heldFeatureS.T13:=by kernel_rfl
theorem laws_heldFeatureS.bits13 : waitsOk laws_heldFeatureS.T13.2 laws_heldFeatureS.B13 = true:=by kernel_rfl
theorem laws_heldFeatureS.calls (k : Nat) (A0 : Option Addr) (c0 : Nat) (l0 : List (S34)) (a1 : Int) (r : Int) (w : World) (hr0 : Kd.C k34 w A0 l0.length l0) (hc0 : l0.length ≤ c0) (h : laws_heldFeatureS.f k l0 a1 = some r) :
  Calls Try.prog 17 #[.slice A0 l0.length c0,.int .i64 a1] w fun e w' => e = .returned (.int .i64 r) ∧ Below w.heap.size w w':=by
 have HR0:=ak hr0
 have HC0:=ak hc0
 clear hr0 hc0
 have HB:=ak (Below.refl w.heap.size w)
 have H:=h;clear h;unfold laws_heldFeatureS.f at H
 have H':=ak H
 clear H
 go_enter Try.func17,Try.ntmps17
 go_wp2
 go_loopg [1,5] k (fun kq v1 v5 w' => ∃ (x1_1 : Int) (x5_1 : Int),v1 = .int .i64 x1_1 ∧ v5 = .int .i64 x5_1 ∧ Aside0 (laws_heldFeatureS.l0 kq l0 x1_1 x5_1 = some r) ∧ Aside0 (kq ≤ k) ∧ Aside0 (Below w.heap.size w w'))
 case atStart => exact ⟨(a1),(0),z2_,z2_,H',⟨Nat.le_refl _⟩,⟨Hd.b_⟩⟩
 case round =>
  clear H'
  try clear c1;try clear p2
  obtain ⟨x1_1,x5_1,rfl,rfl,HA,HK1,HB⟩:=hrel
  cases gk with
  | zero => exact absurd HA.out (by simp [laws_heldFeatureS.l0])
  | succ k1 =>
   have H:=HA.out
   clear HA
   simp only [laws_heldFeatureS.l0] at H
   by_cases c3 : x5_1 < (l0.length : Int);rotate_left
   ·
    rw [if_neg c3] at H
    have c3b0:=decide_eq_false c3
    clear c3
    obtain rfl:=Option.some.inj H
    go_wp2
    go_ret
    exact ⟨Hd.e_,Hd.b_⟩
   rw [if_pos c3] at H
   have c3b0:=decide_eq_true c3
   clear c3
   by_cases c4 : 0 ≤ x5_1;rotate_left
   ·
    rw [if_neg c4] at H
    exact absurd H (by simp)
   rw [if_pos c4] at H
   have c4b0:=decide_eq_true c4
   clear c4
   by_cases c5 : ((rd_T34 l0 x5_1).f0) = x1_1;rotate_left
   ·
    rw [if_neg c5] at H
    have c5b0:=beq_eq_false_iff_ne.mpr c5
    have c5b1:=bne_iff_ne.mpr c5
    obtain rfl:=Option.some.inj H
    have p530 : 0 ≤ (x5_1 : Int):=of_decide_eq_true Hd.a_
    have q530 : x5_1 < (l0.length : Int):=of_decide_eq_true Hd.a_
    obtain ⟨ad530,A530_4,c530_4,e530,hx530_0,hx530_1,hx530_2,hx530_3,hx530_4,hl530_4,hi530_4⟩:=at_T34 HR0.out x5_1 p530 q530
    cases e530
    replace hx530_0:=z53_
    replace hx530_1:=z54_
    replace hx530_2:=z55_
    replace hx530_3:=z56_
    replace hx530_4:=z57_
    have HR530_4:=ak hi530_4
    have HC530_4:=ak hl530_4
    clear hi530_4 hl530_4
    replace p530:=eq_true p530
    replace q530:=eq_true q530
    go_wp2
    go_ret
    exact ⟨Hd.e_,Hd.b_⟩
   rw [if_pos c5] at H
   have c5b0:=beq_iff_eq.mpr c5
   have c5b1:=bne_eq_false_iff_eq.mpr c5
   clear c5
   by_cases c6 : ((rd_T34 l0 x5_1).f1) = (wrap64 (x1_1 + 1));rotate_left
   ·
    rw [if_neg c6] at H
    have c6b0:=beq_eq_false_iff_ne.mpr c6
    have c6b1:=bne_iff_ne.mpr c6
    obtain rfl:=Option.some.inj H
    have p530 : 0 ≤ (x5_1 : Int):=of_decide_eq_true Hd.a_
    have q530 : x5_1 < (l0.length : Int):=of_decide_eq_true Hd.a_
    obtain ⟨ad530,A530_4,c530_4,e530,hx530_0,hx530_1,hx530_2,hx530_3,hx530_4,hl530_4,hi530_4⟩:=at_T34 HR0.out x5_1 p530 q530
    cases e530
    replace hx530_0:=z53_
    replace hx530_1:=z54_
    replace hx530_2:=z55_
    replace hx530_3:=z56_
    replace hx530_4:=z57_
    have HR530_4:=ak hi530_4
    have HC530_4:=ak hl530_4
    clear hi530_4 hl530_4
    replace p530:=eq_true p530
    replace q530:=eq_true q530
    have p531 : 0 ≤ (x5_1 : Int):=of_decide_eq_true Hd.a_
    have q531 : x5_1 < (l0.length : Int):=of_decide_eq_true Hd.a_
    obtain ⟨ad531,A531_4,c531_4,e531,hx531_0,hx531_1,hx531_2,hx531_3,hx531_4,hl531_4,hi531_4⟩:=at_T34 HR0.out x5_1 p531 q531
    obtain rfl : ad530 = ad531:=(by injection e531)
    replace hx531_0:=z65_
    replace hx531_1:=z66_
    replace hx531_2:=z67_
    replace hx531_3:=z68_
    replace hx531_4:=z69_
    have HR531_4:=ak hi531_4
    have HC531_4:=ak hl531_4
    clear hi531_4 hl531_4
    replace p531:=eq_true p531
    replace q531:=eq_true q531
    have ea_:=Option.some.inj (hx530_4.symm.trans hx531_4)
    injection ea_ with ea_ en_ ec_
    subst ea_
    subst ec_
    clear en_
    go_wp2
    go_ret
    exact ⟨Hd.e_,Hd.b_⟩
   rw [if_pos c6] at H
   have c6b0:=beq_iff_eq.mpr c6
   have c6b1:=bne_eq_false_iff_eq.mpr c6
   clear c6
   by_cases c7 : ((rd_T34 l0 x5_1).f2) = (wrap64 ((wrap64 (x1_1 + 1)) + 1));rotate_left
   ·
    rw [if_neg c7] at H
    have c7b0:=beq_eq_false_iff_ne.mpr c7
    have c7b1:=bne_iff_ne.mpr c7
    obtain rfl:=Option.some.inj H
    have p530 : 0 ≤ (x5_1 : Int):=of_decide_eq_true Hd.a_
    have q530 : x5_1 < (l0.length : Int):=of_decide_eq_true Hd.a_
    obtain ⟨ad530,A530_4,c530_4,e530,hx530_0,hx530_1,hx530_2,hx530_3,hx530_4,hl530_4,hi530_4⟩:=at_T34 HR0.out x5_1 p530 q530
    cases e530
    replace hx530_0:=z53_
    replace hx530_1:=z54_
    replace hx530_2:=z55_
    replace hx530_3:=z56_
    replace hx530_4:=z57_
    have HR530_4:=ak hi530_4
    have HC530_4:=ak hl530_4
    clear hi530_4 hl530_4
    replace p530:=eq_true p530
    replace q530:=eq_true q530
    have p531 : 0 ≤ (x5_1 : Int):=of_decide_eq_true Hd.a_
    have q531 : x5_1 < (l0.length : Int):=of_decide_eq_true Hd.a_
    obtain ⟨ad531,A531_4,c531_4,e531,hx531_0,hx531_1,hx531_2,hx531_3,hx531_4,hl531_4,hi531_4⟩:=at_T34 HR0.out x5_1 p531 q531
    obtain rfl : ad530 = ad531:=(by injection e531)
    replace hx531_0:=z65_
    replace hx531_1:=z66_
    replace hx531_2:=z67_
    replace hx531_3:=z68_
    replace hx531_4:=z69_
    have HR531_4:=ak hi531_4
    have HC531_4:=ak hl531_4
    clear hi531_4 hl531_4
    replace p531:=eq_true p531
    replace q531:=eq_true q531
    have ea_:=Option.some.inj (hx530_4.symm.trans hx531_4)
    injection ea_ with ea_ en_ ec_
    subst ea_
    subst ec_
    clear en_
    have p532 : 0 ≤ (x5_1 : Int):=of_decide_eq_true Hd.a_
    have q532 : x5_1 < (l0.length : Int):=of_decide_eq_true Hd.a_
    obtain ⟨ad532,A532_4,c532_4,e532,hx532_0,hx532_1,hx532_2,hx532_3,hx532_4,hl532_4,hi532_4⟩:=at_T34 HR0.out x5_1 p532 q532
    obtain rfl : ad530 = ad532:=(by injection e532)
    replace hx532_0:=(HB.out.cell (World.block_lt_of_cell? w _ hx532_0)).trans hx532_0
    replace hx532_1:=(HB.out.cell (World.block_lt_of_cell? w _ hx532_1)).trans hx532_1
    replace hx532_2:=(HB.out.cell (World.block_lt_of_cell? w _ hx532_2)).trans hx532_2
    replace hx532_3:=(HB.out.cell (World.block_lt_of_cell? w _ hx532_3)).trans hx532_3
    replace hx532_4:=(HB.out.cell (World.block_lt_of_cell? w _ hx532_4)).trans hx532_4
    have HR532_4:=ak hi532_4
    have HC532_4:=ak hl532_4
    clear hi532_4 hl532_4
    replace p532:=eq_true p532
    replace q532:=eq_true q532
    have ea_:=Option.some.inj (hx530_4.symm.trans hx532_4)
    injection ea_ with ea_ en_ ec_
    subst ea_
    subst ec_
    clear en_
    go_wp2
    go_ret
    exact ⟨Hd.e_,Hd.b_⟩
   rw [if_pos c7] at H
   have c7b0:=beq_iff_eq.mpr c7
   have c7b1:=bne_eq_false_iff_eq.mpr c7
   clear c7
   replace H:=Hd.bd_ H;obtain ⟨t534,A8,H⟩:=H
   by_cases c9 : ((rd_T34 l0 x5_1).f3).toList = t534.toList;rotate_left
   ·
    rw [if_neg c9] at H
    have c9b0:=beq_eq_false_iff_ne.mpr c9
    have c9b1:=bne_iff_ne.mpr c9
    obtain rfl:=Option.some.inj H
    have p530 : 0 ≤ (x5_1 : Int):=of_decide_eq_true Hd.a_
    have q530 : x5_1 < (l0.length : Int):=of_decide_eq_true Hd.a_
    obtain ⟨ad530,A530_4,c530_4,e530,hx530_0,hx530_1,hx530_2,hx530_3,hx530_4,hl530_4,hi530_4⟩:=at_T34 HR0.out x5_1 p530 q530
    cases e530
    replace hx530_0:=z53_
    replace hx530_1:=z54_
    replace hx530_2:=z55_
    replace hx530_3:=z56_
    replace hx530_4:=z57_
    have HR530_4:=ak hi530_4
    have HC530_4:=ak hl530_4
    clear hi530_4 hl530_4
    replace p530:=eq_true p530
    replace q530:=eq_true q530
    have p531 : 0 ≤ (x5_1 : Int):=of_decide_eq_true Hd.a_
    have q531 : x5_1 < (l0.length : Int):=of_decide_eq_true Hd.a_
    obtain ⟨ad531,A531_4,c531_4,e531,hx531_0,hx531_1,hx531_2,hx531_3,hx531_4,hl531_4,hi531_4⟩:=at_T34 HR0.out x5_1 p531 q531
    obtain rfl : ad530 = ad531:=(by injection e531)
    replace hx531_0:=z65_
    replace hx531_1:=z66_
    replace hx531_2:=z67_
    replace hx531_3:=z68_
    replace hx531_4:=z69_
    have HR531_4:=ak hi531_4
    have HC531_4:=ak hl531_4
    clear hi531_4 hl531_4
    replace p531:=eq_true p531
    replace q531:=eq_true q531
    have ea_:=Option.some.inj (hx530_4.symm.trans hx531_4)
    injection ea_ with ea_ en_ ec_
    subst ea_
    subst ec_
    clear en_
    have p532 : 0 ≤ (x5_1 : Int):=of_decide_eq_true Hd.a_
    have q532 : x5_1 < (l0.length : Int):=of_decide_eq_true Hd.a_
    obtain ⟨ad532,A532_4,c532_4,e532,hx532_0,hx532_1,hx532_2,hx532_3,hx532_4,hl532_4,hi532_4⟩:=at_T34 HR0.out x5_1 p532 q532
    obtain rfl : ad530 = ad532:=(by injection e532)
    replace hx532_0:=(HB.out.cell (World.block_lt_of_cell? w _ hx532_0)).trans hx532_0
    replace hx532_1:=(HB.out.cell (World.block_lt_of_cell? w _ hx532_1)).trans hx532_1
    replace hx532_2:=(HB.out.cell (World.block_lt_of_cell? w _ hx532_2)).trans hx532_2
    replace hx532_3:=(HB.out.cell (World.block_lt_of_cell? w _ hx532_3)).trans hx532_3
    replace hx532_4:=(HB.out.cell (World.block_lt_of_cell? w _ hx532_4)).trans hx532_4
    have HR532_4:=ak hi532_4
    have HC532_4:=ak hl532_4
    clear hi532_4 hl532_4
    replace p532:=eq_true p532
    replace q532:=eq_true q532
    have ea_:=Option.some.inj (hx530_4.symm.trans hx532_4)
    injection ea_ with ea_ en_ ec_
    subst ea_
    subst ec_
    clear en_
    try go_wp2
    replace HB:=ak (below_drew1 HB.out)
    have p533 : 0 ≤ (x5_1 : Int):=of_decide_eq_true Hd.a_
    have q533 : x5_1 < (l0.length : Int):=of_decide_eq_true Hd.a_
    obtain ⟨ad533,A533_4,c533_4,e533,hx533_0,hx533_1,hx533_2,hx533_3,hx533_4,hl533_4,hi533_4⟩:=at_T34 HR0.out x5_1 p533 q533
    have hw533_4:=hx533_4
    have hw533_3:=hx533_3
    have hw533_2:=hx533_2
    have hw533_1:=hx533_1
    have hw533_0:=hx533_0
    obtain rfl : ad530 = ad533:=(by injection e533)
    replace hx533_0:=(HB.out.cell (World.block_lt_of_cell? w _ hx533_0)).trans hx533_0
    replace hx533_1:=(HB.out.cell (World.block_lt_of_cell? w _ hx533_1)).trans hx533_1
    replace hx533_2:=(HB.out.cell (World.block_lt_of_cell? w _ hx533_2)).trans hx533_2
    replace hx533_3:=(HB.out.cell (World.block_lt_of_cell? w _ hx533_3)).trans hx533_3
    replace hx533_4:=(HB.out.cell (World.block_lt_of_cell? w _ hx533_4)).trans hx533_4
    have HR533_4:=ak hi533_4
    have HC533_4:=ak hl533_4
    clear hi533_4 hl533_4
    replace p533:=eq_true p533
    replace q533:=eq_true q533
    refine start_ (n:=8) (S:=fun w' => w'.cell? (ad530.add ((x5_1).toNat * 5)) = some (.int .i64 ((rd_T34 l0 x5_1).f0)) ∧ w'.cell? ⟨(ad530.add ((x5_1).toNat * 5)).block,(ad530.add ((x5_1).toNat * 5)).off + 1,none⟩ = some (.int .i64 ((rd_T34 l0 x5_1).f1)) ∧ w'.cell? ⟨(ad530.add ((x5_1).toNat * 5)).block,(ad530.add ((x5_1).toNat * 5)).off + 2,none⟩ = some (.int .i64 ((rd_T34 l0 x5_1).f2)) ∧ w'.cell? ⟨(ad530.add ((x5_1).toNat * 5)).block,(ad530.add ((x5_1).toNat * 5)).off + 3,none⟩ = some (.string ((rd_T34 l0 x5_1).f3)) ∧ w'.cell? ⟨(ad530.add ((x5_1).toNat * 5)).block,(ad530.add ((x5_1).toNat * 5)).off + 4,none⟩ = some (.slice A533_4 ((rd_T34 l0 x5_1).f4).length c533_4)) (ds:=[]) #[N_,N_,N_,N_,N_,N_,N_,N_] (by kernel_rfl) rfl rfl ⟨((HB.out.cell (World.block_lt_of_cell? w _ hw533_0)).trans hw533_0),((HB.out.cell (World.block_lt_of_cell? w _ hw533_1)).trans hw533_1),((HB.out.cell (World.block_lt_of_cell? w _ hw533_2)).trans hw533_2),((HB.out.cell (World.block_lt_of_cell? w _ hw533_3)).trans hw533_3),((HB.out.cell (World.block_lt_of_cell? w _ hw533_4)).trans hw533_4)⟩ (fun hHeld => ?_);refine with_tabW laws_heldFeatureS.tab13 laws_heldFeatureS.bits13 (fun HT_ HW_ => ?_)
    generalize wr.drew = w16 at HB HR533_4 hx533_0 hx533_1 hx533_2 hx533_3 hx533_4 hHeld ⊢
    refine Hd.p_ HT_ 0 (some 39) #[Y_,N_,N_,N_,N_,N_,N_,N_] ?_
    refine Hd.p_ HT_ 1 (some 40) #[Y_,Y_,N_,N_,N_,N_,N_,N_] ?_
    refine Hd.p_ HT_ 2 (some 41) #[Y_,Y_,Y_,N_,N_,N_,N_,N_] ?_
    refine Hd.p_ HT_ 3 (some 42) #[Y_,Y_,Y_,Y_,N_,N_,N_,N_] ?_
    refine Hd.p_ HT_ 5 (some 44) #[Y_,Y_,Y_,Y_,N_,Y_,N_,N_] ?_
    refine Hd.t_ HT_ HW_ hHeld 4 (some 43) #[Y_,Y_,Y_,Y_,Y_,Y_,N_,N_] ?_
    refine Hd.o_ HT_ 6 (some 45) #[Y_,Y_,Y_,Y_,Y_,Y_,Y_,N_] (fun K hK => ?_)
    refine goes_ Try.func42 (by kernel_rfl) rfl #[.int .i64 (wrap64 ((wrap64 ((wrap64 (x1_1 + 1)) + 1)) + 1))] (by rfl) rfl rfl Hd.m_ ?_
    with_reducible refine (laws_markText.calls k1 (wrap64 ((wrap64 ((wrap64 (x1_1 + 1)) + 1)) + 1)) t534 _ A8.out).mono ?_
    rintro e w17 ⟨rfl,hb⟩
    refine ⟨_,rfl,?_⟩
    replace HB:=ak (below_step Hd.b_ hb)
    try clear hb;try clear hb2;try clear hk;try clear hi
    refine hK.out _ _ ⟨((HB.out.cell (World.block_lt_of_cell? w _ hw533_0)).trans hw533_0),((HB.out.cell (World.block_lt_of_cell? w _ hw533_1)).trans hw533_1),((HB.out.cell (World.block_lt_of_cell? w _ hw533_2)).trans hw533_2),((HB.out.cell (World.block_lt_of_cell? w _ hw533_3)).trans hw533_3),((HB.out.cell (World.block_lt_of_cell? w _ hw533_4)).trans hw533_4)⟩ (fun hHeld => ?_)
    clear hK K
    refine Hd.n_ (some 45) ?_
    refine Hd.p_ HT_ 7 (some 46) #[Y_,Y_,Y_,Y_,Y_,Y_,Y_,Y_] ?_
    refine done_ (done_of HT_.out (by kernel_rfl)) ?_
    try go_wp2
    go_ret
    exact ⟨Hd.e_,Hd.b_⟩
   rw [if_pos c9] at H
   have c9b0:=beq_iff_eq.mpr c9
   have c9b1:=bne_eq_false_iff_eq.mpr c9
   clear c9
   replace H:=Hd.bd_ H;obtain ⟨t536,A10,H⟩:=H
   by_cases c11 : t536 < 0
   ·
    rw [if_pos c11] at H
    have c11b0:=decide_eq_true c11
    clear c11
    obtain rfl:=Option.some.inj H
    have p530 : 0 ≤ (x5_1 : Int):=of_decide_eq_true Hd.a_
    have q530 : x5_1 < (l0.length : Int):=of_decide_eq_true Hd.a_
    obtain ⟨ad530,A530_4,c530_4,e530,hx530_0,hx530_1,hx530_2,hx530_3,hx530_4,hl530_4,hi530_4⟩:=at_T34 HR0.out x5_1 p530 q530
    cases e530
    replace hx530_0:=z53_
    replace hx530_1:=z54_
    replace hx530_2:=z55_
    replace hx530_3:=z56_
    replace hx530_4:=z57_
    have HR530_4:=ak hi530_4
    have HC530_4:=ak hl530_4
    clear hi530_4 hl530_4
    replace p530:=eq_true p530
    replace q530:=eq_true q530
    have p531 : 0 ≤ (x5_1 : Int):=of_decide_eq_true Hd.a_
    have q531 : x5_1 < (l0.length : Int):=of_decide_eq_true Hd.a_
    obtain ⟨ad531,A531_4,c531_4,e531,hx531_0,hx531_1,hx531_2,hx531_3,hx531_4,hl531_4,hi531_4⟩:=at_T34 HR0.out x5_1 p531 q531
    obtain rfl : ad530 = ad531:=(by injection e531)
    replace hx531_0:=z65_
    replace hx531_1:=z66_
    replace hx531_2:=z67_
    replace hx531_3:=z68_
    replace hx531_4:=z69_
    have HR531_4:=ak hi531_4
    have HC531_4:=ak hl531_4
    clear hi531_4 hl531_4
    replace p531:=eq_true p531
    replace q531:=eq_true q531
    have ea_:=Option.some.inj (hx530_4.symm.trans hx531_4)
    injection ea_ with ea_ en_ ec_
    subst ea_
    subst ec_
    clear en_
    have p532 : 0 ≤ (x5_1 : Int):=of_decide_eq_true Hd.a_
    have q532 : x5_1 < (l0.length : Int):=of_decide_eq_true Hd.a_
    obtain ⟨ad532,A532_4,c532_4,e532,hx532_0,hx532_1,hx532_2,hx532_3,hx532_4,hl532_4,hi532_4⟩:=at_T34 HR0.out x5_1 p532 q532
    obtain rfl : ad530 = ad532:=(by injection e532)
    replace hx532_0:=(HB.out.cell (World.block_lt_of_cell? w _ hx532_0)).trans hx532_0
    replace hx532_1:=(HB.out.cell (World.block_lt_of_cell? w _ hx532_1)).trans hx532_1
    replace hx532_2:=(HB.out.cell (World.block_lt_of_cell? w _ hx532_2)).trans hx532_2
    replace hx532_3:=(HB.out.cell (World.block_lt_of_cell? w _ hx532_3)).trans hx532_3
    replace hx532_4:=(HB.out.cell (World.block_lt_of_cell? w _ hx532_4)).trans hx532_4
    have HR532_4:=ak hi532_4
    have HC532_4:=ak hl532_4
    clear hi532_4 hl532_4
    replace p532:=eq_true p532
    replace q532:=eq_true q532
    have ea_:=Option.some.inj (hx530_4.symm.trans hx532_4)
    injection ea_ with ea_ en_ ec_
    subst ea_
    subst ec_
    clear en_
    try go_wp2
    replace HB:=ak (below_drew1 HB.out)
    have p533 : 0 ≤ (x5_1 : Int):=of_decide_eq_true Hd.a_
    have q533 : x5_1 < (l0.length : Int):=of_decide_eq_true Hd.a_
    obtain ⟨ad533,A533_4,c533_4,e533,hx533_0,hx533_1,hx533_2,hx533_3,hx533_4,hl533_4,hi533_4⟩:=at_T34 HR0.out x5_1 p533 q533
    have hw533_4:=hx533_4
    have hw533_3:=hx533_3
    have hw533_2:=hx533_2
    have hw533_1:=hx533_1
    have hw533_0:=hx533_0
    obtain rfl : ad530 = ad533:=(by injection e533)
    replace hx533_0:=(HB.out.cell (World.block_lt_of_cell? w _ hx533_0)).trans hx533_0
    replace hx533_1:=(HB.out.cell (World.block_lt_of_cell? w _ hx533_1)).trans hx533_1
    replace hx533_2:=(HB.out.cell (World.block_lt_of_cell? w _ hx533_2)).trans hx533_2
    replace hx533_3:=(HB.out.cell (World.block_lt_of_cell? w _ hx533_3)).trans hx533_3
    replace hx533_4:=(HB.out.cell (World.block_lt_of_cell? w _ hx533_4)).trans hx533_4
    have HR533_4:=ak hi533_4
    have HC533_4:=ak hl533_4
    clear hi533_4 hl533_4
    replace p533:=eq_true p533
    replace q533:=eq_true q533
    refine start_ (n:=8) (S:=fun w' => w'.cell? (ad530.add ((x5_1).toNat * 5)) = some (.int .i64 ((rd_T34 l0 x5_1).f0)) ∧ w'.cell? ⟨(ad530.add ((x5_1).toNat * 5)).block,(ad530.add ((x5_1).toNat * 5)).off + 1,none⟩ = some (.int .i64 ((rd_T34 l0 x5_1).f1)) ∧ w'.cell? ⟨(ad530.add ((x5_1).toNat * 5)).block,(ad530.add ((x5_1).toNat * 5)).off + 2,none⟩ = some (.int .i64 ((rd_T34 l0 x5_1).f2)) ∧ w'.cell? ⟨(ad530.add ((x5_1).toNat * 5)).block,(ad530.add ((x5_1).toNat * 5)).off + 3,none⟩ = some (.string ((rd_T34 l0 x5_1).f3)) ∧ w'.cell? ⟨(ad530.add ((x5_1).toNat * 5)).block,(ad530.add ((x5_1).toNat * 5)).off + 4,none⟩ = some (.slice A533_4 ((rd_T34 l0 x5_1).f4).length c533_4)) (ds:=[]) #[N_,N_,N_,N_,N_,N_,N_,N_] (by kernel_rfl) rfl rfl ⟨((HB.out.cell (World.block_lt_of_cell? w _ hw533_0)).trans hw533_0),((HB.out.cell (World.block_lt_of_cell? w _ hw533_1)).trans hw533_1),((HB.out.cell (World.block_lt_of_cell? w _ hw533_2)).trans hw533_2),((HB.out.cell (World.block_lt_of_cell? w _ hw533_3)).trans hw533_3),((HB.out.cell (World.block_lt_of_cell? w _ hw533_4)).trans hw533_4)⟩ (fun hHeld => ?_);refine with_tabW laws_heldFeatureS.tab13 laws_heldFeatureS.bits13 (fun HT_ HW_ => ?_)
    generalize wr.drew = w12 at HB HR533_4 hx533_0 hx533_1 hx533_2 hx533_3 hx533_4 hHeld ⊢
    refine Hd.p_ HT_ 0 (some 39) #[Y_,N_,N_,N_,N_,N_,N_,N_] ?_
    refine Hd.p_ HT_ 1 (some 40) #[Y_,Y_,N_,N_,N_,N_,N_,N_] ?_
    refine Hd.p_ HT_ 2 (some 41) #[Y_,Y_,Y_,N_,N_,N_,N_,N_] ?_
    refine Hd.p_ HT_ 3 (some 42) #[Y_,Y_,Y_,Y_,N_,N_,N_,N_] ?_
    refine Hd.p_ HT_ 5 (some 44) #[Y_,Y_,Y_,Y_,N_,Y_,N_,N_] ?_
    refine Hd.t_ HT_ HW_ hHeld 4 (some 43) #[Y_,Y_,Y_,Y_,Y_,Y_,N_,N_] ?_
    refine Hd.o_ HT_ 6 (some 45) #[Y_,Y_,Y_,Y_,Y_,Y_,Y_,N_] (fun K hK => ?_)
    refine goes_ Try.func42 (by kernel_rfl) rfl #[.int .i64 (wrap64 ((wrap64 ((wrap64 (x1_1 + 1)) + 1)) + 1))] (by rfl) rfl rfl Hd.m_ ?_
    with_reducible refine (laws_markText.calls k1 (wrap64 ((wrap64 ((wrap64 (x1_1 + 1)) + 1)) + 1)) t534 _ A8.out).mono ?_
    rintro e w13 ⟨rfl,hb⟩
    refine ⟨_,rfl,?_⟩
    replace HB:=ak (below_step Hd.b_ hb)
    try clear hb;try clear hb2;try clear hk;try clear hi
    refine hK.out _ _ ⟨((HB.out.cell (World.block_lt_of_cell? w _ hw533_0)).trans hw533_0),((HB.out.cell (World.block_lt_of_cell? w _ hw533_1)).trans hw533_1),((HB.out.cell (World.block_lt_of_cell? w _ hw533_2)).trans hw533_2),((HB.out.cell (World.block_lt_of_cell? w _ hw533_3)).trans hw533_3),((HB.out.cell (World.block_lt_of_cell? w _ hw533_4)).trans hw533_4)⟩ (fun hHeld => ?_)
    clear hK K
    refine Hd.n_ (some 45) ?_
    refine Hd.p_ HT_ 7 (some 46) #[Y_,Y_,Y_,Y_,Y_,Y_,Y_,Y_] ?_
    refine done_ (done_of HT_.out (by kernel_rfl)) ?_
    have p535 : 0 ≤ (x5_1 : Int):=of_decide_eq_true Hd.a_
    have q535 : x5_1 < (l0.length : Int):=of_decide_eq_true Hd.a_
    obtain ⟨ad535,A535_4,c535_4,e535,hx535_0,hx535_1,hx535_2,hx535_3,hx535_4,hl535_4,hi535_4⟩:=at_T34 HR0.out x5_1 p535 q535
    obtain rfl : ad530 = ad535:=(by injection e535)
    obtain ⟨rfl,rfl⟩ : A535_4 = A533_4 ∧ c535_4 = c533_4:=by have h_:=hx535_4.symm.trans hw533_4;injection h_ with h_;injection h_ with h1_ _ h2_;exact ⟨h1_,h2_⟩
    replace hx535_0:=(HB.out.cell (World.block_lt_of_cell? w _ hx535_0)).trans hx535_0
    replace hx535_1:=(HB.out.cell (World.block_lt_of_cell? w _ hx535_1)).trans hx535_1
    replace hx535_2:=(HB.out.cell (World.block_lt_of_cell? w _ hx535_2)).trans hx535_2
    replace hx535_3:=(HB.out.cell (World.block_lt_of_cell? w _ hx535_3)).trans hx535_3
    replace hx535_4:=(HB.out.cell (World.block_lt_of_cell? w _ hx535_4)).trans hx535_4
    have HR535_4:=ak hi535_4
    have HC535_4:=ak hl535_4
    clear hi535_4 hl535_4
    replace p535:=eq_true p535
    replace q535:=eq_true q535
    try go_wp2_with (first | ((with_reducible refine gate_callee (f:=44) rfl ?_);refine Hd.gl_ 55 Try.func44 #[.slice A535_4 ((rd_T34 l0 x5_1).f4).length c535_4,.int .i64 (wrap64 ((wrap64 ((wrap64 ((wrap64 (x1_1 + 1)) + 1)) + 1)) + 1))] ?_;(with_reducible refine (laws_heldPointS.calls k1 _ _ ((rd_T34 l0 x5_1).f4) (wrap64 ((wrap64 ((wrap64 ((wrap64 (x1_1 + 1)) + 1)) + 1)) + 1)) t536 _ ?side1 ?side2 A10.out).mono ?_);(case side1 => exact z1_ HR535_4);(case side2 => exact HC535_4.out);rintro e w' ⟨rfl,⟨nd,rfl⟩⟩;refine ⟨_,rfl,?_⟩))
    go_ret
    exact ⟨Hd.e_,Hd.b_⟩
   rw [if_neg c11] at H
   have c11b0:=decide_eq_false c11
   clear c11
   have H':=ak H
   clear H
   have p530 : 0 ≤ (x5_1 : Int):=of_decide_eq_true Hd.a_
   have q530 : x5_1 < (l0.length : Int):=of_decide_eq_true Hd.a_
   obtain ⟨ad530,A530_4,c530_4,e530,hx530_0,hx530_1,hx530_2,hx530_3,hx530_4,hl530_4,hi530_4⟩:=at_T34 HR0.out x5_1 p530 q530
   cases e530
   replace hx530_0:=z53_
   replace hx530_1:=z54_
   replace hx530_2:=z55_
   replace hx530_3:=z56_
   replace hx530_4:=z57_
   have HR530_4:=ak hi530_4
   have HC530_4:=ak hl530_4
   clear hi530_4 hl530_4
   replace p530:=eq_true p530
   replace q530:=eq_true q530
   have p531 : 0 ≤ (x5_1 : Int):=of_decide_eq_true Hd.a_
   have q531 : x5_1 < (l0.length : Int):=of_decide_eq_true Hd.a_
   obtain ⟨ad531,A531_4,c531_4,e531,hx531_0,hx531_1,hx531_2,hx531_3,hx531_4,hl531_4,hi531_4⟩:=at_T34 HR0.out x5_1 p531 q531
   obtain rfl : ad530 = ad531:=(by injection e531)
   replace hx531_0:=z65_
   replace hx531_1:=z66_
   replace hx531_2:=z67_
   replace hx531_3:=z68_
   replace hx531_4:=z69_
   have HR531_4:=ak hi531_4
   have HC531_4:=ak hl531_4
   clear hi531_4 hl531_4
   replace p531:=eq_true p531
   replace q531:=eq_true q531
   have ea_:=Option.some.inj (hx530_4.symm.trans hx531_4)
   injection ea_ with ea_ en_ ec_
   subst ea_
   subst ec_
   clear en_
   have p532 : 0 ≤ (x5_1 : Int):=of_decide_eq_true Hd.a_
   have q532 : x5_1 < (l0.length : Int):=of_decide_eq_true Hd.a_
   obtain ⟨ad532,A532_4,c532_4,e532,hx532_0,hx532_1,hx532_2,hx532_3,hx532_4,hl532_4,hi532_4⟩:=at_T34 HR0.out x5_1 p532 q532
   obtain rfl : ad530 = ad532:=(by injection e532)
   replace hx532_0:=(HB.out.cell (World.block_lt_of_cell? w _ hx532_0)).trans hx532_0
   replace hx532_1:=(HB.out.cell (World.block_lt_of_cell? w _ hx532_1)).trans hx532_1
   replace hx532_2:=(HB.out.cell (World.block_lt_of_cell? w _ hx532_2)).trans hx532_2
   replace hx532_3:=(HB.out.cell (World.block_lt_of_cell? w _ hx532_3)).trans hx532_3
   replace hx532_4:=(HB.out.cell (World.block_lt_of_cell? w _ hx532_4)).trans hx532_4
   have HR532_4:=ak hi532_4
   have HC532_4:=ak hl532_4
   clear hi532_4 hl532_4
   replace p532:=eq_true p532
   replace q532:=eq_true q532
   have ea_:=Option.some.inj (hx530_4.symm.trans hx532_4)
   injection ea_ with ea_ en_ ec_
   subst ea_
   subst ec_
   clear en_
   try go_wp2
   replace HB:=ak (below_drew1 HB.out)
   have p533 : 0 ≤ (x5_1 : Int):=of_decide_eq_true Hd.a_
   have q533 : x5_1 < (l0.length : Int):=of_decide_eq_true Hd.a_
   obtain ⟨ad533,A533_4,c533_4,e533,hx533_0,hx533_1,hx533_2,hx533_3,hx533_4,hl533_4,hi533_4⟩:=at_T34 HR0.out x5_1 p533 q533
   have hw533_4:=hx533_4
   have hw533_3:=hx533_3
   have hw533_2:=hx533_2
   have hw533_1:=hx533_1
   have hw533_0:=hx533_0
   obtain rfl : ad530 = ad533:=(by injection e533)
   replace hx533_0:=(HB.out.cell (World.block_lt_of_cell? w _ hx533_0)).trans hx533_0
   replace hx533_1:=(HB.out.cell (World.block_lt_of_cell? w _ hx533_1)).trans hx533_1
   replace hx533_2:=(HB.out.cell (World.block_lt_of_cell? w _ hx533_2)).trans hx533_2
   replace hx533_3:=(HB.out.cell (World.block_lt_of_cell? w _ hx533_3)).trans hx533_3
   replace hx533_4:=(HB.out.cell (World.block_lt_of_cell? w _ hx533_4)).trans hx533_4
   have HR533_4:=ak hi533_4
   have HC533_4:=ak hl533_4
   clear hi533_4 hl533_4
   replace p533:=eq_true p533
   replace q533:=eq_true q533
   refine start_ (n:=8) (S:=fun w' => w'.cell? (ad530.add ((x5_1).toNat * 5)) = some (.int .i64 ((rd_T34 l0 x5_1).f0)) ∧ w'.cell? ⟨(ad530.add ((x5_1).toNat * 5)).block,(ad530.add ((x5_1).toNat * 5)).off + 1,none⟩ = some (.int .i64 ((rd_T34 l0 x5_1).f1)) ∧ w'.cell? ⟨(ad530.add ((x5_1).toNat * 5)).block,(ad530.add ((x5_1).toNat * 5)).off + 2,none⟩ = some (.int .i64 ((rd_T34 l0 x5_1).f2)) ∧ w'.cell? ⟨(ad530.add ((x5_1).toNat * 5)).block,(ad530.add ((x5_1).toNat * 5)).off + 3,none⟩ = some (.string ((rd_T34 l0 x5_1).f3)) ∧ w'.cell? ⟨(ad530.add ((x5_1).toNat * 5)).block,(ad530.add ((x5_1).toNat * 5)).off + 4,none⟩ = some (.slice A533_4 ((rd_T34 l0 x5_1).f4).length c533_4)) (ds:=[]) #[N_,N_,N_,N_,N_,N_,N_,N_] (by kernel_rfl) rfl rfl ⟨((HB.out.cell (World.block_lt_of_cell? w _ hw533_0)).trans hw533_0),((HB.out.cell (World.block_lt_of_cell? w _ hw533_1)).trans hw533_1),((HB.out.cell (World.block_lt_of_cell? w _ hw533_2)).trans hw533_2),((HB.out.cell (World.block_lt_of_cell? w _ hw533_3)).trans hw533_3),((HB.out.cell (World.block_lt_of_cell? w _ hw533_4)).trans hw533_4)⟩ (fun hHeld => ?_);refine with_tabW laws_heldFeatureS.tab13 laws_heldFeatureS.bits13 (fun HT_ HW_ => ?_)
   generalize wr.drew = w14 at HB HR533_4 hx533_0 hx533_1 hx533_2 hx533_3 hx533_4 hHeld ⊢
   refine Hd.p_ HT_ 0 (some 39) #[Y_,N_,N_,N_,N_,N_,N_,N_] ?_
   refine Hd.p_ HT_ 1 (some 40) #[Y_,Y_,N_,N_,N_,N_,N_,N_] ?_
   refine Hd.p_ HT_ 2 (some 41) #[Y_,Y_,Y_,N_,N_,N_,N_,N_] ?_
   refine Hd.p_ HT_ 3 (some 42) #[Y_,Y_,Y_,Y_,N_,N_,N_,N_] ?_
   refine Hd.p_ HT_ 5 (some 44) #[Y_,Y_,Y_,Y_,N_,Y_,N_,N_] ?_
   refine Hd.t_ HT_ HW_ hHeld 4 (some 43) #[Y_,Y_,Y_,Y_,Y_,Y_,N_,N_] ?_
   refine Hd.o_ HT_ 6 (some 45) #[Y_,Y_,Y_,Y_,Y_,Y_,Y_,N_] (fun K hK => ?_)
   refine goes_ Try.func42 (by kernel_rfl) rfl #[.int .i64 (wrap64 ((wrap64 ((wrap64 (x1_1 + 1)) + 1)) + 1))] (by rfl) rfl rfl Hd.m_ ?_
   with_reducible refine (laws_markText.calls k1 (wrap64 ((wrap64 ((wrap64 (x1_1 + 1)) + 1)) + 1)) t534 _ A8.out).mono ?_
   rintro e w15 ⟨rfl,hb⟩
   refine ⟨_,rfl,?_⟩
   replace HB:=ak (below_step Hd.b_ hb)
   try clear hb;try clear hb2;try clear hk;try clear hi
   refine hK.out _ _ ⟨((HB.out.cell (World.block_lt_of_cell? w _ hw533_0)).trans hw533_0),((HB.out.cell (World.block_lt_of_cell? w _ hw533_1)).trans hw533_1),((HB.out.cell (World.block_lt_of_cell? w _ hw533_2)).trans hw533_2),((HB.out.cell (World.block_lt_of_cell? w _ hw533_3)).trans hw533_3),((HB.out.cell (World.block_lt_of_cell? w _ hw533_4)).trans hw533_4)⟩ (fun hHeld => ?_)
   clear hK K
   refine Hd.n_ (some 45) ?_
   refine Hd.p_ HT_ 7 (some 46) #[Y_,Y_,Y_,Y_,Y_,Y_,Y_,Y_] ?_
   refine done_ (done_of HT_.out (by kernel_rfl)) ?_
   have p535 : 0 ≤ (x5_1 : Int):=of_decide_eq_true Hd.a_
   have q535 : x5_1 < (l0.length : Int):=of_decide_eq_true Hd.a_
   obtain ⟨ad535,A535_4,c535_4,e535,hx535_0,hx535_1,hx535_2,hx535_3,hx535_4,hl535_4,hi535_4⟩:=at_T34 HR0.out x5_1 p535 q535
   obtain rfl : ad530 = ad535:=(by injection e535)
   obtain ⟨rfl,rfl⟩ : A535_4 = A533_4 ∧ c535_4 = c533_4:=by have h_:=hx535_4.symm.trans hw533_4;injection h_ with h_;injection h_ with h1_ _ h2_;exact ⟨h1_,h2_⟩
   replace hx535_0:=(HB.out.cell (World.block_lt_of_cell? w _ hx535_0)).trans hx535_0
   replace hx535_1:=(HB.out.cell (World.block_lt_of_cell? w _ hx535_1)).trans hx535_1
   replace hx535_2:=(HB.out.cell (World.block_lt_of_cell? w _ hx535_2)).trans hx535_2
   replace hx535_3:=(HB.out.cell (World.block_lt_of_cell? w _ hx535_3)).trans hx535_3
   replace hx535_4:=(HB.out.cell (World.block_lt_of_cell? w _ hx535_4)).trans hx535_4
   have HR535_4:=ak hi535_4
   have HC535_4:=ak hl535_4
   clear hi535_4 hl535_4
   replace p535:=eq_true p535
   replace q535:=eq_true q535
   try go_wp2_with (first | ((with_reducible refine gate_callee (f:=44) rfl ?_);refine Hd.gl_ 55 Try.func44 #[.slice A535_4 ((rd_T34 l0 x5_1).f4).length c535_4,.int .i64 (wrap64 ((wrap64 ((wrap64 ((wrap64 (x1_1 + 1)) + 1)) + 1)) + 1))] ?_;(with_reducible refine (laws_heldPointS.calls k1 _ _ ((rd_T34 l0 x5_1).f4) (wrap64 ((wrap64 ((wrap64 ((wrap64 (x1_1 + 1)) + 1)) + 1)) + 1)) t536 _ ?side1 ?side2 A10.out).mono ?_);(case side1 => exact z1_ HR535_4);(case side2 => exact HC535_4.out);rintro e w' ⟨rfl,⟨nd,rfl⟩⟩;refine ⟨_,rfl,?_⟩))
   go_roundg k1
   case measure => have:=HK1.out;omega
   case rel => exact ⟨(t536),(wrap64 (x5_1 + 1)),z2_,z2_,H',⟨by have:=HK1.out;omega⟩,⟨Hd.b_⟩⟩
end Go.Proofs.Ytbbdhlggnglfgaa.MFnExactPutFeature
