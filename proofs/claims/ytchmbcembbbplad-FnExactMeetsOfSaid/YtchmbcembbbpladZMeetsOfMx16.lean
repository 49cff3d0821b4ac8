-- Laid by this session's program pp.py, after the kit's print and texts of the session's own. Not trusted: Lean checks it.
import Derived.Test.YtchmbcembbbpladZMeetsOfMx0
import Derived.Test.YtchmbcembbbpladZMeetsOfMx14
import Derived.Test.YtchmbcembbbpladZMeetsOfMx15
namespace Go.Proofs.Ytchmbcembbbplad.MFnExactMeetsOf
open Go.RowKit Go.Proofs.YtchmbcembbbpladW.PrintWords Go.Proofs.YtchmbcembbbpladW.PrintLast Go.Proofs.YtchmbcembbbpladW.PrintMore
attribute [local go_sem] max2_int min2_int max_two min_two max_three min_three max_four min_four   -- for this text's walks alone
set_option linter.unusedVariables false
set_option linter.unusedSimpArgs false
def spec_IsSource.l0 : Nat → List (S37) → Int → Option (Bool)
 | 0,_,_ => none
 | k + 1,x0,x3 => if x3 < (x0.length : Int) then (if 0 ≤ x3 then ((spec_IsFeature.f k ((rd_T37 x0 x3).f0) ((rd_T37 x0 x3).f1) ((rd_T37 x0 x3).f2) ((rd_T37 x0 x3).f3) ((rd_T37 x0 x3).f4)).bind fun t436 => (if t436 = true then (if x3 > 0 then (if 0 ≤ (wrap64 (x3 - 1)) then (if (wrap64 (x3 - 1)) < (x0.length : Int) then (if ((rd_T37 x0 (wrap64 (x3 - 1))).f0) ≥ ((rd_T37 x0 x3).f0) then (some false) else (spec_IsSource.l0 k x0 (wrap64 (x3 + 1)))) else (none)) else (none)) else (spec_IsSource.l0 k x0 (wrap64 (x3 + 1)))) else (some false))) else (none)) else (some (decide ((x0.length : Int) ≤ 16)))
def spec_IsSource.f (k : Nat) (l0 : List (S37)) : Option (Bool):=spec_IsSource.l0 k l0 0
def spec_IsSource.T4 : Bool × List (List Nat × List Nat):=(true,[([],[]),([],[]),([0,1],[0,1]),([2],[2]),([3],[3]),([4],[4]),([5,4],[5]),([6],[6]),([7,6],[6,7]),([8,6,6],[6,8]),([9],[9]),([9],[9]),([11,9],[9,11]),([10,12,9],[9,10,12]),([13,9],[9,13]),([14,9],[9,14]),([9],[9]),([9],[9]),([16,17,9],[9,16,17]),([18,9],[9,18]),([19,9],[9,19]),([15,20,9],[9,15,20]),([9,21,6],[6,9,21]),([6,22],[6,22])])
def spec_IsSource.B4 : List Nat:=[0,0,3,7,15,31,63,127,255,511,1023,1023,3071,8191,16383,32767,1023,1023,197631,459775,984063,2097151,4194303,8388607]
theorem spec_IsSource.tab4 : rtab .any (opsOf Try.f40 4) = spec_IsSource.T4:=by kernel_rfl
theorem spec_IsSource.bits4 : waitsOk spec_IsSource.T4.2 spec_IsSource.B4 = true:=by kernel_rfl
set_option maxHeartbeats 8000000 in
set_option maxRecDepth 100000 in
theorem spec_IsSource.calls (k : Nat) (A0 : Option Addr) (c0 : Nat) (l0 : List (S37)) (r : Bool) (w : World) (hr0 : Kd.C k37 w A0 l0.length l0) (hc0 : l0.length ≤ c0) (h : spec_IsSource.f k l0 = some r) :
  Calls Try.prog 40 #[.slice A0 l0.length c0] w fun e w' => e = .returned (.bool r) ∧ Below w.heap.size w w':=by
 have hu37:=Try.underlying37
 have HR0:=Aside0.mk hr0
 have HC0:=Aside0.mk hc0
 clear hr0 hc0
 have HB:=Aside0.mk (Below.refl w.heap.size w)
 have H : (spec_IsSource.l0 k l0 0) = some r:=h
 clear h
 have H':=Aside0.mk H
 clear H
 go_enter Try.func40,Try.ntmps40
 go_wp2
 go_loopg [3] k (fun kq v3 w' => ∃ (x3_1 : Int),v3 = .int .i64 x3_1 ∧ Aside0 (spec_IsSource.l0 kq l0 x3_1 = some r) ∧ Aside0 (kq ≤ k) ∧ Aside0 (Below w.heap.size w w'))
 case atStart => exact ⟨(0),(by first | rfl | (simp;done) | (simp [*];done)),H',⟨Nat.le_refl _⟩,⟨Hd.b_⟩⟩
 case round =>
  clear H'
  obtain ⟨x3_1,rfl,HA,HK1,HB⟩:=hrel
  cases gk with
  | zero => exact absurd HA.out (by simp [spec_IsSource.l0])
  | succ k1 =>
   have H:=HA.out
   clear HA
   simp only [spec_IsSource.l0] at H
   by_cases c2 : x3_1 < (l0.length : Int)
   ·
    rw [if_pos c2] at H
    have c2b0 : decide (x3_1 < (l0.length : Int)) = true:=decide_eq_true c2
    clear c2
    by_cases c3 : 0 ≤ x3_1
    ·
     rw [if_pos c3] at H
     have c3b0 : decide (0 ≤ x3_1) = true:=decide_eq_true c3
     clear c3
     replace H:=Option.bind_eq_some_iff.mp H
     obtain ⟨t436,A40,H⟩:=H
     replace H : (if t436 = true then (if x3_1 > 0 then (if 0 ≤ (wrap64 (x3_1 - 1)) then (if (wrap64 (x3_1 - 1)) < (l0.length : Int) then (if ((rd_T37 l0 (wrap64 (x3_1 - 1))).f0) ≥ ((rd_T37 l0 x3_1).f0) then (some false) else (spec_IsSource.l0 k1 l0 (wrap64 (x3_1 + 1)))) else (none)) else (none)) else (spec_IsSource.l0 k1 l0 (wrap64 (x3_1 + 1)))) else (some false)) = some r:=H
     have A4:=Aside0.mk A40
     clear A40
     by_cases c5 : t436 = true
     ·
      subst c5
      have H1 : (if x3_1 > 0 then (if 0 ≤ (wrap64 (x3_1 - 1)) then (if (wrap64 (x3_1 - 1)) < (l0.length : Int) then (if ((rd_T37 l0 (wrap64 (x3_1 - 1))).f0) ≥ ((rd_T37 l0 x3_1).f0) then (some false) else (spec_IsSource.l0 k1 l0 (wrap64 (x3_1 + 1)))) else (none)) else (none)) else (spec_IsSource.l0 k1 l0 (wrap64 (x3_1 + 1)))) = some r:=by rw [if_pos rfl] at H;exact H
      clear H
      have H:=H1
      clear H1
      by_cases c6 : x3_1 > 0
      ·
       rw [if_pos c6] at H
       have c6b0 : decide (0 < x3_1) = true:=decide_eq_true c6
       clear c6
       obtain ⟨ji7,hji7⟩ : ∃ j_ : Int,(wrap64 (x3_1 - 1)) = j_:=⟨_,rfl⟩
       replace H : (if 0 ≤ (ji7) then (if (ji7) < (l0.length : Int) then (if ((rd_T37 l0 (ji7)).f0) ≥ ((rd_T37 l0 x3_1).f0) then (some false) else (spec_IsSource.l0 k1 l0 (wrap64 (x3_1 + 1)))) else (none)) else (none)) = some r:=by first | (rw [hji7] at H;exact H) | (simp only [hji7] at H ⊢;exact H)
       (try rw [hji7] at A4)
       have hji7w : (IntKind.i64.wrap (x3_1 - 1)) = ji7:=(i64_w _).trans hji7
       by_cases c8 : 0 ≤ (ji7)
       ·
        rw [if_pos c8] at H
        have c8b0 : decide (0 ≤ (ji7)) = true:=decide_eq_true c8
        clear c8
        by_cases c9 : (ji7) < (l0.length : Int)
        ·
         rw [if_pos c9] at H
         have c9b0 : decide ((ji7) < (l0.length : Int)) = true:=decide_eq_true c9
         clear c9
         by_cases c10 : ((rd_T37 l0 (ji7)).f0) ≥ ((rd_T37 l0 x3_1).f0)
         ·
          rw [if_pos c10] at H
          have c10b0 : decide (((rd_T37 l0 x3_1).f0) ≤ ((rd_T37 l0 (ji7)).f0)) = true:=decide_eq_true c10
          clear c10
          obtain rfl:=Option.some.inj H
          try go_wp2
          replace HB:=Aside0.mk (below_drew1 HB.out)
          have p435 : 0 ≤ (x3_1 : Int):=of_decide_eq_true Hd.a_
          have q435 : x3_1 < (l0.length : Int):=of_decide_eq_true Hd.a_
          obtain ⟨ad435,A435_4,c435_4,e435,hx435_0,hx435_1,hx435_2,hx435_3,hx435_4,hl435_4,hi435_4⟩:=at_T37 HR0.out x3_1 p435 q435
          have hw435_4:=hx435_4
          have hw435_3:=hx435_3
          have hw435_2:=hx435_2
          have hw435_1:=hx435_1
          have hw435_0:=hx435_0
          cases e435
          replace hx435_0:=(HB.out.cell (World.block_lt_of_cell? w _ hx435_0)).trans hx435_0
          replace hx435_1:=(HB.out.cell (World.block_lt_of_cell? w _ hx435_1)).trans hx435_1
          replace hx435_2:=(HB.out.cell (World.block_lt_of_cell? w _ hx435_2)).trans hx435_2
          replace hx435_3:=(HB.out.cell (World.block_lt_of_cell? w _ hx435_3)).trans hx435_3
          replace hx435_4:=(HB.out.cell (World.block_lt_of_cell? w _ hx435_4)).trans hx435_4
          have HR435_4:=Aside0.mk hi435_4
          have HC435_4:=Aside0.mk hl435_4
          clear hi435_4 hl435_4
          replace p435:=eq_true p435
          replace q435:=eq_true q435
          have p437 : 0 ≤ ((ji7) : Int):=of_decide_eq_true Hd.a_
          have q437 : (ji7) < (l0.length : Int):=of_decide_eq_true Hd.a_
          obtain ⟨ad437,A437_4,c437_4,e437,hx437_0,hx437_1,hx437_2,hx437_3,hx437_4,hl437_4,hi437_4⟩:=at_T37 HR0.out (ji7) p437 q437
          have hw437_4:=hx437_4
          have hw437_3:=hx437_3
          have hw437_2:=hx437_2
          have hw437_1:=hx437_1
          have hw437_0:=hx437_0
          obtain rfl : ad435 = ad437:=(by injection e437)
          replace hx437_0:=(HB.out.cell (World.block_lt_of_cell? w _ hx437_0)).trans hx437_0
          replace hx437_1:=(HB.out.cell (World.block_lt_of_cell? w _ hx437_1)).trans hx437_1
          replace hx437_2:=(HB.out.cell (World.block_lt_of_cell? w _ hx437_2)).trans hx437_2
          replace hx437_3:=(HB.out.cell (World.block_lt_of_cell? w _ hx437_3)).trans hx437_3
          replace hx437_4:=(HB.out.cell (World.block_lt_of_cell? w _ hx437_4)).trans hx437_4
          have HR437_4:=Aside0.mk hi437_4
          have HC437_4:=Aside0.mk hl437_4
          clear hi437_4 hl437_4
          replace p437:=eq_true p437
          replace q437:=eq_true q437
          have p438 : 0 ≤ (x3_1 : Int):=of_decide_eq_true Hd.a_
          have q438 : x3_1 < (l0.length : Int):=of_decide_eq_true Hd.a_
          obtain ⟨ad438,A438_4,c438_4,e438,hx438_0,hx438_1,hx438_2,hx438_3,hx438_4,hl438_4,hi438_4⟩:=at_T37 HR0.out x3_1 p438 q438
          have hw438_4:=hx438_4
          have hw438_3:=hx438_3
          have hw438_2:=hx438_2
          have hw438_1:=hx438_1
          have hw438_0:=hx438_0
          obtain rfl : ad435 = ad438:=(by injection e438)
          replace hx438_0:=(HB.out.cell (World.block_lt_of_cell? w _ hx438_0)).trans hx438_0
          replace hx438_1:=(HB.out.cell (World.block_lt_of_cell? w _ hx438_1)).trans hx438_1
          replace hx438_2:=(HB.out.cell (World.block_lt_of_cell? w _ hx438_2)).trans hx438_2
          replace hx438_3:=(HB.out.cell (World.block_lt_of_cell? w _ hx438_3)).trans hx438_3
          replace hx438_4:=(HB.out.cell (World.block_lt_of_cell? w _ hx438_4)).trans hx438_4
          have HR438_4:=Aside0.mk hi438_4
          have HC438_4:=Aside0.mk hl438_4
          clear hi438_4 hl438_4
          replace p438:=eq_true p438
          replace q438:=eq_true q438
          refine start_ (n:=24) (S:=fun w' => w'.cell? (ad435.add ((x3_1).toNat * 5)) = some (.int .i64 ((rd_T37 l0 x3_1).f0)) ∧ w'.cell? ⟨(ad435.add ((x3_1).toNat * 5)).block,(ad435.add ((x3_1).toNat * 5)).off + 1,none⟩ = some (.int .i64 ((rd_T37 l0 x3_1).f1)) ∧ w'.cell? ⟨(ad435.add ((x3_1).toNat * 5)).block,(ad435.add ((x3_1).toNat * 5)).off + 2,none⟩ = some (.int .i64 ((rd_T37 l0 x3_1).f2)) ∧ w'.cell? ⟨(ad435.add ((x3_1).toNat * 5)).block,(ad435.add ((x3_1).toNat * 5)).off + 3,none⟩ = some (.string ((rd_T37 l0 x3_1).f3)) ∧ w'.cell? ⟨(ad435.add ((x3_1).toNat * 5)).block,(ad435.add ((x3_1).toNat * 5)).off + 4,none⟩ = some (.slice A435_4 ((rd_T37 l0 x3_1).f4).length c435_4) ∧ w'.cell? (ad435.add (((ji7)).toNat * 5)) = some (.int .i64 ((rd_T37 l0 (ji7)).f0)) ∧ w'.cell? ⟨(ad435.add (((ji7)).toNat * 5)).block,(ad435.add (((ji7)).toNat * 5)).off + 1,none⟩ = some (.int .i64 ((rd_T37 l0 (ji7)).f1)) ∧ w'.cell? ⟨(ad435.add (((ji7)).toNat * 5)).block,(ad435.add (((ji7)).toNat * 5)).off + 2,none⟩ = some (.int .i64 ((rd_T37 l0 (ji7)).f2)) ∧ w'.cell? ⟨(ad435.add (((ji7)).toNat * 5)).block,(ad435.add (((ji7)).toNat * 5)).off + 3,none⟩ = some (.string ((rd_T37 l0 (ji7)).f3)) ∧ w'.cell? ⟨(ad435.add (((ji7)).toNat * 5)).block,(ad435.add (((ji7)).toNat * 5)).off + 4,none⟩ = some (.slice A437_4 ((rd_T37 l0 (ji7)).f4).length c437_4) ∧ w'.cell? (ad435.add ((x3_1).toNat * 5)) = some (.int .i64 ((rd_T37 l0 x3_1).f0)) ∧ w'.cell? ⟨(ad435.add ((x3_1).toNat * 5)).block,(ad435.add ((x3_1).toNat * 5)).off + 1,none⟩ = some (.int .i64 ((rd_T37 l0 x3_1).f1)) ∧ w'.cell? ⟨(ad435.add ((x3_1).toNat * 5)).block,(ad435.add ((x3_1).toNat * 5)).off + 2,none⟩ = some (.int .i64 ((rd_T37 l0 x3_1).f2)) ∧ w'.cell? ⟨(ad435.add ((x3_1).toNat * 5)).block,(ad435.add ((x3_1).toNat * 5)).off + 3,none⟩ = some (.string ((rd_T37 l0 x3_1).f3)) ∧ w'.cell? ⟨(ad435.add ((x3_1).toNat * 5)).block,(ad435.add ((x3_1).toNat * 5)).off + 4,none⟩ = some (.slice A438_4 ((rd_T37 l0 x3_1).f4).length c438_4)) (ds:=[]) #[false,false,false,false,false,false,false,false,false,false,false,false,false,false,false,false,false,false,false,false,false,false,false,false] (by kernel_rfl) rfl rfl ⟨((HB.out.cell (World.block_lt_of_cell? w _ hw435_0)).trans hw435_0),((HB.out.cell (World.block_lt_of_cell? w _ hw435_1)).trans hw435_1),((HB.out.cell (World.block_lt_of_cell? w _ hw435_2)).trans hw435_2),((HB.out.cell (World.block_lt_of_cell? w _ hw435_3)).trans hw435_3),((HB.out.cell (World.block_lt_of_cell? w _ hw435_4)).trans hw435_4),((HB.out.cell (World.block_lt_of_cell? w _ hw437_0)).trans hw437_0),((HB.out.cell (World.block_lt_of_cell? w _ hw437_1)).trans hw437_1),((HB.out.cell (World.block_lt_of_cell? w _ hw437_2)).trans hw437_2),((HB.out.cell (World.block_lt_of_cell? w _ hw437_3)).trans hw437_3),((HB.out.cell (World.block_lt_of_cell? w _ hw437_4)).trans hw437_4),((HB.out.cell (World.block_lt_of_cell? w _ hw438_0)).trans hw438_0),((HB.out.cell (World.block_lt_of_cell? w _ hw438_1)).trans hw438_1),((HB.out.cell (World.block_lt_of_cell? w _ hw438_2)).trans hw438_2),((HB.out.cell (World.block_lt_of_cell? w _ hw438_3)).trans hw438_3),((HB.out.cell (World.block_lt_of_cell? w _ hw438_4)).trans hw438_4)⟩ (fun hHeld => ?_);refine with_tabW spec_IsSource.tab4 spec_IsSource.bits4 (fun HT_ HW_ => ?_)
          generalize wr.drew = w11 at HB HR435_4 HR437_4 HR438_4 hx435_0 hx435_1 hx435_2 hx435_3 hx435_4 hx437_0 hx437_1 hx437_2 hx437_3 hx437_4 hx438_0 hx438_1 hx438_2 hx438_3 hx438_4 hHeld ⊢
          refine Hd.p_ HT_ 0 (some 10) #[true,false,false,false,false,false,false,false,false,false,false,false,false,false,false,false,false,false,false,false,false,false,false,false] ?_
          refine Hd.p_ HT_ 1 (some 11) #[true,true,false,false,false,false,false,false,false,false,false,false,false,false,false,false,false,false,false,false,false,false,false,false] ?_
          refine Hd.p_ HT_ 2 (some 12) #[true,true,true,false,false,false,false,false,false,false,false,false,false,false,false,false,false,false,false,false,false,false,false,false] ?_
          refine Hd.t_ HT_ HW_ hHeld 3 (some 13) #[true,true,true,true,false,false,false,false,false,false,false,false,false,false,false,false,false,false,false,false,false,false,false,false] ?_
          refine Hd.o_ HT_ 4 (some 14) #[true,true,true,true,true,false,false,false,false,false,false,false,false,false,false,false,false,false,false,false,false,false,false,false] (fun K hK => ?_)
          refine goes_ Try.func68 (by kernel_rfl) rfl #[.agg #[.int .i64 ((rd_T37 l0 x3_1).f0),.int .i64 ((rd_T37 l0 x3_1).f1),.int .i64 ((rd_T37 l0 x3_1).f2),.string ((rd_T37 l0 x3_1).f3),.slice A435_4 ((rd_T37 l0 x3_1).f4).length c435_4]] (by rfl) rfl rfl Hd.m_ ?_
          with_reducible refine (spec_IsFeature.calls k1 ((rd_T37 l0 x3_1).f0) ((rd_T37 l0 x3_1).f1) ((rd_T37 l0 x3_1).f2) ((rd_T37 l0 x3_1).f3) _ _ ((rd_T37 l0 x3_1).f4) true _ ?side1 ?side2 A4.out).mono ?_
          (case side1 => repeat (first | exact (Kd.C_below HR435_4.out HB.out) | (with_reducible refine Kd.C_alloc ?_ _) | (with_reducible refine Kd.C_drewN ?_ _) | (with_reducible refine Kd.C_drew ?_)))
          (case side2 => exact HC435_4.out)
          rintro e w12 ⟨rfl,hb⟩
          refine ⟨_,rfl,?_⟩
          replace HB:=Aside0.mk (below_step Hd.b_ hb)
          (try clear hb)
          (try clear hb2)
          (try clear hk)
          (try clear hi)
          refine hK.out _ _ ⟨((HB.out.cell (World.block_lt_of_cell? w _ hw435_0)).trans hw435_0),((HB.out.cell (World.block_lt_of_cell? w _ hw435_1)).trans hw435_1),((HB.out.cell (World.block_lt_of_cell? w _ hw435_2)).trans hw435_2),((HB.out.cell (World.block_lt_of_cell? w _ hw435_3)).trans hw435_3),((HB.out.cell (World.block_lt_of_cell? w _ hw435_4)).trans hw435_4),((HB.out.cell (World.block_lt_of_cell? w _ hw437_0)).trans hw437_0),((HB.out.cell (World.block_lt_of_cell? w _ hw437_1)).trans hw437_1),((HB.out.cell (World.block_lt_of_cell? w _ hw437_2)).trans hw437_2),((HB.out.cell (World.block_lt_of_cell? w _ hw437_3)).trans hw437_3),((HB.out.cell (World.block_lt_of_cell? w _ hw437_4)).trans hw437_4),((HB.out.cell (World.block_lt_of_cell? w _ hw438_0)).trans hw438_0),((HB.out.cell (World.block_lt_of_cell? w _ hw438_1)).trans hw438_1),((HB.out.cell (World.block_lt_of_cell? w _ hw438_2)).trans hw438_2),((HB.out.cell (World.block_lt_of_cell? w _ hw438_3)).trans hw438_3),((HB.out.cell (World.block_lt_of_cell? w _ hw438_4)).trans hw438_4)⟩ (fun hHeld => ?_)
          clear hK K
          refine Hd.n_ (some 14) ?_
          refine Hd.p_ HT_ 5 (some 15) #[true,true,true,true,true,true,false,false,false,false,false,false,false,false,false,false,false,false,false,false,false,false,false,false] ?_
          refine Hd.p_ HT_ 6 (some 16) #[true,true,true,true,true,true,true,false,false,false,false,false,false,false,false,false,false,false,false,false,false,false,false,false] ?_
          refine Hd.p_ HT_ 7 (some 17) #[true,true,true,true,true,true,true,true,false,false,false,false,false,false,false,false,false,false,false,false,false,false,false,false] ?_
          refine Hd.p_ HT_ 8 (some 18) #[true,true,true,true,true,true,true,true,true,false,false,false,false,false,false,false,false,false,false,false,false,false,false,false] ?_
          refine Hd.p_ HT_ 9 (some 19) #[true,true,true,true,true,true,true,true,true,true,false,false,false,false,false,false,false,false,false,false,false,false,false,false] ?_
          refine Hd.p_ HT_ 10 (some 20) #[true,true,true,true,true,true,true,true,true,true,true,false,false,false,false,false,false,false,false,false,false,false,false,false] ?_
          refine Hd.p_ HT_ 11 (some 21) #[true,true,true,true,true,true,true,true,true,true,true,true,false,false,false,false,false,false,false,false,false,false,false,false] ?_
          refine Hd.p_ HT_ 12 (some 22) #[true,true,true,true,true,true,true,true,true,true,true,true,true,false,false,false,false,false,false,false,false,false,false,false] ?_
          refine Hd.p_ HT_ 13 (some 23) #[true,true,true,true,true,true,true,true,true,true,true,true,true,true,false,false,false,false,false,false,false,false,false,false] ?_
          refine Hd.p_ HT_ 14 (some 24) #[true,true,true,true,true,true,true,true,true,true,true,true,true,true,true,false,false,false,false,false,false,false,false,false] ?_
          refine Hd.p_ HT_ 16 (some 26) #[true,true,true,true,true,true,true,true,true,true,true,true,true,true,true,false,true,false,false,false,false,false,false,false] ?_
          refine Hd.p_ HT_ 17 (some 27) #[true,true,true,true,true,true,true,true,true,true,true,true,true,true,true,false,true,true,false,false,false,false,false,false] ?_
          refine Hd.p_ HT_ 18 (some 28) #[true,true,true,true,true,true,true,true,true,true,true,true,true,true,true,false,true,true,true,false,false,false,false,false] ?_
          refine Hd.p_ HT_ 19 (some 29) #[true,true,true,true,true,true,true,true,true,true,true,true,true,true,true,false,true,true,true,true,false,false,false,false] ?_
          refine Hd.t_ HT_ HW_ hHeld 15 (some 25) #[true,true,true,true,true,true,true,true,true,true,true,true,true,true,true,true,true,true,true,true,false,false,false,false] ?_
          refine Hd.t_ HT_ HW_ hHeld 20 (some 30) #[true,true,true,true,true,true,true,true,true,true,true,true,true,true,true,true,true,true,true,true,true,false,false,false] ?_
          refine Hd.p_ HT_ 21 (some 31) #[true,true,true,true,true,true,true,true,true,true,true,true,true,true,true,true,true,true,true,true,true,true,false,false] ?_
          refine Hd.p_ HT_ 22 (some 32) #[true,true,true,true,true,true,true,true,true,true,true,true,true,true,true,true,true,true,true,true,true,true,true,false] ?_
          refine Hd.p_ HT_ 23 (some 33) #[true,true,true,true,true,true,true,true,true,true,true,true,true,true,true,true,true,true,true,true,true,true,true,true] ?_
          refine done_ (done_of HT_.out (by kernel_rfl)) ?_
          try go_wp2
          go_ret
          exact ⟨by first | rfl | (simp [errW_none,errW_some] <;> rfl) | (simp only [← hji7];first | rfl | (simp [errW_none,errW_some] <;> rfl)) | (simp [*,errW_none,errW_some] <;> rfl),Hd.b_⟩
         ·
          rw [if_neg c10] at H
          have c10b0 : decide (((rd_T37 l0 x3_1).f0) ≤ ((rd_T37 l0 (ji7)).f0)) = false:=decide_eq_false c10
          clear c10
          have H':=Aside0.mk H
          clear H
          try go_wp2
          replace HB:=Aside0.mk (below_drew1 HB.out)
          have p435 : 0 ≤ (x3_1 : Int):=of_decide_eq_true Hd.a_
          have q435 : x3_1 < (l0.length : Int):=of_decide_eq_true Hd.a_
          obtain ⟨ad435,A435_4,c435_4,e435,hx435_0,hx435_1,hx435_2,hx435_3,hx435_4,hl435_4,hi435_4⟩:=at_T37 HR0.out x3_1 p435 q435
          have hw435_4:=hx435_4
          have hw435_3:=hx435_3
          have hw435_2:=hx435_2
          have hw435_1:=hx435_1
          have hw435_0:=hx435_0
          cases e435
          replace hx435_0:=(HB.out.cell (World.block_lt_of_cell? w _ hx435_0)).trans hx435_0
          replace hx435_1:=(HB.out.cell (World.block_lt_of_cell? w _ hx435_1)).trans hx435_1
          replace hx435_2:=(HB.out.cell (World.block_lt_of_cell? w _ hx435_2)).trans hx435_2
          replace hx435_3:=(HB.out.cell (World.block_lt_of_cell? w _ hx435_3)).trans hx435_3
          replace hx435_4:=(HB.out.cell (World.block_lt_of_cell? w _ hx435_4)).trans hx435_4
          have HR435_4:=Aside0.mk hi435_4
          have HC435_4:=Aside0.mk hl435_4
          clear hi435_4 hl435_4
          replace p435:=eq_true p435
          replace q435:=eq_true q435
          have p437 : 0 ≤ ((ji7) : Int):=of_decide_eq_true Hd.a_
          have q437 : (ji7) < (l0.length : Int):=of_decide_eq_true Hd.a_
          obtain ⟨ad437,A437_4,c437_4,e437,hx437_0,hx437_1,hx437_2,hx437_3,hx437_4,hl437_4,hi437_4⟩:=at_T37 HR0.out (ji7) p437 q437
          have hw437_4:=hx437_4
          have hw437_3:=hx437_3
          have hw437_2:=hx437_2
          have hw437_1:=hx437_1
          have hw437_0:=hx437_0
          obtain rfl : ad435 = ad437:=(by injection e437)
          replace hx437_0:=(HB.out.cell (World.block_lt_of_cell? w _ hx437_0)).trans hx437_0
          replace hx437_1:=(HB.out.cell (World.block_lt_of_cell? w _ hx437_1)).trans hx437_1
          replace hx437_2:=(HB.out.cell (World.block_lt_of_cell? w _ hx437_2)).trans hx437_2
          replace hx437_3:=(HB.out.cell (World.block_lt_of_cell? w _ hx437_3)).trans hx437_3
          replace hx437_4:=(HB.out.cell (World.block_lt_of_cell? w _ hx437_4)).trans hx437_4
          have HR437_4:=Aside0.mk hi437_4
          have HC437_4:=Aside0.mk hl437_4
          clear hi437_4 hl437_4
          replace p437:=eq_true p437
          replace q437:=eq_true q437
          have p438 : 0 ≤ (x3_1 : Int):=of_decide_eq_true Hd.a_
          have q438 : x3_1 < (l0.length : Int):=of_decide_eq_true Hd.a_
          obtain ⟨ad438,A438_4,c438_4,e438,hx438_0,hx438_1,hx438_2,hx438_3,hx438_4,hl438_4,hi438_4⟩:=at_T37 HR0.out x3_1 p438 q438
          have hw438_4:=hx438_4
          have hw438_3:=hx438_3
          have hw438_2:=hx438_2
          have hw438_1:=hx438_1
          have hw438_0:=hx438_0
          obtain rfl : ad435 = ad438:=(by injection e438)
          replace hx438_0:=(HB.out.cell (World.block_lt_of_cell? w _ hx438_0)).trans hx438_0
          replace hx438_1:=(HB.out.cell (World.block_lt_of_cell? w _ hx438_1)).trans hx438_1
          replace hx438_2:=(HB.out.cell (World.block_lt_of_cell? w _ hx438_2)).trans hx438_2
          replace hx438_3:=(HB.out.cell (World.block_lt_of_cell? w _ hx438_3)).trans hx438_3
          replace hx438_4:=(HB.out.cell (World.block_lt_of_cell? w _ hx438_4)).trans hx438_4
          have HR438_4:=Aside0.mk hi438_4
          have HC438_4:=Aside0.mk hl438_4
          clear hi438_4 hl438_4
          replace p438:=eq_true p438
          replace q438:=eq_true q438
          refine start_ (n:=24) (S:=fun w' => w'.cell? (ad435.add ((x3_1).toNat * 5)) = some (.int .i64 ((rd_T37 l0 x3_1).f0)) ∧ w'.cell? ⟨(ad435.add ((x3_1).toNat * 5)).block,(ad435.add ((x3_1).toNat * 5)).off + 1,none⟩ = some (.int .i64 ((rd_T37 l0 x3_1).f1)) ∧ w'.cell? ⟨(ad435.add ((x3_1).toNat * 5)).block,(ad435.add ((x3_1).toNat * 5)).off + 2,none⟩ = some (.int .i64 ((rd_T37 l0 x3_1).f2)) ∧ w'.cell? ⟨(ad435.add ((x3_1).toNat * 5)).block,(ad435.add ((x3_1).toNat * 5)).off + 3,none⟩ = some (.string ((rd_T37 l0 x3_1).f3)) ∧ w'.cell? ⟨(ad435.add ((x3_1).toNat * 5)).block,(ad435.add ((x3_1).toNat * 5)).off + 4,none⟩ = some (.slice A435_4 ((rd_T37 l0 x3_1).f4).length c435_4) ∧ w'.cell? (ad435.add (((ji7)).toNat * 5)) = some (.int .i64 ((rd_T37 l0 (ji7)).f0)) ∧ w'.cell? ⟨(ad435.add (((ji7)).toNat * 5)).block,(ad435.add (((ji7)).toNat * 5)).off + 1,none⟩ = some (.int .i64 ((rd_T37 l0 (ji7)).f1)) ∧ w'.cell? ⟨(ad435.add (((ji7)).toNat * 5)).block,(ad435.add (((ji7)).toNat * 5)).off + 2,none⟩ = some (.int .i64 ((rd_T37 l0 (ji7)).f2)) ∧ w'.cell? ⟨(ad435.add (((ji7)).toNat * 5)).block,(ad435.add (((ji7)).toNat * 5)).off + 3,none⟩ = some (.string ((rd_T37 l0 (ji7)).f3)) ∧ w'.cell? ⟨(ad435.add (((ji7)).toNat * 5)).block,(ad435.add (((ji7)).toNat * 5)).off + 4,none⟩ = some (.slice A437_4 ((rd_T37 l0 (ji7)).f4).length c437_4) ∧ w'.cell? (ad435.add ((x3_1).toNat * 5)) = some (.int .i64 ((rd_T37 l0 x3_1).f0)) ∧ w'.cell? ⟨(ad435.add ((x3_1).toNat * 5)).block,(ad435.add ((x3_1).toNat * 5)).off + 1,none⟩ = some (.int .i64 ((rd_T37 l0 x3_1).f1)) ∧ w'.cell? ⟨(ad435.add ((x3_1).toNat * 5)).block,(ad435.add ((x3_1).toNat * 5)).off + 2,none⟩ = some (.int .i64 ((rd_T37 l0 x3_1).f2)) ∧ w'.cell? ⟨(ad435.add ((x3_1).toNat * 5)).block,(ad435.add ((x3_1).toNat * 5)).off + 3,none⟩ = some (.string ((rd_T37 l0 x3_1).f3)) ∧ w'.cell? ⟨(ad435.add ((x3_1).toNat * 5)).block,(ad435.add ((x3_1).toNat * 5)).off + 4,none⟩ = some (.slice A438_4 ((rd_T37 l0 x3_1).f4).length c438_4)) (ds:=[]) #[false,false,false,false,false,false,false,false,false,false,false,false,false,false,false,false,false,false,false,false,false,false,false,false] (by kernel_rfl) rfl rfl ⟨((HB.out.cell (World.block_lt_of_cell? w _ hw435_0)).trans hw435_0),((HB.out.cell (World.block_lt_of_cell? w _ hw435_1)).trans hw435_1),((HB.out.cell (World.block_lt_of_cell? w _ hw435_2)).trans hw435_2),((HB.out.cell (World.block_lt_of_cell? w _ hw435_3)).trans hw435_3),((HB.out.cell (World.block_lt_of_cell? w _ hw435_4)).trans hw435_4),((HB.out.cell (World.block_lt_of_cell? w _ hw437_0)).trans hw437_0),((HB.out.cell (World.block_lt_of_cell? w _ hw437_1)).trans hw437_1),((HB.out.cell (World.block_lt_of_cell? w _ hw437_2)).trans hw437_2),((HB.out.cell (World.block_lt_of_cell? w _ hw437_3)).trans hw437_3),((HB.out.cell (World.block_lt_of_cell? w _ hw437_4)).trans hw437_4),((HB.out.cell (World.block_lt_of_cell? w _ hw438_0)).trans hw438_0),((HB.out.cell (World.block_lt_of_cell? w _ hw438_1)).trans hw438_1),((HB.out.cell (World.block_lt_of_cell? w _ hw438_2)).trans hw438_2),((HB.out.cell (World.block_lt_of_cell? w _ hw438_3)).trans hw438_3),((HB.out.cell (World.block_lt_of_cell? w _ hw438_4)).trans hw438_4)⟩ (fun hHeld => ?_);refine with_tabW spec_IsSource.tab4 spec_IsSource.bits4 (fun HT_ HW_ => ?_)
          generalize wr.drew = w13 at HB HR435_4 HR437_4 HR438_4 hx435_0 hx435_1 hx435_2 hx435_3 hx435_4 hx437_0 hx437_1 hx437_2 hx437_3 hx437_4 hx438_0 hx438_1 hx438_2 hx438_3 hx438_4 hHeld ⊢
          refine Hd.p_ HT_ 0 (some 10) #[true,false,false,false,false,false,false,false,false,false,false,false,false,false,false,false,false,false,false,false,false,false,false,false] ?_
          refine Hd.p_ HT_ 1 (some 11) #[true,true,false,false,false,false,false,false,false,false,false,false,false,false,false,false,false,false,false,false,false,false,false,false] ?_
          refine Hd.p_ HT_ 2 (some 12) #[true,true,true,false,false,false,false,false,false,false,false,false,false,false,false,false,false,false,false,false,false,false,false,false] ?_
          refine Hd.t_ HT_ HW_ hHeld 3 (some 13) #[true,true,true,true,false,false,false,false,false,false,false,false,false,false,false,false,false,false,false,false,false,false,false,false] ?_
          refine Hd.o_ HT_ 4 (some 14) #[true,true,true,true,true,false,false,false,false,false,false,false,false,false,false,false,false,false,false,false,false,false,false,false] (fun K hK => ?_)
          refine goes_ Try.func68 (by kernel_rfl) rfl #[.agg #[.int .i64 ((rd_T37 l0 x3_1).f0),.int .i64 ((rd_T37 l0 x3_1).f1),.int .i64 ((rd_T37 l0 x3_1).f2),.string ((rd_T37 l0 x3_1).f3),.slice A435_4 ((rd_T37 l0 x3_1).f4).length c435_4]] (by rfl) rfl rfl Hd.m_ ?_
          with_reducible refine (spec_IsFeature.calls k1 ((rd_T37 l0 x3_1).f0) ((rd_T37 l0 x3_1).f1) ((rd_T37 l0 x3_1).f2) ((rd_T37 l0 x3_1).f3) _ _ ((rd_T37 l0 x3_1).f4) true _ ?side1 ?side2 A4.out).mono ?_
          (case side1 => repeat (first | exact (Kd.C_below HR435_4.out HB.out) | (with_reducible refine Kd.C_alloc ?_ _) | (with_reducible refine Kd.C_drewN ?_ _) | (with_reducible refine Kd.C_drew ?_)))
          (case side2 => exact HC435_4.out)
          rintro e w14 ⟨rfl,hb⟩
          refine ⟨_,rfl,?_⟩
          replace HB:=Aside0.mk (below_step Hd.b_ hb)
          (try clear hb)
          (try clear hb2)
          (try clear hk)
          (try clear hi)
          refine hK.out _ _ ⟨((HB.out.cell (World.block_lt_of_cell? w _ hw435_0)).trans hw435_0),((HB.out.cell (World.block_lt_of_cell? w _ hw435_1)).trans hw435_1),((HB.out.cell (World.block_lt_of_cell? w _ hw435_2)).trans hw435_2),((HB.out.cell (World.block_lt_of_cell? w _ hw435_3)).trans hw435_3),((HB.out.cell (World.block_lt_of_cell? w _ hw435_4)).trans hw435_4),((HB.out.cell (World.block_lt_of_cell? w _ hw437_0)).trans hw437_0),((HB.out.cell (World.block_lt_of_cell? w _ hw437_1)).trans hw437_1),((HB.out.cell (World.block_lt_of_cell? w _ hw437_2)).trans hw437_2),((HB.out.cell (World.block_lt_of_cell? w _ hw437_3)).trans hw437_3),((HB.out.cell (World.block_lt_of_cell? w _ hw437_4)).trans hw437_4),((HB.out.cell (World.block_lt_of_cell? w _ hw438_0)).trans hw438_0),((HB.out.cell (World.block_lt_of_cell? w _ hw438_1)).trans hw438_1),((HB.out.cell (World.block_lt_of_cell? w _ hw438_2)).trans hw438_2),((HB.out.cell (World.block_lt_of_cell? w _ hw438_3)).trans hw438_3),((HB.out.cell (World.block_lt_of_cell? w _ hw438_4)).trans hw438_4)⟩ (fun hHeld => ?_)
          clear hK K
          refine Hd.n_ (some 14) ?_
          refine Hd.p_ HT_ 5 (some 15) #[true,true,true,true,true,true,false,false,false,false,false,false,false,false,false,false,false,false,false,false,false,false,false,false] ?_
          refine Hd.p_ HT_ 6 (some 16) #[true,true,true,true,true,true,true,false,false,false,false,false,false,false,false,false,false,false,false,false,false,false,false,false] ?_
          refine Hd.p_ HT_ 7 (some 17) #[true,true,true,true,true,true,true,true,false,false,false,false,false,false,false,false,false,false,false,false,false,false,false,false] ?_
          refine Hd.p_ HT_ 8 (some 18) #[true,true,true,true,true,true,true,true,true,false,false,false,false,false,false,false,false,false,false,false,false,false,false,false] ?_
          refine Hd.p_ HT_ 9 (some 19) #[true,true,true,true,true,true,true,true,true,true,false,false,false,false,false,false,false,false,false,false,false,false,false,false] ?_
          refine Hd.p_ HT_ 10 (some 20) #[true,true,true,true,true,true,true,true,true,true,true,false,false,false,false,false,false,false,false,false,false,false,false,false] ?_
          refine Hd.p_ HT_ 11 (some 21) #[true,true,true,true,true,true,true,true,true,true,true,true,false,false,false,false,false,false,false,false,false,false,false,false] ?_
          refine Hd.p_ HT_ 12 (some 22) #[true,true,true,true,true,true,true,true,true,true,true,true,true,false,false,false,false,false,false,false,false,false,false,false] ?_
          refine Hd.p_ HT_ 13 (some 23) #[true,true,true,true,true,true,true,true,true,true,true,true,true,true,false,false,false,false,false,false,false,false,false,false] ?_
          refine Hd.p_ HT_ 14 (some 24) #[true,true,true,true,true,true,true,true,true,true,true,true,true,true,true,false,false,false,false,false,false,false,false,false] ?_
          refine Hd.p_ HT_ 16 (some 26) #[true,true,true,true,true,true,true,true,true,true,true,true,true,true,true,false,true,false,false,false,false,false,false,false] ?_
          refine Hd.p_ HT_ 17 (some 27) #[true,true,true,true,true,true,true,true,true,true,true,true,true,true,true,false,true,true,false,false,false,false,false,false] ?_
          refine Hd.p_ HT_ 18 (some 28) #[true,true,true,true,true,true,true,true,true,true,true,true,true,true,true,false,true,true,true,false,false,false,false,false] ?_
          refine Hd.p_ HT_ 19 (some 29) #[true,true,true,true,true,true,true,true,true,true,true,true,true,true,true,false,true,true,true,true,false,false,false,false] ?_
          refine Hd.t_ HT_ HW_ hHeld 15 (some 25) #[true,true,true,true,true,true,true,true,true,true,true,true,true,true,true,true,true,true,true,true,false,false,false,false] ?_
          refine Hd.t_ HT_ HW_ hHeld 20 (some 30) #[true,true,true,true,true,true,true,true,true,true,true,true,true,true,true,true,true,true,true,true,true,false,false,false] ?_
          refine Hd.p_ HT_ 21 (some 31) #[true,true,true,true,true,true,true,true,true,true,true,true,true,true,true,true,true,true,true,true,true,true,false,false] ?_
          refine Hd.p_ HT_ 22 (some 32) #[true,true,true,true,true,true,true,true,true,true,true,true,true,true,true,true,true,true,true,true,true,true,true,false] ?_
          refine Hd.p_ HT_ 23 (some 33) #[true,true,true,true,true,true,true,true,true,true,true,true,true,true,true,true,true,true,true,true,true,true,true,true] ?_
          refine done_ (done_of HT_.out (by kernel_rfl)) ?_
          try go_wp2
          go_roundg k1
          case measure => have:=HK1.out;omega
          case rel => exact ⟨(wrap64 (x3_1 + 1)),(by first | rfl | (simp;done) | (simp [*];done)),H',⟨by have:=HK1.out;omega⟩,⟨Hd.b_⟩⟩
        ·
         rw [if_neg c9] at H
         exact absurd H (by simp)
       ·
        rw [if_neg c8] at H
        exact absurd H (by simp)
      ·
       rw [if_neg c6] at H
       have c6b0 : decide (0 < x3_1) = false:=decide_eq_false c6
       clear c6
       have H':=Aside0.mk H
       clear H
       try go_wp2
       replace HB:=Aside0.mk (below_drew1 HB.out)
       have p435 : 0 ≤ (x3_1 : Int):=of_decide_eq_true Hd.a_
       have q435 : x3_1 < (l0.length : Int):=of_decide_eq_true Hd.a_
       obtain ⟨ad435,A435_4,c435_4,e435,hx435_0,hx435_1,hx435_2,hx435_3,hx435_4,hl435_4,hi435_4⟩:=at_T37 HR0.out x3_1 p435 q435
       have hw435_4:=hx435_4
       have hw435_3:=hx435_3
       have hw435_2:=hx435_2
       have hw435_1:=hx435_1
       have hw435_0:=hx435_0
       cases e435
       replace hx435_0:=(HB.out.cell (World.block_lt_of_cell? w _ hx435_0)).trans hx435_0
       replace hx435_1:=(HB.out.cell (World.block_lt_of_cell? w _ hx435_1)).trans hx435_1
       replace hx435_2:=(HB.out.cell (World.block_lt_of_cell? w _ hx435_2)).trans hx435_2
       replace hx435_3:=(HB.out.cell (World.block_lt_of_cell? w _ hx435_3)).trans hx435_3
       replace hx435_4:=(HB.out.cell (World.block_lt_of_cell? w _ hx435_4)).trans hx435_4
       have HR435_4:=Aside0.mk hi435_4
       have HC435_4:=Aside0.mk hl435_4
       clear hi435_4 hl435_4
       replace p435:=eq_true p435
       replace q435:=eq_true q435
       refine start_ (n:=24) (S:=fun w' => w'.cell? (ad435.add ((x3_1).toNat * 5)) = some (.int .i64 ((rd_T37 l0 x3_1).f0)) ∧ w'.cell? ⟨(ad435.add ((x3_1).toNat * 5)).block,(ad435.add ((x3_1).toNat * 5)).off + 1,none⟩ = some (.int .i64 ((rd_T37 l0 x3_1).f1)) ∧ w'.cell? ⟨(ad435.add ((x3_1).toNat * 5)).block,(ad435.add ((x3_1).toNat * 5)).off + 2,none⟩ = some (.int .i64 ((rd_T37 l0 x3_1).f2)) ∧ w'.cell? ⟨(ad435.add ((x3_1).toNat * 5)).block,(ad435.add ((x3_1).toNat * 5)).off + 3,none⟩ = some (.string ((rd_T37 l0 x3_1).f3)) ∧ w'.cell? ⟨(ad435.add ((x3_1).toNat * 5)).block,(ad435.add ((x3_1).toNat * 5)).off + 4,none⟩ = some (.slice A435_4 ((rd_T37 l0 x3_1).f4).length c435_4)) (ds:=[]) #[false,false,false,false,false,false,false,false,false,false,false,false,false,false,false,false,false,false,false,false,false,false,false,false] (by kernel_rfl) rfl rfl ⟨((HB.out.cell (World.block_lt_of_cell? w _ hw435_0)).trans hw435_0),((HB.out.cell (World.block_lt_of_cell? w _ hw435_1)).trans hw435_1),((HB.out.cell (World.block_lt_of_cell? w _ hw435_2)).trans hw435_2),((HB.out.cell (World.block_lt_of_cell? w _ hw435_3)).trans hw435_3),((HB.out.cell (World.block_lt_of_cell? w _ hw435_4)).trans hw435_4)⟩ (fun hHeld => ?_);refine with_tabW spec_IsSource.tab4 spec_IsSource.bits4 (fun HT_ HW_ => ?_)
       generalize wr.drew = w15 at HB HR435_4 hx435_0 hx435_1 hx435_2 hx435_3 hx435_4 hHeld ⊢
       refine Hd.p_ HT_ 0 (some 10) #[true,false,false,false,false,false,false,false,false,false,false,false,false,false,false,false,false,false,false,false,false,false,false,false] ?_
       refine Hd.p_ HT_ 1 (some 11) #[true,true,false,false,false,false,false,false,false,false,false,false,false,false,false,false,false,false,false,false,false,false,false,false] ?_
       refine Hd.p_ HT_ 2 (some 12) #[true,true,true,false,false,false,false,false,false,false,false,false,false,false,false,false,false,false,false,false,false,false,false,false] ?_
       refine Hd.t_ HT_ HW_ hHeld 3 (some 13) #[true,true,true,true,false,false,false,false,false,false,false,false,false,false,false,false,false,false,false,false,false,false,false,false] ?_
       refine Hd.o_ HT_ 4 (some 14) #[true,true,true,true,true,false,false,false,false,false,false,false,false,false,false,false,false,false,false,false,false,false,false,false] (fun K hK => ?_)
       refine goes_ Try.func68 (by kernel_rfl) rfl #[.agg #[.int .i64 ((rd_T37 l0 x3_1).f0),.int .i64 ((rd_T37 l0 x3_1).f1),.int .i64 ((rd_T37 l0 x3_1).f2),.string ((rd_T37 l0 x3_1).f3),.slice A435_4 ((rd_T37 l0 x3_1).f4).length c435_4]] (by rfl) rfl rfl Hd.m_ ?_
       with_reducible refine (spec_IsFeature.calls k1 ((rd_T37 l0 x3_1).f0) ((rd_T37 l0 x3_1).f1) ((rd_T37 l0 x3_1).f2) ((rd_T37 l0 x3_1).f3) _ _ ((rd_T37 l0 x3_1).f4) true _ ?side1 ?side2 A4.out).mono ?_
       (case side1 => repeat (first | exact (Kd.C_below HR435_4.out HB.out) | (with_reducible refine Kd.C_alloc ?_ _) | (with_reducible refine Kd.C_drewN ?_ _) | (with_reducible refine Kd.C_drew ?_)))
       (case side2 => exact HC435_4.out)
       rintro e w16 ⟨rfl,hb⟩
       refine ⟨_,rfl,?_⟩
       replace HB:=Aside0.mk (below_step Hd.b_ hb)
       (try clear hb)
       (try clear hb2)
       (try clear hk)
       (try clear hi)
       refine hK.out _ _ ⟨((HB.out.cell (World.block_lt_of_cell? w _ hw435_0)).trans hw435_0),((HB.out.cell (World.block_lt_of_cell? w _ hw435_1)).trans hw435_1),((HB.out.cell (World.block_lt_of_cell? w _ hw435_2)).trans hw435_2),((HB.out.cell (World.block_lt_of_cell? w _ hw435_3)).trans hw435_3),((HB.out.cell (World.block_lt_of_cell? w _ hw435_4)).trans hw435_4)⟩ (fun hHeld => ?_)
       clear hK K
       refine Hd.n_ (some 14) ?_
       refine Hd.p_ HT_ 5 (some 15) #[true,true,true,true,true,true,false,false,false,false,false,false,false,false,false,false,false,false,false,false,false,false,false,false] ?_
       refine Hd.p_ HT_ 6 (some 16) #[true,true,true,true,true,true,true,false,false,false,false,false,false,false,false,false,false,false,false,false,false,false,false,false] ?_
       refine Hd.p_ HT_ 7 (some 17) #[true,true,true,true,true,true,true,true,false,false,false,false,false,false,false,false,false,false,false,false,false,false,false,false] ?_
       refine Hd.p_ HT_ 8 (some 18) #[true,true,true,true,true,true,true,true,true,false,false,false,false,false,false,false,false,false,false,false,false,false,false,false] ?_
       refine Hd.p_ HT_ 9 (some 19) #[true,true,true,true,true,true,true,true,true,true,false,false,false,false,false,false,false,false,false,false,false,false,false,false] ?_
       refine pure_ (i:=10) (N:=some 20) (v:=undef) (a':=?_) #[true,true,true,true,true,true,true,true,true,true,true,false,false,false,false,false,false,false,false,false,false,false,false,false] rfl rfl (any_of HT_.out (by kernel_rfl)) (fun _ _ _ h => h) (Or.inr ⟨by rfl,rfl⟩) ?_ ?_
       rotate_left
       ·
        simp only [Act.put,List.setIfInBounds_toArray,List.set_cons_zero,List.set_cons_succ,i64_w,i32_w]
        rfl
       refine pure_ (i:=11) (N:=some 21) (v:=undef) (a':=?_) #[true,true,true,true,true,true,true,true,true,true,true,true,false,false,false,false,false,false,false,false,false,false,false,false] rfl rfl (any_of HT_.out (by kernel_rfl)) (fun _ _ _ h => h) (Or.inr ⟨by rfl,rfl⟩) ?_ ?_
       rotate_left
       ·
        simp only [Act.put,List.setIfInBounds_toArray,List.set_cons_zero,List.set_cons_succ,i64_w,i32_w]
        rfl
       refine pure_ (i:=12) (N:=some 22) (v:=undef) (a':=?_) #[true,true,true,true,true,true,true,true,true,true,true,true,true,false,false,false,false,false,false,false,false,false,false,false] rfl rfl (any_of HT_.out (by kernel_rfl)) (fun _ _ _ h => h) (Or.inr ⟨by rfl,rfl⟩) ?_ ?_
       rotate_left
       ·
        simp only [Act.put,List.setIfInBounds_toArray,List.set_cons_zero,List.set_cons_succ,i64_w,i32_w]
        rfl
       refine pure_ (i:=13) (N:=some 23) (v:=undef) (a':=?_) #[true,true,true,true,true,true,true,true,true,true,true,true,true,true,false,false,false,false,false,false,false,false,false,false] rfl rfl (any_of HT_.out (by kernel_rfl)) (fun _ _ _ h => h) (Or.inr ⟨by rfl,rfl⟩) ?_ ?_
       rotate_left
       ·
        simp only [Act.put,List.setIfInBounds_toArray,List.set_cons_zero,List.set_cons_succ,i64_w,i32_w]
        rfl
       refine pure_ (i:=14) (N:=some 24) (v:=undef) (a':=?_) #[true,true,true,true,true,true,true,true,true,true,true,true,true,true,true,false,false,false,false,false,false,false,false,false] rfl rfl (any_of HT_.out (by kernel_rfl)) (fun _ _ _ h => h) (Or.inr ⟨by rfl,rfl⟩) ?_ ?_
       rotate_left
       ·
        simp only [Act.put,List.setIfInBounds_toArray,List.set_cons_zero,List.set_cons_succ,i64_w,i32_w]
        rfl
       refine pure_ (i:=15) (N:=some 25) (v:=undef) (a':=?_) #[true,true,true,true,true,true,true,true,true,true,true,true,true,true,true,true,false,false,false,false,false,false,false,false] rfl rfl (any_of HT_.out (by kernel_rfl)) (fun _ _ _ h => h) (Or.inr ⟨by rfl,rfl⟩) ?_ ?_
       rotate_left
       ·
        simp only [Act.put,List.setIfInBounds_toArray,List.set_cons_zero,List.set_cons_succ,i64_w,i32_w]
        rfl
       refine pure_ (i:=16) (N:=some 26) (v:=undef) (a':=?_) #[true,true,true,true,true,true,true,true,true,true,true,true,true,true,true,true,true,false,false,false,false,false,false,false] rfl rfl (any_of HT_.out (by kernel_rfl)) (fun _ _ _ h => h) (Or.inr ⟨by rfl,rfl⟩) ?_ ?_
       rotate_left
       ·
        simp only [Act.put,List.setIfInBounds_toArray,List.set_cons_zero,List.set_cons_succ,i64_w,i32_w]
        rfl
       refine pure_ (i:=17) (N:=some 27) (v:=undef) (a':=?_) #[true,true,true,true,true,true,true,true,true,true,true,true,true,true,true,true,true,true,false,false,false,false,false,false] rfl rfl (any_of HT_.out (by kernel_rfl)) (fun _ _ _ h => h) (Or.inr ⟨by rfl,rfl⟩) ?_ ?_
       rotate_left
       ·
        simp only [Act.put,List.setIfInBounds_toArray,List.set_cons_zero,List.set_cons_succ,i64_w,i32_w]
        rfl
       refine pure_ (i:=18) (N:=some 28) (v:=undef) (a':=?_) #[true,true,true,true,true,true,true,true,true,true,true,true,true,true,true,true,true,true,true,false,false,false,false,false] rfl rfl (any_of HT_.out (by kernel_rfl)) (fun _ _ _ h => h) (Or.inr ⟨by rfl,rfl⟩) ?_ ?_
       rotate_left
       ·
        simp only [Act.put,List.setIfInBounds_toArray,List.set_cons_zero,List.set_cons_succ,i64_w,i32_w]
        rfl
       refine pure_ (i:=19) (N:=some 29) (v:=undef) (a':=?_) #[true,true,true,true,true,true,true,true,true,true,true,true,true,true,true,true,true,true,true,true,false,false,false,false] rfl rfl (any_of HT_.out (by kernel_rfl)) (fun _ _ _ h => h) (Or.inr ⟨by rfl,rfl⟩) ?_ ?_
       rotate_left
       ·
        simp only [Act.put,List.setIfInBounds_toArray,List.set_cons_zero,List.set_cons_succ,i64_w,i32_w]
        rfl
       refine pure_ (i:=20) (N:=some 30) (v:=undef) (a':=?_) #[true,true,true,true,true,true,true,true,true,true,true,true,true,true,true,true,true,true,true,true,true,false,false,false] rfl rfl (any_of HT_.out (by kernel_rfl)) (fun _ _ _ h => h) (Or.inr ⟨by rfl,rfl⟩) ?_ ?_
       rotate_left
       ·
        simp only [Act.put,List.setIfInBounds_toArray,List.set_cons_zero,List.set_cons_succ,i64_w,i32_w]
        rfl
       refine pure_ (i:=21) (N:=some 31) (v:=undef) (a':=?_) #[true,true,true,true,true,true,true,true,true,true,true,true,true,true,true,true,true,true,true,true,true,true,false,false] rfl rfl (any_of HT_.out (by kernel_rfl)) (fun _ _ _ h => h) (Or.inr ⟨by rfl,rfl⟩) ?_ ?_
       rotate_left
       ·
        simp only [Act.put,List.setIfInBounds_toArray,List.set_cons_zero,List.set_cons_succ,i64_w,i32_w]
        rfl
       refine Hd.p_ HT_ 22 (some 32) #[true,true,true,true,true,true,true,true,true,true,true,true,true,true,true,true,true,true,true,true,true,true,true,false] ?_
       refine Hd.p_ HT_ 23 (some 33) #[true,true,true,true,true,true,true,true,true,true,true,true,true,true,true,true,true,true,true,true,true,true,true,true] ?_
       refine done_ (done_of HT_.out (by kernel_rfl)) ?_
       try go_wp2
       go_roundg k1
       case measure => have:=HK1.out;omega
       case rel => exact ⟨(wrap64 (x3_1 + 1)),(by first | rfl | (simp;done) | (simp [*];done)),H',⟨by have:=HK1.out;omega⟩,⟨Hd.b_⟩⟩
     ·
      replace c5:=Bool.eq_false_iff.mpr c5
      subst c5
      have H1 : (some false) = some r:=by rw [if_neg (show ¬ (false = true) by decide)] at H;exact H
      clear H
      have H:=H1
      clear H1
      obtain rfl:=Option.some.inj H
      try go_wp2
      replace HB:=Aside0.mk (below_drew1 HB.out)
      have p435 : 0 ≤ (x3_1 : Int):=of_decide_eq_true Hd.a_
      have q435 : x3_1 < (l0.length : Int):=of_decide_eq_true Hd.a_
      obtain ⟨ad435,A435_4,c435_4,e435,hx435_0,hx435_1,hx435_2,hx435_3,hx435_4,hl435_4,hi435_4⟩:=at_T37 HR0.out x3_1 p435 q435
      have hw435_4:=hx435_4
      have hw435_3:=hx435_3
      have hw435_2:=hx435_2
      have hw435_1:=hx435_1
      have hw435_0:=hx435_0
      cases e435
      replace hx435_0:=(HB.out.cell (World.block_lt_of_cell? w _ hx435_0)).trans hx435_0
      replace hx435_1:=(HB.out.cell (World.block_lt_of_cell? w _ hx435_1)).trans hx435_1
      replace hx435_2:=(HB.out.cell (World.block_lt_of_cell? w _ hx435_2)).trans hx435_2
      replace hx435_3:=(HB.out.cell (World.block_lt_of_cell? w _ hx435_3)).trans hx435_3
      replace hx435_4:=(HB.out.cell (World.block_lt_of_cell? w _ hx435_4)).trans hx435_4
      have HR435_4:=Aside0.mk hi435_4
      have HC435_4:=Aside0.mk hl435_4
      clear hi435_4 hl435_4
      replace p435:=eq_true p435
      replace q435:=eq_true q435
      refine start_ (n:=24) (S:=fun w' => w'.cell? (ad435.add ((x3_1).toNat * 5)) = some (.int .i64 ((rd_T37 l0 x3_1).f0)) ∧ w'.cell? ⟨(ad435.add ((x3_1).toNat * 5)).block,(ad435.add ((x3_1).toNat * 5)).off + 1,none⟩ = some (.int .i64 ((rd_T37 l0 x3_1).f1)) ∧ w'.cell? ⟨(ad435.add ((x3_1).toNat * 5)).block,(ad435.add ((x3_1).toNat * 5)).off + 2,none⟩ = some (.int .i64 ((rd_T37 l0 x3_1).f2)) ∧ w'.cell? ⟨(ad435.add ((x3_1).toNat * 5)).block,(ad435.add ((x3_1).toNat * 5)).off + 3,none⟩ = some (.string ((rd_T37 l0 x3_1).f3)) ∧ w'.cell? ⟨(ad435.add ((x3_1).toNat * 5)).block,(ad435.add ((x3_1).toNat * 5)).off + 4,none⟩ = some (.slice A435_4 ((rd_T37 l0 x3_1).f4).length c435_4)) (ds:=[]) #[false,false,false,false,false,false,false,false,false,false,false,false,false,false,false,false,false,false,false,false,false,false,false,false] (by kernel_rfl) rfl rfl ⟨((HB.out.cell (World.block_lt_of_cell? w _ hw435_0)).trans hw435_0),((HB.out.cell (World.block_lt_of_cell? w _ hw435_1)).trans hw435_1),((HB.out.cell (World.block_lt_of_cell? w _ hw435_2)).trans hw435_2),((HB.out.cell (World.block_lt_of_cell? w _ hw435_3)).trans hw435_3),((HB.out.cell (World.block_lt_of_cell? w _ hw435_4)).trans hw435_4)⟩ (fun hHeld => ?_);refine with_tabW spec_IsSource.tab4 spec_IsSource.bits4 (fun HT_ HW_ => ?_)
      generalize wr.drew = w17 at HB HR435_4 hx435_0 hx435_1 hx435_2 hx435_3 hx435_4 hHeld ⊢
      refine Hd.p_ HT_ 0 (some 10) #[true,false,false,false,false,false,false,false,false,false,false,false,false,false,false,false,false,false,false,false,false,false,false,false] ?_
      refine Hd.p_ HT_ 1 (some 11) #[true,true,false,false,false,false,false,false,false,false,false,false,false,false,false,false,false,false,false,false,false,false,false,false] ?_
      refine Hd.p_ HT_ 2 (some 12) #[true,true,true,false,false,false,false,false,false,false,false,false,false,false,false,false,false,false,false,false,false,false,false,false] ?_
      refine Hd.t_ HT_ HW_ hHeld 3 (some 13) #[true,true,true,true,false,false,false,false,false,false,false,false,false,false,false,false,false,false,false,false,false,false,false,false] ?_
      refine Hd.o_ HT_ 4 (some 14) #[true,true,true,true,true,false,false,false,false,false,false,false,false,false,false,false,false,false,false,false,false,false,false,false] (fun K hK => ?_)
      refine goes_ Try.func68 (by kernel_rfl) rfl #[.agg #[.int .i64 ((rd_T37 l0 x3_1).f0),.int .i64 ((rd_T37 l0 x3_1).f1),.int .i64 ((rd_T37 l0 x3_1).f2),.string ((rd_T37 l0 x3_1).f3),.slice A435_4 ((rd_T37 l0 x3_1).f4).length c435_4]] (by rfl) rfl rfl Hd.m_ ?_
      with_reducible refine (spec_IsFeature.calls k1 ((rd_T37 l0 x3_1).f0) ((rd_T37 l0 x3_1).f1) ((rd_T37 l0 x3_1).f2) ((rd_T37 l0 x3_1).f3) _ _ ((rd_T37 l0 x3_1).f4) false _ ?side1 ?side2 A4.out).mono ?_
      (case side1 => repeat (first | exact (Kd.C_below HR435_4.out HB.out) | (with_reducible refine Kd.C_alloc ?_ _) | (with_reducible refine Kd.C_drewN ?_ _) | (with_reducible refine Kd.C_drew ?_)))
      (case side2 => exact HC435_4.out)
      rintro e w18 ⟨rfl,hb⟩
      refine ⟨_,rfl,?_⟩
      replace HB:=Aside0.mk (below_step Hd.b_ hb)
      (try clear hb)
      (try clear hb2)
      (try clear hk)
      (try clear hi)
      refine hK.out _ _ ⟨((HB.out.cell (World.block_lt_of_cell? w _ hw435_0)).trans hw435_0),((HB.out.cell (World.block_lt_of_cell? w _ hw435_1)).trans hw435_1),((HB.out.cell (World.block_lt_of_cell? w _ hw435_2)).trans hw435_2),((HB.out.cell (World.block_lt_of_cell? w _ hw435_3)).trans hw435_3),((HB.out.cell (World.block_lt_of_cell? w _ hw435_4)).trans hw435_4)⟩ (fun hHeld => ?_)
      clear hK K
      refine Hd.n_ (some 14) ?_
      refine Hd.p_ HT_ 5 (some 15) #[true,true,true,true,true,true,false,false,false,false,false,false,false,false,false,false,false,false,false,false,false,false,false,false] ?_
      refine Hd.p_ HT_ 6 (some 16) #[true,true,true,true,true,true,true,false,false,false,false,false,false,false,false,false,false,false,false,false,false,false,false,false] ?_
      refine pure_ (i:=7) (N:=some 17) (v:=undef) (a':=?_) #[true,true,true,true,true,true,true,true,false,false,false,false,false,false,false,false,false,false,false,false,false,false,false,false] rfl rfl (any_of HT_.out (by kernel_rfl)) (fun _ _ _ h => h) (Or.inr ⟨by rfl,rfl⟩) ?_ ?_
      rotate_left
      ·
       simp only [Act.put,List.setIfInBounds_toArray,List.set_cons_zero,List.set_cons_succ,i64_w,i32_w]
       rfl
      refine pure_ (i:=8) (N:=some 18) (v:=undef) (a':=?_) #[true,true,true,true,true,true,true,true,true,false,false,false,false,false,false,false,false,false,false,false,false,false,false,false] rfl rfl (any_of HT_.out (by kernel_rfl)) (fun _ _ _ h => h) (Or.inr ⟨by rfl,rfl⟩) ?_ ?_
      rotate_left
      ·
       simp only [Act.put,List.setIfInBounds_toArray,List.set_cons_zero,List.set_cons_succ,i64_w,i32_w]
       rfl
      refine pure_ (i:=9) (N:=some 19) (v:=undef) (a':=?_) #[true,true,true,true,true,true,true,true,true,true,false,false,false,false,false,false,false,false,false,false,false,false,false,false] rfl rfl (any_of HT_.out (by kernel_rfl)) (fun _ _ _ h => h) (Or.inr ⟨by rfl,rfl⟩) ?_ ?_
      rotate_left
      ·
       simp only [Act.put,List.setIfInBounds_toArray,List.set_cons_zero,List.set_cons_succ,i64_w,i32_w]
       rfl
      refine pure_ (i:=10) (N:=some 20) (v:=undef) (a':=?_) #[true,true,true,true,true,true,true,true,true,true,true,false,false,false,false,false,false,false,false,false,false,false,false,false] rfl rfl (any_of HT_.out (by kernel_rfl)) (fun _ _ _ h => h) (Or.inr ⟨by rfl,rfl⟩) ?_ ?_
      rotate_left
      ·
       simp only [Act.put,List.setIfInBounds_toArray,List.set_cons_zero,List.set_cons_succ,i64_w,i32_w]
       rfl
      refine pure_ (i:=11) (N:=some 21) (v:=undef) (a':=?_) #[true,true,true,true,true,true,true,true,true,true,true,true,false,false,false,false,false,false,false,false,false,false,false,false] rfl rfl (any_of HT_.out (by kernel_rfl)) (fun _ _ _ h => h) (Or.inr ⟨by rfl,rfl⟩) ?_ ?_
      rotate_left
      ·
       simp only [Act.put,List.setIfInBounds_toArray,List.set_cons_zero,List.set_cons_succ,i64_w,i32_w]
       rfl
      refine pure_ (i:=12) (N:=some 22) (v:=undef) (a':=?_) #[true,true,true,true,true,true,true,true,true,true,true,true,true,false,false,false,false,false,false,false,false,false,false,false] rfl rfl (any_of HT_.out (by kernel_rfl)) (fun _ _ _ h => h) (Or.inr ⟨by rfl,rfl⟩) ?_ ?_
      rotate_left
      ·
       simp only [Act.put,List.setIfInBounds_toArray,List.set_cons_zero,List.set_cons_succ,i64_w,i32_w]
       rfl
      refine pure_ (i:=13) (N:=some 23) (v:=undef) (a':=?_) #[true,true,true,true,true,true,true,true,true,true,true,true,true,true,false,false,false,false,false,false,false,false,false,false] rfl rfl (any_of HT_.out (by kernel_rfl)) (fun _ _ _ h => h) (Or.inr ⟨by rfl,rfl⟩) ?_ ?_
      rotate_left
      ·
       simp only [Act.put,List.setIfInBounds_toArray,List.set_cons_zero,List.set_cons_succ,i64_w,i32_w]
       rfl
      refine pure_ (i:=14) (N:=some 24) (v:=undef) (a':=?_) #[true,true,true,true,true,true,true,true,true,true,true,true,true,true,true,false,false,false,false,false,false,false,false,false] rfl rfl (any_of HT_.out (by kernel_rfl)) (fun _ _ _ h => h) (Or.inr ⟨by rfl,rfl⟩) ?_ ?_
      rotate_left
      ·
       simp only [Act.put,List.setIfInBounds_toArray,List.set_cons_zero,List.set_cons_succ,i64_w,i32_w]
       rfl
      refine pure_ (i:=15) (N:=some 25) (v:=undef) (a':=?_) #[true,true,true,true,true,true,true,true,true,true,true,true,true,true,true,true,false,false,false,false,false,false,false,false] rfl rfl (any_of HT_.out (by kernel_rfl)) (fun _ _ _ h => h) (Or.inr ⟨by rfl,rfl⟩) ?_ ?_
      rotate_left
      ·
       simp only [Act.put,List.setIfInBounds_toArray,List.set_cons_zero,List.set_cons_succ,i64_w,i32_w]
       rfl
      refine pure_ (i:=16) (N:=some 26) (v:=undef) (a':=?_) #[true,true,true,true,true,true,true,true,true,true,true,true,true,true,true,true,true,false,false,false,false,false,false,false] rfl rfl (any_of HT_.out (by kernel_rfl)) (fun _ _ _ h => h) (Or.inr ⟨by rfl,rfl⟩) ?_ ?_
      rotate_left
      ·
       simp only [Act.put,List.setIfInBounds_toArray,List.set_cons_zero,List.set_cons_succ,i64_w,i32_w]
       rfl
      refine pure_ (i:=17) (N:=some 27) (v:=undef) (a':=?_) #[true,true,true,true,true,true,true,true,true,true,true,true,true,true,true,true,true,true,false,false,false,false,false,false] rfl rfl (any_of HT_.out (by kernel_rfl)) (fun _ _ _ h => h) (Or.inr ⟨by rfl,rfl⟩) ?_ ?_
      rotate_left
      ·
       simp only [Act.put,List.setIfInBounds_toArray,List.set_cons_zero,List.set_cons_succ,i64_w,i32_w]
       rfl
      refine pure_ (i:=18) (N:=some 28) (v:=undef) (a':=?_) #[true,true,true,true,true,true,true,true,true,true,true,true,true,true,true,true,true,true,true,false,false,false,false,false] rfl rfl (any_of HT_.out (by kernel_rfl)) (fun _ _ _ h => h) (Or.inr ⟨by rfl,rfl⟩) ?_ ?_
      rotate_left
      ·
       simp only [Act.put,List.setIfInBounds_toArray,List.set_cons_zero,List.set_cons_succ,i64_w,i32_w]
       rfl
      refine pure_ (i:=19) (N:=some 29) (v:=undef) (a':=?_) #[true,true,true,true,true,true,true,true,true,true,true,true,true,true,true,true,true,true,true,true,false,false,false,false] rfl rfl (any_of HT_.out (by kernel_rfl)) (fun _ _ _ h => h) (Or.inr ⟨by rfl,rfl⟩) ?_ ?_
      rotate_left
      ·
       simp only [Act.put,List.setIfInBounds_toArray,List.set_cons_zero,List.set_cons_succ,i64_w,i32_w]
       rfl
      refine pure_ (i:=20) (N:=some 30) (v:=undef) (a':=?_) #[true,true,true,true,true,true,true,true,true,true,true,true,true,true,true,true,true,true,true,true,true,false,false,false] rfl rfl (any_of HT_.out (by kernel_rfl)) (fun _ _ _ h => h) (Or.inr ⟨by rfl,rfl⟩) ?_ ?_
      rotate_left
      ·
       simp only [Act.put,List.setIfInBounds_toArray,List.set_cons_zero,List.set_cons_succ,i64_w,i32_w]
       rfl
      refine pure_ (i:=21) (N:=some 31) (v:=undef) (a':=?_) #[true,true,true,true,true,true,true,true,true,true,true,true,true,true,true,true,true,true,true,true,true,true,false,false] rfl rfl (any_of HT_.out (by kernel_rfl)) (fun _ _ _ h => h) (Or.inr ⟨by rfl,rfl⟩) ?_ ?_
      rotate_left
      ·
       simp only [Act.put,List.setIfInBounds_toArray,List.set_cons_zero,List.set_cons_succ,i64_w,i32_w]
       rfl
      refine pure_ (i:=22) (N:=some 32) (v:=undef) (a':=?_) #[true,true,true,true,true,true,true,true,true,true,true,true,true,true,true,true,true,true,true,true,true,true,true,false] rfl rfl (any_of HT_.out (by kernel_rfl)) (fun _ _ _ h => h) (Or.inr ⟨by rfl,rfl⟩) ?_ ?_
      rotate_left
      ·
       simp only [Act.put,List.setIfInBounds_toArray,List.set_cons_zero,List.set_cons_succ,i64_w,i32_w]
       rfl
      refine Hd.p_ HT_ 23 (some 33) #[true,true,true,true,true,true,true,true,true,true,true,true,true,true,true,true,true,true,true,true,true,true,true,true] ?_
      refine done_ (done_of HT_.out (by kernel_rfl)) ?_
      try go_wp2
      go_ret
      exact ⟨Hd.e_,Hd.b_⟩
    ·
     rw [if_neg c3] at H
     exact absurd H (by simp)
   ·
    rw [if_neg c2] at H
    have c2b0 : decide (x3_1 < (l0.length : Int)) = false:=decide_eq_false c2
    clear c2
    obtain rfl:=Option.some.inj H
    go_wp2
    go_ret
    exact ⟨Hd.e_,Hd.b_⟩
def spec_RingSegments.f (k : Nat) (l0 : List (S63)) : Option ((List (S100))):=(spec_IsRing.f k l0).bind fun t439 => (if t439 = true then ((spec_l7Segments.f k l0).bind fun t440 => (some t440)) else (some (([] : List (S100)))))
set_option maxHeartbeats 8000000 in
set_option maxRecDepth 100000 in
theorem spec_RingSegments.calls (k : Nat) (A0 : Option Addr) (c0 : Nat) (l0 : List (S63)) (r : List (S100)) (w : World) (hr0 : Kd.C k63 w A0 l0.length l0) (hc0 : l0.length ≤ c0) (h : spec_RingSegments.f k l0 = some r) :
  Calls Try.prog 114 #[.slice A0 l0.length c0] w fun e w' => ∃ v0_ : Value,e = .returned (v0_) ∧ Kd.R k100 100 w' w.heap.size (fun _ => True) v0_ r ∧ Below w.heap.size w w':=by
 have HR0:=Aside0.mk hr0
 have HC0:=Aside0.mk hc0
 clear hr0 hc0
 have HB:=Aside0.mk (Below.refl w.heap.size w)
 have H : ((spec_IsRing.f k l0).bind fun t439 => (if t439 = true then ((spec_l7Segments.f k l0).bind fun t440 => (some t440)) else (some (([] : List (S100)))))) = some r:=h
 clear h
 replace H:=Option.bind_eq_some_iff.mp H
 obtain ⟨t439,A20,H⟩:=H
 replace H : (if t439 = true then ((spec_l7Segments.f k l0).bind fun t440 => (some t440)) else (some (([] : List (S100))))) = some r:=H
 have A2:=Aside0.mk A20
 clear A20
 by_cases c3 : t439 = true
 ·
  subst c3
  have H1 : ((spec_l7Segments.f k l0).bind fun t440 => (some t440)) = some r:=by rw [if_pos rfl] at H;exact H
  clear H
  have H:=H1
  clear H1
  replace H:=Option.bind_eq_some_iff.mp H
  obtain ⟨t440,A40,H⟩:=H
  replace H : (some t440) = some r:=H
  have A4:=Aside0.mk A40
  clear A40
  obtain rfl:=Option.some.inj H
  go_enter Try.func114,Try.ntmps114
  go_wp2_with (first | ((with_reducible refine gate_callee (f:=99) rfl ?_);refine goesL_ (some 4) rfl rfl Try.func99 (by kernel_rfl) rfl #[.slice A0 l0.length c0] rfl Hd.m_ ?_;(with_reducible refine (spec_IsRing.calls k _ _ l0 true _ ?side1 ?side2 A2.out).mono ?_);(case side1 => repeat (first | exact HR0.out | (with_reducible refine Kd.C_alloc ?_ _) | (with_reducible refine Kd.C_drewN ?_ _) | (with_reducible refine Kd.C_drew ?_)));(case side2 => exact HC0.out);rintro e w5 ⟨rfl,hb⟩;refine ⟨_,rfl,?_⟩;replace HB:=Aside0.mk (below_step Hd.b_ hb);(try clear hb);(try clear hb2);(try clear hk);(try clear hi)) | ((with_reducible refine gate_callee (f:=135) rfl ?_);refine goesL_ (some 8) rfl rfl Try.func135 (by kernel_rfl) rfl #[.slice A0 l0.length c0] rfl Hd.m_ ?_;(with_reducible refine (spec_l7Segments.calls k _ _ l0 t440 _ ?side1 ?side2 A4.out).mono ?_);(case side1 => repeat (first | exact (Kd.C_below HR0.out HB.out) | (with_reducible refine Kd.C_alloc ?_ _) | (with_reducible refine Kd.C_drewN ?_ _) | (with_reducible refine Kd.C_drew ?_)));(case side2 => exact HC0.out);rintro e w6 ⟨v441,rfl,ho0,hb⟩;refine ⟨_,rfl,?_⟩;have HO442:=Aside0.mk (Kd.R_lower ho0 (below_size Hd.b_));replace HB:=Aside0.mk (below_step Hd.b_ hb);(try clear hb);(try clear hb2);(try clear hk);(try clear hi);(try clear ho0)))
  go_ret
  exact ⟨_,Hd.e_,by (with_reducible repeat (first | apply Kd.R_alloc | apply Kd.R_drewN | apply Kd.R_drew));exact HO442.out,Hd.b_⟩
 ·
  replace c3:=Bool.eq_false_iff.mpr c3
  subst c3
  have H1 : (some (([] : List (S100)))) = some r:=by rw [if_neg (show ¬ (false = true) by decide)] at H;exact H
  clear H
  have H:=H1
  clear H1
  obtain ⟨y443,hy443⟩ : ∃ y_ : List (S100),y_ = (([] : List (S100))):=⟨_,rfl⟩
  replace H : (some y443) = some r:=by first | (rw [hy443];with_reducible exact H) | (have H2_:=(Option.bind_some _ _).symm.trans H;rw [hy443];with_reducible exact H2_) | (have H2_:=(Option.bind_some _ _).symm.trans H;with_reducible exact H2_) | with_reducible exact H | (rw [hy443];exact H) | exact H
  have Ny443:=Aside0.mk hy443
  clear hy443
  obtain rfl:=Option.some.inj H
  go_enter Try.func114,Try.ntmps114
  go_wp2_with (first | ((with_reducible refine gate_callee (f:=99) rfl ?_);refine goesL_ (some 4) rfl rfl Try.func99 (by kernel_rfl) rfl #[.slice A0 l0.length c0] rfl Hd.m_ ?_;(with_reducible refine (spec_IsRing.calls k _ _ l0 false _ ?side1 ?side2 A2.out).mono ?_);(case side1 => repeat (first | exact HR0.out | (with_reducible refine Kd.C_alloc ?_ _) | (with_reducible refine Kd.C_drewN ?_ _) | (with_reducible refine Kd.C_drew ?_)));(case side2 => exact HC0.out);rintro e w7 ⟨rfl,hb⟩;refine ⟨_,rfl,?_⟩;replace HB:=Aside0.mk (below_step Hd.b_ hb);(try clear hb);(try clear hb2);(try clear hk);(try clear hi)) | ((with_reducible refine gate_dst (N:=6) rfl ?_);refine Kd.R_lit k100 _ 100 ?hg (N:=6) ?hd (xs:=([] : List (S100))) (inner:=[]) (ok:=fun _ => True) (okp:=fun _ => True) ?hr ?hp (fun _ hk => hk) trivial (Below.refl _ _) (Nat.le_refl _) (by simp) ?_;(case hd => rfl);(case hg => rfl);(case hr => first | (go_simp;done) | (go_simp;rfl));(case hp => exact (Reps.none _ _));intro v444 w8 ho9 hb hg_ hnew_;clear hg_ hnew_;(first | rw [← Ny443.out] at ho9 | (simp only [Int.reduceToNat] at ho9;rw [← Ny443.out] at ho9));have HO445:=Aside0.mk (Kd.R_lower ho9 (below_size Hd.b_));replace HB:=Aside0.mk (below_step Hd.b_ hb);clear hb ho9))
  go_ret
  exact ⟨_,Hd.e_,by (with_reducible repeat (first | apply Kd.R_alloc | apply Kd.R_drewN | apply Kd.R_drew));exact HO445.out,Hd.b_⟩
def spec_PartsOf.f (k : Nat) (a0_0 : Int) (a0_1 : Int) (a0_2 : Int) (a0_3 : ByteArray) (l0_4 : List (S63)) : Option ((List (S100))):=(spec_IsFeature.f k a0_0 a0_1 a0_2 a0_3 l0_4).bind fun t447 => (if t447 = true then (if a0_1 = 2 then ((spec_SegmentsOf.f k l0_4).bind fun t451 => (some t451)) else (if a0_1 = 3 then ((spec_RingSegments.f k l0_4).bind fun t454 => (some t454)) else (some (([] : List (S100)))))) else (some (([] : List (S100)))))
set_option maxHeartbeats 8000000 in
set_option maxRecDepth 100000 in
theorem spec_PartsOf.calls (k : Nat) (a0_0 : Int) (a0_1 : Int) (a0_2 : Int) (a0_3 : ByteArray) (A0_4 : Option Addr) (c0_4 : Nat) (l0_4 : List (S63)) (r : List (S100)) (w : World) (hr0_4 : Kd.C k63 w A0_4 l0_4.length l0_4) (hc0_4 : l0_4.length ≤ c0_4) (h : spec_PartsOf.f k a0_0 a0_1 a0_2 a0_3 l0_4 = some r) :
  Calls Try.prog 85 #[.agg #[.int .i64 a0_0,.int .i64 a0_1,.int .i64 a0_2,.string a0_3,.slice A0_4 l0_4.length c0_4]] w fun e w' => ∃ v0_ : Value,e = .returned (v0_) ∧ Kd.R k100 100 w' w.heap.size (fun _ => True) v0_ r ∧ Below w.heap.size w w':=by
 have hu37:=Try.underlying37
 have HR0_4:=Aside0.mk hr0_4
 have HC0_4:=Aside0.mk hc0_4
 clear hr0_4 hc0_4
 have HB:=Aside0.mk (Below.refl w.heap.size w)
 have H : ((spec_IsFeature.f k a0_0 a0_1 a0_2 a0_3 l0_4).bind fun t447 => (if t447 = true then (if a0_1 = 2 then ((spec_SegmentsOf.f k l0_4).bind fun t451 => (some t451)) else (if a0_1 = 3 then ((spec_RingSegments.f k l0_4).bind fun t454 => (some t454)) else (some (([] : List (S100)))))) else (some (([] : List (S100)))))) = some r:=h
 clear h
 replace H:=Option.bind_eq_some_iff.mp H
 obtain ⟨t447,A20,H⟩:=H
 replace H : (if t447 = true then (if a0_1 = 2 then ((spec_SegmentsOf.f k l0_4).bind fun t451 => (some t451)) else (if a0_1 = 3 then ((spec_RingSegments.f k l0_4).bind fun t454 => (some t454)) else (some (([] : List (S100)))))) else (some (([] : List (S100))))) = some r:=H
 have A2:=Aside0.mk A20
 clear A20
 by_cases c3 : t447 = true
 ·
  subst c3
  have H1 : (if a0_1 = 2 then ((spec_SegmentsOf.f k l0_4).bind fun t451 => (some t451)) else (if a0_1 = 3 then ((spec_RingSegments.f k l0_4).bind fun t454 => (some t454)) else (some (([] : List (S100)))))) = some r:=by rw [if_pos rfl] at H;exact H
  clear H
  have H:=H1
  clear H1
  by_cases c4 : a0_1 = 2
  ·
   rw [if_pos c4] at H
   have c4b0 : (a0_1 == 2) = true:=beq_iff_eq.mpr c4
   have c4b1 : (a0_1 != 2) = false:=bne_eq_false_iff_eq.mpr c4
   clear c4
   replace H:=Option.bind_eq_some_iff.mp H
   obtain ⟨t451,A50,H⟩:=H
   replace H : (some t451) = some r:=H
   have A5:=Aside0.mk A50
   clear A50
   obtain rfl:=Option.some.inj H
   go_enter Try.func85,Try.ntmps85
   go_wp2_with (first | ((with_reducible refine gate_dst (N:=1) rfl ?_);refine Hd.box_ 1 (#[.int .i64 a0_0,.int .i64 a0_1,.int .i64 a0_2,.string a0_3,.slice A0_4 l0_4.length c0_4]) 37 ?_;intro gb446 hg w6 hbox hb;have BK446:=Aside0.mk (hbox);have GW446:=Aside0.mk ((Hd.g_ hg Hd.b_ : w.heap.size ≤ gb446));have GE446:=Aside0.mk ((Hd.g_ hg Hd.b_ : w.heap.size ≤ gb446));replace HB:=Aside0.mk (below_step Hd.b_ hb);clear hb hbox hg;obtain ⟨hcz7_0,hcz7_1,hcz7_2,hcz7_3,hcz7_4⟩:=Hd.c5_ BK446.out;obtain ⟨hfz7_0,hfz7_1,hfz7_2,hfz7_3,hfz7_4⟩:=Hd.f5_ BK446.out) | ((with_reducible refine gate_callee (f:=68) rfl ?_);refine goesL_ (some 4) rfl rfl Try.func68 (by kernel_rfl) rfl #[.agg #[.int .i64 a0_0,.int .i64 a0_1,.int .i64 a0_2,.string a0_3,.slice A0_4 l0_4.length c0_4]] rfl Hd.m_ ?_;(with_reducible refine (spec_IsFeature.calls k a0_0 a0_1 a0_2 a0_3 _ _ l0_4 true _ ?side1 ?side2 A2.out).mono ?_);(case side1 => repeat (first | exact (Kd.C_below HR0_4.out HB.out) | (with_reducible refine Kd.C_alloc ?_ _) | (with_reducible refine Kd.C_drewN ?_ _) | (with_reducible refine Kd.C_drew ?_)));(case side2 => exact HC0_4.out);rintro e w8 ⟨rfl,hb⟩;refine ⟨_,rfl,?_⟩;replace BK446:=Aside0.mk (Hd.kb_ BK446 hb);replace HB:=Aside0.mk (below_step Hd.b_ hb);(try clear hb);(try clear hb2);(try clear hk);(try clear hi);obtain ⟨hcz9_0,hcz9_1,hcz9_2,hcz9_3,hcz9_4⟩:=Hd.c5_ BK446.out;obtain ⟨hfz9_0,hfz9_1,hfz9_2,hfz9_3,hfz9_4⟩:=Hd.f5_ BK446.out) | ((with_reducible refine gate_callee (f:=113) rfl ?_);refine goesL_ (some 13) rfl rfl Try.func113 (by kernel_rfl) rfl #[.slice A0_4 l0_4.length c0_4] rfl Hd.m_ ?_;(with_reducible refine (spec_SegmentsOf.calls k _ _ l0_4 t451 _ ?side1 ?side2 A5.out).mono ?_);(case side1 => repeat (first | exact (Kd.C_below HR0_4.out HB.out) | (with_reducible refine Kd.C_alloc ?_ _) | (with_reducible refine Kd.C_drewN ?_ _) | (with_reducible refine Kd.C_drew ?_)));(case side2 => exact HC0_4.out);rintro e w10 ⟨v452,rfl,ho0,hb⟩;refine ⟨_,rfl,?_⟩;have HO453:=Aside0.mk (Kd.R_lower ho0 (below_size Hd.b_));replace BK446:=Aside0.mk (Hd.kb_ BK446 hb);replace HB:=Aside0.mk (below_step Hd.b_ hb);(try clear hb);(try clear hb2);(try clear hk);(try clear hi);(try clear ho0)))
   go_ret
   exact ⟨_,Hd.e_,by (with_reducible repeat (first | apply Kd.R_alloc | apply Kd.R_drewN | apply Kd.R_drew));exact HO453.out,Hd.b_⟩
  ·
   rw [if_neg c4] at H
   have c4b0 : (a0_1 == 2) = false:=beq_eq_false_iff_ne.mpr c4
   have c4b1 : (a0_1 != 2) = true:=bne_iff_ne.mpr c4
   by_cases c11 : a0_1 = 3
   ·
    rw [if_pos c11] at H
    have c11b0 : (a0_1 == 3) = true:=beq_iff_eq.mpr c11
    have c11b1 : (a0_1 != 3) = false:=bne_eq_false_iff_eq.mpr c11
    clear c11
    replace H:=Option.bind_eq_some_iff.mp H
    obtain ⟨t454,A120,H⟩:=H
    replace H : (some t454) = some r:=H
    have A12:=Aside0.mk A120
    clear A120
    obtain rfl:=Option.some.inj H
    go_enter Try.func85,Try.ntmps85
    go_wp2_with (first | ((with_reducible refine gate_dst (N:=1) rfl ?_);refine Hd.box_ 1 (#[.int .i64 a0_0,.int .i64 a0_1,.int .i64 a0_2,.string a0_3,.slice A0_4 l0_4.length c0_4]) 37 ?_;intro gb446 hg w13 hbox hb;have BK446:=Aside0.mk (hbox);have GW446:=Aside0.mk ((Hd.g_ hg Hd.b_ : w.heap.size ≤ gb446));have GE446:=Aside0.mk ((Hd.g_ hg Hd.b_ : w.heap.size ≤ gb446));replace HB:=Aside0.mk (below_step Hd.b_ hb);clear hb hbox hg;obtain ⟨hcz14_0,hcz14_1,hcz14_2,hcz14_3,hcz14_4⟩:=Hd.c5_ BK446.out;obtain ⟨hfz14_0,hfz14_1,hfz14_2,hfz14_3,hfz14_4⟩:=Hd.f5_ BK446.out) | ((with_reducible refine gate_callee (f:=68) rfl ?_);refine goesL_ (some 4) rfl rfl Try.func68 (by kernel_rfl) rfl #[.agg #[.int .i64 a0_0,.int .i64 a0_1,.int .i64 a0_2,.string a0_3,.slice A0_4 l0_4.length c0_4]] rfl Hd.m_ ?_;(with_reducible refine (spec_IsFeature.calls k a0_0 a0_1 a0_2 a0_3 _ _ l0_4 true _ ?side1 ?side2 A2.out).mono ?_);(case side1 => repeat (first | exact (Kd.C_below HR0_4.out HB.out) | (with_reducible refine Kd.C_alloc ?_ _) | (with_reducible refine Kd.C_drewN ?_ _) | (with_reducible refine Kd.C_drew ?_)));(case side2 => exact HC0_4.out);rintro e w15 ⟨rfl,hb⟩;refine ⟨_,rfl,?_⟩;replace BK446:=Aside0.mk (Hd.kb_ BK446 hb);replace HB:=Aside0.mk (below_step Hd.b_ hb);(try clear hb);(try clear hb2);(try clear hk);(try clear hi);obtain ⟨hcz16_0,hcz16_1,hcz16_2,hcz16_3,hcz16_4⟩:=Hd.c5_ BK446.out;obtain ⟨hfz16_0,hfz16_1,hfz16_2,hfz16_3,hfz16_4⟩:=Hd.f5_ BK446.out) | ((with_reducible refine gate_callee (f:=114) rfl ?_);refine goesL_ (some 18) rfl rfl Try.func114 (by kernel_rfl) rfl #[.slice A0_4 l0_4.length c0_4] rfl Hd.m_ ?_;(with_reducible refine (spec_RingSegments.calls k _ _ l0_4 t454 _ ?side1 ?side2 A12.out).mono ?_);(case side1 => repeat (first | exact (Kd.C_below HR0_4.out HB.out) | (with_reducible refine Kd.C_alloc ?_ _) | (with_reducible refine Kd.C_drewN ?_ _) | (with_reducible refine Kd.C_drew ?_)));(case side2 => exact HC0_4.out);rintro e w17 ⟨v455,rfl,ho0,hb⟩;refine ⟨_,rfl,?_⟩;have HO456:=Aside0.mk (Kd.R_lower ho0 (below_size Hd.b_));replace BK446:=Aside0.mk (Hd.kb_ BK446 hb);replace HB:=Aside0.mk (below_step Hd.b_ hb);(try clear hb);(try clear hb2);(try clear hk);(try clear hi);(try clear ho0)))
    go_ret
    exact ⟨_,Hd.e_,by (with_reducible repeat (first | apply Kd.R_alloc | apply Kd.R_drewN | apply Kd.R_drew));exact HO456.out,Hd.b_⟩
   ·
    rw [if_neg c11] at H
    have c11b0 : (a0_1 == 3) = false:=beq_eq_false_iff_ne.mpr c11
    have c11b1 : (a0_1 != 3) = true:=bne_iff_ne.mpr c11
    obtain ⟨y457,hy457⟩ : ∃ y_ : List (S100),y_ = (([] : List (S100))):=⟨_,rfl⟩
    replace H : (some y457) = some r:=by first | (rw [hy457];with_reducible exact H) | (have H2_:=(Option.bind_some _ _).symm.trans H;rw [hy457];with_reducible exact H2_) | (have H2_:=(Option.bind_some _ _).symm.trans H;with_reducible exact H2_) | with_reducible exact H | (rw [hy457];exact H) | exact H
    have Ny457:=Aside0.mk hy457
    clear hy457
    obtain rfl:=Option.some.inj H
    go_enter Try.func85,Try.ntmps85
    go_wp2_with (first | ((with_reducible refine gate_dst (N:=1) rfl ?_);refine Hd.box_ 1 (#[.int .i64 a0_0,.int .i64 a0_1,.int .i64 a0_2,.string a0_3,.slice A0_4 l0_4.length c0_4]) 37 ?_;intro gb446 hg w18 hbox hb;have BK446:=Aside0.mk (hbox);have GW446:=Aside0.mk ((Hd.g_ hg Hd.b_ : w.heap.size ≤ gb446));have GE446:=Aside0.mk ((Hd.g_ hg Hd.b_ : w.heap.size ≤ gb446));replace HB:=Aside0.mk (below_step Hd.b_ hb);clear hb hbox hg;obtain ⟨hcz19_0,hcz19_1,hcz19_2,hcz19_3,hcz19_4⟩:=Hd.c5_ BK446.out;obtain ⟨hfz19_0,hfz19_1,hfz19_2,hfz19_3,hfz19_4⟩:=Hd.f5_ BK446.out) | ((with_reducible refine gate_callee (f:=68) rfl ?_);refine goesL_ (some 4) rfl rfl Try.func68 (by kernel_rfl) rfl #[.agg #[.int .i64 a0_0,.int .i64 a0_1,.int .i64 a0_2,.string a0_3,.slice A0_4 l0_4.length c0_4]] rfl Hd.m_ ?_;(with_reducible refine (spec_IsFeature.calls k a0_0 a0_1 a0_2 a0_3 _ _ l0_4 true _ ?side1 ?side2 A2.out).mono ?_);(case side1 => repeat (first | exact (Kd.C_below HR0_4.out HB.out) | (with_reducible refine Kd.C_alloc ?_ _) | (with_reducible refine Kd.C_drewN ?_ _) | (with_reducible refine Kd.C_drew ?_)));(case side2 => exact HC0_4.out);rintro e w20 ⟨rfl,hb⟩;refine ⟨_,rfl,?_⟩;replace BK446:=Aside0.mk (Hd.kb_ BK446 hb);replace HB:=Aside0.mk (below_step Hd.b_ hb);(try clear hb);(try clear hb2);(try clear hk);(try clear hi);obtain ⟨hcz21_0,hcz21_1,hcz21_2,hcz21_3,hcz21_4⟩:=Hd.c5_ BK446.out;obtain ⟨hfz21_0,hfz21_1,hfz21_2,hfz21_3,hfz21_4⟩:=Hd.f5_ BK446.out) | ((with_reducible refine gate_dst (N:=19) rfl ?_);refine Kd.R_lit k100 _ 100 ?hg (N:=19) ?hd (xs:=([] : List (S100))) (inner:=[]) (ok:=fun _ => True) (okp:=fun _ => True) ?hr ?hp (fun _ hk => hk) trivial (Below.refl _ _) (Nat.le_refl _) (by simp) ?_;(case hd => rfl);(case hg => rfl);(case hr => first | (go_simp;done) | (go_simp;rfl));(case hp => exact (Reps.none _ _));intro v458 w22 ho23 hb hg_ hnew_;clear hg_ hnew_;(first | rw [← Ny457.out] at ho23 | (simp only [Int.reduceToNat] at ho23;rw [← Ny457.out] at ho23));have HO459:=Aside0.mk (Kd.R_lower ho23 (below_size Hd.b_));replace BK446:=Aside0.mk (Hd.kb_ BK446 hb);replace HB:=Aside0.mk (below_step Hd.b_ hb);clear hb ho23))
    go_ret
    exact ⟨_,Hd.e_,by (with_reducible repeat (first | apply Kd.R_alloc | apply Kd.R_drewN | apply Kd.R_drew));exact HO459.out,Hd.b_⟩
 ·
  replace c3:=Bool.eq_false_iff.mpr c3
  subst c3
  have H1 : (some (([] : List (S100)))) = some r:=by rw [if_neg (show ¬ (false = true) by decide)] at H;exact H
  clear H
  have H:=H1
  clear H1
  obtain ⟨y448,hy448⟩ : ∃ y_ : List (S100),y_ = (([] : List (S100))):=⟨_,rfl⟩
  replace H : (some y448) = some r:=by first | (rw [hy448];with_reducible exact H) | (have H2_:=(Option.bind_some _ _).symm.trans H;rw [hy448];with_reducible exact H2_) | (have H2_:=(Option.bind_some _ _).symm.trans H;with_reducible exact H2_) | with_reducible exact H | (rw [hy448];exact H) | exact H
  have Ny448:=Aside0.mk hy448
  clear hy448
  obtain rfl:=Option.some.inj H
  go_enter Try.func85,Try.ntmps85
  go_wp2_with (first | ((with_reducible refine gate_dst (N:=1) rfl ?_);refine Hd.box_ 1 (#[.int .i64 a0_0,.int .i64 a0_1,.int .i64 a0_2,.string a0_3,.slice A0_4 l0_4.length c0_4]) 37 ?_;intro gb446 hg w24 hbox hb;have BK446:=Aside0.mk (hbox);have GW446:=Aside0.mk ((Hd.g_ hg Hd.b_ : w.heap.size ≤ gb446));have GE446:=Aside0.mk ((Hd.g_ hg Hd.b_ : w.heap.size ≤ gb446));replace HB:=Aside0.mk (below_step Hd.b_ hb);clear hb hbox hg;obtain ⟨hcz25_0,hcz25_1,hcz25_2,hcz25_3,hcz25_4⟩:=Hd.c5_ BK446.out;obtain ⟨hfz25_0,hfz25_1,hfz25_2,hfz25_3,hfz25_4⟩:=Hd.f5_ BK446.out) | ((with_reducible refine gate_callee (f:=68) rfl ?_);refine goesL_ (some 4) rfl rfl Try.func68 (by kernel_rfl) rfl #[.agg #[.int .i64 a0_0,.int .i64 a0_1,.int .i64 a0_2,.string a0_3,.slice A0_4 l0_4.length c0_4]] rfl Hd.m_ ?_;(with_reducible refine (spec_IsFeature.calls k a0_0 a0_1 a0_2 a0_3 _ _ l0_4 false _ ?side1 ?side2 A2.out).mono ?_);(case side1 => repeat (first | exact (Kd.C_below HR0_4.out HB.out) | (with_reducible refine Kd.C_alloc ?_ _) | (with_reducible refine Kd.C_drewN ?_ _) | (with_reducible refine Kd.C_drew ?_)));(case side2 => exact HC0_4.out);rintro e w26 ⟨rfl,hb⟩;refine ⟨_,rfl,?_⟩;replace BK446:=Aside0.mk (Hd.kb_ BK446 hb);replace HB:=Aside0.mk (below_step Hd.b_ hb);(try clear hb);(try clear hb2);(try clear hk);(try clear hi)) | ((with_reducible refine gate_dst (N:=6) rfl ?_);refine Kd.R_lit k100 _ 100 ?hg (N:=6) ?hd (xs:=([] : List (S100))) (inner:=[]) (ok:=fun _ => True) (okp:=fun _ => True) ?hr ?hp (fun _ hk => hk) trivial (Below.refl _ _) (Nat.le_refl _) (by simp) ?_;(case hd => rfl);(case hg => rfl);(case hr => first | (go_simp;done) | (go_simp;rfl));(case hp => exact (Reps.none _ _));intro v449 w27 ho28 hb hg_ hnew_;clear hg_ hnew_;(first | rw [← Ny448.out] at ho28 | (simp only [Int.reduceToNat] at ho28;rw [← Ny448.out] at ho28));have HO450:=Aside0.mk (Kd.R_lower ho28 (below_size Hd.b_));replace BK446:=Aside0.mk (Hd.kb_ BK446 hb);replace HB:=Aside0.mk (below_step Hd.b_ hb);clear hb ho28))
  go_ret
  exact ⟨_,Hd.e_,by (with_reducible repeat (first | apply Kd.R_alloc | apply Kd.R_drewN | apply Kd.R_drew));exact HO450.out,Hd.b_⟩
end Go.Proofs.Ytchmbcembbbplad.MFnExactMeetsOf
