-- Laid by this session's program pp.py, after the kit's print and texts of the session's own. Not trusted: Lean checks it.
import Derived.Test.YtchmbcembbbpladZMeetsOfMx0
import Derived.Test.YtchmbcembbbpladZMeetsOfMx2
import Derived.Test.YtchmbcembbbpladZMeetsOfMx3
import Derived.Test.YtchmbcembbbpladZMeetsOfMx10
import Derived.Test.YtchmbcembbbpladZMeetsOfMx17
namespace Go.Proofs.Ytchmbcembbbplad.MFnExactMeetsOf
open Go.RowKit Go.Proofs.YtchmbcembbbpladW.PrintWords Go.Proofs.YtchmbcembbbpladW.PrintLast Go.Proofs.YtchmbcembbbpladW.PrintMore
attribute [local go_sem] max2_int min2_int max_two min_two max_three min_three max_four min_four   -- for this text's walks alone
set_option linter.unusedVariables false
set_option linter.unusedSimpArgs false
def laws_eqMeetS.l0 : Nat → List (S78) → List (S78) → Int → Option (Bool)
 | 0,_,_,_ => none
 | k + 1,x0,x1,x5 => if x5 < (x0.length : Int) then (if 0 ≤ x5 then (if x5 < (x1.length : Int) then ((laws_eqMeet.f ((rd_T78 x0 x5).f0) ((rd_T78 x0 x5).f1) ((rd_T78 x0 x5).f2) ((rd_T78 x1 x5).f0) ((rd_T78 x1 x5).f1) ((rd_T78 x1 x5).f2)).bind fun t488 => (if t488 = true then (laws_eqMeetS.l0 k x0 x1 (wrap64 (x5 + 1))) else (some false))) else (none)) else (none)) else (some true)
def laws_eqMeetS.f (k : Nat) (l0 : List (S78)) (l1 : List (S78)) : Option (Bool):=if (l0.length : Int) = (l1.length : Int) then (laws_eqMeetS.l0 k l0 l1 0) else (some false)
set_option maxHeartbeats 8000000 in
set_option maxRecDepth 100000 in
theorem laws_eqMeetS.calls (k : Nat) (A0 : Option Addr) (c0 : Nat) (l0 : List (S78)) (A1 : Option Addr) (c1 : Nat) (l1 : List (S78)) (r : Bool) (w : World) (hr0 : Kd.C k78 w A0 l0.length l0) (hc0 : l0.length ≤ c0) (hr1 : Kd.C k78 w A1 l1.length l1) (hc1 : l1.length ≤ c1) (h : laws_eqMeetS.f k l0 l1 = some r) :
  Calls Try.prog 29 #[.slice A0 l0.length c0,.slice A1 l1.length c1] w fun e w' => e = .returned (.bool r) ∧ Below w.heap.size w w':=by
 have hu78:=Try.underlying78
 have HR0:=Aside0.mk hr0
 have HC0:=Aside0.mk hc0
 clear hr0 hc0
 have HR1:=Aside0.mk hr1
 have HC1:=Aside0.mk hc1
 clear hr1 hc1
 have HB:=Aside0.mk (Below.refl w.heap.size w)
 have H : (if (l0.length : Int) = (l1.length : Int) then (laws_eqMeetS.l0 k l0 l1 0) else (some false)) = some r:=h
 clear h
 by_cases c3 : (l0.length : Int) = (l1.length : Int)
 ·
  rw [if_pos c3] at H
  have c3b0 : ((l0.length : Int) == (l1.length : Int)) = true:=beq_iff_eq.mpr c3
  have c3b1 : ((l0.length : Int) != (l1.length : Int)) = false:=bne_eq_false_iff_eq.mpr c3
  have c3b2 : (l0.length == l1.length) = true:=by first | simpa using c3 | (simp at c3 ⊢;omega)
  clear c3
  have H':=Aside0.mk H
  clear H
  go_enter Try.func29,Try.ntmps29
  go_wp2
  go_loopg [5] k (fun kq v5 w' => ∃ (x5_1 : Int),v5 = .int .i64 x5_1 ∧ Aside0 (laws_eqMeetS.l0 kq l0 l1 x5_1 = some r) ∧ Aside0 (kq ≤ k) ∧ Aside0 (Below w.heap.size w w'))
  case atStart => exact ⟨(0),(by first | rfl | (simp;done) | (simp [*];done)),H',⟨Nat.le_refl _⟩,⟨Hd.b_⟩⟩
  case round =>
   clear H'
   try clear c1
   try clear c2
   try clear p2
   try clear c3
   try clear c3b0
   try clear c3b1
   try clear c3b2
   obtain ⟨x5_1,rfl,HA,HK1,HB⟩:=hrel
   cases gk with
   | zero => exact absurd HA.out (by simp [laws_eqMeetS.l0])
   | succ k1 =>
    have H:=HA.out
    clear HA
    simp only [laws_eqMeetS.l0] at H
    by_cases c4 : x5_1 < (l0.length : Int)
    ·
     rw [if_pos c4] at H
     have c4b0 : decide (x5_1 < (l0.length : Int)) = true:=decide_eq_true c4
     clear c4
     by_cases c5 : 0 ≤ x5_1
     ·
      rw [if_pos c5] at H
      have c5b0 : decide (0 ≤ x5_1) = true:=decide_eq_true c5
      clear c5
      by_cases c6 : x5_1 < (l1.length : Int)
      ·
       rw [if_pos c6] at H
       have c6b0 : decide (x5_1 < (l1.length : Int)) = true:=decide_eq_true c6
       clear c6
       replace H:=Option.bind_eq_some_iff.mp H
       obtain ⟨t488,A70,H⟩:=H
       replace H : (if t488 = true then (laws_eqMeetS.l0 k1 l0 l1 (wrap64 (x5_1 + 1))) else (some false)) = some r:=H
       have A7:=Aside0.mk A70
       clear A70
       by_cases c8 : t488 = true
       ·
        subst c8
        have H1 : (laws_eqMeetS.l0 k1 l0 l1 (wrap64 (x5_1 + 1))) = some r:=by rw [if_pos rfl] at H;exact H
        clear H
        have H:=H1
        clear H1
        have H':=Aside0.mk H
        clear H
        try go_wp2
        replace HB:=Aside0.mk (below_drew1 HB.out)
        have p486 : 0 ≤ (x5_1 : Int):=of_decide_eq_true Hd.a_
        have q486 : x5_1 < (l0.length : Int):=of_decide_eq_true Hd.a_
        obtain ⟨ad486,e486,hx486_0,hx486_1,hx486_2⟩:=at_T78 HR0.out x5_1 p486 q486
        have hw486_2:=hx486_2
        have hw486_1:=hx486_1
        have hw486_0:=hx486_0
        cases e486
        replace hx486_0:=(HB.out.cell (World.block_lt_of_cell? w _ hx486_0)).trans hx486_0
        replace hx486_1:=(HB.out.cell (World.block_lt_of_cell? w _ hx486_1)).trans hx486_1
        replace hx486_2:=(HB.out.cell (World.block_lt_of_cell? w _ hx486_2)).trans hx486_2
        replace p486:=eq_true p486
        replace q486:=eq_true q486
        have p487 : 0 ≤ (x5_1 : Int):=of_decide_eq_true Hd.a_
        have q487 : x5_1 < (l1.length : Int):=of_decide_eq_true Hd.a_
        obtain ⟨ad487,e487,hx487_0,hx487_1,hx487_2⟩:=at_T78 HR1.out x5_1 p487 q487
        have hw487_2:=hx487_2
        have hw487_1:=hx487_1
        have hw487_0:=hx487_0
        cases e487
        replace hx487_0:=(HB.out.cell (World.block_lt_of_cell? w _ hx487_0)).trans hx487_0
        replace hx487_1:=(HB.out.cell (World.block_lt_of_cell? w _ hx487_1)).trans hx487_1
        replace hx487_2:=(HB.out.cell (World.block_lt_of_cell? w _ hx487_2)).trans hx487_2
        replace p487:=eq_true p487
        replace q487:=eq_true q487
        have s0_:=Hd.HW.x (W0:=wr.drew) ((HB.out.cell (World.block_lt_of_cell? w _ hw486_0)).trans hw486_0)
        have s1_:=Hd.HW.x (W0:=wr.drew) ((HB.out.cell (World.block_lt_of_cell? w _ hw486_1)).trans hw486_1)
        have s2_:=Hd.HW.x (W0:=wr.drew) ((HB.out.cell (World.block_lt_of_cell? w _ hw486_2)).trans hw486_2)
        have s3_:=Hd.HW.x (W0:=wr.drew) ((HB.out.cell (World.block_lt_of_cell? w _ hw487_0)).trans hw487_0)
        have s4_:=Hd.HW.x (W0:=wr.drew) ((HB.out.cell (World.block_lt_of_cell? w _ hw487_1)).trans hw487_1)
        have s5_:=Hd.HW.x (W0:=wr.drew) ((HB.out.cell (World.block_lt_of_cell? w _ hw487_2)).trans hw487_2)
        refine Hd.HW.region (by kernel_rfl) (by kernel_rfl) ?_
        repeat (go_big_quiet_step ((first | (go_at_call 59;with_reducible exact Hd.HW.c (laws_eqMeet.calls ((rd_T78 l0 x5_1).f0) ((rd_T78 l0 x5_1).f1) ((rd_T78 l0 x5_1).f2) ((rd_T78 l1 x5_1).f0) ((rd_T78 l1 x5_1).f1) ((rd_T78 l1 x5_1).f2) true _ A7.out)))))
        refine wpQuiet_nil ?_
        intro _ hq_
        obtain ⟨q_,rfl⟩:=hq_
        clear s0_ s1_ s2_ s3_ s4_ s5_
        replace HB:=Aside0.mk (below_step HB.out q_.b)
        replace hx486_0:=q_.cell hx486_0
        replace hx486_1:=q_.cell hx486_1
        replace hx486_2:=q_.cell hx486_2
        replace hx487_0:=q_.cell hx487_0
        replace hx487_1:=q_.cell hx487_1
        replace hx487_2:=q_.cell hx487_2
        generalize q_.W = w10 at HB hx486_0 hx486_1 hx486_2 hx487_0 hx487_1 hx487_2 ⊢
        try simp only [i64_w,i32_w]
        try go_wp2
        go_roundg k1
        case measure => have:=HK1.out;omega
        case rel => exact ⟨(wrap64 (x5_1 + 1)),(by first | rfl | (simp;done) | (simp [*];done)),H',⟨by have:=HK1.out;omega⟩,⟨Hd.b_⟩⟩
       ·
        replace c8:=Bool.eq_false_iff.mpr c8
        subst c8
        have H1 : (some false) = some r:=by rw [if_neg (show ¬ (false = true) by decide)] at H;exact H
        clear H
        have H:=H1
        clear H1
        obtain rfl:=Option.some.inj H
        try go_wp2
        replace HB:=Aside0.mk (below_drew1 HB.out)
        have p486 : 0 ≤ (x5_1 : Int):=of_decide_eq_true Hd.a_
        have q486 : x5_1 < (l0.length : Int):=of_decide_eq_true Hd.a_
        obtain ⟨ad486,e486,hx486_0,hx486_1,hx486_2⟩:=at_T78 HR0.out x5_1 p486 q486
        have hw486_2:=hx486_2
        have hw486_1:=hx486_1
        have hw486_0:=hx486_0
        cases e486
        replace hx486_0:=(HB.out.cell (World.block_lt_of_cell? w _ hx486_0)).trans hx486_0
        replace hx486_1:=(HB.out.cell (World.block_lt_of_cell? w _ hx486_1)).trans hx486_1
        replace hx486_2:=(HB.out.cell (World.block_lt_of_cell? w _ hx486_2)).trans hx486_2
        replace p486:=eq_true p486
        replace q486:=eq_true q486
        have p487 : 0 ≤ (x5_1 : Int):=of_decide_eq_true Hd.a_
        have q487 : x5_1 < (l1.length : Int):=of_decide_eq_true Hd.a_
        obtain ⟨ad487,e487,hx487_0,hx487_1,hx487_2⟩:=at_T78 HR1.out x5_1 p487 q487
        have hw487_2:=hx487_2
        have hw487_1:=hx487_1
        have hw487_0:=hx487_0
        cases e487
        replace hx487_0:=(HB.out.cell (World.block_lt_of_cell? w _ hx487_0)).trans hx487_0
        replace hx487_1:=(HB.out.cell (World.block_lt_of_cell? w _ hx487_1)).trans hx487_1
        replace hx487_2:=(HB.out.cell (World.block_lt_of_cell? w _ hx487_2)).trans hx487_2
        replace p487:=eq_true p487
        replace q487:=eq_true q487
        have s0_:=Hd.HW.x (W0:=wr.drew) ((HB.out.cell (World.block_lt_of_cell? w _ hw486_0)).trans hw486_0)
        have s1_:=Hd.HW.x (W0:=wr.drew) ((HB.out.cell (World.block_lt_of_cell? w _ hw486_1)).trans hw486_1)
        have s2_:=Hd.HW.x (W0:=wr.drew) ((HB.out.cell (World.block_lt_of_cell? w _ hw486_2)).trans hw486_2)
        have s3_:=Hd.HW.x (W0:=wr.drew) ((HB.out.cell (World.block_lt_of_cell? w _ hw487_0)).trans hw487_0)
        have s4_:=Hd.HW.x (W0:=wr.drew) ((HB.out.cell (World.block_lt_of_cell? w _ hw487_1)).trans hw487_1)
        have s5_:=Hd.HW.x (W0:=wr.drew) ((HB.out.cell (World.block_lt_of_cell? w _ hw487_2)).trans hw487_2)
        refine Hd.HW.region (by kernel_rfl) (by kernel_rfl) ?_
        repeat (go_big_quiet_step ((first | (go_at_call 59;with_reducible exact Hd.HW.c (laws_eqMeet.calls ((rd_T78 l0 x5_1).f0) ((rd_T78 l0 x5_1).f1) ((rd_T78 l0 x5_1).f2) ((rd_T78 l1 x5_1).f0) ((rd_T78 l1 x5_1).f1) ((rd_T78 l1 x5_1).f2) false _ A7.out)))))
        refine wpQuiet_nil ?_
        intro _ hq_
        obtain ⟨q_,rfl⟩:=hq_
        clear s0_ s1_ s2_ s3_ s4_ s5_
        replace HB:=Aside0.mk (below_step HB.out q_.b)
        replace hx486_0:=q_.cell hx486_0
        replace hx486_1:=q_.cell hx486_1
        replace hx486_2:=q_.cell hx486_2
        replace hx487_0:=q_.cell hx487_0
        replace hx487_1:=q_.cell hx487_1
        replace hx487_2:=q_.cell hx487_2
        generalize q_.W = w12 at HB hx486_0 hx486_1 hx486_2 hx487_0 hx487_1 hx487_2 ⊢
        try simp only [i64_w,i32_w]
        try go_wp2
        go_ret
        exact ⟨Hd.e_,Hd.b_⟩
      ·
       rw [if_neg c6] at H
       exact absurd H (by simp)
     ·
      rw [if_neg c5] at H
      exact absurd H (by simp)
    ·
     rw [if_neg c4] at H
     have c4b0 : decide (x5_1 < (l0.length : Int)) = false:=decide_eq_false c4
     clear c4
     obtain rfl:=Option.some.inj H
     go_wp2
     go_ret
     exact ⟨Hd.e_,Hd.b_⟩
 ·
  rw [if_neg c3] at H
  have c3b0 : ((l0.length : Int) == (l1.length : Int)) = false:=beq_eq_false_iff_ne.mpr c3
  have c3b1 : ((l0.length : Int) != (l1.length : Int)) = true:=bne_iff_ne.mpr c3
  have c3b2 : (l0.length == l1.length) = false:=by first | simpa using c3 | (simp at c3 ⊢;omega)
  obtain rfl:=Option.some.inj H
  go_enter Try.func29,Try.ntmps29
  go_wp2
  go_ret
  exact ⟨Hd.e_,Hd.b_⟩
def laws_markMeetS.l0 : Nat → List (S78) → Int → Int → Option (Int × (List (S78)))
 | 0,_,_,_ => none
 | k + 1,x0,x1,x5 => if x5 < (x0.length : Int) then (if 0 ≤ x5 then ((some (x0.set (x5 : Int).toNat (⟨x1,(rd_T78 x0 x5).f1,(rd_T78 x0 x5).f2⟩ : S78) : List (S78))).bind fun y489 => ((some (y489.set (x5 : Int).toNat (⟨(rd_T78 y489 x5).f0,wrap64 (x1 + 1),(rd_T78 y489 x5).f2⟩ : S78) : List (S78))).bind fun y490 => (laws_markMeetS.l0 k (y490.set (x5 : Int).toNat (⟨(rd_T78 y490 x5).f0,(rd_T78 y490 x5).f1,wrap64 ((wrap64 (x1 + 1)) + 1)⟩ : S78)) (wrap64 ((wrap64 ((wrap64 (x1 + 1)) + 1)) + 1)) (wrap64 (x5 + 1))))) else (none)) else (some (x1,x0))
def laws_markMeetS.f (k : Nat) (l0 : List (S78)) (a1 : Int) : Option (Int × (List (S78))):=laws_markMeetS.l0 k l0 a1 0
set_option maxHeartbeats 8000000 in
set_option maxRecDepth 100000 in
theorem laws_markMeetS.calls (k : Nat) (P0_ : Nat → Prop) (u9000_ : Value) (l0 : List (S78)) (a1 : Int) (r1 : Int) (r2 : List (S78)) (w0 w : World) (hB : Below w0.heap.size w0 w) (ho0 : Kd.R k78 78 w w0.heap.size P0_ u9000_ l0) (h : laws_markMeetS.f k l0 a1 = some (r1,r2)) :
  Calls Try.prog 30 #[u9000_,.int .i64 a1] w fun e w' => e = .returned (.int .i64 r1) ∧ Kd.R k78 78 w' w0.heap.size (fun k_ => (P0_ k_ ∨ w.heap.size ≤ k_)) u9000_ r2 ∧ Below w0.heap.size w0 w' ∧ Kept w w' (fun k_ => P0_ k_):=by
 have HO0:=Aside0.mk (show Kd.R k78 78 w w0.heap.size (fun k_ => (P0_ k_ ∨ w.heap.size ≤ k_)) u9000_ l0 from Kd.R_mono ho0 (fun k_ hk => (.inl hk)))
 have HK:=Aside0.mk (Kept.refl w (fun k_ => P0_ k_))
 have HW0:=Aside0.mk hB.size
 have HB:=Aside0.mk hB
 clear hB
 have H : (laws_markMeetS.l0 k l0 a1 0) = some (r1,r2):=h
 clear h
 have H':=Aside0.mk H
 clear H
 go_enter Try.func30,Try.ntmps30
 go_wp2
 go_loopg [1,5] k (fun kq v1 v5 w' => ∃ (x0_1 : List (S78)) (x1_1 : Int) (x5_1 : Int),v1 = .int .i64 x1_1 ∧ v5 = .int .i64 x5_1 ∧ Aside0 (laws_markMeetS.l0 kq x0_1 x1_1 x5_1 = some (r1,r2)) ∧ Aside0 (kq ≤ k) ∧ Aside0 (Kd.R k78 78 w' w0.heap.size (fun k_ => (P0_ k_ ∨ w.heap.size ≤ k_)) u9000_ x0_1) ∧ Aside0 (Kept w w' (fun k_ => P0_ k_)) ∧ Aside0 (Below w0.heap.size w0 w'))
 case atStart => exact ⟨(l0),(a1),(0),(by first | rfl | (simp;done) | (simp [*];done)),(by first | rfl | (simp;done) | (simp [*];done)),H',⟨Nat.le_refl _⟩,⟨by (with_reducible repeat (first | apply Kd.R_alloc | apply Kd.R_drewN | apply Kd.R_drew));exact HO0.out⟩,⟨by repeat (first | (with_reducible first | exact HK.out | apply Kept.alloc | apply Kept.drewN | apply Kept.drew) | exact HK.out)⟩,⟨Hd.b_⟩⟩
 case round =>
  clear H'
  try clear p2
  obtain ⟨x0_1,x1_1,x5_1,rfl,rfl,HA,HK1,HO_0,HK,HB⟩:=hrel
  cases gk with
  | zero => exact absurd HA.out (by simp [laws_markMeetS.l0])
  | succ k1 =>
   have H:=HA.out
   clear HA
   simp only [laws_markMeetS.l0] at H
   by_cases c3 : x5_1 < (x0_1.length : Int)
   ·
    rw [if_pos c3] at H
    have c3b0 : decide (x5_1 < (x0_1.length : Int)) = true:=decide_eq_true c3
    clear c3
    by_cases c4 : 0 ≤ x5_1
    ·
     rw [if_pos c4] at H
     have c4b0 : decide (0 ≤ x5_1) = true:=decide_eq_true c4
     clear c4
     obtain ⟨y489,hy489⟩ : ∃ y_ : List (S78),y_ = (x0_1.set (x5_1 : Int).toNat (⟨x1_1,(rd_T78 x0_1 x5_1).f1,(rd_T78 x0_1 x5_1).f2⟩ : S78)):=⟨_,rfl⟩
     replace H : ((some (y489.set (x5_1 : Int).toNat (⟨(rd_T78 y489 x5_1).f0,wrap64 (x1_1 + 1),(rd_T78 y489 x5_1).f2⟩ : S78) : List (S78))).bind fun y490 => (laws_markMeetS.l0 k1 (y490.set (x5_1 : Int).toNat (⟨(rd_T78 y490 x5_1).f0,(rd_T78 y490 x5_1).f1,wrap64 ((wrap64 (x1_1 + 1)) + 1)⟩ : S78)) (wrap64 ((wrap64 ((wrap64 (x1_1 + 1)) + 1)) + 1)) (wrap64 (x5_1 + 1)))) = some (r1,r2):=by first | (rw [hy489];with_reducible exact H) | (have H2_:=(Option.bind_some _ _).symm.trans H;rw [hy489];with_reducible exact H2_) | (have H2_:=(Option.bind_some _ _).symm.trans H;with_reducible exact H2_) | with_reducible exact H | (rw [hy489];exact H) | exact H
     have Ny489:=Aside0.mk hy489
     clear hy489
     obtain ⟨y490,hy490⟩ : ∃ y_ : List (S78),y_ = (y489.set (x5_1 : Int).toNat (⟨(rd_T78 y489 x5_1).f0,wrap64 (x1_1 + 1),(rd_T78 y489 x5_1).f2⟩ : S78)):=⟨_,rfl⟩
     replace H : (laws_markMeetS.l0 k1 (y490.set (x5_1 : Int).toNat (⟨(rd_T78 y490 x5_1).f0,(rd_T78 y490 x5_1).f1,wrap64 ((wrap64 (x1_1 + 1)) + 1)⟩ : S78)) (wrap64 ((wrap64 ((wrap64 (x1_1 + 1)) + 1)) + 1)) (wrap64 (x5_1 + 1))) = some (r1,r2):=by first | (rw [hy490];with_reducible exact H) | (have H2_:=(Option.bind_some _ _).symm.trans H;rw [hy490];with_reducible exact H2_) | (have H2_:=(Option.bind_some _ _).symm.trans H;with_reducible exact H2_) | with_reducible exact H | (rw [hy490];exact H) | exact H
     have Ny490:=Aside0.mk hy490
     clear hy490
     obtain ⟨y491,hy491⟩ : ∃ y_ : List (S78),y_ = (y490.set (x5_1 : Int).toNat (⟨(rd_T78 y490 x5_1).f0,(rd_T78 y490 x5_1).f1,wrap64 ((wrap64 (x1_1 + 1)) + 1)⟩ : S78)):=⟨_,rfl⟩
     replace H : (laws_markMeetS.l0 k1 y491 (wrap64 ((wrap64 ((wrap64 (x1_1 + 1)) + 1)) + 1)) (wrap64 (x5_1 + 1))) = some (r1,r2):=by first | (rw [hy491];with_reducible exact H) | (have H2_:=(Option.bind_some _ _).symm.trans H;rw [hy491];with_reducible exact H2_) | (have H2_:=(Option.bind_some _ _).symm.trans H;with_reducible exact H2_) | with_reducible exact H | (rw [hy491];exact H) | exact H
     have Ny491:=Aside0.mk hy491
     clear hy491
     have H':=Aside0.mk H
     clear H
     obtain ⟨Ao8,co8,eo8⟩:=Kd.R_slice HO_0.out
     subst eo8
     have p5 : 0 ≤ (x5_1 : Int):=of_decide_eq_true Hd.a_
     have q5 : (x5_1 : Int) < ((x0_1.length : Int) : Int):=of_decide_eq_true Hd.a_
     obtain ⟨go5,co5,eo5,gb5,gl5,cl5,HG5⟩:=Kd.R_form HO_0.out (by omega)
     (first | cases eo5 | (injection eo5 with ea_ en_ ec_;(first | subst ea_ | (injection ea_ with ea_;subst ea_));subst ec_;clear en_))
     have GB5:=Aside0.mk gb5
     have GG5:=Aside0.mk HG5
     clear gb5 gl5 HG5
     have HMgo5:=Aside0.mk (show (P0_ go5 ∨ w.heap.size ≤ go5) from (HO_0.out.1 _ rfl))
     obtain ⟨ce5,hcl5,hM5,hcc5,hfr5⟩:=Kd.R_elem HO_0.out z78 (x5_1 : Int) p5 q5
     obtain rfl:=k78_openM hM5
     have hx5_0 : wr.cell? ⟨go5,(x5_1 : Int).toNat * 3,none⟩ = some (.int .i64 ((rd_T78 x0_1 x5_1).f0)):=hcc5 0 _ rfl
     have hx5_1 : wr.cell? ⟨go5,(x5_1 : Int).toNat * 3 + 1,none⟩ = some (.int .i64 ((rd_T78 x0_1 x5_1).f1)):=hcc5 1 _ rfl
     have hx5_2 : wr.cell? ⟨go5,(x5_1 : Int).toNat * 3 + 2,none⟩ = some (.int .i64 ((rd_T78 x0_1 x5_1).f2)):=hcc5 2 _ rfl
     have hf5_0 : wr.frozen? ⟨go5,(x5_1 : Int).toNat * 3,none⟩ = false:=hfr5 0
     have hf5_1 : wr.frozen? ⟨go5,(x5_1 : Int).toNat * 3 + 1,none⟩ = false:=hfr5 1
     have hf5_2 : wr.frozen? ⟨go5,(x5_1 : Int).toNat * 3 + 2,none⟩ = false:=hfr5 2
     clear hcl5 hcc5 hfr5 hM5
     replace p5:=eq_true p5
     replace q5:=eq_true q5
     have HX9:=Aside0.mk (show Kd.R k78 78 wr w0.heap.size (fun k_ => (P0_ k_ ∨ w.heap.size ≤ k_)) (.slice (some ⟨go5,0,none⟩) x0_1.length co8) x0_1 from (Hd.r_ HO_0))
     obtain ⟨ce9,hcl9,hM9,hcc9,hfr9⟩:=Kd.R_elem HX9.out z78 (x5_1 : Int) (of_decide_eq_true Hd.a_) (by have h_ : (x5_1 : Int) < ((x0_1.length : Int) : Int):=of_decide_eq_true Hd.a_;first | exact h_ | (have e_:=(Kd.R_reads' HO_0.out).1;omega) | simpa using h_)
     obtain rfl:=k78_openM hM9
     have HP9:=Kd.R_seg HX9.out (x5_1 : Int) (of_decide_eq_true Hd.a_) (by have h_ : (x5_1 : Int) < ((x0_1.length : Int) : Int):=of_decide_eq_true Hd.a_;first | exact h_ | (have e_:=(Kd.R_reads' HO_0.out).1;omega) | simpa using h_) (seg:=[.int .i64 x1_1]) (j:=0) hcl9 hcc9 (show 1 ≤ 3 from by decide) (x':=(⟨x1_1,(rd_T78 x0_1 x5_1).f1,(rd_T78 x0_1 x5_1).f2⟩ : S78)) (k78_mkM _ _ _ (⟨x1_1,(rd_T78 x0_1 x5_1).f1,(rd_T78 x0_1 x5_1).f2⟩ : S78) ) (fun _ hk => hk)
     have hx9_0:=hcc9 0 _ rfl
     (try simp only [show (k78).sz = 3 from rfl,Nat.mul_one,Nat.add_zero] at hx9_0)
     have hf9_0:=hfr9 0
     (try simp only [show (k78).sz = 3 from rfl,Nat.mul_one,Nat.add_zero] at hf9_0)
     clear hcl9 hcc9 hfr9 hM9
     go_wp2_with (first | ((with_reducible refine gate_store (t:=3) (p:=16) rfl ?_);refine store_event (t:=3) (p:=16) (v:=?vo_w10) (w1:=(wr.setCell ⟨go5,(x5_1 : Int).toNat * 3,none⟩ (.int .i64 x1_1))) ?hg ?ho ?hn ?hr ?_;(case ho => rfl);(case hg => rfl);(case hn => rfl);(case hr => first | (go_simp;done) | (go_simp;rfl));intro w10 hw;have hg : wr.grownBy w10 (some go5):=(by rw [hw];exact HP9.2);have hp_ : Kd.R k78 78 w10 w0.heap.size (fun k_ => (P0_ k_ ∨ w.heap.size ≤ k_)) (.slice (some ⟨go5,0,none⟩) x0_1.length co8) y489:=(by rw [hw,Ny489.out];exact HP9.1);clear HP9;replace HB:=Aside0.mk ((by rw [hw];exact below_set (HB.out) GB5.out : Below w0.heap.size w0 w10));replace HK:=Aside0.mk (Kept.of_grown (S:=(fun k_ => P0_ k_)) hg (by repeat (first | (with_reducible first | exact HK.out | apply Kept.alloc | apply Kept.drewN | apply Kept.drew) | exact HK.out)) (fun k_ e_ => (HO_0.out.1 k_ e_)));replace HO_0:=Aside0.mk (hp_);clear hg hw hp_;have p6 : 0 ≤ (x5_1 : Int):=of_decide_eq_true Hd.a_;have q6 : (x5_1 : Int) < ((x0_1.length : Int) : Int):=of_decide_eq_true Hd.a_;obtain ⟨ce6,hcl6,hM6,hcc6,hfr6⟩:=Kd.R_elem HO_0.out z78 (x5_1 : Int) p6 q6;obtain rfl:=k78_openM hM6;have hx6_0 : w10.cell? ⟨go5,(x5_1 : Int).toNat * 3,none⟩ = some (.int .i64 ((rd_T78 y489 x5_1).f0)):=hcc6 0 _ rfl;have hx6_1 : w10.cell? ⟨go5,(x5_1 : Int).toNat * 3 + 1,none⟩ = some (.int .i64 ((rd_T78 y489 x5_1).f1)):=hcc6 1 _ rfl;have hx6_2 : w10.cell? ⟨go5,(x5_1 : Int).toNat * 3 + 2,none⟩ = some (.int .i64 ((rd_T78 y489 x5_1).f2)):=hcc6 2 _ rfl;have hf6_0 : w10.frozen? ⟨go5,(x5_1 : Int).toNat * 3,none⟩ = false:=hfr6 0;have hf6_1 : w10.frozen? ⟨go5,(x5_1 : Int).toNat * 3 + 1,none⟩ = false:=hfr6 1;have hf6_2 : w10.frozen? ⟨go5,(x5_1 : Int).toNat * 3 + 2,none⟩ = false:=hfr6 2;clear hcl6 hcc6 hfr6 hM6;replace p6:=eq_true p6;replace q6:=eq_true q6;have HX11:=Aside0.mk (show Kd.R k78 78 w10 w0.heap.size (fun k_ => (P0_ k_ ∨ w.heap.size ≤ k_)) (.slice (some ⟨go5,0,none⟩) x0_1.length co8) y489 from (Hd.r_ HO_0));obtain ⟨ce11,hcl11,hM11,hcc11,hfr11⟩:=Kd.R_elem HX11.out z78 (x5_1 : Int) (of_decide_eq_true Hd.a_) (by have h_ : (x5_1 : Int) < ((x0_1.length : Int) : Int):=of_decide_eq_true Hd.a_;first | exact h_ | (have e_:=(Kd.R_reads' HO_0.out).1;omega) | simpa using h_);obtain rfl:=k78_openM hM11;have HP11:=Kd.R_seg HX11.out (x5_1 : Int) (of_decide_eq_true Hd.a_) (by have h_ : (x5_1 : Int) < ((x0_1.length : Int) : Int):=of_decide_eq_true Hd.a_;first | exact h_ | (have e_:=(Kd.R_reads' HO_0.out).1;omega) | simpa using h_) (seg:=[.int .i64 (wrap64 (x1_1 + 1))]) (j:=1) hcl11 hcc11 (show 2 ≤ 3 from by decide) (x':=(⟨(rd_T78 y489 x5_1).f0,wrap64 (x1_1 + 1),(rd_T78 y489 x5_1).f2⟩ : S78)) (k78_mkM _ _ _ (⟨(rd_T78 y489 x5_1).f0,wrap64 (x1_1 + 1),(rd_T78 y489 x5_1).f2⟩ : S78) ) (fun _ hk => hk);have hx11_1:=hcc11 1 _ rfl;(try simp only [show (k78).sz = 3 from rfl,Nat.mul_one,Nat.add_zero] at hx11_1);have hf11_1:=hfr11 1;(try simp only [show (k78).sz = 3 from rfl,Nat.mul_one,Nat.add_zero] at hf11_1);clear hcl11 hcc11 hfr11 hM11) | ((with_reducible refine gate_store (t:=3) (p:=23) rfl ?_);refine store_event (t:=3) (p:=23) (v:=?vo_w12) (w1:=(w10.setCell ⟨go5,(x5_1 : Int).toNat * 3 + 1,none⟩ (.int .i64 (wrap64 (x1_1 + 1))))) ?hg ?ho ?hn ?hr ?_;(case ho => rfl);(case hg => rfl);(case hn => rfl);(case hr => first | (go_simp;done) | (go_simp;rfl));intro w12 hw;have hg : w10.grownBy w12 (some go5):=(by rw [hw];exact HP11.2);have hp_ : Kd.R k78 78 w12 w0.heap.size (fun k_ => (P0_ k_ ∨ w.heap.size ≤ k_)) (.slice (some ⟨go5,0,none⟩) x0_1.length co8) y490:=(by rw [hw,Ny490.out];exact HP11.1);clear HP11;replace HB:=Aside0.mk ((by rw [hw];exact below_set (HB.out) GB5.out : Below w0.heap.size w0 w12));replace HK:=Aside0.mk (Kept.of_grown (S:=(fun k_ => P0_ k_)) hg (by repeat (first | (with_reducible first | exact HK.out | apply Kept.alloc | apply Kept.drewN | apply Kept.drew) | exact HK.out)) (fun k_ e_ => (HO_0.out.1 k_ e_)));replace HO_0:=Aside0.mk (hp_);clear hg hw hp_;have p7 : 0 ≤ (x5_1 : Int):=of_decide_eq_true Hd.a_;have q7 : (x5_1 : Int) < ((x0_1.length : Int) : Int):=of_decide_eq_true Hd.a_;obtain ⟨ce7,hcl7,hM7,hcc7,hfr7⟩:=Kd.R_elem HO_0.out z78 (x5_1 : Int) p7 q7;obtain rfl:=k78_openM hM7;have hx7_0 : w12.cell? ⟨go5,(x5_1 : Int).toNat * 3,none⟩ = some (.int .i64 ((rd_T78 y490 x5_1).f0)):=hcc7 0 _ rfl;have hx7_1 : w12.cell? ⟨go5,(x5_1 : Int).toNat * 3 + 1,none⟩ = some (.int .i64 ((rd_T78 y490 x5_1).f1)):=hcc7 1 _ rfl;have hx7_2 : w12.cell? ⟨go5,(x5_1 : Int).toNat * 3 + 2,none⟩ = some (.int .i64 ((rd_T78 y490 x5_1).f2)):=hcc7 2 _ rfl;have hf7_0 : w12.frozen? ⟨go5,(x5_1 : Int).toNat * 3,none⟩ = false:=hfr7 0;have hf7_1 : w12.frozen? ⟨go5,(x5_1 : Int).toNat * 3 + 1,none⟩ = false:=hfr7 1;have hf7_2 : w12.frozen? ⟨go5,(x5_1 : Int).toNat * 3 + 2,none⟩ = false:=hfr7 2;clear hcl7 hcc7 hfr7 hM7;replace p7:=eq_true p7;replace q7:=eq_true q7;have HX13:=Aside0.mk (show Kd.R k78 78 w12 w0.heap.size (fun k_ => (P0_ k_ ∨ w.heap.size ≤ k_)) (.slice (some ⟨go5,0,none⟩) x0_1.length co8) y490 from (Hd.r_ HO_0));obtain ⟨ce13,hcl13,hM13,hcc13,hfr13⟩:=Kd.R_elem HX13.out z78 (x5_1 : Int) (of_decide_eq_true Hd.a_) (by have h_ : (x5_1 : Int) < ((x0_1.length : Int) : Int):=of_decide_eq_true Hd.a_;first | exact h_ | (have e_:=(Kd.R_reads' HO_0.out).1;omega) | simpa using h_);obtain rfl:=k78_openM hM13;have HP13:=Kd.R_seg HX13.out (x5_1 : Int) (of_decide_eq_true Hd.a_) (by have h_ : (x5_1 : Int) < ((x0_1.length : Int) : Int):=of_decide_eq_true Hd.a_;first | exact h_ | (have e_:=(Kd.R_reads' HO_0.out).1;omega) | simpa using h_) (seg:=[.int .i64 (wrap64 ((wrap64 (x1_1 + 1)) + 1))]) (j:=2) hcl13 hcc13 (show 3 ≤ 3 from by decide) (x':=(⟨(rd_T78 y490 x5_1).f0,(rd_T78 y490 x5_1).f1,wrap64 ((wrap64 (x1_1 + 1)) + 1)⟩ : S78)) (k78_mkM _ _ _ (⟨(rd_T78 y490 x5_1).f0,(rd_T78 y490 x5_1).f1,wrap64 ((wrap64 (x1_1 + 1)) + 1)⟩ : S78) ) (fun _ hk => hk);have hx13_2:=hcc13 2 _ rfl;(try simp only [show (k78).sz = 3 from rfl,Nat.mul_one,Nat.add_zero] at hx13_2);have hf13_2:=hfr13 2;(try simp only [show (k78).sz = 3 from rfl,Nat.mul_one,Nat.add_zero] at hf13_2);clear hcl13 hcc13 hfr13 hM13) | ((with_reducible refine gate_store (t:=3) (p:=30) rfl ?_);refine store_event (t:=3) (p:=30) (v:=?vo_w14) (w1:=(w12.setCell ⟨go5,(x5_1 : Int).toNat * 3 + 2,none⟩ (.int .i64 (wrap64 ((wrap64 (x1_1 + 1)) + 1))))) ?hg ?ho ?hn ?hr ?_;(case ho => rfl);(case hg => rfl);(case hn => rfl);(case hr => first | (go_simp;done) | (go_simp;rfl));intro w14 hw;have hg : w12.grownBy w14 (some go5):=(by rw [hw];exact HP13.2);have hp_ : Kd.R k78 78 w14 w0.heap.size (fun k_ => (P0_ k_ ∨ w.heap.size ≤ k_)) (.slice (some ⟨go5,0,none⟩) x0_1.length co8) y491:=(by rw [hw,Ny491.out];exact HP13.1);clear HP13;replace HB:=Aside0.mk ((by rw [hw];exact below_set (HB.out) GB5.out : Below w0.heap.size w0 w14));replace HK:=Aside0.mk (Kept.of_grown (S:=(fun k_ => P0_ k_)) hg (by repeat (first | (with_reducible first | exact HK.out | apply Kept.alloc | apply Kept.drewN | apply Kept.drew) | exact HK.out)) (fun k_ e_ => (HO_0.out.1 k_ e_)));replace HO_0:=Aside0.mk (hp_);clear hg hw hp_))
     go_roundg k1
     case measure => have:=HK1.out;omega
     case rel => exact ⟨(y491),(wrap64 ((wrap64 ((wrap64 (x1_1 + 1)) + 1)) + 1)),(wrap64 (x5_1 + 1)),(by first | rfl | (simp;done) | (simp [*];done)),(by first | rfl | (simp;done) | (simp [*];done)),H',⟨by have:=HK1.out;omega⟩,⟨by (with_reducible repeat (first | apply Kd.R_alloc | apply Kd.R_drewN | apply Kd.R_drew));exact HO_0.out⟩,⟨by repeat (first | (with_reducible first | exact HK.out | apply Kept.alloc | apply Kept.drewN | apply Kept.drew) | exact HK.out)⟩,⟨Hd.b_⟩⟩
    ·
     rw [if_neg c4] at H
     exact absurd H (by simp)
   ·
    rw [if_neg c3] at H
    have c3b0 : decide (x5_1 < (x0_1.length : Int)) = false:=decide_eq_false c3
    clear c3
    simp only [Option.some.injEq,Prod.mk.injEq] at H
    obtain ⟨rfl,rfl⟩:=H
    obtain ⟨Ao15,co15,eo15⟩:=Kd.R_slice HO_0.out
    subst eo15
    go_wp2
    go_ret
    exact ⟨Hd.e_,by (with_reducible repeat (first | apply Kd.R_alloc | apply Kd.R_drewN | apply Kd.R_drew));exact HO_0.out,Hd.b_,by repeat (first | (with_reducible first | exact HK.out | apply Kept.alloc | apply Kept.drewN | apply Kept.drew) | exact HK.out)⟩
def laws_heldMeetS.l0 : Nat → List (S78) → Int → Int → Option (Int)
 | 0,_,_,_ => none
 | k + 1,x0,x1,x5 => if x5 < (x0.length : Int) then (if 0 ≤ x5 then (if ((rd_T78 x0 x5).f0) = x1 then (if ((rd_T78 x0 x5).f1) = (wrap64 (x1 + 1)) then (if ((rd_T78 x0 x5).f2) = (wrap64 ((wrap64 (x1 + 1)) + 1)) then (laws_heldMeetS.l0 k x0 (wrap64 ((wrap64 ((wrap64 (x1 + 1)) + 1)) + 1)) (wrap64 (x5 + 1))) else (some (-1))) else (some (-1))) else (some (-1))) else (none)) else (some x1)
def laws_heldMeetS.f (k : Nat) (l0 : List (S78)) (a1 : Int) : Option (Int):=laws_heldMeetS.l0 k l0 a1 0
set_option maxHeartbeats 8000000 in
set_option maxRecDepth 100000 in
theorem laws_heldMeetS.calls (k : Nat) (A0 : Option Addr) (c0 : Nat) (l0 : List (S78)) (a1 : Int) (r : Int) (w : World) (hr0 : Kd.C k78 w A0 l0.length l0) (hc0 : l0.length ≤ c0) (h : laws_heldMeetS.f k l0 a1 = some r) :
  Calls Try.prog 31 #[.slice A0 l0.length c0,.int .i64 a1] w fun e w' => e = .returned (.int .i64 r) ∧ Drawn0 w w':=by
 have HR0:=Aside0.mk hr0
 have HC0:=Aside0.mk hc0
 clear hr0 hc0
 have H : (laws_heldMeetS.l0 k l0 a1 0) = some r:=h
 clear h
 have H':=Aside0.mk H
 clear H
 go_enter Try.func31,Try.ntmps31
 go_wp2
 go_loopg [1,5] k (fun kq v1 v5 w' => ∃ (x1_1 : Int) (x5_1 : Int),v1 = .int .i64 x1_1 ∧ v5 = .int .i64 x5_1 ∧ Aside0 (laws_heldMeetS.l0 kq l0 x1_1 x5_1 = some r) ∧ Aside0 (kq ≤ k) ∧ Drawn0 w w')
 case atStart => exact ⟨(a1),(0),(by first | rfl | (simp;done) | (simp [*];done)),(by first | rfl | (simp;done) | (simp [*];done)),H',⟨Nat.le_refl _⟩,by repeat (first | exact Drawn0.refl _ | apply Drawn0.step)⟩
 case round =>
  clear H'
  try clear p2
  obtain ⟨x1_1,x5_1,rfl,rfl,HA,HK1,⟨m1,rfl⟩⟩:=hrel
  cases gk with
  | zero => exact absurd HA.out (by simp [laws_heldMeetS.l0])
  | succ k1 =>
   have H:=HA.out
   clear HA
   simp only [laws_heldMeetS.l0] at H
   by_cases c3 : x5_1 < (l0.length : Int)
   ·
    rw [if_pos c3] at H
    have c3b0 : decide (x5_1 < (l0.length : Int)) = true:=decide_eq_true c3
    clear c3
    by_cases c4 : 0 ≤ x5_1
    ·
     rw [if_pos c4] at H
     have c4b0 : decide (0 ≤ x5_1) = true:=decide_eq_true c4
     clear c4
     by_cases c5 : ((rd_T78 l0 x5_1).f0) = x1_1
     ·
      rw [if_pos c5] at H
      have c5b0 : (((rd_T78 l0 x5_1).f0) == x1_1) = true:=beq_iff_eq.mpr c5
      have c5b1 : (((rd_T78 l0 x5_1).f0) != x1_1) = false:=bne_eq_false_iff_eq.mpr c5
      clear c5
      by_cases c6 : ((rd_T78 l0 x5_1).f1) = (wrap64 (x1_1 + 1))
      ·
       rw [if_pos c6] at H
       have c6b0 : (((rd_T78 l0 x5_1).f1) == (wrap64 (x1_1 + 1))) = true:=beq_iff_eq.mpr c6
       have c6b1 : (((rd_T78 l0 x5_1).f1) != (wrap64 (x1_1 + 1))) = false:=bne_eq_false_iff_eq.mpr c6
       clear c6
       by_cases c7 : ((rd_T78 l0 x5_1).f2) = (wrap64 ((wrap64 (x1_1 + 1)) + 1))
       ·
        rw [if_pos c7] at H
        have c7b0 : (((rd_T78 l0 x5_1).f2) == (wrap64 ((wrap64 (x1_1 + 1)) + 1))) = true:=beq_iff_eq.mpr c7
        have c7b1 : (((rd_T78 l0 x5_1).f2) != (wrap64 ((wrap64 (x1_1 + 1)) + 1))) = false:=bne_eq_false_iff_eq.mpr c7
        clear c7
        have H':=Aside0.mk H
        clear H
        have p492 : 0 ≤ (x5_1 : Int):=of_decide_eq_true Hd.a_
        have q492 : x5_1 < (l0.length : Int):=of_decide_eq_true Hd.a_
        obtain ⟨ad492,e492,hx492_0,hx492_1,hx492_2⟩:=at_T78 HR0.out x5_1 p492 q492
        cases e492
        replace p492:=eq_true p492
        replace q492:=eq_true q492
        have p493 : 0 ≤ (x5_1 : Int):=of_decide_eq_true Hd.a_
        have q493 : x5_1 < (l0.length : Int):=of_decide_eq_true Hd.a_
        obtain ⟨ad493,e493,hx493_0,hx493_1,hx493_2⟩:=at_T78 HR0.out x5_1 p493 q493
        obtain rfl : ad492 = ad493:=(by injection e493)
        replace p493:=eq_true p493
        replace q493:=eq_true q493
        have p494 : 0 ≤ (x5_1 : Int):=of_decide_eq_true Hd.a_
        have q494 : x5_1 < (l0.length : Int):=of_decide_eq_true Hd.a_
        obtain ⟨ad494,e494,hx494_0,hx494_1,hx494_2⟩:=at_T78 HR0.out x5_1 p494 q494
        obtain rfl : ad492 = ad494:=(by injection e494)
        replace p494:=eq_true p494
        replace q494:=eq_true q494
        go_wp2
        go_roundg k1
        case measure => have:=HK1.out;omega
        case rel => exact ⟨(wrap64 ((wrap64 ((wrap64 (x1_1 + 1)) + 1)) + 1)),(wrap64 (x5_1 + 1)),(by first | rfl | (simp;done) | (simp [*];done)),(by first | rfl | (simp;done) | (simp [*];done)),H',⟨by have:=HK1.out;omega⟩,by repeat (first | exact Drawn0.refl _ | apply Drawn0.step)⟩
       ·
        rw [if_neg c7] at H
        have c7b0 : (((rd_T78 l0 x5_1).f2) == (wrap64 ((wrap64 (x1_1 + 1)) + 1))) = false:=beq_eq_false_iff_ne.mpr c7
        have c7b1 : (((rd_T78 l0 x5_1).f2) != (wrap64 ((wrap64 (x1_1 + 1)) + 1))) = true:=bne_iff_ne.mpr c7
        obtain rfl:=Option.some.inj H
        have p492 : 0 ≤ (x5_1 : Int):=of_decide_eq_true Hd.a_
        have q492 : x5_1 < (l0.length : Int):=of_decide_eq_true Hd.a_
        obtain ⟨ad492,e492,hx492_0,hx492_1,hx492_2⟩:=at_T78 HR0.out x5_1 p492 q492
        cases e492
        replace p492:=eq_true p492
        replace q492:=eq_true q492
        have p493 : 0 ≤ (x5_1 : Int):=of_decide_eq_true Hd.a_
        have q493 : x5_1 < (l0.length : Int):=of_decide_eq_true Hd.a_
        obtain ⟨ad493,e493,hx493_0,hx493_1,hx493_2⟩:=at_T78 HR0.out x5_1 p493 q493
        obtain rfl : ad492 = ad493:=(by injection e493)
        replace p493:=eq_true p493
        replace q493:=eq_true q493
        have p494 : 0 ≤ (x5_1 : Int):=of_decide_eq_true Hd.a_
        have q494 : x5_1 < (l0.length : Int):=of_decide_eq_true Hd.a_
        obtain ⟨ad494,e494,hx494_0,hx494_1,hx494_2⟩:=at_T78 HR0.out x5_1 p494 q494
        obtain rfl : ad492 = ad494:=(by injection e494)
        replace p494:=eq_true p494
        replace q494:=eq_true q494
        go_wp2
        go_ret
        exact ⟨by first | rfl | (simp;done) | (simp [*];done),by repeat (first | exact Drawn0.refl _ | apply Drawn0.step)⟩
      ·
       rw [if_neg c6] at H
       have c6b0 : (((rd_T78 l0 x5_1).f1) == (wrap64 (x1_1 + 1))) = false:=beq_eq_false_iff_ne.mpr c6
       have c6b1 : (((rd_T78 l0 x5_1).f1) != (wrap64 (x1_1 + 1))) = true:=bne_iff_ne.mpr c6
       obtain rfl:=Option.some.inj H
       have p492 : 0 ≤ (x5_1 : Int):=of_decide_eq_true Hd.a_
       have q492 : x5_1 < (l0.length : Int):=of_decide_eq_true Hd.a_
       obtain ⟨ad492,e492,hx492_0,hx492_1,hx492_2⟩:=at_T78 HR0.out x5_1 p492 q492
       cases e492
       replace p492:=eq_true p492
       replace q492:=eq_true q492
       have p493 : 0 ≤ (x5_1 : Int):=of_decide_eq_true Hd.a_
       have q493 : x5_1 < (l0.length : Int):=of_decide_eq_true Hd.a_
       obtain ⟨ad493,e493,hx493_0,hx493_1,hx493_2⟩:=at_T78 HR0.out x5_1 p493 q493
       obtain rfl : ad492 = ad493:=(by injection e493)
       replace p493:=eq_true p493
       replace q493:=eq_true q493
       go_wp2
       go_ret
       exact ⟨by first | rfl | (simp;done) | (simp [*];done),by repeat (first | exact Drawn0.refl _ | apply Drawn0.step)⟩
     ·
      rw [if_neg c5] at H
      have c5b0 : (((rd_T78 l0 x5_1).f0) == x1_1) = false:=beq_eq_false_iff_ne.mpr c5
      have c5b1 : (((rd_T78 l0 x5_1).f0) != x1_1) = true:=bne_iff_ne.mpr c5
      obtain rfl:=Option.some.inj H
      have p492 : 0 ≤ (x5_1 : Int):=of_decide_eq_true Hd.a_
      have q492 : x5_1 < (l0.length : Int):=of_decide_eq_true Hd.a_
      obtain ⟨ad492,e492,hx492_0,hx492_1,hx492_2⟩:=at_T78 HR0.out x5_1 p492 q492
      cases e492
      replace p492:=eq_true p492
      replace q492:=eq_true q492
      go_wp2
      go_ret
      exact ⟨by first | rfl | (simp;done) | (simp [*];done),by repeat (first | exact Drawn0.refl _ | apply Drawn0.step)⟩
    ·
     rw [if_neg c4] at H
     exact absurd H (by simp)
   ·
    rw [if_neg c3] at H
    have c3b0 : decide (x5_1 < (l0.length : Int)) = false:=decide_eq_false c3
    clear c3
    obtain rfl:=Option.some.inj H
    go_wp2
    go_ret
    exact ⟨by first | rfl | (simp;done) | (simp [*];done),by repeat (first | exact Drawn0.refl _ | apply Drawn0.step)⟩
def laws_FnExactMeetsOf.j0 : Nat → List (S61) → List (S78) → List (S78) → Bool → Option (Bool)
 | 0,_,_,_,_ => none
 | k + 1,x0,x4,x6,x42 => if x42 = true then (some false) else ((laws_markMeetS.f k x6 1).bind fun bt515 => ((laws_heldMeetS.f k bt515.2 1).bind fun t517 => (if t517 < 0 then (some false) else (if t517 = bt515.1 then ((laws_toFeatureS.f k x0).bind fun t518 => ((impl_MeetsOf.f k t518).bind fun t521 => ((laws_eqMeetS.f k t521 x4).bind fun t524 => (if t524 = true then ((laws_heldMeetS.f k bt515.2 1).bind fun t525 => (if t525 < 0 then (some false) else (if t525 = bt515.1 then (some true) else (some false)))) else (some false))))) else (some false)))))
def laws_FnExactMeetsOf.f (k : Nat) (l0 : List (S61)) : Option (Bool):=(laws_szFeatureS.f k l0 1048576).bind fun t495 => (if t495 < 0 then (some true) else ((laws_toFeatureS.f k l0).bind fun t496 => ((spec_MeetsOf.f k t496).bind fun t499 => ((laws_toFeatureS.f k l0).bind fun t502 => ((impl_MeetsOf.f k t502).bind fun t505 => ((laws_eqMeetS.f k t505 t499).bind fun t508 => (if t508 = true then ((laws_toFeatureS.f k l0).bind fun t509 => ((laws_eqFeatureS.f k t502 t509).bind fun t512 => (if t512 = true then ((laws_markFeatureS.f k t502 1).bind fun t513 => (if t513 < 0 then (laws_FnExactMeetsOf.j0 k l0 t499 t505 true) else ((laws_eqMeetS.f k t505 t499).bind fun t514 => (laws_FnExactMeetsOf.j0 k l0 t499 t505 (!t514))))) else (some false)))) else (some false))))))))
set_option maxHeartbeats 8000000 in
set_option maxRecDepth 100000 in
theorem laws_FnExactMeetsOf.calls (k : Nat) (A0 : Option Addr) (c0 : Nat) (l0 : List (S61)) (r : Bool) (w : World) (hr0 : Kd.C k61 w A0 l0.length l0) (hc0 : l0.length ≤ c0) (h : laws_FnExactMeetsOf.f k l0 = some r) :
  Calls Try.prog 6 #[.slice A0 l0.length c0] w fun e w' => e = .returned (.bool r) ∧ Below w.heap.size w w':=by
 have HR0:=Aside0.mk hr0
 have HC0:=Aside0.mk hc0
 clear hr0 hc0
 have HB:=Aside0.mk (Below.refl w.heap.size w)
 have H : ((laws_szFeatureS.f k l0 1048576).bind fun t495 => (if t495 < 0 then (some true) else ((laws_toFeatureS.f k l0).bind fun t496 => ((spec_MeetsOf.f k t496).bind fun t499 => ((laws_toFeatureS.f k l0).bind fun t502 => ((impl_MeetsOf.f k t502).bind fun t505 => ((laws_eqMeetS.f k t505 t499).bind fun t508 => (if t508 = true then ((laws_toFeatureS.f k l0).bind fun t509 => ((laws_eqFeatureS.f k t502 t509).bind fun t512 => (if t512 = true then ((laws_markFeatureS.f k t502 1).bind fun t513 => (if t513 < 0 then (laws_FnExactMeetsOf.j0 k l0 t499 t505 true) else ((laws_eqMeetS.f k t505 t499).bind fun t514 => (laws_FnExactMeetsOf.j0 k l0 t499 t505 (!t514))))) else (some false)))) else (some false))))))))) = some r:=h
 clear h
 replace H:=Option.bind_eq_some_iff.mp H
 obtain ⟨t495,A20,H⟩:=H
 replace H : (if t495 < 0 then (some true) else ((laws_toFeatureS.f k l0).bind fun t496 => ((spec_MeetsOf.f k t496).bind fun t499 => ((laws_toFeatureS.f k l0).bind fun t502 => ((impl_MeetsOf.f k t502).bind fun t505 => ((laws_eqMeetS.f k t505 t499).bind fun t508 => (if t508 = true then ((laws_toFeatureS.f k l0).bind fun t509 => ((laws_eqFeatureS.f k t502 t509).bind fun t512 => (if t512 = true then ((laws_markFeatureS.f k t502 1).bind fun t513 => (if t513 < 0 then (laws_FnExactMeetsOf.j0 k l0 t499 t505 true) else ((laws_eqMeetS.f k t505 t499).bind fun t514 => (laws_FnExactMeetsOf.j0 k l0 t499 t505 (!t514))))) else (some false)))) else (some false)))))))) = some r:=H
 have A2:=Aside0.mk A20
 clear A20
 by_cases c3 : t495 < 0
 ·
  rw [if_pos c3] at H
  have c3b0 : decide (t495 < 0) = true:=decide_eq_true c3
  clear c3
  obtain rfl:=Option.some.inj H
  go_enter Try.func6,Try.ntmps6
  go_wp2_with (first | ((with_reducible refine gate_callee (f:=8) rfl ?_);refine goesL_ (some 13) rfl rfl Try.func8 (by kernel_rfl) rfl #[.slice A0 l0.length c0,.int .i64 1048576] rfl Hd.m_ ?_;(with_reducible refine (laws_szFeatureS.calls k _ _ l0 1048576 t495 _ ?side1 ?side2 A2.out).mono ?_);(case side1 => repeat (first | exact HR0.out | (with_reducible refine Kd.C_alloc ?_ _) | (with_reducible refine Kd.C_drewN ?_ _) | (with_reducible refine Kd.C_drew ?_)));(case side2 => exact HC0.out);rintro e w4 ⟨rfl,hb⟩;refine ⟨_,rfl,?_⟩;replace HB:=Aside0.mk (below_step Hd.b_ hb);(try clear hb);(try clear hb2);(try clear hk);(try clear hi)))
  go_ret
  exact ⟨Hd.e_,Hd.b_⟩
 ·
  rw [if_neg c3] at H
  have c3b0 : decide (t495 < 0) = false:=decide_eq_false c3
  clear c3
  replace H:=Option.bind_eq_some_iff.mp H
  obtain ⟨t496,A50,H⟩:=H
  replace H : ((spec_MeetsOf.f k t496).bind fun t499 => ((laws_toFeatureS.f k l0).bind fun t502 => ((impl_MeetsOf.f k t502).bind fun t505 => ((laws_eqMeetS.f k t505 t499).bind fun t508 => (if t508 = true then ((laws_toFeatureS.f k l0).bind fun t509 => ((laws_eqFeatureS.f k t502 t509).bind fun t512 => (if t512 = true then ((laws_markFeatureS.f k t502 1).bind fun t513 => (if t513 < 0 then (laws_FnExactMeetsOf.j0 k l0 t499 t505 true) else ((laws_eqMeetS.f k t505 t499).bind fun t514 => (laws_FnExactMeetsOf.j0 k l0 t499 t505 (!t514))))) else (some false)))) else (some false)))))) = some r:=H
  have A5:=Aside0.mk A50
  clear A50
  replace H:=Option.bind_eq_some_iff.mp H
  obtain ⟨t499,A60,H⟩:=H
  replace H : ((laws_toFeatureS.f k l0).bind fun t502 => ((impl_MeetsOf.f k t502).bind fun t505 => ((laws_eqMeetS.f k t505 t499).bind fun t508 => (if t508 = true then ((laws_toFeatureS.f k l0).bind fun t509 => ((laws_eqFeatureS.f k t502 t509).bind fun t512 => (if t512 = true then ((laws_markFeatureS.f k t502 1).bind fun t513 => (if t513 < 0 then (laws_FnExactMeetsOf.j0 k l0 t499 t505 true) else ((laws_eqMeetS.f k t505 t499).bind fun t514 => (laws_FnExactMeetsOf.j0 k l0 t499 t505 (!t514))))) else (some false)))) else (some false))))) = some r:=H
  have A6:=Aside0.mk A60
  clear A60
  replace H:=Option.bind_eq_some_iff.mp H
  obtain ⟨t502,A70,H⟩:=H
  replace H : ((impl_MeetsOf.f k t502).bind fun t505 => ((laws_eqMeetS.f k t505 t499).bind fun t508 => (if t508 = true then ((laws_toFeatureS.f k l0).bind fun t509 => ((laws_eqFeatureS.f k t502 t509).bind fun t512 => (if t512 = true then ((laws_markFeatureS.f k t502 1).bind fun t513 => (if t513 < 0 then (laws_FnExactMeetsOf.j0 k l0 t499 t505 true) else ((laws_eqMeetS.f k t505 t499).bind fun t514 => (laws_FnExactMeetsOf.j0 k l0 t499 t505 (!t514))))) else (some false)))) else (some false)))) = some r:=H
  have A7:=Aside0.mk A70
  clear A70
  replace H:=Option.bind_eq_some_iff.mp H
  obtain ⟨t505,A80,H⟩:=H
  replace H : ((laws_eqMeetS.f k t505 t499).bind fun t508 => (if t508 = true then ((laws_toFeatureS.f k l0).bind fun t509 => ((laws_eqFeatureS.f k t502 t509).bind fun t512 => (if t512 = true then ((laws_markFeatureS.f k t502 1).bind fun t513 => (if t513 < 0 then (laws_FnExactMeetsOf.j0 k l0 t499 t505 true) else ((laws_eqMeetS.f k t505 t499).bind fun t514 => (laws_FnExactMeetsOf.j0 k l0 t499 t505 (!t514))))) else (some false)))) else (some false))) = some r:=H
  have A8:=Aside0.mk A80
  clear A80
  replace H:=Option.bind_eq_some_iff.mp H
  obtain ⟨t508,A90,H⟩:=H
  replace H : (if t508 = true then ((laws_toFeatureS.f k l0).bind fun t509 => ((laws_eqFeatureS.f k t502 t509).bind fun t512 => (if t512 = true then ((laws_markFeatureS.f k t502 1).bind fun t513 => (if t513 < 0 then (laws_FnExactMeetsOf.j0 k l0 t499 t505 true) else ((laws_eqMeetS.f k t505 t499).bind fun t514 => (laws_FnExactMeetsOf.j0 k l0 t499 t505 (!t514))))) else (some false)))) else (some false)) = some r:=H
  have A9:=Aside0.mk A90
  clear A90
  by_cases c10 : t508 = true
  ·
   subst c10
   have H1 : ((laws_toFeatureS.f k l0).bind fun t509 => ((laws_eqFeatureS.f k t502 t509).bind fun t512 => (if t512 = true then ((laws_markFeatureS.f k t502 1).bind fun t513 => (if t513 < 0 then (laws_FnExactMeetsOf.j0 k l0 t499 t505 true) else ((laws_eqMeetS.f k t505 t499).bind fun t514 => (laws_FnExactMeetsOf.j0 k l0 t499 t505 (!t514))))) else (some false)))) = some r:=by rw [if_pos rfl] at H;exact H
   clear H
   have H:=H1
   clear H1
   replace H:=Option.bind_eq_some_iff.mp H
   obtain ⟨t509,A110,H⟩:=H
   replace H : ((laws_eqFeatureS.f k t502 t509).bind fun t512 => (if t512 = true then ((laws_markFeatureS.f k t502 1).bind fun t513 => (if t513 < 0 then (laws_FnExactMeetsOf.j0 k l0 t499 t505 true) else ((laws_eqMeetS.f k t505 t499).bind fun t514 => (laws_FnExactMeetsOf.j0 k l0 t499 t505 (!t514))))) else (some false))) = some r:=H
   have A11:=Aside0.mk A110
   clear A110
   replace H:=Option.bind_eq_some_iff.mp H
   obtain ⟨t512,A120,H⟩:=H
   replace H : (if t512 = true then ((laws_markFeatureS.f k t502 1).bind fun t513 => (if t513 < 0 then (laws_FnExactMeetsOf.j0 k l0 t499 t505 true) else ((laws_eqMeetS.f k t505 t499).bind fun t514 => (laws_FnExactMeetsOf.j0 k l0 t499 t505 (!t514))))) else (some false)) = some r:=H
   have A12:=Aside0.mk A120
   clear A120
   by_cases c13 : t512 = true
   ·
    subst c13
    have H1 : ((laws_markFeatureS.f k t502 1).bind fun t513 => (if t513 < 0 then (laws_FnExactMeetsOf.j0 k l0 t499 t505 true) else ((laws_eqMeetS.f k t505 t499).bind fun t514 => (laws_FnExactMeetsOf.j0 k l0 t499 t505 (!t514))))) = some r:=by rw [if_pos rfl] at H;exact H
    clear H
    have H:=H1
    clear H1
    replace H:=Option.bind_eq_some_iff.mp H
    obtain ⟨t513,A140,H⟩:=H
    replace H : (if t513 < 0 then (laws_FnExactMeetsOf.j0 k l0 t499 t505 true) else ((laws_eqMeetS.f k t505 t499).bind fun t514 => (laws_FnExactMeetsOf.j0 k l0 t499 t505 (!t514)))) = some r:=H
    have A14:=Aside0.mk A140
    clear A140
    have HC15:=Aside0.mk H
    clear H
    go_enter Try.func6,Try.ntmps6
    go_upto_region 14 with (first | ((with_reducible refine gate_callee (f:=8) rfl ?_);refine goesL_ (some 13) rfl rfl Try.func8 (by kernel_rfl) rfl #[.slice A0 l0.length c0,.int .i64 1048576] rfl Hd.m_ ?_;(with_reducible refine (laws_szFeatureS.calls k _ _ l0 1048576 t495 _ ?side1 ?side2 A2.out).mono ?_);(case side1 => repeat (first | exact HR0.out | (with_reducible refine Kd.C_alloc ?_ _) | (with_reducible refine Kd.C_drewN ?_ _) | (with_reducible refine Kd.C_drew ?_)));(case side2 => exact HC0.out);rintro e w16 ⟨rfl,hb⟩;refine ⟨_,rfl,?_⟩;replace HB:=Aside0.mk (below_step Hd.b_ hb);(try clear hb);(try clear hb2);(try clear hk);(try clear hi)) | ((with_reducible refine gate_callee (f:=10) rfl ?_);refine goesL_ (some 17) rfl rfl Try.func10 (by kernel_rfl) rfl #[.slice A0 l0.length c0] rfl Hd.m_ ?_;(with_reducible refine (laws_toFeatureS.calls k _ _ l0 t496 _ ?side1 ?side2 A5.out).mono ?_);(case side1 => repeat (first | exact (Kd.C_below HR0.out HB.out) | (with_reducible refine Kd.C_alloc ?_ _) | (with_reducible refine Kd.C_drewN ?_ _) | (with_reducible refine Kd.C_drew ?_)));(case side2 => exact HC0.out);rintro e w17 ⟨v497,rfl,ho0,hb⟩;refine ⟨_,rfl,?_⟩;have HO498:=Aside0.mk (Kd.S_lower ho0 (below_size Hd.b_));replace HB:=Aside0.mk (below_step Hd.b_ hb);(try clear hb);(try clear hb2);(try clear hk);(try clear hi);(try clear ho0);obtain ⟨Ao18,co18,eo18⟩:=Kd.S_slice HO498.out;subst eo18) | ((with_reducible refine gate_callee (f:=28) rfl ?_);refine goesL_ (some 18) rfl rfl Try.func28 (by kernel_rfl) rfl #[.slice Ao18 t496.length co18] rfl Hd.m_ ?_;(with_reducible refine (spec_MeetsOf.calls k _ _ t496 t499 _ ?side1 ?side2 A6.out).mono ?_);(case side1 => repeat (first | exact (Kd.S_reads' HO498.out).2.2 | (with_reducible refine Kd.C_alloc ?_ _) | (with_reducible refine Kd.C_drewN ?_ _) | (with_reducible refine Kd.C_drew ?_)));(case side2 => exact (Kd.S_reads' HO498.out).2.1);rintro e w19 ⟨v500,rfl,ho0,hb⟩;refine ⟨_,rfl,?_⟩;replace HO498:=Aside0.mk (Kd.S_below (by (with_reducible repeat (first | apply Kd.S_alloc | apply Kd.S_drewN | apply Kd.S_drew));exact HO498.out) hb);have HO501:=Aside0.mk (Kd.R_lower ho0 (below_size Hd.b_));replace HB:=Aside0.mk (below_step Hd.b_ hb);(try clear hb);(try clear hb2);(try clear hk);(try clear hi);(try clear ho0)) | ((with_reducible refine gate_callee (f:=10) rfl ?_);refine goesL_ (some 20) rfl rfl Try.func10 (by kernel_rfl) rfl #[.slice A0 l0.length c0] rfl Hd.m_ ?_;(with_reducible refine (laws_toFeatureS.calls k _ _ l0 t502 _ ?side1 ?side2 A7.out).mono ?_);(case side1 => repeat (first | exact (Kd.C_below HR0.out HB.out) | (with_reducible refine Kd.C_alloc ?_ _) | (with_reducible refine Kd.C_drewN ?_ _) | (with_reducible refine Kd.C_drew ?_)));(case side2 => exact HC0.out);rintro e w20 ⟨v503,rfl,ho0,hb⟩;refine ⟨_,rfl,?_⟩;replace HO501:=Aside0.mk (Kd.R_below (Hd.r_ HO501) hb);have HO504:=Aside0.mk (Kd.S_lower (Kd.S_new' ho0 (Kd.S_lt (by (with_reducible repeat (first | apply Kd.S_alloc | apply Kd.S_drewN | apply Kd.S_drew));exact HO498.out))) (below_size Hd.b_));replace HO498:=Aside0.mk (Kd.S_elder' (by (with_reducible repeat (first | apply Kd.S_alloc | apply Kd.S_drewN | apply Kd.S_drew));exact HO498.out) (Kd.S_base ho0) hb);replace HB:=Aside0.mk (below_step Hd.b_ hb);(try clear hb);(try clear hb2);(try clear hk);(try clear hi);(try clear ho0);obtain ⟨Ao21,co21,eo21⟩:=Kd.S_slice HO504.out;subst eo21) | ((with_reducible refine gate_callee (f:=21) rfl ?_);refine goesL_ (some 22) rfl rfl Try.func21 (by kernel_rfl) rfl #[.slice Ao21 t502.length co21] rfl Hd.m_ ?_;(with_reducible refine (impl_MeetsOf.calls k _ _ t502 t505 _ ?side1 ?side2 A8.out).mono ?_);(case side1 => repeat (first | exact (Kd.S_reads' HO504.out).2.2 | (with_reducible refine Kd.C_alloc ?_ _) | (with_reducible refine Kd.C_drewN ?_ _) | (with_reducible refine Kd.C_drew ?_)));(case side2 => exact (Kd.S_reads' HO504.out).2.1);rintro e w22 ⟨v506,rfl,ho0,hb⟩;refine ⟨_,rfl,?_⟩;replace HO498:=Aside0.mk (Kd.S_below (by (with_reducible repeat (first | apply Kd.S_alloc | apply Kd.S_drewN | apply Kd.S_drew));exact HO498.out) hb);replace HO504:=Aside0.mk (Kd.S_below (by (with_reducible repeat (first | apply Kd.S_alloc | apply Kd.S_drewN | apply Kd.S_drew));exact HO504.out) hb);have HO507:=Aside0.mk (Kd.R_lower (Kd.R_new' ho0 (Kd.R_lt (Hd.r_ HO501))) (below_size Hd.b_));replace HO501:=Aside0.mk (Kd.R_elder' (Hd.r_ HO501) (Kd.R_base ho0) hb);replace HB:=Aside0.mk (below_step Hd.b_ hb);(try clear hb);(try clear hb2);(try clear hk);(try clear hi);(try clear ho0);obtain ⟨Ao23,co23,eo23⟩:=Kd.R_slice HO507.out;subst eo23;obtain ⟨Ao24,co24,eo24⟩:=Kd.R_slice HO501.out;subst eo24) | ((with_reducible refine gate_callee (f:=29) rfl ?_);refine goesL_ (some 25) rfl rfl Try.func29 (by kernel_rfl) rfl #[.slice Ao23 t505.length co23,.slice Ao24 t499.length co24] rfl Hd.m_ ?_;(with_reducible refine (laws_eqMeetS.calls k _ _ t505 _ _ t499 true _ ?side1 ?side2 ?side3 ?side4 A9.out).mono ?_);(case side1 => repeat (first | exact (Kd.R_reads' HO507.out).2.2 | (with_reducible refine Kd.C_alloc ?_ _) | (with_reducible refine Kd.C_drewN ?_ _) | (with_reducible refine Kd.C_drew ?_)));(case side2 => exact (Kd.R_reads' HO507.out).2.1);(case side3 => repeat (first | exact (Kd.R_reads' HO501.out).2.2 | (with_reducible refine Kd.C_alloc ?_ _) | (with_reducible refine Kd.C_drewN ?_ _) | (with_reducible refine Kd.C_drew ?_)));(case side4 => exact (Kd.R_reads' HO501.out).2.1);rintro e w25 ⟨rfl,hb⟩;refine ⟨_,rfl,?_⟩;replace HO498:=Aside0.mk (Kd.S_below (by (with_reducible repeat (first | apply Kd.S_alloc | apply Kd.S_drewN | apply Kd.S_drew));exact HO498.out) hb);replace HO501:=Aside0.mk (Kd.R_below (Hd.r_ HO501) hb);replace HO504:=Aside0.mk (Kd.S_below (by (with_reducible repeat (first | apply Kd.S_alloc | apply Kd.S_drewN | apply Kd.S_drew));exact HO504.out) hb);replace HO507:=Aside0.mk (Kd.R_below (Hd.r_ HO507) hb);replace HB:=Aside0.mk (below_step Hd.b_ hb);(try clear hb);(try clear hb2);(try clear hk);(try clear hi)) | ((with_reducible refine gate_callee (f:=10) rfl ?_);refine goesL_ (some 29) rfl rfl Try.func10 (by kernel_rfl) rfl #[.slice A0 l0.length c0] rfl Hd.m_ ?_;(with_reducible refine (laws_toFeatureS.calls k _ _ l0 t509 _ ?side1 ?side2 A11.out).mono ?_);(case side1 => repeat (first | exact (Kd.C_below HR0.out HB.out) | (with_reducible refine Kd.C_alloc ?_ _) | (with_reducible refine Kd.C_drewN ?_ _) | (with_reducible refine Kd.C_drew ?_)));(case side2 => exact HC0.out);rintro e w26 ⟨v510,rfl,ho0,hb⟩;refine ⟨_,rfl,?_⟩;replace HO501:=Aside0.mk (Kd.R_below (Hd.r_ HO501) hb);replace HO507:=Aside0.mk (Kd.R_below (Hd.r_ HO507) hb);have HO511:=Aside0.mk (Kd.S_lower (Kd.S_new' (Kd.S_new' ho0 (Kd.S_lt (by (with_reducible repeat (first | apply Kd.S_alloc | apply Kd.S_drewN | apply Kd.S_drew));exact HO498.out))) (Kd.S_lt (by (with_reducible repeat (first | apply Kd.S_alloc | apply Kd.S_drewN | apply Kd.S_drew));exact HO504.out))) (below_size Hd.b_));replace HO498:=Aside0.mk (Kd.S_elder' (by (with_reducible repeat (first | apply Kd.S_alloc | apply Kd.S_drewN | apply Kd.S_drew));exact HO498.out) (Kd.S_base ho0) hb);replace HO504:=Aside0.mk (Kd.S_elder' (by (with_reducible repeat (first | apply Kd.S_alloc | apply Kd.S_drewN | apply Kd.S_drew));exact HO504.out) (Kd.S_base ho0) hb);replace HB:=Aside0.mk (below_step Hd.b_ hb);(try clear hb);(try clear hb2);(try clear hk);(try clear hi);(try clear ho0);obtain ⟨Ao27,co27,eo27⟩:=Kd.S_slice HO511.out;subst eo27) | ((with_reducible refine gate_callee (f:=13) rfl ?_);refine goesL_ (some 30) rfl rfl Try.func13 (by kernel_rfl) rfl #[.slice Ao21 t502.length co21,.slice Ao27 t509.length co27] rfl Hd.m_ ?_;(with_reducible refine (laws_eqFeatureS.calls k _ _ t502 _ _ t509 true _ ?side1 ?side2 ?side3 ?side4 A12.out).mono ?_);(case side1 => repeat (first | exact (Kd.S_reads' HO504.out).2.2 | (with_reducible refine Kd.C_alloc ?_ _) | (with_reducible refine Kd.C_drewN ?_ _) | (with_reducible refine Kd.C_drew ?_)));(case side2 => exact (Kd.S_reads' HO504.out).2.1);(case side3 => repeat (first | exact (Kd.S_reads' HO511.out).2.2 | (with_reducible refine Kd.C_alloc ?_ _) | (with_reducible refine Kd.C_drewN ?_ _) | (with_reducible refine Kd.C_drew ?_)));(case side4 => exact (Kd.S_reads' HO511.out).2.1);rintro e w28 ⟨rfl,hb⟩;refine ⟨_,rfl,?_⟩;replace HO498:=Aside0.mk (Kd.S_below (by (with_reducible repeat (first | apply Kd.S_alloc | apply Kd.S_drewN | apply Kd.S_drew));exact HO498.out) hb);replace HO501:=Aside0.mk (Kd.R_below (Hd.r_ HO501) hb);replace HO504:=Aside0.mk (Kd.S_below (by (with_reducible repeat (first | apply Kd.S_alloc | apply Kd.S_drewN | apply Kd.S_drew));exact HO504.out) hb);replace HO507:=Aside0.mk (Kd.R_below (Hd.r_ HO507) hb);replace HO511:=Aside0.mk (Kd.S_below (by (with_reducible repeat (first | apply Kd.S_alloc | apply Kd.S_drewN | apply Kd.S_drew));exact HO511.out) hb);replace HB:=Aside0.mk (below_step Hd.b_ hb);(try clear hb);(try clear hb2);(try clear hk);(try clear hi)) | ((with_reducible refine gate_callee (f:=14) rfl ?_);refine goesL_ (some 34) rfl rfl Try.func14 (by kernel_rfl) rfl #[.slice Ao21 t502.length co21,.int .i64 1] rfl Hd.m_ ?_;(refine (laws_markFeatureS.calls k _ _ t502 1 t513 w _ Hd.b_ (laws_markFeatureS.ty (by (with_reducible repeat (first | apply Kd.S_alloc | apply Kd.S_drewN | apply Kd.S_drew));exact HO504.out)) A14.out).mono ?_);rintro e wmk_ ⟨rfl,hb,hkp⟩;refine ⟨_,rfl,?_⟩;replace HO501:=Aside0.mk (by first | exact laws_markFeatureS.kt (Hd.r_ HO501) hkp rfl | exact laws_markFeatureS.ka rfl (Hd.r_ HO501) hkp laws_markFeatureS.pj);replace HO507:=Aside0.mk (by first | exact laws_markFeatureS.kt (Hd.r_ HO507) hkp rfl | exact laws_markFeatureS.ka rfl (Hd.r_ HO507) hkp laws_markFeatureS.pj);replace HB:=Aside0.mk hb;(try clear hb);(try clear hkp)))
    (try simp only [Act.put,List.setIfInBounds_toArray,List.set_cons_zero,List.set_cons_succ])
    go_cut [42] (fun v42 wc => ∃ (kq : Nat) (x42_14 : Bool),v42 = .bool x42_14 ∧ Aside0 (laws_FnExactMeetsOf.j0 kq l0 t499 t505 x42_14 = some r) ∧ Aside0 (kq ≤ k) ∧ Aside0 (Kd.R k78 78 wc w.heap.size (fun k_ => some k_ ≠ ((.slice Ao23 t505.length co23) : Value).ownBlock) (.slice Ao24 t499.length co24) t499) ∧ Aside0 (Kd.R k78 78 wc w.heap.size (fun k_ => some k_ ≠ ((.slice Ao24 t499.length co24) : Value).ownBlock) (.slice Ao23 t505.length co23) t505) ∧ Aside0 (Below w.heap.size w wc))
    case first =>
     have H:=HC15.out
     clear HC15
     by_cases c29 : t513 < 0
     ·
      rw [if_pos c29] at H
      have c29b0 : decide (t513 < 0) = true:=decide_eq_true c29
      clear c29
      (first | rw [c29b0] | (simp only [i64_w,i32_w];rw [c29b0]) | skip)
      have H':=Aside0.mk H
      clear H
      go_wp2
      go_meet
      case rel => exact ⟨_,(true),(by first | rfl | (simp;done) | (simp [*];done)),H',⟨by first | omega | exact Nat.le_refl _⟩,⟨by (with_reducible repeat (first | apply Kd.R_alloc | apply Kd.R_drewN | apply Kd.R_drew));exact Kd.R_mono HO501.out (fun _ hk => hk.2)⟩,⟨by (with_reducible repeat (first | apply Kd.R_alloc | apply Kd.R_drewN | apply Kd.R_drew));exact Kd.R_mono HO507.out (fun _ hk => hk.2)⟩,⟨Hd.b_⟩⟩
     ·
      rw [if_neg c29] at H
      have c29b0 : decide (t513 < 0) = false:=decide_eq_false c29
      clear c29
      (first | rw [c29b0] | (simp only [i64_w,i32_w];rw [c29b0]) | skip)
      replace H:=Option.bind_eq_some_iff.mp H
      obtain ⟨t514,A300,H⟩:=H
      replace H : (laws_FnExactMeetsOf.j0 k l0 t499 t505 (!t514)) = some r:=H
      have A30:=Aside0.mk A300
      clear A300
      have H':=Aside0.mk H
      clear H
      go_wp2_with (first | (go_at_call 29;(with_reducible refine (laws_eqMeetS.calls k _ _ t505 _ _ t499 t514 _ ?side1 ?side2 ?side3 ?side4 A30.out).mono ?_);(case side1 => repeat (first | exact (Kd.R_reads' HO507.out).2.2 | (with_reducible refine Kd.C_alloc ?_ _) | (with_reducible refine Kd.C_drewN ?_ _) | (with_reducible refine Kd.C_drew ?_)));(case side2 => exact (Kd.R_reads' HO507.out).2.1);(case side3 => repeat (first | exact (Kd.R_reads' HO501.out).2.2 | (with_reducible refine Kd.C_alloc ?_ _) | (with_reducible refine Kd.C_drewN ?_ _) | (with_reducible refine Kd.C_drew ?_)));(case side4 => exact (Kd.R_reads' HO501.out).2.1);rintro e w31 ⟨rfl,hb⟩;replace HO501:=Aside0.mk (Kd.R_below (Hd.r_ HO501) hb);replace HO507:=Aside0.mk (Kd.R_below (Hd.r_ HO507) hb);replace HB:=Aside0.mk (below_step Hd.b_ hb);(try clear hb);(try clear hb2);(try clear hk);(try clear hi)))
      go_meet
      case rel => exact ⟨_,(!t514),(by first | rfl | (simp;done) | (simp [*];done)),H',⟨by first | omega | exact Nat.le_refl _⟩,⟨by (with_reducible repeat (first | apply Kd.R_alloc | apply Kd.R_drewN | apply Kd.R_drew));exact Kd.R_mono HO501.out (fun _ hk => hk.2)⟩,⟨by (with_reducible repeat (first | apply Kd.R_alloc | apply Kd.R_drewN | apply Kd.R_drew));exact Kd.R_mono HO507.out (fun _ hk => hk.2)⟩,⟨Hd.b_⟩⟩
    case rest =>
     clear HC15
     try clear c1
     try clear c2
     try clear p2
     try clear c3
     try clear c3b0
     try clear c6
     try clear c8
     try clear c10
     try clear c13
     try clear c14
     try clear c21
     try clear c28
     try clear c29
     try clear c29b0
     obtain ⟨kq,x42_14,rfl,HA,HJ14,HO_4,HO_6,HB⟩:=hcut
     cases kq with
     | zero => exact absurd HA.out (by simp [laws_FnExactMeetsOf.j0])
     | succ kj14 =>
      have H:=HA.out
      clear HA
      simp only [laws_FnExactMeetsOf.j0] at H
      by_cases c32 : x42_14 = true
      ·
       subst c32
       have H1 : (some false) = some r:=by rw [if_pos rfl] at H;exact H
       clear H
       have H:=H1
       clear H1
       obtain rfl:=Option.some.inj H
       go_wp2
       go_ret
       exact ⟨Hd.e_,Hd.b_⟩
      ·
       replace c32:=Bool.eq_false_iff.mpr c32
       subst c32
       have H1 : ((laws_markMeetS.f kj14 t505 1).bind fun bt515 => ((laws_heldMeetS.f kj14 bt515.2 1).bind fun t517 => (if t517 < 0 then (some false) else (if t517 = bt515.1 then ((laws_toFeatureS.f kj14 l0).bind fun t518 => ((impl_MeetsOf.f kj14 t518).bind fun t521 => ((laws_eqMeetS.f kj14 t521 t499).bind fun t524 => (if t524 = true then ((laws_heldMeetS.f kj14 bt515.2 1).bind fun t525 => (if t525 < 0 then (some false) else (if t525 = bt515.1 then (some true) else (some false)))) else (some false))))) else (some false))))) = some r:=by rw [if_neg (show ¬ (false = true) by decide)] at H;exact H
       clear H
       have H:=H1
       clear H1
       replace H:=Option.bind_eq_some_iff.mp H
       obtain ⟨⟨t515,t516⟩,A330,H⟩:=H
       replace H : ((laws_heldMeetS.f kj14 t516 1).bind fun t517 => (if t517 < 0 then (some false) else (if t517 = t515 then ((laws_toFeatureS.f kj14 l0).bind fun t518 => ((impl_MeetsOf.f kj14 t518).bind fun t521 => ((laws_eqMeetS.f kj14 t521 t499).bind fun t524 => (if t524 = true then ((laws_heldMeetS.f kj14 t516 1).bind fun t525 => (if t525 < 0 then (some false) else (if t525 = t515 then (some true) else (some false)))) else (some false))))) else (some false)))) = some r:=H
       have A33:=Aside0.mk A330
       clear A330
       replace H:=Option.bind_eq_some_iff.mp H
       obtain ⟨t517,A340,H⟩:=H
       replace H : (if t517 < 0 then (some false) else (if t517 = t515 then ((laws_toFeatureS.f kj14 l0).bind fun t518 => ((impl_MeetsOf.f kj14 t518).bind fun t521 => ((laws_eqMeetS.f kj14 t521 t499).bind fun t524 => (if t524 = true then ((laws_heldMeetS.f kj14 t516 1).bind fun t525 => (if t525 < 0 then (some false) else (if t525 = t515 then (some true) else (some false)))) else (some false))))) else (some false))) = some r:=H
       have A34:=Aside0.mk A340
       clear A340
       by_cases c35 : t517 < 0
       ·
        rw [if_pos c35] at H
        have c35b0 : decide (t517 < 0) = true:=decide_eq_true c35
        clear c35
        obtain rfl:=Option.some.inj H
        go_wp2_with (first | ((with_reducible refine gate_callee (f:=30) rfl ?_);refine goesL_ (some 45) rfl rfl Try.func30 (by kernel_rfl) rfl #[.slice Ao23 t505.length co23,.int .i64 1] rfl Hd.m_ ?_;(with_reducible refine (laws_markMeetS.calls kj14 (fun k_ => some k_ = (.slice Ao23 t505.length co23 : Value).ownBlock) (.slice Ao23 t505.length co23) t505 1 t515 t516 w _ ?side1 ?side2 A33.out).mono ?_);(case side1 => repeat (first | (with_reducible first | exact HB.out | apply below_alloc | apply pw_below_drewN | apply below_drew1) | exact HB.out));(case side2 => exact Kd.R_tight rfl HO_6.out);rintro e w36 ⟨rfl,hy0,hb,hkp⟩;refine ⟨_,rfl,?_⟩;replace HO_4:=Aside0.mk (Kd.R_mono (ok':=fun k_ => some k_ ≠ (.slice Ao23 t505.length co23 : Value).ownBlock) (Kd.R_keptB (HO_4.out) hkp (fun k_ hk_ hs_ => (hk_) hs_)) (fun k_ hk_ => hk_.1));replace HO_6:=Aside0.mk (Kd.R_reok rfl hy0 (fun k_ e_ => HO_6.out.1 k_ e_));replace HB:=Aside0.mk (hb);(try clear hb);(try clear hkp);(try clear hy0)) | ((with_reducible refine gate_callee (f:=31) rfl ?_);refine goesL_ (some 48) rfl rfl Try.func31 (by kernel_rfl) rfl #[.slice Ao23 t516.length co23,.int .i64 1] rfl (by (try simp only [List.map_toArray,List.map_cons,List.map_nil]);first | done | (rw [show t516.length = t505.length from (Kd.R_reads' HO_6.out).1.symm] <;> rfl) | rfl | (simp only [List.length_drop,List.length_take];rfl)) ?_;(with_reducible refine (laws_heldMeetS.calls kj14 _ _ t516 1 t517 _ ?side1 ?side2 A34.out).mono ?_);(case side1 => repeat (first | exact (Kd.R_reads' HO_6.out).2.2 | (with_reducible refine Kd.C_alloc ?_ _) | (with_reducible refine Kd.C_drewN ?_ _) | (with_reducible refine Kd.C_drew ?_)));(case side2 => rw [show t516.length = t505.length from (Kd.R_reads' HO_6.out).1.symm];exact (Kd.R_reads' HO_6.out).2.1);rintro e w' ⟨rfl,⟨nd,rfl⟩⟩;refine ⟨_,rfl,?_⟩))
        go_ret
        exact ⟨Hd.e_,Hd.b_⟩
       ·
        rw [if_neg c35] at H
        have c35b0 : decide (t517 < 0) = false:=decide_eq_false c35
        clear c35
        by_cases c37 : t517 = t515
        ·
         rw [if_pos c37] at H
         have c37b0 : (t517 == t515) = true:=beq_iff_eq.mpr c37
         have c37b1 : (t517 != t515) = false:=bne_eq_false_iff_eq.mpr c37
         clear c37
         replace H:=Option.bind_eq_some_iff.mp H
         obtain ⟨t518,A380,H⟩:=H
         replace H : ((impl_MeetsOf.f kj14 t518).bind fun t521 => ((laws_eqMeetS.f kj14 t521 t499).bind fun t524 => (if t524 = true then ((laws_heldMeetS.f kj14 t516 1).bind fun t525 => (if t525 < 0 then (some false) else (if t525 = t515 then (some true) else (some false)))) else (some false)))) = some r:=H
         have A38:=Aside0.mk A380
         clear A380
         replace H:=Option.bind_eq_some_iff.mp H
         obtain ⟨t521,A390,H⟩:=H
         replace H : ((laws_eqMeetS.f kj14 t521 t499).bind fun t524 => (if t524 = true then ((laws_heldMeetS.f kj14 t516 1).bind fun t525 => (if t525 < 0 then (some false) else (if t525 = t515 then (some true) else (some false)))) else (some false))) = some r:=H
         have A39:=Aside0.mk A390
         clear A390
         replace H:=Option.bind_eq_some_iff.mp H
         obtain ⟨t524,A400,H⟩:=H
         replace H : (if t524 = true then ((laws_heldMeetS.f kj14 t516 1).bind fun t525 => (if t525 < 0 then (some false) else (if t525 = t515 then (some true) else (some false)))) else (some false)) = some r:=H
         have A40:=Aside0.mk A400
         clear A400
         by_cases c41 : t524 = true
         ·
          subst c41
          have H1 : ((laws_heldMeetS.f kj14 t516 1).bind fun t525 => (if t525 < 0 then (some false) else (if t525 = t515 then (some true) else (some false)))) = some r:=by rw [if_pos rfl] at H;exact H
          clear H
          have H:=H1
          clear H1
          replace H:=Option.bind_eq_some_iff.mp H
          obtain ⟨t525,A420,H⟩:=H
          replace H : (if t525 < 0 then (some false) else (if t525 = t515 then (some true) else (some false))) = some r:=H
          have A42:=Aside0.mk A420
          clear A420
          by_cases c43 : t525 < 0
          ·
           rw [if_pos c43] at H
           have c43b0 : decide (t525 < 0) = true:=decide_eq_true c43
           clear c43
           obtain rfl:=Option.some.inj H
           go_wp2_with (first | ((with_reducible refine gate_callee (f:=30) rfl ?_);refine goesL_ (some 45) rfl rfl Try.func30 (by kernel_rfl) rfl #[.slice Ao23 t505.length co23,.int .i64 1] rfl Hd.m_ ?_;(with_reducible refine (laws_markMeetS.calls kj14 (fun k_ => some k_ = (.slice Ao23 t505.length co23 : Value).ownBlock) (.slice Ao23 t505.length co23) t505 1 t515 t516 w _ ?side1 ?side2 A33.out).mono ?_);(case side1 => repeat (first | (with_reducible first | exact HB.out | apply below_alloc | apply pw_below_drewN | apply below_drew1) | exact HB.out));(case side2 => exact Kd.R_tight rfl HO_6.out);rintro e w44 ⟨rfl,hy0,hb,hkp⟩;refine ⟨_,rfl,?_⟩;replace HO_4:=Aside0.mk (Kd.R_mono (ok':=fun k_ => some k_ ≠ (.slice Ao23 t505.length co23 : Value).ownBlock) (Kd.R_keptB (HO_4.out) hkp (fun k_ hk_ hs_ => (hk_) hs_)) (fun k_ hk_ => hk_.1));replace HO_6:=Aside0.mk (Kd.R_reok rfl hy0 (fun k_ e_ => HO_6.out.1 k_ e_));replace HB:=Aside0.mk (hb);(try clear hb);(try clear hkp);(try clear hy0)) | ((with_reducible refine gate_callee (f:=31) rfl ?_);refine goesL_ (some 48) rfl rfl Try.func31 (by kernel_rfl) rfl #[.slice Ao23 t516.length co23,.int .i64 1] rfl (by (try simp only [List.map_toArray,List.map_cons,List.map_nil]);first | done | (rw [show t516.length = t505.length from (Kd.R_reads' HO_6.out).1.symm] <;> rfl) | rfl | (simp only [List.length_drop,List.length_take];rfl)) ?_;(with_reducible refine (laws_heldMeetS.calls kj14 _ _ t516 1 t517 _ ?side1 ?side2 A34.out).mono ?_);(case side1 => repeat (first | exact (Kd.R_reads' HO_6.out).2.2 | (with_reducible refine Kd.C_alloc ?_ _) | (with_reducible refine Kd.C_drewN ?_ _) | (with_reducible refine Kd.C_drew ?_)));(case side2 => rw [show t516.length = t505.length from (Kd.R_reads' HO_6.out).1.symm];exact (Kd.R_reads' HO_6.out).2.1);rintro e w' ⟨rfl,⟨nd,rfl⟩⟩;refine ⟨_,rfl,?_⟩) | ((with_reducible refine gate_callee (f:=10) rfl ?_);refine goesL_ (some 55) rfl rfl Try.func10 (by kernel_rfl) rfl #[.slice A0 l0.length c0] rfl Hd.m_ ?_;(with_reducible refine (laws_toFeatureS.calls kj14 _ _ l0 t518 _ ?side1 ?side2 A38.out).mono ?_);(case side1 => repeat (first | exact (Kd.C_below HR0.out Hd.b_) | (with_reducible refine Kd.C_alloc ?_ _) | (with_reducible refine Kd.C_drewN ?_ _) | (with_reducible refine Kd.C_drew ?_)));(case side2 => exact HC0.out);rintro e w45 ⟨v519,rfl,ho0,hb⟩;refine ⟨_,rfl,?_⟩;replace HO_4:=Aside0.mk (Kd.R_below (Hd.r_ HO_4) hb);replace HO_6:=Aside0.mk (Kd.R_below (Hd.r_ HO_6) hb);have HO520:=Aside0.mk (Kd.S_lower ho0 (below_size Hd.b_));replace HB:=Aside0.mk (below_step Hd.b_ hb);(try clear hb);(try clear hb2);(try clear hk);(try clear hi);(try clear ho0);obtain ⟨Ao46,co46,eo46⟩:=Kd.S_slice HO520.out;subst eo46) | ((with_reducible refine gate_callee (f:=21) rfl ?_);refine goesL_ (some 56) rfl rfl Try.func21 (by kernel_rfl) rfl #[.slice Ao46 t518.length co46] rfl Hd.m_ ?_;(with_reducible refine (impl_MeetsOf.calls kj14 _ _ t518 t521 _ ?side1 ?side2 A39.out).mono ?_);(case side1 => repeat (first | exact (Kd.S_reads' HO520.out).2.2 | (with_reducible refine Kd.C_alloc ?_ _) | (with_reducible refine Kd.C_drewN ?_ _) | (with_reducible refine Kd.C_drew ?_)));(case side2 => exact (Kd.S_reads' HO520.out).2.1);rintro e w47 ⟨v522,rfl,ho0,hb⟩;refine ⟨_,rfl,?_⟩;replace HO520:=Aside0.mk (Kd.S_below (by (with_reducible repeat (first | apply Kd.S_alloc | apply Kd.S_drewN | apply Kd.S_drew));exact HO520.out) hb);have HO523:=Aside0.mk (Kd.R_lower (Kd.R_new' (Kd.R_new' ho0 (Kd.R_lt (Hd.r_ HO_4))) (Kd.R_lt (Hd.r_ HO_6))) (below_size Hd.b_));replace HO_4:=Aside0.mk (Kd.R_elder' (Hd.r_ HO_4) (Kd.R_base ho0) hb);replace HO_6:=Aside0.mk (Kd.R_elder' (Hd.r_ HO_6) (Kd.R_base ho0) hb);replace HB:=Aside0.mk (below_step Hd.b_ hb);(try clear hb);(try clear hb2);(try clear hk);(try clear hi);(try clear ho0);obtain ⟨Ao48,co48,eo48⟩:=Kd.R_slice HO523.out;subst eo48) | ((with_reducible refine gate_callee (f:=29) rfl ?_);refine goesL_ (some 59) rfl rfl Try.func29 (by kernel_rfl) rfl #[.slice Ao48 t521.length co48,.slice Ao24 t499.length co24] rfl Hd.m_ ?_;(with_reducible refine (laws_eqMeetS.calls kj14 _ _ t521 _ _ t499 true _ ?side1 ?side2 ?side3 ?side4 A40.out).mono ?_);(case side1 => repeat (first | exact (Kd.R_reads' HO523.out).2.2 | (with_reducible refine Kd.C_alloc ?_ _) | (with_reducible refine Kd.C_drewN ?_ _) | (with_reducible refine Kd.C_drew ?_)));(case side2 => exact (Kd.R_reads' HO523.out).2.1);(case side3 => repeat (first | exact (Kd.R_reads' HO_4.out).2.2 | (with_reducible refine Kd.C_alloc ?_ _) | (with_reducible refine Kd.C_drewN ?_ _) | (with_reducible refine Kd.C_drew ?_)));(case side4 => exact (Kd.R_reads' HO_4.out).2.1);rintro e w49 ⟨rfl,hb⟩;refine ⟨_,rfl,?_⟩;replace HO_4:=Aside0.mk (Kd.R_below (Hd.r_ HO_4) hb);replace HO_6:=Aside0.mk (Kd.R_below (Hd.r_ HO_6) hb);replace HO520:=Aside0.mk (Kd.S_below (by (with_reducible repeat (first | apply Kd.S_alloc | apply Kd.S_drewN | apply Kd.S_drew));exact HO520.out) hb);replace HO523:=Aside0.mk (Kd.R_below (Hd.r_ HO523) hb);replace HB:=Aside0.mk (below_step Hd.b_ hb);(try clear hb);(try clear hb2);(try clear hk);(try clear hi)) | ((with_reducible refine gate_callee (f:=31) rfl ?_);refine goesL_ (some 63) rfl rfl Try.func31 (by kernel_rfl) rfl #[.slice Ao23 t516.length co23,.int .i64 1] rfl (by (try simp only [List.map_toArray,List.map_cons,List.map_nil]);first | done | (rw [show t516.length = t505.length from (Kd.R_reads' HO_6.out).1.symm] <;> rfl) | rfl | (simp only [List.length_drop,List.length_take];rfl)) ?_;(with_reducible refine (laws_heldMeetS.calls kj14 _ _ t516 1 t525 _ ?side1 ?side2 A42.out).mono ?_);(case side1 => repeat (first | exact (Kd.R_reads' HO_6.out).2.2 | (with_reducible refine Kd.C_alloc ?_ _) | (with_reducible refine Kd.C_drewN ?_ _) | (with_reducible refine Kd.C_drew ?_)));(case side2 => rw [show t516.length = t505.length from (Kd.R_reads' HO_6.out).1.symm];exact (Kd.R_reads' HO_6.out).2.1);rintro e w' ⟨rfl,⟨nd,rfl⟩⟩;refine ⟨_,rfl,?_⟩))
           go_ret
           exact ⟨Hd.e_,Hd.b_⟩
          ·
           rw [if_neg c43] at H
           have c43b0 : decide (t525 < 0) = false:=decide_eq_false c43
           clear c43
           by_cases c50 : t525 = t515
           ·
            rw [if_pos c50] at H
            have c50b0 : (t525 == t515) = true:=beq_iff_eq.mpr c50
            have c50b1 : (t525 != t515) = false:=bne_eq_false_iff_eq.mpr c50
            clear c50
            obtain rfl:=Option.some.inj H
            go_wp2_with (first | ((with_reducible refine gate_callee (f:=30) rfl ?_);refine goesL_ (some 45) rfl rfl Try.func30 (by kernel_rfl) rfl #[.slice Ao23 t505.length co23,.int .i64 1] rfl Hd.m_ ?_;(with_reducible refine (laws_markMeetS.calls kj14 (fun k_ => some k_ = (.slice Ao23 t505.length co23 : Value).ownBlock) (.slice Ao23 t505.length co23) t505 1 t515 t516 w _ ?side1 ?side2 A33.out).mono ?_);(case side1 => repeat (first | (with_reducible first | exact HB.out | apply below_alloc | apply pw_below_drewN | apply below_drew1) | exact HB.out));(case side2 => exact Kd.R_tight rfl HO_6.out);rintro e w51 ⟨rfl,hy0,hb,hkp⟩;refine ⟨_,rfl,?_⟩;replace HO_4:=Aside0.mk (Kd.R_mono (ok':=fun k_ => some k_ ≠ (.slice Ao23 t505.length co23 : Value).ownBlock) (Kd.R_keptB (HO_4.out) hkp (fun k_ hk_ hs_ => (hk_) hs_)) (fun k_ hk_ => hk_.1));replace HO_6:=Aside0.mk (Kd.R_reok rfl hy0 (fun k_ e_ => HO_6.out.1 k_ e_));replace HB:=Aside0.mk (hb);(try clear hb);(try clear hkp);(try clear hy0)) | ((with_reducible refine gate_callee (f:=31) rfl ?_);refine goesL_ (some 48) rfl rfl Try.func31 (by kernel_rfl) rfl #[.slice Ao23 t516.length co23,.int .i64 1] rfl (by (try simp only [List.map_toArray,List.map_cons,List.map_nil]);first | done | (rw [show t516.length = t505.length from (Kd.R_reads' HO_6.out).1.symm] <;> rfl) | rfl | (simp only [List.length_drop,List.length_take];rfl)) ?_;(with_reducible refine (laws_heldMeetS.calls kj14 _ _ t516 1 t517 _ ?side1 ?side2 A34.out).mono ?_);(case side1 => repeat (first | exact (Kd.R_reads' HO_6.out).2.2 | (with_reducible refine Kd.C_alloc ?_ _) | (with_reducible refine Kd.C_drewN ?_ _) | (with_reducible refine Kd.C_drew ?_)));(case side2 => rw [show t516.length = t505.length from (Kd.R_reads' HO_6.out).1.symm];exact (Kd.R_reads' HO_6.out).2.1);rintro e w' ⟨rfl,⟨nd,rfl⟩⟩;refine ⟨_,rfl,?_⟩) | ((with_reducible refine gate_callee (f:=10) rfl ?_);refine goesL_ (some 55) rfl rfl Try.func10 (by kernel_rfl) rfl #[.slice A0 l0.length c0] rfl Hd.m_ ?_;(with_reducible refine (laws_toFeatureS.calls kj14 _ _ l0 t518 _ ?side1 ?side2 A38.out).mono ?_);(case side1 => repeat (first | exact (Kd.C_below HR0.out Hd.b_) | (with_reducible refine Kd.C_alloc ?_ _) | (with_reducible refine Kd.C_drewN ?_ _) | (with_reducible refine Kd.C_drew ?_)));(case side2 => exact HC0.out);rintro e w52 ⟨v519,rfl,ho0,hb⟩;refine ⟨_,rfl,?_⟩;replace HO_4:=Aside0.mk (Kd.R_below (Hd.r_ HO_4) hb);replace HO_6:=Aside0.mk (Kd.R_below (Hd.r_ HO_6) hb);have HO520:=Aside0.mk (Kd.S_lower ho0 (below_size Hd.b_));replace HB:=Aside0.mk (below_step Hd.b_ hb);(try clear hb);(try clear hb2);(try clear hk);(try clear hi);(try clear ho0);obtain ⟨Ao53,co53,eo53⟩:=Kd.S_slice HO520.out;subst eo53) | ((with_reducible refine gate_callee (f:=21) rfl ?_);refine goesL_ (some 56) rfl rfl Try.func21 (by kernel_rfl) rfl #[.slice Ao53 t518.length co53] rfl Hd.m_ ?_;(with_reducible refine (impl_MeetsOf.calls kj14 _ _ t518 t521 _ ?side1 ?side2 A39.out).mono ?_);(case side1 => repeat (first | exact (Kd.S_reads' HO520.out).2.2 | (with_reducible refine Kd.C_alloc ?_ _) | (with_reducible refine Kd.C_drewN ?_ _) | (with_reducible refine Kd.C_drew ?_)));(case side2 => exact (Kd.S_reads' HO520.out).2.1);rintro e w54 ⟨v522,rfl,ho0,hb⟩;refine ⟨_,rfl,?_⟩;replace HO520:=Aside0.mk (Kd.S_below (by (with_reducible repeat (first | apply Kd.S_alloc | apply Kd.S_drewN | apply Kd.S_drew));exact HO520.out) hb);have HO523:=Aside0.mk (Kd.R_lower (Kd.R_new' (Kd.R_new' ho0 (Kd.R_lt (Hd.r_ HO_4))) (Kd.R_lt (Hd.r_ HO_6))) (below_size Hd.b_));replace HO_4:=Aside0.mk (Kd.R_elder' (Hd.r_ HO_4) (Kd.R_base ho0) hb);replace HO_6:=Aside0.mk (Kd.R_elder' (Hd.r_ HO_6) (Kd.R_base ho0) hb);replace HB:=Aside0.mk (below_step Hd.b_ hb);(try clear hb);(try clear hb2);(try clear hk);(try clear hi);(try clear ho0);obtain ⟨Ao55,co55,eo55⟩:=Kd.R_slice HO523.out;subst eo55) | ((with_reducible refine gate_callee (f:=29) rfl ?_);refine goesL_ (some 59) rfl rfl Try.func29 (by kernel_rfl) rfl #[.slice Ao55 t521.length co55,.slice Ao24 t499.length co24] rfl Hd.m_ ?_;(with_reducible refine (laws_eqMeetS.calls kj14 _ _ t521 _ _ t499 true _ ?side1 ?side2 ?side3 ?side4 A40.out).mono ?_);(case side1 => repeat (first | exact (Kd.R_reads' HO523.out).2.2 | (with_reducible refine Kd.C_alloc ?_ _) | (with_reducible refine Kd.C_drewN ?_ _) | (with_reducible refine Kd.C_drew ?_)));(case side2 => exact (Kd.R_reads' HO523.out).2.1);(case side3 => repeat (first | exact (Kd.R_reads' HO_4.out).2.2 | (with_reducible refine Kd.C_alloc ?_ _) | (with_reducible refine Kd.C_drewN ?_ _) | (with_reducible refine Kd.C_drew ?_)));(case side4 => exact (Kd.R_reads' HO_4.out).2.1);rintro e w56 ⟨rfl,hb⟩;refine ⟨_,rfl,?_⟩;replace HO_4:=Aside0.mk (Kd.R_below (Hd.r_ HO_4) hb);replace HO_6:=Aside0.mk (Kd.R_below (Hd.r_ HO_6) hb);replace HO520:=Aside0.mk (Kd.S_below (by (with_reducible repeat (first | apply Kd.S_alloc | apply Kd.S_drewN | apply Kd.S_drew));exact HO520.out) hb);replace HO523:=Aside0.mk (Kd.R_below (Hd.r_ HO523) hb);replace HB:=Aside0.mk (below_step Hd.b_ hb);(try clear hb);(try clear hb2);(try clear hk);(try clear hi)) | ((with_reducible refine gate_callee (f:=31) rfl ?_);refine goesL_ (some 63) rfl rfl Try.func31 (by kernel_rfl) rfl #[.slice Ao23 t516.length co23,.int .i64 1] rfl (by (try simp only [List.map_toArray,List.map_cons,List.map_nil]);first | done | (rw [show t516.length = t505.length from (Kd.R_reads' HO_6.out).1.symm] <;> rfl) | rfl | (simp only [List.length_drop,List.length_take];rfl)) ?_;(with_reducible refine (laws_heldMeetS.calls kj14 _ _ t516 1 t525 _ ?side1 ?side2 A42.out).mono ?_);(case side1 => repeat (first | exact (Kd.R_reads' HO_6.out).2.2 | (with_reducible refine Kd.C_alloc ?_ _) | (with_reducible refine Kd.C_drewN ?_ _) | (with_reducible refine Kd.C_drew ?_)));(case side2 => rw [show t516.length = t505.length from (Kd.R_reads' HO_6.out).1.symm];exact (Kd.R_reads' HO_6.out).2.1);rintro e w' ⟨rfl,⟨nd,rfl⟩⟩;refine ⟨_,rfl,?_⟩))
            go_ret
            exact ⟨Hd.e_,Hd.b_⟩
           ·
            rw [if_neg c50] at H
            have c50b0 : (t525 == t515) = false:=beq_eq_false_iff_ne.mpr c50
            have c50b1 : (t525 != t515) = true:=bne_iff_ne.mpr c50
            obtain rfl:=Option.some.inj H
            go_wp2_with (first | ((with_reducible refine gate_callee (f:=30) rfl ?_);refine goesL_ (some 45) rfl rfl Try.func30 (by kernel_rfl) rfl #[.slice Ao23 t505.length co23,.int .i64 1] rfl Hd.m_ ?_;(with_reducible refine (laws_markMeetS.calls kj14 (fun k_ => some k_ = (.slice Ao23 t505.length co23 : Value).ownBlock) (.slice Ao23 t505.length co23) t505 1 t515 t516 w _ ?side1 ?side2 A33.out).mono ?_);(case side1 => repeat (first | (with_reducible first | exact HB.out | apply below_alloc | apply pw_below_drewN | apply below_drew1) | exact HB.out));(case side2 => exact Kd.R_tight rfl HO_6.out);rintro e w57 ⟨rfl,hy0,hb,hkp⟩;refine ⟨_,rfl,?_⟩;replace HO_4:=Aside0.mk (Kd.R_mono (ok':=fun k_ => some k_ ≠ (.slice Ao23 t505.length co23 : Value).ownBlock) (Kd.R_keptB (HO_4.out) hkp (fun k_ hk_ hs_ => (hk_) hs_)) (fun k_ hk_ => hk_.1));replace HO_6:=Aside0.mk (Kd.R_reok rfl hy0 (fun k_ e_ => HO_6.out.1 k_ e_));replace HB:=Aside0.mk (hb);(try clear hb);(try clear hkp);(try clear hy0)) | ((with_reducible refine gate_callee (f:=31) rfl ?_);refine goesL_ (some 48) rfl rfl Try.func31 (by kernel_rfl) rfl #[.slice Ao23 t516.length co23,.int .i64 1] rfl (by (try simp only [List.map_toArray,List.map_cons,List.map_nil]);first | done | (rw [show t516.length = t505.length from (Kd.R_reads' HO_6.out).1.symm] <;> rfl) | rfl | (simp only [List.length_drop,List.length_take];rfl)) ?_;(with_reducible refine (laws_heldMeetS.calls kj14 _ _ t516 1 t517 _ ?side1 ?side2 A34.out).mono ?_);(case side1 => repeat (first | exact (Kd.R_reads' HO_6.out).2.2 | (with_reducible refine Kd.C_alloc ?_ _) | (with_reducible refine Kd.C_drewN ?_ _) | (with_reducible refine Kd.C_drew ?_)));(case side2 => rw [show t516.length = t505.length from (Kd.R_reads' HO_6.out).1.symm];exact (Kd.R_reads' HO_6.out).2.1);rintro e w' ⟨rfl,⟨nd,rfl⟩⟩;refine ⟨_,rfl,?_⟩) | ((with_reducible refine gate_callee (f:=10) rfl ?_);refine goesL_ (some 55) rfl rfl Try.func10 (by kernel_rfl) rfl #[.slice A0 l0.length c0] rfl Hd.m_ ?_;(with_reducible refine (laws_toFeatureS.calls kj14 _ _ l0 t518 _ ?side1 ?side2 A38.out).mono ?_);(case side1 => repeat (first | exact (Kd.C_below HR0.out Hd.b_) | (with_reducible refine Kd.C_alloc ?_ _) | (with_reducible refine Kd.C_drewN ?_ _) | (with_reducible refine Kd.C_drew ?_)));(case side2 => exact HC0.out);rintro e w58 ⟨v519,rfl,ho0,hb⟩;refine ⟨_,rfl,?_⟩;replace HO_4:=Aside0.mk (Kd.R_below (Hd.r_ HO_4) hb);replace HO_6:=Aside0.mk (Kd.R_below (Hd.r_ HO_6) hb);have HO520:=Aside0.mk (Kd.S_lower ho0 (below_size Hd.b_));replace HB:=Aside0.mk (below_step Hd.b_ hb);(try clear hb);(try clear hb2);(try clear hk);(try clear hi);(try clear ho0);obtain ⟨Ao59,co59,eo59⟩:=Kd.S_slice HO520.out;subst eo59) | ((with_reducible refine gate_callee (f:=21) rfl ?_);refine goesL_ (some 56) rfl rfl Try.func21 (by kernel_rfl) rfl #[.slice Ao59 t518.length co59] rfl Hd.m_ ?_;(with_reducible refine (impl_MeetsOf.calls kj14 _ _ t518 t521 _ ?side1 ?side2 A39.out).mono ?_);(case side1 => repeat (first | exact (Kd.S_reads' HO520.out).2.2 | (with_reducible refine Kd.C_alloc ?_ _) | (with_reducible refine Kd.C_drewN ?_ _) | (with_reducible refine Kd.C_drew ?_)));(case side2 => exact (Kd.S_reads' HO520.out).2.1);rintro e w60 ⟨v522,rfl,ho0,hb⟩;refine ⟨_,rfl,?_⟩;replace HO520:=Aside0.mk (Kd.S_below (by (with_reducible repeat (first | apply Kd.S_alloc | apply Kd.S_drewN | apply Kd.S_drew));exact HO520.out) hb);have HO523:=Aside0.mk (Kd.R_lower (Kd.R_new' (Kd.R_new' ho0 (Kd.R_lt (Hd.r_ HO_4))) (Kd.R_lt (Hd.r_ HO_6))) (below_size Hd.b_));replace HO_4:=Aside0.mk (Kd.R_elder' (Hd.r_ HO_4) (Kd.R_base ho0) hb);replace HO_6:=Aside0.mk (Kd.R_elder' (Hd.r_ HO_6) (Kd.R_base ho0) hb);replace HB:=Aside0.mk (below_step Hd.b_ hb);(try clear hb);(try clear hb2);(try clear hk);(try clear hi);(try clear ho0);obtain ⟨Ao61,co61,eo61⟩:=Kd.R_slice HO523.out;subst eo61) | ((with_reducible refine gate_callee (f:=29) rfl ?_);refine goesL_ (some 59) rfl rfl Try.func29 (by kernel_rfl) rfl #[.slice Ao61 t521.length co61,.slice Ao24 t499.length co24] rfl Hd.m_ ?_;(with_reducible refine (laws_eqMeetS.calls kj14 _ _ t521 _ _ t499 true _ ?side1 ?side2 ?side3 ?side4 A40.out).mono ?_);(case side1 => repeat (first | exact (Kd.R_reads' HO523.out).2.2 | (with_reducible refine Kd.C_alloc ?_ _) | (with_reducible refine Kd.C_drewN ?_ _) | (with_reducible refine Kd.C_drew ?_)));(case side2 => exact (Kd.R_reads' HO523.out).2.1);(case side3 => repeat (first | exact (Kd.R_reads' HO_4.out).2.2 | (with_reducible refine Kd.C_alloc ?_ _) | (with_reducible refine Kd.C_drewN ?_ _) | (with_reducible refine Kd.C_drew ?_)));(case side4 => exact (Kd.R_reads' HO_4.out).2.1);rintro e w62 ⟨rfl,hb⟩;refine ⟨_,rfl,?_⟩;replace HO_4:=Aside0.mk (Kd.R_below (Hd.r_ HO_4) hb);replace HO_6:=Aside0.mk (Kd.R_below (Hd.r_ HO_6) hb);replace HO520:=Aside0.mk (Kd.S_below (by (with_reducible repeat (first | apply Kd.S_alloc | apply Kd.S_drewN | apply Kd.S_drew));exact HO520.out) hb);replace HO523:=Aside0.mk (Kd.R_below (Hd.r_ HO523) hb);replace HB:=Aside0.mk (below_step Hd.b_ hb);(try clear hb);(try clear hb2);(try clear hk);(try clear hi)) | ((with_reducible refine gate_callee (f:=31) rfl ?_);refine goesL_ (some 63) rfl rfl Try.func31 (by kernel_rfl) rfl #[.slice Ao23 t516.length co23,.int .i64 1] rfl (by (try simp only [List.map_toArray,List.map_cons,List.map_nil]);first | done | (rw [show t516.length = t505.length from (Kd.R_reads' HO_6.out).1.symm] <;> rfl) | rfl | (simp only [List.length_drop,List.length_take];rfl)) ?_;(with_reducible refine (laws_heldMeetS.calls kj14 _ _ t516 1 t525 _ ?side1 ?side2 A42.out).mono ?_);(case side1 => repeat (first | exact (Kd.R_reads' HO_6.out).2.2 | (with_reducible refine Kd.C_alloc ?_ _) | (with_reducible refine Kd.C_drewN ?_ _) | (with_reducible refine Kd.C_drew ?_)));(case side2 => rw [show t516.length = t505.length from (Kd.R_reads' HO_6.out).1.symm];exact (Kd.R_reads' HO_6.out).2.1);rintro e w' ⟨rfl,⟨nd,rfl⟩⟩;refine ⟨_,rfl,?_⟩))
            go_ret
            exact ⟨Hd.e_,Hd.b_⟩
         ·
          replace c41:=Bool.eq_false_iff.mpr c41
          subst c41
          have H1 : (some false) = some r:=by rw [if_neg (show ¬ (false = true) by decide)] at H;exact H
          clear H
          have H:=H1
          clear H1
          obtain rfl:=Option.some.inj H
          go_wp2_with (first | ((with_reducible refine gate_callee (f:=30) rfl ?_);refine goesL_ (some 45) rfl rfl Try.func30 (by kernel_rfl) rfl #[.slice Ao23 t505.length co23,.int .i64 1] rfl Hd.m_ ?_;(with_reducible refine (laws_markMeetS.calls kj14 (fun k_ => some k_ = (.slice Ao23 t505.length co23 : Value).ownBlock) (.slice Ao23 t505.length co23) t505 1 t515 t516 w _ ?side1 ?side2 A33.out).mono ?_);(case side1 => repeat (first | (with_reducible first | exact HB.out | apply below_alloc | apply pw_below_drewN | apply below_drew1) | exact HB.out));(case side2 => exact Kd.R_tight rfl HO_6.out);rintro e w63 ⟨rfl,hy0,hb,hkp⟩;refine ⟨_,rfl,?_⟩;replace HO_4:=Aside0.mk (Kd.R_mono (ok':=fun k_ => some k_ ≠ (.slice Ao23 t505.length co23 : Value).ownBlock) (Kd.R_keptB (HO_4.out) hkp (fun k_ hk_ hs_ => (hk_) hs_)) (fun k_ hk_ => hk_.1));replace HO_6:=Aside0.mk (Kd.R_reok rfl hy0 (fun k_ e_ => HO_6.out.1 k_ e_));replace HB:=Aside0.mk (hb);(try clear hb);(try clear hkp);(try clear hy0)) | ((with_reducible refine gate_callee (f:=31) rfl ?_);refine goesL_ (some 48) rfl rfl Try.func31 (by kernel_rfl) rfl #[.slice Ao23 t516.length co23,.int .i64 1] rfl (by (try simp only [List.map_toArray,List.map_cons,List.map_nil]);first | done | (rw [show t516.length = t505.length from (Kd.R_reads' HO_6.out).1.symm] <;> rfl) | rfl | (simp only [List.length_drop,List.length_take];rfl)) ?_;(with_reducible refine (laws_heldMeetS.calls kj14 _ _ t516 1 t517 _ ?side1 ?side2 A34.out).mono ?_);(case side1 => repeat (first | exact (Kd.R_reads' HO_6.out).2.2 | (with_reducible refine Kd.C_alloc ?_ _) | (with_reducible refine Kd.C_drewN ?_ _) | (with_reducible refine Kd.C_drew ?_)));(case side2 => rw [show t516.length = t505.length from (Kd.R_reads' HO_6.out).1.symm];exact (Kd.R_reads' HO_6.out).2.1);rintro e w' ⟨rfl,⟨nd,rfl⟩⟩;refine ⟨_,rfl,?_⟩) | ((with_reducible refine gate_callee (f:=10) rfl ?_);refine goesL_ (some 55) rfl rfl Try.func10 (by kernel_rfl) rfl #[.slice A0 l0.length c0] rfl Hd.m_ ?_;(with_reducible refine (laws_toFeatureS.calls kj14 _ _ l0 t518 _ ?side1 ?side2 A38.out).mono ?_);(case side1 => repeat (first | exact (Kd.C_below HR0.out Hd.b_) | (with_reducible refine Kd.C_alloc ?_ _) | (with_reducible refine Kd.C_drewN ?_ _) | (with_reducible refine Kd.C_drew ?_)));(case side2 => exact HC0.out);rintro e w64 ⟨v519,rfl,ho0,hb⟩;refine ⟨_,rfl,?_⟩;replace HO_4:=Aside0.mk (Kd.R_below (Hd.r_ HO_4) hb);replace HO_6:=Aside0.mk (Kd.R_below (Hd.r_ HO_6) hb);have HO520:=Aside0.mk (Kd.S_lower ho0 (below_size Hd.b_));replace HB:=Aside0.mk (below_step Hd.b_ hb);(try clear hb);(try clear hb2);(try clear hk);(try clear hi);(try clear ho0);obtain ⟨Ao65,co65,eo65⟩:=Kd.S_slice HO520.out;subst eo65) | ((with_reducible refine gate_callee (f:=21) rfl ?_);refine goesL_ (some 56) rfl rfl Try.func21 (by kernel_rfl) rfl #[.slice Ao65 t518.length co65] rfl Hd.m_ ?_;(with_reducible refine (impl_MeetsOf.calls kj14 _ _ t518 t521 _ ?side1 ?side2 A39.out).mono ?_);(case side1 => repeat (first | exact (Kd.S_reads' HO520.out).2.2 | (with_reducible refine Kd.C_alloc ?_ _) | (with_reducible refine Kd.C_drewN ?_ _) | (with_reducible refine Kd.C_drew ?_)));(case side2 => exact (Kd.S_reads' HO520.out).2.1);rintro e w66 ⟨v522,rfl,ho0,hb⟩;refine ⟨_,rfl,?_⟩;replace HO520:=Aside0.mk (Kd.S_below (by (with_reducible repeat (first | apply Kd.S_alloc | apply Kd.S_drewN | apply Kd.S_drew));exact HO520.out) hb);have HO523:=Aside0.mk (Kd.R_lower (Kd.R_new' (Kd.R_new' ho0 (Kd.R_lt (Hd.r_ HO_4))) (Kd.R_lt (Hd.r_ HO_6))) (below_size Hd.b_));replace HO_4:=Aside0.mk (Kd.R_elder' (Hd.r_ HO_4) (Kd.R_base ho0) hb);replace HO_6:=Aside0.mk (Kd.R_elder' (Hd.r_ HO_6) (Kd.R_base ho0) hb);replace HB:=Aside0.mk (below_step Hd.b_ hb);(try clear hb);(try clear hb2);(try clear hk);(try clear hi);(try clear ho0);obtain ⟨Ao67,co67,eo67⟩:=Kd.R_slice HO523.out;subst eo67) | ((with_reducible refine gate_callee (f:=29) rfl ?_);refine goesL_ (some 59) rfl rfl Try.func29 (by kernel_rfl) rfl #[.slice Ao67 t521.length co67,.slice Ao24 t499.length co24] rfl Hd.m_ ?_;(with_reducible refine (laws_eqMeetS.calls kj14 _ _ t521 _ _ t499 false _ ?side1 ?side2 ?side3 ?side4 A40.out).mono ?_);(case side1 => repeat (first | exact (Kd.R_reads' HO523.out).2.2 | (with_reducible refine Kd.C_alloc ?_ _) | (with_reducible refine Kd.C_drewN ?_ _) | (with_reducible refine Kd.C_drew ?_)));(case side2 => exact (Kd.R_reads' HO523.out).2.1);(case side3 => repeat (first | exact (Kd.R_reads' HO_4.out).2.2 | (with_reducible refine Kd.C_alloc ?_ _) | (with_reducible refine Kd.C_drewN ?_ _) | (with_reducible refine Kd.C_drew ?_)));(case side4 => exact (Kd.R_reads' HO_4.out).2.1);rintro e w68 ⟨rfl,hb⟩;refine ⟨_,rfl,?_⟩;replace HO_4:=Aside0.mk (Kd.R_below (Hd.r_ HO_4) hb);replace HO_6:=Aside0.mk (Kd.R_below (Hd.r_ HO_6) hb);replace HO520:=Aside0.mk (Kd.S_below (by (with_reducible repeat (first | apply Kd.S_alloc | apply Kd.S_drewN | apply Kd.S_drew));exact HO520.out) hb);replace HO523:=Aside0.mk (Kd.R_below (Hd.r_ HO523) hb);replace HB:=Aside0.mk (below_step Hd.b_ hb);(try clear hb);(try clear hb2);(try clear hk);(try clear hi)))
          go_ret
          exact ⟨Hd.e_,Hd.b_⟩
        ·
         rw [if_neg c37] at H
         have c37b0 : (t517 == t515) = false:=beq_eq_false_iff_ne.mpr c37
         have c37b1 : (t517 != t515) = true:=bne_iff_ne.mpr c37
         obtain rfl:=Option.some.inj H
         go_wp2_with (first | ((with_reducible refine gate_callee (f:=30) rfl ?_);refine goesL_ (some 45) rfl rfl Try.func30 (by kernel_rfl) rfl #[.slice Ao23 t505.length co23,.int .i64 1] rfl Hd.m_ ?_;(with_reducible refine (laws_markMeetS.calls kj14 (fun k_ => some k_ = (.slice Ao23 t505.length co23 : Value).ownBlock) (.slice Ao23 t505.length co23) t505 1 t515 t516 w _ ?side1 ?side2 A33.out).mono ?_);(case side1 => repeat (first | (with_reducible first | exact HB.out | apply below_alloc | apply pw_below_drewN | apply below_drew1) | exact HB.out));(case side2 => exact Kd.R_tight rfl HO_6.out);rintro e w69 ⟨rfl,hy0,hb,hkp⟩;refine ⟨_,rfl,?_⟩;replace HO_4:=Aside0.mk (Kd.R_mono (ok':=fun k_ => some k_ ≠ (.slice Ao23 t505.length co23 : Value).ownBlock) (Kd.R_keptB (HO_4.out) hkp (fun k_ hk_ hs_ => (hk_) hs_)) (fun k_ hk_ => hk_.1));replace HO_6:=Aside0.mk (Kd.R_reok rfl hy0 (fun k_ e_ => HO_6.out.1 k_ e_));replace HB:=Aside0.mk (hb);(try clear hb);(try clear hkp);(try clear hy0)) | ((with_reducible refine gate_callee (f:=31) rfl ?_);refine goesL_ (some 48) rfl rfl Try.func31 (by kernel_rfl) rfl #[.slice Ao23 t516.length co23,.int .i64 1] rfl (by (try simp only [List.map_toArray,List.map_cons,List.map_nil]);first | done | (rw [show t516.length = t505.length from (Kd.R_reads' HO_6.out).1.symm] <;> rfl) | rfl | (simp only [List.length_drop,List.length_take];rfl)) ?_;(with_reducible refine (laws_heldMeetS.calls kj14 _ _ t516 1 t517 _ ?side1 ?side2 A34.out).mono ?_);(case side1 => repeat (first | exact (Kd.R_reads' HO_6.out).2.2 | (with_reducible refine Kd.C_alloc ?_ _) | (with_reducible refine Kd.C_drewN ?_ _) | (with_reducible refine Kd.C_drew ?_)));(case side2 => rw [show t516.length = t505.length from (Kd.R_reads' HO_6.out).1.symm];exact (Kd.R_reads' HO_6.out).2.1);rintro e w' ⟨rfl,⟨nd,rfl⟩⟩;refine ⟨_,rfl,?_⟩))
         go_ret
         exact ⟨Hd.e_,Hd.b_⟩
   ·
    replace c13:=Bool.eq_false_iff.mpr c13
    subst c13
    have H1 : (some false) = some r:=by rw [if_neg (show ¬ (false = true) by decide)] at H;exact H
    clear H
    have H:=H1
    clear H1
    obtain rfl:=Option.some.inj H
    go_enter Try.func6,Try.ntmps6
    go_wp2_with (first | ((with_reducible refine gate_callee (f:=8) rfl ?_);refine goesL_ (some 13) rfl rfl Try.func8 (by kernel_rfl) rfl #[.slice A0 l0.length c0,.int .i64 1048576] rfl Hd.m_ ?_;(with_reducible refine (laws_szFeatureS.calls k _ _ l0 1048576 t495 _ ?side1 ?side2 A2.out).mono ?_);(case side1 => repeat (first | exact HR0.out | (with_reducible refine Kd.C_alloc ?_ _) | (with_reducible refine Kd.C_drewN ?_ _) | (with_reducible refine Kd.C_drew ?_)));(case side2 => exact HC0.out);rintro e w70 ⟨rfl,hb⟩;refine ⟨_,rfl,?_⟩;replace HB:=Aside0.mk (below_step Hd.b_ hb);(try clear hb);(try clear hb2);(try clear hk);(try clear hi)) | ((with_reducible refine gate_callee (f:=10) rfl ?_);refine goesL_ (some 17) rfl rfl Try.func10 (by kernel_rfl) rfl #[.slice A0 l0.length c0] rfl Hd.m_ ?_;(with_reducible refine (laws_toFeatureS.calls k _ _ l0 t496 _ ?side1 ?side2 A5.out).mono ?_);(case side1 => repeat (first | exact (Kd.C_below HR0.out HB.out) | (with_reducible refine Kd.C_alloc ?_ _) | (with_reducible refine Kd.C_drewN ?_ _) | (with_reducible refine Kd.C_drew ?_)));(case side2 => exact HC0.out);rintro e w71 ⟨v497,rfl,ho0,hb⟩;refine ⟨_,rfl,?_⟩;have HO498:=Aside0.mk (Kd.S_lower ho0 (below_size Hd.b_));replace HB:=Aside0.mk (below_step Hd.b_ hb);(try clear hb);(try clear hb2);(try clear hk);(try clear hi);(try clear ho0);obtain ⟨Ao72,co72,eo72⟩:=Kd.S_slice HO498.out;subst eo72) | ((with_reducible refine gate_callee (f:=28) rfl ?_);refine goesL_ (some 18) rfl rfl Try.func28 (by kernel_rfl) rfl #[.slice Ao72 t496.length co72] rfl Hd.m_ ?_;(with_reducible refine (spec_MeetsOf.calls k _ _ t496 t499 _ ?side1 ?side2 A6.out).mono ?_);(case side1 => repeat (first | exact (Kd.S_reads' HO498.out).2.2 | (with_reducible refine Kd.C_alloc ?_ _) | (with_reducible refine Kd.C_drewN ?_ _) | (with_reducible refine Kd.C_drew ?_)));(case side2 => exact (Kd.S_reads' HO498.out).2.1);rintro e w73 ⟨v500,rfl,ho0,hb⟩;refine ⟨_,rfl,?_⟩;replace HO498:=Aside0.mk (Kd.S_below (by (with_reducible repeat (first | apply Kd.S_alloc | apply Kd.S_drewN | apply Kd.S_drew));exact HO498.out) hb);have HO501:=Aside0.mk (Kd.R_lower ho0 (below_size Hd.b_));replace HB:=Aside0.mk (below_step Hd.b_ hb);(try clear hb);(try clear hb2);(try clear hk);(try clear hi);(try clear ho0)) | ((with_reducible refine gate_callee (f:=10) rfl ?_);refine goesL_ (some 20) rfl rfl Try.func10 (by kernel_rfl) rfl #[.slice A0 l0.length c0] rfl Hd.m_ ?_;(with_reducible refine (laws_toFeatureS.calls k _ _ l0 t502 _ ?side1 ?side2 A7.out).mono ?_);(case side1 => repeat (first | exact (Kd.C_below HR0.out HB.out) | (with_reducible refine Kd.C_alloc ?_ _) | (with_reducible refine Kd.C_drewN ?_ _) | (with_reducible refine Kd.C_drew ?_)));(case side2 => exact HC0.out);rintro e w74 ⟨v503,rfl,ho0,hb⟩;refine ⟨_,rfl,?_⟩;replace HO501:=Aside0.mk (Kd.R_below (Hd.r_ HO501) hb);have HO504:=Aside0.mk (Kd.S_lower (Kd.S_new' ho0 (Kd.S_lt (by (with_reducible repeat (first | apply Kd.S_alloc | apply Kd.S_drewN | apply Kd.S_drew));exact HO498.out))) (below_size Hd.b_));replace HO498:=Aside0.mk (Kd.S_elder' (by (with_reducible repeat (first | apply Kd.S_alloc | apply Kd.S_drewN | apply Kd.S_drew));exact HO498.out) (Kd.S_base ho0) hb);replace HB:=Aside0.mk (below_step Hd.b_ hb);(try clear hb);(try clear hb2);(try clear hk);(try clear hi);(try clear ho0);obtain ⟨Ao75,co75,eo75⟩:=Kd.S_slice HO504.out;subst eo75) | ((with_reducible refine gate_callee (f:=21) rfl ?_);refine goesL_ (some 22) rfl rfl Try.func21 (by kernel_rfl) rfl #[.slice Ao75 t502.length co75] rfl Hd.m_ ?_;(with_reducible refine (impl_MeetsOf.calls k _ _ t502 t505 _ ?side1 ?side2 A8.out).mono ?_);(case side1 => repeat (first | exact (Kd.S_reads' HO504.out).2.2 | (with_reducible refine Kd.C_alloc ?_ _) | (with_reducible refine Kd.C_drewN ?_ _) | (with_reducible refine Kd.C_drew ?_)));(case side2 => exact (Kd.S_reads' HO504.out).2.1);rintro e w76 ⟨v506,rfl,ho0,hb⟩;refine ⟨_,rfl,?_⟩;replace HO498:=Aside0.mk (Kd.S_below (by (with_reducible repeat (first | apply Kd.S_alloc | apply Kd.S_drewN | apply Kd.S_drew));exact HO498.out) hb);replace HO504:=Aside0.mk (Kd.S_below (by (with_reducible repeat (first | apply Kd.S_alloc | apply Kd.S_drewN | apply Kd.S_drew));exact HO504.out) hb);have HO507:=Aside0.mk (Kd.R_lower (Kd.R_new' ho0 (Kd.R_lt (Hd.r_ HO501))) (below_size Hd.b_));replace HO501:=Aside0.mk (Kd.R_elder' (Hd.r_ HO501) (Kd.R_base ho0) hb);replace HB:=Aside0.mk (below_step Hd.b_ hb);(try clear hb);(try clear hb2);(try clear hk);(try clear hi);(try clear ho0);obtain ⟨Ao77,co77,eo77⟩:=Kd.R_slice HO507.out;subst eo77;obtain ⟨Ao78,co78,eo78⟩:=Kd.R_slice HO501.out;subst eo78) | ((with_reducible refine gate_callee (f:=29) rfl ?_);refine goesL_ (some 25) rfl rfl Try.func29 (by kernel_rfl) rfl #[.slice Ao77 t505.length co77,.slice Ao78 t499.length co78] rfl Hd.m_ ?_;(with_reducible refine (laws_eqMeetS.calls k _ _ t505 _ _ t499 true _ ?side1 ?side2 ?side3 ?side4 A9.out).mono ?_);(case side1 => repeat (first | exact (Kd.R_reads' HO507.out).2.2 | (with_reducible refine Kd.C_alloc ?_ _) | (with_reducible refine Kd.C_drewN ?_ _) | (with_reducible refine Kd.C_drew ?_)));(case side2 => exact (Kd.R_reads' HO507.out).2.1);(case side3 => repeat (first | exact (Kd.R_reads' HO501.out).2.2 | (with_reducible refine Kd.C_alloc ?_ _) | (with_reducible refine Kd.C_drewN ?_ _) | (with_reducible refine Kd.C_drew ?_)));(case side4 => exact (Kd.R_reads' HO501.out).2.1);rintro e w79 ⟨rfl,hb⟩;refine ⟨_,rfl,?_⟩;replace HO498:=Aside0.mk (Kd.S_below (by (with_reducible repeat (first | apply Kd.S_alloc | apply Kd.S_drewN | apply Kd.S_drew));exact HO498.out) hb);replace HO501:=Aside0.mk (Kd.R_below (Hd.r_ HO501) hb);replace HO504:=Aside0.mk (Kd.S_below (by (with_reducible repeat (first | apply Kd.S_alloc | apply Kd.S_drewN | apply Kd.S_drew));exact HO504.out) hb);replace HO507:=Aside0.mk (Kd.R_below (Hd.r_ HO507) hb);replace HB:=Aside0.mk (below_step Hd.b_ hb);(try clear hb);(try clear hb2);(try clear hk);(try clear hi)) | ((with_reducible refine gate_callee (f:=10) rfl ?_);refine goesL_ (some 29) rfl rfl Try.func10 (by kernel_rfl) rfl #[.slice A0 l0.length c0] rfl Hd.m_ ?_;(with_reducible refine (laws_toFeatureS.calls k _ _ l0 t509 _ ?side1 ?side2 A11.out).mono ?_);(case side1 => repeat (first | exact (Kd.C_below HR0.out HB.out) | (with_reducible refine Kd.C_alloc ?_ _) | (with_reducible refine Kd.C_drewN ?_ _) | (with_reducible refine Kd.C_drew ?_)));(case side2 => exact HC0.out);rintro e w80 ⟨v510,rfl,ho0,hb⟩;refine ⟨_,rfl,?_⟩;replace HO501:=Aside0.mk (Kd.R_below (Hd.r_ HO501) hb);replace HO507:=Aside0.mk (Kd.R_below (Hd.r_ HO507) hb);have HO511:=Aside0.mk (Kd.S_lower (Kd.S_new' (Kd.S_new' ho0 (Kd.S_lt (by (with_reducible repeat (first | apply Kd.S_alloc | apply Kd.S_drewN | apply Kd.S_drew));exact HO498.out))) (Kd.S_lt (by (with_reducible repeat (first | apply Kd.S_alloc | apply Kd.S_drewN | apply Kd.S_drew));exact HO504.out))) (below_size Hd.b_));replace HO498:=Aside0.mk (Kd.S_elder' (by (with_reducible repeat (first | apply Kd.S_alloc | apply Kd.S_drewN | apply Kd.S_drew));exact HO498.out) (Kd.S_base ho0) hb);replace HO504:=Aside0.mk (Kd.S_elder' (by (with_reducible repeat (first | apply Kd.S_alloc | apply Kd.S_drewN | apply Kd.S_drew));exact HO504.out) (Kd.S_base ho0) hb);replace HB:=Aside0.mk (below_step Hd.b_ hb);(try clear hb);(try clear hb2);(try clear hk);(try clear hi);(try clear ho0);obtain ⟨Ao81,co81,eo81⟩:=Kd.S_slice HO511.out;subst eo81) | ((with_reducible refine gate_callee (f:=13) rfl ?_);refine goesL_ (some 30) rfl rfl Try.func13 (by kernel_rfl) rfl #[.slice Ao75 t502.length co75,.slice Ao81 t509.length co81] rfl Hd.m_ ?_;(with_reducible refine (laws_eqFeatureS.calls k _ _ t502 _ _ t509 false _ ?side1 ?side2 ?side3 ?side4 A12.out).mono ?_);(case side1 => repeat (first | exact (Kd.S_reads' HO504.out).2.2 | (with_reducible refine Kd.C_alloc ?_ _) | (with_reducible refine Kd.C_drewN ?_ _) | (with_reducible refine Kd.C_drew ?_)));(case side2 => exact (Kd.S_reads' HO504.out).2.1);(case side3 => repeat (first | exact (Kd.S_reads' HO511.out).2.2 | (with_reducible refine Kd.C_alloc ?_ _) | (with_reducible refine Kd.C_drewN ?_ _) | (with_reducible refine Kd.C_drew ?_)));(case side4 => exact (Kd.S_reads' HO511.out).2.1);rintro e w82 ⟨rfl,hb⟩;refine ⟨_,rfl,?_⟩;replace HO498:=Aside0.mk (Kd.S_below (by (with_reducible repeat (first | apply Kd.S_alloc | apply Kd.S_drewN | apply Kd.S_drew));exact HO498.out) hb);replace HO501:=Aside0.mk (Kd.R_below (Hd.r_ HO501) hb);replace HO504:=Aside0.mk (Kd.S_below (by (with_reducible repeat (first | apply Kd.S_alloc | apply Kd.S_drewN | apply Kd.S_drew));exact HO504.out) hb);replace HO507:=Aside0.mk (Kd.R_below (Hd.r_ HO507) hb);replace HO511:=Aside0.mk (Kd.S_below (by (with_reducible repeat (first | apply Kd.S_alloc | apply Kd.S_drewN | apply Kd.S_drew));exact HO511.out) hb);replace HB:=Aside0.mk (below_step Hd.b_ hb);(try clear hb);(try clear hb2);(try clear hk);(try clear hi)))
    go_ret
    exact ⟨Hd.e_,Hd.b_⟩
  ·
   replace c10:=Bool.eq_false_iff.mpr c10
   subst c10
   have H1 : (some false) = some r:=by rw [if_neg (show ¬ (false = true) by decide)] at H;exact H
   clear H
   have H:=H1
   clear H1
   obtain rfl:=Option.some.inj H
   go_enter Try.func6,Try.ntmps6
   go_wp2_with (first | ((with_reducible refine gate_callee (f:=8) rfl ?_);refine goesL_ (some 13) rfl rfl Try.func8 (by kernel_rfl) rfl #[.slice A0 l0.length c0,.int .i64 1048576] rfl Hd.m_ ?_;(with_reducible refine (laws_szFeatureS.calls k _ _ l0 1048576 t495 _ ?side1 ?side2 A2.out).mono ?_);(case side1 => repeat (first | exact HR0.out | (with_reducible refine Kd.C_alloc ?_ _) | (with_reducible refine Kd.C_drewN ?_ _) | (with_reducible refine Kd.C_drew ?_)));(case side2 => exact HC0.out);rintro e w83 ⟨rfl,hb⟩;refine ⟨_,rfl,?_⟩;replace HB:=Aside0.mk (below_step Hd.b_ hb);(try clear hb);(try clear hb2);(try clear hk);(try clear hi)) | ((with_reducible refine gate_callee (f:=10) rfl ?_);refine goesL_ (some 17) rfl rfl Try.func10 (by kernel_rfl) rfl #[.slice A0 l0.length c0] rfl Hd.m_ ?_;(with_reducible refine (laws_toFeatureS.calls k _ _ l0 t496 _ ?side1 ?side2 A5.out).mono ?_);(case side1 => repeat (first | exact (Kd.C_below HR0.out HB.out) | (with_reducible refine Kd.C_alloc ?_ _) | (with_reducible refine Kd.C_drewN ?_ _) | (with_reducible refine Kd.C_drew ?_)));(case side2 => exact HC0.out);rintro e w84 ⟨v497,rfl,ho0,hb⟩;refine ⟨_,rfl,?_⟩;have HO498:=Aside0.mk (Kd.S_lower ho0 (below_size Hd.b_));replace HB:=Aside0.mk (below_step Hd.b_ hb);(try clear hb);(try clear hb2);(try clear hk);(try clear hi);(try clear ho0);obtain ⟨Ao85,co85,eo85⟩:=Kd.S_slice HO498.out;subst eo85) | ((with_reducible refine gate_callee (f:=28) rfl ?_);refine goesL_ (some 18) rfl rfl Try.func28 (by kernel_rfl) rfl #[.slice Ao85 t496.length co85] rfl Hd.m_ ?_;(with_reducible refine (spec_MeetsOf.calls k _ _ t496 t499 _ ?side1 ?side2 A6.out).mono ?_);(case side1 => repeat (first | exact (Kd.S_reads' HO498.out).2.2 | (with_reducible refine Kd.C_alloc ?_ _) | (with_reducible refine Kd.C_drewN ?_ _) | (with_reducible refine Kd.C_drew ?_)));(case side2 => exact (Kd.S_reads' HO498.out).2.1);rintro e w86 ⟨v500,rfl,ho0,hb⟩;refine ⟨_,rfl,?_⟩;replace HO498:=Aside0.mk (Kd.S_below (by (with_reducible repeat (first | apply Kd.S_alloc | apply Kd.S_drewN | apply Kd.S_drew));exact HO498.out) hb);have HO501:=Aside0.mk (Kd.R_lower ho0 (below_size Hd.b_));replace HB:=Aside0.mk (below_step Hd.b_ hb);(try clear hb);(try clear hb2);(try clear hk);(try clear hi);(try clear ho0)) | ((with_reducible refine gate_callee (f:=10) rfl ?_);refine goesL_ (some 20) rfl rfl Try.func10 (by kernel_rfl) rfl #[.slice A0 l0.length c0] rfl Hd.m_ ?_;(with_reducible refine (laws_toFeatureS.calls k _ _ l0 t502 _ ?side1 ?side2 A7.out).mono ?_);(case side1 => repeat (first | exact (Kd.C_below HR0.out HB.out) | (with_reducible refine Kd.C_alloc ?_ _) | (with_reducible refine Kd.C_drewN ?_ _) | (with_reducible refine Kd.C_drew ?_)));(case side2 => exact HC0.out);rintro e w87 ⟨v503,rfl,ho0,hb⟩;refine ⟨_,rfl,?_⟩;replace HO501:=Aside0.mk (Kd.R_below (Hd.r_ HO501) hb);have HO504:=Aside0.mk (Kd.S_lower (Kd.S_new' ho0 (Kd.S_lt (by (with_reducible repeat (first | apply Kd.S_alloc | apply Kd.S_drewN | apply Kd.S_drew));exact HO498.out))) (below_size Hd.b_));replace HO498:=Aside0.mk (Kd.S_elder' (by (with_reducible repeat (first | apply Kd.S_alloc | apply Kd.S_drewN | apply Kd.S_drew));exact HO498.out) (Kd.S_base ho0) hb);replace HB:=Aside0.mk (below_step Hd.b_ hb);(try clear hb);(try clear hb2);(try clear hk);(try clear hi);(try clear ho0);obtain ⟨Ao88,co88,eo88⟩:=Kd.S_slice HO504.out;subst eo88) | ((with_reducible refine gate_callee (f:=21) rfl ?_);refine goesL_ (some 22) rfl rfl Try.func21 (by kernel_rfl) rfl #[.slice Ao88 t502.length co88] rfl Hd.m_ ?_;(with_reducible refine (impl_MeetsOf.calls k _ _ t502 t505 _ ?side1 ?side2 A8.out).mono ?_);(case side1 => repeat (first | exact (Kd.S_reads' HO504.out).2.2 | (with_reducible refine Kd.C_alloc ?_ _) | (with_reducible refine Kd.C_drewN ?_ _) | (with_reducible refine Kd.C_drew ?_)));(case side2 => exact (Kd.S_reads' HO504.out).2.1);rintro e w89 ⟨v506,rfl,ho0,hb⟩;refine ⟨_,rfl,?_⟩;replace HO498:=Aside0.mk (Kd.S_below (by (with_reducible repeat (first | apply Kd.S_alloc | apply Kd.S_drewN | apply Kd.S_drew));exact HO498.out) hb);replace HO504:=Aside0.mk (Kd.S_below (by (with_reducible repeat (first | apply Kd.S_alloc | apply Kd.S_drewN | apply Kd.S_drew));exact HO504.out) hb);have HO507:=Aside0.mk (Kd.R_lower (Kd.R_new' ho0 (Kd.R_lt (Hd.r_ HO501))) (below_size Hd.b_));replace HO501:=Aside0.mk (Kd.R_elder' (Hd.r_ HO501) (Kd.R_base ho0) hb);replace HB:=Aside0.mk (below_step Hd.b_ hb);(try clear hb);(try clear hb2);(try clear hk);(try clear hi);(try clear ho0);obtain ⟨Ao90,co90,eo90⟩:=Kd.R_slice HO507.out;subst eo90;obtain ⟨Ao91,co91,eo91⟩:=Kd.R_slice HO501.out;subst eo91) | ((with_reducible refine gate_callee (f:=29) rfl ?_);refine goesL_ (some 25) rfl rfl Try.func29 (by kernel_rfl) rfl #[.slice Ao90 t505.length co90,.slice Ao91 t499.length co91] rfl Hd.m_ ?_;(with_reducible refine (laws_eqMeetS.calls k _ _ t505 _ _ t499 false _ ?side1 ?side2 ?side3 ?side4 A9.out).mono ?_);(case side1 => repeat (first | exact (Kd.R_reads' HO507.out).2.2 | (with_reducible refine Kd.C_alloc ?_ _) | (with_reducible refine Kd.C_drewN ?_ _) | (with_reducible refine Kd.C_drew ?_)));(case side2 => exact (Kd.R_reads' HO507.out).2.1);(case side3 => repeat (first | exact (Kd.R_reads' HO501.out).2.2 | (with_reducible refine Kd.C_alloc ?_ _) | (with_reducible refine Kd.C_drewN ?_ _) | (with_reducible refine Kd.C_drew ?_)));(case side4 => exact (Kd.R_reads' HO501.out).2.1);rintro e w92 ⟨rfl,hb⟩;refine ⟨_,rfl,?_⟩;replace HO498:=Aside0.mk (Kd.S_below (by (with_reducible repeat (first | apply Kd.S_alloc | apply Kd.S_drewN | apply Kd.S_drew));exact HO498.out) hb);replace HO501:=Aside0.mk (Kd.R_below (Hd.r_ HO501) hb);replace HO504:=Aside0.mk (Kd.S_below (by (with_reducible repeat (first | apply Kd.S_alloc | apply Kd.S_drewN | apply Kd.S_drew));exact HO504.out) hb);replace HO507:=Aside0.mk (Kd.R_below (Hd.r_ HO507) hb);replace HB:=Aside0.mk (below_step Hd.b_ hb);(try clear hb);(try clear hb2);(try clear hk);(try clear hi)))
   go_ret
   exact ⟨Hd.e_,Hd.b_⟩
end Go.Proofs.Ytchmbcembbbplad.MFnExactMeetsOf
