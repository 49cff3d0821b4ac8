-- Laid by this session's program pp.py, after the kit's print and texts of the session's own. Not trusted: Lean checks it.
import Derived.Test.YtchmbcembbbpladZMeetsOfMx0
import Derived.Test.YtchmbcembbbpladZMeetsOfMx13
namespace Go.Proofs.Ytchmbcembbbplad.MFnExactMeetsOf
open Go.RowKit Go.Proofs.YtchmbcembbbpladW.PrintWords Go.Proofs.YtchmbcembbbpladW.PrintLast Go.Proofs.YtchmbcembbbpladW.PrintMore
attribute [local go_sem] max2_int min2_int max_two min_two max_three min_three max_four min_four   -- for this text's walks alone
set_option linter.unusedVariables false
set_option linter.unusedSimpArgs false
def spec_SegmentsOf.l0 : Nat → List (S63) → List (S100) → Int → Option ((List (S100)))
 | 0,_,_,_ => none
 | k + 1,x0,x3,x4 => if x4 < (x0.length : Int) then ((spec_IsLine.f k x0).bind fun t391 => (if t391 = true then (if 0 ≤ (wrap64 (x4 - 1)) then (if (wrap64 (x4 - 1)) < (x0.length : Int) then (if 0 ≤ x4 then (if x3.length < 4398046511104 then (spec_SegmentsOf.l0 k x0 (x3 ++ [(⟨(⟨(rd_T63 x0 (wrap64 (x4 - 1))).f0,(rd_T63 x0 (wrap64 (x4 - 1))).f1⟩ : S63),(⟨(rd_T63 x0 x4).f0,(rd_T63 x0 x4).f1⟩ : S63)⟩ : S100)]) (wrap64 (x4 + 1))) else (none)) else (none)) else (none)) else (none)) else (some x3))) else (some x3)
def spec_SegmentsOf.f (k : Nat) (l0 : List (S63)) : Option ((List (S100))):=spec_SegmentsOf.l0 k l0 (([] : List (S100))) 1
def spec_SegmentsOf.T5 : Bool × List (List Nat × List Nat):=(true,[([],[]),([],[]),([],[]),([2],[2]),([1,3],[1,3]),([4],[4]),([],[]),([],[]),([6,7],[6,7]),([8],[8]),([5,9],[5,9]),([10],[10]),([0,11],[0,11]),([12,12,0,1,2,3,4,5,6,7,8,9,10,11,12],[0,12])])
def spec_SegmentsOf.B5 : List Nat:=[0,0,0,4,14,30,0,0,192,448,1022,2046,4095,8191]
theorem spec_SegmentsOf.tab5 : rtab .any (opsOf Try.f113 5) = spec_SegmentsOf.T5:=by kernel_rfl
theorem spec_SegmentsOf.bits5 : waitsOk spec_SegmentsOf.T5.2 spec_SegmentsOf.B5 = true:=by kernel_rfl
set_option maxHeartbeats 8000000 in
set_option maxRecDepth 100000 in
theorem spec_SegmentsOf.calls (k : Nat) (A0 : Option Addr) (c0 : Nat) (l0 : List (S63)) (r : List (S100)) (w : World) (hr0 : Kd.C k63 w A0 l0.length l0) (hc0 : l0.length ≤ c0) (h : spec_SegmentsOf.f k l0 = some r) :
  Calls Try.prog 113 #[.slice A0 l0.length c0] w fun e w' => ∃ v0_ : Value,e = .returned (v0_) ∧ Kd.R k100 100 w' w.heap.size (fun _ => True) v0_ r ∧ Below w.heap.size w w':=by
 have hu63:=Try.underlying63
 have hu100:=Try.underlying100
 have HR0:=Aside0.mk hr0
 have HC0:=Aside0.mk hc0
 clear hr0 hc0
 have HB:=Aside0.mk (Below.refl w.heap.size w)
 have H : (spec_SegmentsOf.l0 k l0 (([] : List (S100))) 1) = some r:=h
 clear h
 obtain ⟨y388,hy388⟩ : ∃ y_ : List (S100),y_ = (([] : List (S100))):=⟨_,rfl⟩
 replace H : (spec_SegmentsOf.l0 k l0 y388 1) = some r:=by first | (rw [hy388];with_reducible exact H) | (have H2_:=(Option.bind_some _ _).symm.trans H;rw [hy388];with_reducible exact H2_) | (have H2_:=(Option.bind_some _ _).symm.trans H;with_reducible exact H2_) | with_reducible exact H | (rw [hy388];exact H) | exact H
 have Ny388:=Aside0.mk hy388
 clear hy388
 have H':=Aside0.mk H
 clear H
 go_enter Try.func113,Try.ntmps113
 go_wp2_with (first | ((with_reducible refine gate_dst (N:=5) rfl ?_);refine Kd.R_lit k100 _ 100 ?hg (N:=5) ?hd (xs:=([] : List (S100))) (inner:=[]) (ok:=fun _ => True) (okp:=fun _ => True) ?hr ?hp (fun _ hk => hk) trivial (Below.refl _ _) (Nat.le_refl _) (by simp) ?_;(case hd => rfl);(case hg => rfl);(case hr => first | (go_simp;done) | (go_simp;rfl));(case hp => exact (Reps.none _ _));intro v389 w2 ho3 hb hg_ hnew_;clear hg_ hnew_;(first | rw [← Ny388.out] at ho3 | (simp only [Int.reduceToNat] at ho3;rw [← Ny388.out] at ho3));have HO390:=Aside0.mk (Kd.R_lower ho3 (below_size Hd.b_));replace HB:=Aside0.mk (below_step Hd.b_ hb);clear hb ho3))
 go_loopg [3,4] k (fun kq v3 v4 w' => ∃ (x3_1 : List (S100)) (x4_1 : Int),v4 = .int .i64 x4_1 ∧ Aside0 (spec_SegmentsOf.l0 kq l0 x3_1 x4_1 = some r) ∧ Aside0 (kq ≤ k) ∧ Aside0 (Kd.R k100 100 w' w.heap.size (fun _ => True) v3 x3_1) ∧ Aside0 (Below w.heap.size w w'))
 case atStart => exact ⟨(y388),(1),(by first | rfl | (simp;done) | (simp [*];done)),H',⟨Nat.le_refl _⟩,⟨by (with_reducible repeat (first | apply Kd.R_alloc | apply Kd.R_drewN | apply Kd.R_drew));exact HO390.out⟩,⟨Hd.b_⟩⟩
 case round =>
  clear H'
  try clear c1
  try clear p2
  obtain ⟨x3_1,x4_1,rfl,HA,HK1,HO_3,HB⟩:=hrel
  cases gk with
  | zero => exact absurd HA.out (by simp [spec_SegmentsOf.l0])
  | succ k1 =>
   have H:=HA.out
   clear HA
   simp only [spec_SegmentsOf.l0] at H
   by_cases c4 : x4_1 < (l0.length : Int)
   ·
    rw [if_pos c4] at H
    have c4b0 : decide (x4_1 < (l0.length : Int)) = true:=decide_eq_true c4
    clear c4
    replace H:=Option.bind_eq_some_iff.mp H
    obtain ⟨t391,A50,H⟩:=H
    replace H : (if t391 = true then (if 0 ≤ (wrap64 (x4_1 - 1)) then (if (wrap64 (x4_1 - 1)) < (l0.length : Int) then (if 0 ≤ x4_1 then (if x3_1.length < 4398046511104 then (spec_SegmentsOf.l0 k1 l0 (x3_1 ++ [(⟨(⟨(rd_T63 l0 (wrap64 (x4_1 - 1))).f0,(rd_T63 l0 (wrap64 (x4_1 - 1))).f1⟩ : S63),(⟨(rd_T63 l0 x4_1).f0,(rd_T63 l0 x4_1).f1⟩ : S63)⟩ : S100)]) (wrap64 (x4_1 + 1))) else (none)) else (none)) else (none)) else (none)) else (some x3_1)) = some r:=H
    have A5:=Aside0.mk A50
    clear A50
    by_cases c6 : t391 = true
    ·
     subst c6
     have H1 : (if 0 ≤ (wrap64 (x4_1 - 1)) then (if (wrap64 (x4_1 - 1)) < (l0.length : Int) then (if 0 ≤ x4_1 then (if x3_1.length < 4398046511104 then (spec_SegmentsOf.l0 k1 l0 (x3_1 ++ [(⟨(⟨(rd_T63 l0 (wrap64 (x4_1 - 1))).f0,(rd_T63 l0 (wrap64 (x4_1 - 1))).f1⟩ : S63),(⟨(rd_T63 l0 x4_1).f0,(rd_T63 l0 x4_1).f1⟩ : S63)⟩ : S100)]) (wrap64 (x4_1 + 1))) else (none)) else (none)) else (none)) else (none)) = some r:=by rw [if_pos rfl] at H;exact H
     clear H
     have H:=H1
     clear H1
     obtain ⟨ji7,hji7⟩ : ∃ j_ : Int,(wrap64 (x4_1 - 1)) = j_:=⟨_,rfl⟩
     replace H : (if 0 ≤ (ji7) then (if (ji7) < (l0.length : Int) then (if 0 ≤ x4_1 then (if x3_1.length < 4398046511104 then (spec_SegmentsOf.l0 k1 l0 (x3_1 ++ [(⟨(⟨(rd_T63 l0 (ji7)).f0,(rd_T63 l0 (ji7)).f1⟩ : S63),(⟨(rd_T63 l0 x4_1).f0,(rd_T63 l0 x4_1).f1⟩ : S63)⟩ : S100)]) (wrap64 (x4_1 + 1))) else (none)) else (none)) else (none)) else (none)) = some r:=by first | (rw [hji7] at H;exact H) | (simp only [hji7] at H ⊢;exact H)
     (try rw [hji7] at A5)
     have hji7w : (IntKind.i64.wrap (x4_1 - 1)) = ji7:=(i64_w _).trans hji7
     by_cases c8 : 0 ≤ (ji7)
     ·
      rw [if_pos c8] at H
      have c8b0 : decide (0 ≤ (ji7)) = true:=decide_eq_true c8
      clear c8
      by_cases c9 : (ji7) < (l0.length : Int)
      ·
       rw [if_pos c9] at H
       have c9b0 : decide ((ji7) < (l0.length : Int)) = true:=decide_eq_true c9
       clear c9
       by_cases c10 : 0 ≤ x4_1
       ·
        rw [if_pos c10] at H
        have c10b0 : decide (0 ≤ x4_1) = true:=decide_eq_true c10
        clear c10
        by_cases c11 : x3_1.length < 4398046511104
        ·
         rw [if_pos c11] at H
         have LMc11:=Aside0.mk c11
         clear c11
         obtain ⟨y394,hy394⟩ : ∃ y_ : List (S100),y_ = (x3_1 ++ [(⟨(⟨(rd_T63 l0 (ji7)).f0,(rd_T63 l0 (ji7)).f1⟩ : S63),(⟨(rd_T63 l0 x4_1).f0,(rd_T63 l0 x4_1).f1⟩ : S63)⟩ : S100)]):=⟨_,rfl⟩
         replace H : (spec_SegmentsOf.l0 k1 l0 y394 (wrap64 (x4_1 + 1))) = some r:=by first | (rw [hy394];with_reducible exact H) | (have H2_:=(Option.bind_some _ _).symm.trans H;rw [hy394];with_reducible exact H2_) | (have H2_:=(Option.bind_some _ _).symm.trans H;with_reducible exact H2_) | with_reducible exact H | (rw [hy394];exact H) | exact H
         have Ny394:=Aside0.mk hy394
         clear hy394
         have H':=Aside0.mk H
         clear H
         try go_wp2_with (first | (go_at_call 134;(with_reducible refine (spec_IsLine.calls k1 _ _ l0 true _ ?side1 ?side2 A5.out).mono ?_);(case side1 => repeat (first | exact (Kd.C_below HR0.out HB.out) | (with_reducible refine Kd.C_alloc ?_ _) | (with_reducible refine Kd.C_drewN ?_ _) | (with_reducible refine Kd.C_drew ?_)));(case side2 => exact HC0.out);rintro e w12 ⟨rfl,hb⟩;replace HO_3:=Aside0.mk (Kd.R_below (Hd.r_ HO_3) hb);replace HB:=Aside0.mk (below_step Hd.b_ hb);(try clear hb);(try clear hb2);(try clear hk);(try clear hi)))
         replace HO_3:=Aside0.mk (Kd.R_drew HO_3.out)
         replace HB:=Aside0.mk (below_drew1 HB.out)
         have p392 : 0 ≤ ((ji7) : Int):=of_decide_eq_true Hd.a_
         have q392 : (ji7) < (l0.length : Int):=of_decide_eq_true Hd.a_
         obtain ⟨ad392,e392,hx392_0,hx392_1⟩:=at_T63 HR0.out (ji7) p392 q392
         have hw392_1:=hx392_1
         have hw392_0:=hx392_0
         cases e392
         replace hx392_0:=(HB.out.cell (World.block_lt_of_cell? w _ hx392_0)).trans hx392_0
         replace hx392_1:=(HB.out.cell (World.block_lt_of_cell? w _ hx392_1)).trans hx392_1
         replace p392:=eq_true p392
         replace q392:=eq_true q392
         have p393 : 0 ≤ (x4_1 : Int):=of_decide_eq_true Hd.a_
         have q393 : x4_1 < (l0.length : Int):=of_decide_eq_true Hd.a_
         obtain ⟨ad393,e393,hx393_0,hx393_1⟩:=at_T63 HR0.out x4_1 p393 q393
         have hw393_1:=hx393_1
         have hw393_0:=hx393_0
         obtain rfl : ad392 = ad393:=(by injection e393)
         replace hx393_0:=(HB.out.cell (World.block_lt_of_cell? w _ hx393_0)).trans hx393_0
         replace hx393_1:=(HB.out.cell (World.block_lt_of_cell? w _ hx393_1)).trans hx393_1
         replace p393:=eq_true p393
         replace q393:=eq_true q393
         refine start_ (n:=14) (S:=fun w' => w'.cell? (ad392.add (((ji7)).toNat * 2)) = some (.int .i64 ((rd_T63 l0 (ji7)).f0)) ∧ w'.cell? ⟨(ad392.add (((ji7)).toNat * 2)).block,(ad392.add (((ji7)).toNat * 2)).off + 1,none⟩ = some (.int .i64 ((rd_T63 l0 (ji7)).f1)) ∧ w'.cell? (ad392.add ((x4_1).toNat * 2)) = some (.int .i64 ((rd_T63 l0 x4_1).f0)) ∧ w'.cell? ⟨(ad392.add ((x4_1).toNat * 2)).block,(ad392.add ((x4_1).toNat * 2)).off + 1,none⟩ = some (.int .i64 ((rd_T63 l0 x4_1).f1))) (ds:=[]) #[false,false,false,false,false,false,false,false,false,false,false,false,false,false] (by kernel_rfl) rfl rfl ⟨((HB.out.cell (World.block_lt_of_cell? w _ hw392_0)).trans hw392_0),((HB.out.cell (World.block_lt_of_cell? w _ hw392_1)).trans hw392_1),((HB.out.cell (World.block_lt_of_cell? w _ hw393_0)).trans hw393_0),((HB.out.cell (World.block_lt_of_cell? w _ hw393_1)).trans hw393_1)⟩ (fun hHeld => ?_);refine with_tabW spec_SegmentsOf.tab5 spec_SegmentsOf.bits5 (fun HT_ HW_ => ?_)
         generalize w12.drew = w13 at HO_3 HB hx392_0 hx392_1 hx393_0 hx393_1 hHeld ⊢
         refine Hd.p_ HT_ 0 (some 16) #[true,false,false,false,false,false,false,false,false,false,false,false,false,false] ?_
         refine Hd.p_ HT_ 1 (some 17) #[true,true,false,false,false,false,false,false,false,false,false,false,false,false] ?_
         refine Hd.p_ HT_ 2 (some 18) #[true,true,true,false,false,false,false,false,false,false,false,false,false,false] ?_
         refine Hd.p_ HT_ 3 (some 19) #[true,true,true,true,false,false,false,false,false,false,false,false,false,false] ?_
         refine Hd.p_ HT_ 4 (some 20) #[true,true,true,true,true,false,false,false,false,false,false,false,false,false] ?_
         refine Hd.p_ HT_ 6 (some 22) #[true,true,true,true,true,false,true,false,false,false,false,false,false,false] ?_
         refine Hd.p_ HT_ 7 (some 23) #[true,true,true,true,true,false,true,true,false,false,false,false,false,false] ?_
         refine Hd.p_ HT_ 8 (some 24) #[true,true,true,true,true,false,true,true,true,false,false,false,false,false] ?_
         refine Hd.t_ HT_ HW_ hHeld 5 (some 21) #[true,true,true,true,true,true,true,true,true,false,false,false,false,false] ?_
         refine Hd.t_ HT_ HW_ hHeld 9 (some 25) #[true,true,true,true,true,true,true,true,true,true,false,false,false,false] ?_
         refine Hd.p_ HT_ 10 (some 26) #[true,true,true,true,true,true,true,true,true,true,true,false,false,false] ?_
         refine Hd.o_ HT_ 11 (some 27) #[true,true,true,true,true,true,true,true,true,true,true,true,false,false] (fun K hK => ?_)
         refine value_ (w1:=?_) (v:=?_) (by rfl) rfl ?_ ?_
         rotate_left 2
         ·
          go_simp
          constructor
          ·
           rfl
          ·
           rfl
         refine hK.out _ _ ⟨(World.cell?_alloc_lt _ _ _ (World.block_lt_of_cell? _ _ (((HB.out.cell (World.block_lt_of_cell? w _ hw392_0)).trans hw392_0)))).trans (((HB.out.cell (World.block_lt_of_cell? w _ hw392_0)).trans hw392_0)),(World.cell?_alloc_lt _ _ _ (World.block_lt_of_cell? _ _ (((HB.out.cell (World.block_lt_of_cell? w _ hw392_1)).trans hw392_1)))).trans (((HB.out.cell (World.block_lt_of_cell? w _ hw392_1)).trans hw392_1)),(World.cell?_alloc_lt _ _ _ (World.block_lt_of_cell? _ _ (((HB.out.cell (World.block_lt_of_cell? w _ hw393_0)).trans hw393_0)))).trans (((HB.out.cell (World.block_lt_of_cell? w _ hw393_0)).trans hw393_0)),(World.cell?_alloc_lt _ _ _ (World.block_lt_of_cell? _ _ (((HB.out.cell (World.block_lt_of_cell? w _ hw393_1)).trans hw393_1)))).trans (((HB.out.cell (World.block_lt_of_cell? w _ hw393_1)).trans hw393_1))⟩ (fun hHeld => ?_)
         clear hK K
         refine Hd.n_ (some 27) ?_
         refine Hd.o_ HT_ 12 (some 28) #[true,true,true,true,true,true,true,true,true,true,true,true,true,false] (fun K hK => ?_)
         refine Kd.R_append_step k100 (w0:=w) w.heap.size (by rfl) (.tmp 16) (.tmp 27) 75 100 (.agg #[(.int .i64 0),(.int .i64 0),(.int .i64 0),(.int .i64 0)]) 32 rfl Try.underlying75 info100 rfl (by decide) (by omega) u3 x3_1 (⟨(⟨(rd_T63 l0 (ji7)).f0,(rd_T63 l0 (ji7)).f1⟩ : S63),(⟨(rd_T63 l0 x4_1).f0,(rd_T63 l0 x4_1).f1⟩ : S63)⟩ : S100) [.int .i64 ((rd_T63 l0 (ji7)).f0),.int .i64 ((rd_T63 l0 (ji7)).f1),.int .i64 ((rd_T63 l0 x4_1).f0),.int .i64 ((rd_T63 l0 x4_1).f1)] (fun _ => True) (fun _ => False) rfl rfl ?aP (fun _ hk => hk.elim) ?aF ?aO ?aB ?aS ?aL ?_
         (case aP => exact k100_mkM _ _ _ (⟨(⟨(rd_T63 l0 (ji7)).f0,(rd_T63 l0 (ji7)).f1⟩ : S63),(⟨(rd_T63 l0 x4_1).f0,(rd_T63 l0 x4_1).f1⟩ : S63)⟩ : S100))
         (case aB => exact Hd.b_)
         (case aF => exact (fun _ _ => trivial))
         (case aO => exact (Hd.r_ HO_3))
         (case aS => exact (below_size Hd.b_))
         (case aL => have:=LMc11.out;omega)
         intro v395 w14 ho hb hg hat
         rw [← Ny394.out] at ho
         have n0_:=Aside0.mk (hb)
         have n1_:=Aside0.mk (ho)
         clear HB
         clear HO_3
         have HB:=n0_
         have HO396:=n1_
         clear n0_ n1_
         clear ho hb hg hat
         refine hK.out _ _ ⟨((HB.out.cell (World.block_lt_of_cell? w _ hw392_0)).trans hw392_0),((HB.out.cell (World.block_lt_of_cell? w _ hw392_1)).trans hw392_1),((HB.out.cell (World.block_lt_of_cell? w _ hw393_0)).trans hw393_0),((HB.out.cell (World.block_lt_of_cell? w _ hw393_1)).trans hw393_1)⟩ (fun hHeld => ?_)
         clear hK K
         refine Hd.n_ (some 28) ?_
         refine Hd.p_ HT_ 13 (some 3) #[true,true,true,true,true,true,true,true,true,true,true,true,true,true] ?_
         refine done_ (done_of HT_.out (by kernel_rfl)) ?_
         try go_wp2
         go_roundg k1
         case measure => have:=HK1.out;omega
         case rel => exact ⟨(y394),(wrap64 (x4_1 + 1)),(by first | rfl | (simp;done) | (simp [*];done)),H',⟨by have:=HK1.out;omega⟩,⟨by (with_reducible repeat (first | apply Kd.R_alloc | apply Kd.R_drewN | apply Kd.R_drew));exact HO396.out⟩,⟨Hd.b_⟩⟩
        ·
         rw [if_neg c11] at H
         exact absurd H (by simp)
       ·
        rw [if_neg c10] at H
        exact absurd H (by simp)
      ·
       rw [if_neg c9] at H
       exact absurd H (by simp)
     ·
      rw [if_neg c8] at H
      exact absurd H (by simp)
    ·
     replace c6:=Bool.eq_false_iff.mpr c6
     subst c6
     have H1 : (some x3_1) = some r:=by rw [if_neg (show ¬ (false = true) by decide)] at H;exact H
     clear H
     have H:=H1
     clear H1
     obtain rfl:=Option.some.inj H
     go_wp2_with (first | (go_at_call 134;(with_reducible refine (spec_IsLine.calls k1 _ _ l0 false _ ?side1 ?side2 A5.out).mono ?_);(case side1 => repeat (first | exact (Kd.C_below HR0.out HB.out) | (with_reducible refine Kd.C_alloc ?_ _) | (with_reducible refine Kd.C_drewN ?_ _) | (with_reducible refine Kd.C_drew ?_)));(case side2 => exact HC0.out);rintro e w15 ⟨rfl,hb⟩;replace HO_3:=Aside0.mk (Kd.R_below (Hd.r_ HO_3) hb);replace HB:=Aside0.mk (below_step Hd.b_ hb);(try clear hb);(try clear hb2);(try clear hk);(try clear hi)))
     go_ret
     exact ⟨_,Hd.e_,by (with_reducible repeat (first | apply Kd.R_alloc | apply Kd.R_drewN | apply Kd.R_drew));exact HO_3.out,Hd.b_⟩
   ·
    rw [if_neg c4] at H
    have c4b0 : decide (x4_1 < (l0.length : Int)) = false:=decide_eq_false c4
    clear c4
    obtain rfl:=Option.some.inj H
    go_wp2
    go_ret
    exact ⟨_,Hd.e_,by (with_reducible repeat (first | apply Kd.R_alloc | apply Kd.R_drewN | apply Kd.R_drew));exact HO_3.out,Hd.b_⟩
mutual
def spec_IsSimple.l0 : Nat → List (S63) → List (S100) → Int → Option (Bool)
 | 0,_,_,_ => none
 | k + 1,x0,x3,x4 => if x4 < (x3.length : Int) then (spec_IsSimple.l1 k x0 x3 x4 0) else ((spec_IsLine.f k x0).bind fun t400 => (some t400))
def spec_IsSimple.l1 : Nat → List (S63) → List (S100) → Int → Int → Option (Bool)
 | 0,_,_,_,_ => none
 | k + 1,x0,x3,x4,x5 => if x5 < x4 then (if (wrap64 (x5 + 1)) = x4 then (if 0 ≤ x4 then (if x4 < (x3.length : Int) then (if 0 ≤ x5 then (if x5 < (x3.length : Int) then ((spec_HowMeet.f k ((rd_T100 x3 x4).f0.f0) ((rd_T100 x3 x4).f0.f1) ((rd_T100 x3 x4).f1.f0) ((rd_T100 x3 x4).f1.f1) ((rd_T100 x3 x5).f0.f0) ((rd_T100 x3 x5).f0.f1) ((rd_T100 x3 x5).f1.f0) ((rd_T100 x3 x5).f1.f1)).bind fun t403 => (if t403 = 1 then (spec_IsSimple.l1 k x0 x3 x4 (wrap64 (x5 + 1))) else (some false))) else (none)) else (none)) else (none)) else (none)) else (if 0 ≤ x4 then (if x4 < (x3.length : Int) then (if 0 ≤ x5 then (if x5 < (x3.length : Int) then ((spec_HowMeet.f k ((rd_T100 x3 x4).f0.f0) ((rd_T100 x3 x4).f0.f1) ((rd_T100 x3 x4).f1.f0) ((rd_T100 x3 x4).f1.f1) ((rd_T100 x3 x5).f0.f0) ((rd_T100 x3 x5).f0.f1) ((rd_T100 x3 x5).f1.f0) ((rd_T100 x3 x5).f1.f1)).bind fun t406 => (if t406 = 0 then (spec_IsSimple.l1 k x0 x3 x4 (wrap64 (x5 + 1))) else (some false))) else (none)) else (none)) else (none)) else (none))) else (spec_IsSimple.l0 k x0 x3 (wrap64 (x4 + 1)))
end
def spec_IsSimple.f (k : Nat) (l0 : List (S63)) : Option (Bool):=(spec_SegmentsOf.f k l0).bind fun t397 => (spec_IsSimple.l0 k l0 t397 0)
set_option maxHeartbeats 8000000 in
set_option maxRecDepth 100000 in
theorem spec_IsSimple.calls (k : Nat) (A0 : Option Addr) (c0 : Nat) (l0 : List (S63)) (r : Bool) (w : World) (hr0 : Kd.C k63 w A0 l0.length l0) (hc0 : l0.length ≤ c0) (h : spec_IsSimple.f k l0 = some r) :
  Calls Try.prog 98 #[.slice A0 l0.length c0] w fun e w' => e = .returned (.bool r) ∧ Below w.heap.size w w':=by
 have hu100:=Try.underlying100
 have HR0:=Aside0.mk hr0
 have HC0:=Aside0.mk hc0
 clear hr0 hc0
 have HB:=Aside0.mk (Below.refl w.heap.size w)
 have H : ((spec_SegmentsOf.f k l0).bind fun t397 => (spec_IsSimple.l0 k l0 t397 0)) = some r:=h
 clear h
 replace H:=Option.bind_eq_some_iff.mp H
 obtain ⟨t397,A20,H⟩:=H
 replace H : (spec_IsSimple.l0 k l0 t397 0) = some r:=H
 have A2:=Aside0.mk A20
 clear A20
 have H':=Aside0.mk H
 clear H
 go_enter Try.func98,Try.ntmps98
 go_wp2_with (first | ((with_reducible refine gate_callee (f:=113) rfl ?_);refine goesL_ (some 8) rfl rfl Try.func113 (by kernel_rfl) rfl #[.slice A0 l0.length c0] rfl Hd.m_ ?_;(with_reducible refine (spec_SegmentsOf.calls k _ _ l0 t397 _ ?side1 ?side2 A2.out).mono ?_);(case side1 => repeat (first | exact HR0.out | (with_reducible refine Kd.C_alloc ?_ _) | (with_reducible refine Kd.C_drewN ?_ _) | (with_reducible refine Kd.C_drew ?_)));(case side2 => exact HC0.out);rintro e w3 ⟨v398,rfl,ho0,hb⟩;refine ⟨_,rfl,?_⟩;have HO399:=Aside0.mk (Kd.R_lower ho0 (below_size Hd.b_));replace HB:=Aside0.mk (below_step Hd.b_ hb);(try clear hb);(try clear hb2);(try clear hk);(try clear hi);(try clear ho0)))
 go_loopg [4] k (fun kq v4 w' => ∃ (x4_1 : Int),v4 = .int .i64 x4_1 ∧ Aside0 (spec_IsSimple.l0 kq l0 t397 x4_1 = some r) ∧ Aside0 (kq ≤ k) ∧ Aside0 (Kd.R k100 100 w' w.heap.size (fun _ => True) v398 t397) ∧ Aside0 (Below w.heap.size w w'))
 case atStart => exact ⟨(0),(by first | rfl | (simp;done) | (simp [*];done)),H',⟨Nat.le_refl _⟩,⟨by (with_reducible repeat (first | apply Kd.R_alloc | apply Kd.R_drewN | apply Kd.R_drew));exact HO399.out⟩,⟨Hd.b_⟩⟩
 case round =>
  clear H'
  try clear c1
  try clear p2
  obtain ⟨x4_1,rfl,HA,HK1,HO_3,HB⟩:=hrel
  cases gk with
  | zero => exact absurd HA.out (by simp [spec_IsSimple.l0])
  | succ k1 =>
   have H:=HA.out
   clear HA
   simp only [spec_IsSimple.l0] at H
   by_cases c4 : x4_1 < (t397.length : Int)
   ·
    rw [if_pos c4] at H
    have c4b0 : decide (x4_1 < (t397.length : Int)) = true:=decide_eq_true c4
    clear c4
    have H':=Aside0.mk H
    clear H
    obtain ⟨Ao5,co5,eo5⟩:=Kd.R_slice HO_3.out
    subst eo5
    go_wp2
    go_loopg [5] k1 (fun kq v5 w' => ∃ (x5_2 : Int),v5 = .int .i64 x5_2 ∧ Aside0 (spec_IsSimple.l1 kq l0 t397 x4_1 x5_2 = some r) ∧ Aside0 (kq ≤ k1) ∧ Aside0 (Kd.R k100 100 w' w.heap.size (fun _ => True) (.slice Ao5 t397.length co5) t397) ∧ Aside0 (Below w.heap.size w w'))
    case atStart => exact ⟨(0),(by first | rfl | (simp;done) | (simp [*];done)),H',⟨Nat.le_refl _⟩,⟨by (with_reducible repeat (first | apply Kd.R_alloc | apply Kd.R_drewN | apply Kd.R_drew));exact HO_3.out⟩,⟨Hd.b_⟩⟩
    case round =>
     clear H'
     try clear c1
     try clear p2
     try clear c4
     try clear c4b0
     try clear p2
     obtain ⟨x5_2,rfl,HA,HK2,HO_3,HB⟩:=hrel
     cases gk with
     | zero => exact absurd HA.out (by simp [spec_IsSimple.l1])
     | succ k2 =>
      have H:=HA.out
      clear HA
      simp only [spec_IsSimple.l1] at H
      by_cases c6 : x5_2 < x4_1
      ·
       rw [if_pos c6] at H
       have c6b0 : decide (x5_2 < x4_1) = true:=decide_eq_true c6
       clear c6
       by_cases c7 : (wrap64 (x5_2 + 1)) = x4_1
       ·
        rw [if_pos c7] at H
        have c7b0 : ((wrap64 (x5_2 + 1)) == x4_1) = true:=beq_iff_eq.mpr c7
        have c7b1 : ((wrap64 (x5_2 + 1)) != x4_1) = false:=bne_eq_false_iff_eq.mpr c7
        clear c7
        by_cases c8 : 0 ≤ x4_1
        ·
         rw [if_pos c8] at H
         have c8b0 : decide (0 ≤ x4_1) = true:=decide_eq_true c8
         clear c8
         by_cases c9 : x4_1 < (t397.length : Int)
         ·
          rw [if_pos c9] at H
          have c9b0 : decide (x4_1 < (t397.length : Int)) = true:=decide_eq_true c9
          clear c9
          by_cases c10 : 0 ≤ x5_2
          ·
           rw [if_pos c10] at H
           have c10b0 : decide (0 ≤ x5_2) = true:=decide_eq_true c10
           clear c10
           by_cases c11 : x5_2 < (t397.length : Int)
           ·
            rw [if_pos c11] at H
            have c11b0 : decide (x5_2 < (t397.length : Int)) = true:=decide_eq_true c11
            clear c11
            replace H:=Option.bind_eq_some_iff.mp H
            obtain ⟨t403,A120,H⟩:=H
            replace H : (if t403 = 1 then (spec_IsSimple.l1 k2 l0 t397 x4_1 (wrap64 (x5_2 + 1))) else (some false)) = some r:=H
            have A12:=Aside0.mk A120
            clear A120
            by_cases c13 : t403 = 1
            ·
             rw [if_pos c13] at H
             have c13b0 : (t403 == 1) = true:=beq_iff_eq.mpr c13
             have c13b1 : (t403 != 1) = false:=bne_eq_false_iff_eq.mpr c13
             clear c13
             have H':=Aside0.mk H
             clear H
             try go_wp2
             replace HO_3:=Aside0.mk (Kd.R_drew HO_3.out)
             replace HB:=Aside0.mk (below_drew1 HB.out)
             have p401 : 0 ≤ (x4_1 : Int):=of_decide_eq_true Hd.a_
             have q401 : x4_1 < (t397.length : Int):=of_decide_eq_true Hd.a_
             obtain ⟨ad401,e401,hx401_0,hx401_1,hx401_2,hx401_3⟩:=at_T100 (Kd.R_reads' HO_3.out).2.2 x4_1 p401 q401
             cases e401
             replace p401:=eq_true p401
             replace q401:=eq_true q401
             have p402 : 0 ≤ (x5_2 : Int):=of_decide_eq_true Hd.a_
             have q402 : x5_2 < (t397.length : Int):=of_decide_eq_true Hd.a_
             obtain ⟨ad402,e402,hx402_0,hx402_1,hx402_2,hx402_3⟩:=at_T100 (Kd.R_reads' HO_3.out).2.2 x5_2 p402 q402
             obtain rfl : ad401 = ad402:=(by injection e402)
             replace p402:=eq_true p402
             replace q402:=eq_true q402
             have s0_:=Hd.HW.x (W0:=wr.drew) hx401_0
             have s1_:=Hd.HW.x (W0:=wr.drew) hx401_1
             have s2_:=Hd.HW.x (W0:=wr.drew) hx401_2
             have s3_:=Hd.HW.x (W0:=wr.drew) hx401_3
             have s4_:=Hd.HW.x (W0:=wr.drew) hx402_0
             have s5_:=Hd.HW.x (W0:=wr.drew) hx402_1
             have s6_:=Hd.HW.x (W0:=wr.drew) hx402_2
             have s7_:=Hd.HW.x (W0:=wr.drew) hx402_3
             refine Hd.HW.region (by kernel_rfl) (by kernel_rfl) ?_
             repeat (go_big_quiet_step ((first | (go_at_call 87;with_reducible exact Hd.HW.c (spec_HowMeet.calls k2 ((rd_T100 t397 x4_1).f0.f0) ((rd_T100 t397 x4_1).f0.f1) ((rd_T100 t397 x4_1).f1.f0) ((rd_T100 t397 x4_1).f1.f1) ((rd_T100 t397 x5_2).f0.f0) ((rd_T100 t397 x5_2).f0.f1) ((rd_T100 t397 x5_2).f1.f0) ((rd_T100 t397 x5_2).f1.f1) t403 _ A12.out)))))
             refine wpQuiet_nil ?_
             intro _ hq_
             obtain ⟨q_,rfl⟩:=hq_
             clear s0_ s1_ s2_ s3_ s4_ s5_ s6_ s7_
             replace HO_3:=Aside0.mk (Kd.R_below HO_3.out q_.b)
             replace HB:=Aside0.mk (below_step HB.out q_.b)
             replace hx401_0:=q_.cell hx401_0
             replace hx401_1:=q_.cell hx401_1
             replace hx401_2:=q_.cell hx401_2
             replace hx401_3:=q_.cell hx401_3
             replace hx402_0:=q_.cell hx402_0
             replace hx402_1:=q_.cell hx402_1
             replace hx402_2:=q_.cell hx402_2
             replace hx402_3:=q_.cell hx402_3
             generalize q_.W = w15 at HO_3 HB hx401_0 hx401_1 hx401_2 hx401_3 hx402_0 hx402_1 hx402_2 hx402_3 ⊢
             try simp only [i64_w,i32_w]
             try go_wp2
             go_roundg k2
             case measure => have:=HK1.out;have:=HK2.out;omega
             case rel => exact ⟨(wrap64 (x5_2 + 1)),(by first | rfl | (simp;done) | (simp [*];done)),H',⟨by have:=HK1.out;have:=HK2.out;omega⟩,⟨by (with_reducible repeat (first | apply Kd.R_alloc | apply Kd.R_drewN | apply Kd.R_drew));exact HO_3.out⟩,⟨Hd.b_⟩⟩
            ·
             rw [if_neg c13] at H
             have c13b0 : (t403 == 1) = false:=beq_eq_false_iff_ne.mpr c13
             have c13b1 : (t403 != 1) = true:=bne_iff_ne.mpr c13
             obtain rfl:=Option.some.inj H
             try go_wp2
             replace HO_3:=Aside0.mk (Kd.R_drew HO_3.out)
             replace HB:=Aside0.mk (below_drew1 HB.out)
             have p401 : 0 ≤ (x4_1 : Int):=of_decide_eq_true Hd.a_
             have q401 : x4_1 < (t397.length : Int):=of_decide_eq_true Hd.a_
             obtain ⟨ad401,e401,hx401_0,hx401_1,hx401_2,hx401_3⟩:=at_T100 (Kd.R_reads' HO_3.out).2.2 x4_1 p401 q401
             cases e401
             replace p401:=eq_true p401
             replace q401:=eq_true q401
             have p402 : 0 ≤ (x5_2 : Int):=of_decide_eq_true Hd.a_
             have q402 : x5_2 < (t397.length : Int):=of_decide_eq_true Hd.a_
             obtain ⟨ad402,e402,hx402_0,hx402_1,hx402_2,hx402_3⟩:=at_T100 (Kd.R_reads' HO_3.out).2.2 x5_2 p402 q402
             obtain rfl : ad401 = ad402:=(by injection e402)
             replace p402:=eq_true p402
             replace q402:=eq_true q402
             have s0_:=Hd.HW.x (W0:=wr.drew) hx401_0
             have s1_:=Hd.HW.x (W0:=wr.drew) hx401_1
             have s2_:=Hd.HW.x (W0:=wr.drew) hx401_2
             have s3_:=Hd.HW.x (W0:=wr.drew) hx401_3
             have s4_:=Hd.HW.x (W0:=wr.drew) hx402_0
             have s5_:=Hd.HW.x (W0:=wr.drew) hx402_1
             have s6_:=Hd.HW.x (W0:=wr.drew) hx402_2
             have s7_:=Hd.HW.x (W0:=wr.drew) hx402_3
             refine Hd.HW.region (by kernel_rfl) (by kernel_rfl) ?_
             repeat (go_big_quiet_step ((first | (go_at_call 87;with_reducible exact Hd.HW.c (spec_HowMeet.calls k2 ((rd_T100 t397 x4_1).f0.f0) ((rd_T100 t397 x4_1).f0.f1) ((rd_T100 t397 x4_1).f1.f0) ((rd_T100 t397 x4_1).f1.f1) ((rd_T100 t397 x5_2).f0.f0) ((rd_T100 t397 x5_2).f0.f1) ((rd_T100 t397 x5_2).f1.f0) ((rd_T100 t397 x5_2).f1.f1) t403 _ A12.out)))))
             refine wpQuiet_nil ?_
             intro _ hq_
             obtain ⟨q_,rfl⟩:=hq_
             clear s0_ s1_ s2_ s3_ s4_ s5_ s6_ s7_
             replace HO_3:=Aside0.mk (Kd.R_below HO_3.out q_.b)
             replace HB:=Aside0.mk (below_step HB.out q_.b)
             replace hx401_0:=q_.cell hx401_0
             replace hx401_1:=q_.cell hx401_1
             replace hx401_2:=q_.cell hx401_2
             replace hx401_3:=q_.cell hx401_3
             replace hx402_0:=q_.cell hx402_0
             replace hx402_1:=q_.cell hx402_1
             replace hx402_2:=q_.cell hx402_2
             replace hx402_3:=q_.cell hx402_3
             generalize q_.W = w17 at HO_3 HB hx401_0 hx401_1 hx401_2 hx401_3 hx402_0 hx402_1 hx402_2 hx402_3 ⊢
             try simp only [i64_w,i32_w]
             try go_wp2
             go_ret
             exact ⟨Hd.e_,Hd.b_⟩
           ·
            rw [if_neg c11] at H
            exact absurd H (by simp)
          ·
           rw [if_neg c10] at H
           exact absurd H (by simp)
         ·
          rw [if_neg c9] at H
          exact absurd H (by simp)
        ·
         rw [if_neg c8] at H
         exact absurd H (by simp)
       ·
        rw [if_neg c7] at H
        have c7b0 : ((wrap64 (x5_2 + 1)) == x4_1) = false:=beq_eq_false_iff_ne.mpr c7
        have c7b1 : ((wrap64 (x5_2 + 1)) != x4_1) = true:=bne_iff_ne.mpr c7
        by_cases c18 : 0 ≤ x4_1
        ·
         rw [if_pos c18] at H
         have c18b0 : decide (0 ≤ x4_1) = true:=decide_eq_true c18
         clear c18
         by_cases c19 : x4_1 < (t397.length : Int)
         ·
          rw [if_pos c19] at H
          have c19b0 : decide (x4_1 < (t397.length : Int)) = true:=decide_eq_true c19
          clear c19
          by_cases c20 : 0 ≤ x5_2
          ·
           rw [if_pos c20] at H
           have c20b0 : decide (0 ≤ x5_2) = true:=decide_eq_true c20
           clear c20
           by_cases c21 : x5_2 < (t397.length : Int)
           ·
            rw [if_pos c21] at H
            have c21b0 : decide (x5_2 < (t397.length : Int)) = true:=decide_eq_true c21
            clear c21
            replace H:=Option.bind_eq_some_iff.mp H
            obtain ⟨t406,A220,H⟩:=H
            replace H : (if t406 = 0 then (spec_IsSimple.l1 k2 l0 t397 x4_1 (wrap64 (x5_2 + 1))) else (some false)) = some r:=H
            have A22:=Aside0.mk A220
            clear A220
            by_cases c23 : t406 = 0
            ·
             rw [if_pos c23] at H
             have c23b0 : (t406 == 0) = true:=beq_iff_eq.mpr c23
             have c23b1 : (t406 != 0) = false:=bne_eq_false_iff_eq.mpr c23
             clear c23
             have H':=Aside0.mk H
             clear H
             try go_wp2
             replace HO_3:=Aside0.mk (Kd.R_drew HO_3.out)
             replace HB:=Aside0.mk (below_drew1 HB.out)
             have p404 : 0 ≤ (x4_1 : Int):=of_decide_eq_true Hd.a_
             have q404 : x4_1 < (t397.length : Int):=of_decide_eq_true Hd.a_
             obtain ⟨ad404,e404,hx404_0,hx404_1,hx404_2,hx404_3⟩:=at_T100 (Kd.R_reads' HO_3.out).2.2 x4_1 p404 q404
             cases e404
             replace p404:=eq_true p404
             replace q404:=eq_true q404
             have p405 : 0 ≤ (x5_2 : Int):=of_decide_eq_true Hd.a_
             have q405 : x5_2 < (t397.length : Int):=of_decide_eq_true Hd.a_
             obtain ⟨ad405,e405,hx405_0,hx405_1,hx405_2,hx405_3⟩:=at_T100 (Kd.R_reads' HO_3.out).2.2 x5_2 p405 q405
             obtain rfl : ad404 = ad405:=(by injection e405)
             replace p405:=eq_true p405
             replace q405:=eq_true q405
             have s0_:=Hd.HW.x (W0:=wr.drew) hx404_0
             have s1_:=Hd.HW.x (W0:=wr.drew) hx404_1
             have s2_:=Hd.HW.x (W0:=wr.drew) hx404_2
             have s3_:=Hd.HW.x (W0:=wr.drew) hx404_3
             have s4_:=Hd.HW.x (W0:=wr.drew) hx405_0
             have s5_:=Hd.HW.x (W0:=wr.drew) hx405_1
             have s6_:=Hd.HW.x (W0:=wr.drew) hx405_2
             have s7_:=Hd.HW.x (W0:=wr.drew) hx405_3
             refine Hd.HW.region (by kernel_rfl) (by kernel_rfl) ?_
             repeat (go_big_quiet_step ((first | (go_at_call 87;with_reducible exact Hd.HW.c (spec_HowMeet.calls k2 ((rd_T100 t397 x4_1).f0.f0) ((rd_T100 t397 x4_1).f0.f1) ((rd_T100 t397 x4_1).f1.f0) ((rd_T100 t397 x4_1).f1.f1) ((rd_T100 t397 x5_2).f0.f0) ((rd_T100 t397 x5_2).f0.f1) ((rd_T100 t397 x5_2).f1.f0) ((rd_T100 t397 x5_2).f1.f1) t406 _ A22.out)))))
             refine wpQuiet_nil ?_
             intro _ hq_
             obtain ⟨q_,rfl⟩:=hq_
             clear s0_ s1_ s2_ s3_ s4_ s5_ s6_ s7_
             replace HO_3:=Aside0.mk (Kd.R_below HO_3.out q_.b)
             replace HB:=Aside0.mk (below_step HB.out q_.b)
             replace hx404_0:=q_.cell hx404_0
             replace hx404_1:=q_.cell hx404_1
             replace hx404_2:=q_.cell hx404_2
             replace hx404_3:=q_.cell hx404_3
             replace hx405_0:=q_.cell hx405_0
             replace hx405_1:=q_.cell hx405_1
             replace hx405_2:=q_.cell hx405_2
             replace hx405_3:=q_.cell hx405_3
             generalize q_.W = w25 at HO_3 HB hx404_0 hx404_1 hx404_2 hx404_3 hx405_0 hx405_1 hx405_2 hx405_3 ⊢
             try simp only [i64_w,i32_w]
             try go_wp2
             go_roundg k2
             case measure => have:=HK1.out;have:=HK2.out;omega
             case rel => exact ⟨(wrap64 (x5_2 + 1)),(by first | rfl | (simp;done) | (simp [*];done)),H',⟨by have:=HK1.out;have:=HK2.out;omega⟩,⟨by (with_reducible repeat (first | apply Kd.R_alloc | apply Kd.R_drewN | apply Kd.R_drew));exact HO_3.out⟩,⟨Hd.b_⟩⟩
            ·
             rw [if_neg c23] at H
             have c23b0 : (t406 == 0) = false:=beq_eq_false_iff_ne.mpr c23
             have c23b1 : (t406 != 0) = true:=bne_iff_ne.mpr c23
             obtain rfl:=Option.some.inj H
             try go_wp2
             replace HO_3:=Aside0.mk (Kd.R_drew HO_3.out)
             replace HB:=Aside0.mk (below_drew1 HB.out)
             have p404 : 0 ≤ (x4_1 : Int):=of_decide_eq_true Hd.a_
             have q404 : x4_1 < (t397.length : Int):=of_decide_eq_true Hd.a_
             obtain ⟨ad404,e404,hx404_0,hx404_1,hx404_2,hx404_3⟩:=at_T100 (Kd.R_reads' HO_3.out).2.2 x4_1 p404 q404
             cases e404
             replace p404:=eq_true p404
             replace q404:=eq_true q404
             have p405 : 0 ≤ (x5_2 : Int):=of_decide_eq_true Hd.a_
             have q405 : x5_2 < (t397.length : Int):=of_decide_eq_true Hd.a_
             obtain ⟨ad405,e405,hx405_0,hx405_1,hx405_2,hx405_3⟩:=at_T100 (Kd.R_reads' HO_3.out).2.2 x5_2 p405 q405
             obtain rfl : ad404 = ad405:=(by injection e405)
             replace p405:=eq_true p405
             replace q405:=eq_true q405
             have s0_:=Hd.HW.x (W0:=wr.drew) hx404_0
             have s1_:=Hd.HW.x (W0:=wr.drew) hx404_1
             have s2_:=Hd.HW.x (W0:=wr.drew) hx404_2
             have s3_:=Hd.HW.x (W0:=wr.drew) hx404_3
             have s4_:=Hd.HW.x (W0:=wr.drew) hx405_0
             have s5_:=Hd.HW.x (W0:=wr.drew) hx405_1
             have s6_:=Hd.HW.x (W0:=wr.drew) hx405_2
             have s7_:=Hd.HW.x (W0:=wr.drew) hx405_3
             refine Hd.HW.region (by kernel_rfl) (by kernel_rfl) ?_
             repeat (go_big_quiet_step ((first | (go_at_call 87;with_reducible exact Hd.HW.c (spec_HowMeet.calls k2 ((rd_T100 t397 x4_1).f0.f0) ((rd_T100 t397 x4_1).f0.f1) ((rd_T100 t397 x4_1).f1.f0) ((rd_T100 t397 x4_1).f1.f1) ((rd_T100 t397 x5_2).f0.f0) ((rd_T100 t397 x5_2).f0.f1) ((rd_T100 t397 x5_2).f1.f0) ((rd_T100 t397 x5_2).f1.f1) t406 _ A22.out)))))
             refine wpQuiet_nil ?_
             intro _ hq_
             obtain ⟨q_,rfl⟩:=hq_
             clear s0_ s1_ s2_ s3_ s4_ s5_ s6_ s7_
             replace HO_3:=Aside0.mk (Kd.R_below HO_3.out q_.b)
             replace HB:=Aside0.mk (below_step HB.out q_.b)
             replace hx404_0:=q_.cell hx404_0
             replace hx404_1:=q_.cell hx404_1
             replace hx404_2:=q_.cell hx404_2
             replace hx404_3:=q_.cell hx404_3
             replace hx405_0:=q_.cell hx405_0
             replace hx405_1:=q_.cell hx405_1
             replace hx405_2:=q_.cell hx405_2
             replace hx405_3:=q_.cell hx405_3
             generalize q_.W = w27 at HO_3 HB hx404_0 hx404_1 hx404_2 hx404_3 hx405_0 hx405_1 hx405_2 hx405_3 ⊢
             try simp only [i64_w,i32_w]
             try go_wp2
             go_ret
             exact ⟨Hd.e_,Hd.b_⟩
           ·
            rw [if_neg c21] at H
            exact absurd H (by simp)
          ·
           rw [if_neg c20] at H
           exact absurd H (by simp)
         ·
          rw [if_neg c19] at H
          exact absurd H (by simp)
        ·
         rw [if_neg c18] at H
         exact absurd H (by simp)
      ·
       rw [if_neg c6] at H
       have c6b0 : decide (x5_2 < x4_1) = false:=decide_eq_false c6
       clear c6
       have H':=Aside0.mk H
       clear H
       go_wp2
       go_roundg k2
       case measure => have:=HK1.out;have:=HK2.out;omega
       case rel => exact ⟨(wrap64 (x4_1 + 1)),(by first | rfl | (simp;done) | (simp [*];done)),H',⟨by have:=HK1.out;have:=HK2.out;omega⟩,⟨by (with_reducible repeat (first | apply Kd.R_alloc | apply Kd.R_drewN | apply Kd.R_drew));exact HO_3.out⟩,⟨Hd.b_⟩⟩
   ·
    rw [if_neg c4] at H
    have c4b0 : decide (x4_1 < (t397.length : Int)) = false:=decide_eq_false c4
    clear c4
    replace H:=Option.bind_eq_some_iff.mp H
    obtain ⟨t400,A280,H⟩:=H
    replace H : (some t400) = some r:=H
    have A28:=Aside0.mk A280
    clear A280
    obtain rfl:=Option.some.inj H
    obtain ⟨Ao29,co29,eo29⟩:=Kd.R_slice HO_3.out
    subst eo29
    go_wp2_with (first | ((with_reducible refine gate_callee (f:=134) rfl ?_);refine goesL_ (some 36) rfl rfl Try.func134 (by kernel_rfl) rfl #[.slice A0 l0.length c0] rfl Hd.m_ ?_;(with_reducible refine (spec_IsLine.calls k1 _ _ l0 t400 _ ?side1 ?side2 A28.out).mono ?_);(case side1 => repeat (first | exact (Kd.C_below HR0.out HB.out) | (with_reducible refine Kd.C_alloc ?_ _) | (with_reducible refine Kd.C_drewN ?_ _) | (with_reducible refine Kd.C_drew ?_)));(case side2 => exact HC0.out);rintro e w30 ⟨rfl,hb⟩;refine ⟨_,rfl,?_⟩;replace HO_3:=Aside0.mk (Kd.R_below (Hd.r_ HO_3) hb);replace HB:=Aside0.mk (below_step Hd.b_ hb);(try clear hb);(try clear hb2);(try clear hk);(try clear hi)))
    go_ret
    exact ⟨Hd.e_,Hd.b_⟩
def spec_l7Segments.l0 : Nat → List (S63) → List (S100) → Int → Option ((List (S100)))
 | 0,_,_,_ => none
 | k + 1,x0,x3,x4 => if x4 < (x0.length : Int) then (if 0 ≤ x4 then (if (x0.length : Int) = 0 then (none) else (if 0 ≤ (Int.tmod (wrap64 (x4 + 1)) (x0.length : Int)) then (if (Int.tmod (wrap64 (x4 + 1)) (x0.length : Int)) < (x0.length : Int) then (if x3.length < 4398046511104 then (spec_l7Segments.l0 k x0 (x3 ++ [(⟨(⟨(rd_T63 x0 x4).f0,(rd_T63 x0 x4).f1⟩ : S63),(⟨(rd_T63 x0 (Int.tmod (wrap64 (x4 + 1)) (x0.length : Int))).f0,(rd_T63 x0 (Int.tmod (wrap64 (x4 + 1)) (x0.length : Int))).f1⟩ : S63)⟩ : S100)]) (wrap64 (x4 + 1))) else (none)) else (none)) else (none))) else (none)) else (some x3)
def spec_l7Segments.f (k : Nat) (l0 : List (S63)) : Option ((List (S100))):=spec_l7Segments.l0 k l0 (([] : List (S100))) 0
def spec_l7Segments.T5 : Bool × List (List Nat × List Nat):=(true,[([],[]),([],[]),([],[]),([1,2],[1,2]),([3],[3]),([],[]),([],[]),([6],[6]),([],[]),([8],[8]),([7,9],[7,9]),([5,10],[5,10]),([11],[11]),([4,12],[4,12]),([13],[13]),([0,14],[0,14]),([15,15,0,1,2,3,4,5,6,7,8,9,10,11,12,13,14,15],[0,15])])
def spec_l7Segments.B5 : List Nat:=[0,0,0,6,14,0,0,64,0,256,960,2016,4064,8190,16382,32767,65535]
theorem spec_l7Segments.tab5 : rtab .any (opsOf Try.f135 5) = spec_l7Segments.T5:=by kernel_rfl
theorem spec_l7Segments.bits5 : waitsOk spec_l7Segments.T5.2 spec_l7Segments.B5 = true:=by kernel_rfl
set_option maxHeartbeats 8000000 in
set_option maxRecDepth 100000 in
theorem spec_l7Segments.calls (k : Nat) (A0 : Option Addr) (c0 : Nat) (l0 : List (S63)) (r : List (S100)) (w : World) (hr0 : Kd.C k63 w A0 l0.length l0) (hc0 : l0.length ≤ c0) (h : spec_l7Segments.f k l0 = some r) :
  Calls Try.prog 135 #[.slice A0 l0.length c0] w fun e w' => ∃ v0_ : Value,e = .returned (v0_) ∧ Kd.R k100 100 w' w.heap.size (fun _ => True) v0_ r ∧ Below w.heap.size w w':=by
 have hu63:=Try.underlying63
 have hu100:=Try.underlying100
 have HR0:=Aside0.mk hr0
 have HC0:=Aside0.mk hc0
 clear hr0 hc0
 have HB:=Aside0.mk (Below.refl w.heap.size w)
 have H : (spec_l7Segments.l0 k l0 (([] : List (S100))) 0) = some r:=h
 clear h
 obtain ⟨y407,hy407⟩ : ∃ y_ : List (S100),y_ = (([] : List (S100))):=⟨_,rfl⟩
 replace H : (spec_l7Segments.l0 k l0 y407 0) = some r:=by first | (rw [hy407];with_reducible exact H) | (have H2_:=(Option.bind_some _ _).symm.trans H;rw [hy407];with_reducible exact H2_) | (have H2_:=(Option.bind_some _ _).symm.trans H;with_reducible exact H2_) | with_reducible exact H | (rw [hy407];exact H) | exact H
 have Ny407:=Aside0.mk hy407
 clear hy407
 have H':=Aside0.mk H
 clear H
 go_enter Try.func135,Try.ntmps135
 go_wp2_with (first | ((with_reducible refine gate_dst (N:=5) rfl ?_);refine Kd.R_lit k100 _ 100 ?hg (N:=5) ?hd (xs:=([] : List (S100))) (inner:=[]) (ok:=fun _ => True) (okp:=fun _ => True) ?hr ?hp (fun _ hk => hk) trivial (Below.refl _ _) (Nat.le_refl _) (by simp) ?_;(case hd => rfl);(case hg => rfl);(case hr => first | (go_simp;done) | (go_simp;rfl));(case hp => exact (Reps.none _ _));intro v408 w2 ho3 hb hg_ hnew_;clear hg_ hnew_;(first | rw [← Ny407.out] at ho3 | (simp only [Int.reduceToNat] at ho3;rw [← Ny407.out] at ho3));have HO409:=Aside0.mk (Kd.R_lower ho3 (below_size Hd.b_));replace HB:=Aside0.mk (below_step Hd.b_ hb);clear hb ho3))
 go_loopg [3,4] k (fun kq v3 v4 w' => ∃ (x3_1 : List (S100)) (x4_1 : Int),v4 = .int .i64 x4_1 ∧ Aside0 (spec_l7Segments.l0 kq l0 x3_1 x4_1 = some r) ∧ Aside0 (kq ≤ k) ∧ Aside0 (Kd.R k100 100 w' w.heap.size (fun _ => True) v3 x3_1) ∧ Aside0 (Below w.heap.size w w'))
 case atStart => exact ⟨(y407),(0),(by first | rfl | (simp;done) | (simp [*];done)),H',⟨Nat.le_refl _⟩,⟨by (with_reducible repeat (first | apply Kd.R_alloc | apply Kd.R_drewN | apply Kd.R_drew));exact HO409.out⟩,⟨Hd.b_⟩⟩
 case round =>
  clear H'
  try clear c1
  try clear p2
  obtain ⟨x3_1,x4_1,rfl,HA,HK1,HO_3,HB⟩:=hrel
  cases gk with
  | zero => exact absurd HA.out (by simp [spec_l7Segments.l0])
  | succ k1 =>
   have H:=HA.out
   clear HA
   simp only [spec_l7Segments.l0] at H
   by_cases c4 : x4_1 < (l0.length : Int)
   ·
    rw [if_pos c4] at H
    have c4b0 : decide (x4_1 < (l0.length : Int)) = true:=decide_eq_true c4
    clear c4
    by_cases c5 : 0 ≤ x4_1
    ·
     rw [if_pos c5] at H
     have c5b0 : decide (0 ≤ x4_1) = true:=decide_eq_true c5
     clear c5
     by_cases c6 : (l0.length : Int) = 0
     ·
      rw [if_pos c6] at H
      exact absurd H (by simp)
     ·
      rw [if_neg c6] at H
      have c6b0 : ((l0.length : Int) == 0) = false:=beq_eq_false_iff_ne.mpr c6
      have c6b1 : ((l0.length : Int) != 0) = true:=bne_iff_ne.mpr c6
      have c6b2 : ¬ (l0 = []):=fun h_ => c6 (by rw [h_];rfl)
      obtain ⟨ji7,hji7⟩ : ∃ j_ : Int,(Int.tmod (wrap64 (x4_1 + 1)) (l0.length : Int)) = j_:=⟨_,rfl⟩
      replace H : (if 0 ≤ (ji7) then (if (ji7) < (l0.length : Int) then (if x3_1.length < 4398046511104 then (spec_l7Segments.l0 k1 l0 (x3_1 ++ [(⟨(⟨(rd_T63 l0 x4_1).f0,(rd_T63 l0 x4_1).f1⟩ : S63),(⟨(rd_T63 l0 (ji7)).f0,(rd_T63 l0 (ji7)).f1⟩ : S63)⟩ : S100)]) (wrap64 (x4_1 + 1))) else (none)) else (none)) else (none)) = some r:=by first | (rw [hji7] at H;exact H) | (simp only [hji7] at H ⊢;exact H)
      by_cases c8 : 0 ≤ (ji7)
      ·
       rw [if_pos c8] at H
       have c8b0 : decide (0 ≤ (ji7)) = true:=decide_eq_true c8
       clear c8
       by_cases c9 : (ji7) < (l0.length : Int)
       ·
        rw [if_pos c9] at H
        have c9b0 : decide ((ji7) < (l0.length : Int)) = true:=decide_eq_true c9
        clear c9
        by_cases c10 : x3_1.length < 4398046511104
        ·
         rw [if_pos c10] at H
         have LMc10:=Aside0.mk c10
         clear c10
         obtain ⟨y412,hy412⟩ : ∃ y_ : List (S100),y_ = (x3_1 ++ [(⟨(⟨(rd_T63 l0 x4_1).f0,(rd_T63 l0 x4_1).f1⟩ : S63),(⟨(rd_T63 l0 (ji7)).f0,(rd_T63 l0 (ji7)).f1⟩ : S63)⟩ : S100)]):=⟨_,rfl⟩
         replace H : (spec_l7Segments.l0 k1 l0 y412 (wrap64 (x4_1 + 1))) = some r:=by first | (rw [hy412];with_reducible exact H) | (have H2_:=(Option.bind_some _ _).symm.trans H;rw [hy412];with_reducible exact H2_) | (have H2_:=(Option.bind_some _ _).symm.trans H;with_reducible exact H2_) | with_reducible exact H | (rw [hy412];exact H) | exact H
         have Ny412:=Aside0.mk hy412
         clear hy412
         have H':=Aside0.mk H
         clear H
         try go_wp2
         replace HO_3:=Aside0.mk (Kd.R_drew HO_3.out)
         replace HB:=Aside0.mk (below_drew1 HB.out)
         have p410 : 0 ≤ (x4_1 : Int):=of_decide_eq_true Hd.a_
         have q410 : x4_1 < (l0.length : Int):=of_decide_eq_true Hd.a_
         obtain ⟨ad410,e410,hx410_0,hx410_1⟩:=at_T63 HR0.out x4_1 p410 q410
         have hw410_1:=hx410_1
         have hw410_0:=hx410_0
         cases e410
         replace hx410_0:=(HB.out.cell (World.block_lt_of_cell? w _ hx410_0)).trans hx410_0
         replace hx410_1:=(HB.out.cell (World.block_lt_of_cell? w _ hx410_1)).trans hx410_1
         replace p410:=eq_true p410
         replace q410:=eq_true q410
         have p411 : 0 ≤ ((ji7) : Int):=of_decide_eq_true Hd.a_
         have q411 : (ji7) < (l0.length : Int):=of_decide_eq_true Hd.a_
         obtain ⟨ad411,e411,hx411_0,hx411_1⟩:=at_T63 HR0.out (ji7) p411 q411
         have hw411_1:=hx411_1
         have hw411_0:=hx411_0
         obtain rfl : ad410 = ad411:=(by injection e411)
         replace hx411_0:=(HB.out.cell (World.block_lt_of_cell? w _ hx411_0)).trans hx411_0
         replace hx411_1:=(HB.out.cell (World.block_lt_of_cell? w _ hx411_1)).trans hx411_1
         replace p411:=eq_true p411
         replace q411:=eq_true q411
         refine start_ (n:=17) (S:=fun w' => w'.cell? (ad410.add ((x4_1).toNat * 2)) = some (.int .i64 ((rd_T63 l0 x4_1).f0)) ∧ w'.cell? ⟨(ad410.add ((x4_1).toNat * 2)).block,(ad410.add ((x4_1).toNat * 2)).off + 1,none⟩ = some (.int .i64 ((rd_T63 l0 x4_1).f1)) ∧ w'.cell? (ad410.add (((ji7)).toNat * 2)) = some (.int .i64 ((rd_T63 l0 (ji7)).f0)) ∧ w'.cell? ⟨(ad410.add (((ji7)).toNat * 2)).block,(ad410.add (((ji7)).toNat * 2)).off + 1,none⟩ = some (.int .i64 ((rd_T63 l0 (ji7)).f1))) (ds:=[]) #[false,false,false,false,false,false,false,false,false,false,false,false,false,false,false,false,false] (by kernel_rfl) rfl rfl ⟨((HB.out.cell (World.block_lt_of_cell? w _ hw410_0)).trans hw410_0),((HB.out.cell (World.block_lt_of_cell? w _ hw410_1)).trans hw410_1),((HB.out.cell (World.block_lt_of_cell? w _ hw411_0)).trans hw411_0),((HB.out.cell (World.block_lt_of_cell? w _ hw411_1)).trans hw411_1)⟩ (fun hHeld => ?_);refine with_tabW spec_l7Segments.tab5 spec_l7Segments.bits5 (fun HT_ HW_ => ?_)
         generalize wr.drew = w11 at HO_3 HB hx410_0 hx410_1 hx411_0 hx411_1 hHeld ⊢
         refine Hd.p_ HT_ 0 (some 12) #[true,false,false,false,false,false,false,false,false,false,false,false,false,false,false,false,false] ?_
         refine Hd.p_ HT_ 1 (some 13) #[true,true,false,false,false,false,false,false,false,false,false,false,false,false,false,false,false] ?_
         refine Hd.p_ HT_ 2 (some 14) #[true,true,true,false,false,false,false,false,false,false,false,false,false,false,false,false,false] ?_
         refine Hd.p_ HT_ 3 (some 15) #[true,true,true,true,false,false,false,false,false,false,false,false,false,false,false,false,false] ?_
         refine Hd.p_ HT_ 5 (some 17) #[true,true,true,true,false,true,false,false,false,false,false,false,false,false,false,false,false] ?_
         refine Hd.p_ HT_ 6 (some 18) #[true,true,true,true,false,true,true,false,false,false,false,false,false,false,false,false,false] ?_
         refine Hd.p_ HT_ 7 (some 19) #[true,true,true,true,false,true,true,true,false,false,false,false,false,false,false,false,false] ?_
         refine Hd.p_ HT_ 8 (some 20) #[true,true,true,true,false,true,true,true,true,false,false,false,false,false,false,false,false] ?_
         refine Hd.p_ HT_ 9 (some 21) #[true,true,true,true,false,true,true,true,true,true,false,false,false,false,false,false,false] ?_
         refine Hd.p_ HT_ 10 (some 22) #[true,true,true,true,false,true,true,true,true,true,true,false,false,false,false,false,false] ?_
         refine Hd.p_ HT_ 11 (some 23) #[true,true,true,true,false,true,true,true,true,true,true,true,false,false,false,false,false] ?_
         refine Hd.t_ HT_ HW_ hHeld 4 (some 16) #[true,true,true,true,true,true,true,true,true,true,true,true,false,false,false,false,false] ?_
         refine Hd.t_ HT_ HW_ hHeld 12 (some 24) #[true,true,true,true,true,true,true,true,true,true,true,true,true,false,false,false,false] ?_
         refine Hd.p_ HT_ 13 (some 25) #[true,true,true,true,true,true,true,true,true,true,true,true,true,true,false,false,false] ?_
         refine Hd.o_ HT_ 14 (some 26) #[true,true,true,true,true,true,true,true,true,true,true,true,true,true,true,false,false] (fun K hK => ?_)
         refine value_ (w1:=?_) (v:=?_) (by rfl) rfl ?_ ?_
         rotate_left 2
         ·
          go_simp
          constructor
          ·
           rfl
          ·
           rfl
         refine hK.out _ _ ⟨(World.cell?_alloc_lt _ _ _ (World.block_lt_of_cell? _ _ (((HB.out.cell (World.block_lt_of_cell? w _ hw410_0)).trans hw410_0)))).trans (((HB.out.cell (World.block_lt_of_cell? w _ hw410_0)).trans hw410_0)),(World.cell?_alloc_lt _ _ _ (World.block_lt_of_cell? _ _ (((HB.out.cell (World.block_lt_of_cell? w _ hw410_1)).trans hw410_1)))).trans (((HB.out.cell (World.block_lt_of_cell? w _ hw410_1)).trans hw410_1)),(World.cell?_alloc_lt _ _ _ (World.block_lt_of_cell? _ _ (((HB.out.cell (World.block_lt_of_cell? w _ hw411_0)).trans hw411_0)))).trans (((HB.out.cell (World.block_lt_of_cell? w _ hw411_0)).trans hw411_0)),(World.cell?_alloc_lt _ _ _ (World.block_lt_of_cell? _ _ (((HB.out.cell (World.block_lt_of_cell? w _ hw411_1)).trans hw411_1)))).trans (((HB.out.cell (World.block_lt_of_cell? w _ hw411_1)).trans hw411_1))⟩ (fun hHeld => ?_)
         clear hK K
         refine Hd.n_ (some 26) ?_
         refine Hd.o_ HT_ 15 (some 27) #[true,true,true,true,true,true,true,true,true,true,true,true,true,true,true,true,false] (fun K hK => ?_)
         refine Kd.R_append_step k100 (w0:=w) w.heap.size (by rfl) (.tmp 12) (.tmp 26) 75 100 (.agg #[(.int .i64 0),(.int .i64 0),(.int .i64 0),(.int .i64 0)]) 32 rfl Try.underlying75 info100 rfl (by decide) (by omega) u3 x3_1 (⟨(⟨(rd_T63 l0 x4_1).f0,(rd_T63 l0 x4_1).f1⟩ : S63),(⟨(rd_T63 l0 (ji7)).f0,(rd_T63 l0 (ji7)).f1⟩ : S63)⟩ : S100) [.int .i64 ((rd_T63 l0 x4_1).f0),.int .i64 ((rd_T63 l0 x4_1).f1),.int .i64 ((rd_T63 l0 (ji7)).f0),.int .i64 ((rd_T63 l0 (ji7)).f1)] (fun _ => True) (fun _ => False) rfl rfl ?aP (fun _ hk => hk.elim) ?aF ?aO ?aB ?aS ?aL ?_
         (case aP => exact k100_mkM _ _ _ (⟨(⟨(rd_T63 l0 x4_1).f0,(rd_T63 l0 x4_1).f1⟩ : S63),(⟨(rd_T63 l0 (ji7)).f0,(rd_T63 l0 (ji7)).f1⟩ : S63)⟩ : S100))
         (case aB => exact Hd.b_)
         (case aF => exact (fun _ _ => trivial))
         (case aO => exact (Hd.r_ HO_3))
         (case aS => exact (below_size Hd.b_))
         (case aL => have:=LMc10.out;omega)
         intro v413 w12 ho hb hg hat
         rw [← Ny412.out] at ho
         have n0_:=Aside0.mk (hb)
         have n1_:=Aside0.mk (ho)
         clear HB
         clear HO_3
         have HB:=n0_
         have HO414:=n1_
         clear n0_ n1_
         clear ho hb hg hat
         refine hK.out _ _ ⟨((HB.out.cell (World.block_lt_of_cell? w _ hw410_0)).trans hw410_0),((HB.out.cell (World.block_lt_of_cell? w _ hw410_1)).trans hw410_1),((HB.out.cell (World.block_lt_of_cell? w _ hw411_0)).trans hw411_0),((HB.out.cell (World.block_lt_of_cell? w _ hw411_1)).trans hw411_1)⟩ (fun hHeld => ?_)
         clear hK K
         refine Hd.n_ (some 27) ?_
         refine Hd.p_ HT_ 16 (some 3) #[true,true,true,true,true,true,true,true,true,true,true,true,true,true,true,true,true] ?_
         refine done_ (done_of HT_.out (by kernel_rfl)) ?_
         try go_wp2
         go_roundg k1
         case measure => have:=HK1.out;omega
         case rel => exact ⟨(y412),(wrap64 (x4_1 + 1)),(by first | rfl | (simp;done) | (simp [*];done)),H',⟨by have:=HK1.out;omega⟩,⟨by (with_reducible repeat (first | apply Kd.R_alloc | apply Kd.R_drewN | apply Kd.R_drew));exact HO414.out⟩,⟨Hd.b_⟩⟩
        ·
         rw [if_neg c10] at H
         exact absurd H (by simp)
       ·
        rw [if_neg c9] at H
        exact absurd H (by simp)
      ·
       rw [if_neg c8] at H
       exact absurd H (by simp)
    ·
     rw [if_neg c5] at H
     exact absurd H (by simp)
   ·
    rw [if_neg c4] at H
    have c4b0 : decide (x4_1 < (l0.length : Int)) = false:=decide_eq_false c4
    clear c4
    obtain rfl:=Option.some.inj H
    go_wp2
    go_ret
    exact ⟨_,Hd.e_,by (with_reducible repeat (first | apply Kd.R_alloc | apply Kd.R_drewN | apply Kd.R_drew));exact HO_3.out,Hd.b_⟩
end Go.Proofs.Ytchmbcembbbplad.MFnExactMeetsOf
