-- Laid by this session's program pp.py, after the kit's print and texts of the session's own. Not trusted: Lean checks it.
import Derived.Test.YtbbdhlggnglfgaaZPutFeatureMx0
import Derived.Test.YtbbdhlggnglfgaaZPutFeatureMx1
import Derived.Test.YtbbdhlggnglfgaaZPutFeatureMx2
namespace Go.Proofs.Ytbbdhlggnglfgaa.MFnExactPutFeature
open Go.RowKit Go.Proofs.YtbbdhlggnglfgaaW.PrintWords Go.Proofs.YtbbdhlggnglfgaaW.PrintLast Go.Proofs.YtbbdhlggnglfgaaW.PrintMore
attribute [local go_sem] max2_int min2_int max_two min_two max_three min_three max_four min_four   -- for this text's walks alone
set_option linter.unusedVariables false
set_option maxHeartbeats 8000000
set_option maxRecDepth 100000
set_option linter.unusedSimpArgs false
attribute [local go_sem high] eqA75
def spec_SegmentsOf.l0 : Nat → List (S75) → List (S101) → Int → Option ((List (S101)))
 | 0,_,_,_ => none
 | k + 1,x0,x3,x4 => if x4 < (x0.length : Int) then ((spec_IsLine.f k x0).bind fun t139 => (if t139 = true then (if 0 ≤ (wrap64 (x4 - 1)) then (if (wrap64 (x4 - 1)) < (x0.length : Int) then (if 0 ≤ x4 then (if x3.length < 4398046511104 then (spec_SegmentsOf.l0 k x0 (x3 ++ [(⟨(⟨(rd_T75 x0 (wrap64 (x4 - 1))).f0,(rd_T75 x0 (wrap64 (x4 - 1))).f1⟩ : S75),(⟨(rd_T75 x0 x4).f0,(rd_T75 x0 x4).f1⟩ : S75)⟩ : S101)]) (wrap64 (x4 + 1))) else (none)) else (none)) else (none)) else (none)) else (some x3))) else (some x3)
def spec_SegmentsOf.f (k : Nat) (l0 : List (S75)) : Option ((List (S101))):=spec_SegmentsOf.l0 k l0 (([] : List (S101))) 1
def spec_SegmentsOf.T5 : Bool × List (List Nat × List Nat):=(true,[([],[]),([],[]),([],[]),([2],[2]),([1,3],[1,3]),([4],[4]),([],[]),([],[]),([6,7],[6,7]),([8],[8]),([5,9],[5,9]),([10],[10]),([0,11],[0,11]),([12,12,0,1,2,3,4,5,6,7,8,9,10,11,12],[0,12])])
def spec_SegmentsOf.B5 : List Nat:=[0,0,0,4,14,30,0,0,192,448,1022,2046,4095,8191]
theorem spec_SegmentsOf.tab5 : rtab .any (opsOf Try.f95 5) = spec_SegmentsOf.T5:=by kernel_rfl
theorem spec_SegmentsOf.bits5 : waitsOk spec_SegmentsOf.T5.2 spec_SegmentsOf.B5 = true:=by kernel_rfl
theorem spec_SegmentsOf.calls (k : Nat) (A0 : Option Addr) (c0 : Nat) (l0 : List (S75)) (r : List (S101)) (w : World) (hr0 : Kd.C k75 w A0 l0.length l0) (hc0 : l0.length ≤ c0) (h : spec_SegmentsOf.f k l0 = some r) :
  Calls Try.prog 95 #[.slice A0 l0.length c0] w fun e w' => ∃ v0_ : Value,e = .returned (v0_) ∧ Kd.R k101 101 w' w.heap.size (fun _ => True) v0_ r ∧ Below w.heap.size w w':=by
 have hu75:=Try.underlying75
 have hu101:=Try.underlying101
 have HR0:=ak hr0
 have HC0:=ak hc0
 clear hr0 hc0
 have HB:=ak (Below.refl w.heap.size w)
 have H:=h;clear h;unfold spec_SegmentsOf.f at H
 generalize hy136 : (([] : List (S101))) = y136 at H;have Ny136:=ak hy136.symm;clear hy136;try rw [Option.bind_some] at H
 have H':=ak H
 clear H
 go_enter Try.func95,Try.ntmps95
 go_wp2_with (first | ((with_reducible refine gate_dst (N:=5) rfl ?_);refine Kd.R_lit k101 _ 101 ?hg (N:=5) ?hd (xs:=([] : List (S101))) (inner:=[]) (ok:=fun _ => True) (okp:=fun _ => True) ?hr ?hp (fun _ hk => hk) trivial (Below.refl _ _) (Nat.le_refl _) (by simp) ?_;(case hd => rfl);(case hg => rfl);(case hr => exact z24_);(case hp => exact (Reps.none _ _));intro v137 w2 ho3 hb hg_ hnew_;clear hg_ hnew_;(first | rw [← Ny136.out] at ho3 | (simp only [Int.reduceToNat] at ho3;rw [← Ny136.out] at ho3));have HO138:=ak (Kd.R_lower ho3 (below_size Hd.b_));replace HB:=ak (below_step Hd.b_ hb);clear hb ho3))
 go_loopg [3,4] k (fun kq v3 v4 w' => ∃ (x3_1 : List (S101)) (x4_1 : Int),v4 = .int .i64 x4_1 ∧ Aside0 (spec_SegmentsOf.l0 kq l0 x3_1 x4_1 = some r) ∧ Aside0 (kq ≤ k) ∧ Aside0 (Kd.R k101 101 w' w.heap.size (fun _ => True) v3 x3_1) ∧ Aside0 (Below w.heap.size w w'))
 case atStart => exact ⟨(y136),(1),z2_,H',⟨Nat.le_refl _⟩,⟨z4_ HO138⟩,⟨Hd.b_⟩⟩
 case round =>
  clear H'
  try clear p2
  obtain ⟨x3_1,x4_1,rfl,HA,HK1,HO_3,HB⟩:=hrel
  cases gk with
  | zero => exact absurd HA.out (by simp [spec_SegmentsOf.l0])
  | succ k1 =>
   have H:=HA.out
   clear HA
   simp only [spec_SegmentsOf.l0] at H
   by_cases c4 : x4_1 < (l0.length : Int);rotate_left
   ·
    rw [if_neg c4] at H
    have c4b0:=decide_eq_false c4
    clear c4
    obtain rfl:=Option.some.inj H
    go_wp2
    go_ret
    exact ⟨_,Hd.e_,z4_ HO_3,Hd.b_⟩
   rw [if_pos c4] at H
   have c4b0:=decide_eq_true c4
   clear c4
   replace H:=Hd.bd_ H;obtain ⟨t139,A5,H⟩:=H
   by_cases c6 : t139 = true;rotate_left
   ·
    replace c6:=Bool.eq_false_iff.mpr c6
    subst c6
    rw [if_neg (show ¬ (false = true) by decide)] at H
    obtain rfl:=Option.some.inj H
    go_wp2_with (first | (go_at_call 97;(with_reducible refine (spec_IsLine.calls k1 _ _ l0 false _ ?side1 ?side2 A5.out).mono ?_);(case side1 => exact z1_ HR0);(case side2 => exact HC0.out);rintro e w15 ⟨rfl,hb⟩;replace HO_3:=z71_;replace HB:=ak (below_step Hd.b_ hb);clear hb))
    go_ret
    exact ⟨_,Hd.e_,z4_ HO_3,Hd.b_⟩
   subst c6
   rw [if_pos rfl] at H
   obtain ⟨ji7,hji7⟩ : ∃ j_ : Int,(wrap64 (x4_1 - 1)) = j_:=⟨_,rfl⟩
   replace H : (if 0 ≤ (ji7) then (if (ji7) < (l0.length : Int) then (if 0 ≤ x4_1 then (if x3_1.length < 4398046511104 then (spec_SegmentsOf.l0 k1 l0 (x3_1 ++ [(⟨(⟨(rd_T75 l0 (ji7)).f0,(rd_T75 l0 (ji7)).f1⟩ : S75),(⟨(rd_T75 l0 x4_1).f0,(rd_T75 l0 x4_1).f1⟩ : S75)⟩ : S101)]) (wrap64 (x4_1 + 1))) else (none)) else (none)) else (none)) else (none)) = some r:=by first | (rw [hji7] at H;exact H) | (simp only [hji7] at H ⊢;exact H)
   (try rw [hji7] at A5)
   have hji7w : (IntKind.i64.wrap (x4_1 - 1)) = ji7:=(i64_w _).trans hji7
   by_cases c8 : 0 ≤ (ji7);rotate_left
   ·
    rw [if_neg c8] at H
    exact absurd H (by simp)
   rw [if_pos c8] at H
   have c8b0:=decide_eq_true c8
   clear c8
   by_cases c9 : (ji7) < (l0.length : Int);rotate_left
   ·
    rw [if_neg c9] at H
    exact absurd H (by simp)
   rw [if_pos c9] at H
   have c9b0:=decide_eq_true c9
   clear c9
   by_cases c10 : 0 ≤ x4_1;rotate_left
   ·
    rw [if_neg c10] at H
    exact absurd H (by simp)
   rw [if_pos c10] at H
   have c10b0:=decide_eq_true c10
   clear c10
   by_cases c11 : x3_1.length < 4398046511104;rotate_left
   ·
    rw [if_neg c11] at H
    exact absurd H (by simp)
   rw [if_pos c11] at H
   have LMc11:=ak c11
   clear c11
   generalize hy142 : (x3_1 ++ [(⟨(⟨(rd_T75 l0 (ji7)).f0,(rd_T75 l0 (ji7)).f1⟩ : S75),(⟨(rd_T75 l0 x4_1).f0,(rd_T75 l0 x4_1).f1⟩ : S75)⟩ : S101)]) = y142 at H;have Ny142:=ak hy142.symm;clear hy142;try rw [Option.bind_some] at H
   have H':=ak H
   clear H
   try go_wp2_with (first | (go_at_call 97;(with_reducible refine (spec_IsLine.calls k1 _ _ l0 true _ ?side1 ?side2 A5.out).mono ?_);(case side1 => exact z1_ HR0);(case side2 => exact HC0.out);rintro e w12 ⟨rfl,hb⟩;replace HO_3:=z71_;replace HB:=ak (below_step Hd.b_ hb);clear hb))
   replace HO_3:=ak (Kd.R_drew HO_3.out)
   replace HB:=ak (below_drew1 HB.out)
   have p140 : 0 ≤ ((ji7) : Int):=of_decide_eq_true Hd.a_
   have q140 : (ji7) < (l0.length : Int):=of_decide_eq_true Hd.a_
   obtain ⟨ad140,e140,hx140_0,hx140_1⟩:=at_T75 HR0.out (ji7) p140 q140
   have hw140_1:=hx140_1
   have hw140_0:=hx140_0
   cases e140
   replace hx140_0:=(HB.out.cell (World.block_lt_of_cell? w _ hx140_0)).trans hx140_0
   replace hx140_1:=(HB.out.cell (World.block_lt_of_cell? w _ hx140_1)).trans hx140_1
   replace p140:=eq_true p140
   replace q140:=eq_true q140
   have p141 : 0 ≤ (x4_1 : Int):=of_decide_eq_true Hd.a_
   have q141 : x4_1 < (l0.length : Int):=of_decide_eq_true Hd.a_
   obtain ⟨ad141,e141,hx141_0,hx141_1⟩:=at_T75 HR0.out x4_1 p141 q141
   have hw141_1:=hx141_1
   have hw141_0:=hx141_0
   obtain rfl : ad140 = ad141:=(by injection e141)
   replace hx141_0:=(HB.out.cell (World.block_lt_of_cell? w _ hx141_0)).trans hx141_0
   replace hx141_1:=(HB.out.cell (World.block_lt_of_cell? w _ hx141_1)).trans hx141_1
   replace p141:=eq_true p141
   replace q141:=eq_true q141
   refine start_ (n:=14) (S:=fun w' => w'.cell? (ad140.add (((ji7)).toNat * 2)) = some (.int .i64 ((rd_T75 l0 (ji7)).f0)) ∧ w'.cell? ⟨(ad140.add (((ji7)).toNat * 2)).block,(ad140.add (((ji7)).toNat * 2)).off + 1,none⟩ = some (.int .i64 ((rd_T75 l0 (ji7)).f1)) ∧ w'.cell? (ad140.add ((x4_1).toNat * 2)) = some (.int .i64 ((rd_T75 l0 x4_1).f0)) ∧ w'.cell? ⟨(ad140.add ((x4_1).toNat * 2)).block,(ad140.add ((x4_1).toNat * 2)).off + 1,none⟩ = some (.int .i64 ((rd_T75 l0 x4_1).f1))) (ds:=[]) #[N_,N_,N_,N_,N_,N_,N_,N_,N_,N_,N_,N_,N_,N_] (by kernel_rfl) rfl rfl ⟨((HB.out.cell (World.block_lt_of_cell? w _ hw140_0)).trans hw140_0),((HB.out.cell (World.block_lt_of_cell? w _ hw140_1)).trans hw140_1),((HB.out.cell (World.block_lt_of_cell? w _ hw141_0)).trans hw141_0),((HB.out.cell (World.block_lt_of_cell? w _ hw141_1)).trans hw141_1)⟩ (fun hHeld => ?_);refine with_tabW spec_SegmentsOf.tab5 spec_SegmentsOf.bits5 (fun HT_ HW_ => ?_)
   generalize w12.drew = w13 at HO_3 HB hx140_0 hx140_1 hx141_0 hx141_1 hHeld ⊢
   refine Hd.p_ HT_ 0 (some 16) #[Y_,N_,N_,N_,N_,N_,N_,N_,N_,N_,N_,N_,N_,N_] ?_
   refine Hd.p_ HT_ 1 (some 17) #[Y_,Y_,N_,N_,N_,N_,N_,N_,N_,N_,N_,N_,N_,N_] ?_
   refine Hd.p_ HT_ 2 (some 18) #[Y_,Y_,Y_,N_,N_,N_,N_,N_,N_,N_,N_,N_,N_,N_] ?_
   refine Hd.p_ HT_ 3 (some 19) #[Y_,Y_,Y_,Y_,N_,N_,N_,N_,N_,N_,N_,N_,N_,N_] ?_
   refine Hd.p_ HT_ 4 (some 20) #[Y_,Y_,Y_,Y_,Y_,N_,N_,N_,N_,N_,N_,N_,N_,N_] ?_
   refine Hd.p_ HT_ 6 (some 22) #[Y_,Y_,Y_,Y_,Y_,N_,Y_,N_,N_,N_,N_,N_,N_,N_] ?_
   refine Hd.p_ HT_ 7 (some 23) #[Y_,Y_,Y_,Y_,Y_,N_,Y_,Y_,N_,N_,N_,N_,N_,N_] ?_
   refine Hd.p_ HT_ 8 (some 24) #[Y_,Y_,Y_,Y_,Y_,N_,Y_,Y_,Y_,N_,N_,N_,N_,N_] ?_
   refine Hd.t_ HT_ HW_ hHeld 5 (some 21) #[Y_,Y_,Y_,Y_,Y_,Y_,Y_,Y_,Y_,N_,N_,N_,N_,N_] ?_
   refine Hd.t_ HT_ HW_ hHeld 9 (some 25) #[Y_,Y_,Y_,Y_,Y_,Y_,Y_,Y_,Y_,Y_,N_,N_,N_,N_] ?_
   refine Hd.p_ HT_ 10 (some 26) #[Y_,Y_,Y_,Y_,Y_,Y_,Y_,Y_,Y_,Y_,Y_,N_,N_,N_] ?_
   refine Hd.o_ HT_ 11 (some 27) #[Y_,Y_,Y_,Y_,Y_,Y_,Y_,Y_,Y_,Y_,Y_,Y_,N_,N_] (fun K hK => ?_)
   refine value_ (w1:=?_) (v:=?_) (by rfl) rfl ?_ ?_
   rotate_left 2
   ·
    go_simp
    constructor
    ·
     rfl
    ·
     rfl
   refine hK.out _ _ ⟨(World.cell?_alloc_lt _ _ _ (World.block_lt_of_cell? _ _ (((HB.out.cell (World.block_lt_of_cell? w _ hw140_0)).trans hw140_0)))).trans (((HB.out.cell (World.block_lt_of_cell? w _ hw140_0)).trans hw140_0)),(World.cell?_alloc_lt _ _ _ (World.block_lt_of_cell? _ _ (((HB.out.cell (World.block_lt_of_cell? w _ hw140_1)).trans hw140_1)))).trans (((HB.out.cell (World.block_lt_of_cell? w _ hw140_1)).trans hw140_1)),(World.cell?_alloc_lt _ _ _ (World.block_lt_of_cell? _ _ (((HB.out.cell (World.block_lt_of_cell? w _ hw141_0)).trans hw141_0)))).trans (((HB.out.cell (World.block_lt_of_cell? w _ hw141_0)).trans hw141_0)),(World.cell?_alloc_lt _ _ _ (World.block_lt_of_cell? _ _ (((HB.out.cell (World.block_lt_of_cell? w _ hw141_1)).trans hw141_1)))).trans (((HB.out.cell (World.block_lt_of_cell? w _ hw141_1)).trans hw141_1))⟩ (fun hHeld => ?_)
   clear hK K
   refine Hd.n_ (some 27) ?_
   refine Hd.o_ HT_ 12 (some 28) #[Y_,Y_,Y_,Y_,Y_,Y_,Y_,Y_,Y_,Y_,Y_,Y_,Y_,N_] (fun K hK => ?_)
   refine Kd.R_append_step k101 (w0:=w) w.heap.size (by rfl) (.tmp 16) (.tmp 27) 79 101 (.agg #[(.int .i64 0),(.int .i64 0),(.int .i64 0),(.int .i64 0)]) 32 rfl Try.underlying79 info101 rfl (by decide) (by omega) u3 x3_1 (⟨(⟨(rd_T75 l0 (ji7)).f0,(rd_T75 l0 (ji7)).f1⟩ : S75),(⟨(rd_T75 l0 x4_1).f0,(rd_T75 l0 x4_1).f1⟩ : S75)⟩ : S101) [.int .i64 ((rd_T75 l0 (ji7)).f0),.int .i64 ((rd_T75 l0 (ji7)).f1),.int .i64 ((rd_T75 l0 x4_1).f0),.int .i64 ((rd_T75 l0 x4_1).f1)] (fun _ => True) (fun _ => False) rfl rfl ?aP (fun _ hk => hk.elim) ?aF ?aO ?aB ?aS ?aL ?_
   (case aP => exact k101_mkM _ _ _ (⟨(⟨(rd_T75 l0 (ji7)).f0,(rd_T75 l0 (ji7)).f1⟩ : S75),(⟨(rd_T75 l0 x4_1).f0,(rd_T75 l0 x4_1).f1⟩ : S75)⟩ : S101))
   (case aB => exact Hd.b_)
   (case aF => exact (fun _ _ => trivial))
   (case aO => exact (Hd.r_ HO_3))
   (case aS => exact (below_size Hd.b_))
   (case aL => have:=LMc11.out;omega)
   intro v143 w14 ho hb hg hat
   rw [← Ny142.out] at ho
   have n0_:=ak (hb)
   have n1_:=ak (ho)
   clear HB
   clear HO_3
   have HB:=n0_
   have HO144:=n1_
   clear n0_ n1_
   clear ho hb hg hat
   refine hK.out _ _ ⟨((HB.out.cell (World.block_lt_of_cell? w _ hw140_0)).trans hw140_0),((HB.out.cell (World.block_lt_of_cell? w _ hw140_1)).trans hw140_1),((HB.out.cell (World.block_lt_of_cell? w _ hw141_0)).trans hw141_0),((HB.out.cell (World.block_lt_of_cell? w _ hw141_1)).trans hw141_1)⟩ (fun hHeld => ?_)
   clear hK K
   refine Hd.n_ (some 28) ?_
   refine Hd.p_ HT_ 13 (some 3) #[Y_,Y_,Y_,Y_,Y_,Y_,Y_,Y_,Y_,Y_,Y_,Y_,Y_,Y_] ?_
   refine done_ (done_of HT_.out (by kernel_rfl)) ?_
   try go_wp2
   go_roundg k1
   case measure => have:=HK1.out;omega
   case rel => exact ⟨(y142),(wrap64 (x4_1 + 1)),z2_,H',⟨by have:=HK1.out;omega⟩,⟨z4_ HO144⟩,⟨Hd.b_⟩⟩
def spec_IsSegment.f (a0_0 : Int) (a0_1 : Int) (a0_2 : Int) (a0_3 : Int) : Option (Bool):=(spec_IsPoint.f a0_0 a0_1).bind fun t146 => (if t146 = true then ((spec_IsPoint.f a0_2 a0_3).bind fun t147 => (if t147 = true then (some (!(a0_0 == a0_2) || (!(a0_1 == a0_3)))) else (some false))) else (some false))
theorem spec_IsSegment.calls (a0_0 : Int) (a0_1 : Int) (a0_2 : Int) (a0_3 : Int) (r : Bool) (w : World) (h : spec_IsSegment.f a0_0 a0_1 a0_2 a0_3 = some r) :
  Calls Try.prog 99 #[.agg #[.int .i64 a0_0,.int .i64 a0_1,.int .i64 a0_2,.int .i64 a0_3]] w fun e w' => e = .returned (.bool r) ∧ Below w.heap.size w w':=by
 have hu101:=Try.underlying101
 have hu75:=Try.underlying75
 have HB:=ak (Below.refl w.heap.size w)
 have H:=h;clear h;unfold spec_IsSegment.f at H
 replace H:=Hd.bd_ H;obtain ⟨t146,A2,H⟩:=H
 by_cases c3 : t146 = true;rotate_left
 ·
  replace c3:=Bool.eq_false_iff.mpr c3
  subst c3
  rw [if_neg (show ¬ (false = true) by decide)] at H
  obtain rfl:=Option.some.inj H
  go_enter Try.func99,Try.ntmps99
  go_wp2_with (first | ((with_reducible refine gate_dst (N:=1) rfl ?_);refine Hd.box_ 1 (#[.int .i64 a0_0,.int .i64 a0_1,.int .i64 a0_2,.int .i64 a0_3]) 101 ?_;intro gb145 hg w17 hbox hb;have BK145:=ak (hbox);have GW145:=ak ((Hd.g_ hg Hd.b_ : w.heap.size ≤ gb145));have GE145:=ak ((Hd.g_ hg Hd.b_ : w.heap.size ≤ gb145));replace HB:=ak (below_step Hd.b_ hb);clear hb hbox hg;obtain ⟨hcz18_0,hcz18_1,hcz18_2,hcz18_3⟩:=Hd.c4_ BK145.out;obtain ⟨hfz18_0,hfz18_1,hfz18_2,hfz18_3⟩:=Hd.f4_ BK145.out) | ((with_reducible refine gate_callee (f:=81) rfl ?_);refine Hd.gl_ 5 Try.func81 #[.agg #[.int .i64 a0_0,.int .i64 a0_1]] ?_;(with_reducible refine (spec_IsPoint.calls a0_0 a0_1 false _ A2.out).mono ?_);rintro e w19 ⟨rfl,hb⟩;refine ⟨_,rfl,?_⟩;replace BK145:=ak (Hd.kb_ BK145 hb);replace HB:=ak (below_step Hd.b_ hb);clear hb))
  go_ret
  exact ⟨Hd.e_,Hd.b_⟩
 subst c3
 rw [if_pos rfl] at H
 replace H:=Hd.bd_ H;obtain ⟨t147,A4,H⟩:=H
 by_cases c5 : t147 = true
 ·
  subst c5
  rw [if_pos rfl] at H
  obtain rfl:=Option.some.inj H
  go_enter Try.func99,Try.ntmps99
  go_wp2_with (first | ((with_reducible refine gate_dst (N:=1) rfl ?_);refine Hd.box_ 1 (#[.int .i64 a0_0,.int .i64 a0_1,.int .i64 a0_2,.int .i64 a0_3]) 101 ?_;intro gb145 hg w6 hbox hb;have BK145:=ak (hbox);have GW145:=ak ((Hd.g_ hg Hd.b_ : w.heap.size ≤ gb145));have GE145:=ak ((Hd.g_ hg Hd.b_ : w.heap.size ≤ gb145));replace HB:=ak (below_step Hd.b_ hb);clear hb hbox hg;obtain ⟨hcz7_0,hcz7_1,hcz7_2,hcz7_3⟩:=Hd.c4_ BK145.out;obtain ⟨hfz7_0,hfz7_1,hfz7_2,hfz7_3⟩:=Hd.f4_ BK145.out) | ((with_reducible refine gate_callee (f:=81) rfl ?_);refine Hd.gl_ 5 Try.func81 #[.agg #[.int .i64 a0_0,.int .i64 a0_1]] ?_;(with_reducible refine (spec_IsPoint.calls a0_0 a0_1 true _ A2.out).mono ?_);rintro e w8 ⟨rfl,hb⟩;refine ⟨_,rfl,?_⟩;replace BK145:=ak (Hd.kb_ BK145 hb);replace HB:=ak (below_step Hd.b_ hb);clear hb;obtain ⟨hcz9_0,hcz9_1,hcz9_2,hcz9_3⟩:=Hd.c4_ BK145.out;obtain ⟨hfz9_0,hfz9_1,hfz9_2,hfz9_3⟩:=Hd.f4_ BK145.out) | (go_at_call 81;(with_reducible refine (spec_IsPoint.calls a0_2 a0_3 true _ A4.out).mono ?_);rintro e w10 ⟨rfl,hb⟩;replace BK145:=ak (Hd.kb_ BK145 hb);replace HB:=ak (below_step Hd.b_ hb);clear hb;obtain ⟨hcz11_0,hcz11_1,hcz11_2,hcz11_3⟩:=Hd.c4_ BK145.out;obtain ⟨hfz11_0,hfz11_1,hfz11_2,hfz11_3⟩:=Hd.f4_ BK145.out))
  go_ret
  exact ⟨Hd.e_,Hd.b_⟩
 replace c5:=Bool.eq_false_iff.mpr c5
 subst c5
 rw [if_neg (show ¬ (false = true) by decide)] at H
 obtain rfl:=Option.some.inj H
 go_enter Try.func99,Try.ntmps99
 go_wp2_with (first | ((with_reducible refine gate_dst (N:=1) rfl ?_);refine Hd.box_ 1 (#[.int .i64 a0_0,.int .i64 a0_1,.int .i64 a0_2,.int .i64 a0_3]) 101 ?_;intro gb145 hg w12 hbox hb;have BK145:=ak (hbox);have GW145:=ak ((Hd.g_ hg Hd.b_ : w.heap.size ≤ gb145));have GE145:=ak ((Hd.g_ hg Hd.b_ : w.heap.size ≤ gb145));replace HB:=ak (below_step Hd.b_ hb);clear hb hbox hg;obtain ⟨hcz13_0,hcz13_1,hcz13_2,hcz13_3⟩:=Hd.c4_ BK145.out;obtain ⟨hfz13_0,hfz13_1,hfz13_2,hfz13_3⟩:=Hd.f4_ BK145.out) | ((with_reducible refine gate_callee (f:=81) rfl ?_);refine Hd.gl_ 5 Try.func81 #[.agg #[.int .i64 a0_0,.int .i64 a0_1]] ?_;(with_reducible refine (spec_IsPoint.calls a0_0 a0_1 true _ A2.out).mono ?_);rintro e w14 ⟨rfl,hb⟩;refine ⟨_,rfl,?_⟩;replace BK145:=ak (Hd.kb_ BK145 hb);replace HB:=ak (below_step Hd.b_ hb);clear hb;obtain ⟨hcz15_0,hcz15_1,hcz15_2,hcz15_3⟩:=Hd.c4_ BK145.out;obtain ⟨hfz15_0,hfz15_1,hfz15_2,hfz15_3⟩:=Hd.f4_ BK145.out) | (go_at_call 81;(with_reducible refine (spec_IsPoint.calls a0_2 a0_3 false _ A4.out).mono ?_);rintro e w16 ⟨rfl,hb⟩;replace BK145:=ak (Hd.kb_ BK145 hb);replace HB:=ak (below_step Hd.b_ hb);clear hb))
 go_ret
 exact ⟨Hd.e_,Hd.b_⟩
def spec_Min.f (a0 : Int) (a1 : Int) : Option (Int):=if a1 < a0 then (some a1) else (some a0)
theorem spec_Min.calls (a0 : Int) (a1 : Int) (r : Int) (w : World) (h : spec_Min.f a0 a1 = some r) :
  Calls Try.prog 104 #[.int .i64 a0,.int .i64 a1] w fun e w' => e = .returned (.int .i64 r) ∧ Drawn0 w w':=by
 have H:=h;clear h;unfold spec_Min.f at H
 by_cases c3 : a1 < a0
 ·
  rw [if_pos c3] at H
  have c3b0:=decide_eq_true c3
  clear c3
  obtain rfl:=Option.some.inj H
  go_enter Try.func104,Try.ntmps104
  go_wp2
  go_ret
  exact ⟨z2_,z12_⟩
 rw [if_neg c3] at H
 have c3b0:=decide_eq_false c3
 clear c3
 obtain rfl:=Option.some.inj H
 go_enter Try.func104,Try.ntmps104
 go_wp2
 go_ret
 exact ⟨z2_,z12_⟩
def spec_Max.f (a0 : Int) (a1 : Int) : Option (Int):=if a1 > a0 then (some a1) else (some a0)
theorem spec_Max.calls (a0 : Int) (a1 : Int) (r : Int) (w : World) (h : spec_Max.f a0 a1 = some r) :
  Calls Try.prog 109 #[.int .i64 a0,.int .i64 a1] w fun e w' => e = .returned (.int .i64 r) ∧ Drawn0 w w':=by
 have H:=h;clear h;unfold spec_Max.f at H
 by_cases c3 : a1 > a0
 ·
  rw [if_pos c3] at H
  have c3b0 : decide (a0 < a1) = true:=decide_eq_true c3
  clear c3
  obtain rfl:=Option.some.inj H
  go_enter Try.func109,Try.ntmps109
  go_wp2
  go_ret
  exact ⟨z2_,z12_⟩
 rw [if_neg c3] at H
 have c3b0 : decide (a0 < a1) = false:=decide_eq_false c3
 clear c3
 obtain rfl:=Option.some.inj H
 go_enter Try.func109,Try.ntmps109
 go_wp2
 go_ret
 exact ⟨z2_,z12_⟩
def spec_l4Cross.f (a0_0 : Int) (a0_1 : Int) (a1_0 : Int) (a1_1 : Int) (a2_0 : Int) (a2_1 : Int) : Option (Int):=some (wrap64 ((wrap64 ((wrap64 (a1_0 - a0_0)) * (wrap64 (a2_1 - a0_1)))) - (wrap64 ((wrap64 (a1_1 - a0_1)) * (wrap64 (a2_0 - a0_0))))))
theorem spec_l4Cross.calls (a0_0 : Int) (a0_1 : Int) (a1_0 : Int) (a1_1 : Int) (a2_0 : Int) (a2_1 : Int) (r : Int) (w : World) (h : spec_l4Cross.f a0_0 a0_1 a1_0 a1_1 a2_0 a2_1 = some r) :
  Calls Try.prog 115 #[.agg #[.int .i64 a0_0,.int .i64 a0_1],.agg #[.int .i64 a1_0,.int .i64 a1_1],.agg #[.int .i64 a2_0,.int .i64 a2_1]] w fun e w' => e = .returned (.int .i64 r) ∧ Below w.heap.size w w':=by
 have hu75:=Try.underlying75
 have HB:=ak (Below.refl w.heap.size w)
 have H : (some (wrap64 ((wrap64 ((wrap64 (a1_0 - a0_0)) * (wrap64 (a2_1 - a0_1)))) - (wrap64 ((wrap64 (a1_1 - a0_1)) * (wrap64 (a2_0 - a0_0))))))) = some r:=h
 clear h
 obtain rfl:=Option.some.inj H
 go_enter Try.func115,Try.ntmps115
 go_wp2_with (first | ((with_reducible refine gate_dst (N:=3) rfl ?_);refine Hd.box_ 3 (#[.int .i64 a0_0,.int .i64 a0_1]) 75 ?_;intro gb148 hg w4 hbox hb;have BK148:=ak (hbox);have GW148:=ak ((Hd.g_ hg Hd.b_ : w.heap.size ≤ gb148));have GE148:=ak ((Hd.g_ hg Hd.b_ : w.heap.size ≤ gb148));replace HB:=ak (below_step Hd.b_ hb);clear hb hbox hg) | ((with_reducible refine gate_dst (N:=4) rfl ?_);refine Hd.box_ 4 (#[.int .i64 a1_0,.int .i64 a1_1]) 75 ?_;intro gb149 hg w5 hbox hb;have BK149:=ak (hbox);have GW149:=ak ((Hd.g_ hg Hd.b_ : w.heap.size ≤ gb149));have GE149:=ak ((Hd.g_ hg Hd.b_ : w.heap.size ≤ gb149));replace HB:=ak (below_step Hd.b_ hb);have NB148_149:=ak ((Hd.lt_ BK148 hg));have NB149_148:=ak ((Hd.gt_ BK148 hg));replace BK148:=ak (Hd.kb_ BK148 hb);clear hb hbox hg) | ((with_reducible refine gate_dst (N:=5) rfl ?_);refine Hd.box_ 5 (#[.int .i64 a2_0,.int .i64 a2_1]) 75 ?_;intro gb150 hg w6 hbox hb;have BK150:=ak (hbox);have GW150:=ak ((Hd.g_ hg Hd.b_ : w.heap.size ≤ gb150));have GE150:=ak ((Hd.g_ hg Hd.b_ : w.heap.size ≤ gb150));replace HB:=ak (below_step Hd.b_ hb);have NB148_150:=ak ((Hd.lt_ BK148 hg));have NB150_148:=ak ((Hd.gt_ BK148 hg));replace BK148:=ak (Hd.kb_ BK148 hb);have NB149_150:=ak ((Hd.lt_ BK149 hg));have NB150_149:=ak ((Hd.gt_ BK149 hg));replace BK149:=ak (Hd.kb_ BK149 hb);clear hb hbox hg;have hnb7:=NB149_148.out;have hnc7:=NB148_149.out;have hnb8:=NB149_150.out;have hnc8:=NB150_149.out;obtain ⟨hcz9_0,hcz9_1⟩:=Hd.c2_ BK149.out;obtain ⟨hfz9_0,hfz9_1⟩:=Hd.f2_ BK149.out;have hnb10:=NB148_150.out;have hnc10:=NB150_148.out;obtain ⟨hcz11_0,hcz11_1⟩:=Hd.c2_ BK148.out;obtain ⟨hfz11_0,hfz11_1⟩:=Hd.f2_ BK148.out;obtain ⟨hcz12_0,hcz12_1⟩:=Hd.c2_ BK150.out;obtain ⟨hfz12_0,hfz12_1⟩:=Hd.f2_ BK150.out))
 go_ret
 exact ⟨Hd.e_,Hd.b_⟩
def spec_IsOn.f (a0_0 : Int) (a0_1 : Int) (a0_2 : Int) (a0_3 : Int) (a1_0 : Int) (a1_1 : Int) : Option (Bool):=(spec_IsSegment.f a0_0 a0_1 a0_2 a0_3).bind fun t153 => (if t153 = true then ((spec_IsPoint.f a1_0 a1_1).bind fun t154 => (if t154 = true then ((spec_l4Cross.f a0_0 a0_1 a0_2 a0_3 a1_0 a1_1).bind fun t155 => (if t155 = 0 then ((spec_Min.f a0_0 a0_2).bind fun t156 => ((spec_Max.f a0_0 a0_2).bind fun t157 => ((spec_l1In.f a1_0 t156 t157).bind fun t158 => (if t158 = true then ((spec_Min.f a0_1 a0_3).bind fun t159 => ((spec_Max.f a0_1 a0_3).bind fun t160 => ((spec_l1In.f a1_1 t159 t160).bind fun t161 => (some t161)))) else (some false))))) else (some false))) else (some false))) else (some false))
theorem spec_IsOn.calls (a0_0 : Int) (a0_1 : Int) (a0_2 : Int) (a0_3 : Int) (a1_0 : Int) (a1_1 : Int) (r : Bool) (w : World) (h : spec_IsOn.f a0_0 a0_1 a0_2 a0_3 a1_0 a1_1 = some r) :
  Calls Try.prog 114 #[.agg #[.int .i64 a0_0,.int .i64 a0_1,.int .i64 a0_2,.int .i64 a0_3],.agg #[.int .i64 a1_0,.int .i64 a1_1]] w fun e w' => e = .returned (.bool r) ∧ Below w.heap.size w w':=by
 have hu101:=Try.underlying101
 have hu75:=Try.underlying75
 have HB:=ak (Below.refl w.heap.size w)
 have H:=h;clear h;unfold spec_IsOn.f at H
 replace H:=Hd.bd_ H;obtain ⟨t153,A3,H⟩:=H
 by_cases c4 : t153 = true;rotate_left
 ·
  replace c4:=Bool.eq_false_iff.mpr c4
  subst c4
  rw [if_neg (show ¬ (false = true) by decide)] at H
  obtain rfl:=Option.some.inj H
  go_enter Try.func114,Try.ntmps114
  try go_wp2_with (first | ((with_reducible refine gate_dst (N:=2) rfl ?_);refine Hd.box_ 2 (#[.int .i64 a0_0,.int .i64 a0_1,.int .i64 a0_2,.int .i64 a0_3]) 101 ?_;intro gb151 hg w39 hbox hb;have BK151:=ak (hbox);have GW151:=z44_;have GE151:=z44_;replace HB:=ak (below_step Hd.b_ hb);clear hb hbox hg) | ((with_reducible refine gate_dst (N:=3) rfl ?_);refine Hd.box_ 3 (#[.int .i64 a1_0,.int .i64 a1_1]) 75 ?_;intro gb152 hg w40 hbox hb;have BK152:=ak (hbox);have GW152:=z45_;have GE152:=z45_;replace HB:=ak (below_step Hd.b_ hb);have NB151_152:=ak ((Hd.lt_ BK151 hg));have NB152_151:=ak ((Hd.gt_ BK151 hg));replace BK151:=ak (Hd.kb_ BK151 hb);clear hb hbox hg))
  replace BK151:=ak (blk_drew BK151.out)
  replace BK152:=ak (blk_drew BK152.out)
  replace HB:=ak (below_drew1 HB.out)
  obtain ⟨s0_,s1_,s2_,s3_⟩:=Hd.HW.k4 (W0:=w40.drew) BK151
  refine Hd.HW.region (by kernel_rfl) (by kernel_rfl) ?_
  try dsimp only [List.append]
  repeat (go_big_quiet_step ((first | (go_at_call 99;with_reducible exact Hd.HW.c (spec_IsSegment.calls a0_0 a0_1 a0_2 a0_3 false _ A3.out)))))
  refine wpQuiet_nil ?_
  intro _ hq_
  obtain ⟨q_,rfl⟩:=hq_
  clear s0_ s1_ s2_ s3_
  replace BK151:=ak (blk_below BK151.out q_.b)
  replace BK152:=ak (blk_below BK152.out q_.b)
  replace HB:=ak (below_step HB.out q_.b)
  generalize q_.W = w42 at BK151 BK152 HB ⊢
  try simp only [i64_w,i32_w]
  try go_wp2
  go_ret
  exact ⟨Hd.e_,Hd.b_⟩
 subst c4
 rw [if_pos rfl] at H
 replace H:=Hd.bd_ H;obtain ⟨t154,A5,H⟩:=H
 by_cases c6 : t154 = true;rotate_left
 ·
  replace c6:=Bool.eq_false_iff.mpr c6
  subst c6
  rw [if_neg (show ¬ (false = true) by decide)] at H
  obtain rfl:=Option.some.inj H
  go_enter Try.func114,Try.ntmps114
  try go_wp2_with (first | ((with_reducible refine gate_dst (N:=2) rfl ?_);refine Hd.box_ 2 (#[.int .i64 a0_0,.int .i64 a0_1,.int .i64 a0_2,.int .i64 a0_3]) 101 ?_;intro gb151 hg w34 hbox hb;have BK151:=ak (hbox);have GW151:=z44_;have GE151:=z44_;replace HB:=ak (below_step Hd.b_ hb);clear hb hbox hg) | ((with_reducible refine gate_dst (N:=3) rfl ?_);refine Hd.box_ 3 (#[.int .i64 a1_0,.int .i64 a1_1]) 75 ?_;intro gb152 hg w35 hbox hb;have BK152:=ak (hbox);have GW152:=z45_;have GE152:=z45_;replace HB:=ak (below_step Hd.b_ hb);have NB151_152:=ak ((Hd.lt_ BK151 hg));have NB152_151:=ak ((Hd.gt_ BK151 hg));replace BK151:=ak (Hd.kb_ BK151 hb);clear hb hbox hg))
  replace BK151:=ak (blk_drew BK151.out)
  replace BK152:=ak (blk_drew BK152.out)
  replace HB:=ak (below_drew1 HB.out)
  obtain ⟨s0_,s1_,s2_,s3_⟩:=Hd.HW.k4 (W0:=w35.drew) BK151
  obtain ⟨s4_,s5_⟩:=Hd.HW.k2 (W0:=w35.drew) BK152
  refine Hd.HW.region (by kernel_rfl) (by kernel_rfl) ?_
  try dsimp only [List.append]
  repeat (go_big_quiet_step ((first | (go_at_call 99;with_reducible exact Hd.HW.c (spec_IsSegment.calls a0_0 a0_1 a0_2 a0_3 true _ A3.out)) | (go_at_call 81;with_reducible exact Hd.HW.c (spec_IsPoint.calls a1_0 a1_1 false _ A5.out)))))
  refine wpQuiet_nil ?_
  intro _ hq_
  obtain ⟨q_,rfl⟩:=hq_
  clear s0_ s1_ s2_ s3_ s4_ s5_
  replace BK151:=ak (blk_below BK151.out q_.b)
  replace BK152:=ak (blk_below BK152.out q_.b)
  replace HB:=ak (below_step HB.out q_.b)
  generalize q_.W = w38 at BK151 BK152 HB ⊢
  try simp only [i64_w,i32_w]
  try go_wp2
  go_ret
  exact ⟨Hd.e_,Hd.b_⟩
 subst c6
 rw [if_pos rfl] at H
 replace H:=Hd.bd_ H;obtain ⟨t155,A7,H⟩:=H
 by_cases c8 : t155 = 0;rotate_left
 ·
  rw [if_neg c8] at H
  have c8b0:=beq_eq_false_iff_ne.mpr c8
  have c8b1:=bne_iff_ne.mpr c8
  obtain rfl:=Option.some.inj H
  go_enter Try.func114,Try.ntmps114
  try go_wp2_with (first | ((with_reducible refine gate_dst (N:=2) rfl ?_);refine Hd.box_ 2 (#[.int .i64 a0_0,.int .i64 a0_1,.int .i64 a0_2,.int .i64 a0_3]) 101 ?_;intro gb151 hg w28 hbox hb;have BK151:=ak (hbox);have GW151:=z44_;have GE151:=z44_;replace HB:=ak (below_step Hd.b_ hb);clear hb hbox hg) | ((with_reducible refine gate_dst (N:=3) rfl ?_);refine Hd.box_ 3 (#[.int .i64 a1_0,.int .i64 a1_1]) 75 ?_;intro gb152 hg w29 hbox hb;have BK152:=ak (hbox);have GW152:=z45_;have GE152:=z45_;replace HB:=ak (below_step Hd.b_ hb);have NB151_152:=ak ((Hd.lt_ BK151 hg));have NB152_151:=ak ((Hd.gt_ BK151 hg));replace BK151:=ak (Hd.kb_ BK151 hb);clear hb hbox hg))
  replace BK151:=ak (blk_drew BK151.out)
  replace BK152:=ak (blk_drew BK152.out)
  replace HB:=ak (below_drew1 HB.out)
  obtain ⟨s0_,s1_,s2_,s3_⟩:=Hd.HW.k4 (W0:=w29.drew) BK151
  obtain ⟨s4_,s5_⟩:=Hd.HW.k2 (W0:=w29.drew) BK152
  refine Hd.HW.region (by kernel_rfl) (by kernel_rfl) ?_
  try dsimp only [List.append]
  repeat (go_big_quiet_step ((first | (go_at_call 99;with_reducible exact Hd.HW.c (spec_IsSegment.calls a0_0 a0_1 a0_2 a0_3 true _ A3.out)) | (go_at_call 81;with_reducible exact Hd.HW.c (spec_IsPoint.calls a1_0 a1_1 true _ A5.out)) | (go_at_call 115;with_reducible exact Hd.HW.c (spec_l4Cross.calls a0_0 a0_1 a0_2 a0_3 a1_0 a1_1 t155 _ A7.out)))))
  refine wpQuiet_nil ?_
  intro _ hq_
  obtain ⟨q_,rfl⟩:=hq_
  clear s0_ s1_ s2_ s3_ s4_ s5_
  replace BK151:=ak (blk_below BK151.out q_.b)
  replace BK152:=ak (blk_below BK152.out q_.b)
  replace HB:=ak (below_step HB.out q_.b)
  generalize q_.W = w33 at BK151 BK152 HB ⊢
  try simp only [i64_w,i32_w]
  try go_wp2
  go_ret
  exact ⟨Hd.e_,Hd.b_⟩
 rw [if_pos c8] at H
 have c8b0:=beq_iff_eq.mpr c8
 have c8b1:=bne_eq_false_iff_eq.mpr c8
 clear c8
 replace H:=Hd.bd_ H;obtain ⟨t156,A9,H⟩:=H
 replace H:=Hd.bd_ H;obtain ⟨t157,A10,H⟩:=H
 replace H:=Hd.bd_ H;obtain ⟨t158,A11,H⟩:=H
 by_cases c12 : t158 = true;rotate_left
 ·
  replace c12:=Bool.eq_false_iff.mpr c12
  subst c12
  rw [if_neg (show ¬ (false = true) by decide)] at H
  obtain rfl:=Option.some.inj H
  go_enter Try.func114,Try.ntmps114
  try go_wp2_with (first | ((with_reducible refine gate_dst (N:=2) rfl ?_);refine Hd.box_ 2 (#[.int .i64 a0_0,.int .i64 a0_1,.int .i64 a0_2,.int .i64 a0_3]) 101 ?_;intro gb151 hg w22 hbox hb;have BK151:=ak (hbox);have GW151:=z44_;have GE151:=z44_;replace HB:=ak (below_step Hd.b_ hb);clear hb hbox hg) | ((with_reducible refine gate_dst (N:=3) rfl ?_);refine Hd.box_ 3 (#[.int .i64 a1_0,.int .i64 a1_1]) 75 ?_;intro gb152 hg w23 hbox hb;have BK152:=ak (hbox);have GW152:=z45_;have GE152:=z45_;replace HB:=ak (below_step Hd.b_ hb);have NB151_152:=ak ((Hd.lt_ BK151 hg));have NB152_151:=ak ((Hd.gt_ BK151 hg));replace BK151:=ak (Hd.kb_ BK151 hb);clear hb hbox hg))
  replace BK151:=ak (blk_drew BK151.out)
  replace BK152:=ak (blk_drew BK152.out)
  replace HB:=ak (below_drew1 HB.out)
  obtain ⟨s0_,s1_,s2_,s3_⟩:=Hd.HW.k4 (W0:=w23.drew) BK151
  obtain ⟨s4_,s5_⟩:=Hd.HW.k2 (W0:=w23.drew) BK152
  refine Hd.HW.region (by kernel_rfl) (by kernel_rfl) ?_
  try dsimp only [List.append]
  repeat (go_big_quiet_step ((first | (go_at_call 99;with_reducible exact Hd.HW.c (spec_IsSegment.calls a0_0 a0_1 a0_2 a0_3 true _ A3.out)) | (go_at_call 81;with_reducible exact Hd.HW.c (spec_IsPoint.calls a1_0 a1_1 true _ A5.out)) | (go_at_call 115;with_reducible exact Hd.HW.c (spec_l4Cross.calls a0_0 a0_1 a0_2 a0_3 a1_0 a1_1 t155 _ A7.out)) | (go_at_call 104;with_reducible exact Hd.HW.d (spec_Min.calls a0_0 a0_2 t156 _ A9.out)) | (go_at_call 109;with_reducible exact Hd.HW.d (spec_Max.calls a0_0 a0_2 t157 _ A10.out)) | (go_at_call 79;with_reducible exact Hd.HW.d (spec_l1In.calls a1_0 t156 t157 false _ A11.out)))))
  refine wpQuiet_nil ?_
  intro _ hq_
  obtain ⟨q_,rfl⟩:=hq_
  clear s0_ s1_ s2_ s3_ s4_ s5_
  replace BK151:=ak (blk_below BK151.out q_.b)
  replace BK152:=ak (blk_below BK152.out q_.b)
  replace HB:=ak (below_step HB.out q_.b)
  generalize q_.W = w27 at BK151 BK152 HB ⊢
  try simp only [i64_w,i32_w]
  try go_wp2
  go_ret
  exact ⟨Hd.e_,Hd.b_⟩
 subst c12
 rw [if_pos rfl] at H
 replace H:=Hd.bd_ H;obtain ⟨t159,A13,H⟩:=H
 replace H:=Hd.bd_ H;obtain ⟨t160,A14,H⟩:=H
 replace H:=Hd.bd_ H;obtain ⟨t161,A15,H⟩:=H
 obtain rfl:=Option.some.inj H
 go_enter Try.func114,Try.ntmps114
 try go_wp2_with (first | ((with_reducible refine gate_dst (N:=2) rfl ?_);refine Hd.box_ 2 (#[.int .i64 a0_0,.int .i64 a0_1,.int .i64 a0_2,.int .i64 a0_3]) 101 ?_;intro gb151 hg w16 hbox hb;have BK151:=ak (hbox);have GW151:=z44_;have GE151:=z44_;replace HB:=ak (below_step Hd.b_ hb);clear hb hbox hg) | ((with_reducible refine gate_dst (N:=3) rfl ?_);refine Hd.box_ 3 (#[.int .i64 a1_0,.int .i64 a1_1]) 75 ?_;intro gb152 hg w17 hbox hb;have BK152:=ak (hbox);have GW152:=z45_;have GE152:=z45_;replace HB:=ak (below_step Hd.b_ hb);have NB151_152:=ak ((Hd.lt_ BK151 hg));have NB152_151:=ak ((Hd.gt_ BK151 hg));replace BK151:=ak (Hd.kb_ BK151 hb);clear hb hbox hg))
 replace BK151:=ak (blk_drew BK151.out)
 replace BK152:=ak (blk_drew BK152.out)
 replace HB:=ak (below_drew1 HB.out)
 obtain ⟨s0_,s1_,s2_,s3_⟩:=Hd.HW.k4 (W0:=w17.drew) BK151
 obtain ⟨s4_,s5_⟩:=Hd.HW.k2 (W0:=w17.drew) BK152
 refine Hd.HW.region (by kernel_rfl) (by kernel_rfl) ?_
 try dsimp only [List.append]
 repeat (go_big_quiet_step ((first | (go_at_call 99;with_reducible exact Hd.HW.c (spec_IsSegment.calls a0_0 a0_1 a0_2 a0_3 true _ A3.out)) | (go_at_call 81;with_reducible exact Hd.HW.c (spec_IsPoint.calls a1_0 a1_1 true _ A5.out)) | (go_at_call 115;with_reducible exact Hd.HW.c (spec_l4Cross.calls a0_0 a0_1 a0_2 a0_3 a1_0 a1_1 t155 _ A7.out)) | (go_at_call 104;with_reducible exact Hd.HW.d (spec_Min.calls a0_0 a0_2 t156 _ A9.out)) | (go_at_call 109;with_reducible exact Hd.HW.d (spec_Max.calls a0_0 a0_2 t157 _ A10.out)) | (go_at_call 79;with_reducible exact Hd.HW.d (spec_l1In.calls a1_0 t156 t157 true _ A11.out)) | (go_at_call 104;with_reducible exact Hd.HW.d (spec_Min.calls a0_1 a0_3 t159 _ A13.out)) | (go_at_call 109;with_reducible exact Hd.HW.d (spec_Max.calls a0_1 a0_3 t160 _ A14.out)) | (go_at_call 79;with_reducible exact Hd.HW.d (spec_l1In.calls a1_1 t159 t160 t161 _ A15.out)))))
 refine wpQuiet_nil ?_
 intro _ hq_
 obtain ⟨q_,rfl⟩:=hq_
 clear s0_ s1_ s2_ s3_ s4_ s5_
 replace BK151:=ak (blk_below BK151.out q_.b)
 replace BK152:=ak (blk_below BK152.out q_.b)
 replace HB:=ak (below_step HB.out q_.b)
 generalize q_.W = w21 at BK151 BK152 HB ⊢
 try simp only [i64_w,i32_w]
 try go_wp2
 go_ret
 exact ⟨Hd.e_,Hd.b_⟩
end Go.Proofs.Ytbbdhlggnglfgaa.MFnExactPutFeature
