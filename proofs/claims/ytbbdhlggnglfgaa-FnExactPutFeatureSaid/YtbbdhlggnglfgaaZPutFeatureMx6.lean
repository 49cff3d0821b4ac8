-- Laid by this session's program pp.py, after the kit's print and texts of the session's own. Not trusted: Lean checks it.
import Derived.Test.YtbbdhlggnglfgaaZPutFeatureMx0
import Derived.Test.YtbbdhlggnglfgaaZPutFeatureMx2
import Derived.Test.YtbbdhlggnglfgaaZPutFeatureMx3
import Derived.Test.YtbbdhlggnglfgaaZPutFeatureMx5
namespace Go.Proofs.Ytbbdhlggnglfgaa.MFnExactPutFeature
open Go.RowKit Go.Proofs.YtbbdhlggnglfgaaW.PrintWords Go.Proofs.YtbbdhlggnglfgaaW.PrintLast Go.Proofs.YtbbdhlggnglfgaaW.PrintMore
attribute [local go_sem] max2_int min2_int max_two min_two max_three min_three max_four min_four   -- for this text's walks alone
set_option linter.unusedVariables false
set_option maxHeartbeats 8000000
set_option maxRecDepth 100000
set_option linter.unusedSimpArgs false
def spec_l7Segments.l0 : Nat → List (S75) → List (S101) → Int → Option ((List (S101)))
 | 0,_,_,_ => none
 | k + 1,x0,x3,x4 => if x4 < (x0.length : Int) then (if 0 ≤ x4 then (if (x0.length : Int) = 0 then (none) else (if 0 ≤ (Int.tmod (wrap64 (x4 + 1)) (x0.length : Int)) then (if (Int.tmod (wrap64 (x4 + 1)) (x0.length : Int)) < (x0.length : Int) then (if x3.length < 4398046511104 then (spec_l7Segments.l0 k x0 (x3 ++ [(⟨(⟨(rd_T75 x0 x4).f0,(rd_T75 x0 x4).f1⟩ : S75),(⟨(rd_T75 x0 (Int.tmod (wrap64 (x4 + 1)) (x0.length : Int))).f0,(rd_T75 x0 (Int.tmod (wrap64 (x4 + 1)) (x0.length : Int))).f1⟩ : S75)⟩ : S101)]) (wrap64 (x4 + 1))) else (none)) else (none)) else (none))) else (none)) else (some x3)
def spec_l7Segments.f (k : Nat) (l0 : List (S75)) : Option ((List (S101))):=spec_l7Segments.l0 k l0 (([] : List (S101))) 0
def spec_l7Segments.T5 : Bool × List (List Nat × List Nat):=(true,[([],[]),([],[]),([],[]),([1,2],[1,2]),([3],[3]),([],[]),([],[]),([6],[6]),([],[]),([8],[8]),([7,9],[7,9]),([5,10],[5,10]),([11],[11]),([4,12],[4,12]),([13],[13]),([0,14],[0,14]),([15,15,0,1,2,3,4,5,6,7,8,9,10,11,12,13,14,15],[0,15])])
def spec_l7Segments.B5 : List Nat:=[0,0,0,6,14,0,0,64,0,256,960,2016,4064,8190,16382,32767,65535]
theorem spec_l7Segments.tab5 : rtab .any (opsOf Try.f98 5) = spec_l7Segments.T5:=by kernel_rfl
theorem spec_l7Segments.bits5 : waitsOk spec_l7Segments.T5.2 spec_l7Segments.B5 = true:=by kernel_rfl
theorem spec_l7Segments.calls (k : Nat) (A0 : Option Addr) (c0 : Nat) (l0 : List (S75)) (r : List (S101)) (w : World) (hr0 : Kd.C k75 w A0 l0.length l0) (hc0 : l0.length ≤ c0) (h : spec_l7Segments.f k l0 = some r) :
  Calls Try.prog 98 #[.slice A0 l0.length c0] w fun e w' => ∃ v0_ : Value,e = .returned (v0_) ∧ Kd.R k101 101 w' w.heap.size (fun _ => True) v0_ r ∧ Below w.heap.size w w':=by
 have hu75:=Try.underlying75
 have hu101:=Try.underlying101
 have HR0:=ak hr0
 have HC0:=ak hc0
 clear hr0 hc0
 have HB:=ak (Below.refl w.heap.size w)
 have H:=h;clear h;unfold spec_l7Segments.f at H
 generalize hy216 : (([] : List (S101))) = y216 at H;have Ny216:=ak hy216.symm;clear hy216;try rw [Option.bind_some] at H
 have H':=ak H
 clear H
 go_enter Try.func98,Try.ntmps98
 go_wp2_with (first | ((with_reducible refine gate_dst (N:=5) rfl ?_);refine Kd.R_lit k101 _ 101 ?hg (N:=5) ?hd (xs:=([] : List (S101))) (inner:=[]) (ok:=fun _ => True) (okp:=fun _ => True) ?hr ?hp (fun _ hk => hk) trivial (Below.refl _ _) (Nat.le_refl _) (by simp) ?_;(case hd => rfl);(case hg => rfl);(case hr => exact z24_);(case hp => exact (Reps.none _ _));intro v217 w2 ho3 hb hg_ hnew_;clear hg_ hnew_;(first | rw [← Ny216.out] at ho3 | (simp only [Int.reduceToNat] at ho3;rw [← Ny216.out] at ho3));have HO218:=ak (Kd.R_lower ho3 (below_size Hd.b_));replace HB:=ak (below_step Hd.b_ hb);clear hb ho3))
 go_loopg [3,4] k (fun kq v3 v4 w' => ∃ (x3_1 : List (S101)) (x4_1 : Int),v4 = .int .i64 x4_1 ∧ Aside0 (spec_l7Segments.l0 kq l0 x3_1 x4_1 = some r) ∧ Aside0 (kq ≤ k) ∧ Aside0 (Kd.R k101 101 w' w.heap.size (fun _ => True) v3 x3_1) ∧ Aside0 (Below w.heap.size w w'))
 case atStart => exact ⟨(y216),(0),z2_,H',⟨Nat.le_refl _⟩,⟨z4_ HO218⟩,⟨Hd.b_⟩⟩
 case round =>
  clear H'
  try clear p2
  obtain ⟨x3_1,x4_1,rfl,HA,HK1,HO_3,HB⟩:=hrel
  cases gk with
  | zero => exact absurd HA.out (by simp [spec_l7Segments.l0])
  | succ k1 =>
   have H:=HA.out
   clear HA
   simp only [spec_l7Segments.l0] at H
   by_cases c4 : x4_1 < (l0.length : Int);rotate_left
   ·
    rw [if_neg c4] at H
    have c4b0:=decide_eq_false c4
    clear c4
    obtain rfl:=Option.some.inj H
    go_wp2
    go_ret
    exact ⟨_,Hd.e_,z4_ HO_3,Hd.b_⟩
   rw [if_pos c4] at H
   have c4b0:=decide_eq_true c4
   clear c4
   by_cases c5 : 0 ≤ x4_1;rotate_left
   ·
    rw [if_neg c5] at H
    exact absurd H (by simp)
   rw [if_pos c5] at H
   have c5b0:=decide_eq_true c5
   clear c5
   by_cases c6 : (l0.length : Int) = 0
   ·
    rw [if_pos c6] at H
    exact absurd H (by simp)
   rw [if_neg c6] at H
   have c6b0:=beq_eq_false_iff_ne.mpr c6
   have c6b1:=bne_iff_ne.mpr c6
   have c6b2 : ¬ (l0 = []):=fun h_ => c6 (by rw [h_];rfl)
   obtain ⟨ji7,hji7⟩ : ∃ j_ : Int,(Int.tmod (wrap64 (x4_1 + 1)) (l0.length : Int)) = j_:=⟨_,rfl⟩
   replace H : (if 0 ≤ (ji7) then (if (ji7) < (l0.length : Int) then (if x3_1.length < 4398046511104 then (spec_l7Segments.l0 k1 l0 (x3_1 ++ [(⟨(⟨(rd_T75 l0 x4_1).f0,(rd_T75 l0 x4_1).f1⟩ : S75),(⟨(rd_T75 l0 (ji7)).f0,(rd_T75 l0 (ji7)).f1⟩ : S75)⟩ : S101)]) (wrap64 (x4_1 + 1))) else (none)) else (none)) else (none)) = some r:=by first | (rw [hji7] at H;exact H) | (simp only [hji7] at H ⊢;exact H)
   by_cases c8 : 0 ≤ (ji7);rotate_left
   ·
    rw [if_neg c8] at H
    exact absurd H (by simp)
   rw [if_pos c8] at H
   have c8b0:=decide_eq_true c8
   clear c8
   by_cases c9 : (ji7) < (l0.length : Int);rotate_left
   ·
    rw [if_neg c9] at H
    exact absurd H (by simp)
   rw [if_pos c9] at H
   have c9b0:=decide_eq_true c9
   clear c9
   by_cases c10 : x3_1.length < 4398046511104;rotate_left
   ·
    rw [if_neg c10] at H
    exact absurd H (by simp)
   rw [if_pos c10] at H
   have LMc10:=ak c10
   clear c10
   generalize hy221 : (x3_1 ++ [(⟨(⟨(rd_T75 l0 x4_1).f0,(rd_T75 l0 x4_1).f1⟩ : S75),(⟨(rd_T75 l0 (ji7)).f0,(rd_T75 l0 (ji7)).f1⟩ : S75)⟩ : S101)]) = y221 at H;have Ny221:=ak hy221.symm;clear hy221;try rw [Option.bind_some] at H
   have H':=ak H
   clear H
   try go_wp2
   replace HO_3:=ak (Kd.R_drew HO_3.out)
   replace HB:=ak (below_drew1 HB.out)
   have p219 : 0 ≤ (x4_1 : Int):=of_decide_eq_true Hd.a_
   have q219 : x4_1 < (l0.length : Int):=of_decide_eq_true Hd.a_
   obtain ⟨ad219,e219,hx219_0,hx219_1⟩:=at_T75 HR0.out x4_1 p219 q219
   have hw219_1:=hx219_1
   have hw219_0:=hx219_0
   cases e219
   replace hx219_0:=(HB.out.cell (World.block_lt_of_cell? w _ hx219_0)).trans hx219_0
   replace hx219_1:=(HB.out.cell (World.block_lt_of_cell? w _ hx219_1)).trans hx219_1
   replace p219:=eq_true p219
   replace q219:=eq_true q219
   have p220 : 0 ≤ ((ji7) : Int):=of_decide_eq_true Hd.a_
   have q220 : (ji7) < (l0.length : Int):=of_decide_eq_true Hd.a_
   obtain ⟨ad220,e220,hx220_0,hx220_1⟩:=at_T75 HR0.out (ji7) p220 q220
   have hw220_1:=hx220_1
   have hw220_0:=hx220_0
   obtain rfl : ad219 = ad220:=(by injection e220)
   replace hx220_0:=(HB.out.cell (World.block_lt_of_cell? w _ hx220_0)).trans hx220_0
   replace hx220_1:=(HB.out.cell (World.block_lt_of_cell? w _ hx220_1)).trans hx220_1
   replace p220:=eq_true p220
   replace q220:=eq_true q220
   refine start_ (n:=17) (S:=fun w' => w'.cell? (ad219.add ((x4_1).toNat * 2)) = some (.int .i64 ((rd_T75 l0 x4_1).f0)) ∧ w'.cell? ⟨(ad219.add ((x4_1).toNat * 2)).block,(ad219.add ((x4_1).toNat * 2)).off + 1,none⟩ = some (.int .i64 ((rd_T75 l0 x4_1).f1)) ∧ w'.cell? (ad219.add (((ji7)).toNat * 2)) = some (.int .i64 ((rd_T75 l0 (ji7)).f0)) ∧ w'.cell? ⟨(ad219.add (((ji7)).toNat * 2)).block,(ad219.add (((ji7)).toNat * 2)).off + 1,none⟩ = some (.int .i64 ((rd_T75 l0 (ji7)).f1))) (ds:=[]) #[N_,N_,N_,N_,N_,N_,N_,N_,N_,N_,N_,N_,N_,N_,N_,N_,N_] (by kernel_rfl) rfl rfl ⟨((HB.out.cell (World.block_lt_of_cell? w _ hw219_0)).trans hw219_0),((HB.out.cell (World.block_lt_of_cell? w _ hw219_1)).trans hw219_1),((HB.out.cell (World.block_lt_of_cell? w _ hw220_0)).trans hw220_0),((HB.out.cell (World.block_lt_of_cell? w _ hw220_1)).trans hw220_1)⟩ (fun hHeld => ?_);refine with_tabW spec_l7Segments.tab5 spec_l7Segments.bits5 (fun HT_ HW_ => ?_)
   generalize wr.drew = w11 at HO_3 HB hx219_0 hx219_1 hx220_0 hx220_1 hHeld ⊢
   refine Hd.p_ HT_ 0 (some 12) #[Y_,N_,N_,N_,N_,N_,N_,N_,N_,N_,N_,N_,N_,N_,N_,N_,N_] ?_
   refine Hd.p_ HT_ 1 (some 13) #[Y_,Y_,N_,N_,N_,N_,N_,N_,N_,N_,N_,N_,N_,N_,N_,N_,N_] ?_
   refine Hd.p_ HT_ 2 (some 14) #[Y_,Y_,Y_,N_,N_,N_,N_,N_,N_,N_,N_,N_,N_,N_,N_,N_,N_] ?_
   refine Hd.p_ HT_ 3 (some 15) #[Y_,Y_,Y_,Y_,N_,N_,N_,N_,N_,N_,N_,N_,N_,N_,N_,N_,N_] ?_
   refine Hd.p_ HT_ 5 (some 17) #[Y_,Y_,Y_,Y_,N_,Y_,N_,N_,N_,N_,N_,N_,N_,N_,N_,N_,N_] ?_
   refine Hd.p_ HT_ 6 (some 18) #[Y_,Y_,Y_,Y_,N_,Y_,Y_,N_,N_,N_,N_,N_,N_,N_,N_,N_,N_] ?_
   refine Hd.p_ HT_ 7 (some 19) #[Y_,Y_,Y_,Y_,N_,Y_,Y_,Y_,N_,N_,N_,N_,N_,N_,N_,N_,N_] ?_
   refine Hd.p_ HT_ 8 (some 20) #[Y_,Y_,Y_,Y_,N_,Y_,Y_,Y_,Y_,N_,N_,N_,N_,N_,N_,N_,N_] ?_
   refine Hd.p_ HT_ 9 (some 21) #[Y_,Y_,Y_,Y_,N_,Y_,Y_,Y_,Y_,Y_,N_,N_,N_,N_,N_,N_,N_] ?_
   refine Hd.p_ HT_ 10 (some 22) #[Y_,Y_,Y_,Y_,N_,Y_,Y_,Y_,Y_,Y_,Y_,N_,N_,N_,N_,N_,N_] ?_
   refine Hd.p_ HT_ 11 (some 23) #[Y_,Y_,Y_,Y_,N_,Y_,Y_,Y_,Y_,Y_,Y_,Y_,N_,N_,N_,N_,N_] ?_
   refine Hd.t_ HT_ HW_ hHeld 4 (some 16) #[Y_,Y_,Y_,Y_,Y_,Y_,Y_,Y_,Y_,Y_,Y_,Y_,N_,N_,N_,N_,N_] ?_
   refine Hd.t_ HT_ HW_ hHeld 12 (some 24) #[Y_,Y_,Y_,Y_,Y_,Y_,Y_,Y_,Y_,Y_,Y_,Y_,Y_,N_,N_,N_,N_] ?_
   refine Hd.p_ HT_ 13 (some 25) #[Y_,Y_,Y_,Y_,Y_,Y_,Y_,Y_,Y_,Y_,Y_,Y_,Y_,Y_,N_,N_,N_] ?_
   refine Hd.o_ HT_ 14 (some 26) #[Y_,Y_,Y_,Y_,Y_,Y_,Y_,Y_,Y_,Y_,Y_,Y_,Y_,Y_,Y_,N_,N_] (fun K hK => ?_)
   refine value_ (w1:=?_) (v:=?_) (by rfl) rfl ?_ ?_
   rotate_left 2
   ·
    go_simp
    constructor
    ·
     rfl
    ·
     rfl
   refine hK.out _ _ ⟨(World.cell?_alloc_lt _ _ _ (World.block_lt_of_cell? _ _ (((HB.out.cell (World.block_lt_of_cell? w _ hw219_0)).trans hw219_0)))).trans (((HB.out.cell (World.block_lt_of_cell? w _ hw219_0)).trans hw219_0)),(World.cell?_alloc_lt _ _ _ (World.block_lt_of_cell? _ _ (((HB.out.cell (World.block_lt_of_cell? w _ hw219_1)).trans hw219_1)))).trans (((HB.out.cell (World.block_lt_of_cell? w _ hw219_1)).trans hw219_1)),(World.cell?_alloc_lt _ _ _ (World.block_lt_of_cell? _ _ (((HB.out.cell (World.block_lt_of_cell? w _ hw220_0)).trans hw220_0)))).trans (((HB.out.cell (World.block_lt_of_cell? w _ hw220_0)).trans hw220_0)),(World.cell?_alloc_lt _ _ _ (World.block_lt_of_cell? _ _ (((HB.out.cell (World.block_lt_of_cell? w _ hw220_1)).trans hw220_1)))).trans (((HB.out.cell (World.block_lt_of_cell? w _ hw220_1)).trans hw220_1))⟩ (fun hHeld => ?_)
   clear hK K
   refine Hd.n_ (some 26) ?_
   refine Hd.o_ HT_ 15 (some 27) #[Y_,Y_,Y_,Y_,Y_,Y_,Y_,Y_,Y_,Y_,Y_,Y_,Y_,Y_,Y_,Y_,N_] (fun K hK => ?_)
   refine Kd.R_append_step k101 (w0:=w) w.heap.size (by rfl) (.tmp 12) (.tmp 26) 79 101 (.agg #[(.int .i64 0),(.int .i64 0),(.int .i64 0),(.int .i64 0)]) 32 rfl Try.underlying79 info101 rfl (by decide) (by omega) u3 x3_1 (⟨(⟨(rd_T75 l0 x4_1).f0,(rd_T75 l0 x4_1).f1⟩ : S75),(⟨(rd_T75 l0 (ji7)).f0,(rd_T75 l0 (ji7)).f1⟩ : S75)⟩ : S101) [.int .i64 ((rd_T75 l0 x4_1).f0),.int .i64 ((rd_T75 l0 x4_1).f1),.int .i64 ((rd_T75 l0 (ji7)).f0),.int .i64 ((rd_T75 l0 (ji7)).f1)] (fun _ => True) (fun _ => False) rfl rfl ?aP (fun _ hk => hk.elim) ?aF ?aO ?aB ?aS ?aL ?_
   (case aP => exact k101_mkM _ _ _ (⟨(⟨(rd_T75 l0 x4_1).f0,(rd_T75 l0 x4_1).f1⟩ : S75),(⟨(rd_T75 l0 (ji7)).f0,(rd_T75 l0 (ji7)).f1⟩ : S75)⟩ : S101))
   (case aB => exact Hd.b_)
   (case aF => exact (fun _ _ => trivial))
   (case aO => exact (Hd.r_ HO_3))
   (case aS => exact (below_size Hd.b_))
   (case aL => have:=LMc10.out;omega)
   intro v222 w12 ho hb hg hat
   rw [← Ny221.out] at ho
   have n0_:=ak (hb)
   have n1_:=ak (ho)
   clear HB
   clear HO_3
   have HB:=n0_
   have HO223:=n1_
   clear n0_ n1_
   clear ho hb hg hat
   refine hK.out _ _ ⟨((HB.out.cell (World.block_lt_of_cell? w _ hw219_0)).trans hw219_0),((HB.out.cell (World.block_lt_of_cell? w _ hw219_1)).trans hw219_1),((HB.out.cell (World.block_lt_of_cell? w _ hw220_0)).trans hw220_0),((HB.out.cell (World.block_lt_of_cell? w _ hw220_1)).trans hw220_1)⟩ (fun hHeld => ?_)
   clear hK K
   refine Hd.n_ (some 27) ?_
   refine Hd.p_ HT_ 16 (some 3) #[Y_,Y_,Y_,Y_,Y_,Y_,Y_,Y_,Y_,Y_,Y_,Y_,Y_,Y_,Y_,Y_,Y_] ?_
   refine done_ (done_of HT_.out (by kernel_rfl)) ?_
   try go_wp2
   go_roundg k1
   case measure => have:=HK1.out;omega
   case rel => exact ⟨(y221),(wrap64 (x4_1 + 1)),z2_,H',⟨by have:=HK1.out;omega⟩,⟨z4_ HO223⟩,⟨Hd.b_⟩⟩
mutual
def spec_IsRing.l0 : Nat → List (S101) → Int → Option (Bool)
 | 0,_,_ => none
 | k + 1,x3,x4 => if x4 < (x3.length : Int) then (if 0 ≤ x4 then ((spec_IsSegment.f ((rd_T101 x3 x4).f0.f0) ((rd_T101 x3 x4).f0.f1) ((rd_T101 x3 x4).f1.f0) ((rd_T101 x3 x4).f1.f1)).bind fun t229 => (if t229 = true then (spec_IsRing.l1 k x3 x4 0) else (some false))) else (none)) else (some true)
def spec_IsRing.l1 : Nat → List (S101) → Int → Int → Option (Bool)
 | 0,_,_,_ => none
 | k + 1,x3,x4,x5 => if x5 < x4 then (if (wrap64 (x5 + 1)) = x4 then (spec_IsRing.j2 k x3 x4 x5 0 true) else (if x5 = 0 then (spec_IsRing.j2 k x3 x4 x5 0 ((wrap64 (x4 + 1)) == (x3.length : Int))) else (spec_IsRing.j2 k x3 x4 x5 0 false))) else (spec_IsRing.l0 k x3 (wrap64 (x4 + 1)))
def spec_IsRing.j2 : Nat → List (S101) → Int → Int → Int → Bool → Option (Bool)
 | 0,_,_,_,_,_ => none
 | k + 1,x3,x4,x5,x6,x44 => if x44 = true then (if 0 ≤ x4 then (if x4 < (x3.length : Int) then (if 0 ≤ x5 then (if x5 < (x3.length : Int) then ((spec_HowMeet.f k ((rd_T101 x3 x4).f0.f0) ((rd_T101 x3 x4).f0.f1) ((rd_T101 x3 x4).f1.f0) ((rd_T101 x3 x4).f1.f1) ((rd_T101 x3 x5).f0.f0) ((rd_T101 x3 x5).f0.f1) ((rd_T101 x3 x5).f1.f0) ((rd_T101 x3 x5).f1.f1)).bind fun t232 => (if t232 = 1 then (spec_IsRing.l1 k x3 x4 (wrap64 (x5 + 1))) else (some false))) else (none)) else (none)) else (none)) else (none)) else (if 0 ≤ x4 then (if x4 < (x3.length : Int) then (if 0 ≤ x5 then (if x5 < (x3.length : Int) then ((spec_HowMeet.f k ((rd_T101 x3 x4).f0.f0) ((rd_T101 x3 x4).f0.f1) ((rd_T101 x3 x4).f1.f0) ((rd_T101 x3 x4).f1.f1) ((rd_T101 x3 x5).f0.f0) ((rd_T101 x3 x5).f0.f1) ((rd_T101 x3 x5).f1.f0) ((rd_T101 x3 x5).f1.f1)).bind fun t235 => (if t235 = x6 then (spec_IsRing.l1 k x3 x4 (wrap64 (x5 + 1))) else (some false))) else (none)) else (none)) else (none)) else (none))
end
def spec_IsRing.f (k : Nat) (l0 : List (S75)) : Option (Bool):=(spec_l1In.f (l0.length : Int) 3 10).bind fun t224 => (if t224 = true then ((spec_l7Segments.f k l0).bind fun t225 => (spec_IsRing.l0 k t225 0)) else (some false))
theorem spec_IsRing.calls (k : Nat) (A0 : Option Addr) (c0 : Nat) (l0 : List (S75)) (r : Bool) (w : World) (hr0 : Kd.C k75 w A0 l0.length l0) (hc0 : l0.length ≤ c0) (h : spec_IsRing.f k l0 = some r) :
  Calls Try.prog 83 #[.slice A0 l0.length c0] w fun e w' => e = .returned (.bool r) ∧ Below w.heap.size w w':=by
 have hu101:=Try.underlying101
 have HR0:=ak hr0
 have HC0:=ak hc0
 clear hr0 hc0
 have HB:=ak (Below.refl w.heap.size w)
 have H:=h;clear h;unfold spec_IsRing.f at H
 replace H:=Hd.bd_ H;obtain ⟨t224,A2,H⟩:=H
 by_cases c3 : t224 = true;rotate_left
 ·
  replace c3:=Bool.eq_false_iff.mpr c3
  subst c3
  rw [if_neg (show ¬ (false = true) by decide)] at H
  obtain rfl:=Option.some.inj H
  go_enter Try.func83,Try.ntmps83
  go_wp2_with (first | ((with_reducible refine gate_callee (f:=79) rfl ?_);refine Hd.gl_ 9 Try.func79 #[.int .i64 (l0.length : Int),.int .i64 3,.int .i64 10] ?_;(with_reducible refine (spec_l1In.calls (l0.length : Int) 3 10 false _ A2.out).mono ?_);rintro e w' ⟨rfl,⟨nd,rfl⟩⟩;refine ⟨_,rfl,?_⟩))
  go_ret
  exact ⟨Hd.e_,Hd.b_⟩
 subst c3
 rw [if_pos rfl] at H
 replace H:=Hd.bd_ H;obtain ⟨t225,A4,H⟩:=H
 have H':=ak H
 clear H
 go_enter Try.func83,Try.ntmps83
 go_wp2_with (first | ((with_reducible refine gate_callee (f:=79) rfl ?_);refine Hd.gl_ 9 Try.func79 #[.int .i64 (l0.length : Int),.int .i64 3,.int .i64 10] ?_;(with_reducible refine (spec_l1In.calls (l0.length : Int) 3 10 true _ A2.out).mono ?_);rintro e w' ⟨rfl,⟨nd,rfl⟩⟩;refine ⟨_,rfl,?_⟩) | ((with_reducible refine gate_callee (f:=98) rfl ?_);refine Hd.gl_ 12 Try.func98 #[.slice A0 l0.length c0] ?_;(with_reducible refine (spec_l7Segments.calls k _ _ l0 t225 _ ?side1 ?side2 A4.out).mono ?_);(case side1 => exact z43_ HR0);(case side2 => exact HC0.out);rintro e w5 ⟨v226,rfl,ho0,hb⟩;refine ⟨_,rfl,?_⟩;have HO227:=z59_;replace HB:=ak (below_step Hd.b_ hb);clear hb ho0))
 go_loopg [4] k (fun kq v4 w' => ∃ (x4_1 : Int),v4 = .int .i64 x4_1 ∧ Aside0 (spec_IsRing.l0 kq t225 x4_1 = some r) ∧ Aside0 (kq ≤ k) ∧ Aside0 (Kd.R k101 101 w' w.heap.size (fun _ => True) v226 t225) ∧ Aside0 (Below w.heap.size w w'))
 case atStart => exact ⟨(0),z2_,H',⟨Nat.le_refl _⟩,⟨z4_ HO227⟩,⟨Hd.b_⟩⟩
 case round =>
  clear H'
  try clear p2;try clear c3
  obtain ⟨x4_1,rfl,HA,HK1,HO_3,HB⟩:=hrel
  cases gk with
  | zero => exact absurd HA.out (by simp [spec_IsRing.l0])
  | succ k1 =>
   have H:=HA.out
   clear HA
   simp only [spec_IsRing.l0] at H
   by_cases c6 : x4_1 < (t225.length : Int);rotate_left
   ·
    rw [if_neg c6] at H
    have c6b0:=decide_eq_false c6
    clear c6
    obtain rfl:=Option.some.inj H
    obtain ⟨Ao39,co39,eo39⟩:=Kd.R_slice HO_3.out
    subst eo39
    go_wp2
    go_ret
    exact ⟨Hd.e_,Hd.b_⟩
   rw [if_pos c6] at H
   have c6b0:=decide_eq_true c6
   clear c6
   by_cases c7 : 0 ≤ x4_1;rotate_left
   ·
    rw [if_neg c7] at H
    exact absurd H (by simp)
   rw [if_pos c7] at H
   have c7b0:=decide_eq_true c7
   clear c7
   replace H:=Hd.bd_ H;obtain ⟨t229,A8,H⟩:=H
   by_cases c9 : t229 = true;rotate_left
   ·
    replace c9:=Bool.eq_false_iff.mpr c9
    subst c9
    rw [if_neg (show ¬ (false = true) by decide)] at H
    obtain rfl:=Option.some.inj H
    obtain ⟨Ao37,co37,eo37⟩:=Kd.R_slice HO_3.out
    subst eo37
    have p228 : 0 ≤ (x4_1 : Int):=of_decide_eq_true Hd.a_
    have q228 : x4_1 < (t225.length : Int):=of_decide_eq_true Hd.a_
    obtain ⟨ad228,e228,hx228_0,hx228_1,hx228_2,hx228_3⟩:=at_T101 (Kd.R_reads' HO_3.out).2.2 x4_1 p228 q228
    cases e228
    replace p228:=eq_true p228
    replace q228:=eq_true q228
    go_wp2_with (first | ((with_reducible refine gate_callee (f:=99) rfl ?_);refine Hd.gl_ 23 Try.func99 #[.agg #[.int .i64 ((rd_T101 t225 x4_1).f0.f0),.int .i64 ((rd_T101 t225 x4_1).f0.f1),.int .i64 ((rd_T101 t225 x4_1).f1.f0),.int .i64 ((rd_T101 t225 x4_1).f1.f1)]] ?_;(with_reducible refine (spec_IsSegment.calls ((rd_T101 t225 x4_1).f0.f0) ((rd_T101 t225 x4_1).f0.f1) ((rd_T101 t225 x4_1).f1.f0) ((rd_T101 t225 x4_1).f1.f1) false _ A8.out).mono ?_);rintro e w38 ⟨rfl,hb⟩;refine ⟨_,rfl,?_⟩;replace HO_3:=z71_;replace HB:=ak (below_step Hd.b_ hb);clear hb))
    go_ret
    exact ⟨Hd.e_,Hd.b_⟩
   subst c9
   rw [if_pos rfl] at H
   have H':=ak H
   clear H
   obtain ⟨Ao10,co10,eo10⟩:=Kd.R_slice HO_3.out
   subst eo10
   have p228 : 0 ≤ (x4_1 : Int):=of_decide_eq_true Hd.a_
   have q228 : x4_1 < (t225.length : Int):=of_decide_eq_true Hd.a_
   obtain ⟨ad228,e228,hx228_0,hx228_1,hx228_2,hx228_3⟩:=at_T101 (Kd.R_reads' HO_3.out).2.2 x4_1 p228 q228
   cases e228
   replace p228:=eq_true p228
   replace q228:=eq_true q228
   go_wp2_with (first | ((with_reducible refine gate_callee (f:=99) rfl ?_);refine Hd.gl_ 23 Try.func99 #[.agg #[.int .i64 ((rd_T101 t225 x4_1).f0.f0),.int .i64 ((rd_T101 t225 x4_1).f0.f1),.int .i64 ((rd_T101 t225 x4_1).f1.f0),.int .i64 ((rd_T101 t225 x4_1).f1.f1)]] ?_;(with_reducible refine (spec_IsSegment.calls ((rd_T101 t225 x4_1).f0.f0) ((rd_T101 t225 x4_1).f0.f1) ((rd_T101 t225 x4_1).f1.f0) ((rd_T101 t225 x4_1).f1.f1) true _ A8.out).mono ?_);rintro e w11 ⟨rfl,hb⟩;refine ⟨_,rfl,?_⟩;replace HO_3:=z71_;replace HB:=ak (below_step Hd.b_ hb);clear hb))
   go_loopg [5] k1 (fun kq v5 w' => ∃ (x5_2 : Int),v5 = .int .i64 x5_2 ∧ Aside0 (spec_IsRing.l1 kq t225 x4_1 x5_2 = some r) ∧ Aside0 (kq ≤ k1) ∧ Aside0 (Kd.R k101 101 w' w.heap.size (fun _ => True) (.slice (some ad228) t225.length co10) t225) ∧ Aside0 (Below w.heap.size w w'))
   case atStart => exact ⟨(0),z2_,H',⟨Nat.le_refl _⟩,⟨z4_ HO_3⟩,⟨Hd.b_⟩⟩
   case round =>
    clear H'
    try clear p2;try clear q2;try clear hx2;try clear c3;try clear c6;try clear c6b0;try clear c7;try clear c7b0;try clear c8;try clear c9;try clear hx228_0;try clear hx228_1;try clear hx228_2;try clear hx228_3;try clear p2;try clear p228;try clear q228
    obtain ⟨x5_2,rfl,HA,HK2,HO_3,HB⟩:=hrel
    cases gk with
    | zero => exact absurd HA.out (by simp [spec_IsRing.l1])
    | succ k2 =>
     have H:=HA.out
     clear HA
     simp only [spec_IsRing.l1] at H
     by_cases c12 : x5_2 < x4_1;rotate_left
     ·
      rw [if_neg c12] at H
      have c12b0:=decide_eq_false c12
      clear c12
      have H':=ak H
      clear H
      go_wp2
      go_roundg k2
      case measure => have:=HK1.out;have:=HK2.out;omega
      case rel => exact ⟨(wrap64 (x4_1 + 1)),z2_,H',⟨by have:=HK1.out;have:=HK2.out;omega⟩,⟨z4_ HO_3⟩,⟨Hd.b_⟩⟩
     rw [if_pos c12] at H
     have c12b0:=decide_eq_true c12
     clear c12
     have HC13:=ak H
     clear H
     go_upto_region 13 with (fail)
     go_cut [44] (fun v44 wc => ∃ (kq : Nat) (x44_12 : Bool),v44 = .bool x44_12 ∧ Aside0 (spec_IsRing.j2 kq t225 x4_1 x5_2 0 x44_12 = some r) ∧ Aside0 (kq ≤ k2) ∧ Aside0 (Kd.R k101 101 wc w.heap.size (fun _ => True) (.slice (some ad228) t225.length co10) t225) ∧ Aside0 (Below w.heap.size w wc))
     case first =>
      have H:=HC13.out
      clear HC13
      by_cases c14 : (wrap64 (x5_2 + 1)) = x4_1
      ·
       rw [if_pos c14] at H
       have c14b0:=beq_iff_eq.mpr c14
       have c14b1:=bne_eq_false_iff_eq.mpr c14
       clear c14
       (first | rw [c14b0] | (simp only [i64_w,i32_w];rw [c14b0]) | skip)
       have H':=ak H
       clear H
       go_wp2
       go_meet
       case rel => exact ⟨_,(true),z2_,H',⟨by have:=HK1.out;have:=HK2.out;first | omega | exact Nat.le_refl _⟩,⟨z4_ HO_3⟩,⟨Hd.b_⟩⟩
      rw [if_neg c14] at H
      have c14b0:=beq_eq_false_iff_ne.mpr c14
      have c14b1:=bne_iff_ne.mpr c14
      (first | rw [c14b0] | (simp only [i64_w,i32_w];rw [c14b0]) | skip)
      by_cases c15 : x5_2 = 0;rotate_left
      ·
       rw [if_neg c15] at H
       have c15b0:=beq_eq_false_iff_ne.mpr c15
       have c15b1:=bne_iff_ne.mpr c15
       have H':=ak H
       clear H
       go_wp2
       go_meet
       case rel => exact ⟨_,(false),z2_,H',⟨by have:=HK1.out;have:=HK2.out;first | omega | exact Nat.le_refl _⟩,⟨z4_ HO_3⟩,⟨Hd.b_⟩⟩
      rw [if_pos c15] at H
      have c15b0:=beq_iff_eq.mpr c15
      have c15b1:=bne_eq_false_iff_eq.mpr c15
      clear c15
      have H':=ak H
      clear H
      go_wp2
      go_meet
      case rel => exact ⟨_,(((wrap64 (x4_1 + 1)) == (t225.length : Int))),z2_,H',⟨by have:=HK1.out;have:=HK2.out;first | omega | exact Nat.le_refl _⟩,⟨z4_ HO_3⟩,⟨Hd.b_⟩⟩
     case rest =>
      clear HC13
      try clear c1;try clear p2;try clear q2;try clear hx2;try clear c3;try clear c6;try clear c6b0;try clear p6;try clear c7;try clear c7b0;try clear c8;try clear c9;try clear c12;try clear c12b0;try clear c14;try clear c14b0;try clear c14b1;try clear c15;try clear c15b0;try clear c15b1;try clear hx228_0;try clear hx228_1;try clear hx228_2;try clear hx228_3;try clear p2;try clear p228;try clear q2;try clear q228
      obtain ⟨kq,x44_12,rfl,HA,HJ12,HO_3,HB⟩:=hcut
      cases kq with
      | zero => exact absurd HA.out (by simp [spec_IsRing.j2])
      | succ kj12 =>
       have H:=HA.out
       clear HA
       simp only [spec_IsRing.j2] at H
       by_cases c16 : x44_12 = true
       ·
        subst c16
        rw [if_pos rfl] at H
        by_cases c17 : 0 ≤ x4_1;rotate_left
        ·
         rw [if_neg c17] at H
         exact absurd H (by simp)
        rw [if_pos c17] at H
        have c17b0:=decide_eq_true c17
        clear c17
        by_cases c18 : x4_1 < (t225.length : Int);rotate_left
        ·
         rw [if_neg c18] at H
         exact absurd H (by simp)
        rw [if_pos c18] at H
        have c18b0:=decide_eq_true c18
        clear c18
        by_cases c19 : 0 ≤ x5_2;rotate_left
        ·
         rw [if_neg c19] at H
         exact absurd H (by simp)
        rw [if_pos c19] at H
        have c19b0:=decide_eq_true c19
        clear c19
        by_cases c20 : x5_2 < (t225.length : Int);rotate_left
        ·
         rw [if_neg c20] at H
         exact absurd H (by simp)
        rw [if_pos c20] at H
        have c20b0:=decide_eq_true c20
        clear c20
        replace H:=Hd.bd_ H;obtain ⟨t232,A21,H⟩:=H
        by_cases c22 : t232 = 1;rotate_left
        ·
         rw [if_neg c22] at H
         have c22b0:=beq_eq_false_iff_ne.mpr c22
         have c22b1:=bne_iff_ne.mpr c22
         obtain rfl:=Option.some.inj H
         try go_wp2
         replace HO_3:=ak (Kd.R_drew HO_3.out)
         replace HB:=ak (below_drew1 HB.out)
         have p230 : 0 ≤ (x4_1 : Int):=of_decide_eq_true Hd.a_
         have q230 : x4_1 < (t225.length : Int):=of_decide_eq_true Hd.a_
         obtain ⟨ad230,e230,hx230_0,hx230_1,hx230_2,hx230_3⟩:=at_T101 (Kd.R_reads' HO_3.out).2.2 x4_1 p230 q230
         obtain rfl : ad228 = ad230:=(by injection e230)
         replace p230:=eq_true p230
         replace q230:=eq_true q230
         have p231 : 0 ≤ (x5_2 : Int):=of_decide_eq_true Hd.a_
         have q231 : x5_2 < (t225.length : Int):=of_decide_eq_true Hd.a_
         obtain ⟨ad231,e231,hx231_0,hx231_1,hx231_2,hx231_3⟩:=at_T101 (Kd.R_reads' HO_3.out).2.2 x5_2 p231 q231
         obtain rfl : ad228 = ad231:=(by injection e231)
         replace p231:=eq_true p231
         replace q231:=eq_true q231
         have s0_:=Hd.HW.x (W0:=wc.drew) hx230_0
         have s1_:=Hd.HW.x (W0:=wc.drew) hx230_1
         have s2_:=Hd.HW.x (W0:=wc.drew) hx230_2
         have s3_:=Hd.HW.x (W0:=wc.drew) hx230_3
         have s4_:=Hd.HW.x (W0:=wc.drew) hx231_0
         have s5_:=Hd.HW.x (W0:=wc.drew) hx231_1
         have s6_:=Hd.HW.x (W0:=wc.drew) hx231_2
         have s7_:=Hd.HW.x (W0:=wc.drew) hx231_3
         refine Hd.HW.region (by kernel_rfl) (by kernel_rfl) ?_
         repeat (go_big_quiet_step ((first | (go_at_call 96;with_reducible exact Hd.HW.c (spec_HowMeet.calls kj12 ((rd_T101 t225 x4_1).f0.f0) ((rd_T101 t225 x4_1).f0.f1) ((rd_T101 t225 x4_1).f1.f0) ((rd_T101 t225 x4_1).f1.f1) ((rd_T101 t225 x5_2).f0.f0) ((rd_T101 t225 x5_2).f0.f1) ((rd_T101 t225 x5_2).f1.f0) ((rd_T101 t225 x5_2).f1.f1) t232 _ A21.out)))))
         refine wpQuiet_nil ?_
         intro _ hq_
         obtain ⟨q_,rfl⟩:=hq_
         clear s0_ s1_ s2_ s3_ s4_ s5_ s6_ s7_
         replace HO_3:=ak (Kd.R_below HO_3.out q_.b)
         replace HB:=ak (below_step HB.out q_.b)
         replace hx230_0:=q_.cell hx230_0
         replace hx230_1:=q_.cell hx230_1
         replace hx230_2:=q_.cell hx230_2
         replace hx230_3:=q_.cell hx230_3
         replace hx231_0:=q_.cell hx231_0
         replace hx231_1:=q_.cell hx231_1
         replace hx231_2:=q_.cell hx231_2
         replace hx231_3:=q_.cell hx231_3
         generalize q_.W = w26 at HO_3 HB hx230_0 hx230_1 hx230_2 hx230_3 hx231_0 hx231_1 hx231_2 hx231_3 ⊢
         try simp only [i64_w,i32_w]
         try go_wp2
         go_ret
         exact ⟨Hd.e_,Hd.b_⟩
        rw [if_pos c22] at H
        have c22b0:=beq_iff_eq.mpr c22
        have c22b1:=bne_eq_false_iff_eq.mpr c22
        clear c22
        have H':=ak H
        clear H
        try go_wp2
        replace HO_3:=ak (Kd.R_drew HO_3.out)
        replace HB:=ak (below_drew1 HB.out)
        have p230 : 0 ≤ (x4_1 : Int):=of_decide_eq_true Hd.a_
        have q230 : x4_1 < (t225.length : Int):=of_decide_eq_true Hd.a_
        obtain ⟨ad230,e230,hx230_0,hx230_1,hx230_2,hx230_3⟩:=at_T101 (Kd.R_reads' HO_3.out).2.2 x4_1 p230 q230
        obtain rfl : ad228 = ad230:=(by injection e230)
        replace p230:=eq_true p230
        replace q230:=eq_true q230
        have p231 : 0 ≤ (x5_2 : Int):=of_decide_eq_true Hd.a_
        have q231 : x5_2 < (t225.length : Int):=of_decide_eq_true Hd.a_
        obtain ⟨ad231,e231,hx231_0,hx231_1,hx231_2,hx231_3⟩:=at_T101 (Kd.R_reads' HO_3.out).2.2 x5_2 p231 q231
        obtain rfl : ad228 = ad231:=(by injection e231)
        replace p231:=eq_true p231
        replace q231:=eq_true q231
        have s0_:=Hd.HW.x (W0:=wc.drew) hx230_0
        have s1_:=Hd.HW.x (W0:=wc.drew) hx230_1
        have s2_:=Hd.HW.x (W0:=wc.drew) hx230_2
        have s3_:=Hd.HW.x (W0:=wc.drew) hx230_3
        have s4_:=Hd.HW.x (W0:=wc.drew) hx231_0
        have s5_:=Hd.HW.x (W0:=wc.drew) hx231_1
        have s6_:=Hd.HW.x (W0:=wc.drew) hx231_2
        have s7_:=Hd.HW.x (W0:=wc.drew) hx231_3
        refine Hd.HW.region (by kernel_rfl) (by kernel_rfl) ?_
        repeat (go_big_quiet_step ((first | (go_at_call 96;with_reducible exact Hd.HW.c (spec_HowMeet.calls kj12 ((rd_T101 t225 x4_1).f0.f0) ((rd_T101 t225 x4_1).f0.f1) ((rd_T101 t225 x4_1).f1.f0) ((rd_T101 t225 x4_1).f1.f1) ((rd_T101 t225 x5_2).f0.f0) ((rd_T101 t225 x5_2).f0.f1) ((rd_T101 t225 x5_2).f1.f0) ((rd_T101 t225 x5_2).f1.f1) t232 _ A21.out)))))
        refine wpQuiet_nil ?_
        intro _ hq_
        obtain ⟨q_,rfl⟩:=hq_
        clear s0_ s1_ s2_ s3_ s4_ s5_ s6_ s7_
        replace HO_3:=ak (Kd.R_below HO_3.out q_.b)
        replace HB:=ak (below_step HB.out q_.b)
        replace hx230_0:=q_.cell hx230_0
        replace hx230_1:=q_.cell hx230_1
        replace hx230_2:=q_.cell hx230_2
        replace hx230_3:=q_.cell hx230_3
        replace hx231_0:=q_.cell hx231_0
        replace hx231_1:=q_.cell hx231_1
        replace hx231_2:=q_.cell hx231_2
        replace hx231_3:=q_.cell hx231_3
        generalize q_.W = w24 at HO_3 HB hx230_0 hx230_1 hx230_2 hx230_3 hx231_0 hx231_1 hx231_2 hx231_3 ⊢
        try simp only [i64_w,i32_w]
        try go_wp2
        go_roundg kj12
        case measure => have:=HK1.out;have:=HK2.out;have:=HJ12.out;omega
        case rel => exact ⟨(wrap64 (x5_2 + 1)),z2_,H',⟨by have:=HK1.out;have:=HK2.out;have:=HJ12.out;omega⟩,⟨z4_ HO_3⟩,⟨Hd.b_⟩⟩
       replace c16:=Bool.eq_false_iff.mpr c16
       subst c16
       rw [if_neg (show ¬ (false = true) by decide)] at H
       by_cases c27 : 0 ≤ x4_1;rotate_left
       ·
        rw [if_neg c27] at H
        exact absurd H (by simp)
       rw [if_pos c27] at H
       have c27b0:=decide_eq_true c27
       clear c27
       by_cases c28 : x4_1 < (t225.length : Int);rotate_left
       ·
        rw [if_neg c28] at H
        exact absurd H (by simp)
       rw [if_pos c28] at H
       have c28b0:=decide_eq_true c28
       clear c28
       by_cases c29 : 0 ≤ x5_2;rotate_left
       ·
        rw [if_neg c29] at H
        exact absurd H (by simp)
       rw [if_pos c29] at H
       have c29b0:=decide_eq_true c29
       clear c29
       by_cases c30 : x5_2 < (t225.length : Int);rotate_left
       ·
        rw [if_neg c30] at H
        exact absurd H (by simp)
       rw [if_pos c30] at H
       have c30b0:=decide_eq_true c30
       clear c30
       replace H:=Hd.bd_ H;obtain ⟨t235,A31,H⟩:=H
       by_cases c32 : t235 = 0;rotate_left
       ·
        rw [if_neg c32] at H
        have c32b0:=beq_eq_false_iff_ne.mpr c32
        have c32b1:=bne_iff_ne.mpr c32
        obtain rfl:=Option.some.inj H
        try go_wp2
        replace HO_3:=ak (Kd.R_drew HO_3.out)
        replace HB:=ak (below_drew1 HB.out)
        have p233 : 0 ≤ (x4_1 : Int):=of_decide_eq_true Hd.a_
        have q233 : x4_1 < (t225.length : Int):=of_decide_eq_true Hd.a_
        obtain ⟨ad233,e233,hx233_0,hx233_1,hx233_2,hx233_3⟩:=at_T101 (Kd.R_reads' HO_3.out).2.2 x4_1 p233 q233
        obtain rfl : ad228 = ad233:=(by injection e233)
        replace p233:=eq_true p233
        replace q233:=eq_true q233
        have p234 : 0 ≤ (x5_2 : Int):=of_decide_eq_true Hd.a_
        have q234 : x5_2 < (t225.length : Int):=of_decide_eq_true Hd.a_
        obtain ⟨ad234,e234,hx234_0,hx234_1,hx234_2,hx234_3⟩:=at_T101 (Kd.R_reads' HO_3.out).2.2 x5_2 p234 q234
        obtain rfl : ad228 = ad234:=(by injection e234)
        replace p234:=eq_true p234
        replace q234:=eq_true q234
        have s0_:=Hd.HW.x (W0:=wc.drew) hx233_0
        have s1_:=Hd.HW.x (W0:=wc.drew) hx233_1
        have s2_:=Hd.HW.x (W0:=wc.drew) hx233_2
        have s3_:=Hd.HW.x (W0:=wc.drew) hx233_3
        have s4_:=Hd.HW.x (W0:=wc.drew) hx234_0
        have s5_:=Hd.HW.x (W0:=wc.drew) hx234_1
        have s6_:=Hd.HW.x (W0:=wc.drew) hx234_2
        have s7_:=Hd.HW.x (W0:=wc.drew) hx234_3
        refine Hd.HW.region (by kernel_rfl) (by kernel_rfl) ?_
        repeat (go_big_quiet_step ((first | (go_at_call 96;with_reducible exact Hd.HW.c (spec_HowMeet.calls kj12 ((rd_T101 t225 x4_1).f0.f0) ((rd_T101 t225 x4_1).f0.f1) ((rd_T101 t225 x4_1).f1.f0) ((rd_T101 t225 x4_1).f1.f1) ((rd_T101 t225 x5_2).f0.f0) ((rd_T101 t225 x5_2).f0.f1) ((rd_T101 t225 x5_2).f1.f0) ((rd_T101 t225 x5_2).f1.f1) t235 _ A31.out)))))
        refine wpQuiet_nil ?_
        intro _ hq_
        obtain ⟨q_,rfl⟩:=hq_
        clear s0_ s1_ s2_ s3_ s4_ s5_ s6_ s7_
        replace HO_3:=ak (Kd.R_below HO_3.out q_.b)
        replace HB:=ak (below_step HB.out q_.b)
        replace hx233_0:=q_.cell hx233_0
        replace hx233_1:=q_.cell hx233_1
        replace hx233_2:=q_.cell hx233_2
        replace hx233_3:=q_.cell hx233_3
        replace hx234_0:=q_.cell hx234_0
        replace hx234_1:=q_.cell hx234_1
        replace hx234_2:=q_.cell hx234_2
        replace hx234_3:=q_.cell hx234_3
        generalize q_.W = w36 at HO_3 HB hx233_0 hx233_1 hx233_2 hx233_3 hx234_0 hx234_1 hx234_2 hx234_3 ⊢
        try simp only [i64_w,i32_w]
        try go_wp2
        go_ret
        exact ⟨Hd.e_,Hd.b_⟩
       rw [if_pos c32] at H
       have c32b0:=beq_iff_eq.mpr c32
       have c32b1:=bne_eq_false_iff_eq.mpr c32
       clear c32
       have H':=ak H
       clear H
       try go_wp2
       replace HO_3:=ak (Kd.R_drew HO_3.out)
       replace HB:=ak (below_drew1 HB.out)
       have p233 : 0 ≤ (x4_1 : Int):=of_decide_eq_true Hd.a_
       have q233 : x4_1 < (t225.length : Int):=of_decide_eq_true Hd.a_
       obtain ⟨ad233,e233,hx233_0,hx233_1,hx233_2,hx233_3⟩:=at_T101 (Kd.R_reads' HO_3.out).2.2 x4_1 p233 q233
       obtain rfl : ad228 = ad233:=(by injection e233)
       replace p233:=eq_true p233
       replace q233:=eq_true q233
       have p234 : 0 ≤ (x5_2 : Int):=of_decide_eq_true Hd.a_
       have q234 : x5_2 < (t225.length : Int):=of_decide_eq_true Hd.a_
       obtain ⟨ad234,e234,hx234_0,hx234_1,hx234_2,hx234_3⟩:=at_T101 (Kd.R_reads' HO_3.out).2.2 x5_2 p234 q234
       obtain rfl : ad228 = ad234:=(by injection e234)
       replace p234:=eq_true p234
       replace q234:=eq_true q234
       have s0_:=Hd.HW.x (W0:=wc.drew) hx233_0
       have s1_:=Hd.HW.x (W0:=wc.drew) hx233_1
       have s2_:=Hd.HW.x (W0:=wc.drew) hx233_2
       have s3_:=Hd.HW.x (W0:=wc.drew) hx233_3
       have s4_:=Hd.HW.x (W0:=wc.drew) hx234_0
       have s5_:=Hd.HW.x (W0:=wc.drew) hx234_1
       have s6_:=Hd.HW.x (W0:=wc.drew) hx234_2
       have s7_:=Hd.HW.x (W0:=wc.drew) hx234_3
       refine Hd.HW.region (by kernel_rfl) (by kernel_rfl) ?_
       repeat (go_big_quiet_step ((first | (go_at_call 96;with_reducible exact Hd.HW.c (spec_HowMeet.calls kj12 ((rd_T101 t225 x4_1).f0.f0) ((rd_T101 t225 x4_1).f0.f1) ((rd_T101 t225 x4_1).f1.f0) ((rd_T101 t225 x4_1).f1.f1) ((rd_T101 t225 x5_2).f0.f0) ((rd_T101 t225 x5_2).f0.f1) ((rd_T101 t225 x5_2).f1.f0) ((rd_T101 t225 x5_2).f1.f1) t235 _ A31.out)))))
       refine wpQuiet_nil ?_
       intro _ hq_
       obtain ⟨q_,rfl⟩:=hq_
       clear s0_ s1_ s2_ s3_ s4_ s5_ s6_ s7_
       replace HO_3:=ak (Kd.R_below HO_3.out q_.b)
       replace HB:=ak (below_step HB.out q_.b)
       replace hx233_0:=q_.cell hx233_0
       replace hx233_1:=q_.cell hx233_1
       replace hx233_2:=q_.cell hx233_2
       replace hx233_3:=q_.cell hx233_3
       replace hx234_0:=q_.cell hx234_0
       replace hx234_1:=q_.cell hx234_1
       replace hx234_2:=q_.cell hx234_2
       replace hx234_3:=q_.cell hx234_3
       generalize q_.W = w34 at HO_3 HB hx233_0 hx233_1 hx233_2 hx233_3 hx234_0 hx234_1 hx234_2 hx234_3 ⊢
       try simp only [i64_w,i32_w]
       try go_wp2
       go_roundg kj12
       case measure => have:=HK1.out;have:=HK2.out;have:=HJ12.out;omega
       case rel => exact ⟨(wrap64 (x5_2 + 1)),z2_,H',⟨by have:=HK1.out;have:=HK2.out;have:=HJ12.out;omega⟩,⟨z4_ HO_3⟩,⟨Hd.b_⟩⟩
end Go.Proofs.Ytbbdhlggnglfgaa.MFnExactPutFeature
