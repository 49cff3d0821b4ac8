-- Laid by this session's program pp.py, after the kit's print and texts of the session's own. Not trusted: Lean checks it.
import Derived.Test.YtbbdhlggnglfgaaZFnFeaturesMx0
import Derived.Test.YtbbdhlggnglfgaaZFnFeaturesMx11
import Derived.Test.YtbbdhlggnglfgaaZFnFeaturesMx12
import Derived.Test.YtbbdhlggnglfgaaZFnFeaturesMx14
namespace Go.Proofs.Ytbbdhlggnglfgaa.MFnFeatures
open Go.RowKit Go.Proofs.YtbbdhlggnglfgaaW.PrintWords Go.Proofs.YtbbdhlggnglfgaaW.PrintLast Go.Proofs.YtbbdhlggnglfgaaW.PrintMore
attribute [local go_sem] max2_int min2_int max_two min_two max_three min_three max_four min_four
set_option linter.unusedVariables false
set_option maxHeartbeats 8000000
set_option maxRecDepth 100000
set_option linter.unusedSimpArgs false
def spec_l7Segments.l0:Nat→List (S75)→List (S101)→Int→Option ((List (S101)))
 | 0,_,_,_=>none
 | k+1,x0,x3,x4=>if x4<(x0.length:Int) then (if 0≤x4 then (if (x0.length:Int)=0 then (none) else (if 0≤(Int.tmod (wrap64 (x4+1)) (x0.length:Int)) then (if (Int.tmod (wrap64 (x4+1)) (x0.length:Int))<(x0.length:Int) then (if x3.length<4398046511104 then (spec_l7Segments.l0 k x0 (x3++[(⟨(⟨(rd_T75 x0 x4).f0,(rd_T75 x0 x4).f1⟩:S75),(⟨(rd_T75 x0 (Int.tmod (wrap64 (x4+1)) (x0.length:Int))).f0,(rd_T75 x0 (Int.tmod (wrap64 (x4+1)) (x0.length:Int))).f1⟩:S75)⟩:S101)]) (wrap64 (x4+1))) else (none)) else (none)) else (none))) else (none)) else (some x3)
def spec_l7Segments.f (k:Nat) (l0:List (S75)):Option ((List (S101))):=spec_l7Segments.l0 k l0 (([]:List (S101))) 0
def spec_l7Segments.T5:Bool × List (List Nat × List Nat):=(true,[([],[]),([],[]),([],[]),([1,2],[1,2]),([3],[3]),([],[]),([],[]),([6],[6]),([],[]),([8],[8]),([7,9],[7,9]),([5,10],[5,10]),([11],[11]),([4,12],[4,12]),([13],[13]),([0,14],[0,14]),([15,15,0,1,2,3,4,5,6,7,8,9,10,11,12,13,14,15],[0,15])])
def spec_l7Segments.B5:List Nat:=[0,0,0,6,14,0,0,64,0,256,960,2016,4064,8190,16382,32767,65535]
theorem spec_l7Segments.tab5:rtab .any (opsOf Try.f98 5)=spec_l7Segments.T5:=by kernel_rfl
theorem spec_l7Segments.bits5:waitsOk spec_l7Segments.T5.2 spec_l7Segments.B5=true:=by kernel_rfl
theorem spec_l7Segments.calls (k:Nat) (A0:Option Addr) (c0:Nat) (l0:List (S75)) (r:List (S101)) (w:World) (hr0:Kd.C k75 w A0 l0.length l0) (hc0:l0.length≤c0) (h:spec_l7Segments.f k l0=some r) :
  Calls Try.prog 98 #[.slice A0 l0.length c0] w fun e w'=>∃ v0_:Value,e = .returned (v0_)∧Kd.R k101 101 w' w.heap.size (fun _=>True) v0_ r∧Below w.heap.size w w':=by
 have hu75:=Try.underlying75
 have hu101:=Try.underlying101
 have HR0:=ak hr0
 have HC0:=ak hc0
 clear hr0 hc0
 have HB:=z52_
 have H:=h;clear h;unfold spec_l7Segments.f at H
 generalize hy420:(([]:List (S101)))=y420 at H;have Ny420:=ak hy420.symm;clear hy420;try rw [Option.bind_some] at H
 have H':=ak H
 clear H
 go_enter Try.func98,Try.ntmps98
 go_wp2_with (first|((with_reducible refine gate_dst (N:=5) rfl ?_);refine Kd.R_lit k101 _ 101 ?hg (N:=5) ?hd (xs:=([]:List (S101))) (inner:=[]) (ok:=fun _=>True) (okp:=fun _=>True) ?hr ?hp (fun _ hk=>hk) trivial (Below.refl _ _) (Nat.le_refl _) (by simp) ?_;(case hd=>rfl);(case hg=>rfl);(case hr=>exact z39_);(case hp=>exact z213_);intro v421 w2 ho3 hb hg_ hnew_;clear hg_ hnew_;(first|rw [← Ny420.out] at ho3|(simp only[Int.reduceToNat] at ho3;rw [← Ny420.out] at ho3));have HO422:=ak (Kd.R_lower ho3 (below_size Hd.b_));replace HB:=z17_;clear hb ho3))
 go_loopg [3,4] k (fun kq v3 v4 w'=>∃ (x3_1:List (S101)) (x4_1:Int),v4 = .int .i64 x4_1∧Aside0 (spec_l7Segments.l0 kq l0 x3_1 x4_1=some r)∧Aside0 (kq≤k)∧Aside0 (Kd.R k101 101 w' w.heap.size (fun _=>True) v3 x3_1)∧Aside0 (Below w.heap.size w w'))
 case atStart=>exact⟨(y420),(0),z14_,H',⟨Nat.le_refl _⟩,⟨z12_ HO422⟩,⟨Hd.b_⟩⟩
 case round =>
  clear H'
  obtain⟨x3_1,x4_1,rfl,HA,HK1,HO_3,HB⟩:=hrel
  cases gk with
  | zero=>exact absurd HA.out (by simp [spec_l7Segments.l0])
  | succ k1 =>
   have H:=HA.out
   clear HA
   simp only[spec_l7Segments.l0] at H
   by_cases c4:x4_1<(l0.length:Int);rotate_left
   ·
    rw [if_neg c4] at H
    have c4b0:=z198_
    clear c4
    obtain rfl:=Option.some.inj H
    go_wp2
    go_ret
    exact⟨_,Hd.e_,z12_ HO_3,Hd.b_⟩
   rw [if_pos c4] at H
   have c4b0:=decide_eq_true c4
   clear c4
   by_cases c5:0≤x4_1;rotate_left
   ·
    rw [if_neg c5] at H
    exact absurd H (by simp)
   rw [if_pos c5] at H
   have c5b0:=decide_eq_true c5
   clear c5
   by_cases c6:(l0.length:Int)=0
   ·
    rw [if_pos c6] at H
    exact absurd H (by simp)
   rw [if_neg c6] at H
   have c6b0:=beq_eq_false_iff_ne.mpr c6
   have c6b1:=bne_iff_ne.mpr c6
   have c6b2:¬ (l0=[]):=fun h_=>c6 (by rw [h_];rfl)
   obtain⟨ji7,hji7⟩:∃ j_:Int,(Int.tmod (wrap64 (x4_1+1)) (l0.length:Int))=j_:=⟨_,rfl⟩
   replace H:(if 0≤(ji7) then (if (ji7)<(l0.length:Int) then (if x3_1.length<4398046511104 then (spec_l7Segments.l0 k1 l0 (x3_1++[(⟨(⟨(rd_T75 l0 x4_1).f0,(rd_T75 l0 x4_1).f1⟩:S75),(⟨(rd_T75 l0 (ji7)).f0,(rd_T75 l0 (ji7)).f1⟩:S75)⟩:S101)]) (wrap64 (x4_1+1))) else (none)) else (none)) else (none))=some r:=by first|(rw [hji7] at H;exact H)|(simp only[hji7] at H ⊢;exact H)
   by_cases c8:0≤(ji7);rotate_left
   ·
    rw [if_neg c8] at H
    exact absurd H (by simp)
   rw [if_pos c8] at H
   have c8b0:=decide_eq_true c8
   clear c8
   by_cases c9:(ji7)<(l0.length:Int);rotate_left
   ·
    rw [if_neg c9] at H
    exact absurd H (by simp)
   rw [if_pos c9] at H
   have c9b0:=decide_eq_true c9
   clear c9
   by_cases c10:x3_1.length<4398046511104;rotate_left
   ·
    rw [if_neg c10] at H
    exact absurd H (by simp)
   rw [if_pos c10] at H
   have LMc10:=ak c10
   clear c10
   generalize hy425:(x3_1++[(⟨(⟨(rd_T75 l0 x4_1).f0,(rd_T75 l0 x4_1).f1⟩:S75),(⟨(rd_T75 l0 (ji7)).f0,(rd_T75 l0 (ji7)).f1⟩:S75)⟩:S101)])=y425 at H;have Ny425:=ak hy425.symm;clear hy425;try rw [Option.bind_some] at H
   have H':=ak H
   clear H
   try go_wp2
   replace HO_3:=z97_ HO_3
   replace HB:=z42_
   have p423:0≤(x4_1:Int):=od_
   have q423:x4_1<(l0.length:Int):=od_
   obtain⟨ad423,e423,hx423_0,hx423_1⟩:=at_T75 HR0.out x4_1 p423 q423
   have hw423_1:=hx423_1
   have hw423_0:=hx423_0
   cases e423
   replace hx423_0:=(HB.out.cell (bl_ w _ hx423_0)).trans hx423_0
   replace hx423_1:=(HB.out.cell (bl_ w _ hx423_1)).trans hx423_1
   replace p423:=eq_true p423
   replace q423:=eq_true q423
   have p424:0≤((ji7):Int):=od_
   have q424:(ji7)<(l0.length:Int):=od_
   obtain⟨ad424,e424,hx424_0,hx424_1⟩:=at_T75 HR0.out (ji7) p424 q424
   have hw424_1:=hx424_1
   have hw424_0:=hx424_0
   obtain rfl:ad423=ad424:=(by injection e424)
   replace hx424_0:=(HB.out.cell (bl_ w _ hx424_0)).trans hx424_0
   replace hx424_1:=(HB.out.cell (bl_ w _ hx424_1)).trans hx424_1
   replace p424:=eq_true p424
   replace q424:=eq_true q424
   refine start_ (n:=17) (S:=fun w'=>w'.cell? (ad423.add ((x4_1).toNat*2))=some (.int .i64 ((rd_T75 l0 x4_1).f0))∧w'.cell? ⟨(ad423.add ((x4_1).toNat*2)).block,(ad423.add ((x4_1).toNat*2)).off+1,none⟩=some (.int .i64 ((rd_T75 l0 x4_1).f1))∧w'.cell? (ad423.add (((ji7)).toNat*2))=some (.int .i64 ((rd_T75 l0 (ji7)).f0))∧w'.cell? ⟨(ad423.add (((ji7)).toNat*2)).block,(ad423.add (((ji7)).toNat*2)).off+1,none⟩=some (.int .i64 ((rd_T75 l0 (ji7)).f1))) (ds:=[]) #[Z,Z,Z,Z,Z,Z,Z,Z,Z,Z,Z,Z,Z,Z,Z,Z,Z] (by kernel_rfl) rfl rfl ⟨((HB.out.cell (bl_ w _ hw423_0)).trans hw423_0),((HB.out.cell (bl_ w _ hw423_1)).trans hw423_1),((HB.out.cell (bl_ w _ hw424_0)).trans hw424_0),((HB.out.cell (bl_ w _ hw424_1)).trans hw424_1)⟩ (fun hHeld=>?_);refine with_tabW spec_l7Segments.tab5 spec_l7Segments.bits5 (fun HT_ HW_=>?_)
   generalize wr.drew=w11 at HO_3 HB hx423_0 hx423_1 hx424_0 hx424_1 hHeld ⊢
   refine Hd.p_ HT_ 0 (some 12) #[Y,Z,Z,Z,Z,Z,Z,Z,Z,Z,Z,Z,Z,Z,Z,Z,Z] ?_
   refine Hd.p_ HT_ 1 (some 13) #[Y,Y,Z,Z,Z,Z,Z,Z,Z,Z,Z,Z,Z,Z,Z,Z,Z] ?_
   refine Hd.p_ HT_ 2 (some 14) #[Y,Y,Y,Z,Z,Z,Z,Z,Z,Z,Z,Z,Z,Z,Z,Z,Z] ?_
   refine Hd.p_ HT_ 3 (some 15) #[Y,Y,Y,Y,Z,Z,Z,Z,Z,Z,Z,Z,Z,Z,Z,Z,Z] ?_
   refine Hd.p_ HT_ 5 (some 17) #[Y,Y,Y,Y,Z,Y,Z,Z,Z,Z,Z,Z,Z,Z,Z,Z,Z] ?_
   refine Hd.p_ HT_ 6 (some 18) #[Y,Y,Y,Y,Z,Y,Y,Z,Z,Z,Z,Z,Z,Z,Z,Z,Z] ?_
   refine Hd.p_ HT_ 7 (some 19) #[Y,Y,Y,Y,Z,Y,Y,Y,Z,Z,Z,Z,Z,Z,Z,Z,Z] ?_
   refine Hd.p_ HT_ 8 (some 20) #[Y,Y,Y,Y,Z,Y,Y,Y,Y,Z,Z,Z,Z,Z,Z,Z,Z] ?_
   refine Hd.p_ HT_ 9 (some 21) #[Y,Y,Y,Y,Z,Y,Y,Y,Y,Y,Z,Z,Z,Z,Z,Z,Z] ?_
   refine Hd.p_ HT_ 10 (some 22) #[Y,Y,Y,Y,Z,Y,Y,Y,Y,Y,Y,Z,Z,Z,Z,Z,Z] ?_
   refine Hd.p_ HT_ 11 (some 23) #[Y,Y,Y,Y,Z,Y,Y,Y,Y,Y,Y,Y,Z,Z,Z,Z,Z] ?_
   refine Hd.t_ HT_ HW_ hHeld 4 (some 16) #[Y,Y,Y,Y,Y,Y,Y,Y,Y,Y,Y,Y,Z,Z,Z,Z,Z] ?_
   refine Hd.t_ HT_ HW_ hHeld 12 (some 24) #[Y,Y,Y,Y,Y,Y,Y,Y,Y,Y,Y,Y,Y,Z,Z,Z,Z] ?_
   refine Hd.p_ HT_ 13 (some 25) #[Y,Y,Y,Y,Y,Y,Y,Y,Y,Y,Y,Y,Y,Y,Z,Z,Z] ?_
   refine Hd.o_ HT_ 14 (some 26) #[Y,Y,Y,Y,Y,Y,Y,Y,Y,Y,Y,Y,Y,Y,Y,Z,Z] (fun K hK=>?_)
   refine value_ (w1:=?_) (v:=?_) (by rfl) rfl ?_ ?_
   rotate_left 2
   ·
    go_simp
    constructor
    ·
     rfl
    ·
     rfl
   refine hK.out _ _ ⟨(World.cell?_alloc_lt _ _ _ (bl_ _ _ (((HB.out.cell (bl_ w _ hw423_0)).trans hw423_0)))).trans (((HB.out.cell (bl_ w _ hw423_0)).trans hw423_0)),(World.cell?_alloc_lt _ _ _ (bl_ _ _ (((HB.out.cell (bl_ w _ hw423_1)).trans hw423_1)))).trans (((HB.out.cell (bl_ w _ hw423_1)).trans hw423_1)),(World.cell?_alloc_lt _ _ _ (bl_ _ _ (((HB.out.cell (bl_ w _ hw424_0)).trans hw424_0)))).trans (((HB.out.cell (bl_ w _ hw424_0)).trans hw424_0)),(World.cell?_alloc_lt _ _ _ (bl_ _ _ (((HB.out.cell (bl_ w _ hw424_1)).trans hw424_1)))).trans (((HB.out.cell (bl_ w _ hw424_1)).trans hw424_1))⟩ (fun hHeld=>?_)
   clear hK K
   refine Hd.n_ (some 26) ?_
   refine Hd.o_ HT_ 15 (some 27) #[Y,Y,Y,Y,Y,Y,Y,Y,Y,Y,Y,Y,Y,Y,Y,Y,Z] (fun K hK=>?_)
   refine Kd.R_append_step k101 (w0:=w) w.heap.size (by rfl) (.tmp 12) (.tmp 26) 79 101 (.agg #[(.int .i64 0),(.int .i64 0),(.int .i64 0),(.int .i64 0)]) 32 rfl Try.underlying79 info101 rfl (by decide) (by omega) u3 x3_1 (⟨(⟨(rd_T75 l0 x4_1).f0,(rd_T75 l0 x4_1).f1⟩:S75),(⟨(rd_T75 l0 (ji7)).f0,(rd_T75 l0 (ji7)).f1⟩:S75)⟩:S101) [.int .i64 ((rd_T75 l0 x4_1).f0),.int .i64 ((rd_T75 l0 x4_1).f1),.int .i64 ((rd_T75 l0 (ji7)).f0),.int .i64 ((rd_T75 l0 (ji7)).f1)] (fun _=>True) (fun _=>False) rfl rfl ?aP (fun _ hk=>hk.elim) ?aF ?aO ?aB ?aS ?aL ?_
   (case aP=>exact k101_mkM _ _ _ (⟨(⟨(rd_T75 l0 x4_1).f0,(rd_T75 l0 x4_1).f1⟩:S75),(⟨(rd_T75 l0 (ji7)).f0,(rd_T75 l0 (ji7)).f1⟩:S75)⟩:S101))
   (case aB=>exact Hd.b_)
   (case aF=>exact z177_)
   (case aO=>exact(Hd.r_ HO_3))
   (case aS=>exact z133_)
   (case aL=>have:=LMc10.out;omega)
   intro v426 w12 ho hb hg hat
   rw [← Ny425.out] at ho
   have n0_:=ak (hb)
   have n1_:=ak (ho)
   clear HB
   clear HO_3
   have HB:=n0_
   have HO427:=n1_
   clear n0_ n1_
   clear ho hb hg hat
   refine hK.out _ _ ⟨((HB.out.cell (bl_ w _ hw423_0)).trans hw423_0),((HB.out.cell (bl_ w _ hw423_1)).trans hw423_1),((HB.out.cell (bl_ w _ hw424_0)).trans hw424_0),((HB.out.cell (bl_ w _ hw424_1)).trans hw424_1)⟩ (fun hHeld=>?_)
   clear hK K
   refine Hd.n_ (some 27) ?_
   refine Hd.p_ HT_ 16 (some 3) #[Y,Y,Y,Y,Y,Y,Y,Y,Y,Y,Y,Y,Y,Y,Y,Y,Y] ?_
   refine done_ (done_of HT_.out (by kernel_rfl)) ?_
   try go_wp2
   go_roundg k1
   case measure=>have:=HK1.out;omega
   case rel=>exact⟨(y425),(wrap64 (x4_1+1)),z14_,H',⟨z101_⟩,⟨z12_ HO427⟩,⟨Hd.b_⟩⟩
mutual
def spec_IsRing.l0:Nat→List (S101)→Int→Option (Bool)
 | 0,_,_=>none
 | k+1,x3,x4=>if x4<(x3.length:Int) then (if 0≤x4 then ((spec_IsSegment.f ((rd_T101 x3 x4).f0.f0) ((rd_T101 x3 x4).f0.f1) ((rd_T101 x3 x4).f1.f0) ((rd_T101 x3 x4).f1.f1)).bind fun t433=>(if t433=true then (spec_IsRing.l1 k x3 x4 0) else (some false))) else (none)) else (some true)
def spec_IsRing.l1:Nat→List (S101)→Int→Int→Option (Bool)
 | 0,_,_,_=>none
 | k+1,x3,x4,x5=>if x5<x4 then (if (wrap64 (x5+1))=x4 then (spec_IsRing.j2 k x3 x4 x5 0 true) else (if x5=0 then (spec_IsRing.j2 k x3 x4 x5 0 ((wrap64 (x4+1))==(x3.length:Int))) else (spec_IsRing.j2 k x3 x4 x5 0 false))) else (spec_IsRing.l0 k x3 (wrap64 (x4+1)))
def spec_IsRing.j2:Nat→List (S101)→Int→Int→Int→Bool→Option (Bool)
 | 0,_,_,_,_,_=>none
 | k+1,x3,x4,x5,x6,x44=>if x44=true then (if 0≤x4 then (if x4<(x3.length:Int) then (if 0≤x5 then (if x5<(x3.length:Int) then ((spec_HowMeet.f k ((rd_T101 x3 x4).f0.f0) ((rd_T101 x3 x4).f0.f1) ((rd_T101 x3 x4).f1.f0) ((rd_T101 x3 x4).f1.f1) ((rd_T101 x3 x5).f0.f0) ((rd_T101 x3 x5).f0.f1) ((rd_T101 x3 x5).f1.f0) ((rd_T101 x3 x5).f1.f1)).bind fun t436=>(if t436=1 then (spec_IsRing.l1 k x3 x4 (wrap64 (x5+1))) else (some false))) else (none)) else (none)) else (none)) else (none)) else (if 0≤x4 then (if x4<(x3.length:Int) then (if 0≤x5 then (if x5<(x3.length:Int) then ((spec_HowMeet.f k ((rd_T101 x3 x4).f0.f0) ((rd_T101 x3 x4).f0.f1) ((rd_T101 x3 x4).f1.f0) ((rd_T101 x3 x4).f1.f1) ((rd_T101 x3 x5).f0.f0) ((rd_T101 x3 x5).f0.f1) ((rd_T101 x3 x5).f1.f0) ((rd_T101 x3 x5).f1.f1)).bind fun t439=>(if t439=x6 then (spec_IsRing.l1 k x3 x4 (wrap64 (x5+1))) else (some false))) else (none)) else (none)) else (none)) else (none))
end
def spec_IsRing.f (k:Nat) (l0:List (S75)):Option (Bool):=(spec_l1In.f (l0.length:Int) 3 10).bind fun t428=>(if t428=true then ((spec_l7Segments.f k l0).bind fun t429=>(spec_IsRing.l0 k t429 0)) else (some false))
theorem spec_IsRing.calls (k:Nat) (A0:Option Addr) (c0:Nat) (l0:List (S75)) (r:Bool) (w:World) (hr0:Kd.C k75 w A0 l0.length l0) (hc0:l0.length≤c0) (h:spec_IsRing.f k l0=some r) :
  Calls Try.prog 83 #[.slice A0 l0.length c0] w fun e w'=>e = .returned (.bool r)∧Below w.heap.size w w':=by
 have hu101:=Try.underlying101
 have HR0:=ak hr0
 have HC0:=ak hc0
 clear hr0 hc0
 have HB:=z52_
 have H:=h;clear h;unfold spec_IsRing.f at H
 replace H:=Hd.bd_ H;obtain⟨t428,A2,H⟩:=H
 by_cases c3:t428=true;rotate_left
 ·
  replace c3:=z163_
  subst c3
  rw [if_neg (show ¬ (false=true) by decide)] at H
  obtain rfl:=Option.some.inj H
  go_enter Try.func83,Try.ntmps83
  go_wp2_with (first|((with_reducible refine gate_callee (f:=79) rfl ?_);refine Hd.gl_ 9 Try.func79 #[.int .i64 (l0.length:Int),.int .i64 3,.int .i64 10] ?_;(with_reducible refine(spec_l1In.calls (l0.length:Int) 3 10 false _ A2.out).mono ?_);rintro e w' ⟨rfl,⟨nd,rfl⟩⟩;refine⟨_,rfl,?_⟩))
  go_ret
  exact⟨Hd.e_,Hd.b_⟩
 subst c3
 rw [if_pos rfl] at H
 replace H:=Hd.bd_ H;obtain⟨t429,A4,H⟩:=H
 have H':=ak H
 clear H
 go_enter Try.func83,Try.ntmps83
 go_wp2_with (first|((with_reducible refine gate_callee (f:=79) rfl ?_);refine Hd.gl_ 9 Try.func79 #[.int .i64 (l0.length:Int),.int .i64 3,.int .i64 10] ?_;(with_reducible refine(spec_l1In.calls (l0.length:Int) 3 10 true _ A2.out).mono ?_);rintro e w' ⟨rfl,⟨nd,rfl⟩⟩;refine⟨_,rfl,?_⟩)|((with_reducible refine gate_callee (f:=98) rfl ?_);refine Hd.gl_ 12 Try.func98 #[.slice A0 l0.length c0] ?_;(with_reducible refine(spec_l7Segments.calls k _ _ l0 t429 _ ?side1 ?side2 A4.out).mono ?_);(case side1=>exact z37_ HR0);(case side2=>exact HC0.out);rintro e w5 ⟨v430,rfl,ho0,hb⟩;refine⟨_,rfl,?_⟩;have HO431:=z140_;replace HB:=z17_;(try clear hb);(try clear ho0)))
 go_loopg [4] k (fun kq v4 w'=>∃ (x4_1:Int),v4 = .int .i64 x4_1∧Aside0 (spec_IsRing.l0 kq t429 x4_1=some r)∧Aside0 (kq≤k)∧Aside0 (Kd.R k101 101 w' w.heap.size (fun _=>True) v430 t429)∧Aside0 (Below w.heap.size w w'))
 case atStart=>exact⟨(0),z14_,H',⟨Nat.le_refl _⟩,⟨z12_ HO431⟩,⟨Hd.b_⟩⟩
 case round =>
  clear H'
  try clear c3
  obtain⟨x4_1,rfl,HA,HK1,HO_3,HB⟩:=hrel
  cases gk with
  | zero=>exact absurd HA.out (by simp [spec_IsRing.l0])
  | succ k1 =>
   have H:=HA.out
   clear HA
   simp only[spec_IsRing.l0] at H
   by_cases c6:x4_1<(t429.length:Int);rotate_left
   ·
    rw [if_neg c6] at H
    have c6b0:=decide_eq_false c6
    clear c6
    obtain rfl:=Option.some.inj H
    obtain⟨Ao39,co39,eo39⟩:=Kd.R_slice HO_3.out
    subst eo39
    go_wp2
    go_ret
    exact⟨Hd.e_,Hd.b_⟩
   rw [if_pos c6] at H
   have c6b0:=decide_eq_true c6
   clear c6
   by_cases c7:0≤x4_1;rotate_left
   ·
    rw [if_neg c7] at H
    exact absurd H (by simp)
   rw [if_pos c7] at H
   have c7b0:=decide_eq_true c7
   clear c7
   replace H:=Hd.bd_ H;obtain⟨t433,A8,H⟩:=H
   by_cases c9:t433=true;rotate_left
   ·
    replace c9:=Bool.eq_false_iff.mpr c9
    subst c9
    rw [if_neg (show ¬ (false=true) by decide)] at H
    obtain rfl:=Option.some.inj H
    obtain⟨Ao37,co37,eo37⟩:=Kd.R_slice HO_3.out
    subst eo37
    have p432:0≤(x4_1:Int):=od_
    have q432:x4_1<(t429.length:Int):=od_
    obtain⟨ad432,e432,hx432_0,hx432_1,hx432_2,hx432_3⟩:=at_T101 (Kd.R_reads' HO_3.out).2.2 x4_1 p432 q432
    cases e432
    replace p432:=eq_true p432
    replace q432:=eq_true q432
    go_wp2_with (first|((with_reducible refine gate_callee (f:=99) rfl ?_);refine Hd.gl_ 23 Try.func99 #[.agg #[.int .i64 ((rd_T101 t429 x4_1).f0.f0),.int .i64 ((rd_T101 t429 x4_1).f0.f1),.int .i64 ((rd_T101 t429 x4_1).f1.f0),.int .i64 ((rd_T101 t429 x4_1).f1.f1)]] ?_;(with_reducible refine(spec_IsSegment.calls ((rd_T101 t429 x4_1).f0.f0) ((rd_T101 t429 x4_1).f0.f1) ((rd_T101 t429 x4_1).f1.f0) ((rd_T101 t429 x4_1).f1.f1) false _ A8.out).mono ?_);rintro e w38 ⟨rfl,hb⟩;refine⟨_,rfl,?_⟩;replace HO_3:=z152_;replace HB:=z17_;(try clear hb)))
    go_ret
    exact⟨Hd.e_,Hd.b_⟩
   subst c9
   rw [if_pos rfl] at H
   have H':=ak H
   clear H
   obtain⟨Ao10,co10,eo10⟩:=Kd.R_slice HO_3.out
   subst eo10
   have p432:0≤(x4_1:Int):=od_
   have q432:x4_1<(t429.length:Int):=od_
   obtain⟨ad432,e432,hx432_0,hx432_1,hx432_2,hx432_3⟩:=at_T101 (Kd.R_reads' HO_3.out).2.2 x4_1 p432 q432
   cases e432
   replace p432:=eq_true p432
   replace q432:=eq_true q432
   go_wp2_with (first|((with_reducible refine gate_callee (f:=99) rfl ?_);refine Hd.gl_ 23 Try.func99 #[.agg #[.int .i64 ((rd_T101 t429 x4_1).f0.f0),.int .i64 ((rd_T101 t429 x4_1).f0.f1),.int .i64 ((rd_T101 t429 x4_1).f1.f0),.int .i64 ((rd_T101 t429 x4_1).f1.f1)]] ?_;(with_reducible refine(spec_IsSegment.calls ((rd_T101 t429 x4_1).f0.f0) ((rd_T101 t429 x4_1).f0.f1) ((rd_T101 t429 x4_1).f1.f0) ((rd_T101 t429 x4_1).f1.f1) true _ A8.out).mono ?_);rintro e w11 ⟨rfl,hb⟩;refine⟨_,rfl,?_⟩;replace HO_3:=z152_;replace HB:=z17_;(try clear hb)))
   go_loopg [5] k1 (fun kq v5 w'=>∃ (x5_2:Int),v5 = .int .i64 x5_2∧Aside0 (spec_IsRing.l1 kq t429 x4_1 x5_2=some r)∧Aside0 (kq≤k1)∧Aside0 (Kd.R k101 101 w' w.heap.size (fun _=>True) (.slice (some ad432) t429.length co10) t429)∧Aside0 (Below w.heap.size w w'))
   case atStart=>exact⟨(0),z14_,H',⟨Nat.le_refl _⟩,⟨z12_ HO_3⟩,⟨Hd.b_⟩⟩
   case round =>
    clear H'
    try clear c3;try clear c6;try clear c6b0;try clear c7;try clear c7b0;try clear c9;try clear hx432_0;try clear hx432_1;try clear hx432_2;try clear hx432_3;try clear p432;try clear q432
    obtain⟨x5_2,rfl,HA,HK2,HO_3,HB⟩:=hrel
    cases gk with
    | zero=>exact absurd HA.out (by simp [spec_IsRing.l1])
    | succ k2 =>
     have H:=HA.out
     clear HA
     simp only[spec_IsRing.l1] at H
     by_cases c12:x5_2<x4_1;rotate_left
     ·
      rw [if_neg c12] at H
      have c12b0:=decide_eq_false c12
      clear c12
      have H':=ak H
      clear H
      go_wp2
      go_roundg k2
      case measure=>have:=HK1.out;have:=HK2.out;omega
      case rel=>exact⟨(wrap64 (x4_1+1)),z14_,H',⟨z145_⟩,⟨z12_ HO_3⟩,⟨Hd.b_⟩⟩
     rw [if_pos c12] at H
     have c12b0:=decide_eq_true c12
     clear c12
     have HC13:=ak H
     clear H
     go_upto_region 13 with (fail)
     go_cut [44] (fun v44 wc=>∃ (kq:Nat) (x44_12:Bool),v44 = .bool x44_12∧Aside0 (spec_IsRing.j2 kq t429 x4_1 x5_2 0 x44_12=some r)∧Aside0 (kq≤k2)∧Aside0 (Kd.R k101 101 wc w.heap.size (fun _=>True) (.slice (some ad432) t429.length co10) t429)∧Aside0 (Below w.heap.size w wc))
     case first =>
      have H:=HC13.out
      clear HC13
      by_cases c14:(wrap64 (x5_2+1))=x4_1
      ·
       rw [if_pos c14] at H
       have c14b0:=beq_iff_eq.mpr c14
       have c14b1:=bne_eq_false_iff_eq.mpr c14
       clear c14
       (first|rw [c14b0]|(simp only[i64_w,i32_w];rw [c14b0])|skip)
       have H':=ak H
       clear H
       go_wp2
       go_meet
       case rel=>exact⟨_,(true),z14_,H',⟨z173_⟩,⟨z12_ HO_3⟩,⟨Hd.b_⟩⟩
      rw [if_neg c14] at H
      have c14b0:=beq_eq_false_iff_ne.mpr c14
      have c14b1:=bne_iff_ne.mpr c14
      (first|rw [c14b0]|(simp only[i64_w,i32_w];rw [c14b0])|skip)
      by_cases c15:x5_2=0;rotate_left
      ·
       rw [if_neg c15] at H
       have c15b0:=beq_eq_false_iff_ne.mpr c15
       have c15b1:=bne_iff_ne.mpr c15
       have H':=ak H
       clear H
       go_wp2
       go_meet
       case rel=>exact⟨_,(false),z14_,H',⟨z173_⟩,⟨z12_ HO_3⟩,⟨Hd.b_⟩⟩
      rw [if_pos c15] at H
      have c15b0:=beq_iff_eq.mpr c15
      have c15b1:=bne_eq_false_iff_eq.mpr c15
      clear c15
      have H':=ak H
      clear H
      go_wp2
      go_meet
      case rel=>exact⟨_,(((wrap64 (x4_1+1))==(t429.length:Int))),z14_,H',⟨z173_⟩,⟨z12_ HO_3⟩,⟨Hd.b_⟩⟩
     case rest =>
      clear HC13
      try clear c3;try clear c6;try clear c6b0;try clear c7;try clear c7b0;try clear c9;try clear c12;try clear c12b0;try clear c14;try clear c14b0;try clear c14b1;try clear c15;try clear c15b0;try clear c15b1;try clear hx432_0;try clear hx432_1;try clear hx432_2;try clear hx432_3;try clear p432;try clear q432
      obtain⟨kq,x44_12,rfl,HA,HJ12,HO_3,HB⟩:=hcut
      cases kq with
      | zero=>exact absurd HA.out (by simp [spec_IsRing.j2])
      | succ kj12 =>
       have H:=HA.out
       clear HA
       simp only[spec_IsRing.j2] at H
       by_cases c16:x44_12=true
       ·
        subst c16
        rw [if_pos rfl] at H
        by_cases c17:0≤x4_1;rotate_left
        ·
         rw [if_neg c17] at H
         exact absurd H (by simp)
        rw [if_pos c17] at H
        have c17b0:=decide_eq_true c17
        clear c17
        by_cases c18:x4_1<(t429.length:Int);rotate_left
        ·
         rw [if_neg c18] at H
         exact absurd H (by simp)
        rw [if_pos c18] at H
        have c18b0:=decide_eq_true c18
        clear c18
        by_cases c19:0≤x5_2;rotate_left
        ·
         rw [if_neg c19] at H
         exact absurd H (by simp)
        rw [if_pos c19] at H
        have c19b0:=decide_eq_true c19
        clear c19
        by_cases c20:x5_2<(t429.length:Int);rotate_left
        ·
         rw [if_neg c20] at H
         exact absurd H (by simp)
        rw [if_pos c20] at H
        have c20b0:=decide_eq_true c20
        clear c20
        replace H:=Hd.bd_ H;obtain⟨t436,A21,H⟩:=H
        by_cases c22:t436=1;rotate_left
        ·
         rw [if_neg c22] at H
         have c22b0:=beq_eq_false_iff_ne.mpr c22
         have c22b1:=bne_iff_ne.mpr c22
         obtain rfl:=Option.some.inj H
         try go_wp2
         replace HO_3:=z97_ HO_3
         replace HB:=z42_
         have p434:0≤(x4_1:Int):=od_
         have q434:x4_1<(t429.length:Int):=od_
         obtain⟨ad434,e434,hx434_0,hx434_1,hx434_2,hx434_3⟩:=at_T101 (Kd.R_reads' HO_3.out).2.2 x4_1 p434 q434
         obtain rfl:ad432=ad434:=(by injection e434)
         replace p434:=eq_true p434
         replace q434:=eq_true q434
         have p435:0≤(x5_2:Int):=od_
         have q435:x5_2<(t429.length:Int):=od_
         obtain⟨ad435,e435,hx435_0,hx435_1,hx435_2,hx435_3⟩:=at_T101 (Kd.R_reads' HO_3.out).2.2 x5_2 p435 q435
         obtain rfl:ad432=ad435:=(by injection e435)
         replace p435:=eq_true p435
         replace q435:=eq_true q435
         have s0_:=Hd.HW.x (W0:=wc.drew) hx434_0
         have s1_:=Hd.HW.x (W0:=wc.drew) hx434_1
         have s2_:=Hd.HW.x (W0:=wc.drew) hx434_2
         have s3_:=Hd.HW.x (W0:=wc.drew) hx434_3
         have s4_:=Hd.HW.x (W0:=wc.drew) hx435_0
         have s5_:=Hd.HW.x (W0:=wc.drew) hx435_1
         have s6_:=Hd.HW.x (W0:=wc.drew) hx435_2
         have s7_:=Hd.HW.x (W0:=wc.drew) hx435_3
         refine Hd.HW.region (by kernel_rfl) (by kernel_rfl) ?_
         repeat (go_big_quiet_step ((first|(go_at_call 96;with_reducible exact Hd.HW.c (spec_HowMeet.calls kj12 ((rd_T101 t429 x4_1).f0.f0) ((rd_T101 t429 x4_1).f0.f1) ((rd_T101 t429 x4_1).f1.f0) ((rd_T101 t429 x4_1).f1.f1) ((rd_T101 t429 x5_2).f0.f0) ((rd_T101 t429 x5_2).f0.f1) ((rd_T101 t429 x5_2).f1.f0) ((rd_T101 t429 x5_2).f1.f1) t436 _ A21.out)))))
         refine wpQuiet_nil ?_
         intro _ hq_
         obtain⟨q_,rfl⟩:=hq_
         clear s0_ s1_ s2_ s3_ s4_ s5_ s6_ s7_
         replace HO_3:=z89_ HO_3
         replace HB:=z58_
         replace hx434_0:=q_.cell hx434_0
         replace hx434_1:=q_.cell hx434_1
         replace hx434_2:=q_.cell hx434_2
         replace hx434_3:=q_.cell hx434_3
         replace hx435_0:=q_.cell hx435_0
         replace hx435_1:=q_.cell hx435_1
         replace hx435_2:=q_.cell hx435_2
         replace hx435_3:=q_.cell hx435_3
         generalize q_.W=w26 at HO_3 HB hx434_0 hx434_1 hx434_2 hx434_3 hx435_0 hx435_1 hx435_2 hx435_3 ⊢
         try simp only[i64_w,i32_w]
         try go_wp2
         go_ret
         exact⟨Hd.e_,Hd.b_⟩
        rw [if_pos c22] at H
        have c22b0:=beq_iff_eq.mpr c22
        have c22b1:=bne_eq_false_iff_eq.mpr c22
        clear c22
        have H':=ak H
        clear H
        try go_wp2
        replace HO_3:=z97_ HO_3
        replace HB:=z42_
        have p434:0≤(x4_1:Int):=od_
        have q434:x4_1<(t429.length:Int):=od_
        obtain⟨ad434,e434,hx434_0,hx434_1,hx434_2,hx434_3⟩:=at_T101 (Kd.R_reads' HO_3.out).2.2 x4_1 p434 q434
        obtain rfl:ad432=ad434:=(by injection e434)
        replace p434:=eq_true p434
        replace q434:=eq_true q434
        have p435:0≤(x5_2:Int):=od_
        have q435:x5_2<(t429.length:Int):=od_
        obtain⟨ad435,e435,hx435_0,hx435_1,hx435_2,hx435_3⟩:=at_T101 (Kd.R_reads' HO_3.out).2.2 x5_2 p435 q435
        obtain rfl:ad432=ad435:=(by injection e435)
        replace p435:=eq_true p435
        replace q435:=eq_true q435
        have s0_:=Hd.HW.x (W0:=wc.drew) hx434_0
        have s1_:=Hd.HW.x (W0:=wc.drew) hx434_1
        have s2_:=Hd.HW.x (W0:=wc.drew) hx434_2
        have s3_:=Hd.HW.x (W0:=wc.drew) hx434_3
        have s4_:=Hd.HW.x (W0:=wc.drew) hx435_0
        have s5_:=Hd.HW.x (W0:=wc.drew) hx435_1
        have s6_:=Hd.HW.x (W0:=wc.drew) hx435_2
        have s7_:=Hd.HW.x (W0:=wc.drew) hx435_3
        refine Hd.HW.region (by kernel_rfl) (by kernel_rfl) ?_
        repeat (go_big_quiet_step ((first|(go_at_call 96;with_reducible exact Hd.HW.c (spec_HowMeet.calls kj12 ((rd_T101 t429 x4_1).f0.f0) ((rd_T101 t429 x4_1).f0.f1) ((rd_T101 t429 x4_1).f1.f0) ((rd_T101 t429 x4_1).f1.f1) ((rd_T101 t429 x5_2).f0.f0) ((rd_T101 t429 x5_2).f0.f1) ((rd_T101 t429 x5_2).f1.f0) ((rd_T101 t429 x5_2).f1.f1) t436 _ A21.out)))))
        refine wpQuiet_nil ?_
        intro _ hq_
        obtain⟨q_,rfl⟩:=hq_
        clear s0_ s1_ s2_ s3_ s4_ s5_ s6_ s7_
        replace HO_3:=z89_ HO_3
        replace HB:=z58_
        replace hx434_0:=q_.cell hx434_0
        replace hx434_1:=q_.cell hx434_1
        replace hx434_2:=q_.cell hx434_2
        replace hx434_3:=q_.cell hx434_3
        replace hx435_0:=q_.cell hx435_0
        replace hx435_1:=q_.cell hx435_1
        replace hx435_2:=q_.cell hx435_2
        replace hx435_3:=q_.cell hx435_3
        generalize q_.W=w24 at HO_3 HB hx434_0 hx434_1 hx434_2 hx434_3 hx435_0 hx435_1 hx435_2 hx435_3 ⊢
        try simp only[i64_w,i32_w]
        try go_wp2
        go_roundg kj12
        case measure=>have:=HK1.out;have:=HK2.out;have:=HJ12.out;omega
        case rel=>exact⟨(wrap64 (x5_2+1)),z14_,H',⟨by have:=HK1.out;have:=HK2.out;have:=HJ12.out;omega⟩,⟨z12_ HO_3⟩,⟨Hd.b_⟩⟩
       replace c16:=Bool.eq_false_iff.mpr c16
       subst c16
       rw [if_neg (show ¬ (false=true) by decide)] at H
       by_cases c27:0≤x4_1;rotate_left
       ·
        rw [if_neg c27] at H
        exact absurd H (by simp)
       rw [if_pos c27] at H
       have c27b0:=decide_eq_true c27
       clear c27
       by_cases c28:x4_1<(t429.length:Int);rotate_left
       ·
        rw [if_neg c28] at H
        exact absurd H (by simp)
       rw [if_pos c28] at H
       have c28b0:=decide_eq_true c28
       clear c28
       by_cases c29:0≤x5_2;rotate_left
       ·
        rw [if_neg c29] at H
        exact absurd H (by simp)
       rw [if_pos c29] at H
       have c29b0:=decide_eq_true c29
       clear c29
       by_cases c30:x5_2<(t429.length:Int);rotate_left
       ·
        rw [if_neg c30] at H
        exact absurd H (by simp)
       rw [if_pos c30] at H
       have c30b0:=decide_eq_true c30
       clear c30
       replace H:=Hd.bd_ H;obtain⟨t439,A31,H⟩:=H
       by_cases c32:t439=0;rotate_left
       ·
        rw [if_neg c32] at H
        have c32b0:=beq_eq_false_iff_ne.mpr c32
        have c32b1:=bne_iff_ne.mpr c32
        obtain rfl:=Option.some.inj H
        try go_wp2
        replace HO_3:=z97_ HO_3
        replace HB:=z42_
        have p437:0≤(x4_1:Int):=od_
        have q437:x4_1<(t429.length:Int):=od_
        obtain⟨ad437,e437,hx437_0,hx437_1,hx437_2,hx437_3⟩:=at_T101 (Kd.R_reads' HO_3.out).2.2 x4_1 p437 q437
        obtain rfl:ad432=ad437:=(by injection e437)
        replace p437:=eq_true p437
        replace q437:=eq_true q437
        have p438:0≤(x5_2:Int):=od_
        have q438:x5_2<(t429.length:Int):=od_
        obtain⟨ad438,e438,hx438_0,hx438_1,hx438_2,hx438_3⟩:=at_T101 (Kd.R_reads' HO_3.out).2.2 x5_2 p438 q438
        obtain rfl:ad432=ad438:=(by injection e438)
        replace p438:=eq_true p438
        replace q438:=eq_true q438
        have s0_:=Hd.HW.x (W0:=wc.drew) hx437_0
        have s1_:=Hd.HW.x (W0:=wc.drew) hx437_1
        have s2_:=Hd.HW.x (W0:=wc.drew) hx437_2
        have s3_:=Hd.HW.x (W0:=wc.drew) hx437_3
        have s4_:=Hd.HW.x (W0:=wc.drew) hx438_0
        have s5_:=Hd.HW.x (W0:=wc.drew) hx438_1
        have s6_:=Hd.HW.x (W0:=wc.drew) hx438_2
        have s7_:=Hd.HW.x (W0:=wc.drew) hx438_3
        refine Hd.HW.region (by kernel_rfl) (by kernel_rfl) ?_
        repeat (go_big_quiet_step ((first|(go_at_call 96;with_reducible exact Hd.HW.c (spec_HowMeet.calls kj12 ((rd_T101 t429 x4_1).f0.f0) ((rd_T101 t429 x4_1).f0.f1) ((rd_T101 t429 x4_1).f1.f0) ((rd_T101 t429 x4_1).f1.f1) ((rd_T101 t429 x5_2).f0.f0) ((rd_T101 t429 x5_2).f0.f1) ((rd_T101 t429 x5_2).f1.f0) ((rd_T101 t429 x5_2).f1.f1) t439 _ A31.out)))))
        refine wpQuiet_nil ?_
        intro _ hq_
        obtain⟨q_,rfl⟩:=hq_
        clear s0_ s1_ s2_ s3_ s4_ s5_ s6_ s7_
        replace HO_3:=z89_ HO_3
        replace HB:=z58_
        replace hx437_0:=q_.cell hx437_0
        replace hx437_1:=q_.cell hx437_1
        replace hx437_2:=q_.cell hx437_2
        replace hx437_3:=q_.cell hx437_3
        replace hx438_0:=q_.cell hx438_0
        replace hx438_1:=q_.cell hx438_1
        replace hx438_2:=q_.cell hx438_2
        replace hx438_3:=q_.cell hx438_3
        generalize q_.W=w36 at HO_3 HB hx437_0 hx437_1 hx437_2 hx437_3 hx438_0 hx438_1 hx438_2 hx438_3 ⊢
        try simp only[i64_w,i32_w]
        try go_wp2
        go_ret
        exact⟨Hd.e_,Hd.b_⟩
       rw [if_pos c32] at H
       have c32b0:=beq_iff_eq.mpr c32
       have c32b1:=bne_eq_false_iff_eq.mpr c32
       clear c32
       have H':=ak H
       clear H
       try go_wp2
       replace HO_3:=z97_ HO_3
       replace HB:=z42_
       have p437:0≤(x4_1:Int):=od_
       have q437:x4_1<(t429.length:Int):=od_
       obtain⟨ad437,e437,hx437_0,hx437_1,hx437_2,hx437_3⟩:=at_T101 (Kd.R_reads' HO_3.out).2.2 x4_1 p437 q437
       obtain rfl:ad432=ad437:=(by injection e437)
       replace p437:=eq_true p437
       replace q437:=eq_true q437
       have p438:0≤(x5_2:Int):=od_
       have q438:x5_2<(t429.length:Int):=od_
       obtain⟨ad438,e438,hx438_0,hx438_1,hx438_2,hx438_3⟩:=at_T101 (Kd.R_reads' HO_3.out).2.2 x5_2 p438 q438
       obtain rfl:ad432=ad438:=(by injection e438)
       replace p438:=eq_true p438
       replace q438:=eq_true q438
       have s0_:=Hd.HW.x (W0:=wc.drew) hx437_0
       have s1_:=Hd.HW.x (W0:=wc.drew) hx437_1
       have s2_:=Hd.HW.x (W0:=wc.drew) hx437_2
       have s3_:=Hd.HW.x (W0:=wc.drew) hx437_3
       have s4_:=Hd.HW.x (W0:=wc.drew) hx438_0
       have s5_:=Hd.HW.x (W0:=wc.drew) hx438_1
       have s6_:=Hd.HW.x (W0:=wc.drew) hx438_2
       have s7_:=Hd.HW.x (W0:=wc.drew) hx438_3
       refine Hd.HW.region (by kernel_rfl) (by kernel_rfl) ?_
       repeat (go_big_quiet_step ((first|(go_at_call 96;with_reducible exact Hd.HW.c (spec_HowMeet.calls kj12 ((rd_T101 t429 x4_1).f0.f0) ((rd_T101 t429 x4_1).f0.f1) ((rd_T101 t429 x4_1).f1.f0) ((rd_T101 t429 x4_1).f1.f1) ((rd_T101 t429 x5_2).f0.f0) ((rd_T101 t429 x5_2).f0.f1) ((rd_T101 t429 x5_2).f1.f0) ((rd_T101 t429 x5_2).f1.f1) t439 _ A31.out)))))
       refine wpQuiet_nil ?_
       intro _ hq_
       obtain⟨q_,rfl⟩:=hq_
       clear s0_ s1_ s2_ s3_ s4_ s5_ s6_ s7_
       replace HO_3:=z89_ HO_3
       replace HB:=z58_
       replace hx437_0:=q_.cell hx437_0
       replace hx437_1:=q_.cell hx437_1
       replace hx437_2:=q_.cell hx437_2
       replace hx437_3:=q_.cell hx437_3
       replace hx438_0:=q_.cell hx438_0
       replace hx438_1:=q_.cell hx438_1
       replace hx438_2:=q_.cell hx438_2
       replace hx438_3:=q_.cell hx438_3
       generalize q_.W=w34 at HO_3 HB hx437_0 hx437_1 hx437_2 hx437_3 hx438_0 hx438_1 hx438_2 hx438_3 ⊢
       try simp only[i64_w,i32_w]
       try go_wp2
       go_roundg kj12
       case measure=>have:=HK1.out;have:=HK2.out;have:=HJ12.out;omega
       case rel=>exact⟨(wrap64 (x5_2+1)),z14_,H',⟨by have:=HK1.out;have:=HK2.out;have:=HJ12.out;omega⟩,⟨z12_ HO_3⟩,⟨Hd.b_⟩⟩
end Go.Proofs.Ytbbdhlggnglfgaa.MFnFeatures
