-- Laid by this session's program pp.py, after the kit's print and texts of the session's own. Not trusted: Lean checks it.
import Derived.Test.YtbbdhlggnglfgaaZFnFeaturesMx0
import Derived.Test.YtbbdhlggnglfgaaZFnFeaturesMx1
import Derived.Test.YtbbdhlggnglfgaaZFnFeaturesMx11
namespace Go.Proofs.Ytbbdhlggnglfgaa.MFnFeatures
open Go.RowKit Go.Proofs.YtbbdhlggnglfgaaW.PrintWords Go.Proofs.YtbbdhlggnglfgaaW.PrintLast Go.Proofs.YtbbdhlggnglfgaaW.PrintMore
attribute [local go_sem] max2_int min2_int max_two min_two max_three min_three max_four min_four
set_option linter.unusedVariables false
set_option maxHeartbeats 8000000
set_option maxRecDepth 100000
set_option linter.unusedSimpArgs false
attribute [local go_sem high] eqA75
def spec_IsLine.l0:Nat→List (S75)→Int→Option (Bool)
 | 0,_,_=>none
 | k+1,x0,x3=>if x3<(x0.length:Int) then (if 0≤x3 then ((spec_IsPoint.f ((rd_T75 x0 x3).f0) ((rd_T75 x0 x3).f1)).bind fun t336=>(if t336=true then (if x3>0 then (if 0≤(wrap64 (x3-1)) then (if (wrap64 (x3-1))<(x0.length:Int) then (if (((rd_T75 x0 (wrap64 (x3-1))).f0)==((rd_T75 x0 x3).f0)&&(((rd_T75 x0 (wrap64 (x3-1))).f1)==((rd_T75 x0 x3).f1)))=true then (some false) else (spec_IsLine.l0 k x0 (wrap64 (x3+1)))) else (none)) else (none)) else (spec_IsLine.l0 k x0 (wrap64 (x3+1)))) else (some false))) else (none)) else ((spec_l1In.f (x0.length:Int) 2 10).bind fun t339=>(some t339))
def spec_IsLine.f (k:Nat) (l0:List (S75)):Option (Bool):=spec_IsLine.l0 k l0 0
theorem spec_IsLine.calls (k:Nat) (A0:Option Addr) (c0:Nat) (l0:List (S75)) (r:Bool) (w:World) (hr0:Kd.C k75 w A0 l0.length l0) (hc0:l0.length≤c0) (h:spec_IsLine.f k l0=some r) :
  Calls Try.prog 97 #[.slice A0 l0.length c0] w fun e w'=>e = .returned (.bool r)∧Below w.heap.size w w':=by
 have hu75:=Try.underlying75
 have HR0:=ak hr0
 have HC0:=ak hc0
 clear hr0 hc0
 have HB:=z52_
 have H:=h;clear h;unfold spec_IsLine.f at H
 have H':=ak H
 clear H
 go_enter Try.func97,Try.ntmps97
 go_wp2
 go_loopg [3] k (fun kq v3 w'=>∃ (x3_1:Int),v3 = .int .i64 x3_1∧Aside0 (spec_IsLine.l0 kq l0 x3_1=some r)∧Aside0 (kq≤k)∧Aside0 (Below w.heap.size w w'))
 case atStart=>exact⟨(0),z14_,H',⟨Nat.le_refl _⟩,⟨Hd.b_⟩⟩
 case round =>
  clear H'
  obtain⟨x3_1,rfl,HA,HK1,HB⟩:=hrel
  cases gk with
  | zero=>exact absurd HA.out (by simp [spec_IsLine.l0])
  | succ k1 =>
   have H:=HA.out
   clear HA
   simp only[spec_IsLine.l0] at H
   by_cases c2:x3_1<(l0.length:Int);rotate_left
   ·
    rw [if_neg c2] at H
    have c2b0:=decide_eq_false c2
    clear c2
    replace H:=Hd.bd_ H;obtain⟨t339,A19,H⟩:=H
    obtain rfl:=Option.some.inj H
    go_wp2_with (first|((with_reducible refine gate_callee (f:=79) rfl ?_);refine Hd.gl_ 34 Try.func79 #[.int .i64 (l0.length:Int),.int .i64 2,.int .i64 10] ?_;(with_reducible refine(spec_l1In.calls (l0.length:Int) 2 10 t339 _ A19.out).mono ?_);rintro e w' ⟨rfl,⟨nd,rfl⟩⟩;refine⟨_,rfl,?_⟩))
    go_ret
    exact⟨Hd.e_,Hd.b_⟩
   rw [if_pos c2] at H
   have c2b0:=decide_eq_true c2
   clear c2
   by_cases c3:0≤x3_1;rotate_left
   ·
    rw [if_neg c3] at H
    exact absurd H (by simp)
   rw [if_pos c3] at H
   have c3b0:=decide_eq_true c3
   clear c3
   replace H:=Hd.bd_ H;obtain⟨t336,A4,H⟩:=H
   by_cases c5:t336=true;rotate_left
   ·
    replace c5:=z171_
    subst c5
    rw [if_neg (show ¬ (false=true) by decide)] at H
    obtain rfl:=Option.some.inj H
    try go_wp2
    replace HB:=z42_
    have p335:0≤(x3_1:Int):=od_
    have q335:x3_1<(l0.length:Int):=od_
    obtain⟨ad335,e335,hx335_0,hx335_1⟩:=at_T75 HR0.out x3_1 p335 q335
    have hw335_1:=hx335_1
    have hw335_0:=hx335_0
    cases e335
    replace hx335_0:=z184_
    replace hx335_1:=z185_
    replace p335:=eq_true p335
    replace q335:=eq_true q335
    have s0_:=z141_
    have s1_:=z142_
    refine Hd.HW.region (by kernel_rfl) (by kernel_rfl) ?_
    repeat (go_big_quiet_step ((first|(go_at_call 81;with_reducible exact Hd.HW.c (spec_IsPoint.calls ((rd_T75 l0 x3_1).f0) ((rd_T75 l0 x3_1).f1) false _ A4.out)))))
    refine wpQuiet_nil ?_
    intro _ hq_
    obtain⟨q_,rfl⟩:=hq_
    clear s0_ s1_
    replace HB:=z58_
    replace hx335_0:=q_.cell hx335_0
    replace hx335_1:=q_.cell hx335_1
    generalize q_.W=w18 at HB hx335_0 hx335_1 ⊢
    try simp only[i64_w,i32_w]
    try go_wp2
    go_ret
    exact⟨Hd.e_,Hd.b_⟩
   subst c5
   rw [if_pos rfl] at H
   by_cases c6:x3_1>0;rotate_left
   ·
    rw [if_neg c6] at H
    have c6b0:decide (0<x3_1)=false:=decide_eq_false c6
    clear c6
    have H':=ak H
    clear H
    try go_wp2
    replace HB:=z42_
    have p335:0≤(x3_1:Int):=od_
    have q335:x3_1<(l0.length:Int):=od_
    obtain⟨ad335,e335,hx335_0,hx335_1⟩:=at_T75 HR0.out x3_1 p335 q335
    have hw335_1:=hx335_1
    have hw335_0:=hx335_0
    cases e335
    replace hx335_0:=z184_
    replace hx335_1:=z185_
    replace p335:=eq_true p335
    replace q335:=eq_true q335
    have s0_:=z141_
    have s1_:=z142_
    refine Hd.HW.region (by kernel_rfl) (by kernel_rfl) ?_
    repeat (go_big_quiet_step ((first|(go_at_call 81;with_reducible exact Hd.HW.c (spec_IsPoint.calls ((rd_T75 l0 x3_1).f0) ((rd_T75 l0 x3_1).f1) true _ A4.out)))))
    refine wpQuiet_nil ?_
    intro _ hq_
    obtain⟨q_,rfl⟩:=hq_
    clear s0_ s1_
    replace HB:=z58_
    replace hx335_0:=q_.cell hx335_0
    replace hx335_1:=q_.cell hx335_1
    generalize q_.W=w16 at HB hx335_0 hx335_1 ⊢
    try simp only[i64_w,i32_w]
    try go_wp2
    go_roundg k1
    case measure=>have:=HK1.out;omega
    case rel=>exact⟨(wrap64 (x3_1+1)),z14_,H',⟨z101_⟩,⟨Hd.b_⟩⟩
   rw [if_pos c6] at H
   have c6b0:decide (0<x3_1)=true:=decide_eq_true c6
   clear c6
   obtain⟨ji7,hji7⟩:∃ j_:Int,(wrap64 (x3_1-1))=j_:=⟨_,rfl⟩
   replace H:(if 0≤(ji7) then (if (ji7)<(l0.length:Int) then (if (((rd_T75 l0 (ji7)).f0)==((rd_T75 l0 x3_1).f0)&&(((rd_T75 l0 (ji7)).f1)==((rd_T75 l0 x3_1).f1)))=true then (some false) else (spec_IsLine.l0 k1 l0 (wrap64 (x3_1+1)))) else (none)) else (none))=some r:=by first|(rw [hji7] at H;exact H)|(simp only[hji7] at H ⊢;exact H)
   (try rw [hji7] at A4)
   have hji7w:(IntKind.i64.wrap (x3_1-1))=ji7:=(i64_w _).trans hji7
   by_cases c8:0≤(ji7);rotate_left
   ·
    rw [if_neg c8] at H
    exact absurd H (by simp)
   rw [if_pos c8] at H
   have c8b0:=decide_eq_true c8
   clear c8
   by_cases c9:(ji7)<(l0.length:Int);rotate_left
   ·
    rw [if_neg c9] at H
    exact absurd H (by simp)
   rw [if_pos c9] at H
   have c9b0:=decide_eq_true c9
   clear c9
   by_cases c10:(((rd_T75 l0 (ji7)).f0)==((rd_T75 l0 x3_1).f0)&&(((rd_T75 l0 (ji7)).f1)==((rd_T75 l0 x3_1).f1)))=true
   ·
    rw [if_pos c10] at H
    have c10b0:(((rd_T75 l0 (ji7)).f0)==((rd_T75 l0 x3_1).f0)&&(((rd_T75 l0 (ji7)).f1)==((rd_T75 l0 x3_1).f1)))=true:=c10
    (try (have c10b1:decide (((rd_T75 l0 (ji7)).f0)=((rd_T75 l0 x3_1).f0)&&(((rd_T75 l0 (ji7)).f1)==((rd_T75 l0 x3_1).f1)))=true:=by simpa using c10))
    (try (have c10b2:(((rd_T75 l0 (ji7)).f0)==((rd_T75 l0 x3_1).f0)&&(((rd_T75 l0 (ji7)).f1)==((rd_T75 l0 x3_1).f1)))=true:=by simpa using c10))
    clear c10
    obtain rfl:=Option.some.inj H
    try go_wp2
    replace HB:=z42_
    have p335:0≤(x3_1:Int):=od_
    have q335:x3_1<(l0.length:Int):=od_
    obtain⟨ad335,e335,hx335_0,hx335_1⟩:=at_T75 HR0.out x3_1 p335 q335
    have hw335_1:=hx335_1
    have hw335_0:=hx335_0
    cases e335
    replace hx335_0:=z184_
    replace hx335_1:=z185_
    replace p335:=eq_true p335
    replace q335:=eq_true q335
    have p337:0≤((ji7):Int):=od_
    have q337:(ji7)<(l0.length:Int):=od_
    obtain⟨ad337,e337,hx337_0,hx337_1⟩:=at_T75 HR0.out (ji7) p337 q337
    have hw337_1:=hx337_1
    have hw337_0:=hx337_0
    obtain rfl:ad335=ad337:=(by injection e337)
    replace hx337_0:=(HB.out.cell (bl_ w _ hx337_0)).trans hx337_0
    replace hx337_1:=(HB.out.cell (bl_ w _ hx337_1)).trans hx337_1
    replace p337:=eq_true p337
    replace q337:=eq_true q337
    have p338:0≤(x3_1:Int):=od_
    have q338:x3_1<(l0.length:Int):=od_
    obtain⟨ad338,e338,hx338_0,hx338_1⟩:=at_T75 HR0.out x3_1 p338 q338
    have hw338_1:=hx338_1
    have hw338_0:=hx338_0
    obtain rfl:ad335=ad338:=(by injection e338)
    replace hx338_0:=(HB.out.cell (bl_ w _ hx338_0)).trans hx338_0
    replace hx338_1:=(HB.out.cell (bl_ w _ hx338_1)).trans hx338_1
    replace p338:=eq_true p338
    replace q338:=eq_true q338
    have s0_:=z141_
    have s1_:=z142_
    have s2_:=Hd.HW.x (W0:=wr.drew) ((HB.out.cell (bl_ w _ hw337_0)).trans hw337_0)
    have s3_:=Hd.HW.x (W0:=wr.drew) ((HB.out.cell (bl_ w _ hw337_1)).trans hw337_1)
    have s4_:=Hd.HW.x (W0:=wr.drew) ((HB.out.cell (bl_ w _ hw338_0)).trans hw338_0)
    have s5_:=Hd.HW.x (W0:=wr.drew) ((HB.out.cell (bl_ w _ hw338_1)).trans hw338_1)
    refine Hd.HW.region (by kernel_rfl) (by kernel_rfl) ?_
    repeat (go_big_quiet_step ((first|(go_at_call 81;with_reducible exact Hd.HW.c (spec_IsPoint.calls ((rd_T75 l0 x3_1).f0) ((rd_T75 l0 x3_1).f1) true _ A4.out)))))
    refine wpQuiet_nil ?_
    intro _ hq_
    obtain⟨q_,rfl⟩:=hq_
    clear s0_ s1_ s2_ s3_ s4_ s5_
    replace HB:=z58_
    replace hx335_0:=q_.cell hx335_0
    replace hx335_1:=q_.cell hx335_1
    replace hx337_0:=q_.cell hx337_0
    replace hx337_1:=q_.cell hx337_1
    replace hx338_0:=q_.cell hx338_0
    replace hx338_1:=q_.cell hx338_1
    generalize q_.W=w12 at HB hx335_0 hx335_1 hx337_0 hx337_1 hx338_0 hx338_1 ⊢
    try simp only[i64_w,i32_w]
    try go_wp2
    go_ret
    exact⟨z161_,Hd.b_⟩
   rw [if_neg c10] at H
   have c10b0:(((rd_T75 l0 (ji7)).f0)==((rd_T75 l0 x3_1).f0)&&(((rd_T75 l0 (ji7)).f1)==((rd_T75 l0 x3_1).f1)))=false:=by simpa using c10
   (try (have c10b1:decide (((rd_T75 l0 (ji7)).f0)=((rd_T75 l0 x3_1).f0)&&(((rd_T75 l0 (ji7)).f1)==((rd_T75 l0 x3_1).f1)))=false:=by simpa using c10))
   (try (have c10b2:(((rd_T75 l0 (ji7)).f0)==((rd_T75 l0 x3_1).f0)&&(((rd_T75 l0 (ji7)).f1)==((rd_T75 l0 x3_1).f1)))=false:=by simpa using c10))
   (try (have c10b3:¬ (((rd_T75 l0 (ji7)).f0)=((rd_T75 l0 x3_1).f0)&&(((rd_T75 l0 (ji7)).f1)==((rd_T75 l0 x3_1).f1))):=by simpa using c10))
   clear c10
   have H':=ak H
   clear H
   try go_wp2
   replace HB:=z42_
   have p335:0≤(x3_1:Int):=od_
   have q335:x3_1<(l0.length:Int):=od_
   obtain⟨ad335,e335,hx335_0,hx335_1⟩:=at_T75 HR0.out x3_1 p335 q335
   have hw335_1:=hx335_1
   have hw335_0:=hx335_0
   cases e335
   replace hx335_0:=z184_
   replace hx335_1:=z185_
   replace p335:=eq_true p335
   replace q335:=eq_true q335
   have p337:0≤((ji7):Int):=od_
   have q337:(ji7)<(l0.length:Int):=od_
   obtain⟨ad337,e337,hx337_0,hx337_1⟩:=at_T75 HR0.out (ji7) p337 q337
   have hw337_1:=hx337_1
   have hw337_0:=hx337_0
   obtain rfl:ad335=ad337:=(by injection e337)
   replace hx337_0:=(HB.out.cell (bl_ w _ hx337_0)).trans hx337_0
   replace hx337_1:=(HB.out.cell (bl_ w _ hx337_1)).trans hx337_1
   replace p337:=eq_true p337
   replace q337:=eq_true q337
   have p338:0≤(x3_1:Int):=od_
   have q338:x3_1<(l0.length:Int):=od_
   obtain⟨ad338,e338,hx338_0,hx338_1⟩:=at_T75 HR0.out x3_1 p338 q338
   have hw338_1:=hx338_1
   have hw338_0:=hx338_0
   obtain rfl:ad335=ad338:=(by injection e338)
   replace hx338_0:=(HB.out.cell (bl_ w _ hx338_0)).trans hx338_0
   replace hx338_1:=(HB.out.cell (bl_ w _ hx338_1)).trans hx338_1
   replace p338:=eq_true p338
   replace q338:=eq_true q338
   have s0_:=z141_
   have s1_:=z142_
   have s2_:=Hd.HW.x (W0:=wr.drew) ((HB.out.cell (bl_ w _ hw337_0)).trans hw337_0)
   have s3_:=Hd.HW.x (W0:=wr.drew) ((HB.out.cell (bl_ w _ hw337_1)).trans hw337_1)
   have s4_:=Hd.HW.x (W0:=wr.drew) ((HB.out.cell (bl_ w _ hw338_0)).trans hw338_0)
   have s5_:=Hd.HW.x (W0:=wr.drew) ((HB.out.cell (bl_ w _ hw338_1)).trans hw338_1)
   refine Hd.HW.region (by kernel_rfl) (by kernel_rfl) ?_
   repeat (go_big_quiet_step ((first|(go_at_call 81;with_reducible exact Hd.HW.c (spec_IsPoint.calls ((rd_T75 l0 x3_1).f0) ((rd_T75 l0 x3_1).f1) true _ A4.out)))))
   refine wpQuiet_nil ?_
   intro _ hq_
   obtain⟨q_,rfl⟩:=hq_
   clear s0_ s1_ s2_ s3_ s4_ s5_
   replace HB:=z58_
   replace hx335_0:=q_.cell hx335_0
   replace hx335_1:=q_.cell hx335_1
   replace hx337_0:=q_.cell hx337_0
   replace hx337_1:=q_.cell hx337_1
   replace hx338_0:=q_.cell hx338_0
   replace hx338_1:=q_.cell hx338_1
   generalize q_.W=w14 at HB hx335_0 hx335_1 hx337_0 hx337_1 hx338_0 hx338_1 ⊢
   try simp only[i64_w,i32_w]
   try go_wp2
   go_roundg k1
   case measure=>have:=HK1.out;omega
   case rel=>exact⟨(wrap64 (x3_1+1)),z14_,H',⟨z101_⟩,⟨Hd.b_⟩⟩
def spec_SegmentsOf.l0:Nat→List (S75)→List (S101)→Int→Option ((List (S101)))
 | 0,_,_,_=>none
 | k+1,x0,x3,x4=>if x4<(x0.length:Int) then ((spec_IsLine.f k x0).bind fun t343=>(if t343=true then (if 0≤(wrap64 (x4-1)) then (if (wrap64 (x4-1))<(x0.length:Int) then (if 0≤x4 then (if x3.length<4398046511104 then (spec_SegmentsOf.l0 k x0 (x3++[(⟨(⟨(rd_T75 x0 (wrap64 (x4-1))).f0,(rd_T75 x0 (wrap64 (x4-1))).f1⟩:S75),(⟨(rd_T75 x0 x4).f0,(rd_T75 x0 x4).f1⟩:S75)⟩:S101)]) (wrap64 (x4+1))) else (none)) else (none)) else (none)) else (none)) else (some x3))) else (some x3)
def spec_SegmentsOf.f (k:Nat) (l0:List (S75)):Option ((List (S101))):=spec_SegmentsOf.l0 k l0 (([]:List (S101))) 1
def spec_SegmentsOf.T5:Bool × List (List Nat × List Nat):=(true,[([],[]),([],[]),([],[]),([2],[2]),([1,3],[1,3]),([4],[4]),([],[]),([],[]),([6,7],[6,7]),([8],[8]),([5,9],[5,9]),([10],[10]),([0,11],[0,11]),([12,12,0,1,2,3,4,5,6,7,8,9,10,11,12],[0,12])])
def spec_SegmentsOf.B5:List Nat:=[0,0,0,4,14,30,0,0,192,448,1022,2046,4095,8191]
theorem spec_SegmentsOf.tab5:rtab .any (opsOf Try.f95 5)=spec_SegmentsOf.T5:=by kernel_rfl
theorem spec_SegmentsOf.bits5:waitsOk spec_SegmentsOf.T5.2 spec_SegmentsOf.B5=true:=by kernel_rfl
theorem spec_SegmentsOf.calls (k:Nat) (A0:Option Addr) (c0:Nat) (l0:List (S75)) (r:List (S101)) (w:World) (hr0:Kd.C k75 w A0 l0.length l0) (hc0:l0.length≤c0) (h:spec_SegmentsOf.f k l0=some r) :
  Calls Try.prog 95 #[.slice A0 l0.length c0] w fun e w'=>∃ v0_:Value,e = .returned (v0_)∧Kd.R k101 101 w' w.heap.size (fun _=>True) v0_ r∧Below w.heap.size w w':=by
 have hu75:=Try.underlying75
 have hu101:=Try.underlying101
 have HR0:=ak hr0
 have HC0:=ak hc0
 clear hr0 hc0
 have HB:=z52_
 have H:=h;clear h;unfold spec_SegmentsOf.f at H
 generalize hy340:(([]:List (S101)))=y340 at H;have Ny340:=ak hy340.symm;clear hy340;try rw [Option.bind_some] at H
 have H':=ak H
 clear H
 go_enter Try.func95,Try.ntmps95
 go_wp2_with (first|((with_reducible refine gate_dst (N:=5) rfl ?_);refine Kd.R_lit k101 _ 101 ?hg (N:=5) ?hd (xs:=([]:List (S101))) (inner:=[]) (ok:=fun _=>True) (okp:=fun _=>True) ?hr ?hp (fun _ hk=>hk) trivial (Below.refl _ _) (Nat.le_refl _) (by simp) ?_;(case hd=>rfl);(case hg=>rfl);(case hr=>exact z39_);(case hp=>exact z213_);intro v341 w2 ho3 hb hg_ hnew_;clear hg_ hnew_;(first|rw [← Ny340.out] at ho3|(simp only[Int.reduceToNat] at ho3;rw [← Ny340.out] at ho3));have HO342:=ak (Kd.R_lower ho3 (below_size Hd.b_));replace HB:=z17_;clear hb ho3))
 go_loopg [3,4] k (fun kq v3 v4 w'=>∃ (x3_1:List (S101)) (x4_1:Int),v4 = .int .i64 x4_1∧Aside0 (spec_SegmentsOf.l0 kq l0 x3_1 x4_1=some r)∧Aside0 (kq≤k)∧Aside0 (Kd.R k101 101 w' w.heap.size (fun _=>True) v3 x3_1)∧Aside0 (Below w.heap.size w w'))
 case atStart=>exact⟨(y340),(1),z14_,H',⟨Nat.le_refl _⟩,⟨z12_ HO342⟩,⟨Hd.b_⟩⟩
 case round =>
  clear H'
  obtain⟨x3_1,x4_1,rfl,HA,HK1,HO_3,HB⟩:=hrel
  cases gk with
  | zero=>exact absurd HA.out (by simp [spec_SegmentsOf.l0])
  | succ k1 =>
   have H:=HA.out
   clear HA
   simp only[spec_SegmentsOf.l0] at H
   by_cases c4:x4_1<(l0.length:Int);rotate_left
   ·
    rw [if_neg c4] at H
    have c4b0:=z198_
    clear c4
    obtain rfl:=Option.some.inj H
    go_wp2
    go_ret
    exact⟨_,Hd.e_,z12_ HO_3,Hd.b_⟩
   rw [if_pos c4] at H
   have c4b0:=decide_eq_true c4
   clear c4
   replace H:=Hd.bd_ H;obtain⟨t343,A5,H⟩:=H
   by_cases c6:t343=true;rotate_left
   ·
    replace c6:=Bool.eq_false_iff.mpr c6
    subst c6
    rw [if_neg (show ¬ (false=true) by decide)] at H
    obtain rfl:=Option.some.inj H
    go_wp2_with (first|(go_at_call 97;(with_reducible refine(spec_IsLine.calls k1 _ _ l0 false _ ?side1 ?side2 A5.out).mono ?_);(case side1=>exact z15_ HR0);(case side2=>exact HC0.out);rintro e w15 ⟨rfl,hb⟩;replace HO_3:=z152_;replace HB:=z17_;(try clear hb);(try clear hk)))
    go_ret
    exact⟨_,Hd.e_,z12_ HO_3,Hd.b_⟩
   subst c6
   rw [if_pos rfl] at H
   obtain⟨ji7,hji7⟩:∃ j_:Int,(wrap64 (x4_1-1))=j_:=⟨_,rfl⟩
   replace H:(if 0≤(ji7) then (if (ji7)<(l0.length:Int) then (if 0≤x4_1 then (if x3_1.length<4398046511104 then (spec_SegmentsOf.l0 k1 l0 (x3_1++[(⟨(⟨(rd_T75 l0 (ji7)).f0,(rd_T75 l0 (ji7)).f1⟩:S75),(⟨(rd_T75 l0 x4_1).f0,(rd_T75 l0 x4_1).f1⟩:S75)⟩:S101)]) (wrap64 (x4_1+1))) else (none)) else (none)) else (none)) else (none))=some r:=by first|(rw [hji7] at H;exact H)|(simp only[hji7] at H ⊢;exact H)
   (try rw [hji7] at A5)
   have hji7w:(IntKind.i64.wrap (x4_1-1))=ji7:=(i64_w _).trans hji7
   by_cases c8:0≤(ji7);rotate_left
   ·
    rw [if_neg c8] at H
    exact absurd H (by simp)
   rw [if_pos c8] at H
   have c8b0:=decide_eq_true c8
   clear c8
   by_cases c9:(ji7)<(l0.length:Int);rotate_left
   ·
    rw [if_neg c9] at H
    exact absurd H (by simp)
   rw [if_pos c9] at H
   have c9b0:=decide_eq_true c9
   clear c9
   by_cases c10:0≤x4_1;rotate_left
   ·
    rw [if_neg c10] at H
    exact absurd H (by simp)
   rw [if_pos c10] at H
   have c10b0:=z212_
   clear c10
   by_cases c11:x3_1.length<4398046511104;rotate_left
   ·
    rw [if_neg c11] at H
    exact absurd H (by simp)
   rw [if_pos c11] at H
   have LMc11:=ak c11
   clear c11
   generalize hy346:(x3_1++[(⟨(⟨(rd_T75 l0 (ji7)).f0,(rd_T75 l0 (ji7)).f1⟩:S75),(⟨(rd_T75 l0 x4_1).f0,(rd_T75 l0 x4_1).f1⟩:S75)⟩:S101)])=y346 at H;have Ny346:=ak hy346.symm;clear hy346;try rw [Option.bind_some] at H
   have H':=ak H
   clear H
   try go_wp2_with (first|(go_at_call 97;(with_reducible refine(spec_IsLine.calls k1 _ _ l0 true _ ?side1 ?side2 A5.out).mono ?_);(case side1=>exact z15_ HR0);(case side2=>exact HC0.out);rintro e w12 ⟨rfl,hb⟩;replace HO_3:=z152_;replace HB:=z17_;(try clear hb);(try clear hk)))
   replace HO_3:=z97_ HO_3
   replace HB:=z42_
   have p344:0≤((ji7):Int):=od_
   have q344:(ji7)<(l0.length:Int):=od_
   obtain⟨ad344,e344,hx344_0,hx344_1⟩:=at_T75 HR0.out (ji7) p344 q344
   have hw344_1:=hx344_1
   have hw344_0:=hx344_0
   cases e344
   replace hx344_0:=(HB.out.cell (bl_ w _ hx344_0)).trans hx344_0
   replace hx344_1:=(HB.out.cell (bl_ w _ hx344_1)).trans hx344_1
   replace p344:=eq_true p344
   replace q344:=eq_true q344
   have p345:0≤(x4_1:Int):=od_
   have q345:x4_1<(l0.length:Int):=od_
   obtain⟨ad345,e345,hx345_0,hx345_1⟩:=at_T75 HR0.out x4_1 p345 q345
   have hw345_1:=hx345_1
   have hw345_0:=hx345_0
   obtain rfl:ad344=ad345:=(by injection e345)
   replace hx345_0:=(HB.out.cell (bl_ w _ hx345_0)).trans hx345_0
   replace hx345_1:=(HB.out.cell (bl_ w _ hx345_1)).trans hx345_1
   replace p345:=eq_true p345
   replace q345:=eq_true q345
   refine start_ (n:=14) (S:=fun w'=>w'.cell? (ad344.add (((ji7)).toNat*2))=some (.int .i64 ((rd_T75 l0 (ji7)).f0))∧w'.cell? ⟨(ad344.add (((ji7)).toNat*2)).block,(ad344.add (((ji7)).toNat*2)).off+1,none⟩=some (.int .i64 ((rd_T75 l0 (ji7)).f1))∧w'.cell? (ad344.add ((x4_1).toNat*2))=some (.int .i64 ((rd_T75 l0 x4_1).f0))∧w'.cell? ⟨(ad344.add ((x4_1).toNat*2)).block,(ad344.add ((x4_1).toNat*2)).off+1,none⟩=some (.int .i64 ((rd_T75 l0 x4_1).f1))) (ds:=[]) #[Z,Z,Z,Z,Z,Z,Z,Z,Z,Z,Z,Z,Z,Z] (by kernel_rfl) rfl rfl ⟨((HB.out.cell (bl_ w _ hw344_0)).trans hw344_0),((HB.out.cell (bl_ w _ hw344_1)).trans hw344_1),((HB.out.cell (bl_ w _ hw345_0)).trans hw345_0),((HB.out.cell (bl_ w _ hw345_1)).trans hw345_1)⟩ (fun hHeld=>?_);refine with_tabW spec_SegmentsOf.tab5 spec_SegmentsOf.bits5 (fun HT_ HW_=>?_)
   generalize w12.drew=w13 at HO_3 HB hx344_0 hx344_1 hx345_0 hx345_1 hHeld ⊢
   refine Hd.p_ HT_ 0 (some 16) #[Y,Z,Z,Z,Z,Z,Z,Z,Z,Z,Z,Z,Z,Z] ?_
   refine Hd.p_ HT_ 1 (some 17) #[Y,Y,Z,Z,Z,Z,Z,Z,Z,Z,Z,Z,Z,Z] ?_
   refine Hd.p_ HT_ 2 (some 18) #[Y,Y,Y,Z,Z,Z,Z,Z,Z,Z,Z,Z,Z,Z] ?_
   refine Hd.p_ HT_ 3 (some 19) #[Y,Y,Y,Y,Z,Z,Z,Z,Z,Z,Z,Z,Z,Z] ?_
   refine Hd.p_ HT_ 4 (some 20) #[Y,Y,Y,Y,Y,Z,Z,Z,Z,Z,Z,Z,Z,Z] ?_
   refine Hd.p_ HT_ 6 (some 22) #[Y,Y,Y,Y,Y,Z,Y,Z,Z,Z,Z,Z,Z,Z] ?_
   refine Hd.p_ HT_ 7 (some 23) #[Y,Y,Y,Y,Y,Z,Y,Y,Z,Z,Z,Z,Z,Z] ?_
   refine Hd.p_ HT_ 8 (some 24) #[Y,Y,Y,Y,Y,Z,Y,Y,Y,Z,Z,Z,Z,Z] ?_
   refine Hd.t_ HT_ HW_ hHeld 5 (some 21) #[Y,Y,Y,Y,Y,Y,Y,Y,Y,Z,Z,Z,Z,Z] ?_
   refine Hd.t_ HT_ HW_ hHeld 9 (some 25) #[Y,Y,Y,Y,Y,Y,Y,Y,Y,Y,Z,Z,Z,Z] ?_
   refine Hd.p_ HT_ 10 (some 26) #[Y,Y,Y,Y,Y,Y,Y,Y,Y,Y,Y,Z,Z,Z] ?_
   refine Hd.o_ HT_ 11 (some 27) #[Y,Y,Y,Y,Y,Y,Y,Y,Y,Y,Y,Y,Z,Z] (fun K hK=>?_)
   refine value_ (w1:=?_) (v:=?_) (by rfl) rfl ?_ ?_
   rotate_left 2
   ·
    go_simp
    constructor
    ·
     rfl
    ·
     rfl
   refine hK.out _ _ ⟨(World.cell?_alloc_lt _ _ _ (bl_ _ _ (((HB.out.cell (bl_ w _ hw344_0)).trans hw344_0)))).trans (((HB.out.cell (bl_ w _ hw344_0)).trans hw344_0)),(World.cell?_alloc_lt _ _ _ (bl_ _ _ (((HB.out.cell (bl_ w _ hw344_1)).trans hw344_1)))).trans (((HB.out.cell (bl_ w _ hw344_1)).trans hw344_1)),(World.cell?_alloc_lt _ _ _ (bl_ _ _ (((HB.out.cell (bl_ w _ hw345_0)).trans hw345_0)))).trans (((HB.out.cell (bl_ w _ hw345_0)).trans hw345_0)),(World.cell?_alloc_lt _ _ _ (bl_ _ _ (((HB.out.cell (bl_ w _ hw345_1)).trans hw345_1)))).trans (((HB.out.cell (bl_ w _ hw345_1)).trans hw345_1))⟩ (fun hHeld=>?_)
   clear hK K
   refine Hd.n_ (some 27) ?_
   refine Hd.o_ HT_ 12 (some 28) #[Y,Y,Y,Y,Y,Y,Y,Y,Y,Y,Y,Y,Y,Z] (fun K hK=>?_)
   refine Kd.R_append_step k101 (w0:=w) w.heap.size (by rfl) (.tmp 16) (.tmp 27) 79 101 (.agg #[(.int .i64 0),(.int .i64 0),(.int .i64 0),(.int .i64 0)]) 32 rfl Try.underlying79 info101 rfl (by decide) (by omega) u3 x3_1 (⟨(⟨(rd_T75 l0 (ji7)).f0,(rd_T75 l0 (ji7)).f1⟩:S75),(⟨(rd_T75 l0 x4_1).f0,(rd_T75 l0 x4_1).f1⟩:S75)⟩:S101) [.int .i64 ((rd_T75 l0 (ji7)).f0),.int .i64 ((rd_T75 l0 (ji7)).f1),.int .i64 ((rd_T75 l0 x4_1).f0),.int .i64 ((rd_T75 l0 x4_1).f1)] (fun _=>True) (fun _=>False) rfl rfl ?aP (fun _ hk=>hk.elim) ?aF ?aO ?aB ?aS ?aL ?_
   (case aP=>exact k101_mkM _ _ _ (⟨(⟨(rd_T75 l0 (ji7)).f0,(rd_T75 l0 (ji7)).f1⟩:S75),(⟨(rd_T75 l0 x4_1).f0,(rd_T75 l0 x4_1).f1⟩:S75)⟩:S101))
   (case aB=>exact Hd.b_)
   (case aF=>exact z177_)
   (case aO=>exact(Hd.r_ HO_3))
   (case aS=>exact z133_)
   (case aL=>have:=LMc11.out;omega)
   intro v347 w14 ho hb hg hat
   rw [← Ny346.out] at ho
   have n0_:=ak (hb)
   have n1_:=ak (ho)
   clear HB
   clear HO_3
   have HB:=n0_
   have HO348:=n1_
   clear n0_ n1_
   clear ho hb hg hat
   refine hK.out _ _ ⟨((HB.out.cell (bl_ w _ hw344_0)).trans hw344_0),((HB.out.cell (bl_ w _ hw344_1)).trans hw344_1),((HB.out.cell (bl_ w _ hw345_0)).trans hw345_0),((HB.out.cell (bl_ w _ hw345_1)).trans hw345_1)⟩ (fun hHeld=>?_)
   clear hK K
   refine Hd.n_ (some 28) ?_
   refine Hd.p_ HT_ 13 (some 3) #[Y,Y,Y,Y,Y,Y,Y,Y,Y,Y,Y,Y,Y,Y] ?_
   refine done_ (done_of HT_.out (by kernel_rfl)) ?_
   try go_wp2
   go_roundg k1
   case measure=>have:=HK1.out;omega
   case rel=>exact⟨(y346),(wrap64 (x4_1+1)),z14_,H',⟨z101_⟩,⟨z12_ HO348⟩,⟨Hd.b_⟩⟩
def spec_IsSegment.f (a0_0:Int) (a0_1:Int) (a0_2:Int) (a0_3:Int):Option (Bool):=(spec_IsPoint.f a0_0 a0_1).bind fun t350=>(if t350=true then ((spec_IsPoint.f a0_2 a0_3).bind fun t351=>(if t351=true then (some (!(a0_0==a0_2)||(!(a0_1==a0_3)))) else (some false))) else (some false))
theorem spec_IsSegment.calls (a0_0:Int) (a0_1:Int) (a0_2:Int) (a0_3:Int) (r:Bool) (w:World) (h:spec_IsSegment.f a0_0 a0_1 a0_2 a0_3=some r) :
  Calls Try.prog 99 #[.agg #[.int .i64 a0_0,.int .i64 a0_1,.int .i64 a0_2,.int .i64 a0_3]] w fun e w'=>e = .returned (.bool r)∧Below w.heap.size w w':=by
 have hu101:=Try.underlying101
 have hu75:=Try.underlying75
 have HB:=z52_
 have H:=h;clear h;unfold spec_IsSegment.f at H
 replace H:=Hd.bd_ H;obtain⟨t350,A2,H⟩:=H
 by_cases c3:t350=true;rotate_left
 ·
  replace c3:=z163_
  subst c3
  rw [if_neg (show ¬ (false=true) by decide)] at H
  obtain rfl:=Option.some.inj H
  go_enter Try.func99,Try.ntmps99
  go_wp2_with (first|((with_reducible refine gate_dst (N:=1) rfl ?_);refine Hd.box_ 1 (#[.int .i64 a0_0,.int .i64 a0_1,.int .i64 a0_2,.int .i64 a0_3]) 101 ?_;intro gb349 hg w17 hbox hb;have BK349:=ak (hbox);have GW349:=z150_;have GE349:=z150_;replace HB:=z17_;clear hb hbox hg;obtain⟨hcz18_0,hcz18_1,hcz18_2,hcz18_3⟩:=Hd.c4_ BK349.out;obtain⟨hfz18_0,hfz18_1,hfz18_2,hfz18_3⟩:=Hd.f4_ BK349.out)|((with_reducible refine gate_callee (f:=81) rfl ?_);refine Hd.gl_ 5 Try.func81 #[.agg #[.int .i64 a0_0,.int .i64 a0_1]] ?_;(with_reducible refine(spec_IsPoint.calls a0_0 a0_1 false _ A2.out).mono ?_);rintro e w19 ⟨rfl,hb⟩;refine⟨_,rfl,?_⟩;replace BK349:=ak (Hd.kb_ BK349 hb);replace HB:=z17_;(try clear hb)))
  go_ret
  exact⟨Hd.e_,Hd.b_⟩
 subst c3
 rw [if_pos rfl] at H
 replace H:=Hd.bd_ H;obtain⟨t351,A4,H⟩:=H
 by_cases c5:t351=true
 ·
  subst c5
  rw [if_pos rfl] at H
  obtain rfl:=Option.some.inj H
  go_enter Try.func99,Try.ntmps99
  go_wp2_with (first|((with_reducible refine gate_dst (N:=1) rfl ?_);refine Hd.box_ 1 (#[.int .i64 a0_0,.int .i64 a0_1,.int .i64 a0_2,.int .i64 a0_3]) 101 ?_;intro gb349 hg w6 hbox hb;have BK349:=ak (hbox);have GW349:=z150_;have GE349:=z150_;replace HB:=z17_;clear hb hbox hg;obtain⟨hcz7_0,hcz7_1,hcz7_2,hcz7_3⟩:=Hd.c4_ BK349.out;obtain⟨hfz7_0,hfz7_1,hfz7_2,hfz7_3⟩:=Hd.f4_ BK349.out)|((with_reducible refine gate_callee (f:=81) rfl ?_);refine Hd.gl_ 5 Try.func81 #[.agg #[.int .i64 a0_0,.int .i64 a0_1]] ?_;(with_reducible refine(spec_IsPoint.calls a0_0 a0_1 true _ A2.out).mono ?_);rintro e w8 ⟨rfl,hb⟩;refine⟨_,rfl,?_⟩;replace BK349:=ak (Hd.kb_ BK349 hb);replace HB:=z17_;(try clear hb);obtain⟨hcz9_0,hcz9_1,hcz9_2,hcz9_3⟩:=Hd.c4_ BK349.out;obtain⟨hfz9_0,hfz9_1,hfz9_2,hfz9_3⟩:=Hd.f4_ BK349.out)|(go_at_call 81;(with_reducible refine(spec_IsPoint.calls a0_2 a0_3 true _ A4.out).mono ?_);rintro e w10 ⟨rfl,hb⟩;replace BK349:=ak (Hd.kb_ BK349 hb);replace HB:=z17_;(try clear hb);(try clear hk);(try clear hi);obtain⟨hcz11_0,hcz11_1,hcz11_2,hcz11_3⟩:=Hd.c4_ BK349.out;obtain⟨hfz11_0,hfz11_1,hfz11_2,hfz11_3⟩:=Hd.f4_ BK349.out))
  go_ret
  exact⟨Hd.e_,Hd.b_⟩
 replace c5:=z171_
 subst c5
 rw [if_neg (show ¬ (false=true) by decide)] at H
 obtain rfl:=Option.some.inj H
 go_enter Try.func99,Try.ntmps99
 go_wp2_with (first|((with_reducible refine gate_dst (N:=1) rfl ?_);refine Hd.box_ 1 (#[.int .i64 a0_0,.int .i64 a0_1,.int .i64 a0_2,.int .i64 a0_3]) 101 ?_;intro gb349 hg w12 hbox hb;have BK349:=ak (hbox);have GW349:=z150_;have GE349:=z150_;replace HB:=z17_;clear hb hbox hg;obtain⟨hcz13_0,hcz13_1,hcz13_2,hcz13_3⟩:=Hd.c4_ BK349.out;obtain⟨hfz13_0,hfz13_1,hfz13_2,hfz13_3⟩:=Hd.f4_ BK349.out)|((with_reducible refine gate_callee (f:=81) rfl ?_);refine Hd.gl_ 5 Try.func81 #[.agg #[.int .i64 a0_0,.int .i64 a0_1]] ?_;(with_reducible refine(spec_IsPoint.calls a0_0 a0_1 true _ A2.out).mono ?_);rintro e w14 ⟨rfl,hb⟩;refine⟨_,rfl,?_⟩;replace BK349:=ak (Hd.kb_ BK349 hb);replace HB:=z17_;(try clear hb);obtain⟨hcz15_0,hcz15_1,hcz15_2,hcz15_3⟩:=Hd.c4_ BK349.out;obtain⟨hfz15_0,hfz15_1,hfz15_2,hfz15_3⟩:=Hd.f4_ BK349.out)|(go_at_call 81;(with_reducible refine(spec_IsPoint.calls a0_2 a0_3 false _ A4.out).mono ?_);rintro e w16 ⟨rfl,hb⟩;replace BK349:=ak (Hd.kb_ BK349 hb);replace HB:=z17_;(try clear hb);(try clear hk);(try clear hi)))
 go_ret
 exact⟨Hd.e_,Hd.b_⟩
def spec_Min.f (a0:Int) (a1:Int):Option (Int):=if a1<a0 then (some a1) else (some a0)
theorem spec_Min.calls (a0:Int) (a1:Int) (r:Int) (w:World) (h:spec_Min.f a0 a1=some r) :
  Calls Try.prog 104 #[.int .i64 a0,.int .i64 a1] w fun e w'=>e = .returned (.int .i64 r)∧Drawn0 w w':=by
 have H:=h;clear h;unfold spec_Min.f at H
 by_cases c3:a1<a0
 ·
  rw [if_pos c3] at H
  have c3b0:=decide_eq_true c3
  clear c3
  obtain rfl:=Option.some.inj H
  go_enter Try.func104,Try.ntmps104
  go_wp2
  go_ret
  exact⟨z14_,z36_⟩
 rw [if_neg c3] at H
 have c3b0:=decide_eq_false c3
 clear c3
 obtain rfl:=Option.some.inj H
 go_enter Try.func104,Try.ntmps104
 go_wp2
 go_ret
 exact⟨z14_,z36_⟩
def spec_Max.f (a0:Int) (a1:Int):Option (Int):=if a1>a0 then (some a1) else (some a0)
theorem spec_Max.calls (a0:Int) (a1:Int) (r:Int) (w:World) (h:spec_Max.f a0 a1=some r) :
  Calls Try.prog 109 #[.int .i64 a0,.int .i64 a1] w fun e w'=>e = .returned (.int .i64 r)∧Drawn0 w w':=by
 have H:=h;clear h;unfold spec_Max.f at H
 by_cases c3:a1>a0
 ·
  rw [if_pos c3] at H
  have c3b0:decide (a0<a1)=true:=decide_eq_true c3
  clear c3
  obtain rfl:=Option.some.inj H
  go_enter Try.func109,Try.ntmps109
  go_wp2
  go_ret
  exact⟨z14_,z36_⟩
 rw [if_neg c3] at H
 have c3b0:decide (a0<a1)=false:=decide_eq_false c3
 clear c3
 obtain rfl:=Option.some.inj H
 go_enter Try.func109,Try.ntmps109
 go_wp2
 go_ret
 exact⟨z14_,z36_⟩
def spec_l4Cross.f (a0_0:Int) (a0_1:Int) (a1_0:Int) (a1_1:Int) (a2_0:Int) (a2_1:Int):Option (Int):=some (wrap64 ((wrap64 ((wrap64 (a1_0-a0_0))*(wrap64 (a2_1-a0_1))))-(wrap64 ((wrap64 (a1_1-a0_1))*(wrap64 (a2_0-a0_0))))))
theorem spec_l4Cross.calls (a0_0:Int) (a0_1:Int) (a1_0:Int) (a1_1:Int) (a2_0:Int) (a2_1:Int) (r:Int) (w:World) (h:spec_l4Cross.f a0_0 a0_1 a1_0 a1_1 a2_0 a2_1=some r) :
  Calls Try.prog 115 #[.agg #[.int .i64 a0_0,.int .i64 a0_1],.agg #[.int .i64 a1_0,.int .i64 a1_1],.agg #[.int .i64 a2_0,.int .i64 a2_1]] w fun e w'=>e = .returned (.int .i64 r)∧Below w.heap.size w w':=by
 have hu75:=Try.underlying75
 have HB:=z52_
 have H:(some (wrap64 ((wrap64 ((wrap64 (a1_0-a0_0))*(wrap64 (a2_1-a0_1))))-(wrap64 ((wrap64 (a1_1-a0_1))*(wrap64 (a2_0-a0_0)))))))=some r:=h
 clear h
 obtain rfl:=Option.some.inj H
 go_enter Try.func115,Try.ntmps115
 go_wp2_with (first|((with_reducible refine gate_dst (N:=3) rfl ?_);refine Hd.box_ 3 (#[.int .i64 a0_0,.int .i64 a0_1]) 75 ?_;intro gb352 hg w4 hbox hb;have BK352:=ak (hbox);have GW352:=ak ((Hd.g_ hg Hd.b_:w.heap.size≤gb352));have GE352:=ak ((Hd.g_ hg Hd.b_:w.heap.size≤gb352));replace HB:=z17_;clear hb hbox hg)|((with_reducible refine gate_dst (N:=4) rfl ?_);refine Hd.box_ 4 (#[.int .i64 a1_0,.int .i64 a1_1]) 75 ?_;intro gb353 hg w5 hbox hb;have BK353:=ak (hbox);have GW353:=ak ((Hd.g_ hg Hd.b_:w.heap.size≤gb353));have GE353:=ak ((Hd.g_ hg Hd.b_:w.heap.size≤gb353));replace HB:=z17_;have NB352_353:=ak ((Hd.lt_ BK352 hg));have NB353_352:=ak ((Hd.gt_ BK352 hg));replace BK352:=ak (Hd.kb_ BK352 hb);clear hb hbox hg)|((with_reducible refine gate_dst (N:=5) rfl ?_);refine Hd.box_ 5 (#[.int .i64 a2_0,.int .i64 a2_1]) 75 ?_;intro gb354 hg w6 hbox hb;have BK354:=ak (hbox);have GW354:=ak ((Hd.g_ hg Hd.b_:w.heap.size≤gb354));have GE354:=ak ((Hd.g_ hg Hd.b_:w.heap.size≤gb354));replace HB:=z17_;have NB352_354:=ak ((Hd.lt_ BK352 hg));have NB354_352:=ak ((Hd.gt_ BK352 hg));replace BK352:=ak (Hd.kb_ BK352 hb);have NB353_354:=ak ((Hd.lt_ BK353 hg));have NB354_353:=ak ((Hd.gt_ BK353 hg));replace BK353:=ak (Hd.kb_ BK353 hb);clear hb hbox hg;have hnb7:=NB353_352.out;have hnc7:=NB352_353.out;have hnb8:=NB353_354.out;have hnc8:=NB354_353.out;obtain⟨hcz9_0,hcz9_1⟩:=Hd.c2_ BK353.out;obtain⟨hfz9_0,hfz9_1⟩:=Hd.f2_ BK353.out;have hnb10:=NB352_354.out;have hnc10:=NB354_352.out;obtain⟨hcz11_0,hcz11_1⟩:=Hd.c2_ BK352.out;obtain⟨hfz11_0,hfz11_1⟩:=Hd.f2_ BK352.out;obtain⟨hcz12_0,hcz12_1⟩:=Hd.c2_ BK354.out;obtain⟨hfz12_0,hfz12_1⟩:=Hd.f2_ BK354.out))
 go_ret
 exact⟨Hd.e_,Hd.b_⟩
def spec_IsOn.f (a0_0:Int) (a0_1:Int) (a0_2:Int) (a0_3:Int) (a1_0:Int) (a1_1:Int):Option (Bool):=(spec_IsSegment.f a0_0 a0_1 a0_2 a0_3).bind fun t357=>(if t357=true then ((spec_IsPoint.f a1_0 a1_1).bind fun t358=>(if t358=true then ((spec_l4Cross.f a0_0 a0_1 a0_2 a0_3 a1_0 a1_1).bind fun t359=>(if t359=0 then ((spec_Min.f a0_0 a0_2).bind fun t360=>((spec_Max.f a0_0 a0_2).bind fun t361=>((spec_l1In.f a1_0 t360 t361).bind fun t362=>(if t362=true then ((spec_Min.f a0_1 a0_3).bind fun t363=>((spec_Max.f a0_1 a0_3).bind fun t364=>((spec_l1In.f a1_1 t363 t364).bind fun t365=>(some t365)))) else (some false))))) else (some false))) else (some false))) else (some false))
theorem spec_IsOn.calls (a0_0:Int) (a0_1:Int) (a0_2:Int) (a0_3:Int) (a1_0:Int) (a1_1:Int) (r:Bool) (w:World) (h:spec_IsOn.f a0_0 a0_1 a0_2 a0_3 a1_0 a1_1=some r) :
  Calls Try.prog 114 #[.agg #[.int .i64 a0_0,.int .i64 a0_1,.int .i64 a0_2,.int .i64 a0_3],.agg #[.int .i64 a1_0,.int .i64 a1_1]] w fun e w'=>e = .returned (.bool r)∧Below w.heap.size w w':=by
 have hu101:=Try.underlying101
 have hu75:=Try.underlying75
 have HB:=z52_
 have H:=h;clear h;unfold spec_IsOn.f at H
 replace H:=Hd.bd_ H;obtain⟨t357,A3,H⟩:=H
 by_cases c4:t357=true;rotate_left
 ·
  replace c4:=Bool.eq_false_iff.mpr c4
  subst c4
  rw [if_neg (show ¬ (false=true) by decide)] at H
  obtain rfl:=Option.some.inj H
  go_enter Try.func114,Try.ntmps114
  try go_wp2_with (first|((with_reducible refine gate_dst (N:=2) rfl ?_);refine Hd.box_ 2 (#[.int .i64 a0_0,.int .i64 a0_1,.int .i64 a0_2,.int .i64 a0_3]) 101 ?_;intro gb355 hg w39 hbox hb;have BK355:=ak (hbox);have GW355:=z108_;have GE355:=z108_;replace HB:=z17_;clear hb hbox hg)|((with_reducible refine gate_dst (N:=3) rfl ?_);refine Hd.box_ 3 (#[.int .i64 a1_0,.int .i64 a1_1]) 75 ?_;intro gb356 hg w40 hbox hb;have BK356:=ak (hbox);have GW356:=z109_;have GE356:=z109_;replace HB:=z17_;have NB355_356:=ak ((Hd.lt_ BK355 hg));have NB356_355:=ak ((Hd.gt_ BK355 hg));replace BK355:=ak (Hd.kb_ BK355 hb);clear hb hbox hg))
  replace BK355:=z65_ BK355
  replace BK356:=z65_ BK356
  replace HB:=z42_
  obtain⟨s0_,s1_,s2_,s3_⟩:=Hd.HW.k4 (W0:=w40.drew) BK355
  refine Hd.HW.region (by kernel_rfl) (by kernel_rfl) ?_
  try dsimp only[List.append]
  repeat (go_big_quiet_step ((first|(go_at_call 99;with_reducible exact Hd.HW.c (spec_IsSegment.calls a0_0 a0_1 a0_2 a0_3 false _ A3.out)))))
  refine wpQuiet_nil ?_
  intro _ hq_
  obtain⟨q_,rfl⟩:=hq_
  clear s0_ s1_ s2_ s3_
  replace BK355:=z63_ BK355
  replace BK356:=z63_ BK356
  replace HB:=z58_
  generalize q_.W=w42 at BK355 BK356 HB ⊢
  try simp only[i64_w,i32_w]
  try go_wp2
  go_ret
  exact⟨Hd.e_,Hd.b_⟩
 subst c4
 rw [if_pos rfl] at H
 replace H:=Hd.bd_ H;obtain⟨t358,A5,H⟩:=H
 by_cases c6:t358=true;rotate_left
 ·
  replace c6:=Bool.eq_false_iff.mpr c6
  subst c6
  rw [if_neg (show ¬ (false=true) by decide)] at H
  obtain rfl:=Option.some.inj H
  go_enter Try.func114,Try.ntmps114
  try go_wp2_with (first|((with_reducible refine gate_dst (N:=2) rfl ?_);refine Hd.box_ 2 (#[.int .i64 a0_0,.int .i64 a0_1,.int .i64 a0_2,.int .i64 a0_3]) 101 ?_;intro gb355 hg w34 hbox hb;have BK355:=ak (hbox);have GW355:=z108_;have GE355:=z108_;replace HB:=z17_;clear hb hbox hg)|((with_reducible refine gate_dst (N:=3) rfl ?_);refine Hd.box_ 3 (#[.int .i64 a1_0,.int .i64 a1_1]) 75 ?_;intro gb356 hg w35 hbox hb;have BK356:=ak (hbox);have GW356:=z109_;have GE356:=z109_;replace HB:=z17_;have NB355_356:=ak ((Hd.lt_ BK355 hg));have NB356_355:=ak ((Hd.gt_ BK355 hg));replace BK355:=ak (Hd.kb_ BK355 hb);clear hb hbox hg))
  replace BK355:=z65_ BK355
  replace BK356:=z65_ BK356
  replace HB:=z42_
  obtain⟨s0_,s1_,s2_,s3_⟩:=Hd.HW.k4 (W0:=w35.drew) BK355
  obtain⟨s4_,s5_⟩:=Hd.HW.k2 (W0:=w35.drew) BK356
  refine Hd.HW.region (by kernel_rfl) (by kernel_rfl) ?_
  try dsimp only[List.append]
  repeat (go_big_quiet_step ((first|(go_at_call 99;with_reducible exact Hd.HW.c (spec_IsSegment.calls a0_0 a0_1 a0_2 a0_3 true _ A3.out))|(go_at_call 81;with_reducible exact Hd.HW.c (spec_IsPoint.calls a1_0 a1_1 false _ A5.out)))))
  refine wpQuiet_nil ?_
  intro _ hq_
  obtain⟨q_,rfl⟩:=hq_
  clear s0_ s1_ s2_ s3_ s4_ s5_
  replace BK355:=z63_ BK355
  replace BK356:=z63_ BK356
  replace HB:=z58_
  generalize q_.W=w38 at BK355 BK356 HB ⊢
  try simp only[i64_w,i32_w]
  try go_wp2
  go_ret
  exact⟨Hd.e_,Hd.b_⟩
 subst c6
 rw [if_pos rfl] at H
 replace H:=Hd.bd_ H;obtain⟨t359,A7,H⟩:=H
 by_cases c8:t359=0;rotate_left
 ·
  rw [if_neg c8] at H
  have c8b0:=beq_eq_false_iff_ne.mpr c8
  have c8b1:=bne_iff_ne.mpr c8
  obtain rfl:=Option.some.inj H
  go_enter Try.func114,Try.ntmps114
  try go_wp2_with (first|((with_reducible refine gate_dst (N:=2) rfl ?_);refine Hd.box_ 2 (#[.int .i64 a0_0,.int .i64 a0_1,.int .i64 a0_2,.int .i64 a0_3]) 101 ?_;intro gb355 hg w28 hbox hb;have BK355:=ak (hbox);have GW355:=z108_;have GE355:=z108_;replace HB:=z17_;clear hb hbox hg)|((with_reducible refine gate_dst (N:=3) rfl ?_);refine Hd.box_ 3 (#[.int .i64 a1_0,.int .i64 a1_1]) 75 ?_;intro gb356 hg w29 hbox hb;have BK356:=ak (hbox);have GW356:=z109_;have GE356:=z109_;replace HB:=z17_;have NB355_356:=ak ((Hd.lt_ BK355 hg));have NB356_355:=ak ((Hd.gt_ BK355 hg));replace BK355:=ak (Hd.kb_ BK355 hb);clear hb hbox hg))
  replace BK355:=z65_ BK355
  replace BK356:=z65_ BK356
  replace HB:=z42_
  obtain⟨s0_,s1_,s2_,s3_⟩:=Hd.HW.k4 (W0:=w29.drew) BK355
  obtain⟨s4_,s5_⟩:=Hd.HW.k2 (W0:=w29.drew) BK356
  refine Hd.HW.region (by kernel_rfl) (by kernel_rfl) ?_
  try dsimp only[List.append]
  repeat (go_big_quiet_step ((first|(go_at_call 99;with_reducible exact Hd.HW.c (spec_IsSegment.calls a0_0 a0_1 a0_2 a0_3 true _ A3.out))|(go_at_call 81;with_reducible exact Hd.HW.c (spec_IsPoint.calls a1_0 a1_1 true _ A5.out))|(go_at_call 115;with_reducible exact Hd.HW.c (spec_l4Cross.calls a0_0 a0_1 a0_2 a0_3 a1_0 a1_1 t359 _ A7.out)))))
  refine wpQuiet_nil ?_
  intro _ hq_
  obtain⟨q_,rfl⟩:=hq_
  clear s0_ s1_ s2_ s3_ s4_ s5_
  replace BK355:=z63_ BK355
  replace BK356:=z63_ BK356
  replace HB:=z58_
  generalize q_.W=w33 at BK355 BK356 HB ⊢
  try simp only[i64_w,i32_w]
  try go_wp2
  go_ret
  exact⟨Hd.e_,Hd.b_⟩
 rw [if_pos c8] at H
 have c8b0:=beq_iff_eq.mpr c8
 have c8b1:=bne_eq_false_iff_eq.mpr c8
 clear c8
 replace H:=Hd.bd_ H;obtain⟨t360,A9,H⟩:=H
 replace H:=Hd.bd_ H;obtain⟨t361,A10,H⟩:=H
 replace H:=Hd.bd_ H;obtain⟨t362,A11,H⟩:=H
 by_cases c12:t362=true;rotate_left
 ·
  replace c12:=Bool.eq_false_iff.mpr c12
  subst c12
  rw [if_neg (show ¬ (false=true) by decide)] at H
  obtain rfl:=Option.some.inj H
  go_enter Try.func114,Try.ntmps114
  try go_wp2_with (first|((with_reducible refine gate_dst (N:=2) rfl ?_);refine Hd.box_ 2 (#[.int .i64 a0_0,.int .i64 a0_1,.int .i64 a0_2,.int .i64 a0_3]) 101 ?_;intro gb355 hg w22 hbox hb;have BK355:=ak (hbox);have GW355:=z108_;have GE355:=z108_;replace HB:=z17_;clear hb hbox hg)|((with_reducible refine gate_dst (N:=3) rfl ?_);refine Hd.box_ 3 (#[.int .i64 a1_0,.int .i64 a1_1]) 75 ?_;intro gb356 hg w23 hbox hb;have BK356:=ak (hbox);have GW356:=z109_;have GE356:=z109_;replace HB:=z17_;have NB355_356:=ak ((Hd.lt_ BK355 hg));have NB356_355:=ak ((Hd.gt_ BK355 hg));replace BK355:=ak (Hd.kb_ BK355 hb);clear hb hbox hg))
  replace BK355:=z65_ BK355
  replace BK356:=z65_ BK356
  replace HB:=z42_
  obtain⟨s0_,s1_,s2_,s3_⟩:=Hd.HW.k4 (W0:=w23.drew) BK355
  obtain⟨s4_,s5_⟩:=Hd.HW.k2 (W0:=w23.drew) BK356
  refine Hd.HW.region (by kernel_rfl) (by kernel_rfl) ?_
  try dsimp only[List.append]
  repeat (go_big_quiet_step ((first|(go_at_call 99;with_reducible exact Hd.HW.c (spec_IsSegment.calls a0_0 a0_1 a0_2 a0_3 true _ A3.out))|(go_at_call 81;with_reducible exact Hd.HW.c (spec_IsPoint.calls a1_0 a1_1 true _ A5.out))|(go_at_call 115;with_reducible exact Hd.HW.c (spec_l4Cross.calls a0_0 a0_1 a0_2 a0_3 a1_0 a1_1 t359 _ A7.out))|(go_at_call 104;with_reducible exact Hd.HW.d (spec_Min.calls a0_0 a0_2 t360 _ A9.out))|(go_at_call 109;with_reducible exact Hd.HW.d (spec_Max.calls a0_0 a0_2 t361 _ A10.out))|(go_at_call 79;with_reducible exact Hd.HW.d (spec_l1In.calls a1_0 t360 t361 false _ A11.out)))))
  refine wpQuiet_nil ?_
  intro _ hq_
  obtain⟨q_,rfl⟩:=hq_
  clear s0_ s1_ s2_ s3_ s4_ s5_
  replace BK355:=z63_ BK355
  replace BK356:=z63_ BK356
  replace HB:=z58_
  generalize q_.W=w27 at BK355 BK356 HB ⊢
  try simp only[i64_w,i32_w]
  try go_wp2
  go_ret
  exact⟨Hd.e_,Hd.b_⟩
 subst c12
 rw [if_pos rfl] at H
 replace H:=Hd.bd_ H;obtain⟨t363,A13,H⟩:=H
 replace H:=Hd.bd_ H;obtain⟨t364,A14,H⟩:=H
 replace H:=Hd.bd_ H;obtain⟨t365,A15,H⟩:=H
 obtain rfl:=Option.some.inj H
 go_enter Try.func114,Try.ntmps114
 try go_wp2_with (first|((with_reducible refine gate_dst (N:=2) rfl ?_);refine Hd.box_ 2 (#[.int .i64 a0_0,.int .i64 a0_1,.int .i64 a0_2,.int .i64 a0_3]) 101 ?_;intro gb355 hg w16 hbox hb;have BK355:=ak (hbox);have GW355:=z108_;have GE355:=z108_;replace HB:=z17_;clear hb hbox hg)|((with_reducible refine gate_dst (N:=3) rfl ?_);refine Hd.box_ 3 (#[.int .i64 a1_0,.int .i64 a1_1]) 75 ?_;intro gb356 hg w17 hbox hb;have BK356:=ak (hbox);have GW356:=z109_;have GE356:=z109_;replace HB:=z17_;have NB355_356:=ak ((Hd.lt_ BK355 hg));have NB356_355:=ak ((Hd.gt_ BK355 hg));replace BK355:=ak (Hd.kb_ BK355 hb);clear hb hbox hg))
 replace BK355:=z65_ BK355
 replace BK356:=z65_ BK356
 replace HB:=z42_
 obtain⟨s0_,s1_,s2_,s3_⟩:=Hd.HW.k4 (W0:=w17.drew) BK355
 obtain⟨s4_,s5_⟩:=Hd.HW.k2 (W0:=w17.drew) BK356
 refine Hd.HW.region (by kernel_rfl) (by kernel_rfl) ?_
 try dsimp only[List.append]
 repeat (go_big_quiet_step ((first|(go_at_call 99;with_reducible exact Hd.HW.c (spec_IsSegment.calls a0_0 a0_1 a0_2 a0_3 true _ A3.out))|(go_at_call 81;with_reducible exact Hd.HW.c (spec_IsPoint.calls a1_0 a1_1 true _ A5.out))|(go_at_call 115;with_reducible exact Hd.HW.c (spec_l4Cross.calls a0_0 a0_1 a0_2 a0_3 a1_0 a1_1 t359 _ A7.out))|(go_at_call 104;with_reducible exact Hd.HW.d (spec_Min.calls a0_0 a0_2 t360 _ A9.out))|(go_at_call 109;with_reducible exact Hd.HW.d (spec_Max.calls a0_0 a0_2 t361 _ A10.out))|(go_at_call 79;with_reducible exact Hd.HW.d (spec_l1In.calls a1_0 t360 t361 true _ A11.out))|(go_at_call 104;with_reducible exact Hd.HW.d (spec_Min.calls a0_1 a0_3 t363 _ A13.out))|(go_at_call 109;with_reducible exact Hd.HW.d (spec_Max.calls a0_1 a0_3 t364 _ A14.out))|(go_at_call 79;with_reducible exact Hd.HW.d (spec_l1In.calls a1_1 t363 t364 t365 _ A15.out)))))
 refine wpQuiet_nil ?_
 intro _ hq_
 obtain⟨q_,rfl⟩:=hq_
 clear s0_ s1_ s2_ s3_ s4_ s5_
 replace BK355:=z63_ BK355
 replace BK356:=z63_ BK356
 replace HB:=z58_
 generalize q_.W=w21 at BK355 BK356 HB ⊢
 try simp only[i64_w,i32_w]
 try go_wp2
 go_ret
 exact⟨Hd.e_,Hd.b_⟩
end Go.Proofs.Ytbbdhlggnglfgaa.MFnFeatures
