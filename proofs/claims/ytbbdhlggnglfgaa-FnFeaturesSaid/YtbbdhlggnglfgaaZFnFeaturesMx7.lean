-- Laid by this session's program pp.py, after the kit's print and texts of the session's own. Not trusted: Lean checks it.
import Derived.Test.YtbbdhlggnglfgaaZFnFeaturesMx0
import Derived.Test.YtbbdhlggnglfgaaZFnFeaturesMx2
import Derived.Test.YtbbdhlggnglfgaaZFnFeaturesMx4
import Derived.Test.YtbbdhlggnglfgaaZFnFeaturesMx6
namespace Go.Proofs.Ytbbdhlggnglfgaa.MFnFeatures
open Go.RowKit Go.Proofs.YtbbdhlggnglfgaaW.PrintWords Go.Proofs.YtbbdhlggnglfgaaW.PrintLast Go.Proofs.YtbbdhlggnglfgaaW.PrintMore
attribute [local go_sem] max2_int min2_int max_two min_two max_three min_three max_four min_four
set_option linter.unusedVariables false
set_option maxHeartbeats 8000000
set_option maxRecDepth 100000
set_option linter.unusedSimpArgs false
mutual
def impl_IsRing.j0:Nat→List (S75)→Bool→Option (Bool)
 | 0,_,_=>none
 | k+1,x0,x14=>if x14=true then (some false) else ((impl_around.f k x0).bind fun t196=>(impl_IsRing.l0 k t196 (t196.length:Int) 0))
def impl_IsRing.l0:Nat→List (S101)→Int→Int→Option (Bool)
 | 0,_,_,_=>none
 | k+1,x3,x18,x19=>if x19<x18 then (if 0≤x19 then (if x19<(x3.length:Int) then ((impl_IsSegment.f ((rd_T101 x3 x19).f0.f0) ((rd_T101 x3 x19).f0.f1) ((rd_T101 x3 x19).f1.f0) ((rd_T101 x3 x19).f1.f1)).bind fun t200=>(if t200=true then (impl_IsRing.l1 k x3 x19 x18 x19 x19 0) else (some false))) else (none)) else (none)) else (some true)
def impl_IsRing.l1:Nat→List (S101)→Int→Int→Int→Int→Int→Option (Bool)
 | 0,_,_,_,_,_,_=>none
 | k+1,x3,x4,x18,x19,x28,x29=>if x29<x28 then (if x29=(wrap64 (x4-1)) then (impl_IsRing.j3 k x3 x4 x29 0 x18 x19 x28 x29 true) else (if x29=0 then (impl_IsRing.j3 k x3 x4 x29 0 x18 x19 x28 x29 (x4==(wrap64 ((x3.length:Int)-1)))) else (impl_IsRing.j3 k x3 x4 x29 0 x18 x19 x28 x29 false))) else (impl_IsRing.l0 k x3 x18 (wrap64 (x19+1)))
def impl_IsRing.j3:Nat→List (S101)→Int→Int→Int→Int→Int→Int→Int→Bool→Option (Bool)
 | 0,_,_,_,_,_,_,_,_,_=>none
 | k+1,x3,x4,x5,x6,x18,x19,x28,x29,x46=>if x46=true then (if 0≤x4 then (if x4<(x3.length:Int) then (if 0≤x5 then (if x5<(x3.length:Int) then ((impl_HowMeet.f k ((rd_T101 x3 x4).f0.f0) ((rd_T101 x3 x4).f0.f1) ((rd_T101 x3 x4).f1.f0) ((rd_T101 x3 x4).f1.f1) ((rd_T101 x3 x5).f0.f0) ((rd_T101 x3 x5).f0.f1) ((rd_T101 x3 x5).f1.f0) ((rd_T101 x3 x5).f1.f1)).bind fun t203=>(if t203=1 then (impl_IsRing.l1 k x3 x4 x18 x19 x28 (wrap64 (x29+1))) else (some false))) else (none)) else (none)) else (none)) else (none)) else (if 0≤x4 then (if x4<(x3.length:Int) then (if 0≤x5 then (if x5<(x3.length:Int) then ((impl_HowMeet.f k ((rd_T101 x3 x4).f0.f0) ((rd_T101 x3 x4).f0.f1) ((rd_T101 x3 x4).f1.f0) ((rd_T101 x3 x4).f1.f1) ((rd_T101 x3 x5).f0.f0) ((rd_T101 x3 x5).f0.f1) ((rd_T101 x3 x5).f1.f0) ((rd_T101 x3 x5).f1.f1)).bind fun t206=>(if t206=x6 then (impl_IsRing.l1 k x3 x4 x18 x19 x28 (wrap64 (x29+1))) else (some false))) else (none)) else (none)) else (none)) else (none))
end
def impl_IsRing.f (k:Nat) (l0:List (S75)):Option (Bool):=if (l0.length:Int)<3 then (impl_IsRing.j0 k l0 true) else (impl_IsRing.j0 k l0 (decide ((l0.length:Int)>10)))
theorem impl_IsRing.calls (k:Nat) (A0:Option Addr) (c0:Nat) (l0:List (S75)) (r:Bool) (w:World) (hr0:Kd.C k75 w A0 l0.length l0) (hc0:l0.length≤c0) (h:impl_IsRing.f k l0=some r) :
  Calls Try.prog 75 #[.slice A0 l0.length c0] w fun e w'=>e = .returned (.bool r)∧Below w.heap.size w w':=by
 have hu101:=Try.underlying101
 have HR0:=ak hr0
 have HC0:=ak hc0
 clear hr0 hc0
 have HB:=z52_
 have H:=h;clear h;unfold impl_IsRing.f at H
 have HC2:=ak H
 clear H
 go_enter Try.func75,Try.ntmps75
 go_upto_region 1 with (fail)
 go_cut [14] (fun v14 wc=>∃ (kq:Nat) (x14_1:Bool),v14 = .bool x14_1∧Aside0 (impl_IsRing.j0 kq l0 x14_1=some r)∧Aside0 (kq≤k)∧Aside0 (Below w.heap.size w wc))
 case first =>
  have H:=HC2.out
  clear HC2
  by_cases c3:(l0.length:Int)<3
  ·
   rw [if_pos c3] at H
   have c3b0:=decide_eq_true c3
   have c3b1:decide (l0.length<3)=true:=decide_eq_true (by omega)
   clear c3
   (first|rw [c3b0]|(simp only[i64_w,i32_w];rw [c3b0])|skip)
   have H':=ak H
   clear H
   go_wp2
   go_meet
   case rel=>exact⟨_,(true),z14_,H',⟨z73_⟩,⟨Hd.b_⟩⟩
  rw [if_neg c3] at H
  have c3b0:=decide_eq_false c3
  have c3b1:decide (l0.length<3)=false:=decide_eq_false (by omega)
  clear c3
  (first|rw [c3b0]|(simp only[i64_w,i32_w];rw [c3b0])|skip)
  have H':=ak H
  clear H
  go_wp2
  go_meet
  case rel=>exact⟨_,(decide ((l0.length:Int)>10)),z14_,H',⟨z73_⟩,⟨Hd.b_⟩⟩
 case rest =>
  clear HC2
  try clear c3;try clear c3b0;try clear c3b1
  obtain⟨kq,x14_1,rfl,HA,HJ1,HB⟩:=hcut
  cases kq with
  | zero=>exact absurd HA.out (by simp [impl_IsRing.j0])
  | succ kj1 =>
   have H:=HA.out
   clear HA
   simp only[impl_IsRing.j0] at H
   by_cases c4:x14_1=true
   ·
    subst c4
    rw [if_pos rfl] at H
    obtain rfl:=Option.some.inj H
    go_wp2
    go_ret
    exact⟨Hd.e_,Hd.b_⟩
   replace c4:=Bool.eq_false_iff.mpr c4
   subst c4
   rw [if_neg (show ¬ (false=true) by decide)] at H
   replace H:=Hd.bd_ H;obtain⟨t196,A5,H⟩:=H
   have H':=ak H
   clear H
   go_wp2_with (first|((with_reducible refine gate_callee (f:=89) rfl ?_);refine Hd.gl_ 16 Try.func89 #[.slice A0 l0.length c0] ?_;(with_reducible refine(impl_around.calls kj1 _ _ l0 t196 _ ?side1 ?side2 A5.out).mono ?_);(case side1=>exact z15_ HR0);(case side2=>exact HC0.out);rintro e w6 ⟨v197,rfl,ho0,hb⟩;refine⟨_,rfl,?_⟩;have HO198:=z140_;replace HB:=z17_;(try clear hb);(try clear ho0);obtain⟨Ao7,co7,eo7⟩:=Kd.R_slice HO198.out;subst eo7))
   go_loopg [19] kj1 (fun kq v19 w'=>∃ (x19_2:Int),v19 = .int .i64 x19_2∧Aside0 (impl_IsRing.l0 kq t196 (t196.length:Int) x19_2=some r)∧Aside0 (kq≤kj1)∧Aside0 (Kd.R k101 101 w' w.heap.size (fun _=>True) (.slice Ao7 t196.length co7) t196)∧Aside0 (Below w.heap.size w w'))
   case atStart=>exact⟨(0),z14_,H',⟨Nat.le_refl _⟩,⟨z12_ HO198⟩,⟨Hd.b_⟩⟩
   case round =>
    clear H'
    try clear c3;try clear c3b0;try clear c3b1;try clear c4
    obtain⟨x19_2,rfl,HA,HK2,HO_3,HB⟩:=hrel
    cases gk with
    | zero=>exact absurd HA.out (by simp [impl_IsRing.l0])
    | succ k2 =>
     have H:=HA.out
     clear HA
     simp only[impl_IsRing.l0] at H
     by_cases c8:x19_2<(t196.length:Int);rotate_left
     ·
      rw [if_neg c8] at H
      have c8b0:=decide_eq_false c8
      clear c8
      obtain rfl:=Option.some.inj H
      go_wp2
      go_ret
      exact⟨Hd.e_,Hd.b_⟩
     rw [if_pos c8] at H
     have c8b0:=decide_eq_true c8
     clear c8
     by_cases c9:0≤x19_2;rotate_left
     ·
      rw [if_neg c9] at H
      exact absurd H (by simp)
     rw [if_pos c9] at H
     have c9b0:=decide_eq_true c9
     clear c9
     by_cases c10:x19_2<(t196.length:Int);rotate_left
     ·
      rw [if_neg c10] at H
      exact absurd H (by simp)
     rw [if_pos c10] at H
     have c10b0:=z212_
     clear c10
     replace H:=Hd.bd_ H;obtain⟨t200,A11,H⟩:=H
     by_cases c12:t200=true;rotate_left
     ·
      replace c12:=Bool.eq_false_iff.mpr c12
      subst c12
      rw [if_neg (show ¬ (false=true) by decide)] at H
      obtain rfl:=Option.some.inj H
      have p199:0≤(x19_2:Int):=od_
      have q199:x19_2<(t196.length:Int):=od_
      obtain⟨ad199,e199,hx199_0,hx199_1,hx199_2,hx199_3⟩:=at_T101 (Kd.R_reads' HO_3.out).2.2 x19_2 p199 q199
      cases e199
      replace p199:=eq_true p199
      replace q199:=eq_true q199
      go_wp2_with (first|((with_reducible refine gate_callee (f:=90) rfl ?_);refine Hd.gl_ 26 Try.func90 #[.agg #[.int .i64 ((rd_T101 t196 x19_2).f0.f0),.int .i64 ((rd_T101 t196 x19_2).f0.f1),.int .i64 ((rd_T101 t196 x19_2).f1.f0),.int .i64 ((rd_T101 t196 x19_2).f1.f1)]] ?_;(with_reducible refine(impl_IsSegment.calls ((rd_T101 t196 x19_2).f0.f0) ((rd_T101 t196 x19_2).f0.f1) ((rd_T101 t196 x19_2).f1.f0) ((rd_T101 t196 x19_2).f1.f1) false _ A11.out).mono ?_);rintro e w39 ⟨rfl,hb⟩;refine⟨_,rfl,?_⟩;replace HO_3:=z152_;replace HB:=z17_;(try clear hb)))
      go_ret
      exact⟨Hd.e_,Hd.b_⟩
     subst c12
     rw [if_pos rfl] at H
     have H':=ak H
     clear H
     have p199:0≤(x19_2:Int):=od_
     have q199:x19_2<(t196.length:Int):=od_
     obtain⟨ad199,e199,hx199_0,hx199_1,hx199_2,hx199_3⟩:=at_T101 (Kd.R_reads' HO_3.out).2.2 x19_2 p199 q199
     cases e199
     replace p199:=eq_true p199
     replace q199:=eq_true q199
     go_wp2_with (first|((with_reducible refine gate_callee (f:=90) rfl ?_);refine Hd.gl_ 26 Try.func90 #[.agg #[.int .i64 ((rd_T101 t196 x19_2).f0.f0),.int .i64 ((rd_T101 t196 x19_2).f0.f1),.int .i64 ((rd_T101 t196 x19_2).f1.f0),.int .i64 ((rd_T101 t196 x19_2).f1.f1)]] ?_;(with_reducible refine(impl_IsSegment.calls ((rd_T101 t196 x19_2).f0.f0) ((rd_T101 t196 x19_2).f0.f1) ((rd_T101 t196 x19_2).f1.f0) ((rd_T101 t196 x19_2).f1.f1) true _ A11.out).mono ?_);rintro e w13 ⟨rfl,hb⟩;refine⟨_,rfl,?_⟩;replace HO_3:=z152_;replace HB:=z17_;(try clear hb)))
     go_loopg [29] k2 (fun kq v29 w'=>∃ (x29_3:Int),v29 = .int .i64 x29_3∧Aside0 (impl_IsRing.l1 kq t196 x19_2 (t196.length:Int) x19_2 x19_2 x29_3=some r)∧Aside0 (kq≤k2)∧Aside0 (Kd.R k101 101 w' w.heap.size (fun _=>True) (.slice (some ad199) t196.length co7) t196)∧Aside0 (Below w.heap.size w w'))
     case atStart=>exact⟨(0),z14_,H',⟨Nat.le_refl _⟩,⟨z12_ HO_3⟩,⟨Hd.b_⟩⟩
     case round =>
      clear H'
      try clear c3;try clear c3b0;try clear c3b1;try clear c4;try clear c8;try clear c8b0;try clear c9;try clear c9b0;try clear c10;try clear c10b0;try clear c12;try clear hx199_0;try clear hx199_1;try clear hx199_2;try clear hx199_3;try clear p199;try clear q199
      obtain⟨x29_3,rfl,HA,HK3,HO_3,HB⟩:=hrel
      cases gk with
      | zero=>exact absurd HA.out (by simp [impl_IsRing.l1])
      | succ k3 =>
       have H:=HA.out
       clear HA
       simp only[impl_IsRing.l1] at H
       by_cases c14:x29_3<x19_2;rotate_left
       ·
        rw [if_neg c14] at H
        have c14b0:=decide_eq_false c14
        clear c14
        have H':=ak H
        clear H
        go_wp2
        go_roundg k3
        case measure=>have:=HJ1.out;have:=HK2.out;have:=HK3.out;omega
        case rel=>exact⟨(wrap64 (x19_2+1)),z14_,H',⟨by have:=HJ1.out;have:=HK2.out;have:=HK3.out;omega⟩,⟨z12_ HO_3⟩,⟨Hd.b_⟩⟩
       rw [if_pos c14] at H
       have c14b0:=decide_eq_true c14
       clear c14
       have HC15:=ak H
       clear H
       go_upto_region 13 with (fail)
       go_cut [46] (fun v46 wc=>∃ (kq:Nat) (x46_14:Bool),v46 = .bool x46_14∧Aside0 (impl_IsRing.j3 kq t196 x19_2 x29_3 0 (t196.length:Int) x19_2 x19_2 x29_3 x46_14=some r)∧Aside0 (kq≤k3)∧Aside0 (Kd.R k101 101 wc w.heap.size (fun _=>True) (.slice (some ad199) t196.length co7) t196)∧Aside0 (Below w.heap.size w wc))
       case first =>
        have H:=HC15.out
        clear HC15
        by_cases c16:x29_3=(wrap64 (x19_2-1))
        ·
         rw [if_pos c16] at H
         have c16b0:=beq_iff_eq.mpr c16
         have c16b1:=bne_eq_false_iff_eq.mpr c16
         clear c16
         (first|rw [c16b0]|(simp only[i64_w,i32_w];rw [c16b0])|skip)
         have H':=ak H
         clear H
         go_wp2
         go_meet
         case rel=>exact⟨_,(true),z14_,H',⟨z162_⟩,⟨z12_ HO_3⟩,⟨Hd.b_⟩⟩
        rw [if_neg c16] at H
        have c16b0:=beq_eq_false_iff_ne.mpr c16
        have c16b1:=bne_iff_ne.mpr c16
        (first|rw [c16b0]|(simp only[i64_w,i32_w];rw [c16b0])|skip)
        by_cases c17:x29_3=0;rotate_left
        ·
         rw [if_neg c17] at H
         have c17b0:=beq_eq_false_iff_ne.mpr c17
         have c17b1:=bne_iff_ne.mpr c17
         have H':=ak H
         clear H
         go_wp2
         go_meet
         case rel=>exact⟨_,(false),z14_,H',⟨z162_⟩,⟨z12_ HO_3⟩,⟨Hd.b_⟩⟩
        rw [if_pos c17] at H
        have c17b0:=beq_iff_eq.mpr c17
        have c17b1:=bne_eq_false_iff_eq.mpr c17
        clear c17
        have H':=ak H
        clear H
        go_wp2
        go_meet
        case rel=>exact⟨_,((x19_2==(wrap64 ((t196.length:Int)-1)))),z14_,H',⟨z162_⟩,⟨z12_ HO_3⟩,⟨Hd.b_⟩⟩
       case rest =>
        clear HC15
        try clear c3;try clear c3b0;try clear c3b1;try clear c4;try clear c8;try clear c8b0;try clear c9;try clear c9b0;try clear c10;try clear c10b0;try clear c12;try clear c14;try clear c14b0;try clear c16;try clear c16b0;try clear c16b1;try clear c17;try clear c17b0;try clear c17b1;try clear hx199_0;try clear hx199_1;try clear hx199_2;try clear hx199_3;try clear p199;try clear q199
        obtain⟨kq,x46_14,rfl,HA,HJ14,HO_3,HB⟩:=hcut
        cases kq with
        | zero=>exact absurd HA.out (by simp [impl_IsRing.j3])
        | succ kj14 =>
         have H:=HA.out
         clear HA
         simp only[impl_IsRing.j3] at H
         by_cases c18:x46_14=true
         ·
          subst c18
          rw [if_pos rfl] at H
          by_cases c19:0≤x19_2;rotate_left
          ·
           rw [if_neg c19] at H
           exact absurd H (by simp)
          rw [if_pos c19] at H
          have c19b0:=decide_eq_true c19
          clear c19
          by_cases c20:x19_2<(t196.length:Int);rotate_left
          ·
           rw [if_neg c20] at H
           exact absurd H (by simp)
          rw [if_pos c20] at H
          have c20b0:=decide_eq_true c20
          clear c20
          by_cases c21:0≤x29_3;rotate_left
          ·
           rw [if_neg c21] at H
           exact absurd H (by simp)
          rw [if_pos c21] at H
          have c21b0:=decide_eq_true c21
          clear c21
          by_cases c22:x29_3<(t196.length:Int);rotate_left
          ·
           rw [if_neg c22] at H
           exact absurd H (by simp)
          rw [if_pos c22] at H
          have c22b0:=decide_eq_true c22
          clear c22
          replace H:=Hd.bd_ H;obtain⟨t203,A23,H⟩:=H
          by_cases c24:t203=1;rotate_left
          ·
           rw [if_neg c24] at H
           have c24b0:=beq_eq_false_iff_ne.mpr c24
           have c24b1:=bne_iff_ne.mpr c24
           obtain rfl:=Option.some.inj H
           try go_wp2
           replace HO_3:=z97_ HO_3
           replace HB:=z42_
           have p201:0≤(x19_2:Int):=od_
           have q201:x19_2<(t196.length:Int):=od_
           obtain⟨ad201,e201,hx201_0,hx201_1,hx201_2,hx201_3⟩:=at_T101 (Kd.R_reads' HO_3.out).2.2 x19_2 p201 q201
           obtain rfl:ad199=ad201:=(by injection e201)
           replace p201:=eq_true p201
           replace q201:=eq_true q201
           have p202:0≤(x29_3:Int):=od_
           have q202:x29_3<(t196.length:Int):=od_
           obtain⟨ad202,e202,hx202_0,hx202_1,hx202_2,hx202_3⟩:=at_T101 (Kd.R_reads' HO_3.out).2.2 x29_3 p202 q202
           obtain rfl:ad199=ad202:=(by injection e202)
           replace p202:=eq_true p202
           replace q202:=eq_true q202
           have s0_:=Hd.HW.x (W0:=wc.drew) hx201_0
           have s1_:=Hd.HW.x (W0:=wc.drew) hx201_1
           have s2_:=Hd.HW.x (W0:=wc.drew) hx201_2
           have s3_:=Hd.HW.x (W0:=wc.drew) hx201_3
           have s4_:=Hd.HW.x (W0:=wc.drew) hx202_0
           have s5_:=Hd.HW.x (W0:=wc.drew) hx202_1
           have s6_:=Hd.HW.x (W0:=wc.drew) hx202_2
           have s7_:=Hd.HW.x (W0:=wc.drew) hx202_3
           refine Hd.HW.region (by kernel_rfl) (by kernel_rfl) ?_
           repeat (go_big_quiet_step ((first|(go_at_call 76;with_reducible exact Hd.HW.c (impl_HowMeet.calls kj14 ((rd_T101 t196 x19_2).f0.f0) ((rd_T101 t196 x19_2).f0.f1) ((rd_T101 t196 x19_2).f1.f0) ((rd_T101 t196 x19_2).f1.f1) ((rd_T101 t196 x29_3).f0.f0) ((rd_T101 t196 x29_3).f0.f1) ((rd_T101 t196 x29_3).f1.f0) ((rd_T101 t196 x29_3).f1.f1) t203 _ A23.out)))))
           refine wpQuiet_nil ?_
           intro _ hq_
           obtain⟨q_,rfl⟩:=hq_
           clear s0_ s1_ s2_ s3_ s4_ s5_ s6_ s7_
           replace HO_3:=z89_ HO_3
           replace HB:=z58_
           replace hx201_0:=q_.cell hx201_0
           replace hx201_1:=q_.cell hx201_1
           replace hx201_2:=q_.cell hx201_2
           replace hx201_3:=q_.cell hx201_3
           replace hx202_0:=q_.cell hx202_0
           replace hx202_1:=q_.cell hx202_1
           replace hx202_2:=q_.cell hx202_2
           replace hx202_3:=q_.cell hx202_3
           generalize q_.W=w28 at HO_3 HB hx201_0 hx201_1 hx201_2 hx201_3 hx202_0 hx202_1 hx202_2 hx202_3 ⊢
           try simp only[i64_w,i32_w]
           try go_wp2
           go_ret
           exact⟨Hd.e_,Hd.b_⟩
          rw [if_pos c24] at H
          have c24b0:=beq_iff_eq.mpr c24
          have c24b1:=bne_eq_false_iff_eq.mpr c24
          clear c24
          have H':=ak H
          clear H
          try go_wp2
          replace HO_3:=z97_ HO_3
          replace HB:=z42_
          have p201:0≤(x19_2:Int):=od_
          have q201:x19_2<(t196.length:Int):=od_
          obtain⟨ad201,e201,hx201_0,hx201_1,hx201_2,hx201_3⟩:=at_T101 (Kd.R_reads' HO_3.out).2.2 x19_2 p201 q201
          obtain rfl:ad199=ad201:=(by injection e201)
          replace p201:=eq_true p201
          replace q201:=eq_true q201
          have p202:0≤(x29_3:Int):=od_
          have q202:x29_3<(t196.length:Int):=od_
          obtain⟨ad202,e202,hx202_0,hx202_1,hx202_2,hx202_3⟩:=at_T101 (Kd.R_reads' HO_3.out).2.2 x29_3 p202 q202
          obtain rfl:ad199=ad202:=(by injection e202)
          replace p202:=eq_true p202
          replace q202:=eq_true q202
          have s0_:=Hd.HW.x (W0:=wc.drew) hx201_0
          have s1_:=Hd.HW.x (W0:=wc.drew) hx201_1
          have s2_:=Hd.HW.x (W0:=wc.drew) hx201_2
          have s3_:=Hd.HW.x (W0:=wc.drew) hx201_3
          have s4_:=Hd.HW.x (W0:=wc.drew) hx202_0
          have s5_:=Hd.HW.x (W0:=wc.drew) hx202_1
          have s6_:=Hd.HW.x (W0:=wc.drew) hx202_2
          have s7_:=Hd.HW.x (W0:=wc.drew) hx202_3
          refine Hd.HW.region (by kernel_rfl) (by kernel_rfl) ?_
          repeat (go_big_quiet_step ((first|(go_at_call 76;with_reducible exact Hd.HW.c (impl_HowMeet.calls kj14 ((rd_T101 t196 x19_2).f0.f0) ((rd_T101 t196 x19_2).f0.f1) ((rd_T101 t196 x19_2).f1.f0) ((rd_T101 t196 x19_2).f1.f1) ((rd_T101 t196 x29_3).f0.f0) ((rd_T101 t196 x29_3).f0.f1) ((rd_T101 t196 x29_3).f1.f0) ((rd_T101 t196 x29_3).f1.f1) t203 _ A23.out)))))
          refine wpQuiet_nil ?_
          intro _ hq_
          obtain⟨q_,rfl⟩:=hq_
          clear s0_ s1_ s2_ s3_ s4_ s5_ s6_ s7_
          replace HO_3:=z89_ HO_3
          replace HB:=z58_
          replace hx201_0:=q_.cell hx201_0
          replace hx201_1:=q_.cell hx201_1
          replace hx201_2:=q_.cell hx201_2
          replace hx201_3:=q_.cell hx201_3
          replace hx202_0:=q_.cell hx202_0
          replace hx202_1:=q_.cell hx202_1
          replace hx202_2:=q_.cell hx202_2
          replace hx202_3:=q_.cell hx202_3
          generalize q_.W=w26 at HO_3 HB hx201_0 hx201_1 hx201_2 hx201_3 hx202_0 hx202_1 hx202_2 hx202_3 ⊢
          try simp only[i64_w,i32_w]
          try go_wp2
          go_roundg kj14
          case measure=>have:=HJ1.out;have:=HK2.out;have:=HK3.out;have:=HJ14.out;omega
          case rel=>exact⟨(wrap64 (x29_3+1)),z14_,H',⟨by have:=HJ1.out;have:=HK2.out;have:=HK3.out;have:=HJ14.out;omega⟩,⟨z12_ HO_3⟩,⟨Hd.b_⟩⟩
         replace c18:=Bool.eq_false_iff.mpr c18
         subst c18
         rw [if_neg (show ¬ (false=true) by decide)] at H
         by_cases c29:0≤x19_2;rotate_left
         ·
          rw [if_neg c29] at H
          exact absurd H (by simp)
         rw [if_pos c29] at H
         have c29b0:=decide_eq_true c29
         clear c29
         by_cases c30:x19_2<(t196.length:Int);rotate_left
         ·
          rw [if_neg c30] at H
          exact absurd H (by simp)
         rw [if_pos c30] at H
         have c30b0:=decide_eq_true c30
         clear c30
         by_cases c31:0≤x29_3;rotate_left
         ·
          rw [if_neg c31] at H
          exact absurd H (by simp)
         rw [if_pos c31] at H
         have c31b0:=decide_eq_true c31
         clear c31
         by_cases c32:x29_3<(t196.length:Int);rotate_left
         ·
          rw [if_neg c32] at H
          exact absurd H (by simp)
         rw [if_pos c32] at H
         have c32b0:=decide_eq_true c32
         clear c32
         replace H:=Hd.bd_ H;obtain⟨t206,A33,H⟩:=H
         by_cases c34:t206=0;rotate_left
         ·
          rw [if_neg c34] at H
          have c34b0:=beq_eq_false_iff_ne.mpr c34
          have c34b1:=bne_iff_ne.mpr c34
          obtain rfl:=Option.some.inj H
          try go_wp2
          replace HO_3:=z97_ HO_3
          replace HB:=z42_
          have p204:0≤(x19_2:Int):=od_
          have q204:x19_2<(t196.length:Int):=od_
          obtain⟨ad204,e204,hx204_0,hx204_1,hx204_2,hx204_3⟩:=at_T101 (Kd.R_reads' HO_3.out).2.2 x19_2 p204 q204
          obtain rfl:ad199=ad204:=(by injection e204)
          replace p204:=eq_true p204
          replace q204:=eq_true q204
          have p205:0≤(x29_3:Int):=od_
          have q205:x29_3<(t196.length:Int):=od_
          obtain⟨ad205,e205,hx205_0,hx205_1,hx205_2,hx205_3⟩:=at_T101 (Kd.R_reads' HO_3.out).2.2 x29_3 p205 q205
          obtain rfl:ad199=ad205:=(by injection e205)
          replace p205:=eq_true p205
          replace q205:=eq_true q205
          have s0_:=Hd.HW.x (W0:=wc.drew) hx204_0
          have s1_:=Hd.HW.x (W0:=wc.drew) hx204_1
          have s2_:=Hd.HW.x (W0:=wc.drew) hx204_2
          have s3_:=Hd.HW.x (W0:=wc.drew) hx204_3
          have s4_:=Hd.HW.x (W0:=wc.drew) hx205_0
          have s5_:=Hd.HW.x (W0:=wc.drew) hx205_1
          have s6_:=Hd.HW.x (W0:=wc.drew) hx205_2
          have s7_:=Hd.HW.x (W0:=wc.drew) hx205_3
          refine Hd.HW.region (by kernel_rfl) (by kernel_rfl) ?_
          repeat (go_big_quiet_step ((first|(go_at_call 76;with_reducible exact Hd.HW.c (impl_HowMeet.calls kj14 ((rd_T101 t196 x19_2).f0.f0) ((rd_T101 t196 x19_2).f0.f1) ((rd_T101 t196 x19_2).f1.f0) ((rd_T101 t196 x19_2).f1.f1) ((rd_T101 t196 x29_3).f0.f0) ((rd_T101 t196 x29_3).f0.f1) ((rd_T101 t196 x29_3).f1.f0) ((rd_T101 t196 x29_3).f1.f1) t206 _ A33.out)))))
          refine wpQuiet_nil ?_
          intro _ hq_
          obtain⟨q_,rfl⟩:=hq_
          clear s0_ s1_ s2_ s3_ s4_ s5_ s6_ s7_
          replace HO_3:=z89_ HO_3
          replace HB:=z58_
          replace hx204_0:=q_.cell hx204_0
          replace hx204_1:=q_.cell hx204_1
          replace hx204_2:=q_.cell hx204_2
          replace hx204_3:=q_.cell hx204_3
          replace hx205_0:=q_.cell hx205_0
          replace hx205_1:=q_.cell hx205_1
          replace hx205_2:=q_.cell hx205_2
          replace hx205_3:=q_.cell hx205_3
          generalize q_.W=w38 at HO_3 HB hx204_0 hx204_1 hx204_2 hx204_3 hx205_0 hx205_1 hx205_2 hx205_3 ⊢
          try simp only[i64_w,i32_w]
          try go_wp2
          go_ret
          exact⟨Hd.e_,Hd.b_⟩
         rw [if_pos c34] at H
         have c34b0:=beq_iff_eq.mpr c34
         have c34b1:=bne_eq_false_iff_eq.mpr c34
         clear c34
         have H':=ak H
         clear H
         try go_wp2
         replace HO_3:=z97_ HO_3
         replace HB:=z42_
         have p204:0≤(x19_2:Int):=od_
         have q204:x19_2<(t196.length:Int):=od_
         obtain⟨ad204,e204,hx204_0,hx204_1,hx204_2,hx204_3⟩:=at_T101 (Kd.R_reads' HO_3.out).2.2 x19_2 p204 q204
         obtain rfl:ad199=ad204:=(by injection e204)
         replace p204:=eq_true p204
         replace q204:=eq_true q204
         have p205:0≤(x29_3:Int):=od_
         have q205:x29_3<(t196.length:Int):=od_
         obtain⟨ad205,e205,hx205_0,hx205_1,hx205_2,hx205_3⟩:=at_T101 (Kd.R_reads' HO_3.out).2.2 x29_3 p205 q205
         obtain rfl:ad199=ad205:=(by injection e205)
         replace p205:=eq_true p205
         replace q205:=eq_true q205
         have s0_:=Hd.HW.x (W0:=wc.drew) hx204_0
         have s1_:=Hd.HW.x (W0:=wc.drew) hx204_1
         have s2_:=Hd.HW.x (W0:=wc.drew) hx204_2
         have s3_:=Hd.HW.x (W0:=wc.drew) hx204_3
         have s4_:=Hd.HW.x (W0:=wc.drew) hx205_0
         have s5_:=Hd.HW.x (W0:=wc.drew) hx205_1
         have s6_:=Hd.HW.x (W0:=wc.drew) hx205_2
         have s7_:=Hd.HW.x (W0:=wc.drew) hx205_3
         refine Hd.HW.region (by kernel_rfl) (by kernel_rfl) ?_
         repeat (go_big_quiet_step ((first|(go_at_call 76;with_reducible exact Hd.HW.c (impl_HowMeet.calls kj14 ((rd_T101 t196 x19_2).f0.f0) ((rd_T101 t196 x19_2).f0.f1) ((rd_T101 t196 x19_2).f1.f0) ((rd_T101 t196 x19_2).f1.f1) ((rd_T101 t196 x29_3).f0.f0) ((rd_T101 t196 x29_3).f0.f1) ((rd_T101 t196 x29_3).f1.f0) ((rd_T101 t196 x29_3).f1.f1) t206 _ A33.out)))))
         refine wpQuiet_nil ?_
         intro _ hq_
         obtain⟨q_,rfl⟩:=hq_
         clear s0_ s1_ s2_ s3_ s4_ s5_ s6_ s7_
         replace HO_3:=z89_ HO_3
         replace HB:=z58_
         replace hx204_0:=q_.cell hx204_0
         replace hx204_1:=q_.cell hx204_1
         replace hx204_2:=q_.cell hx204_2
         replace hx204_3:=q_.cell hx204_3
         replace hx205_0:=q_.cell hx205_0
         replace hx205_1:=q_.cell hx205_1
         replace hx205_2:=q_.cell hx205_2
         replace hx205_3:=q_.cell hx205_3
         generalize q_.W=w36 at HO_3 HB hx204_0 hx204_1 hx204_2 hx204_3 hx205_0 hx205_1 hx205_2 hx205_3 ⊢
         try simp only[i64_w,i32_w]
         try go_wp2
         go_roundg kj14
         case measure=>have:=HJ1.out;have:=HK2.out;have:=HK3.out;have:=HJ14.out;omega
         case rel=>exact⟨(wrap64 (x29_3+1)),z14_,H',⟨by have:=HJ1.out;have:=HK2.out;have:=HK3.out;have:=HJ14.out;omega⟩,⟨z12_ HO_3⟩,⟨Hd.b_⟩⟩
end Go.Proofs.Ytbbdhlggnglfgaa.MFnFeatures
