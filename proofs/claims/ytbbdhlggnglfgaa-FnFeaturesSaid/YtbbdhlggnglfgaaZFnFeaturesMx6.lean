-- Laid by this session's program pp.py, after the kit's print and texts of the session's own. Not trusted: Lean checks it.
import Derived.Test.YtbbdhlggnglfgaaZFnFeaturesMx0
import Derived.Test.YtbbdhlggnglfgaaZFnFeaturesMx4
import Derived.Test.YtbbdhlggnglfgaaZFnFeaturesMx5
namespace Go.Proofs.Ytbbdhlggnglfgaa.MFnFeatures
open Go.RowKit Go.Proofs.YtbbdhlggnglfgaaW.PrintWords Go.Proofs.YtbbdhlggnglfgaaW.PrintLast Go.Proofs.YtbbdhlggnglfgaaW.PrintMore
attribute [local go_sem] max2_int min2_int max_two min_two max_three min_three max_four min_four
set_option linter.unusedVariables false
set_option maxHeartbeats 8000000
set_option maxRecDepth 100000
set_option linter.unusedSimpArgs false
mutual
def impl_IsSimple.l0:Nat→List (S101)→Int→Int→Option (Bool)
 | 0,_,_,_=>none
 | k+1,x3,x13,x14=>if x14<x13 then (impl_IsSimple.l1 k x3 x14 x13 x14 x14 0) else (some true)
def impl_IsSimple.l1:Nat→List (S101)→Int→Int→Int→Int→Int→Option (Bool)
 | 0,_,_,_,_,_,_=>none
 | k+1,x3,x4,x13,x14,x17,x18=>if x18<x17 then (if x18=(wrap64 (x4-1)) then (if 0≤x4 then (if x4<(x3.length:Int) then (if 0≤x18 then (if x18<(x3.length:Int) then ((impl_HowMeet.f k ((rd_T101 x3 x4).f0.f0) ((rd_T101 x3 x4).f0.f1) ((rd_T101 x3 x4).f1.f0) ((rd_T101 x3 x4).f1.f1) ((rd_T101 x3 x18).f0.f0) ((rd_T101 x3 x18).f0.f1) ((rd_T101 x3 x18).f1.f0) ((rd_T101 x3 x18).f1.f1)).bind fun t183=>(if t183=1 then (impl_IsSimple.l1 k x3 x4 x13 x14 x17 (wrap64 (x18+1))) else (some false))) else (none)) else (none)) else (none)) else (none)) else (if 0≤x4 then (if x4<(x3.length:Int) then (if 0≤x18 then (if x18<(x3.length:Int) then ((impl_HowMeet.f k ((rd_T101 x3 x4).f0.f0) ((rd_T101 x3 x4).f0.f1) ((rd_T101 x3 x4).f1.f0) ((rd_T101 x3 x4).f1.f1) ((rd_T101 x3 x18).f0.f0) ((rd_T101 x3 x18).f0.f1) ((rd_T101 x3 x18).f1.f0) ((rd_T101 x3 x18).f1.f1)).bind fun t186=>(if t186=0 then (impl_IsSimple.l1 k x3 x4 x13 x14 x17 (wrap64 (x18+1))) else (some false))) else (none)) else (none)) else (none)) else (none))) else (impl_IsSimple.l0 k x3 x13 (wrap64 (x14+1)))
end
def impl_IsSimple.f (k:Nat) (l0:List (S75)):Option (Bool):=(impl_IsLine.f k l0).bind fun t177=>(if t177=true then ((impl_SegmentsOf.f k l0).bind fun t178=>(impl_IsSimple.l0 k t178 (t178.length:Int) 0)) else (some false))
theorem impl_IsSimple.calls (k:Nat) (A0:Option Addr) (c0:Nat) (l0:List (S75)) (r:Bool) (w:World) (hr0:Kd.C k75 w A0 l0.length l0) (hc0:l0.length≤c0) (h:impl_IsSimple.f k l0=some r) :
  Calls Try.prog 74 #[.slice A0 l0.length c0] w fun e w'=>e = .returned (.bool r)∧Below w.heap.size w w':=by
 have hu101:=Try.underlying101
 have HR0:=ak hr0
 have HC0:=ak hc0
 clear hr0 hc0
 have HB:=z52_
 have H:=h;clear h;unfold impl_IsSimple.f at H
 replace H:=Hd.bd_ H;obtain⟨t177,A2,H⟩:=H
 by_cases c3:t177=true;rotate_left
 ·
  replace c3:=z163_
  subst c3
  rw [if_neg (show ¬ (false=true) by decide)] at H
  obtain rfl:=Option.some.inj H
  go_enter Try.func74,Try.ntmps74
  go_wp2_with (first|((with_reducible refine gate_callee (f:=88) rfl ?_);refine Hd.gl_ 8 Try.func88 #[.slice A0 l0.length c0] ?_;(with_reducible refine(impl_IsLine.calls k _ _ l0 false _ ?side1 ?side2 A2.out).mono ?_);(case side1=>exact z37_ HR0);(case side2=>exact HC0.out);rintro e w31 ⟨rfl,hb⟩;refine⟨_,rfl,?_⟩;replace HB:=z17_;(try clear hb)))
  go_ret
  exact⟨Hd.e_,Hd.b_⟩
 subst c3
 rw [if_pos rfl] at H
 replace H:=Hd.bd_ H;obtain⟨t178,A4,H⟩:=H
 have H':=ak H
 clear H
 go_enter Try.func74,Try.ntmps74
 go_wp2_with (first|((with_reducible refine gate_callee (f:=88) rfl ?_);refine Hd.gl_ 8 Try.func88 #[.slice A0 l0.length c0] ?_;(with_reducible refine(impl_IsLine.calls k _ _ l0 true _ ?side1 ?side2 A2.out).mono ?_);(case side1=>exact z37_ HR0);(case side2=>exact HC0.out);rintro e w5 ⟨rfl,hb⟩;refine⟨_,rfl,?_⟩;replace HB:=z17_;(try clear hb))|((with_reducible refine gate_callee (f:=77) rfl ?_);refine Hd.gl_ 11 Try.func77 #[.slice A0 l0.length c0] ?_;(with_reducible refine(impl_SegmentsOf.calls k _ _ l0 t178 _ ?side1 ?side2 A4.out).mono ?_);(case side1=>exact z15_ HR0);(case side2=>exact HC0.out);rintro e w6 ⟨v179,rfl,ho0,hb⟩;refine⟨_,rfl,?_⟩;have HO180:=z140_;replace HB:=z17_;(try clear hb);(try clear hk);(try clear hi);(try clear ho0);obtain⟨Ao7,co7,eo7⟩:=Kd.R_slice HO180.out;subst eo7))
 go_loopg [14] k (fun kq v14 w'=>∃ (x14_1:Int),v14 = .int .i64 x14_1∧Aside0 (impl_IsSimple.l0 kq t178 (t178.length:Int) x14_1=some r)∧Aside0 (kq≤k)∧Aside0 (Kd.R k101 101 w' w.heap.size (fun _=>True) (.slice Ao7 t178.length co7) t178)∧Aside0 (Below w.heap.size w w'))
 case atStart=>exact⟨(0),z14_,H',⟨Nat.le_refl _⟩,⟨z12_ HO180⟩,⟨Hd.b_⟩⟩
 case round =>
  clear H'
  try clear c3
  obtain⟨x14_1,rfl,HA,HK1,HO_3,HB⟩:=hrel
  cases gk with
  | zero=>exact absurd HA.out (by simp [impl_IsSimple.l0])
  | succ k1 =>
   have H:=HA.out
   clear HA
   simp only[impl_IsSimple.l0] at H
   by_cases c8:x14_1<(t178.length:Int);rotate_left
   ·
    rw [if_neg c8] at H
    have c8b0:=decide_eq_false c8
    clear c8
    obtain rfl:=Option.some.inj H
    go_wp2
    go_ret
    exact⟨Hd.e_,Hd.b_⟩
   rw [if_pos c8] at H
   have c8b0:=decide_eq_true c8
   clear c8
   have H':=ak H
   clear H
   go_wp2
   go_loopg [18] k1 (fun kq v18 w'=>∃ (x18_2:Int),v18 = .int .i64 x18_2∧Aside0 (impl_IsSimple.l1 kq t178 x14_1 (t178.length:Int) x14_1 x14_1 x18_2=some r)∧Aside0 (kq≤k1)∧Aside0 (Kd.R k101 101 w' w.heap.size (fun _=>True) (.slice Ao7 t178.length co7) t178)∧Aside0 (Below w.heap.size w w'))
   case atStart=>exact⟨(0),z14_,H',⟨Nat.le_refl _⟩,⟨z12_ HO_3⟩,⟨Hd.b_⟩⟩
   case round =>
    clear H'
    try clear c3;try clear c8;try clear c8b0
    obtain⟨x18_2,rfl,HA,HK2,HO_3,HB⟩:=hrel
    cases gk with
    | zero=>exact absurd HA.out (by simp [impl_IsSimple.l1])
    | succ k2 =>
     have H:=HA.out
     clear HA
     simp only[impl_IsSimple.l1] at H
     by_cases c9:x18_2<x14_1;rotate_left
     ·
      rw [if_neg c9] at H
      have c9b0:=decide_eq_false c9
      clear c9
      have H':=ak H
      clear H
      go_wp2
      go_roundg k2
      case measure=>have:=HK1.out;have:=HK2.out;omega
      case rel=>exact⟨(wrap64 (x14_1+1)),z14_,H',⟨z145_⟩,⟨z12_ HO_3⟩,⟨Hd.b_⟩⟩
     rw [if_pos c9] at H
     have c9b0:=decide_eq_true c9
     clear c9
     by_cases c10:x18_2=(wrap64 (x14_1-1));rotate_left
     ·
      rw [if_neg c10] at H
      have c10b0:=beq_eq_false_iff_ne.mpr c10
      have c10b1:=bne_iff_ne.mpr c10
      by_cases c21:0≤x14_1;rotate_left
      ·
       rw [if_neg c21] at H
       exact absurd H (by simp)
      rw [if_pos c21] at H
      have c21b0:=decide_eq_true c21
      clear c21
      by_cases c22:x14_1<(t178.length:Int);rotate_left
      ·
       rw [if_neg c22] at H
       exact absurd H (by simp)
      rw [if_pos c22] at H
      have c22b0:=decide_eq_true c22
      clear c22
      by_cases c23:0≤x18_2;rotate_left
      ·
       rw [if_neg c23] at H
       exact absurd H (by simp)
      rw [if_pos c23] at H
      have c23b0:=decide_eq_true c23
      clear c23
      by_cases c24:x18_2<(t178.length:Int);rotate_left
      ·
       rw [if_neg c24] at H
       exact absurd H (by simp)
      rw [if_pos c24] at H
      have c24b0:=decide_eq_true c24
      clear c24
      replace H:=Hd.bd_ H;obtain⟨t186,A25,H⟩:=H
      by_cases c26:t186=0;rotate_left
      ·
       rw [if_neg c26] at H
       have c26b0:=beq_eq_false_iff_ne.mpr c26
       have c26b1:=bne_iff_ne.mpr c26
       obtain rfl:=Option.some.inj H
       try go_wp2
       replace HO_3:=z97_ HO_3
       replace HB:=z42_
       have p184:0≤(x14_1:Int):=od_
       have q184:x14_1<(t178.length:Int):=od_
       obtain⟨ad184,e184,hx184_0,hx184_1,hx184_2,hx184_3⟩:=at_T101 (Kd.R_reads' HO_3.out).2.2 x14_1 p184 q184
       cases e184
       replace p184:=eq_true p184
       replace q184:=eq_true q184
       have p185:0≤(x18_2:Int):=od_
       have q185:x18_2<(t178.length:Int):=od_
       obtain⟨ad185,e185,hx185_0,hx185_1,hx185_2,hx185_3⟩:=at_T101 (Kd.R_reads' HO_3.out).2.2 x18_2 p185 q185
       obtain rfl:ad184=ad185:=(by injection e185)
       replace p185:=eq_true p185
       replace q185:=eq_true q185
       have s0_:=Hd.HW.x (W0:=wr.drew) hx184_0
       have s1_:=Hd.HW.x (W0:=wr.drew) hx184_1
       have s2_:=Hd.HW.x (W0:=wr.drew) hx184_2
       have s3_:=Hd.HW.x (W0:=wr.drew) hx184_3
       have s4_:=Hd.HW.x (W0:=wr.drew) hx185_0
       have s5_:=Hd.HW.x (W0:=wr.drew) hx185_1
       have s6_:=Hd.HW.x (W0:=wr.drew) hx185_2
       have s7_:=Hd.HW.x (W0:=wr.drew) hx185_3
       refine Hd.HW.region (by kernel_rfl) (by kernel_rfl) ?_
       repeat (go_big_quiet_step ((first|(go_at_call 76;with_reducible exact Hd.HW.c (impl_HowMeet.calls k2 ((rd_T101 t178 x14_1).f0.f0) ((rd_T101 t178 x14_1).f0.f1) ((rd_T101 t178 x14_1).f1.f0) ((rd_T101 t178 x14_1).f1.f1) ((rd_T101 t178 x18_2).f0.f0) ((rd_T101 t178 x18_2).f0.f1) ((rd_T101 t178 x18_2).f1.f0) ((rd_T101 t178 x18_2).f1.f1) t186 _ A25.out)))))
       refine wpQuiet_nil ?_
       intro _ hq_
       obtain⟨q_,rfl⟩:=hq_
       clear s0_ s1_ s2_ s3_ s4_ s5_ s6_ s7_
       replace HO_3:=z89_ HO_3
       replace HB:=z58_
       replace hx184_0:=q_.cell hx184_0
       replace hx184_1:=q_.cell hx184_1
       replace hx184_2:=q_.cell hx184_2
       replace hx184_3:=q_.cell hx184_3
       replace hx185_0:=q_.cell hx185_0
       replace hx185_1:=q_.cell hx185_1
       replace hx185_2:=q_.cell hx185_2
       replace hx185_3:=q_.cell hx185_3
       generalize q_.W=w30 at HO_3 HB hx184_0 hx184_1 hx184_2 hx184_3 hx185_0 hx185_1 hx185_2 hx185_3 ⊢
       try simp only[i64_w,i32_w]
       try go_wp2
       go_ret
       exact⟨Hd.e_,Hd.b_⟩
      rw [if_pos c26] at H
      have c26b0:=beq_iff_eq.mpr c26
      have c26b1:=bne_eq_false_iff_eq.mpr c26
      clear c26
      have H':=ak H
      clear H
      try go_wp2
      replace HO_3:=z97_ HO_3
      replace HB:=z42_
      have p184:0≤(x14_1:Int):=od_
      have q184:x14_1<(t178.length:Int):=od_
      obtain⟨ad184,e184,hx184_0,hx184_1,hx184_2,hx184_3⟩:=at_T101 (Kd.R_reads' HO_3.out).2.2 x14_1 p184 q184
      cases e184
      replace p184:=eq_true p184
      replace q184:=eq_true q184
      have p185:0≤(x18_2:Int):=od_
      have q185:x18_2<(t178.length:Int):=od_
      obtain⟨ad185,e185,hx185_0,hx185_1,hx185_2,hx185_3⟩:=at_T101 (Kd.R_reads' HO_3.out).2.2 x18_2 p185 q185
      obtain rfl:ad184=ad185:=(by injection e185)
      replace p185:=eq_true p185
      replace q185:=eq_true q185
      have s0_:=Hd.HW.x (W0:=wr.drew) hx184_0
      have s1_:=Hd.HW.x (W0:=wr.drew) hx184_1
      have s2_:=Hd.HW.x (W0:=wr.drew) hx184_2
      have s3_:=Hd.HW.x (W0:=wr.drew) hx184_3
      have s4_:=Hd.HW.x (W0:=wr.drew) hx185_0
      have s5_:=Hd.HW.x (W0:=wr.drew) hx185_1
      have s6_:=Hd.HW.x (W0:=wr.drew) hx185_2
      have s7_:=Hd.HW.x (W0:=wr.drew) hx185_3
      refine Hd.HW.region (by kernel_rfl) (by kernel_rfl) ?_
      repeat (go_big_quiet_step ((first|(go_at_call 76;with_reducible exact Hd.HW.c (impl_HowMeet.calls k2 ((rd_T101 t178 x14_1).f0.f0) ((rd_T101 t178 x14_1).f0.f1) ((rd_T101 t178 x14_1).f1.f0) ((rd_T101 t178 x14_1).f1.f1) ((rd_T101 t178 x18_2).f0.f0) ((rd_T101 t178 x18_2).f0.f1) ((rd_T101 t178 x18_2).f1.f0) ((rd_T101 t178 x18_2).f1.f1) t186 _ A25.out)))))
      refine wpQuiet_nil ?_
      intro _ hq_
      obtain⟨q_,rfl⟩:=hq_
      clear s0_ s1_ s2_ s3_ s4_ s5_ s6_ s7_
      replace HO_3:=z89_ HO_3
      replace HB:=z58_
      replace hx184_0:=q_.cell hx184_0
      replace hx184_1:=q_.cell hx184_1
      replace hx184_2:=q_.cell hx184_2
      replace hx184_3:=q_.cell hx184_3
      replace hx185_0:=q_.cell hx185_0
      replace hx185_1:=q_.cell hx185_1
      replace hx185_2:=q_.cell hx185_2
      replace hx185_3:=q_.cell hx185_3
      generalize q_.W=w28 at HO_3 HB hx184_0 hx184_1 hx184_2 hx184_3 hx185_0 hx185_1 hx185_2 hx185_3 ⊢
      try simp only[i64_w,i32_w]
      try go_wp2
      go_roundg k2
      case measure=>have:=HK1.out;have:=HK2.out;omega
      case rel=>exact⟨(wrap64 (x18_2+1)),z14_,H',⟨z145_⟩,⟨z12_ HO_3⟩,⟨Hd.b_⟩⟩
     rw [if_pos c10] at H
     have c10b0:=beq_iff_eq.mpr c10
     have c10b1:=bne_eq_false_iff_eq.mpr c10
     clear c10
     by_cases c11:0≤x14_1;rotate_left
     ·
      rw [if_neg c11] at H
      exact absurd H (by simp)
     rw [if_pos c11] at H
     have c11b0:=decide_eq_true c11
     clear c11
     by_cases c12:x14_1<(t178.length:Int);rotate_left
     ·
      rw [if_neg c12] at H
      exact absurd H (by simp)
     rw [if_pos c12] at H
     have c12b0:=decide_eq_true c12
     clear c12
     by_cases c13:0≤x18_2;rotate_left
     ·
      rw [if_neg c13] at H
      exact absurd H (by simp)
     rw [if_pos c13] at H
     have c13b0:=decide_eq_true c13
     clear c13
     by_cases c14:x18_2<(t178.length:Int);rotate_left
     ·
      rw [if_neg c14] at H
      exact absurd H (by simp)
     rw [if_pos c14] at H
     have c14b0:=decide_eq_true c14
     clear c14
     replace H:=Hd.bd_ H;obtain⟨t183,A15,H⟩:=H
     by_cases c16:t183=1;rotate_left
     ·
      rw [if_neg c16] at H
      have c16b0:=beq_eq_false_iff_ne.mpr c16
      have c16b1:=bne_iff_ne.mpr c16
      obtain rfl:=Option.some.inj H
      try go_wp2
      replace HO_3:=z97_ HO_3
      replace HB:=z42_
      have p181:0≤(x14_1:Int):=od_
      have q181:x14_1<(t178.length:Int):=od_
      obtain⟨ad181,e181,hx181_0,hx181_1,hx181_2,hx181_3⟩:=at_T101 (Kd.R_reads' HO_3.out).2.2 x14_1 p181 q181
      cases e181
      replace p181:=eq_true p181
      replace q181:=eq_true q181
      have p182:0≤(x18_2:Int):=od_
      have q182:x18_2<(t178.length:Int):=od_
      obtain⟨ad182,e182,hx182_0,hx182_1,hx182_2,hx182_3⟩:=at_T101 (Kd.R_reads' HO_3.out).2.2 x18_2 p182 q182
      obtain rfl:ad181=ad182:=(by injection e182)
      replace p182:=eq_true p182
      replace q182:=eq_true q182
      have s0_:=Hd.HW.x (W0:=wr.drew) hx181_0
      have s1_:=Hd.HW.x (W0:=wr.drew) hx181_1
      have s2_:=Hd.HW.x (W0:=wr.drew) hx181_2
      have s3_:=Hd.HW.x (W0:=wr.drew) hx181_3
      have s4_:=Hd.HW.x (W0:=wr.drew) hx182_0
      have s5_:=Hd.HW.x (W0:=wr.drew) hx182_1
      have s6_:=Hd.HW.x (W0:=wr.drew) hx182_2
      have s7_:=Hd.HW.x (W0:=wr.drew) hx182_3
      refine Hd.HW.region (by kernel_rfl) (by kernel_rfl) ?_
      repeat (go_big_quiet_step ((first|(go_at_call 76;with_reducible exact Hd.HW.c (impl_HowMeet.calls k2 ((rd_T101 t178 x14_1).f0.f0) ((rd_T101 t178 x14_1).f0.f1) ((rd_T101 t178 x14_1).f1.f0) ((rd_T101 t178 x14_1).f1.f1) ((rd_T101 t178 x18_2).f0.f0) ((rd_T101 t178 x18_2).f0.f1) ((rd_T101 t178 x18_2).f1.f0) ((rd_T101 t178 x18_2).f1.f1) t183 _ A15.out)))))
      refine wpQuiet_nil ?_
      intro _ hq_
      obtain⟨q_,rfl⟩:=hq_
      clear s0_ s1_ s2_ s3_ s4_ s5_ s6_ s7_
      replace HO_3:=z89_ HO_3
      replace HB:=z58_
      replace hx181_0:=q_.cell hx181_0
      replace hx181_1:=q_.cell hx181_1
      replace hx181_2:=q_.cell hx181_2
      replace hx181_3:=q_.cell hx181_3
      replace hx182_0:=q_.cell hx182_0
      replace hx182_1:=q_.cell hx182_1
      replace hx182_2:=q_.cell hx182_2
      replace hx182_3:=q_.cell hx182_3
      generalize q_.W=w20 at HO_3 HB hx181_0 hx181_1 hx181_2 hx181_3 hx182_0 hx182_1 hx182_2 hx182_3 ⊢
      try simp only[i64_w,i32_w]
      try go_wp2
      go_ret
      exact⟨Hd.e_,Hd.b_⟩
     rw [if_pos c16] at H
     have c16b0:=beq_iff_eq.mpr c16
     have c16b1:=bne_eq_false_iff_eq.mpr c16
     clear c16
     have H':=ak H
     clear H
     try go_wp2
     replace HO_3:=z97_ HO_3
     replace HB:=z42_
     have p181:0≤(x14_1:Int):=od_
     have q181:x14_1<(t178.length:Int):=od_
     obtain⟨ad181,e181,hx181_0,hx181_1,hx181_2,hx181_3⟩:=at_T101 (Kd.R_reads' HO_3.out).2.2 x14_1 p181 q181
     cases e181
     replace p181:=eq_true p181
     replace q181:=eq_true q181
     have p182:0≤(x18_2:Int):=od_
     have q182:x18_2<(t178.length:Int):=od_
     obtain⟨ad182,e182,hx182_0,hx182_1,hx182_2,hx182_3⟩:=at_T101 (Kd.R_reads' HO_3.out).2.2 x18_2 p182 q182
     obtain rfl:ad181=ad182:=(by injection e182)
     replace p182:=eq_true p182
     replace q182:=eq_true q182
     have s0_:=Hd.HW.x (W0:=wr.drew) hx181_0
     have s1_:=Hd.HW.x (W0:=wr.drew) hx181_1
     have s2_:=Hd.HW.x (W0:=wr.drew) hx181_2
     have s3_:=Hd.HW.x (W0:=wr.drew) hx181_3
     have s4_:=Hd.HW.x (W0:=wr.drew) hx182_0
     have s5_:=Hd.HW.x (W0:=wr.drew) hx182_1
     have s6_:=Hd.HW.x (W0:=wr.drew) hx182_2
     have s7_:=Hd.HW.x (W0:=wr.drew) hx182_3
     refine Hd.HW.region (by kernel_rfl) (by kernel_rfl) ?_
     repeat (go_big_quiet_step ((first|(go_at_call 76;with_reducible exact Hd.HW.c (impl_HowMeet.calls k2 ((rd_T101 t178 x14_1).f0.f0) ((rd_T101 t178 x14_1).f0.f1) ((rd_T101 t178 x14_1).f1.f0) ((rd_T101 t178 x14_1).f1.f1) ((rd_T101 t178 x18_2).f0.f0) ((rd_T101 t178 x18_2).f0.f1) ((rd_T101 t178 x18_2).f1.f0) ((rd_T101 t178 x18_2).f1.f1) t183 _ A15.out)))))
     refine wpQuiet_nil ?_
     intro _ hq_
     obtain⟨q_,rfl⟩:=hq_
     clear s0_ s1_ s2_ s3_ s4_ s5_ s6_ s7_
     replace HO_3:=z89_ HO_3
     replace HB:=z58_
     replace hx181_0:=q_.cell hx181_0
     replace hx181_1:=q_.cell hx181_1
     replace hx181_2:=q_.cell hx181_2
     replace hx181_3:=q_.cell hx181_3
     replace hx182_0:=q_.cell hx182_0
     replace hx182_1:=q_.cell hx182_1
     replace hx182_2:=q_.cell hx182_2
     replace hx182_3:=q_.cell hx182_3
     generalize q_.W=w18 at HO_3 HB hx181_0 hx181_1 hx181_2 hx181_3 hx182_0 hx182_1 hx182_2 hx182_3 ⊢
     try simp only[i64_w,i32_w]
     try go_wp2
     go_roundg k2
     case measure=>have:=HK1.out;have:=HK2.out;omega
     case rel=>exact⟨(wrap64 (x18_2+1)),z14_,H',⟨z145_⟩,⟨z12_ HO_3⟩,⟨Hd.b_⟩⟩
def impl_around.l0:Nat→List (S75)→List (S101)→List (S75)→Int→Int→Option ((List (S101)))
 | 0,_,_,_,_,_=>none
 | k+1,x0,x3,x7,x8,x9=>if x9<x8 then (if 0≤x9 then (if x9<(x7.length:Int) then (if (x0.length:Int)=0 then (none) else (if 0≤(Int.tmod (wrap64 (x9+1)) (x0.length:Int)) then (if (Int.tmod (wrap64 (x9+1)) (x0.length:Int))<(x0.length:Int) then (if x3.length<4398046511104 then (impl_around.l0 k x0 (x3++[(⟨(⟨(rd_T75 x7 x9).f0,(rd_T75 x7 x9).f1⟩:S75),(⟨(rd_T75 x0 (Int.tmod (wrap64 (x9+1)) (x0.length:Int))).f0,(rd_T75 x0 (Int.tmod (wrap64 (x9+1)) (x0.length:Int))).f1⟩:S75)⟩:S101)]) x7 x8 (wrap64 (x9+1))) else (none)) else (none)) else (none))) else (none)) else (none)) else (some x3)
def impl_around.f (k:Nat) (l0:List (S75)):Option ((List (S101))):=impl_around.l0 k l0 (([]:List (S101))) l0 (l0.length:Int) 0
def impl_around.T5:Bool × List (List Nat × List Nat):=(true,[([],[]),([],[]),([],[]),([],[]),([3],[3]),([],[]),([5],[5]),([4,6],[4,6]),([2,7],[2,7]),([8],[8]),([1,9],[1,9]),([10],[10]),([0,11],[0,11]),([12,12,0,1,2,3,4,5,6,7,8,9,10,11,12],[0,12])])
def impl_around.B5:List Nat:=[0,0,0,0,8,0,32,120,252,508,1022,2046,4095,8191]
theorem impl_around.tab5:rtab .any (opsOf Try.f89 5)=impl_around.T5:=by kernel_rfl
theorem impl_around.bits5:waitsOk impl_around.T5.2 impl_around.B5=true:=by kernel_rfl
theorem impl_around.calls (k:Nat) (A0:Option Addr) (c0:Nat) (l0:List (S75)) (r:List (S101)) (w:World) (hr0:Kd.C k75 w A0 l0.length l0) (hc0:l0.length≤c0) (h:impl_around.f k l0=some r) :
  Calls Try.prog 89 #[.slice A0 l0.length c0] w fun e w'=>∃ v0_:Value,e = .returned (v0_)∧Kd.R k101 101 w' w.heap.size (fun _=>True) v0_ r∧Below w.heap.size w w':=by
 have hu75:=Try.underlying75
 have hu101:=Try.underlying101
 have HR0:=ak hr0
 have HC0:=ak hc0
 clear hr0 hc0
 have HB:=z52_
 have H:=h;clear h;unfold impl_around.f at H
 generalize hy187:(([]:List (S101)))=y187 at H;have Ny187:=ak hy187.symm;clear hy187;try rw [Option.bind_some] at H
 have H':=ak H
 clear H
 go_enter Try.func89,Try.ntmps89
 go_wp2_with (first|((with_reducible refine gate_dst (N:=6) rfl ?_);refine Kd.R_lit k101 _ 101 ?hg (N:=6) ?hd (xs:=([]:List (S101))) (inner:=[]) (ok:=fun _=>True) (okp:=fun _=>True) ?hr ?hp (fun _ hk=>hk) trivial (Below.refl _ _) (Nat.le_refl _) (by simp) ?_;(case hd=>rfl);(case hg=>rfl);(case hr=>exact z39_);(case hp=>exact z213_);intro v188 w2 ho3 hb hg_ hnew_;clear hg_ hnew_;(first|rw [← Ny187.out] at ho3|(simp only[Int.reduceToNat] at ho3;rw [← Ny187.out] at ho3));have HO189:=ak (Kd.R_lower ho3 (below_size Hd.b_));replace HB:=z17_;clear hb ho3))
 go_loopg [3,9] k (fun kq v3 v9 w'=>∃ (x3_1:List (S101)) (x9_1:Int),v9 = .int .i64 x9_1∧Aside0 (impl_around.l0 kq l0 x3_1 l0 (l0.length:Int) x9_1=some r)∧Aside0 (kq≤k)∧Aside0 (Kd.R k101 101 w' w.heap.size (fun _=>True) v3 x3_1)∧Aside0 (Below w.heap.size w w'))
 case atStart=>exact⟨(y187),(0),z14_,H',⟨Nat.le_refl _⟩,⟨z12_ HO189⟩,⟨Hd.b_⟩⟩
 case round =>
  clear H'
  obtain⟨x3_1,x9_1,rfl,HA,HK1,HO_3,HB⟩:=hrel
  cases gk with
  | zero=>exact absurd HA.out (by simp [impl_around.l0])
  | succ k1 =>
   have H:=HA.out
   clear HA
   simp only[impl_around.l0] at H
   by_cases c4:x9_1<(l0.length:Int);rotate_left
   ·
    rw [if_neg c4] at H
    have c4b0:=z198_
    clear c4
    obtain rfl:=Option.some.inj H
    go_wp2
    go_ret
    exact⟨_,Hd.e_,z12_ HO_3,Hd.b_⟩
   rw [if_pos c4] at H
   have c4b0:=decide_eq_true c4
   clear c4
   by_cases c5:0≤x9_1;rotate_left
   ·
    rw [if_neg c5] at H
    exact absurd H (by simp)
   rw [if_pos c5] at H
   have c5b0:=decide_eq_true c5
   clear c5
   by_cases c6:x9_1<(l0.length:Int);rotate_left
   ·
    rw [if_neg c6] at H
    exact absurd H (by simp)
   rw [if_pos c6] at H
   have c6b0:=decide_eq_true c6
   clear c6
   by_cases c7:(l0.length:Int)=0
   ·
    rw [if_pos c7] at H
    exact absurd H (by simp)
   rw [if_neg c7] at H
   have c7b0:=beq_eq_false_iff_ne.mpr c7
   have c7b1:=bne_iff_ne.mpr c7
   have c7b2:¬ (l0=[]):=fun h_=>c7 (by rw [h_];rfl)
   obtain⟨ji8,hji8⟩:∃ j_:Int,(Int.tmod (wrap64 (x9_1+1)) (l0.length:Int))=j_:=⟨_,rfl⟩
   replace H:(if 0≤(ji8) then (if (ji8)<(l0.length:Int) then (if x3_1.length<4398046511104 then (impl_around.l0 k1 l0 (x3_1++[(⟨(⟨(rd_T75 l0 x9_1).f0,(rd_T75 l0 x9_1).f1⟩:S75),(⟨(rd_T75 l0 (ji8)).f0,(rd_T75 l0 (ji8)).f1⟩:S75)⟩:S101)]) l0 (l0.length:Int) (wrap64 (x9_1+1))) else (none)) else (none)) else (none))=some r:=by first|(rw [hji8] at H;exact H)|(simp only[hji8] at H ⊢;exact H)
   by_cases c9:0≤(ji8);rotate_left
   ·
    rw [if_neg c9] at H
    exact absurd H (by simp)
   rw [if_pos c9] at H
   have c9b0:=decide_eq_true c9
   clear c9
   by_cases c10:(ji8)<(l0.length:Int);rotate_left
   ·
    rw [if_neg c10] at H
    exact absurd H (by simp)
   rw [if_pos c10] at H
   have c10b0:=z212_
   clear c10
   by_cases c11:x3_1.length<4398046511104;rotate_left
   ·
    rw [if_neg c11] at H
    exact absurd H (by simp)
   rw [if_pos c11] at H
   have LMc11:=ak c11
   clear c11
   generalize hy193:(x3_1++[(⟨(⟨(rd_T75 l0 x9_1).f0,(rd_T75 l0 x9_1).f1⟩:S75),(⟨(rd_T75 l0 (ji8)).f0,(rd_T75 l0 (ji8)).f1⟩:S75)⟩:S101)])=y193 at H;have Ny193:=ak hy193.symm;clear hy193;try rw [Option.bind_some] at H
   have H':=ak H
   clear H
   have p190:0≤(x9_1:Int):=od_
   have q190:x9_1<(l0.length:Int):=od_
   obtain⟨ad190,e190,hx190_0,hx190_1⟩:=at_T75 HR0.out x9_1 p190 q190
   cases e190
   replace hx190_0:=(HB.out.cell (bl_ w _ hx190_0)).trans hx190_0
   replace hx190_1:=(HB.out.cell (bl_ w _ hx190_1)).trans hx190_1
   replace p190:=eq_true p190
   replace q190:=eq_true q190
   try go_wp2_with (first|((with_reducible refine gate_dst (N:=5) rfl ?_);refine Hd.box_ 5 (#[.int .i64 0,.int .i64 0]) 75 ?_;intro gb191 hg w12 hbox hb;replace HO_3:=z152_;have BK191:=ak (hbox);have GW191:=ak ((Hd.g_ hg Hd.b_:w.heap.size≤gb191));have GE191:=ak ((Hd.g_ hg Hd.b_:w.heap.size≤gb191));replace HB:=z17_;clear hb hbox hg;obtain⟨hcz13_0,hcz13_1⟩:=Hd.c2_ BK191.out;obtain⟨hfz13_0,hfz13_1⟩:=Hd.f2_ BK191.out))
   have n0_:Aside0 (Kd.R k101 101 ((w12.setCell ⟨gb191,0,none⟩ (.int .i64 ((rd_T75 l0 x9_1).f0))).setCell ⟨gb191,1,none⟩ (.int .i64 ((rd_T75 l0 x9_1).f1))) w.heap.size (fun _=>True) u3 x3_1):=⟨by (with_reducible repeat (first|apply Kd.R_alloc|apply Kd.R_drewN|apply Kd.R_drew));exact Kd.R_mono (Kd.R_far (p:=⟨gb191,1,none⟩) (Kd.R_far (p:=⟨gb191,0,none⟩) (Kd.R_types HO_3.out BK191.out (by decide)) (fun _ hk=>hk.2) (.int .i64 ((rd_T75 l0 x9_1).f0))) (fun _ hk=>hk.2) (.int .i64 ((rd_T75 l0 x9_1).f1))) (fun _ hk=>trivial)⟩
   have n1_:Aside0 (((w12.setCell ⟨gb191,0,none⟩ (.int .i64 ((rd_T75 l0 x9_1).f0))).setCell ⟨gb191,1,none⟩ (.int .i64 ((rd_T75 l0 x9_1).f1))).heap[gb191]?=some (.cells #[.int .i64 ((rd_T75 l0 x9_1).f0),.int .i64 ((rd_T75 l0 x9_1).f1)] 75 (0,0))):=⟨by (with_reducible repeat (first|refine blk_drewN ?_ _|refine blk_drew ?_|refine blk_alloc ?_ _));refine blk_put (cs:=#[.int .i64 ((rd_T75 l0 x9_1).f0),.int .i64 0]) ?_ 1 _ rfl;(with_reducible repeat (first|refine blk_drewN ?_ _|refine blk_drew ?_|refine blk_alloc ?_ _));refine blk_put (cs:=#[.int .i64 0,.int .i64 0]) ?_ 0 _ rfl;(with_reducible repeat (first|refine blk_drewN ?_ _|refine blk_drew ?_|refine blk_alloc ?_ _));exact BK191.out⟩
   have n2_:Aside0 (Below w.heap.size w ((w12.setCell ⟨gb191,0,none⟩ (.int .i64 ((rd_T75 l0 x9_1).f0))).setCell ⟨gb191,1,none⟩ (.int .i64 ((rd_T75 l0 x9_1).f1)))):=⟨Hd.b_⟩
   try clear HO_3;try clear BK191;try clear HB
   generalize ((w12.setCell ⟨gb191,0,none⟩ (.int .i64 ((rd_T75 l0 x9_1).f0))).setCell ⟨gb191,1,none⟩ (.int .i64 ((rd_T75 l0 x9_1).f1)))=w14 at n0_ n1_ n2_ ⊢
   have HO_3:=n0_
   have BK191:=n1_
   have HB:=n2_
   clear n0_ n1_ n2_
   replace HO_3:=z97_ HO_3
   replace BK191:=z65_ BK191
   replace HB:=z42_
   have p192:0≤((ji8):Int):=od_
   have q192:(ji8)<(l0.length:Int):=od_
   obtain⟨ad192,e192,hx192_0,hx192_1⟩:=at_T75 HR0.out (ji8) p192 q192
   have hw192_1:=hx192_1
   have hw192_0:=hx192_0
   obtain rfl:ad190=ad192:=(by injection e192)
   replace hx192_0:=(HB.out.cell (bl_ w _ hx192_0)).trans hx192_0
   replace hx192_1:=(HB.out.cell (bl_ w _ hx192_1)).trans hx192_1
   replace p192:=eq_true p192
   replace q192:=eq_true q192
   refine start_ (n:=14) (S:=fun w'=>w'.cell? ⟨gb191,0,none⟩=some (.int .i64 ((rd_T75 l0 x9_1).f0))∧w'.cell? ⟨gb191,1,none⟩=some (.int .i64 ((rd_T75 l0 x9_1).f1))∧w'.cell? (ad190.add (((ji8)).toNat*2))=some (.int .i64 ((rd_T75 l0 (ji8)).f0))∧w'.cell? ⟨(ad190.add (((ji8)).toNat*2)).block,(ad190.add (((ji8)).toNat*2)).off+1,none⟩=some (.int .i64 ((rd_T75 l0 (ji8)).f1))) (ds:=[]) #[Z,Z,Z,Z,Z,Z,Z,Z,Z,Z,Z,Z,Z,Z] (by kernel_rfl) rfl rfl ⟨(blk_cell BK191.out 0).trans rfl,(blk_cell BK191.out 1).trans rfl,((HB.out.cell (bl_ w _ hw192_0)).trans hw192_0),((HB.out.cell (bl_ w _ hw192_1)).trans hw192_1)⟩ (fun hHeld=>?_);refine with_tabW impl_around.tab5 impl_around.bits5 (fun HT_ HW_=>?_)
   generalize w14.drew=w15 at HO_3 BK191 HB hx192_0 hx192_1 hHeld ⊢
   refine Hd.p_ HT_ 0 (some 14) #[Y,Z,Z,Z,Z,Z,Z,Z,Z,Z,Z,Z,Z,Z] ?_
   refine Hd.p_ HT_ 2 (some 16) #[Y,Z,Y,Z,Z,Z,Z,Z,Z,Z,Z,Z,Z,Z] ?_
   refine Hd.p_ HT_ 3 (some 17) #[Y,Z,Y,Y,Z,Z,Z,Z,Z,Z,Z,Z,Z,Z] ?_
   refine Hd.p_ HT_ 4 (some 18) #[Y,Z,Y,Y,Y,Z,Z,Z,Z,Z,Z,Z,Z,Z] ?_
   refine Hd.p_ HT_ 5 (some 19) #[Y,Z,Y,Y,Y,Y,Z,Z,Z,Z,Z,Z,Z,Z] ?_
   refine Hd.p_ HT_ 6 (some 20) #[Y,Z,Y,Y,Y,Y,Y,Z,Z,Z,Z,Z,Z,Z] ?_
   refine Hd.p_ HT_ 7 (some 21) #[Y,Z,Y,Y,Y,Y,Y,Y,Z,Z,Z,Z,Z,Z] ?_
   refine Hd.p_ HT_ 8 (some 22) #[Y,Z,Y,Y,Y,Y,Y,Y,Y,Z,Z,Z,Z,Z] ?_
   refine Hd.t_ HT_ HW_ hHeld 1 (some 15) #[Y,Y,Y,Y,Y,Y,Y,Y,Y,Z,Z,Z,Z,Z] ?_
   refine Hd.t_ HT_ HW_ hHeld 9 (some 23) #[Y,Y,Y,Y,Y,Y,Y,Y,Y,Y,Z,Z,Z,Z] ?_
   refine Hd.p_ HT_ 10 (some 24) #[Y,Y,Y,Y,Y,Y,Y,Y,Y,Y,Y,Z,Z,Z] ?_
   refine Hd.o_ HT_ 11 (some 25) #[Y,Y,Y,Y,Y,Y,Y,Y,Y,Y,Y,Y,Z,Z] (fun K hK=>?_)
   refine value_ (w1:=?_) (v:=?_) (by rfl) rfl ?_ ?_
   rotate_left 2
   ·
    go_simp
    constructor
    ·
     rfl
    ·
     rfl
   refine hK.out _ _ ⟨(blk_cell (blk_alloc BK191.out _) 0).trans rfl,(blk_cell (blk_alloc BK191.out _) 1).trans rfl,(World.cell?_alloc_lt _ _ _ (bl_ _ _ (((HB.out.cell (bl_ w _ hw192_0)).trans hw192_0)))).trans (((HB.out.cell (bl_ w _ hw192_0)).trans hw192_0)),(World.cell?_alloc_lt _ _ _ (bl_ _ _ (((HB.out.cell (bl_ w _ hw192_1)).trans hw192_1)))).trans (((HB.out.cell (bl_ w _ hw192_1)).trans hw192_1))⟩ (fun hHeld=>?_)
   clear hK K
   refine Hd.n_ (some 25) ?_
   refine Hd.o_ HT_ 12 (some 26) #[Y,Y,Y,Y,Y,Y,Y,Y,Y,Y,Y,Y,Y,Z] (fun K hK=>?_)
   refine Kd.R_append_step k101 (w0:=w) w.heap.size (by rfl) (.tmp 14) (.tmp 25) 79 101 (.agg #[(.int .i64 0),(.int .i64 0),(.int .i64 0),(.int .i64 0)]) 32 rfl Try.underlying79 info101 rfl (by decide) (by omega) u3 x3_1 (⟨(⟨(rd_T75 l0 x9_1).f0,(rd_T75 l0 x9_1).f1⟩:S75),(⟨(rd_T75 l0 (ji8)).f0,(rd_T75 l0 (ji8)).f1⟩:S75)⟩:S101) [.int .i64 ((rd_T75 l0 x9_1).f0),.int .i64 ((rd_T75 l0 x9_1).f1),.int .i64 ((rd_T75 l0 (ji8)).f0),.int .i64 ((rd_T75 l0 (ji8)).f1)] (fun _=>True) (fun _=>False) rfl rfl ?aP (fun _ hk=>hk.elim) ?aF ?aO ?aB ?aS ?aL ?_
   (case aP=>exact k101_mkM _ _ _ (⟨(⟨(rd_T75 l0 x9_1).f0,(rd_T75 l0 x9_1).f1⟩:S75),(⟨(rd_T75 l0 (ji8)).f0,(rd_T75 l0 (ji8)).f1⟩:S75)⟩:S101))
   (case aB=>exact Hd.b_)
   (case aF=>exact z177_)
   (case aO=>exact(Hd.r_ HO_3))
   (case aS=>exact z133_)
   (case aL=>have:=LMc11.out;omega)
   intro v194 w16 ho hb hg hat
   rw [← Ny193.out] at ho
   have n0_:=ak (blk_grown (g:=gb191) (o:=.cells #[.int .i64 ((rd_T75 l0 x9_1).f0),.int .i64 ((rd_T75 l0 x9_1).f1)] 75 (0,0)) (Hd.k_ BK191) hg (Kd.R_ne HO_3.out BK191.out (by decide)))
   have n1_:=ak (hb)
   have n2_:=ak (ho)
   clear BK191
   clear HB
   clear HO_3
   have BK191:=n0_
   have HB:=n1_
   have HO195:=n2_
   clear n0_ n1_ n2_
   clear ho hb hg hat
   refine hK.out _ _ ⟨(blk_cell BK191.out 0).trans rfl,(blk_cell BK191.out 1).trans rfl,((HB.out.cell (bl_ w _ hw192_0)).trans hw192_0),((HB.out.cell (bl_ w _ hw192_1)).trans hw192_1)⟩ (fun hHeld=>?_)
   clear hK K
   refine Hd.n_ (some 26) ?_
   refine Hd.p_ HT_ 13 (some 3) #[Y,Y,Y,Y,Y,Y,Y,Y,Y,Y,Y,Y,Y,Y] ?_
   refine done_ (done_of HT_.out (by kernel_rfl)) ?_
   try go_wp2
   go_roundg k1
   case measure=>have:=HK1.out;omega
   case rel=>exact⟨(y193),(wrap64 (x9_1+1)),z14_,H',⟨z101_⟩,⟨z12_ HO195⟩,⟨Hd.b_⟩⟩
end Go.Proofs.Ytbbdhlggnglfgaa.MFnFeatures
