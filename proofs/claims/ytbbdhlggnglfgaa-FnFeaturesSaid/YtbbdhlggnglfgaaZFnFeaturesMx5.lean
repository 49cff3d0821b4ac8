-- Laid by this session's program pp.py, after the kit's print and texts of the session's own. Not trusted: Lean checks it.
import Derived.Test.YtbbdhlggnglfgaaZFnFeaturesMx0
import Derived.Test.YtbbdhlggnglfgaaZFnFeaturesMx1
import Derived.Test.YtbbdhlggnglfgaaZFnFeaturesMx2
namespace Go.Proofs.Ytbbdhlggnglfgaa.MFnFeatures
open Go.RowKit Go.Proofs.YtbbdhlggnglfgaaW.PrintWords Go.Proofs.YtbbdhlggnglfgaaW.PrintLast Go.Proofs.YtbbdhlggnglfgaaW.PrintMore
attribute [local go_sem] max2_int min2_int max_two min_two max_three min_three max_four min_four
set_option linter.unusedVariables false
set_option maxHeartbeats 8000000
set_option maxRecDepth 100000
set_option linter.unusedSimpArgs false
attribute [local go_sem high] eqA75
mutual
def impl_IsLine.j0:Nat→List (S75)→Bool→Option (Bool)
 | 0,_,_=>none
 | k+1,x0,x12=>if x12=true then (some false) else (impl_IsLine.l0 k x0 x0 (x0.length:Int) 0)
def impl_IsLine.l0:Nat→List (S75)→List (S75)→Int→Int→Option (Bool)
 | 0,_,_,_,_=>none
 | k+1,x0,x13,x14,x15=>if x15<x14 then (if 0≤x15 then (if x15<(x13.length:Int) then ((impl_IsPoint.f ((rd_T75 x13 x15).f0) ((rd_T75 x13 x15).f1)).bind fun t166=>(if t166=true then (if x15>0 then (if 0≤(wrap64 (x15-1)) then (if (wrap64 (x15-1))<(x0.length:Int) then (if (((rd_T75 x13 x15).f0)==((rd_T75 x0 (wrap64 (x15-1))).f0)&&(((rd_T75 x13 x15).f1)==((rd_T75 x0 (wrap64 (x15-1))).f1)))=true then (some false) else (impl_IsLine.l0 k x0 x13 x14 (wrap64 (x15+1)))) else (none)) else (none)) else (impl_IsLine.l0 k x0 x13 x14 (wrap64 (x15+1)))) else (some false))) else (none)) else (none)) else (some true)
end
def impl_IsLine.f (k:Nat) (l0:List (S75)):Option (Bool):=if (l0.length:Int)<2 then (impl_IsLine.j0 k l0 true) else (impl_IsLine.j0 k l0 (decide ((l0.length:Int)>10)))
theorem impl_IsLine.calls (k:Nat) (A0:Option Addr) (c0:Nat) (l0:List (S75)) (r:Bool) (w:World) (hr0:Kd.C k75 w A0 l0.length l0) (hc0:l0.length≤c0) (h:impl_IsLine.f k l0=some r) :
  Calls Try.prog 88 #[.slice A0 l0.length c0] w fun e w'=>e = .returned (.bool r)∧Below w.heap.size w w':=by
 have hu75:=Try.underlying75
 have HR0:=ak hr0
 have HC0:=ak hc0
 clear hr0 hc0
 have HB:=z52_
 have H:=h;clear h;unfold impl_IsLine.f at H
 have HC2:=ak H
 clear H
 go_enter Try.func88,Try.ntmps88
 go_upto_region 1 with (fail)
 go_cut [12] (fun v12 wc=>∃ (kq:Nat) (x12_1:Bool),v12 = .bool x12_1∧Aside0 (impl_IsLine.j0 kq l0 x12_1=some r)∧Aside0 (kq≤k)∧Aside0 (Below w.heap.size w wc))
 case first =>
  have H:=HC2.out
  clear HC2
  by_cases c3:(l0.length:Int)<2
  ·
   rw [if_pos c3] at H
   have c3b0:=decide_eq_true c3
   have c3b1:decide (l0.length<2)=true:=decide_eq_true (by omega)
   clear c3
   (first|rw [c3b0]|(simp only[i64_w,i32_w];rw [c3b0])|skip)
   have H':=ak H
   clear H
   go_wp2
   go_meet
   case rel=>exact⟨_,(true),z14_,H',⟨z73_⟩,⟨Hd.b_⟩⟩
  rw [if_neg c3] at H
  have c3b0:=decide_eq_false c3
  have c3b1:decide (l0.length<2)=false:=decide_eq_false (by omega)
  clear c3
  (first|rw [c3b0]|(simp only[i64_w,i32_w];rw [c3b0])|skip)
  have H':=ak H
  clear H
  go_wp2
  go_meet
  case rel=>exact⟨_,(decide ((l0.length:Int)>10)),z14_,H',⟨z73_⟩,⟨Hd.b_⟩⟩
 case rest =>
  clear HC2
  try clear c3;try clear c3b0;try clear c3b1
  obtain⟨kq,x12_1,rfl,HA,HJ1,HB⟩:=hcut
  cases kq with
  | zero=>exact absurd HA.out (by simp [impl_IsLine.j0])
  | succ kj1 =>
   have H:=HA.out
   clear HA
   simp only[impl_IsLine.j0] at H
   by_cases c4:x12_1=true
   ·
    subst c4
    rw [if_pos rfl] at H
    obtain rfl:=Option.some.inj H
    go_wp2
    go_ret
    exact⟨Hd.e_,Hd.b_⟩
   replace c4:=Bool.eq_false_iff.mpr c4
   subst c4
   rw [if_neg (show ¬ (false=true) by decide)] at H
   have H':=ak H
   clear H
   go_wp2
   go_loopg [15] kj1 (fun kq v15 w'=>∃ (x15_2:Int),v15 = .int .i64 x15_2∧Aside0 (impl_IsLine.l0 kq l0 l0 (l0.length:Int) x15_2=some r)∧Aside0 (kq≤kj1)∧Aside0 (Below w.heap.size w w'))
   case atStart=>exact⟨(0),z14_,H',⟨Nat.le_refl _⟩,⟨Hd.b_⟩⟩
   case round =>
    clear H'
    try clear c3;try clear c3b0;try clear c3b1;try clear c4
    obtain⟨x15_2,rfl,HA,HK2,HB⟩:=hrel
    cases gk with
    | zero=>exact absurd HA.out (by simp [impl_IsLine.l0])
    | succ k2 =>
     have H:=HA.out
     clear HA
     simp only[impl_IsLine.l0] at H
     by_cases c5:x15_2<(l0.length:Int);rotate_left
     ·
      rw [if_neg c5] at H
      have c5b0:=decide_eq_false c5
      clear c5
      obtain rfl:=Option.some.inj H
      go_wp2
      go_ret
      exact⟨Hd.e_,Hd.b_⟩
     rw [if_pos c5] at H
     have c5b0:=decide_eq_true c5
     clear c5
     by_cases c6:0≤x15_2;rotate_left
     ·
      rw [if_neg c6] at H
      exact absurd H (by simp)
     rw [if_pos c6] at H
     have c6b0:=decide_eq_true c6
     clear c6
     by_cases c7:x15_2<(l0.length:Int);rotate_left
     ·
      rw [if_neg c7] at H
      exact absurd H (by simp)
     rw [if_pos c7] at H
     have c7b0:=decide_eq_true c7
     clear c7
     replace H:=Hd.bd_ H;obtain⟨t166,A8,H⟩:=H
     by_cases c9:t166=true;rotate_left
     ·
      replace c9:=Bool.eq_false_iff.mpr c9
      subst c9
      rw [if_neg (show ¬ (false=true) by decide)] at H
      obtain rfl:=Option.some.inj H
      have p164:0≤(x15_2:Int):=od_
      have q164:x15_2<(l0.length:Int):=od_
      obtain⟨ad164,e164,hx164_0,hx164_1⟩:=at_T75 HR0.out x15_2 p164 q164
      cases e164
      replace hx164_0:=z175_
      replace hx164_1:=z176_
      replace p164:=eq_true p164
      replace q164:=eq_true q164
      try go_wp2_with (first|((with_reducible refine gate_dst (N:=4) rfl ?_);(try (refine gate_guard (by rfl) ?_;dsimp only));refine Hd.box_ 4 (#[.int .i64 0,.int .i64 0]) 75 ?_;intro gb165 hg w30 hbox hb;have BK165:=ak (hbox);have GW165:=z121_;have GE165:=z121_;replace HB:=z17_;clear hb hbox hg;obtain⟨hcz31_0,hcz31_1⟩:=Hd.c2_ BK165.out;obtain⟨hfz31_0,hfz31_1⟩:=Hd.f2_ BK165.out))
      have n0_:Aside0 (((w30.setCell ⟨gb165,0,none⟩ (.int .i64 ((rd_T75 l0 x15_2).f0))).setCell ⟨gb165,1,none⟩ (.int .i64 ((rd_T75 l0 x15_2).f1))).heap[gb165]?=some (.cells #[.int .i64 ((rd_T75 l0 x15_2).f0),.int .i64 ((rd_T75 l0 x15_2).f1)] 75 (0,0))):=⟨z41_ BK165⟩
      have n1_:Aside0 (Below w.heap.size w ((w30.setCell ⟨gb165,0,none⟩ (.int .i64 ((rd_T75 l0 x15_2).f0))).setCell ⟨gb165,1,none⟩ (.int .i64 ((rd_T75 l0 x15_2).f1)))):=⟨Hd.b_⟩
      try clear BK165;try clear HB
      generalize ((w30.setCell ⟨gb165,0,none⟩ (.int .i64 ((rd_T75 l0 x15_2).f0))).setCell ⟨gb165,1,none⟩ (.int .i64 ((rd_T75 l0 x15_2).f1)))=w32 at n0_ n1_ ⊢
      have BK165:=n0_
      have HB:=n1_
      clear n0_ n1_
      replace BK165:=z65_ BK165
      replace HB:=z42_
      obtain⟨s0_,s1_⟩:=Hd.HW.k2 (W0:=w32.drew) BK165
      refine Hd.HW.region (by kernel_rfl) (by kernel_rfl) ?_
      repeat (go_big_quiet_step ((first|(go_at_call 73;with_reducible exact Hd.HW.c (impl_IsPoint.calls ((rd_T75 l0 x15_2).f0) ((rd_T75 l0 x15_2).f1) false _ A8.out)))))
      refine wpQuiet_nil ?_
      intro _ hq_
      obtain⟨q_,rfl⟩:=hq_
      clear s0_ s1_
      replace BK165:=z63_ BK165
      replace HB:=z58_
      generalize q_.W=w34 at BK165 HB ⊢
      try simp only[i64_w,i32_w]
      try go_wp2
      go_ret
      exact⟨Hd.e_,Hd.b_⟩
     subst c9
     rw [if_pos rfl] at H
     by_cases c10:x15_2>0;rotate_left
     ·
      rw [if_neg c10] at H
      have c10b0:decide (0<x15_2)=false:=decide_eq_false c10
      clear c10
      have H':=ak H
      clear H
      have p164:0≤(x15_2:Int):=od_
      have q164:x15_2<(l0.length:Int):=od_
      obtain⟨ad164,e164,hx164_0,hx164_1⟩:=at_T75 HR0.out x15_2 p164 q164
      cases e164
      replace hx164_0:=z175_
      replace hx164_1:=z176_
      replace p164:=eq_true p164
      replace q164:=eq_true q164
      try go_wp2_with (first|((with_reducible refine gate_dst (N:=4) rfl ?_);(try (refine gate_guard (by rfl) ?_;dsimp only));refine Hd.box_ 4 (#[.int .i64 0,.int .i64 0]) 75 ?_;intro gb165 hg w25 hbox hb;have BK165:=ak (hbox);have GW165:=z121_;have GE165:=z121_;replace HB:=z17_;clear hb hbox hg;obtain⟨hcz26_0,hcz26_1⟩:=Hd.c2_ BK165.out;obtain⟨hfz26_0,hfz26_1⟩:=Hd.f2_ BK165.out))
      have n0_:Aside0 (((w25.setCell ⟨gb165,0,none⟩ (.int .i64 ((rd_T75 l0 x15_2).f0))).setCell ⟨gb165,1,none⟩ (.int .i64 ((rd_T75 l0 x15_2).f1))).heap[gb165]?=some (.cells #[.int .i64 ((rd_T75 l0 x15_2).f0),.int .i64 ((rd_T75 l0 x15_2).f1)] 75 (0,0))):=⟨z41_ BK165⟩
      have n1_:Aside0 (Below w.heap.size w ((w25.setCell ⟨gb165,0,none⟩ (.int .i64 ((rd_T75 l0 x15_2).f0))).setCell ⟨gb165,1,none⟩ (.int .i64 ((rd_T75 l0 x15_2).f1)))):=⟨Hd.b_⟩
      try clear BK165;try clear HB
      generalize ((w25.setCell ⟨gb165,0,none⟩ (.int .i64 ((rd_T75 l0 x15_2).f0))).setCell ⟨gb165,1,none⟩ (.int .i64 ((rd_T75 l0 x15_2).f1)))=w27 at n0_ n1_ ⊢
      have BK165:=n0_
      have HB:=n1_
      clear n0_ n1_
      replace BK165:=z65_ BK165
      replace HB:=z42_
      obtain⟨s0_,s1_⟩:=Hd.HW.k2 (W0:=w27.drew) BK165
      refine Hd.HW.region (by kernel_rfl) (by kernel_rfl) ?_
      repeat (go_big_quiet_step ((first|(go_at_call 73;with_reducible exact Hd.HW.c (impl_IsPoint.calls ((rd_T75 l0 x15_2).f0) ((rd_T75 l0 x15_2).f1) true _ A8.out)))))
      refine wpQuiet_nil ?_
      intro _ hq_
      obtain⟨q_,rfl⟩:=hq_
      clear s0_ s1_
      replace BK165:=z63_ BK165
      replace HB:=z58_
      generalize q_.W=w29 at BK165 HB ⊢
      try simp only[i64_w,i32_w]
      try go_wp2
      go_roundg k2
      case measure=>have:=HJ1.out;have:=HK2.out;omega
      case rel=>exact⟨(wrap64 (x15_2+1)),z14_,H',⟨by have:=HJ1.out;have:=HK2.out;omega⟩,⟨Hd.b_⟩⟩
     rw [if_pos c10] at H
     have c10b0:decide (0<x15_2)=true:=decide_eq_true c10
     clear c10
     obtain⟨ji11,hji11⟩:∃ j_:Int,(wrap64 (x15_2-1))=j_:=⟨_,rfl⟩
     replace H:(if 0≤(ji11) then (if (ji11)<(l0.length:Int) then (if (((rd_T75 l0 x15_2).f0)==((rd_T75 l0 (ji11)).f0)&&(((rd_T75 l0 x15_2).f1)==((rd_T75 l0 (ji11)).f1)))=true then (some false) else (impl_IsLine.l0 k2 l0 l0 (l0.length:Int) (wrap64 (x15_2+1)))) else (none)) else (none))=some r:=by first|(rw [hji11] at H;exact H)|(simp only[hji11] at H ⊢;exact H)
     (try rw [hji11] at A8)
     have hji11w:(IntKind.i64.wrap (x15_2-1))=ji11:=(i64_w _).trans hji11
     by_cases c12:0≤(ji11);rotate_left
     ·
      rw [if_neg c12] at H
      exact absurd H (by simp)
     rw [if_pos c12] at H
     have c12b0:=decide_eq_true c12
     clear c12
     by_cases c13:(ji11)<(l0.length:Int);rotate_left
     ·
      rw [if_neg c13] at H
      exact absurd H (by simp)
     rw [if_pos c13] at H
     have c13b0:=decide_eq_true c13
     clear c13
     by_cases c14:(((rd_T75 l0 x15_2).f0)==((rd_T75 l0 (ji11)).f0)&&(((rd_T75 l0 x15_2).f1)==((rd_T75 l0 (ji11)).f1)))=true
     ·
      rw [if_pos c14] at H
      have c14b0:(((rd_T75 l0 x15_2).f0)==((rd_T75 l0 (ji11)).f0)&&(((rd_T75 l0 x15_2).f1)==((rd_T75 l0 (ji11)).f1)))=true:=c14
      (try (have c14b1:decide (((rd_T75 l0 x15_2).f0)=((rd_T75 l0 (ji11)).f0)&&(((rd_T75 l0 x15_2).f1)==((rd_T75 l0 (ji11)).f1)))=true:=by simpa using c14))
      (try (have c14b2:(((rd_T75 l0 x15_2).f0)==((rd_T75 l0 (ji11)).f0)&&(((rd_T75 l0 x15_2).f1)==((rd_T75 l0 (ji11)).f1)))=true:=by simpa using c14))
      clear c14
      obtain rfl:=Option.some.inj H
      have p164:0≤(x15_2:Int):=od_
      have q164:x15_2<(l0.length:Int):=od_
      obtain⟨ad164,e164,hx164_0,hx164_1⟩:=at_T75 HR0.out x15_2 p164 q164
      cases e164
      replace hx164_0:=z175_
      replace hx164_1:=z176_
      replace p164:=eq_true p164
      replace q164:=eq_true q164
      try go_wp2_with (first|((with_reducible refine gate_dst (N:=4) rfl ?_);(try (refine gate_guard (by rfl) ?_;dsimp only));refine Hd.box_ 4 (#[.int .i64 0,.int .i64 0]) 75 ?_;intro gb165 hg w15 hbox hb;have BK165:=ak (hbox);have GW165:=z121_;have GE165:=z121_;replace HB:=z17_;clear hb hbox hg;obtain⟨hcz16_0,hcz16_1⟩:=Hd.c2_ BK165.out;obtain⟨hfz16_0,hfz16_1⟩:=Hd.f2_ BK165.out))
      have n0_:Aside0 (((w15.setCell ⟨gb165,0,none⟩ (.int .i64 ((rd_T75 l0 x15_2).f0))).setCell ⟨gb165,1,none⟩ (.int .i64 ((rd_T75 l0 x15_2).f1))).heap[gb165]?=some (.cells #[.int .i64 ((rd_T75 l0 x15_2).f0),.int .i64 ((rd_T75 l0 x15_2).f1)] 75 (0,0))):=⟨z41_ BK165⟩
      have n1_:Aside0 (Below w.heap.size w ((w15.setCell ⟨gb165,0,none⟩ (.int .i64 ((rd_T75 l0 x15_2).f0))).setCell ⟨gb165,1,none⟩ (.int .i64 ((rd_T75 l0 x15_2).f1)))):=⟨Hd.b_⟩
      try clear BK165;try clear HB
      generalize ((w15.setCell ⟨gb165,0,none⟩ (.int .i64 ((rd_T75 l0 x15_2).f0))).setCell ⟨gb165,1,none⟩ (.int .i64 ((rd_T75 l0 x15_2).f1)))=w17 at n0_ n1_ ⊢
      have BK165:=n0_
      have HB:=n1_
      clear n0_ n1_
      replace BK165:=z65_ BK165
      replace HB:=z42_
      have p167:0≤((ji11):Int):=od_
      have q167:(ji11)<(l0.length:Int):=od_
      obtain⟨ad167,e167,hx167_0,hx167_1⟩:=at_T75 HR0.out (ji11) p167 q167
      have hw167_1:=hx167_1
      have hw167_0:=hx167_0
      obtain rfl:ad164=ad167:=(by injection e167)
      replace hx167_0:=(HB.out.cell (bl_ w _ hx167_0)).trans hx167_0
      replace hx167_1:=(HB.out.cell (bl_ w _ hx167_1)).trans hx167_1
      replace p167:=eq_true p167
      replace q167:=eq_true q167
      obtain⟨s0_,s1_⟩:=Hd.HW.k2 (W0:=w17.drew) BK165
      have s2_:=Hd.HW.x (W0:=w17.drew) ((HB.out.cell (bl_ w _ hw167_0)).trans hw167_0)
      have s3_:=Hd.HW.x (W0:=w17.drew) ((HB.out.cell (bl_ w _ hw167_1)).trans hw167_1)
      refine Hd.HW.region (by kernel_rfl) (by kernel_rfl) ?_
      repeat (go_big_quiet_step ((first|(go_at_call 73;with_reducible exact Hd.HW.c (impl_IsPoint.calls ((rd_T75 l0 x15_2).f0) ((rd_T75 l0 x15_2).f1) true _ A8.out)))))
      refine wpQuiet_nil ?_
      intro _ hq_
      obtain⟨q_,rfl⟩:=hq_
      clear s0_ s1_ s2_ s3_
      replace BK165:=z63_ BK165
      replace HB:=z58_
      replace hx167_0:=q_.cell hx167_0
      replace hx167_1:=q_.cell hx167_1
      generalize q_.W=w19 at BK165 HB hx167_0 hx167_1 ⊢
      try simp only[i64_w,i32_w]
      try go_wp2
      go_ret
      exact⟨by first|rfl|(simp [errW_none,errW_some] <;> rfl)|(simp only[← hji11];first|rfl|(simp [errW_none,errW_some] <;> rfl))|(simp [*,errW_none,errW_some] <;> rfl),Hd.b_⟩
     rw [if_neg c14] at H
     have c14b0:(((rd_T75 l0 x15_2).f0)==((rd_T75 l0 (ji11)).f0)&&(((rd_T75 l0 x15_2).f1)==((rd_T75 l0 (ji11)).f1)))=false:=by simpa using c14
     (try (have c14b1:decide (((rd_T75 l0 x15_2).f0)=((rd_T75 l0 (ji11)).f0)&&(((rd_T75 l0 x15_2).f1)==((rd_T75 l0 (ji11)).f1)))=false:=by simpa using c14))
     (try (have c14b2:(((rd_T75 l0 x15_2).f0)==((rd_T75 l0 (ji11)).f0)&&(((rd_T75 l0 x15_2).f1)==((rd_T75 l0 (ji11)).f1)))=false:=by simpa using c14))
     (try (have c14b3:¬ (((rd_T75 l0 x15_2).f0)=((rd_T75 l0 (ji11)).f0)&&(((rd_T75 l0 x15_2).f1)==((rd_T75 l0 (ji11)).f1))):=by simpa using c14))
     clear c14
     have H':=ak H
     clear H
     have p164:0≤(x15_2:Int):=od_
     have q164:x15_2<(l0.length:Int):=od_
     obtain⟨ad164,e164,hx164_0,hx164_1⟩:=at_T75 HR0.out x15_2 p164 q164
     cases e164
     replace hx164_0:=z175_
     replace hx164_1:=z176_
     replace p164:=eq_true p164
     replace q164:=eq_true q164
     try go_wp2_with (first|((with_reducible refine gate_dst (N:=4) rfl ?_);(try (refine gate_guard (by rfl) ?_;dsimp only));refine Hd.box_ 4 (#[.int .i64 0,.int .i64 0]) 75 ?_;intro gb165 hg w20 hbox hb;have BK165:=ak (hbox);have GW165:=z121_;have GE165:=z121_;replace HB:=z17_;clear hb hbox hg;obtain⟨hcz21_0,hcz21_1⟩:=Hd.c2_ BK165.out;obtain⟨hfz21_0,hfz21_1⟩:=Hd.f2_ BK165.out))
     have n0_:Aside0 (((w20.setCell ⟨gb165,0,none⟩ (.int .i64 ((rd_T75 l0 x15_2).f0))).setCell ⟨gb165,1,none⟩ (.int .i64 ((rd_T75 l0 x15_2).f1))).heap[gb165]?=some (.cells #[.int .i64 ((rd_T75 l0 x15_2).f0),.int .i64 ((rd_T75 l0 x15_2).f1)] 75 (0,0))):=⟨z41_ BK165⟩
     have n1_:Aside0 (Below w.heap.size w ((w20.setCell ⟨gb165,0,none⟩ (.int .i64 ((rd_T75 l0 x15_2).f0))).setCell ⟨gb165,1,none⟩ (.int .i64 ((rd_T75 l0 x15_2).f1)))):=⟨Hd.b_⟩
     try clear BK165;try clear HB
     generalize ((w20.setCell ⟨gb165,0,none⟩ (.int .i64 ((rd_T75 l0 x15_2).f0))).setCell ⟨gb165,1,none⟩ (.int .i64 ((rd_T75 l0 x15_2).f1)))=w22 at n0_ n1_ ⊢
     have BK165:=n0_
     have HB:=n1_
     clear n0_ n1_
     replace BK165:=z65_ BK165
     replace HB:=z42_
     have p167:0≤((ji11):Int):=od_
     have q167:(ji11)<(l0.length:Int):=od_
     obtain⟨ad167,e167,hx167_0,hx167_1⟩:=at_T75 HR0.out (ji11) p167 q167
     have hw167_1:=hx167_1
     have hw167_0:=hx167_0
     obtain rfl:ad164=ad167:=(by injection e167)
     replace hx167_0:=(HB.out.cell (bl_ w _ hx167_0)).trans hx167_0
     replace hx167_1:=(HB.out.cell (bl_ w _ hx167_1)).trans hx167_1
     replace p167:=eq_true p167
     replace q167:=eq_true q167
     obtain⟨s0_,s1_⟩:=Hd.HW.k2 (W0:=w22.drew) BK165
     have s2_:=Hd.HW.x (W0:=w22.drew) ((HB.out.cell (bl_ w _ hw167_0)).trans hw167_0)
     have s3_:=Hd.HW.x (W0:=w22.drew) ((HB.out.cell (bl_ w _ hw167_1)).trans hw167_1)
     refine Hd.HW.region (by kernel_rfl) (by kernel_rfl) ?_
     repeat (go_big_quiet_step ((first|(go_at_call 73;with_reducible exact Hd.HW.c (impl_IsPoint.calls ((rd_T75 l0 x15_2).f0) ((rd_T75 l0 x15_2).f1) true _ A8.out)))))
     refine wpQuiet_nil ?_
     intro _ hq_
     obtain⟨q_,rfl⟩:=hq_
     clear s0_ s1_ s2_ s3_
     replace BK165:=z63_ BK165
     replace HB:=z58_
     replace hx167_0:=q_.cell hx167_0
     replace hx167_1:=q_.cell hx167_1
     generalize q_.W=w24 at BK165 HB hx167_0 hx167_1 ⊢
     try simp only[i64_w,i32_w]
     try go_wp2
     go_roundg k2
     case measure=>have:=HJ1.out;have:=HK2.out;omega
     case rel=>exact⟨(wrap64 (x15_2+1)),z14_,H',⟨by have:=HJ1.out;have:=HK2.out;omega⟩,⟨Hd.b_⟩⟩
def impl_SegmentsOf.l0:Nat→List (S75)→List (S101)→Int→Option ((List (S101)))
 | 0,_,_,_=>none
 | k+1,x0,x3,x4=>if x4<(x0.length:Int) then (if 0≤(wrap64 (x4-1)) then (if (wrap64 (x4-1))<(x0.length:Int) then (if 0≤x4 then (if x3.length<4398046511104 then (impl_SegmentsOf.l0 k x0 (x3++[(⟨(⟨(rd_T75 x0 (wrap64 (x4-1))).f0,(rd_T75 x0 (wrap64 (x4-1))).f1⟩:S75),(⟨(rd_T75 x0 x4).f0,(rd_T75 x0 x4).f1⟩:S75)⟩:S101)]) (wrap64 (x4+1))) else (none)) else (none)) else (none)) else (none)) else (some x3)
def impl_SegmentsOf.f (k:Nat) (l0:List (S75)):Option ((List (S101))):=(some (([]:List (S101)):List (S101))).bind fun y168=>((impl_IsLine.f k l0).bind fun t171=>(if t171=true then (impl_SegmentsOf.l0 k l0 y168 1) else (some y168)))
def impl_SegmentsOf.T7:Bool × List (List Nat × List Nat):=(true,[([],[]),([],[]),([],[]),([2],[2]),([1,3],[1,3]),([4],[4]),([],[]),([],[]),([6,7],[6,7]),([8],[8]),([5,9],[5,9]),([10],[10]),([0,11],[0,11]),([12,12,0,1,2,3,4,5,6,7,8,9,10,11,12],[0,12])])
def impl_SegmentsOf.B7:List Nat:=[0,0,0,4,14,30,0,0,192,448,1022,2046,4095,8191]
theorem impl_SegmentsOf.tab7:rtab .any (opsOf Try.f77 7)=impl_SegmentsOf.T7:=by kernel_rfl
theorem impl_SegmentsOf.bits7:waitsOk impl_SegmentsOf.T7.2 impl_SegmentsOf.B7=true:=by kernel_rfl
theorem impl_SegmentsOf.calls (k:Nat) (A0:Option Addr) (c0:Nat) (l0:List (S75)) (r:List (S101)) (w:World) (hr0:Kd.C k75 w A0 l0.length l0) (hc0:l0.length≤c0) (h:impl_SegmentsOf.f k l0=some r) :
  Calls Try.prog 77 #[.slice A0 l0.length c0] w fun e w'=>∃ v0_:Value,e = .returned (v0_)∧Kd.R k101 101 w' w.heap.size (fun _=>True) v0_ r∧Below w.heap.size w w':=by
 have hu75:=Try.underlying75
 have hu101:=Try.underlying101
 have HR0:=ak hr0
 have HC0:=ak hc0
 clear hr0 hc0
 have HB:=z52_
 have H:=h;clear h;unfold impl_SegmentsOf.f at H
 generalize hy168:(([]:List (S101)))=y168 at H;have Ny168:=ak hy168.symm;clear hy168;try rw [Option.bind_some] at H
 replace H:=Hd.bd_ H;obtain⟨t171,A2,H⟩:=H
 by_cases c3:t171=true;rotate_left
 ·
  replace c3:=z163_
  subst c3
  rw [if_neg (show ¬ (false=true) by decide)] at H
  obtain rfl:=Option.some.inj H
  go_enter Try.func77,Try.ntmps77
  go_wp2_with (first|((with_reducible refine gate_dst (N:=5) rfl ?_);refine Kd.R_lit k101 _ 101 ?hg (N:=5) ?hd (xs:=([]:List (S101))) (inner:=[]) (ok:=fun _=>True) (okp:=fun _=>True) ?hr ?hp (fun _ hk=>hk) trivial (Below.refl _ _) (Nat.le_refl _) (by simp) ?_;(case hd=>rfl);(case hg=>rfl);(case hr=>exact z39_);(case hp=>exact z213_);intro v169 w15 ho16 hb hg_ hnew_;clear hg_ hnew_;(first|rw [← Ny168.out] at ho16|(simp only[Int.reduceToNat] at ho16;rw [← Ny168.out] at ho16));have HO170:=ak (Kd.R_lower ho16 (below_size Hd.b_));replace HB:=z17_;clear hb ho16)|((with_reducible refine gate_callee (f:=88) rfl ?_);refine Hd.gl_ 7 Try.func88 #[.slice A0 l0.length c0] ?_;(with_reducible refine(impl_IsLine.calls k _ _ l0 false _ ?side1 ?side2 A2.out).mono ?_);(case side1=>exact z15_ HR0);(case side2=>exact HC0.out);rintro e w17 ⟨rfl,hb⟩;refine⟨_,rfl,?_⟩;replace HO170:=ak (Kd.R_below (Hd.r_ HO170) hb);replace HB:=z17_;(try clear hb);(try clear hk)))
  go_ret
  exact⟨_,Hd.e_,z12_ HO170,Hd.b_⟩
 subst c3
 rw [if_pos rfl] at H
 have H':=ak H
 clear H
 go_enter Try.func77,Try.ntmps77
 go_wp2_with (first|((with_reducible refine gate_dst (N:=5) rfl ?_);refine Kd.R_lit k101 _ 101 ?hg (N:=5) ?hd (xs:=([]:List (S101))) (inner:=[]) (ok:=fun _=>True) (okp:=fun _=>True) ?hr ?hp (fun _ hk=>hk) trivial (Below.refl _ _) (Nat.le_refl _) (by simp) ?_;(case hd=>rfl);(case hg=>rfl);(case hr=>exact z39_);(case hp=>exact z213_);intro v169 w4 ho5 hb hg_ hnew_;clear hg_ hnew_;(first|rw [← Ny168.out] at ho5|(simp only[Int.reduceToNat] at ho5;rw [← Ny168.out] at ho5));have HO170:=ak (Kd.R_lower ho5 (below_size Hd.b_));replace HB:=z17_;clear hb ho5)|((with_reducible refine gate_callee (f:=88) rfl ?_);refine Hd.gl_ 7 Try.func88 #[.slice A0 l0.length c0] ?_;(with_reducible refine(impl_IsLine.calls k _ _ l0 true _ ?side1 ?side2 A2.out).mono ?_);(case side1=>exact z15_ HR0);(case side2=>exact HC0.out);rintro e w6 ⟨rfl,hb⟩;refine⟨_,rfl,?_⟩;replace HO170:=ak (Kd.R_below (Hd.r_ HO170) hb);replace HB:=z17_;(try clear hb);(try clear hk)))
 go_loopg [3,4] k (fun kq v3 v4 w'=>∃ (x3_1:List (S101)) (x4_1:Int),v4 = .int .i64 x4_1∧Aside0 (impl_SegmentsOf.l0 kq l0 x3_1 x4_1=some r)∧Aside0 (kq≤k)∧Aside0 (Kd.R k101 101 w' w.heap.size (fun _=>True) v3 x3_1)∧Aside0 (Below w.heap.size w w'))
 case atStart=>exact⟨(y168),(1),z14_,H',⟨Nat.le_refl _⟩,⟨z12_ HO170⟩,⟨Hd.b_⟩⟩
 case round =>
  clear H'
  try clear c3
  obtain⟨x3_1,x4_1,rfl,HA,HK1,HO_3,HB⟩:=hrel
  cases gk with
  | zero=>exact absurd HA.out (by simp [impl_SegmentsOf.l0])
  | succ k1 =>
   have H:=HA.out
   clear HA
   simp only[impl_SegmentsOf.l0] at H
   by_cases c7:x4_1<(l0.length:Int);rotate_left
   ·
    rw [if_neg c7] at H
    have c7b0:=decide_eq_false c7
    clear c7
    obtain rfl:=Option.some.inj H
    go_wp2
    go_ret
    exact⟨_,Hd.e_,z12_ HO_3,Hd.b_⟩
   rw [if_pos c7] at H
   have c7b0:=decide_eq_true c7
   clear c7
   obtain⟨ji8,hji8⟩:∃ j_:Int,(wrap64 (x4_1-1))=j_:=⟨_,rfl⟩
   replace H:(if 0≤(ji8) then (if (ji8)<(l0.length:Int) then (if 0≤x4_1 then (if x3_1.length<4398046511104 then (impl_SegmentsOf.l0 k1 l0 (x3_1++[(⟨(⟨(rd_T75 l0 (ji8)).f0,(rd_T75 l0 (ji8)).f1⟩:S75),(⟨(rd_T75 l0 x4_1).f0,(rd_T75 l0 x4_1).f1⟩:S75)⟩:S101)]) (wrap64 (x4_1+1))) else (none)) else (none)) else (none)) else (none))=some r:=by first|(rw [hji8] at H;exact H)|(simp only[hji8] at H ⊢;exact H)
   have hji8w:(IntKind.i64.wrap (x4_1-1))=ji8:=(i64_w _).trans hji8
   by_cases c9:0≤(ji8);rotate_left
   ·
    rw [if_neg c9] at H
    exact absurd H (by simp)
   rw [if_pos c9] at H
   have c9b0:=decide_eq_true c9
   clear c9
   by_cases c10:(ji8)<(l0.length:Int);rotate_left
   ·
    rw [if_neg c10] at H
    exact absurd H (by simp)
   rw [if_pos c10] at H
   have c10b0:=z212_
   clear c10
   by_cases c11:0≤x4_1;rotate_left
   ·
    rw [if_neg c11] at H
    exact absurd H (by simp)
   rw [if_pos c11] at H
   have c11b0:=decide_eq_true c11
   clear c11
   by_cases c12:x3_1.length<4398046511104;rotate_left
   ·
    rw [if_neg c12] at H
    exact absurd H (by simp)
   rw [if_pos c12] at H
   have LMc12:=ak c12
   clear c12
   generalize hy174:(x3_1++[(⟨(⟨(rd_T75 l0 (ji8)).f0,(rd_T75 l0 (ji8)).f1⟩:S75),(⟨(rd_T75 l0 x4_1).f0,(rd_T75 l0 x4_1).f1⟩:S75)⟩:S101)])=y174 at H;have Ny174:=ak hy174.symm;clear hy174;try rw [Option.bind_some] at H
   have H':=ak H
   clear H
   try go_wp2
   replace HO_3:=z97_ HO_3
   replace HB:=z42_
   have p172:0≤((ji8):Int):=od_
   have q172:(ji8)<(l0.length:Int):=od_
   obtain⟨ad172,e172,hx172_0,hx172_1⟩:=at_T75 HR0.out (ji8) p172 q172
   have hw172_1:=hx172_1
   have hw172_0:=hx172_0
   cases e172
   replace hx172_0:=(HB.out.cell (bl_ w _ hx172_0)).trans hx172_0
   replace hx172_1:=(HB.out.cell (bl_ w _ hx172_1)).trans hx172_1
   replace p172:=eq_true p172
   replace q172:=eq_true q172
   have p173:0≤(x4_1:Int):=od_
   have q173:x4_1<(l0.length:Int):=od_
   obtain⟨ad173,e173,hx173_0,hx173_1⟩:=at_T75 HR0.out x4_1 p173 q173
   have hw173_1:=hx173_1
   have hw173_0:=hx173_0
   obtain rfl:ad172=ad173:=(by injection e173)
   replace hx173_0:=(HB.out.cell (bl_ w _ hx173_0)).trans hx173_0
   replace hx173_1:=(HB.out.cell (bl_ w _ hx173_1)).trans hx173_1
   replace p173:=eq_true p173
   replace q173:=eq_true q173
   refine start_ (n:=14) (S:=fun w'=>w'.cell? (ad172.add (((ji8)).toNat*2))=some (.int .i64 ((rd_T75 l0 (ji8)).f0))∧w'.cell? ⟨(ad172.add (((ji8)).toNat*2)).block,(ad172.add (((ji8)).toNat*2)).off+1,none⟩=some (.int .i64 ((rd_T75 l0 (ji8)).f1))∧w'.cell? (ad172.add ((x4_1).toNat*2))=some (.int .i64 ((rd_T75 l0 x4_1).f0))∧w'.cell? ⟨(ad172.add ((x4_1).toNat*2)).block,(ad172.add ((x4_1).toNat*2)).off+1,none⟩=some (.int .i64 ((rd_T75 l0 x4_1).f1))) (ds:=[]) #[Z,Z,Z,Z,Z,Z,Z,Z,Z,Z,Z,Z,Z,Z] (by kernel_rfl) rfl rfl ⟨((HB.out.cell (bl_ w _ hw172_0)).trans hw172_0),((HB.out.cell (bl_ w _ hw172_1)).trans hw172_1),((HB.out.cell (bl_ w _ hw173_0)).trans hw173_0),((HB.out.cell (bl_ w _ hw173_1)).trans hw173_1)⟩ (fun hHeld=>?_);refine with_tabW impl_SegmentsOf.tab7 impl_SegmentsOf.bits7 (fun HT_ HW_=>?_)
   generalize wr.drew=w13 at HO_3 HB hx172_0 hx172_1 hx173_0 hx173_1 hHeld ⊢
   refine Hd.p_ HT_ 0 (some 16) #[Y,Z,Z,Z,Z,Z,Z,Z,Z,Z,Z,Z,Z,Z] ?_
   refine Hd.p_ HT_ 1 (some 17) #[Y,Y,Z,Z,Z,Z,Z,Z,Z,Z,Z,Z,Z,Z] ?_
   refine Hd.p_ HT_ 2 (some 18) #[Y,Y,Y,Z,Z,Z,Z,Z,Z,Z,Z,Z,Z,Z] ?_
   refine Hd.p_ HT_ 3 (some 19) #[Y,Y,Y,Y,Z,Z,Z,Z,Z,Z,Z,Z,Z,Z] ?_
   refine Hd.p_ HT_ 4 (some 20) #[Y,Y,Y,Y,Y,Z,Z,Z,Z,Z,Z,Z,Z,Z] ?_
   refine Hd.p_ HT_ 6 (some 22) #[Y,Y,Y,Y,Y,Z,Y,Z,Z,Z,Z,Z,Z,Z] ?_
   refine Hd.p_ HT_ 7 (some 23) #[Y,Y,Y,Y,Y,Z,Y,Y,Z,Z,Z,Z,Z,Z] ?_
   refine Hd.p_ HT_ 8 (some 24) #[Y,Y,Y,Y,Y,Z,Y,Y,Y,Z,Z,Z,Z,Z] ?_
   refine Hd.t_ HT_ HW_ hHeld 5 (some 21) #[Y,Y,Y,Y,Y,Y,Y,Y,Y,Z,Z,Z,Z,Z] ?_
   refine Hd.t_ HT_ HW_ hHeld 9 (some 25) #[Y,Y,Y,Y,Y,Y,Y,Y,Y,Y,Z,Z,Z,Z] ?_
   refine Hd.p_ HT_ 10 (some 26) #[Y,Y,Y,Y,Y,Y,Y,Y,Y,Y,Y,Z,Z,Z] ?_
   refine Hd.o_ HT_ 11 (some 27) #[Y,Y,Y,Y,Y,Y,Y,Y,Y,Y,Y,Y,Z,Z] (fun K hK=>?_)
   refine value_ (w1:=?_) (v:=?_) (by rfl) rfl ?_ ?_
   rotate_left 2
   ·
    go_simp
    constructor
    ·
     rfl
    ·
     rfl
   refine hK.out _ _ ⟨(World.cell?_alloc_lt _ _ _ (bl_ _ _ (((HB.out.cell (bl_ w _ hw172_0)).trans hw172_0)))).trans (((HB.out.cell (bl_ w _ hw172_0)).trans hw172_0)),(World.cell?_alloc_lt _ _ _ (bl_ _ _ (((HB.out.cell (bl_ w _ hw172_1)).trans hw172_1)))).trans (((HB.out.cell (bl_ w _ hw172_1)).trans hw172_1)),(World.cell?_alloc_lt _ _ _ (bl_ _ _ (((HB.out.cell (bl_ w _ hw173_0)).trans hw173_0)))).trans (((HB.out.cell (bl_ w _ hw173_0)).trans hw173_0)),(World.cell?_alloc_lt _ _ _ (bl_ _ _ (((HB.out.cell (bl_ w _ hw173_1)).trans hw173_1)))).trans (((HB.out.cell (bl_ w _ hw173_1)).trans hw173_1))⟩ (fun hHeld=>?_)
   clear hK K
   refine Hd.n_ (some 27) ?_
   refine Hd.o_ HT_ 12 (some 28) #[Y,Y,Y,Y,Y,Y,Y,Y,Y,Y,Y,Y,Y,Z] (fun K hK=>?_)
   refine Kd.R_append_step k101 (w0:=w) w.heap.size (by rfl) (.tmp 16) (.tmp 27) 79 101 (.agg #[(.int .i64 0),(.int .i64 0),(.int .i64 0),(.int .i64 0)]) 32 rfl Try.underlying79 info101 rfl (by decide) (by omega) u3 x3_1 (⟨(⟨(rd_T75 l0 (ji8)).f0,(rd_T75 l0 (ji8)).f1⟩:S75),(⟨(rd_T75 l0 x4_1).f0,(rd_T75 l0 x4_1).f1⟩:S75)⟩:S101) [.int .i64 ((rd_T75 l0 (ji8)).f0),.int .i64 ((rd_T75 l0 (ji8)).f1),.int .i64 ((rd_T75 l0 x4_1).f0),.int .i64 ((rd_T75 l0 x4_1).f1)] (fun _=>True) (fun _=>False) rfl rfl ?aP (fun _ hk=>hk.elim) ?aF ?aO ?aB ?aS ?aL ?_
   (case aP=>exact k101_mkM _ _ _ (⟨(⟨(rd_T75 l0 (ji8)).f0,(rd_T75 l0 (ji8)).f1⟩:S75),(⟨(rd_T75 l0 x4_1).f0,(rd_T75 l0 x4_1).f1⟩:S75)⟩:S101))
   (case aB=>exact Hd.b_)
   (case aF=>exact z177_)
   (case aO=>exact(Hd.r_ HO_3))
   (case aS=>exact z133_)
   (case aL=>have:=LMc12.out;omega)
   intro v175 w14 ho hb hg hat
   rw [← Ny174.out] at ho
   have n0_:=ak (hb)
   have n1_:=ak (ho)
   clear HB
   clear HO_3
   have HB:=n0_
   have HO176:=n1_
   clear n0_ n1_
   clear ho hb hg hat
   refine hK.out _ _ ⟨((HB.out.cell (bl_ w _ hw172_0)).trans hw172_0),((HB.out.cell (bl_ w _ hw172_1)).trans hw172_1),((HB.out.cell (bl_ w _ hw173_0)).trans hw173_0),((HB.out.cell (bl_ w _ hw173_1)).trans hw173_1)⟩ (fun hHeld=>?_)
   clear hK K
   refine Hd.n_ (some 28) ?_
   refine Hd.p_ HT_ 13 (some 3) #[Y,Y,Y,Y,Y,Y,Y,Y,Y,Y,Y,Y,Y,Y] ?_
   refine done_ (done_of HT_.out (by kernel_rfl)) ?_
   try go_wp2
   go_roundg k1
   case measure=>have:=HK1.out;omega
   case rel=>exact⟨(y174),(wrap64 (x4_1+1)),z14_,H',⟨z101_⟩,⟨z12_ HO176⟩,⟨Hd.b_⟩⟩
end Go.Proofs.Ytbbdhlggnglfgaa.MFnFeatures
