-- Laid by this session's program pp.py, after the kit's print and texts of the session's own. Not trusted: Lean checks it.
import Derived.Test.YtbbdhlggnglfgaaZFnFeaturesMx0
import Derived.Test.YtbbdhlggnglfgaaZFnFeaturesMx1
import Derived.Test.YtbbdhlggnglfgaaZFnFeaturesMx11
import Derived.Test.YtbbdhlggnglfgaaZFnFeaturesMx12
namespace Go.Proofs.Ytbbdhlggnglfgaa.MFnFeatures
open Go.RowKit Go.Proofs.YtbbdhlggnglfgaaW.PrintWords Go.Proofs.YtbbdhlggnglfgaaW.PrintLast Go.Proofs.YtbbdhlggnglfgaaW.PrintMore
attribute [local go_sem] max2_int min2_int max_two min_two max_three min_three max_four min_four
set_option linter.unusedVariables false
set_option maxHeartbeats 8000000
set_option maxRecDepth 100000
set_option linter.unusedSimpArgs false
attribute [local go_sem high] eqA75
mutual
def spec_l5Shared.l0:Nat→List (S75)→List (S75)→Int→Int→Int→Int→Int→Int→Int→Int→Int→Option (Int)
 | 0,_,_,_,_,_,_,_,_,_,_,_=>none
 | k+1,x5,x6,x7,x367000,x367001,x367002,x367003,x368000,x368001,x368002,x368003=>if x7<4 then (if x7<2 then (if 0≤x7 then (if x7<(x6.length:Int) then ((spec_IsOn.f x368000 x368001 x368002 x368003 ((rd_T75 x6 x7).f0) ((rd_T75 x6 x7).f1)).bind fun t375=>(if t375=true then (spec_l5Shared.j1 k x5 x6 x7 true x367000 x367001 x367002 x367003 x368000 x368001 x368002 x368003) else (if x7≥2 then ((spec_IsOn.f x367000 x367001 x367002 x367003 ((rd_T75 x6 x7).f0) ((rd_T75 x6 x7).f1)).bind fun t377=>(spec_l5Shared.j1 k x5 x6 x7 t377 x367000 x367001 x367002 x367003 x368000 x368001 x368002 x368003)) else (spec_l5Shared.j1 k x5 x6 x7 false x367000 x367001 x367002 x367003 x368000 x368001 x368002 x368003)))) else (none)) else (none)) else (if x7≥2 then (if 0≤x7 then (if x7<(x6.length:Int) then ((spec_IsOn.f x367000 x367001 x367002 x367003 ((rd_T75 x6 x7).f0) ((rd_T75 x6 x7).f1)).bind fun t379=>(spec_l5Shared.j1 k x5 x6 x7 t379 x367000 x367001 x367002 x367003 x368000 x368001 x368002 x368003)) else (none)) else (none)) else (spec_l5Shared.j1 k x5 x6 x7 false x367000 x367001 x367002 x367003 x368000 x368001 x368002 x368003))) else (some (x5.length:Int))
def spec_l5Shared.j1:Nat→List (S75)→List (S75)→Int→Bool→Int→Int→Int→Int→Int→Int→Int→Int→Option (Int)
 | 0,_,_,_,_,_,_,_,_,_,_,_,_=>none
 | k+1,x5,x6,x7,x8,x367000,x367001,x367002,x367003,x368000,x368001,x368002,x368003=>spec_l5Shared.l1 k x5 x6 x7 x8 0 x367000 x367001 x367002 x367003 x368000 x368001 x368002 x368003
def spec_l5Shared.l1:Nat→List (S75)→List (S75)→Int→Bool→Int→Int→Int→Int→Int→Int→Int→Int→Int→Option (Int)
 | 0,_,_,_,_,_,_,_,_,_,_,_,_,_=>none
 | k+1,x5,x6,x7,x8,x9,x367000,x367001,x367002,x367003,x368000,x368001,x368002,x368003=>if x9<(x5.length:Int) then (if x8=true then (if 0≤x9 then (if 0≤x7 then (if x7<(x6.length:Int) then (spec_l5Shared.l1 k x5 x6 x7 (!(((rd_T75 x5 x9).f0)==((rd_T75 x6 x7).f0))||(!(((rd_T75 x5 x9).f1)==((rd_T75 x6 x7).f1)))) (wrap64 (x9+1)) x367000 x367001 x367002 x367003 x368000 x368001 x368002 x368003) else (none)) else (none)) else (none)) else (spec_l5Shared.l1 k x5 x6 x7 false (wrap64 (x9+1)) x367000 x367001 x367002 x367003 x368000 x368001 x368002 x368003)) else (if x8=true then (if 0≤x7 then (if x7<(x6.length:Int) then (if x5.length<8796093022208 then (spec_l5Shared.l0 k (x5++[(⟨(rd_T75 x6 x7).f0,(rd_T75 x6 x7).f1⟩:S75)]) x6 (wrap64 (x7+1)) x367000 x367001 x367002 x367003 x368000 x368001 x368002 x368003) else (none)) else (none)) else (none)) else (spec_l5Shared.l0 k x5 x6 (wrap64 (x7+1)) x367000 x367001 x367002 x367003 x368000 x368001 x368002 x368003))
end
def spec_l5Shared.f (k:Nat) (a0_0:Int) (a0_1:Int) (a0_2:Int) (a0_3:Int) (a1_0:Int) (a1_1:Int) (a1_2:Int) (a1_3:Int):Option (Int):=spec_l5Shared.l0 k (([]:List (S75))) (([(⟨a0_0,a0_1⟩:S75),(⟨a0_2,a0_3⟩:S75),(⟨a1_0,a1_1⟩:S75),(⟨a1_2,a1_3⟩:S75)]:List (S75))) 0 a0_0 a0_1 a0_2 a0_3 a1_0 a1_1 a1_2 a1_3
theorem spec_l5Shared.calls (k:Nat) (a0_0:Int) (a0_1:Int) (a0_2:Int) (a0_3:Int) (a1_0:Int) (a1_1:Int) (a1_2:Int) (a1_3:Int) (r:Int) (w:World) (h:spec_l5Shared.f k a0_0 a0_1 a0_2 a0_3 a1_0 a1_1 a1_2 a1_3=some r) :
  Calls Try.prog 110 #[.agg #[.int .i64 a0_0,.int .i64 a0_1,.int .i64 a0_2,.int .i64 a0_3],.agg #[.int .i64 a1_0,.int .i64 a1_1,.int .i64 a1_2,.int .i64 a1_3]] w fun e w'=>e = .returned (.int .i64 r)∧Below w.heap.size w w':=by
 have hu101:=Try.underlying101
 have hu75:=Try.underlying75
 have HB:=z52_
 have H:=h;clear h;unfold spec_l5Shared.f at H
 obtain⟨y368,hy368⟩:∃ y_:List (S75),y_=(([]:List (S75))):=⟨_,rfl⟩
 replace H:(spec_l5Shared.l0 k y368 (([(⟨a0_0,a0_1⟩:S75),(⟨a0_2,a0_3⟩:S75),(⟨a1_0,a1_1⟩:S75),(⟨a1_2,a1_3⟩:S75)]:List (S75))) 0 a0_0 a0_1 a0_2 a0_3 a1_0 a1_1 a1_2 a1_3)=some r:=by first|(rw [hy368];with_reducible exact H)|(have H2_:=(Option.bind_some _ _).symm.trans H;rw [hy368];with_reducible exact H2_)|(have H2_:=(Option.bind_some _ _).symm.trans H;with_reducible exact H2_)|with_reducible exact H|(rw [hy368];exact H)|exact H
 have Ny368:=ak hy368
 clear hy368
 generalize hy371:(([(⟨a0_0,a0_1⟩:S75),(⟨a0_2,a0_3⟩:S75),(⟨a1_0,a1_1⟩:S75),(⟨a1_2,a1_3⟩:S75)]:List (S75)))=y371 at H;have Ny371:=ak hy371.symm;clear hy371;try rw [Option.bind_some] at H
 have H':=ak H
 clear H
 go_enter Try.func110,Try.ntmps110
 go_wp2_with (first|((with_reducible refine gate_dst (N:=2) rfl ?_);refine Hd.box_ 2 (#[.int .i64 a0_0,.int .i64 a0_1,.int .i64 a0_2,.int .i64 a0_3]) 101 ?_;intro gb366 hg w3 hbox hb;have BK366:=ak (hbox);have GW366:=ak ((Hd.g_ hg Hd.b_:w.heap.size≤gb366));have GE366:=ak ((Hd.g_ hg Hd.b_:w.heap.size≤gb366));replace HB:=z17_;clear hb hbox hg)|((with_reducible refine gate_dst (N:=3) rfl ?_);refine Hd.box_ 3 (#[.int .i64 a1_0,.int .i64 a1_1,.int .i64 a1_2,.int .i64 a1_3]) 101 ?_;intro gb367 hg w4 hbox hb;have BK367:=ak (hbox);have GW367:=ak ((Hd.g_ hg Hd.b_:w.heap.size≤gb367));have GE367:=ak ((Hd.g_ hg Hd.b_:w.heap.size≤gb367));replace HB:=z17_;have NB366_367:=ak ((Hd.lt_ BK366 hg));have NB367_366:=ak ((Hd.gt_ BK366 hg));replace BK366:=ak (Hd.kb_ BK366 hb);clear hb hbox hg)|((with_reducible refine gate_dst (N:=10) rfl ?_);refine Kd.R_lit k75 _ 75 ?hg (N:=10) ?hd (xs:=([]:List (S75))) (inner:=[]) (ok:=fun _=>True) (okp:=fun _=>True) ?hr ?hp (fun _ hk=>hk) trivial (Below.refl _ _) (Nat.le_refl _) (by simp) ?_;(case hd=>rfl);(case hg=>rfl);(case hr=>exact z39_);(case hp=>exact z213_);intro v369 w5 ho6 hb hg_ hnew_;clear hg_ hnew_;(first|rw [← Ny368.out] at ho6|(simp only[Int.reduceToNat] at ho6;rw [← Ny368.out] at ho6));have HO370:=ak (Kd.R_lower ho6 (below_size Hd.b_));replace BK366:=ak (Hd.kb_ BK366 hb);replace BK367:=ak (Hd.kb_ BK367 hb);replace HB:=z17_;clear hb ho6;have hnb7:=NB366_367.out;have hnc7:=NB367_366.out;obtain⟨hcz8_0,hcz8_1,hcz8_2,hcz8_3⟩:=Hd.c4_ BK366.out;obtain⟨hfz8_0,hfz8_1,hfz8_2,hfz8_3⟩:=Hd.f4_ BK366.out;obtain⟨hcz9_0,hcz9_1,hcz9_2,hcz9_3⟩:=Hd.c4_ BK367.out;obtain⟨hfz9_0,hfz9_1,hfz9_2,hfz9_3⟩:=Hd.f4_ BK367.out)|((with_reducible refine gate_dst (N:=19) rfl ?_);refine Kd.R_lit k75 _ 75 ?hg (N:=19) ?hd (xs:=([(⟨a0_0,a0_1⟩:S75),(⟨a0_2,a0_3⟩:S75),(⟨a1_0,a1_1⟩:S75),(⟨a1_2,a1_3⟩:S75)]:List (S75))) (inner:=[.int .i64 a0_0,.int .i64 a0_1,.int .i64 a0_2,.int .i64 a0_3,.int .i64 a1_0,.int .i64 a1_1,.int .i64 a1_2,.int .i64 a1_3]) (ok:=fun _=>True) (okp:=fun _=>True) ?hr ?hp (fun _ hk=>hk) trivial (Below.refl _ _) (Nat.le_refl _) (by simp) ?_;(case hd=>rfl);(case hg=>rfl);(case hr=>exact z39_);(case hp=>exact(Reps.c2 (show Kd.M k75 _ _ _ (⟨a0_0,a0_1⟩:S75) [.int .i64 a0_0,.int .i64 a0_1] from (k75_mkM _ _ _ (⟨a0_0,a0_1⟩:S75) )) (Reps.c2 (show Kd.M k75 _ _ _ (⟨a0_2,a0_3⟩:S75) [.int .i64 a0_2,.int .i64 a0_3] from (k75_mkM _ _ _ (⟨a0_2,a0_3⟩:S75) )) (Reps.c2 (show Kd.M k75 _ _ _ (⟨a1_0,a1_1⟩:S75) [.int .i64 a1_0,.int .i64 a1_1] from (k75_mkM _ _ _ (⟨a1_0,a1_1⟩:S75) )) (Reps.c2 (show Kd.M k75 _ _ _ (⟨a1_2,a1_3⟩:S75) [.int .i64 a1_2,.int .i64 a1_3] from (k75_mkM _ _ _ (⟨a1_2,a1_3⟩:S75) )) (Reps.none _ _))))));intro v372 w10 ho11 hb hg_ hnew_;clear hg_ hnew_;(first|rw [← Ny371.out] at ho11|(simp only[Int.reduceToNat] at ho11;rw [← Ny371.out] at ho11));have HO373:=ak (Kd.R_lower (Kd.R_new' ho11 (Kd.R_lt (Hd.r_ HO370))) (below_size Hd.b_));replace HO370:=ak (Kd.R_elder' (Hd.r_ HO370) (Kd.R_base ho11) hb);replace BK366:=ak (Hd.kb_ BK366 hb);replace BK367:=ak (Hd.kb_ BK367 hb);replace HB:=z17_;clear hb ho11))
 go_loopg [5,7] k (fun kq v5 v7 w'=>∃ (x5_1:List (S75)) (x7_1:Int),v7 = .int .i64 x7_1∧Aside0 (spec_l5Shared.l0 kq x5_1 y371 x7_1 a0_0 a0_1 a0_2 a0_3 a1_0 a1_1 a1_2 a1_3=some r)∧Aside0 (kq≤k)∧Aside0 (Kd.R k75 75 w' w.heap.size (fun k_=>some k_≠(v372:Value).ownBlock) v5 x5_1)∧Aside0 (Kd.R k75 75 w' w.heap.size (fun k_=>some k_≠(v5:Value).ownBlock) v372 y371)∧Aside0 (w'.heap[gb366]?=some (.cells #[.int .i64 a0_0,.int .i64 a0_1,.int .i64 a0_2,.int .i64 a0_3] 101 (0,0)))∧Aside0 (w'.heap[gb367]?=some (.cells #[.int .i64 a1_0,.int .i64 a1_1,.int .i64 a1_2,.int .i64 a1_3] 101 (0,0)))∧Aside0 (Below w.heap.size w w'))
 case atStart=>exact⟨(y368),(0),z14_,H',⟨Nat.le_refl _⟩,⟨z137_ HO370⟩,⟨z137_ HO373⟩,⟨z6_ BK366⟩,⟨z6_ BK367⟩,⟨Hd.b_⟩⟩
 case round =>
  clear H'
  try clear c2;try clear hcz8_0;try clear hcz8_1;try clear hcz8_2;try clear hcz8_3;try clear hcz9_0;try clear hcz9_1;try clear hcz9_2;try clear hcz9_3;try clear hfz8_0;try clear hfz8_1;try clear hfz8_2;try clear hfz8_3;try clear hfz9_0;try clear hfz9_1;try clear hfz9_2;try clear hfz9_3
  obtain⟨x5_1,x7_1,rfl,HA,HK1,HO_5,HO_6,BK366,BK367,HB⟩:=hrel
  cases gk with
  | zero=>exact absurd HA.out (by simp [spec_l5Shared.l0])
  | succ k1 =>
   have H:=HA.out
   clear HA
   simp only[spec_l5Shared.l0] at H
   by_cases c12:x7_1<4;rotate_left
   ·
    rw [if_neg c12] at H
    have c12b0:=decide_eq_false c12
    clear c12
    obtain rfl:=Option.some.inj H
    obtain⟨Ao57,co57,eo57⟩:=Kd.R_slice HO_5.out
    subst eo57
    go_wp2
    go_ret
    exact⟨Hd.e_,Hd.b_⟩
   rw [if_pos c12] at H
   have c12b0:=decide_eq_true c12
   clear c12
   have HC13:=ak H
   clear H
   go_upto_region 6 with (fail)
   go_cut [8] (fun v8 wc=>∃ (kq:Nat) (x8_12:Bool),v8 = .bool x8_12∧Aside0 (spec_l5Shared.j1 kq x5_1 y371 x7_1 x8_12 a0_0 a0_1 a0_2 a0_3 a1_0 a1_1 a1_2 a1_3=some r)∧Aside0 (kq≤k1)∧Aside0 (Kd.R k75 75 wc w.heap.size (fun k_=>some k_≠(v372:Value).ownBlock) u5 x5_1)∧Aside0 (Kd.R k75 75 wc w.heap.size (fun k_=>some k_≠(u5:Value).ownBlock) v372 y371)∧Aside0 (wc.heap[gb366]?=some (.cells #[.int .i64 a0_0,.int .i64 a0_1,.int .i64 a0_2,.int .i64 a0_3] 101 (0,0)))∧Aside0 (wc.heap[gb367]?=some (.cells #[.int .i64 a1_0,.int .i64 a1_1,.int .i64 a1_2,.int .i64 a1_3] 101 (0,0)))∧Aside0 (Below w.heap.size w wc))
   case first =>
    have H:=HC13.out
    clear HC13
    by_cases c14:x7_1<2;rotate_left
    ·
     rw [if_neg c14] at H
     have c14b0:=decide_eq_false c14
     clear c14
     (first|rw [c14b0]|(simp only[i64_w,i32_w];rw [c14b0])|skip)
     by_cases c31:x7_1≥2;rotate_left
     ·
      rw [if_neg c31] at H
      have c31b0:decide (2≤x7_1)=false:=decide_eq_false c31
      clear c31
      have H':=ak H
      clear H
      try go_wp2
      replace HO_5:=z97_ HO_5
      replace HO_6:=z97_ HO_6
      replace BK366:=z65_ BK366
      replace BK367:=z65_ BK367
      replace HB:=z42_
      refine Hd.HW.region (by kernel_rfl) (by kernel_rfl) ?_
      repeat (go_big_quiet_step (fail))
      refine wpQuiet_nil ?_
      intro _ hq_
      obtain⟨q_,rfl⟩:=hq_
      replace HO_5:=z89_ HO_5
      replace HO_6:=z89_ HO_6
      replace BK366:=z63_ BK366
      replace BK367:=z63_ BK367
      replace HB:=z58_
      generalize q_.W=w38 at HO_5 HO_6 BK366 BK367 HB ⊢
      try simp only[i64_w,i32_w]
      try go_wp2
      go_meet
      case rel=>exact⟨_,(false),z14_,H',⟨z103_⟩,⟨z12_ HO_5⟩,⟨z12_ HO_6⟩,⟨z6_ BK366⟩,⟨z6_ BK367⟩,⟨Hd.b_⟩⟩
     rw [if_pos c31] at H
     have c31b0:decide (2≤x7_1)=true:=decide_eq_true c31
     clear c31
     by_cases c32:0≤x7_1;rotate_left
     ·
      rw [if_neg c32] at H
      exact absurd H (by simp)
     rw [if_pos c32] at H
     have c32b0:=decide_eq_true c32
     clear c32
     by_cases c33:x7_1<(y371.length:Int);rotate_left
     ·
      rw [if_neg c33] at H
      exact absurd H (by simp)
     rw [if_pos c33] at H
     have c33b0:=decide_eq_true c33
     clear c33
     replace H:=Hd.bd_ H;obtain⟨t379,A34,H⟩:=H
     have H':=ak H
     clear H
     try go_wp2
     replace HO_5:=z97_ HO_5
     replace HO_6:=z97_ HO_6
     replace BK366:=z65_ BK366
     replace BK367:=z65_ BK367
     replace HB:=z42_
     obtain⟨Ao36,co36,eo36⟩:=Kd.R_slice HO_6.out
     (first|subst eo36|(injection eo36 with f1_ f2_ f3_;have f4_:=f1_.symm;have f5_:=f3_.symm;clear f1_ f2_ f3_;subst f4_;subst f5_))
     have p378:0≤(x7_1:Int):=od_
     have q378:x7_1<(y371.length:Int):=od_
     obtain⟨ad378,e378,hx378_0,hx378_1⟩:=at_T75 (Kd.R_reads' HO_6.out).2.2 x7_1 p378 q378
     cases e378
     replace p378:=eq_true p378
     replace q378:=eq_true q378
     obtain⟨s0_,s1_,s2_,s3_⟩:=Hd.HW.k4 (W0:=wr.drew) BK366
     have s4_:=Hd.HW.x (W0:=wr.drew) hx378_0
     have s5_:=Hd.HW.x (W0:=wr.drew) hx378_1
     refine Hd.HW.region (by kernel_rfl) (by kernel_rfl) ?_
     repeat (go_big_quiet_step ((first|(go_at_call 114;with_reducible exact Hd.HW.c (spec_IsOn.calls a0_0 a0_1 a0_2 a0_3 ((rd_T75 y371 x7_1).f0) ((rd_T75 y371 x7_1).f1) t379 _ A34.out)))))
     refine wpQuiet_nil ?_
     intro _ hq_
     obtain⟨q_,rfl⟩:=hq_
     clear s0_ s1_ s2_ s3_ s4_ s5_
     replace HO_5:=z89_ HO_5
     replace HO_6:=z89_ HO_6
     replace BK366:=z63_ BK366
     replace BK367:=z63_ BK367
     replace HB:=z58_
     replace hx378_0:=q_.cell hx378_0
     replace hx378_1:=q_.cell hx378_1
     generalize q_.W=w37 at HO_5 HO_6 BK366 BK367 HB hx378_0 hx378_1 ⊢
     try simp only[i64_w,i32_w]
     try go_wp2
     go_meet
     case rel=>exact⟨_,(t379),z14_,H',⟨z103_⟩,⟨z12_ HO_5⟩,⟨z12_ HO_6⟩,⟨z6_ BK366⟩,⟨z6_ BK367⟩,⟨Hd.b_⟩⟩
    rw [if_pos c14] at H
    have c14b0:=decide_eq_true c14
    clear c14
    (first|rw [c14b0]|(simp only[i64_w,i32_w];rw [c14b0])|skip)
    by_cases c15:0≤x7_1;rotate_left
    ·
     rw [if_neg c15] at H
     exact absurd H (by simp)
    rw [if_pos c15] at H
    have c15b0:=decide_eq_true c15
    clear c15
    by_cases c16:x7_1<(y371.length:Int);rotate_left
    ·
     rw [if_neg c16] at H
     exact absurd H (by simp)
    rw [if_pos c16] at H
    have c16b0:=decide_eq_true c16
    clear c16
    replace H:=Hd.bd_ H;obtain⟨t375,A17,H⟩:=H
    by_cases c18:t375=true
    ·
     subst c18
     rw [if_pos rfl] at H
     have H':=ak H
     clear H
     try go_wp2
     replace HO_5:=z97_ HO_5
     replace HO_6:=z97_ HO_6
     replace BK366:=z65_ BK366
     replace BK367:=z65_ BK367
     replace HB:=z42_
     obtain⟨Ao20,co20,eo20⟩:=Kd.R_slice HO_6.out
     (first|subst eo20|(injection eo20 with f1_ f2_ f3_;have f4_:=f1_.symm;have f5_:=f3_.symm;clear f1_ f2_ f3_;subst f4_;subst f5_))
     have p374:0≤(x7_1:Int):=od_
     have q374:x7_1<(y371.length:Int):=od_
     obtain⟨ad374,e374,hx374_0,hx374_1⟩:=at_T75 (Kd.R_reads' HO_6.out).2.2 x7_1 p374 q374
     cases e374
     replace p374:=eq_true p374
     replace q374:=eq_true q374
     obtain⟨s0_,s1_,s2_,s3_⟩:=Hd.HW.k4 (W0:=wr.drew) BK367
     have s4_:=Hd.HW.x (W0:=wr.drew) hx374_0
     have s5_:=Hd.HW.x (W0:=wr.drew) hx374_1
     refine Hd.HW.region (by kernel_rfl) (by kernel_rfl) ?_
     repeat (go_big_quiet_step ((first|(go_at_call 114;with_reducible exact Hd.HW.c (spec_IsOn.calls a1_0 a1_1 a1_2 a1_3 ((rd_T75 y371 x7_1).f0) ((rd_T75 y371 x7_1).f1) true _ A17.out)))))
     refine wpQuiet_nil ?_
     intro _ hq_
     obtain⟨q_,rfl⟩:=hq_
     clear s0_ s1_ s2_ s3_ s4_ s5_
     replace HO_5:=z89_ HO_5
     replace HO_6:=z89_ HO_6
     replace BK366:=z63_ BK366
     replace BK367:=z63_ BK367
     replace HB:=z58_
     replace hx374_0:=q_.cell hx374_0
     replace hx374_1:=q_.cell hx374_1
     generalize q_.W=w21 at HO_5 HO_6 BK366 BK367 HB hx374_0 hx374_1 ⊢
     try simp only[i64_w,i32_w]
     try go_wp2
     go_meet
     case rel=>exact⟨_,(true),z14_,H',⟨z103_⟩,⟨z12_ HO_5⟩,⟨z12_ HO_6⟩,⟨z6_ BK366⟩,⟨z6_ BK367⟩,⟨Hd.b_⟩⟩
    replace c18:=Bool.eq_false_iff.mpr c18
    subst c18
    rw [if_neg (show ¬ (false=true) by decide)] at H
    by_cases c22:x7_1≥2;rotate_left
    ·
     rw [if_neg c22] at H
     have c22b0:decide (2≤x7_1)=false:=decide_eq_false c22
     clear c22
     have H':=ak H
     clear H
     try go_wp2
     replace HO_5:=z97_ HO_5
     replace HO_6:=z97_ HO_6
     replace BK366:=z65_ BK366
     replace BK367:=z65_ BK367
     replace HB:=z42_
     obtain⟨Ao29,co29,eo29⟩:=Kd.R_slice HO_6.out
     (first|subst eo29|(injection eo29 with f1_ f2_ f3_;have f4_:=f1_.symm;have f5_:=f3_.symm;clear f1_ f2_ f3_;subst f4_;subst f5_))
     have p374:0≤(x7_1:Int):=od_
     have q374:x7_1<(y371.length:Int):=od_
     obtain⟨ad374,e374,hx374_0,hx374_1⟩:=at_T75 (Kd.R_reads' HO_6.out).2.2 x7_1 p374 q374
     cases e374
     replace p374:=eq_true p374
     replace q374:=eq_true q374
     obtain⟨s0_,s1_,s2_,s3_⟩:=Hd.HW.k4 (W0:=wr.drew) BK367
     have s4_:=Hd.HW.x (W0:=wr.drew) hx374_0
     have s5_:=Hd.HW.x (W0:=wr.drew) hx374_1
     refine Hd.HW.region (by kernel_rfl) (by kernel_rfl) ?_
     repeat (go_big_quiet_step ((first|(go_at_call 114;with_reducible exact Hd.HW.c (spec_IsOn.calls a1_0 a1_1 a1_2 a1_3 ((rd_T75 y371 x7_1).f0) ((rd_T75 y371 x7_1).f1) false _ A17.out)))))
     refine wpQuiet_nil ?_
     intro _ hq_
     obtain⟨q_,rfl⟩:=hq_
     clear s0_ s1_ s2_ s3_ s4_ s5_
     replace HO_5:=z89_ HO_5
     replace HO_6:=z89_ HO_6
     replace BK366:=z63_ BK366
     replace BK367:=z63_ BK367
     replace HB:=z58_
     replace hx374_0:=q_.cell hx374_0
     replace hx374_1:=q_.cell hx374_1
     generalize q_.W=w30 at HO_5 HO_6 BK366 BK367 HB hx374_0 hx374_1 ⊢
     try simp only[i64_w,i32_w]
     try go_wp2
     go_meet
     case rel=>exact⟨_,(false),z14_,H',⟨z103_⟩,⟨z12_ HO_5⟩,⟨z12_ HO_6⟩,⟨z6_ BK366⟩,⟨z6_ BK367⟩,⟨Hd.b_⟩⟩
    rw [if_pos c22] at H
    have c22b0:decide (2≤x7_1)=true:=decide_eq_true c22
    clear c22
    replace H:=Hd.bd_ H;obtain⟨t377,A23,H⟩:=H
    have H':=ak H
    clear H
    try go_wp2
    replace HO_5:=z97_ HO_5
    replace HO_6:=z97_ HO_6
    replace BK366:=z65_ BK366
    replace BK367:=z65_ BK367
    replace HB:=z42_
    obtain⟨Ao25,co25,eo25⟩:=Kd.R_slice HO_6.out
    (first|subst eo25|(injection eo25 with f1_ f2_ f3_;have f4_:=f1_.symm;have f5_:=f3_.symm;clear f1_ f2_ f3_;subst f4_;subst f5_))
    have p374:0≤(x7_1:Int):=od_
    have q374:x7_1<(y371.length:Int):=od_
    obtain⟨ad374,e374,hx374_0,hx374_1⟩:=at_T75 (Kd.R_reads' HO_6.out).2.2 x7_1 p374 q374
    cases e374
    replace p374:=eq_true p374
    replace q374:=eq_true q374
    have p376:0≤(x7_1:Int):=od_
    have q376:x7_1<(y371.length:Int):=od_
    obtain⟨ad376,e376,hx376_0,hx376_1⟩:=at_T75 (Kd.R_reads' HO_6.out).2.2 x7_1 p376 q376
    obtain rfl:ad374=ad376:=(by injection e376)
    replace p376:=eq_true p376
    replace q376:=eq_true q376
    obtain⟨s0_,s1_,s2_,s3_⟩:=Hd.HW.k4 (W0:=wr.drew) BK367
    obtain⟨s4_,s5_,s6_,s7_⟩:=Hd.HW.k4 (W0:=wr.drew) BK366
    have s8_:=Hd.HW.x (W0:=wr.drew) hx374_0
    have s9_:=Hd.HW.x (W0:=wr.drew) hx374_1
    have s10_:=Hd.HW.x (W0:=wr.drew) hx376_0
    have s11_:=Hd.HW.x (W0:=wr.drew) hx376_1
    refine Hd.HW.region (by kernel_rfl) (by kernel_rfl) ?_
    repeat (go_big_quiet_step ((first|(go_at_call 114;with_reducible exact Hd.HW.c (spec_IsOn.calls a1_0 a1_1 a1_2 a1_3 ((rd_T75 y371 x7_1).f0) ((rd_T75 y371 x7_1).f1) false _ A17.out))|(go_at_call 114;with_reducible exact Hd.HW.c (spec_IsOn.calls a0_0 a0_1 a0_2 a0_3 ((rd_T75 y371 x7_1).f0) ((rd_T75 y371 x7_1).f1) t377 _ A23.out)))))
    refine wpQuiet_nil ?_
    intro _ hq_
    obtain⟨q_,rfl⟩:=hq_
    clear s0_ s1_ s2_ s3_ s4_ s5_ s6_ s7_ s8_ s9_ s10_ s11_
    replace HO_5:=z89_ HO_5
    replace HO_6:=z89_ HO_6
    replace BK366:=z63_ BK366
    replace BK367:=z63_ BK367
    replace HB:=z58_
    replace hx374_0:=q_.cell hx374_0
    replace hx374_1:=q_.cell hx374_1
    replace hx376_0:=q_.cell hx376_0
    replace hx376_1:=q_.cell hx376_1
    generalize q_.W=w27 at HO_5 HO_6 BK366 BK367 HB hx374_0 hx374_1 hx376_0 hx376_1 ⊢
    try simp only[i64_w,i32_w]
    try go_wp2
    go_meet
    case rel=>exact⟨_,(t377),z14_,H',⟨z103_⟩,⟨z12_ HO_5⟩,⟨z12_ HO_6⟩,⟨z6_ BK366⟩,⟨z6_ BK367⟩,⟨Hd.b_⟩⟩
   case rest =>
    clear HC13
    try clear c14;try clear c14b0;try clear c15;try clear c16;try clear c31;try clear c31b0;try clear c32;try clear c32b0;try clear c33;try clear c33b0;try clear hx378_0;try clear hx378_1;try clear p378;try clear q378
    obtain⟨kq,x8_12,rfl,HA,HJ12,HO_5,HO_6,BK366,BK367,HB⟩:=hcut
    cases kq with
    | zero=>exact absurd HA.out (by simp [spec_l5Shared.j1])
    | succ kj12 =>
     have H:=HA.out
     clear HA
     simp only[spec_l5Shared.j1] at H
     have H':=ak H
     clear H
     go_wp2
     go_loopg [8,9] kj12 (fun kq v8 v9 w'=>∃ (x8_3:Bool) (x9_3:Int),v8 = .bool x8_3∧v9 = .int .i64 x9_3∧Aside0 (spec_l5Shared.l1 kq x5_1 y371 x7_1 x8_3 x9_3 a0_0 a0_1 a0_2 a0_3 a1_0 a1_1 a1_2 a1_3=some r)∧Aside0 (kq≤kj12)∧Aside0 (Kd.R k75 75 w' w.heap.size (fun k_=>some k_≠(v372:Value).ownBlock) u5 x5_1)∧Aside0 (Kd.R k75 75 w' w.heap.size (fun k_=>some k_≠(u5:Value).ownBlock) v372 y371)∧Aside0 (w'.heap[gb366]?=some (.cells #[.int .i64 a0_0,.int .i64 a0_1,.int .i64 a0_2,.int .i64 a0_3] 101 (0,0)))∧Aside0 (w'.heap[gb367]?=some (.cells #[.int .i64 a1_0,.int .i64 a1_1,.int .i64 a1_2,.int .i64 a1_3] 101 (0,0)))∧Aside0 (Below w.heap.size w w'))
     case atStart=>exact⟨(x8_12),(0),z14_,z14_,H',⟨Nat.le_refl _⟩,⟨z12_ HO_5⟩,⟨z12_ HO_6⟩,⟨z6_ BK366⟩,⟨z6_ BK367⟩,⟨Hd.b_⟩⟩
     case round =>
      clear H'
      try clear c14;try clear c14b0;try clear c15;try clear c16;try clear c31;try clear c31b0;try clear c32;try clear c32b0;try clear c33;try clear c33b0;try clear hx378_0;try clear hx378_1;try clear p378;try clear q378
      obtain⟨x8_3,x9_3,rfl,rfl,HA,HK3,HO_5,HO_6,BK366,BK367,HB⟩:=hrel
      cases gk with
      | zero=>exact absurd HA.out (by simp [spec_l5Shared.l1])
      | succ k3 =>
       have H:=HA.out
       clear HA
       simp only[spec_l5Shared.l1] at H
       by_cases c39:x9_3<(x5_1.length:Int);rotate_left
       ·
        rw [if_neg c39] at H
        have c39b0:=decide_eq_false c39
        clear c39
        by_cases c49:x8_3=true;rotate_left
        ·
         replace c49:=Bool.eq_false_iff.mpr c49
         subst c49
         rw [if_neg (show ¬ (false=true) by decide)] at H
         have H':=ak H
         clear H
         obtain⟨Ao56,co56,eo56⟩:=Kd.R_slice HO_5.out
         subst eo56
         go_wp2
         go_roundg k3
         case measure=>have:=HK1.out;have:=HJ12.out;have:=HK3.out;omega
         case rel=>exact⟨(x5_1),(wrap64 (x7_1+1)),z14_,H',⟨z166_⟩,⟨z12_ HO_5⟩,⟨z12_ HO_6⟩,⟨z6_ BK366⟩,⟨z6_ BK367⟩,⟨Hd.b_⟩⟩
        subst c49
        rw [if_pos rfl] at H
        by_cases c50:0≤x7_1;rotate_left
        ·
         rw [if_neg c50] at H
         exact absurd H (by simp)
        rw [if_pos c50] at H
        have c50b0:=decide_eq_true c50
        clear c50
        by_cases c51:x7_1<(y371.length:Int);rotate_left
        ·
         rw [if_neg c51] at H
         exact absurd H (by simp)
        rw [if_pos c51] at H
        have c51b0:=decide_eq_true c51
        clear c51
        by_cases c52:x5_1.length<8796093022208;rotate_left
        ·
         rw [if_neg c52] at H
         exact absurd H (by simp)
        rw [if_pos c52] at H
        have LMc52:=ak c52
        clear c52
        generalize hy383:(x5_1++[(⟨(rd_T75 y371 x7_1).f0,(rd_T75 y371 x7_1).f1⟩:S75)])=y383 at H;have Ny383:=ak hy383.symm;clear hy383;try rw [Option.bind_some] at H
        have H':=ak H
        clear H
        obtain⟨Ao53,co53,eo53⟩:=Kd.R_slice HO_5.out
        subst eo53
        obtain⟨Ao54,co54,eo54⟩:=Kd.R_slice HO_6.out
        subst eo54
        have p382:0≤(x7_1:Int):=od_
        have q382:x7_1<(y371.length:Int):=od_
        obtain⟨ad382,e382,hx382_0,hx382_1⟩:=at_T75 (Kd.R_reads' HO_6.out).2.2 x7_1 p382 q382
        cases e382
        replace p382:=eq_true p382
        replace q382:=eq_true q382
        go_wp2_with (first|((with_reducible refine gate_builtin (b:=.append) (xs:=#[.tmp 65,.tmp 70]) rfl ?_);at_builtin;refine Kd.R_append k75 (w0:=w) w.heap.size rfl (.tmp 65) (.tmp 70) 32 75 (.agg #[(.int .i64 0),(.int .i64 0)]) 16 rfl Try.underlying32 info75 rfl (by decide) (by omega) (.slice Ao53 x5_1.length co53) x5_1 (⟨(rd_T75 y371 x7_1).f0,(rd_T75 y371 x7_1).f1⟩:S75) [.int .i64 ((rd_T75 y371 x7_1).f0),.int .i64 ((rd_T75 y371 x7_1).f1)] (fun k_=>some k_≠(.slice (some ad382) y371.length co54:Value).ownBlock) (fun _=>False) rfl rfl ?aP (fun _ hk=>hk.elim) ?aF ?aO ?aB ?aS ?aL ?_;(case aP=>exact k75_mkM _ _ _ (⟨(rd_T75 y371 x7_1).f0,(rd_T75 y371 x7_1).f1⟩:S75));(case aB=>exact Hd.b_);(case aF=>exact(fun k_ hk=>Kd.fresh' (Kd.R_lt (Hd.r_ HO_6)) k_ hk));(case aO=>exact(Hd.r_ HO_5));(case aS=>exact z133_);(case aL=>have:=LMc52.out;omega);intro v384 w55 ho hb hg hat;rw [← Ny383.out] at ho;have n0_:=ak (Kd.R_after (ok:=(fun _=>True)) (by (with_reducible repeat (first|apply Kd.R_alloc|apply Kd.R_drewN|apply Kd.R_drew));exact Kd.R_mono HO_6.out (fun _ hk=>⟨trivial,hk⟩)) hg hat);have n1_:=ak (blk_grown (g:=gb366) (o:=.cells #[.int .i64 a0_0,.int .i64 a0_1,.int .i64 a0_2,.int .i64 a0_3] 101 (0,0)) (Hd.k_ BK366) hg (Kd.R_ne HO_5.out BK366.out (by decide)));have n2_:=ak (blk_grown (g:=gb367) (o:=.cells #[.int .i64 a1_0,.int .i64 a1_1,.int .i64 a1_2,.int .i64 a1_3] 101 (0,0)) (Hd.k_ BK367) hg (Kd.R_ne HO_5.out BK367.out (by decide)));have n3_:=ak (hb);have n4_:=ak (ho);clear HO_6;clear BK366;clear BK367;clear HB;clear HO_5;have HO_6:=n0_;have BK366:=n1_;have BK367:=n2_;have HB:=n3_;have HO385:=n4_;clear n0_ n1_ n2_ n3_ n4_;clear ho hb hg hat))
        go_roundg k3
        case measure=>have:=HK1.out;have:=HJ12.out;have:=HK3.out;omega
        case rel=>exact⟨(y383),(wrap64 (x7_1+1)),z14_,H',⟨z166_⟩,⟨z12_ HO385⟩,⟨z137_ HO_6⟩,⟨z6_ BK366⟩,⟨z6_ BK367⟩,⟨Hd.b_⟩⟩
       rw [if_pos c39] at H
       have c39b0:=decide_eq_true c39
       clear c39
       by_cases c40:x8_3=true;rotate_left
       ·
        replace c40:=Bool.eq_false_iff.mpr c40
        subst c40
        rw [if_neg (show ¬ (false=true) by decide)] at H
        have H':=ak H
        clear H
        obtain⟨Ao47,co47,eo47⟩:=Kd.R_slice HO_5.out
        subst eo47
        try go_wp2
        replace HO_5:=z97_ HO_5
        replace HO_6:=z97_ HO_6
        replace BK366:=z65_ BK366
        replace BK367:=z65_ BK367
        replace HB:=z42_
        refine Hd.HW.region (by kernel_rfl) (by kernel_rfl) ?_
        repeat (go_big_quiet_step (fail))
        refine wpQuiet_nil ?_
        intro _ hq_
        obtain⟨q_,rfl⟩:=hq_
        replace HO_5:=z89_ HO_5
        replace HO_6:=z89_ HO_6
        replace BK366:=z63_ BK366
        replace BK367:=z63_ BK367
        replace HB:=z58_
        generalize q_.W=w48 at HO_5 HO_6 BK366 BK367 HB ⊢
        try simp only[i64_w,i32_w]
        try go_wp2
        go_roundg k3
        case measure=>have:=HK1.out;have:=HJ12.out;have:=HK3.out;omega
        case rel=>exact⟨(false),(wrap64 (x9_3+1)),z14_,z14_,H',⟨z166_⟩,⟨z12_ HO_5⟩,⟨z12_ HO_6⟩,⟨z6_ BK366⟩,⟨z6_ BK367⟩,⟨Hd.b_⟩⟩
       subst c40
       rw [if_pos rfl] at H
       by_cases c41:0≤x9_3;rotate_left
       ·
        rw [if_neg c41] at H
        exact absurd H (by simp)
       rw [if_pos c41] at H
       have c41b0:=decide_eq_true c41
       clear c41
       by_cases c42:0≤x7_1;rotate_left
       ·
        rw [if_neg c42] at H
        exact absurd H (by simp)
       rw [if_pos c42] at H
       have c42b0:=decide_eq_true c42
       clear c42
       by_cases c43:x7_1<(y371.length:Int);rotate_left
       ·
        rw [if_neg c43] at H
        exact absurd H (by simp)
       rw [if_pos c43] at H
       have c43b0:=decide_eq_true c43
       clear c43
       have H':=ak H
       clear H
       obtain⟨Ao44,co44,eo44⟩:=Kd.R_slice HO_5.out
       subst eo44
       try go_wp2
       replace HO_5:=z97_ HO_5
       replace HO_6:=z97_ HO_6
       replace BK366:=z65_ BK366
       replace BK367:=z65_ BK367
       replace HB:=z42_
       have p380:0≤(x9_3:Int):=od_
       have q380:x9_3<(x5_1.length:Int):=od_
       obtain⟨ad380,e380,hx380_0,hx380_1⟩:=at_T75 (Kd.R_reads' HO_5.out).2.2 x9_3 p380 q380
       cases e380
       replace p380:=eq_true p380
       replace q380:=eq_true q380
       obtain⟨Ao46,co46,eo46⟩:=Kd.R_slice HO_6.out
       (first|subst eo46|(injection eo46 with f1_ f2_ f3_;have f4_:=f1_.symm;have f5_:=f3_.symm;clear f1_ f2_ f3_;subst f4_;subst f5_))
       have p381:0≤(x7_1:Int):=od_
       have q381:x7_1<(y371.length:Int):=od_
       obtain⟨ad381,e381,hx381_0,hx381_1⟩:=at_T75 (Kd.R_reads' HO_6.out).2.2 x7_1 p381 q381
       cases e381
       replace p381:=eq_true p381
       replace q381:=eq_true q381
       have s0_:=Hd.HW.x (W0:=wr.drew) hx380_0
       have s1_:=Hd.HW.x (W0:=wr.drew) hx380_1
       have s2_:=Hd.HW.x (W0:=wr.drew) hx381_0
       have s3_:=Hd.HW.x (W0:=wr.drew) hx381_1
       refine Hd.HW.region (by kernel_rfl) (by kernel_rfl) ?_
       repeat (go_big_quiet_step (fail))
       refine wpQuiet_nil ?_
       intro _ hq_
       obtain⟨q_,rfl⟩:=hq_
       clear s0_ s1_ s2_ s3_
       replace HO_5:=z89_ HO_5
       replace HO_6:=z89_ HO_6
       replace BK366:=z63_ BK366
       replace BK367:=z63_ BK367
       replace HB:=z58_
       replace hx380_0:=q_.cell hx380_0
       replace hx380_1:=q_.cell hx380_1
       replace hx381_0:=q_.cell hx381_0
       replace hx381_1:=q_.cell hx381_1
       generalize q_.W=w45 at HO_5 HO_6 BK366 BK367 HB hx380_0 hx380_1 hx381_0 hx381_1 ⊢
       try simp only[i64_w,i32_w]
       try go_wp2
       go_roundg k3
       case measure=>have:=HK1.out;have:=HJ12.out;have:=HK3.out;omega
       case rel=>exact⟨((!(((rd_T75 x5_1 x9_3).f0)==((rd_T75 y371 x7_1).f0))||(!(((rd_T75 x5_1 x9_3).f1)==((rd_T75 y371 x7_1).f1))))),(wrap64 (x9_3+1)),z14_,z14_,H',⟨z166_⟩,⟨z12_ HO_5⟩,⟨z12_ HO_6⟩,⟨z6_ BK366⟩,⟨z6_ BK367⟩,⟨Hd.b_⟩⟩
def spec_SideOf.j0:Nat→Bool→Int→Int→Int→Int→Int→Int→Option (Int)
 | 0,_,_,_,_,_,_,_=>none
 | k+1,x20,x387000,x387001,x388000,x388001,x389000,x389001=>if x20=true then (some 0) else ((spec_l4Cross.f x387000 x387001 x388000 x388001 x389000 x389001).bind fun t392=>(if t392>0 then (some 1) else (if t392<0 then (some (-1)) else (some 0))))
def spec_SideOf.f (k:Nat) (a0_0:Int) (a0_1:Int) (a1_0:Int) (a1_1:Int) (a2_0:Int) (a2_1:Int):Option (Int):=(spec_IsPoint.f a0_0 a0_1).bind fun t389=>(if t389=true then ((spec_IsPoint.f a1_0 a1_1).bind fun t390=>(if t390=true then ((spec_IsPoint.f a2_0 a2_1).bind fun t391=>(spec_SideOf.j0 k (!t391) a0_0 a0_1 a1_0 a1_1 a2_0 a2_1)) else (spec_SideOf.j0 k true a0_0 a0_1 a1_0 a1_1 a2_0 a2_1))) else (spec_SideOf.j0 k true a0_0 a0_1 a1_0 a1_1 a2_0 a2_1))
theorem spec_SideOf.calls (k:Nat) (a0_0:Int) (a0_1:Int) (a1_0:Int) (a1_1:Int) (a2_0:Int) (a2_1:Int) (r:Int) (w:World) (h:spec_SideOf.f k a0_0 a0_1 a1_0 a1_1 a2_0 a2_1=some r) :
  Calls Try.prog 111 #[.agg #[.int .i64 a0_0,.int .i64 a0_1],.agg #[.int .i64 a1_0,.int .i64 a1_1],.agg #[.int .i64 a2_0,.int .i64 a2_1]] w fun e w'=>e = .returned (.int .i64 r)∧Below w.heap.size w w':=by
 have hu75:=Try.underlying75
 have HB:=z52_
 have H:=h;clear h;unfold spec_SideOf.f at H
 have HC4:=ak H
 clear H
 go_enter Try.func111,Try.ntmps111
 go_upto_region 1 with (first|((with_reducible refine gate_dst (N:=3) rfl ?_);refine Hd.box_ 3 (#[.int .i64 a0_0,.int .i64 a0_1]) 75 ?_;intro gb386 hg w5 hbox hb;have BK386:=ak (hbox);have GW386:=ak ((Hd.g_ hg Hd.b_:w.heap.size≤gb386));have GE386:=ak ((Hd.g_ hg Hd.b_:w.heap.size≤gb386));replace HB:=z17_;clear hb hbox hg)|((with_reducible refine gate_dst (N:=4) rfl ?_);refine Hd.box_ 4 (#[.int .i64 a1_0,.int .i64 a1_1]) 75 ?_;intro gb387 hg w6 hbox hb;have BK387:=ak (hbox);have GW387:=ak ((Hd.g_ hg Hd.b_:w.heap.size≤gb387));have GE387:=ak ((Hd.g_ hg Hd.b_:w.heap.size≤gb387));replace HB:=z17_;have NB386_387:=ak ((Hd.lt_ BK386 hg));have NB387_386:=ak ((Hd.gt_ BK386 hg));replace BK386:=z164_;clear hb hbox hg)|((with_reducible refine gate_dst (N:=5) rfl ?_);refine Hd.box_ 5 (#[.int .i64 a2_0,.int .i64 a2_1]) 75 ?_;intro gb388 hg w7 hbox hb;have BK388:=ak (hbox);have GW388:=ak ((Hd.g_ hg Hd.b_:w.heap.size≤gb388));have GE388:=ak ((Hd.g_ hg Hd.b_:w.heap.size≤gb388));replace HB:=z17_;have NB386_388:=ak ((Hd.lt_ BK386 hg));have NB388_386:=ak ((Hd.gt_ BK386 hg));replace BK386:=z164_;have NB387_388:=ak ((Hd.lt_ BK387 hg));have NB388_387:=ak ((Hd.gt_ BK387 hg));replace BK387:=z169_;clear hb hbox hg))
 (try simp only[Act.put,List.setIfInBounds_toArray,List.set_cons_zero,List.set_cons_succ])
 go_cut [20] (fun v20 wc=>∃ (kq:Nat) (x20_3:Bool),v20 = .bool x20_3∧Aside0 (spec_SideOf.j0 kq x20_3 a0_0 a0_1 a1_0 a1_1 a2_0 a2_1=some r)∧Aside0 (kq≤k)∧Aside0 (wc.heap[gb386]?=some (.cells #[.int .i64 a0_0,.int .i64 a0_1] 75 (0,0)))∧Aside0 (wc.heap[gb387]?=some (.cells #[.int .i64 a1_0,.int .i64 a1_1] 75 (0,0)))∧Aside0 (wc.heap[gb388]?=some (.cells #[.int .i64 a2_0,.int .i64 a2_1] 75 (0,0)))∧Aside0 (Below w.heap.size w wc))
 case first =>
  have H:=HC4.out
  clear HC4
  replace H:=Hd.bd_ H;obtain⟨t389,A8,H⟩:=H
  by_cases c9:t389=true;rotate_left
  ·
   replace c9:=Bool.eq_false_iff.mpr c9
   subst c9
   rw [if_neg (show ¬ (false=true) by decide)] at H
   have H':=ak H
   clear H
   have hnb29:=NB386_387.out
   have hnc29:=NB387_386.out
   have hnb30:=NB386_388.out
   have hnc30:=NB388_386.out
   obtain⟨hcz31_0,hcz31_1⟩:=Hd.c2_ BK386.out
   obtain⟨hfz31_0,hfz31_1⟩:=Hd.f2_ BK386.out
   go_wp2_with (first|((with_reducible refine gate_callee (f:=81) rfl ?_);refine Hd.gl_ 9 Try.func81 #[.agg #[.int .i64 a0_0,.int .i64 a0_1]] ?_;(with_reducible refine(spec_IsPoint.calls a0_0 a0_1 false _ A8.out).mono ?_);rintro e w32 ⟨rfl,hb⟩;refine⟨_,rfl,?_⟩;replace BK386:=z164_;replace BK387:=z169_;replace BK388:=z186_;replace HB:=z17_;(try clear hb)))
   go_meet
   case rel=>exact⟨_,(true),z14_,H',⟨z73_⟩,⟨z6_ BK386⟩,⟨z6_ BK387⟩,⟨z6_ BK388⟩,⟨Hd.b_⟩⟩
  subst c9
  rw [if_pos rfl] at H
  replace H:=Hd.bd_ H;obtain⟨t390,A10,H⟩:=H
  by_cases c11:t390=true
  ·
   subst c11
   rw [if_pos rfl] at H
   replace H:=Hd.bd_ H;obtain⟨t391,A12,H⟩:=H
   have H':=ak H
   clear H
   have hnb13:=NB386_387.out
   have hnc13:=NB387_386.out
   have hnb14:=NB386_388.out
   have hnc14:=NB388_386.out
   obtain⟨hcz15_0,hcz15_1⟩:=Hd.c2_ BK386.out
   obtain⟨hfz15_0,hfz15_1⟩:=Hd.f2_ BK386.out
   go_wp2_with (first|((with_reducible refine gate_callee (f:=81) rfl ?_);refine Hd.gl_ 9 Try.func81 #[.agg #[.int .i64 a0_0,.int .i64 a0_1]] ?_;(with_reducible refine(spec_IsPoint.calls a0_0 a0_1 true _ A8.out).mono ?_);rintro e w16 ⟨rfl,hb⟩;refine⟨_,rfl,?_⟩;replace BK386:=z164_;replace BK387:=z169_;replace BK388:=z186_;replace HB:=z17_;(try clear hb);have hnb17:=NB387_388.out;have hnc17:=NB388_387.out;obtain⟨hcz18_0,hcz18_1⟩:=Hd.c2_ BK387.out;obtain⟨hfz18_0,hfz18_1⟩:=Hd.f2_ BK387.out)|(go_at_call 81;(with_reducible refine(spec_IsPoint.calls a1_0 a1_1 true _ A10.out).mono ?_);rintro e w19 ⟨rfl,hb⟩;replace BK386:=z164_;replace BK387:=z169_;replace BK388:=z186_;replace HB:=z17_;(try clear hb);(try clear hk);(try clear hi);obtain⟨hcz20_0,hcz20_1⟩:=Hd.c2_ BK388.out;obtain⟨hfz20_0,hfz20_1⟩:=Hd.f2_ BK388.out)|(go_at_call 81;(with_reducible refine(spec_IsPoint.calls a2_0 a2_1 t391 _ A12.out).mono ?_);rintro e w21 ⟨rfl,hb⟩;replace BK386:=z164_;replace BK387:=z169_;replace BK388:=z186_;replace HB:=z17_;clear hb))
   go_meet
   case rel=>exact⟨_,(!t391),z14_,H',⟨z73_⟩,⟨z6_ BK386⟩,⟨z6_ BK387⟩,⟨z6_ BK388⟩,⟨Hd.b_⟩⟩
  replace c11:=Bool.eq_false_iff.mpr c11
  subst c11
  rw [if_neg (show ¬ (false=true) by decide)] at H
  have H':=ak H
  clear H
  have hnb22:=NB386_387.out
  have hnc22:=NB387_386.out
  have hnb23:=NB386_388.out
  have hnc23:=NB388_386.out
  obtain⟨hcz24_0,hcz24_1⟩:=Hd.c2_ BK386.out
  obtain⟨hfz24_0,hfz24_1⟩:=Hd.f2_ BK386.out
  go_wp2_with (first|((with_reducible refine gate_callee (f:=81) rfl ?_);refine Hd.gl_ 9 Try.func81 #[.agg #[.int .i64 a0_0,.int .i64 a0_1]] ?_;(with_reducible refine(spec_IsPoint.calls a0_0 a0_1 true _ A8.out).mono ?_);rintro e w25 ⟨rfl,hb⟩;refine⟨_,rfl,?_⟩;replace BK386:=z164_;replace BK387:=z169_;replace BK388:=z186_;replace HB:=z17_;(try clear hb);have hnb26:=NB387_388.out;have hnc26:=NB388_387.out;obtain⟨hcz27_0,hcz27_1⟩:=Hd.c2_ BK387.out;obtain⟨hfz27_0,hfz27_1⟩:=Hd.f2_ BK387.out)|(go_at_call 81;(with_reducible refine(spec_IsPoint.calls a1_0 a1_1 false _ A10.out).mono ?_);rintro e w28 ⟨rfl,hb⟩;replace BK386:=z164_;replace BK387:=z169_;replace BK388:=z186_;replace HB:=z17_;(try clear hb);(try clear hk);(try clear hi)))
  go_meet
  case rel=>exact⟨_,(true),z14_,H',⟨z73_⟩,⟨z6_ BK386⟩,⟨z6_ BK387⟩,⟨z6_ BK388⟩,⟨Hd.b_⟩⟩
 case rest =>
  clear HC4
  try clear c9;try clear c11;try clear hcz15_0;try clear hcz15_1;try clear hcz18_0;try clear hcz18_1;try clear hcz20_0;try clear hcz20_1;try clear hcz24_0;try clear hcz24_1;try clear hcz27_0;try clear hcz27_1;try clear hcz31_0;try clear hcz31_1;try clear hfz15_0;try clear hfz15_1;try clear hfz18_0;try clear hfz18_1;try clear hfz20_0;try clear hfz20_1;try clear hfz24_0;try clear hfz24_1;try clear hfz27_0;try clear hfz27_1;try clear hfz31_0;try clear hfz31_1
  obtain⟨kq,x20_3,rfl,HA,HJ3,BK386,BK387,BK388,HB⟩:=hcut
  cases kq with
  | zero=>exact absurd HA.out (by simp [spec_SideOf.j0])
  | succ kj3 =>
   have H:=HA.out
   clear HA
   simp only[spec_SideOf.j0] at H
   by_cases c33:x20_3=true
   ·
    subst c33
    rw [if_pos rfl] at H
    obtain rfl:=Option.some.inj H
    go_wp2
    go_ret
    exact⟨Hd.e_,Hd.b_⟩
   replace c33:=Bool.eq_false_iff.mpr c33
   subst c33
   rw [if_neg (show ¬ (false=true) by decide)] at H
   replace H:=Hd.bd_ H;obtain⟨t392,A34,H⟩:=H
   by_cases c35:t392>0
   ·
    rw [if_pos c35] at H
    have c35b0:decide (0<t392)=true:=decide_eq_true c35
    clear c35
    obtain rfl:=Option.some.inj H
    have hnb36:=NB386_387.out
    have hnc36:=NB387_386.out
    have hnb37:=NB386_388.out
    have hnc37:=NB388_386.out
    obtain⟨hcz38_0,hcz38_1⟩:=Hd.c2_ BK386.out
    obtain⟨hfz38_0,hfz38_1⟩:=Hd.f2_ BK386.out
    have hnb39:=NB387_388.out
    have hnc39:=NB388_387.out
    obtain⟨hcz40_0,hcz40_1⟩:=Hd.c2_ BK387.out
    obtain⟨hfz40_0,hfz40_1⟩:=Hd.f2_ BK387.out
    obtain⟨hcz41_0,hcz41_1⟩:=Hd.c2_ BK388.out
    obtain⟨hfz41_0,hfz41_1⟩:=Hd.f2_ BK388.out
    go_wp2_with (first|((with_reducible refine gate_callee (f:=115) rfl ?_);refine Hd.gl_ 24 Try.func115 #[.agg #[.int .i64 a0_0,.int .i64 a0_1],.agg #[.int .i64 a1_0,.int .i64 a1_1],.agg #[.int .i64 a2_0,.int .i64 a2_1]] ?_;(with_reducible refine(spec_l4Cross.calls a0_0 a0_1 a1_0 a1_1 a2_0 a2_1 t392 _ A34.out).mono ?_);rintro e w42 ⟨rfl,hb⟩;refine⟨_,rfl,?_⟩;replace BK386:=z164_;replace BK387:=z169_;replace BK388:=z186_;replace HB:=z17_;(try clear hb)))
    go_ret
    exact⟨Hd.e_,Hd.b_⟩
   rw [if_neg c35] at H
   have c35b0:decide (0<t392)=false:=decide_eq_false c35
   clear c35
   by_cases c43:t392<0
   ·
    rw [if_pos c43] at H
    have c43b0:=decide_eq_true c43
    clear c43
    obtain rfl:=Option.some.inj H
    have hnb44:=NB386_387.out
    have hnc44:=NB387_386.out
    have hnb45:=NB386_388.out
    have hnc45:=NB388_386.out
    obtain⟨hcz46_0,hcz46_1⟩:=Hd.c2_ BK386.out
    obtain⟨hfz46_0,hfz46_1⟩:=Hd.f2_ BK386.out
    have hnb47:=NB387_388.out
    have hnc47:=NB388_387.out
    obtain⟨hcz48_0,hcz48_1⟩:=Hd.c2_ BK387.out
    obtain⟨hfz48_0,hfz48_1⟩:=Hd.f2_ BK387.out
    obtain⟨hcz49_0,hcz49_1⟩:=Hd.c2_ BK388.out
    obtain⟨hfz49_0,hfz49_1⟩:=Hd.f2_ BK388.out
    go_wp2_with (first|((with_reducible refine gate_callee (f:=115) rfl ?_);refine Hd.gl_ 24 Try.func115 #[.agg #[.int .i64 a0_0,.int .i64 a0_1],.agg #[.int .i64 a1_0,.int .i64 a1_1],.agg #[.int .i64 a2_0,.int .i64 a2_1]] ?_;(with_reducible refine(spec_l4Cross.calls a0_0 a0_1 a1_0 a1_1 a2_0 a2_1 t392 _ A34.out).mono ?_);rintro e w50 ⟨rfl,hb⟩;refine⟨_,rfl,?_⟩;replace BK386:=z164_;replace BK387:=z169_;replace BK388:=z186_;replace HB:=z17_;(try clear hb)))
    go_ret
    exact⟨Hd.e_,Hd.b_⟩
   rw [if_neg c43] at H
   have c43b0:=decide_eq_false c43
   clear c43
   obtain rfl:=Option.some.inj H
   have hnb51:=NB386_387.out
   have hnc51:=NB387_386.out
   have hnb52:=NB386_388.out
   have hnc52:=NB388_386.out
   obtain⟨hcz53_0,hcz53_1⟩:=Hd.c2_ BK386.out
   obtain⟨hfz53_0,hfz53_1⟩:=Hd.f2_ BK386.out
   have hnb54:=NB387_388.out
   have hnc54:=NB388_387.out
   obtain⟨hcz55_0,hcz55_1⟩:=Hd.c2_ BK387.out
   obtain⟨hfz55_0,hfz55_1⟩:=Hd.f2_ BK387.out
   obtain⟨hcz56_0,hcz56_1⟩:=Hd.c2_ BK388.out
   obtain⟨hfz56_0,hfz56_1⟩:=Hd.f2_ BK388.out
   go_wp2_with (first|((with_reducible refine gate_callee (f:=115) rfl ?_);refine Hd.gl_ 24 Try.func115 #[.agg #[.int .i64 a0_0,.int .i64 a0_1],.agg #[.int .i64 a1_0,.int .i64 a1_1],.agg #[.int .i64 a2_0,.int .i64 a2_1]] ?_;(with_reducible refine(spec_l4Cross.calls a0_0 a0_1 a1_0 a1_1 a2_0 a2_1 t392 _ A34.out).mono ?_);rintro e w57 ⟨rfl,hb⟩;refine⟨_,rfl,?_⟩;replace BK386:=z164_;replace BK387:=z169_;replace BK388:=z186_;replace HB:=z17_;(try clear hb)))
   go_ret
   exact⟨Hd.e_,Hd.b_⟩
end Go.Proofs.Ytbbdhlggnglfgaa.MFnFeatures
