-- Laid by this session's program pp.py, after the kit's print and texts of the session's own. Not trusted: Lean checks it.
import Derived.Test.YtbbdhlggnglfgaaZFnMeetsMx0
import Derived.Test.YtbbdhlggnglfgaaZFnMeetsMx7
import Derived.Test.YtbbdhlggnglfgaaZFnMeetsMx8
import Derived.Test.YtbbdhlggnglfgaaZFnMeetsMx17
namespace Go.Proofs.Ytbbdhlggnglfgaa.MFnMeets
open Go.RowKit Go.Proofs.YtbbdhlggnglfgaaW.PrintWords Go.Proofs.YtbbdhlggnglfgaaW.PrintLast Go.Proofs.YtbbdhlggnglfgaaW.PrintMore
attribute [local go_sem] max2_int min2_int max_two min_two max_three min_three max_four min_four   -- for this text's walks alone
set_option linter.unusedVariables false
set_option maxHeartbeats 8000000
set_option maxRecDepth 100000
set_option linter.unusedSimpArgs false
def impl_FeaturesMeet.f (k : Nat) (a0_0 : Int) (a0_1 : Int) (a0_2 : Int) (a0_3 : ByteArray) (l0_4 : List (S75)) (a1_0 : Int) (a1_1 : Int) (a1_2 : Int) (a1_3 : ByteArray) (l1_4 : List (S75)) : Option (Int):=(impl_PartsOf.f k a0_0 a0_1 a0_2 a0_3 l0_4).bind fun t724 => ((impl_PartsOf.f k a1_0 a1_1 a1_2 a1_3 l1_4).bind fun t727 => ((impl_greatest.f k t724 t727).bind fun t730 => (some t730)))
theorem impl_FeaturesMeet.calls (k : Nat) (a0_0 : Int) (a0_1 : Int) (a0_2 : Int) (a0_3 : ByteArray) (A0_4 : Option Addr) (c0_4 : Nat) (l0_4 : List (S75)) (a1_0 : Int) (a1_1 : Int) (a1_2 : Int) (a1_3 : ByteArray) (A1_4 : Option Addr) (c1_4 : Nat) (l1_4 : List (S75)) (r : Int) (w : World) (hr0_4 : Kd.C k75 w A0_4 l0_4.length l0_4) (hc0_4 : l0_4.length ≤ c0_4) (hr1_4 : Kd.C k75 w A1_4 l1_4.length l1_4) (hc1_4 : l1_4.length ≤ c1_4) (h : impl_FeaturesMeet.f k a0_0 a0_1 a0_2 a0_3 l0_4 a1_0 a1_1 a1_2 a1_3 l1_4 = some r) :
  Calls Try.prog 27 #[.agg #[.int .i64 a0_0,.int .i64 a0_1,.int .i64 a0_2,.string a0_3,.slice A0_4 l0_4.length c0_4],.agg #[.int .i64 a1_0,.int .i64 a1_1,.int .i64 a1_2,.string a1_3,.slice A1_4 l1_4.length c1_4]] w fun e w' => e = .returned (.int .i64 r) ∧ Below w.heap.size w w':=by
 have hu34:=Try.underlying34
 have HR0_4:=ak hr0_4
 have HC0_4:=ak hc0_4
 clear hr0_4 hc0_4
 have HR1_4:=ak hr1_4
 have HC1_4:=ak hc1_4
 clear hr1_4 hc1_4
 have HB:=ak (Below.refl w.heap.size w)
 have H:=h;clear h;unfold impl_FeaturesMeet.f at H
 replace H:=Hd.bd_ H;obtain ⟨t724,A3,H⟩:=H
 replace H:=Hd.bd_ H;obtain ⟨t727,A4,H⟩:=H
 replace H:=Hd.bd_ H;obtain ⟨t730,A5,H⟩:=H
 obtain rfl:=Option.some.inj H
 go_enter Try.func27,Try.ntmps27
 try go_wp2_with (first | ((with_reducible refine gate_dst (N:=2) rfl ?_);refine Hd.box_ 2 (#[.int .i64 a0_0,.int .i64 a0_1,.int .i64 a0_2,.string a0_3,.slice A0_4 l0_4.length c0_4]) 34 ?_;intro gb722 hg w6 hbox hb;have BK722:=ak (hbox);have GW722:=ak ((Hd.g_ hg Hd.b_ : w.heap.size ≤ gb722));have GE722:=ak ((Hd.g_ hg Hd.b_ : w.heap.size ≤ gb722));replace HB:=ak (below_step Hd.b_ hb);clear hb hbox hg) | ((with_reducible refine gate_dst (N:=3) rfl ?_);refine Hd.box_ 3 (#[.int .i64 a1_0,.int .i64 a1_1,.int .i64 a1_2,.string a1_3,.slice A1_4 l1_4.length c1_4]) 34 ?_;intro gb723 hg w7 hbox hb;have BK723:=ak (hbox);have GW723:=ak ((Hd.g_ hg Hd.b_ : w.heap.size ≤ gb723));have GE723:=ak ((Hd.g_ hg Hd.b_ : w.heap.size ≤ gb723));replace HB:=ak (below_step Hd.b_ hb);have NB722_723:=ak ((Hd.lt_ BK722 hg));have NB723_722:=ak ((Hd.gt_ BK722 hg));replace BK722:=ak (Hd.kb_ BK722 hb);clear hb hbox hg))
 replace BK722:=ak (blk_drew BK722.out)
 replace BK723:=ak (blk_drew BK723.out)
 replace HB:=ak (below_drew1 HB.out)
 refine start_ (n:=6) (S:=fun w' => w'.cell? ⟨gb722,0,none⟩ = some (.int .i64 a0_0) ∧ w'.cell? ⟨gb722,1,none⟩ = some (.int .i64 a0_1) ∧ w'.cell? ⟨gb722,2,none⟩ = some (.int .i64 a0_2) ∧ w'.cell? ⟨gb722,3,none⟩ = some (.string a0_3) ∧ w'.cell? ⟨gb722,4,none⟩ = some (.slice A0_4 l0_4.length c0_4) ∧ w'.cell? ⟨gb723,0,none⟩ = some (.int .i64 a1_0) ∧ w'.cell? ⟨gb723,1,none⟩ = some (.int .i64 a1_1) ∧ w'.cell? ⟨gb723,2,none⟩ = some (.int .i64 a1_2) ∧ w'.cell? ⟨gb723,3,none⟩ = some (.string a1_3) ∧ w'.cell? ⟨gb723,4,none⟩ = some (.slice A1_4 l1_4.length c1_4)) (ds:=[]) #[N_,N_,N_,N_,N_,N_] (by kernel_rfl) rfl rfl ⟨(blk_cell BK722.out 0).trans rfl,(blk_cell BK722.out 1).trans rfl,(blk_cell BK722.out 2).trans rfl,(blk_cell BK722.out 3).trans rfl,(blk_cell BK722.out 4).trans rfl,(blk_cell BK723.out 0).trans rfl,(blk_cell BK723.out 1).trans rfl,(blk_cell BK723.out 2).trans rfl,(blk_cell BK723.out 3).trans rfl,(blk_cell BK723.out 4).trans rfl⟩ (fun hHeld => ?_)
 generalize w7.drew = w8 at BK722 BK723 HB hHeld ⊢
 refine take_ (i:=0) (N:=some 5) (v:=?_) (a':=?_) #[Y_,N_,N_,N_,N_,N_] rfl rfl (by kernel_rfl) (fun _ _ _ h => h) (Or.inl ⟨by rfl,?_⟩) hHeld ?_ ?_
 rotate_left
 ·
  rintro w' ⟨s0,s1,s2,s3,s4,s5,s6,s7,s8,s9⟩
  go_simp
  with_reducible rfl
 rotate_left
 ·
  simp only [Act.put,List.setIfInBounds_toArray,List.set_cons_zero,List.set_cons_succ,i64_w,i32_w]
  rfl
 refine take_ (i:=2) (N:=some 7) (v:=?_) (a':=?_) #[Y_,N_,Y_,N_,N_,N_] rfl rfl (by kernel_rfl) (fun _ _ _ h => h) (Or.inl ⟨by rfl,?_⟩) hHeld ?_ ?_
 rotate_left
 ·
  rintro w' ⟨s0,s1,s2,s3,s4,s5,s6,s7,s8,s9⟩
  go_simp
  with_reducible rfl
 rotate_left
 ·
  simp only [Act.put,List.setIfInBounds_toArray,List.set_cons_zero,List.set_cons_succ,i64_w,i32_w]
  rfl
 refine one_ (i:=1) (N:=some 6) #[Y_,Y_,Y_,N_,N_,N_] rfl rfl (by kernel_rfl) (by decide) (fun K hK => ?_)
 refine goes_ Try.func57 (by kernel_rfl) rfl #[.agg #[.int .i64 a0_0,.int .i64 a0_1,.int .i64 a0_2,.string a0_3,.slice A0_4 l0_4.length c0_4]] (by rfl) rfl rfl Hd.m_ ?_
 with_reducible refine (impl_PartsOf.calls k a0_0 a0_1 a0_2 a0_3 _ _ l0_4 t724 _ ?side1 ?side2 A3.out).mono ?_
 (case side1 => exact z14_ HR0_4)
 (case side2 => exact HC0_4.out)
 rintro e w9 ⟨v725,rfl,ho0,hb⟩
 refine ⟨_,rfl,?_⟩
 have HO726:=z78_
 replace BK722:=ak (Hd.kb_ BK722 hb)
 replace BK723:=ak (Hd.kb_ BK723 hb)
 replace HB:=ak (below_step Hd.b_ hb)
 try clear hb;try clear hb2;try clear hk;try clear hi;try clear ho0
 refine hK.out _ _ ⟨(blk_cell BK722.out 0).trans rfl,(blk_cell BK722.out 1).trans rfl,(blk_cell BK722.out 2).trans rfl,(blk_cell BK722.out 3).trans rfl,(blk_cell BK722.out 4).trans rfl,(blk_cell BK723.out 0).trans rfl,(blk_cell BK723.out 1).trans rfl,(blk_cell BK723.out 2).trans rfl,(blk_cell BK723.out 3).trans rfl,(blk_cell BK723.out 4).trans rfl⟩ (fun hHeld => ?_)
 clear hK K
 refine Hd.n_ (some 6) ?_
 refine one_ (i:=3) (N:=some 8) #[Y_,Y_,Y_,Y_,N_,N_] rfl rfl (by kernel_rfl) (by decide) (fun K hK => ?_)
 refine goes_ Try.func57 (by kernel_rfl) rfl #[.agg #[.int .i64 a1_0,.int .i64 a1_1,.int .i64 a1_2,.string a1_3,.slice A1_4 l1_4.length c1_4]] (by rfl) rfl rfl Hd.m_ ?_
 with_reducible refine (impl_PartsOf.calls k a1_0 a1_1 a1_2 a1_3 _ _ l1_4 t727 _ ?side1 ?side2 A4.out).mono ?_
 (case side1 => exact z14_ HR1_4)
 (case side2 => exact HC1_4.out)
 rintro e w10 ⟨v728,rfl,ho0,hb⟩
 refine ⟨_,rfl,?_⟩
 have HO729:=ak (Kd.R_lower (Kd.R_new' ho0 (Kd.R_lt (Hd.r_ HO726))) (below_size Hd.b_))
 replace HO726:=ak (Kd.R_elder' (Hd.r_ HO726) (Kd.R_base ho0) hb)
 replace BK722:=ak (Hd.kb_ BK722 hb)
 replace BK723:=ak (Hd.kb_ BK723 hb)
 replace HB:=ak (below_step Hd.b_ hb)
 try clear hb;try clear hb2;try clear hk;try clear hi;try clear ho0
 obtain ⟨Ao11,co11,eo11⟩:=Kd.R_slice HO726.out
 (first | subst eo11 | (injection eo11 with f1_ f2_ f3_;have f4_:=f1_.symm;have f5_:=f3_.symm;clear f1_ f2_ f3_;subst f4_;subst f5_))
 obtain ⟨Ao12,co12,eo12⟩:=Kd.R_slice HO729.out
 (first | subst eo12 | (injection eo12 with f1_ f2_ f3_;have f4_:=f1_.symm;have f5_:=f3_.symm;clear f1_ f2_ f3_;subst f4_;subst f5_))
 refine hK.out _ _ ⟨(blk_cell BK722.out 0).trans rfl,(blk_cell BK722.out 1).trans rfl,(blk_cell BK722.out 2).trans rfl,(blk_cell BK722.out 3).trans rfl,(blk_cell BK722.out 4).trans rfl,(blk_cell BK723.out 0).trans rfl,(blk_cell BK723.out 1).trans rfl,(blk_cell BK723.out 2).trans rfl,(blk_cell BK723.out 3).trans rfl,(blk_cell BK723.out 4).trans rfl⟩ (fun hHeld => ?_)
 clear hK K
 refine Hd.n_ (some 8) ?_
 refine one_ (i:=4) (N:=some 9) #[Y_,Y_,Y_,Y_,Y_,N_] rfl rfl (by kernel_rfl) (by decide) (fun K hK => ?_)
 refine goes_ Try.func56 (by kernel_rfl) rfl #[.slice Ao11 t724.length co11,.slice Ao12 t727.length co12] (by rfl) rfl rfl Hd.m_ ?_
 with_reducible refine (impl_greatest.calls k _ _ t724 _ _ t727 t730 _ ?side1 ?side2 ?side3 ?side4 A5.out).mono ?_
 (case side1 => exact z26_ HO726)
 (case side2 => exact (Kd.R_reads' HO726.out).2.1)
 (case side3 => exact z26_ HO729)
 (case side4 => exact (Kd.R_reads' HO729.out).2.1)
 rintro e w13 ⟨rfl,hb⟩
 refine ⟨_,rfl,?_⟩
 replace HO726:=ak (Kd.R_below (Hd.r_ HO726) hb)
 replace HO729:=ak (Kd.R_below (Hd.r_ HO729) hb)
 replace BK722:=ak (Hd.kb_ BK722 hb)
 replace BK723:=ak (Hd.kb_ BK723 hb)
 replace HB:=ak (below_step Hd.b_ hb)
 try clear hb;try clear hb2;try clear hk;try clear hi
 refine hK.out _ _ ⟨(blk_cell BK722.out 0).trans rfl,(blk_cell BK722.out 1).trans rfl,(blk_cell BK722.out 2).trans rfl,(blk_cell BK722.out 3).trans rfl,(blk_cell BK722.out 4).trans rfl,(blk_cell BK723.out 0).trans rfl,(blk_cell BK723.out 1).trans rfl,(blk_cell BK723.out 2).trans rfl,(blk_cell BK723.out 3).trans rfl,(blk_cell BK723.out 4).trans rfl⟩ (fun hHeld => ?_)
 clear hK K
 refine Hd.n_ (some 9) ?_
 refine pure_ (i:=5) (N:=some 4) (v:=?_) (a':=?_) #[Y_,Y_,Y_,Y_,Y_,Y_] rfl rfl (by kernel_rfl) (fun _ _ _ h => h) (Or.inl ⟨by rfl,?_⟩) ?_ ?_
 rotate_left
 ·
  intro w'
  go_simp
  with_reducible rfl
 rotate_left
 ·
  simp only [Act.put,List.setIfInBounds_toArray,List.set_cons_zero,List.set_cons_succ,i64_w,i32_w]
  rfl
 refine done_ (by kernel_rfl) ?_
 try go_wp2
 go_ret
 exact ⟨Hd.e_,Hd.b_⟩
def spec_DrawIsSource.f (k : Nat) (l0 : List Int) : Option ((List (S34))):=(spec_l1New.f k l0).bind fun bt731 => ((spec_l9Any.f k bt731.1 bt731.2.1 bt731.2.2).bind fun bt735 => (some bt735.1))
theorem spec_DrawIsSource.calls (k : Nat) (A0 : Option Addr) (c0 : Nat) (l0 : List Int) (r : List (S34)) (w : World) (hr0 : Kd.C (Kd.int .u8) w A0 l0.length l0) (hc0 : l0.length ≤ c0) (h : spec_DrawIsSource.f k l0 = some r) :
  Calls Try.prog 58 #[.slice A0 l0.length c0] w fun e w' => ∃ v0_ : Value,e = .returned (v0_) ∧ Kd.N k34 34 w' w.heap.size (fun k_ => (w.heap.size ≤ k_)) v0_ r ∧ Below w.heap.size w w':=by
 have HR0:=ak hr0
 have HC0:=ak hc0
 clear hr0 hc0
 have HB:=ak (Below.refl w.heap.size w)
 have H:=h;clear h;unfold spec_DrawIsSource.f at H
 replace H:=Hd.bd_ H;obtain ⟨⟨t731,t732,t733⟩,A2,H⟩:=H;dsimp only at H
 replace H:=Hd.bd_ H;obtain ⟨⟨t735,t738,t739⟩,A3,H⟩:=H;dsimp only at H
 obtain rfl:=Option.some.inj H
 go_enter Try.func58,Try.ntmps58
 go_wp2_with (first | ((with_reducible refine gate_callee (f:=45) rfl ?_);refine Hd.gl_ 5 Try.func45 #[.slice A0 l0.length c0] ?_;(with_reducible refine (spec_l1New.calls k _ _ l0 t731 t732 t733 w _ ?side1 ?side2 ?side3 A2.out).mono ?_);(case side1 => repeat (first | (with_reducible first | exact HB.out | apply below_alloc | apply pw_below_drewN | apply below_drew1) | exact HB.out));(case side2 => exact HR0.out);(case side3 => exact HC0.out);rintro e w4 ⟨g734,rfl,hi,hb,hb2⟩;refine ⟨_,rfl,?_⟩;replace HB:=ak (hb);have HI734:=ak (hi);clear hb hi) | ((with_reducible refine gate_callee (f:=46) rfl ?_);refine Hd.gl_ 7 Try.func46 #[.pointer (some ⟨g734,0,none⟩)] ?_;(with_reducible refine (spec_l9Any.calls k g734 t731 t732 t733 t735 t738 t739 w _ ?side1 ?side2 A3.out).mono ?_);(case side1 => repeat (first | (with_reducible first | exact HI734.out | apply IsS89.alloc | apply IsS89.drewN | apply IsS89.drew | apply IsS89.set_1 | apply IsS89.set_2) | exact HI734.out));(case side2 => exact z54_);rintro e w5 ⟨v736,rfl,ho0,hi,hb,hk⟩;refine ⟨_,rfl,?_⟩;have HO737:=ak (Kd.N_lower (Kd.N_mono (ok':=fun k_ => (w.heap.size ≤ k_) ∧ k_ ≠ g734) ho0 (fun k_ hk_ => ⟨(Nat.le_trans (below_size z54_) hk_),(IsS89.fresh (by repeat (first | (with_reducible first | exact HI734.out | apply IsS89.alloc | apply IsS89.drewN | apply IsS89.drew | apply IsS89.set_1 | apply IsS89.set_2) | exact HI734.out)) k_ hk_)⟩)) (below_size z54_));replace HB:=ak (hb);replace HI734:=ak (hi);clear hb hk hi ho0))
 go_ret
 exact ⟨_,Hd.e_,z37_ HO737,z54_⟩
def spec_DrawMeetsOf.f (k : Nat) (l0 : List Int) : Option ((List (S34))):=(spec_DrawIsSource.f k l0).bind fun t740 => (some t740)
theorem spec_DrawMeetsOf.calls (k : Nat) (A0 : Option Addr) (c0 : Nat) (l0 : List Int) (r : List (S34)) (w : World) (hr0 : Kd.C (Kd.int .u8) w A0 l0.length l0) (hc0 : l0.length ≤ c0) (h : spec_DrawMeetsOf.f k l0 = some r) :
  Calls Try.prog 28 #[.slice A0 l0.length c0] w fun e w' => ∃ v0_ : Value,e = .returned (v0_) ∧ Kd.N k34 34 w' w.heap.size (fun k_ => (w.heap.size ≤ k_)) v0_ r ∧ Below w.heap.size w w':=by
 have HR0:=ak hr0
 have HC0:=ak hc0
 clear hr0 hc0
 have HB:=ak (Below.refl w.heap.size w)
 have H:=h;clear h;unfold spec_DrawMeetsOf.f at H
 replace H:=Hd.bd_ H;obtain ⟨t740,A2,H⟩:=H
 obtain rfl:=Option.some.inj H
 go_enter Try.func28,Try.ntmps28
 go_wp2_with (first | ((with_reducible refine gate_callee (f:=58) rfl ?_);refine Hd.gl_ 4 Try.func58 #[.slice A0 l0.length c0] ?_;(with_reducible refine (spec_DrawIsSource.calls k _ _ l0 t740 _ ?side1 ?side2 A2.out).mono ?_);(case side1 => exact z27_ HR0);(case side2 => exact HC0.out);rintro e w3 ⟨v741,rfl,ho0,hb⟩;refine ⟨_,rfl,?_⟩;have HO742:=ak (Kd.N_lower (Kd.N_mono (ok':=fun k_ => (w.heap.size ≤ k_)) ho0 (fun k_ hk_ => (Nat.le_trans (below_size Hd.b_) hk_))) (below_size Hd.b_));replace HB:=ak (below_step Hd.b_ hb);clear hb ho0))
 go_ret
 exact ⟨_,Hd.e_,z13_ HO742,Hd.b_⟩
mutual
def impl_MeetsOf.l0 : Nat → List (S34) → List (S82) → List (S34) → Int → Int → Option ((List (S82)))
 | 0,_,_,_,_,_ => none
 | k + 1,x0,x3,x14,x15,x16 => if x16 < x15 then (if 0 ≤ x16 then (if x16 < (x14.length : Int) then (if 0 ≤ (wrap64 (x16 + 1)) then (if (wrap64 (x16 + 1)) ≤ (x0.length : Int) then ((some (x0.drop ((wrap64 (x16 + 1)) : Int).toNat : List (S34))).bind fun y749 => (impl_MeetsOf.l1 k x0 x3 x14 x15 x16 y749 (y749.length : Int) 0 ((rd_T34 x14 x16).f0) ((rd_T34 x14 x16).f1) ((rd_T34 x14 x16).f2) ((rd_T34 x14 x16).f3) ((rd_T34 x14 x16).f4))) else (none)) else (none)) else (none)) else (none)) else (some x3)
def impl_MeetsOf.l1 : Nat → List (S34) → List (S82) → List (S34) → Int → Int → List (S34) → Int → Int → Int → Int → Int → ByteArray → List (S75) → Option ((List (S82)))
 | 0,_,_,_,_,_,_,_,_,_,_,_,_,_ => none
 | k + 1,x0,x3,x14,x15,x16,x24,x25,x26,x749000,x749001,x749002,x749003,x749004 => if x26 < x25 then (if 0 ≤ x26 then (if x26 < (x24.length : Int) then ((impl_FeaturesMeet.f k x749000 x749001 x749002 x749003 x749004 ((rd_T34 x24 x26).f0) ((rd_T34 x24 x26).f1) ((rd_T34 x24 x26).f2) ((rd_T34 x24 x26).f3) ((rd_T34 x24 x26).f4)).bind fun t755 => (if t755 = 0 then (impl_MeetsOf.l1 k x0 x3 x14 x15 x16 x24 x25 (wrap64 (x26 + 1)) x749000 x749001 x749002 x749003 x749004) else (if x3.length < 5864062014805 then (impl_MeetsOf.l1 k x0 (x3 ++ [(⟨x749000,(rd_T34 x24 x26).f0,t755⟩ : S82)]) x14 x15 x16 x24 x25 (wrap64 (x26 + 1)) x749000 x749001 x749002 x749003 x749004) else (none)))) else (none)) else (none)) else (impl_MeetsOf.l0 k x0 x3 x14 x15 (wrap64 (x16 + 1)))
end
def impl_MeetsOf.f (k : Nat) (l0 : List (S34)) : Option ((List (S82))):=(some (([] : List (S82)) : List (S82))).bind fun y743 => ((impl_IsSource.f k l0).bind fun t746 => (if t746 = true then (impl_MeetsOf.l0 k l0 y743 l0 (l0.length : Int) 0) else (some y743)))
theorem impl_MeetsOf.calls (k : Nat) (A0 : Option Addr) (c0 : Nat) (l0 : List (S34)) (r : List (S82)) (w : World) (hr0 : Kd.C k34 w A0 l0.length l0) (hc0 : l0.length ≤ c0) (h : impl_MeetsOf.f k l0 = some r) :
  Calls Try.prog 29 #[.slice A0 l0.length c0] w fun e w' => ∃ v0_ : Value,e = .returned (v0_) ∧ Kd.R k82 82 w' w.heap.size (fun _ => True) v0_ r ∧ Below w.heap.size w w':=by
 have hu34:=Try.underlying34
 have hu82:=Try.underlying82
 have HR0:=ak hr0
 have HC0:=ak hc0
 clear hr0 hc0
 have HB:=ak (Below.refl w.heap.size w)
 have H:=h;clear h;unfold impl_MeetsOf.f at H
 generalize hy743 : (([] : List (S82))) = y743 at H;have Ny743:=ak hy743.symm;clear hy743;try rw [Option.bind_some] at H
 replace H:=Hd.bd_ H;obtain ⟨t746,A2,H⟩:=H
 by_cases c3 : t746 = true;rotate_left
 ·
  replace c3:=Bool.eq_false_iff.mpr c3
  subst c3
  rw [if_neg (show ¬ (false = true) by decide)] at H
  obtain rfl:=Option.some.inj H
  go_enter Try.func29,Try.ntmps29
  go_wp2_with (first | ((with_reducible refine gate_dst (N:=9) rfl ?_);refine Kd.R_lit k82 _ 82 ?hg (N:=9) ?hd (xs:=([] : List (S82))) (inner:=[]) (ok:=fun _ => True) (okp:=fun _ => True) ?hr ?hp (fun _ hk => hk) trivial (Below.refl _ _) (Nat.le_refl _) (by simp) ?_;(case hd => rfl);(case hg => rfl);(case hr => exact z31_);(case hp => exact (Reps.none _ _));intro v744 w36 ho37 hb hg_ hnew_;clear hg_ hnew_;(first | rw [← Ny743.out] at ho37 | (simp only [Int.reduceToNat] at ho37;rw [← Ny743.out] at ho37));have HO745:=ak (Kd.R_lower ho37 (below_size Hd.b_));replace HB:=ak (below_step Hd.b_ hb);clear hb ho37) | ((with_reducible refine gate_callee (f:=21) rfl ?_);refine Hd.gl_ 11 Try.func21 #[.slice A0 l0.length c0] ?_;(with_reducible refine (impl_IsSource.calls k _ _ l0 false _ ?side1 ?side2 A2.out).mono ?_);(case side1 => exact z14_ HR0);(case side2 => exact HC0.out);rintro e w38 ⟨rfl,hb⟩;refine ⟨_,rfl,?_⟩;replace HO745:=ak (Kd.R_below (Hd.r_ HO745) hb);replace HB:=ak (below_step Hd.b_ hb);clear hb))
  go_ret
  exact ⟨_,Hd.e_,z6_ HO745,Hd.b_⟩
 subst c3
 rw [if_pos rfl] at H
 have H':=ak H
 clear H
 go_enter Try.func29,Try.ntmps29
 go_wp2_with (first | ((with_reducible refine gate_dst (N:=9) rfl ?_);refine Kd.R_lit k82 _ 82 ?hg (N:=9) ?hd (xs:=([] : List (S82))) (inner:=[]) (ok:=fun _ => True) (okp:=fun _ => True) ?hr ?hp (fun _ hk => hk) trivial (Below.refl _ _) (Nat.le_refl _) (by simp) ?_;(case hd => rfl);(case hg => rfl);(case hr => exact z31_);(case hp => exact (Reps.none _ _));intro v744 w4 ho5 hb hg_ hnew_;clear hg_ hnew_;(first | rw [← Ny743.out] at ho5 | (simp only [Int.reduceToNat] at ho5;rw [← Ny743.out] at ho5));have HO745:=ak (Kd.R_lower ho5 (below_size Hd.b_));replace HB:=ak (below_step Hd.b_ hb);clear hb ho5) | ((with_reducible refine gate_callee (f:=21) rfl ?_);refine Hd.gl_ 11 Try.func21 #[.slice A0 l0.length c0] ?_;(with_reducible refine (impl_IsSource.calls k _ _ l0 true _ ?side1 ?side2 A2.out).mono ?_);(case side1 => exact z14_ HR0);(case side2 => exact HC0.out);rintro e w6 ⟨rfl,hb⟩;refine ⟨_,rfl,?_⟩;replace HO745:=ak (Kd.R_below (Hd.r_ HO745) hb);replace HB:=ak (below_step Hd.b_ hb);clear hb))
 go_loopg [3,16] k (fun kq v3 v16 w' => ∃ (x3_1 : List (S82)) (x16_1 : Int),v16 = .int .i64 x16_1 ∧ Aside0 (impl_MeetsOf.l0 kq l0 x3_1 l0 (l0.length : Int) x16_1 = some r) ∧ Aside0 (kq ≤ k) ∧ Aside0 (Kd.R k82 82 w' w.heap.size (fun _ => True) v3 x3_1) ∧ Aside0 (Below w.heap.size w w'))
 case atStart => exact ⟨(y743),(0),z8_,H',⟨Nat.le_refl _⟩,⟨z6_ HO745⟩,⟨Hd.b_⟩⟩
 case round =>
  clear H'
  try clear c2;try clear p2;try clear c3
  obtain ⟨x3_1,x16_1,rfl,HA,HK1,HO_3,HB⟩:=hrel
  cases gk with
  | zero => exact absurd HA.out (by simp [impl_MeetsOf.l0])
  | succ k1 =>
   have H:=HA.out
   clear HA
   simp only [impl_MeetsOf.l0] at H
   by_cases c7 : x16_1 < (l0.length : Int);rotate_left
   ·
    rw [if_neg c7] at H
    have c7b0:=decide_eq_false c7
    clear c7
    obtain rfl:=Option.some.inj H
    go_wp2
    go_ret
    exact ⟨_,Hd.e_,z6_ HO_3,Hd.b_⟩
   rw [if_pos c7] at H
   have c7b0:=decide_eq_true c7
   clear c7
   by_cases c8 : 0 ≤ x16_1;rotate_left
   ·
    rw [if_neg c8] at H
    exact absurd H (by simp)
   rw [if_pos c8] at H
   have c8b0:=decide_eq_true c8
   clear c8
   by_cases c9 : x16_1 < (l0.length : Int);rotate_left
   ·
    rw [if_neg c9] at H
    exact absurd H (by simp)
   rw [if_pos c9] at H
   have c9b0:=decide_eq_true c9
   clear c9
   obtain ⟨ji10,hji10⟩ : ∃ j_ : Int,(wrap64 (x16_1 + 1)) = j_:=⟨_,rfl⟩
   replace H : (if 0 ≤ (ji10) then (if (ji10) ≤ (l0.length : Int) then ((some (l0.drop ((ji10) : Int).toNat : List (S34))).bind fun y749 => (impl_MeetsOf.l1 k1 l0 x3_1 l0 (l0.length : Int) x16_1 y749 (y749.length : Int) 0 ((rd_T34 l0 x16_1).f0) ((rd_T34 l0 x16_1).f1) ((rd_T34 l0 x16_1).f2) ((rd_T34 l0 x16_1).f3) ((rd_T34 l0 x16_1).f4))) else (none)) else (none)) = some r:=by first | (rw [hji10] at H;exact H) | (simp only [hji10] at H ⊢;exact H)
   have hji10w : (IntKind.i64.wrap (x16_1 + 1)) = ji10:=(i64_w _).trans hji10
   by_cases c11 : 0 ≤ (ji10);rotate_left
   ·
    rw [if_neg c11] at H
    exact absurd H (by simp)
   rw [if_pos c11] at H
   have c11b0:=eq_true c11
   have c11b1:=decide_eq_true c11
   clear c11
   by_cases c12 : (ji10) ≤ (l0.length : Int);rotate_left
   ·
    rw [if_neg c12] at H
    exact absurd H (by simp)
   rw [if_pos c12] at H
   have c12b0:=eq_true c12
   have c12b1:=decide_eq_true c12
   clear c12
   generalize hy749 : (l0.drop ((ji10) : Int).toNat) = y749 at H;have Ny749:=ak hy749.symm;clear hy749;try rw [Option.bind_some] at H
   have H':=ak H
   clear H
   have p747 : 0 ≤ (x16_1 : Int):=of_decide_eq_true Hd.a_
   have q747 : x16_1 < (l0.length : Int):=of_decide_eq_true Hd.a_
   obtain ⟨ad747,A747_4,c747_4,e747,hx747_0,hx747_1,hx747_2,hx747_3,hx747_4,hl747_4,hi747_4⟩:=at_T34 HR0.out x16_1 p747 q747
   cases e747
   replace hx747_0:=(HB.out.cell (World.block_lt_of_cell? w _ hx747_0)).trans hx747_0
   replace hx747_1:=(HB.out.cell (World.block_lt_of_cell? w _ hx747_1)).trans hx747_1
   replace hx747_2:=(HB.out.cell (World.block_lt_of_cell? w _ hx747_2)).trans hx747_2
   replace hx747_3:=(HB.out.cell (World.block_lt_of_cell? w _ hx747_3)).trans hx747_3
   replace hx747_4:=(HB.out.cell (World.block_lt_of_cell? w _ hx747_4)).trans hx747_4
   have HR747_4:=ak hi747_4
   have HC747_4:=ak hl747_4
   clear hi747_4 hl747_4
   replace p747:=eq_true p747
   replace q747:=eq_true q747
   go_wp2_with (first | ((with_reducible refine gate_dst (N:=5) rfl ?_);refine Hd.box_ 5 (#[.int .i64 0,.int .i64 0,.int .i64 0,.string (⟨#[]⟩ : ByteArray),.slice none 0 0]) 34 ?_;intro gb748 hg w13 hbox hb;replace HO_3:=z87_;have BK748:=ak (hbox);have GW748:=ak ((Hd.g_ hg Hd.b_ : w.heap.size ≤ gb748));have GE748:=ak ((Hd.g_ hg Hd.b_ : w.heap.size ≤ gb748));replace HB:=ak (below_step Hd.b_ hb);clear hb hbox hg;obtain ⟨hcz14_0,hcz14_1,hcz14_2,hcz14_3,hcz14_4⟩:=Hd.c5_ BK748.out;obtain ⟨hfz14_0,hfz14_1,hfz14_2,hfz14_3,hfz14_4⟩:=Hd.f5_ BK748.out) | ((with_reducible refine gate_store (t:=34) (p:=5) rfl ?_);refine store_event (t:=34) (p:=5) (v:=?vo_w15) (w1:=(((((w13.setCell ⟨gb748,0,none⟩ (.int .i64 ((rd_T34 l0 x16_1).f0))).setCell ⟨gb748,1,none⟩ (.int .i64 ((rd_T34 l0 x16_1).f1))).setCell ⟨gb748,2,none⟩ (.int .i64 ((rd_T34 l0 x16_1).f2))).setCell ⟨gb748,3,none⟩ (.string ((rd_T34 l0 x16_1).f3))).setCell ⟨gb748,4,none⟩ (.slice A747_4 ((rd_T34 l0 x16_1).f4).length c747_4))) ?hg ?ho ?hn ?hr ?_;(case ho => rfl);(case hg => rfl);(case hn => rfl);(case hr => exact z31_);intro w15 hw;have n0_ : Aside0 (Kd.R k82 82 w15 w.heap.size (fun _ => True) u3 x3_1):=⟨(by rw [hw];exact (by (with_reducible repeat (first | apply Kd.R_alloc | apply Kd.R_drewN | apply Kd.R_drew));exact Kd.R_mono (Kd.R_far (p:=⟨gb748,4,none⟩) (Kd.R_far (p:=⟨gb748,3,none⟩) (Kd.R_far (p:=⟨gb748,2,none⟩) (Kd.R_far (p:=⟨gb748,1,none⟩) (Kd.R_far (p:=⟨gb748,0,none⟩) (Kd.R_types HO_3.out BK748.out (by decide)) (fun _ hk => hk.2) (.int .i64 ((rd_T34 l0 x16_1).f0))) (fun _ hk => hk.2) (.int .i64 ((rd_T34 l0 x16_1).f1))) (fun _ hk => hk.2) (.int .i64 ((rd_T34 l0 x16_1).f2))) (fun _ hk => hk.2) (.string ((rd_T34 l0 x16_1).f3))) (fun _ hk => hk.2) (.slice A747_4 ((rd_T34 l0 x16_1).f4).length c747_4)) (fun _ hk => trivial)))⟩;have n1_ : Aside0 (w15.heap[gb748]? = some (.cells #[.int .i64 ((rd_T34 l0 x16_1).f0),.int .i64 ((rd_T34 l0 x16_1).f1),.int .i64 ((rd_T34 l0 x16_1).f2),.string ((rd_T34 l0 x16_1).f3),.slice A747_4 ((rd_T34 l0 x16_1).f4).length c747_4] 34 (0,0))):=⟨(by rw [hw];exact (by (with_reducible repeat (first | refine blk_drewN ?_ _ | refine blk_drew ?_ | refine blk_alloc ?_ _));refine blk_put (cs:=#[.int .i64 ((rd_T34 l0 x16_1).f0),.int .i64 ((rd_T34 l0 x16_1).f1),.int .i64 ((rd_T34 l0 x16_1).f2),.string ((rd_T34 l0 x16_1).f3),.slice none 0 0]) ?_ 4 _ rfl;(with_reducible repeat (first | refine blk_drewN ?_ _ | refine blk_drew ?_ | refine blk_alloc ?_ _));refine blk_put (cs:=#[.int .i64 ((rd_T34 l0 x16_1).f0),.int .i64 ((rd_T34 l0 x16_1).f1),.int .i64 ((rd_T34 l0 x16_1).f2),.string (⟨#[]⟩ : ByteArray),.slice none 0 0]) ?_ 3 _ rfl;(with_reducible repeat (first | refine blk_drewN ?_ _ | refine blk_drew ?_ | refine blk_alloc ?_ _));refine blk_put (cs:=#[.int .i64 ((rd_T34 l0 x16_1).f0),.int .i64 ((rd_T34 l0 x16_1).f1),.int .i64 0,.string (⟨#[]⟩ : ByteArray),.slice none 0 0]) ?_ 2 _ rfl;(with_reducible repeat (first | refine blk_drewN ?_ _ | refine blk_drew ?_ | refine blk_alloc ?_ _));refine blk_put (cs:=#[.int .i64 ((rd_T34 l0 x16_1).f0),.int .i64 0,.int .i64 0,.string (⟨#[]⟩ : ByteArray),.slice none 0 0]) ?_ 1 _ rfl;(with_reducible repeat (first | refine blk_drewN ?_ _ | refine blk_drew ?_ | refine blk_alloc ?_ _));refine blk_put (cs:=#[.int .i64 0,.int .i64 0,.int .i64 0,.string (⟨#[]⟩ : ByteArray),.slice none 0 0]) ?_ 0 _ rfl;(with_reducible repeat (first | refine blk_drewN ?_ _ | refine blk_drew ?_ | refine blk_alloc ?_ _));exact BK748.out))⟩;have n2_ : Aside0 (Below w.heap.size w w15):=⟨(by rw [hw];exact Hd.b_)⟩;clear hw;clear HO_3;clear BK748;clear HB;have HO_3:=n0_;have BK748:=n1_;have HB:=n2_;clear n0_ n1_ n2_;have q16 : ((ji10) : Int) ≤ ((l0.length : Int) : Int):=of_decide_eq_true Hd.a_;obtain ⟨i016,hi016,_,hsz16,_⟩:=info_parts info34;have hroom16 : l0.length ≤ c0:=HC0.out;have hC16 : Kd.C k34 _ (some ad747) l0.length l0:=HR0.out;have q016 : (0 : Int) ≤ ((ji10) : Int):=of_decide_eq_true Hd.a_;have hcut16:=cut_from (P:=Try.prog) 28 34 .i64 Try.underlying28 hi016 5 hsz16 (some ad747) l0.length c0 (ji10) q016 q16;have hr16:=Kd.C_drop (m:=((ji10) : Int).toNat) (c:=c0) hC16 (by omega) hroom16;obtain ⟨A16,hA16⟩ : ∃ A1,A1 = (if c0 = ((ji10) : Int).toNat then (some ad747) else ((some ad747) : Option Addr).map (·.add (((ji10) : Int).toNat * 5))):=⟨_,rfl⟩;obtain ⟨c16,hc16⟩ : ∃ c1,c1 = c0 - ((ji10) : Int).toNat:=⟨_,rfl⟩;have hy16 : y749.length = l0.length - ((ji10) : Int).toNat:=(by rw [Ny749.out,List.length_drop] <;> omega);rw [show (l0).drop ((ji10) : Int).toNat = y749 from Ny749.out.symm] at hr16;replace hr16 : Kd.C k34 _ A16 y749.length y749:=(by rw [hA16];exact hr16);rw [← hy16,← hA16,← hc16] at hcut16;have HR752:=ak hr16;have HC752:=ak (show y749.length ≤ c16 from by rw [hy16,hc16];exact Nat.sub_le_sub_right hroom16 _);clear hr16 hC16 hroom16 hi016 hsz16 hc16;have KY16:=ak hy16;have KA16:=ak hA16;clear hy16 hA16;replace q16:=eq_true q16))
   go_loopg [3,26] k1 (fun kq v3 v26 w' => ∃ (x3_2 : List (S82)) (x26_2 : Int),v26 = .int .i64 x26_2 ∧ Aside0 (impl_MeetsOf.l1 kq l0 x3_2 l0 (l0.length : Int) x16_1 y749 (y749.length : Int) x26_2 ((rd_T34 l0 x16_1).f0) ((rd_T34 l0 x16_1).f1) ((rd_T34 l0 x16_1).f2) ((rd_T34 l0 x16_1).f3) ((rd_T34 l0 x16_1).f4) = some r) ∧ Aside0 (kq ≤ k1) ∧ Aside0 (Kd.R k82 82 w' w.heap.size (fun _ => True) v3 x3_2) ∧ Aside0 (w'.heap[gb748]? = some (.cells #[.int .i64 ((rd_T34 l0 x16_1).f0),.int .i64 ((rd_T34 l0 x16_1).f1),.int .i64 ((rd_T34 l0 x16_1).f2),.string ((rd_T34 l0 x16_1).f3),(.slice A747_4 ((rd_T34 l0 x16_1).f4).length c747_4)] 34 (0,0))) ∧ Aside0 (Below w.heap.size w w'))
   case atStart => exact ⟨(x3_1),(0),z8_,H',⟨Nat.le_refl _⟩,⟨z6_ HO_3⟩,⟨z4_ BK748⟩,⟨Hd.b_⟩⟩
   case round =>
    clear H'
    try clear c1;try clear q1;try clear c2;try clear p2;try clear c3;try clear p6;try clear c7;try clear c7b0;try clear p7;try clear q7;try clear hx7;try clear c8;try clear c8b0;try clear c9;try clear c9b0;try clear c11;try clear c11b0;try clear c11b1;try clear c12;try clear c12b0;try clear c12b1;try clear c16;try clear q16;try clear hcz14_0;try clear hcz14_1;try clear hcz14_2;try clear hcz14_3;try clear hcz14_4;try clear hfz14_0;try clear hfz14_1;try clear hfz14_2;try clear hfz14_3;try clear hfz14_4;try clear hx747_0;try clear hx747_1;try clear hx747_2;try clear hx747_3;try clear hx747_4;try clear p2;try clear p747;try clear q016;try clear q16;try clear q747
    obtain ⟨x3_2,x26_2,rfl,HA,HK2,HO_3,BK748,HB⟩:=hrel
    cases gk with
    | zero => exact absurd HA.out (by simp [impl_MeetsOf.l1])
    | succ k2 =>
     have H:=HA.out
     clear HA
     simp only [impl_MeetsOf.l1] at H
     by_cases c17 : x26_2 < (y749.length : Int);rotate_left
     ·
      rw [if_neg c17] at H
      have c17b0:=decide_eq_false c17
      clear c17
      have H':=ak H
      clear H
      go_wp2
      go_roundg k2
      case measure => have:=HK1.out;have:=HK2.out;omega
      case rel => exact ⟨(x3_2),(wrap64 (x16_1 + 1)),z8_,H',⟨z62_⟩,⟨z6_ HO_3⟩,⟨Hd.b_⟩⟩
     rw [if_pos c17] at H
     have c17b0:=decide_eq_true c17
     clear c17
     by_cases c18 : 0 ≤ x26_2;rotate_left
     ·
      rw [if_neg c18] at H
      exact absurd H (by simp)
     rw [if_pos c18] at H
     have c18b0:=decide_eq_true c18
     clear c18
     by_cases c19 : x26_2 < (y749.length : Int);rotate_left
     ·
      rw [if_neg c19] at H
      exact absurd H (by simp)
     rw [if_pos c19] at H
     have c19b0:=decide_eq_true c19
     clear c19
     replace H:=Hd.bd_ H;obtain ⟨t755,A20,H⟩:=H
     by_cases c21 : t755 = 0
     ·
      rw [if_pos c21] at H
      have c21b0:=beq_iff_eq.mpr c21
      have c21b1:=bne_eq_false_iff_eq.mpr c21
      clear c21
      have H':=ak H
      clear H
      have p753 : 0 ≤ (x26_2 : Int):=of_decide_eq_true Hd.a_
      have q753 : x26_2 < (y749.length : Int):=of_decide_eq_true Hd.a_
      obtain ⟨ad753,A753_4,c753_4,e753,hx753_0,hx753_1,hx753_2,hx753_3,hx753_4,hl753_4,hi753_4⟩:=at_T34 HR752.out x26_2 p753 q753
      cases e753
      replace hx753_0:=(HB.out.cell (World.block_lt_of_cell? w _ hx753_0)).trans hx753_0
      replace hx753_1:=(HB.out.cell (World.block_lt_of_cell? w _ hx753_1)).trans hx753_1
      replace hx753_2:=(HB.out.cell (World.block_lt_of_cell? w _ hx753_2)).trans hx753_2
      replace hx753_3:=(HB.out.cell (World.block_lt_of_cell? w _ hx753_3)).trans hx753_3
      replace hx753_4:=(HB.out.cell (World.block_lt_of_cell? w _ hx753_4)).trans hx753_4
      have HR753_4:=ak hi753_4
      have HC753_4:=ak hl753_4
      clear hi753_4 hl753_4
      replace p753:=eq_true p753
      replace q753:=eq_true q753
      go_wp2_with (first | ((with_reducible refine gate_dst (N:=7) rfl ?_);refine Hd.box_ 7 (#[.int .i64 0,.int .i64 0,.int .i64 0,.string (⟨#[]⟩ : ByteArray),.slice none 0 0]) 34 ?_;intro gb754 hg w22 hbox hb;replace HO_3:=z87_;have BK754:=ak (hbox);have GW754:=ak ((Hd.g_ hg Hd.b_ : w.heap.size ≤ gb754));have GE754:=ak ((Hd.g_ hg Hd.b_ : w.heap.size ≤ gb754));replace HB:=ak (below_step Hd.b_ hb);have NB748_754:=ak ((Hd.lt_ BK748 hg));have NB754_748:=ak ((Hd.gt_ BK748 hg));replace BK748:=ak (Hd.kb_ BK748 hb);clear hb hbox hg;have hnb23:=NB754_748.out;have hnc23:=NB748_754.out;obtain ⟨hcz24_0,hcz24_1,hcz24_2,hcz24_3,hcz24_4⟩:=Hd.c5_ BK754.out;obtain ⟨hfz24_0,hfz24_1,hfz24_2,hfz24_3,hfz24_4⟩:=Hd.f5_ BK754.out;obtain ⟨hcz25_0,hcz25_1,hcz25_2,hcz25_3,hcz25_4⟩:=Hd.c5_ BK748.out;obtain ⟨hfz25_0,hfz25_1,hfz25_2,hfz25_3,hfz25_4⟩:=Hd.f5_ BK748.out) | ((with_reducible refine gate_callee (f:=27) rfl ?_);refine Hd.gl_ 32 Try.func27 #[.agg #[.int .i64 ((rd_T34 l0 x16_1).f0),.int .i64 ((rd_T34 l0 x16_1).f1),.int .i64 ((rd_T34 l0 x16_1).f2),.string ((rd_T34 l0 x16_1).f3),.slice A747_4 ((rd_T34 l0 x16_1).f4).length c747_4],.agg #[.int .i64 ((rd_T34 y749 x26_2).f0),.int .i64 ((rd_T34 y749 x26_2).f1),.int .i64 ((rd_T34 y749 x26_2).f2),.string ((rd_T34 y749 x26_2).f3),.slice A753_4 ((rd_T34 y749 x26_2).f4).length c753_4]] ?_;(with_reducible refine (impl_FeaturesMeet.calls k2 ((rd_T34 l0 x16_1).f0) ((rd_T34 l0 x16_1).f1) ((rd_T34 l0 x16_1).f2) ((rd_T34 l0 x16_1).f3) _ _ ((rd_T34 l0 x16_1).f4) ((rd_T34 y749 x26_2).f0) ((rd_T34 y749 x26_2).f1) ((rd_T34 y749 x26_2).f2) ((rd_T34 y749 x26_2).f3) _ _ ((rd_T34 y749 x26_2).f4) t755 _ ?side1 ?side2 ?side3 ?side4 A20.out).mono ?_);(case side1 => exact Kd.C_below HR747_4.out Hd.b_);(case side2 => exact HC747_4.out);(case side3 => exact Kd.C_below HR753_4.out Hd.b_);(case side4 => exact HC753_4.out);rintro e w26 ⟨rfl,hb⟩;refine ⟨_,rfl,?_⟩;replace HO_3:=z55_ HO_3 BK754;replace BK748:=z114_;replace BK754:=z115_;replace HB:=ak (below_step Hd.b_ hb);clear hb))
      go_roundg k2
      case measure => have:=HK1.out;have:=HK2.out;omega
      case rel => exact ⟨(x3_2),(wrap64 (x26_2 + 1)),z8_,H',⟨z62_⟩,⟨z6_ HO_3⟩,⟨z4_ BK748⟩,⟨Hd.b_⟩⟩
     rw [if_neg c21] at H
     have c21b0:=beq_eq_false_iff_ne.mpr c21
     have c21b1:=bne_iff_ne.mpr c21
     by_cases c27 : x3_2.length < 5864062014805;rotate_left
     ·
      rw [if_neg c27] at H
      exact absurd H (by simp)
     rw [if_pos c27] at H
     have LMc27:=ak c27
     clear c27
     generalize hy756 : (x3_2 ++ [(⟨((rd_T34 l0 x16_1).f0),(rd_T34 y749 x26_2).f0,t755⟩ : S82)]) = y756 at H;have Ny756:=ak hy756.symm;clear hy756;try rw [Option.bind_some] at H
     have H':=ak H
     clear H
     have p753 : 0 ≤ (x26_2 : Int):=of_decide_eq_true Hd.a_
     have q753 : x26_2 < (y749.length : Int):=of_decide_eq_true Hd.a_
     obtain ⟨ad753,A753_4,c753_4,e753,hx753_0,hx753_1,hx753_2,hx753_3,hx753_4,hl753_4,hi753_4⟩:=at_T34 HR752.out x26_2 p753 q753
     cases e753
     replace hx753_0:=(HB.out.cell (World.block_lt_of_cell? w _ hx753_0)).trans hx753_0
     replace hx753_1:=(HB.out.cell (World.block_lt_of_cell? w _ hx753_1)).trans hx753_1
     replace hx753_2:=(HB.out.cell (World.block_lt_of_cell? w _ hx753_2)).trans hx753_2
     replace hx753_3:=(HB.out.cell (World.block_lt_of_cell? w _ hx753_3)).trans hx753_3
     replace hx753_4:=(HB.out.cell (World.block_lt_of_cell? w _ hx753_4)).trans hx753_4
     have HR753_4:=ak hi753_4
     have HC753_4:=ak hl753_4
     clear hi753_4 hl753_4
     replace p753:=eq_true p753
     replace q753:=eq_true q753
     go_wp2_with (first | ((with_reducible refine gate_dst (N:=7) rfl ?_);refine Hd.box_ 7 (#[.int .i64 0,.int .i64 0,.int .i64 0,.string (⟨#[]⟩ : ByteArray),.slice none 0 0]) 34 ?_;intro gb754 hg w28 hbox hb;replace HO_3:=z87_;have BK754:=ak (hbox);have GW754:=ak ((Hd.g_ hg Hd.b_ : w.heap.size ≤ gb754));have GE754:=ak ((Hd.g_ hg Hd.b_ : w.heap.size ≤ gb754));replace HB:=ak (below_step Hd.b_ hb);have NB748_754:=ak ((Hd.lt_ BK748 hg));have NB754_748:=ak ((Hd.gt_ BK748 hg));replace BK748:=ak (Hd.kb_ BK748 hb);clear hb hbox hg;have hnb29:=NB754_748.out;have hnc29:=NB748_754.out;obtain ⟨hcz30_0,hcz30_1,hcz30_2,hcz30_3,hcz30_4⟩:=Hd.c5_ BK754.out;obtain ⟨hfz30_0,hfz30_1,hfz30_2,hfz30_3,hfz30_4⟩:=Hd.f5_ BK754.out;obtain ⟨hcz31_0,hcz31_1,hcz31_2,hcz31_3,hcz31_4⟩:=Hd.c5_ BK748.out;obtain ⟨hfz31_0,hfz31_1,hfz31_2,hfz31_3,hfz31_4⟩:=Hd.f5_ BK748.out) | ((with_reducible refine gate_callee (f:=27) rfl ?_);refine Hd.gl_ 32 Try.func27 #[.agg #[.int .i64 ((rd_T34 l0 x16_1).f0),.int .i64 ((rd_T34 l0 x16_1).f1),.int .i64 ((rd_T34 l0 x16_1).f2),.string ((rd_T34 l0 x16_1).f3),.slice A747_4 ((rd_T34 l0 x16_1).f4).length c747_4],.agg #[.int .i64 ((rd_T34 y749 x26_2).f0),.int .i64 ((rd_T34 y749 x26_2).f1),.int .i64 ((rd_T34 y749 x26_2).f2),.string ((rd_T34 y749 x26_2).f3),.slice A753_4 ((rd_T34 y749 x26_2).f4).length c753_4]] ?_;(with_reducible refine (impl_FeaturesMeet.calls k2 ((rd_T34 l0 x16_1).f0) ((rd_T34 l0 x16_1).f1) ((rd_T34 l0 x16_1).f2) ((rd_T34 l0 x16_1).f3) _ _ ((rd_T34 l0 x16_1).f4) ((rd_T34 y749 x26_2).f0) ((rd_T34 y749 x26_2).f1) ((rd_T34 y749 x26_2).f2) ((rd_T34 y749 x26_2).f3) _ _ ((rd_T34 y749 x26_2).f4) t755 _ ?side1 ?side2 ?side3 ?side4 A20.out).mono ?_);(case side1 => exact Kd.C_below HR747_4.out Hd.b_);(case side2 => exact HC747_4.out);(case side3 => exact Kd.C_below HR753_4.out Hd.b_);(case side4 => exact HC753_4.out);rintro e w32 ⟨rfl,hb⟩;refine ⟨_,rfl,?_⟩;replace HO_3:=z55_ HO_3 BK754;replace BK748:=z114_;replace BK754:=z115_;replace HB:=ak (below_step Hd.b_ hb);clear hb;obtain ⟨hcz33_0,hcz33_1,hcz33_2,hcz33_3,hcz33_4⟩:=Hd.c5_ BK748.out;obtain ⟨hfz33_0,hfz33_1,hfz33_2,hfz33_3,hfz33_4⟩:=Hd.f5_ BK748.out;obtain ⟨hcz34_0,hcz34_1,hcz34_2,hcz34_3,hcz34_4⟩:=Hd.c5_ BK754.out;obtain ⟨hfz34_0,hfz34_1,hfz34_2,hfz34_3,hfz34_4⟩:=Hd.f5_ BK754.out) | ((with_reducible refine gate_builtin (b:=.append) (xs:=#[.tmp 35,.tmp 42]) rfl ?_);at_builtin;refine Kd.R_append k82 (w0:=w) w.heap.size rfl (.tmp 35) (.tmp 42) 53 82 (.agg #[(.int .i64 0),(.int .i64 0),(.int .i64 0)]) 24 rfl Try.underlying53 info82 rfl (by decide) (by omega) u3 x3_2 (⟨((rd_T34 l0 x16_1).f0),(rd_T34 y749 x26_2).f0,t755⟩ : S82) [.int .i64 ((rd_T34 l0 x16_1).f0),.int .i64 ((rd_T34 y749 x26_2).f0),.int .i64 t755] (fun _ => True) (fun _ => False) rfl rfl ?aP (fun _ hk => hk.elim) ?aF ?aO ?aB ?aS ?aL ?_;(case aP => exact k82_mkM _ _ _ (⟨((rd_T34 l0 x16_1).f0),(rd_T34 y749 x26_2).f0,t755⟩ : S82));(case aB => exact Hd.b_);(case aF => exact (fun _ _ => trivial));(case aO => exact (Hd.r_ HO_3));(case aS => exact (below_size Hd.b_));(case aL => have:=LMc27.out;omega);intro v757 w35 ho hb hg hat;rw [← Ny756.out] at ho;have n0_:=ak (blk_grown (g:=gb748) (o:=.cells #[.int .i64 ((rd_T34 l0 x16_1).f0),.int .i64 ((rd_T34 l0 x16_1).f1),.int .i64 ((rd_T34 l0 x16_1).f2),.string ((rd_T34 l0 x16_1).f3),.slice A747_4 ((rd_T34 l0 x16_1).f4).length c747_4] 34 (0,0)) (Hd.k_ BK748) hg (Kd.R_ne HO_3.out BK748.out (by decide)));have n1_:=ak (blk_grown (g:=gb754) (o:=.cells #[.int .i64 ((rd_T34 y749 x26_2).f0),.int .i64 ((rd_T34 y749 x26_2).f1),.int .i64 ((rd_T34 y749 x26_2).f2),.string ((rd_T34 y749 x26_2).f3),.slice A753_4 ((rd_T34 y749 x26_2).f4).length c753_4] 34 (0,0)) (Hd.k_ BK754) hg (Kd.R_ne HO_3.out BK754.out (by decide)));have n2_:=ak (hb);have n3_:=ak (ho);clear BK748;clear BK754;clear HB;clear HO_3;have BK748:=n0_;have BK754:=n1_;have HB:=n2_;have HO758:=n3_;clear n0_ n1_ n2_ n3_;clear ho hb hg hat))
     go_roundg k2
     case measure => have:=HK1.out;have:=HK2.out;omega
     case rel => exact ⟨(y756),(wrap64 (x26_2 + 1)),z8_,H',⟨z62_⟩,⟨z6_ HO758⟩,⟨z4_ BK748⟩,⟨Hd.b_⟩⟩
mutual
def impl_NoMore.l0 : Nat → List (S82) → List (S82) → Int → Int → Option (Bool)
 | 0,_,_,_,_ => none
 | k + 1,x1,x10,x11,x12 => if x12 < x11 then (if 0 ≤ x12 then (if x12 < (x10.length : Int) then (impl_NoMore.l1 k x1 false x10 x11 x12 x1 (x1.length : Int) 0 ((rd_T82 x10 x12).f0) ((rd_T82 x10 x12).f1) ((rd_T82 x10 x12).f2)) else (none)) else (none)) else (some true)
def impl_NoMore.l1 : Nat → List (S82) → Bool → List (S82) → Int → Int → List (S82) → Int → Int → Int → Int → Int → Option (Bool)
 | 0,_,_,_,_,_,_,_,_,_,_,_ => none
 | k + 1,x1,x7,x10,x11,x12,x16,x17,x18,x761000,x761001,x761002 => if x18 < x17 then (if 0 ≤ x18 then (if x18 < (x16.length : Int) then (if x7 = true then (impl_NoMore.l1 k x1 true x10 x11 x12 x16 x17 (wrap64 (x18 + 1)) x761000 x761001 x761002) else (if x761000 = ((rd_T82 x16 x18).f0) then (if x761001 = ((rd_T82 x16 x18).f1) then (impl_NoMore.l1 k x1 (decide (((rd_T82 x16 x18).f2) ≥ x761002)) x10 x11 x12 x16 x17 (wrap64 (x18 + 1)) x761000 x761001 x761002) else (impl_NoMore.l1 k x1 false x10 x11 x12 x16 x17 (wrap64 (x18 + 1)) x761000 x761001 x761002)) else (impl_NoMore.l1 k x1 false x10 x11 x12 x16 x17 (wrap64 (x18 + 1)) x761000 x761001 x761002))) else (none)) else (none)) else (if x7 = true then (impl_NoMore.l0 k x1 x10 x11 (wrap64 (x12 + 1))) else (some false))
end
def impl_NoMore.f (k : Nat) (l0 : List (S82)) (l1 : List (S82)) : Option (Bool):=impl_NoMore.l0 k l1 l0 (l0.length : Int) 0
theorem impl_NoMore.calls (k : Nat) (A0 : Option Addr) (c0 : Nat) (l0 : List (S82)) (A1 : Option Addr) (c1 : Nat) (l1 : List (S82)) (r : Bool) (w : World) (hr0 : Kd.C k82 w A0 l0.length l0) (hc0 : l0.length ≤ c0) (hr1 : Kd.C k82 w A1 l1.length l1) (hc1 : l1.length ≤ c1) (h : impl_NoMore.f k l0 l1 = some r) :
  Calls Try.prog 30 #[.slice A0 l0.length c0,.slice A1 l1.length c1] w fun e w' => e = .returned (.bool r) ∧ Below w.heap.size w w':=by
 have hu82:=Try.underlying82
 have HR0:=ak hr0
 have HC0:=ak hc0
 clear hr0 hc0
 have HR1:=ak hr1
 have HC1:=ak hc1
 clear hr1 hc1
 have HB:=ak (Below.refl w.heap.size w)
 have H:=h;clear h;unfold impl_NoMore.f at H
 have H':=ak H
 clear H
 go_enter Try.func30,Try.ntmps30
 go_wp2
 go_loopg [12] k (fun kq v12 w' => ∃ (x12_1 : Int),v12 = .int .i64 x12_1 ∧ Aside0 (impl_NoMore.l0 kq l1 l0 (l0.length : Int) x12_1 = some r) ∧ Aside0 (kq ≤ k) ∧ Aside0 (Below w.heap.size w w'))
 case atStart => exact ⟨(0),z8_,H',⟨Nat.le_refl _⟩,⟨Hd.b_⟩⟩
 case round =>
  clear H'
  try clear c1;try clear p2
  obtain ⟨x12_1,rfl,HA,HK1,HB⟩:=hrel
  cases gk with
  | zero => exact absurd HA.out (by simp [impl_NoMore.l0])
  | succ k1 =>
   have H:=HA.out
   clear HA
   simp only [impl_NoMore.l0] at H
   by_cases c3 : x12_1 < (l0.length : Int);rotate_left
   ·
    rw [if_neg c3] at H
    have c3b0:=decide_eq_false c3
    clear c3
    obtain rfl:=Option.some.inj H
    go_wp2
    go_ret
    exact ⟨Hd.e_,Hd.b_⟩
   rw [if_pos c3] at H
   have c3b0:=decide_eq_true c3
   clear c3
   by_cases c4 : 0 ≤ x12_1;rotate_left
   ·
    rw [if_neg c4] at H
    exact absurd H (by simp)
   rw [if_pos c4] at H
   have c4b0:=decide_eq_true c4
   clear c4
   by_cases c5 : x12_1 < (l0.length : Int);rotate_left
   ·
    rw [if_neg c5] at H
    exact absurd H (by simp)
   rw [if_pos c5] at H
   have c5b0:=decide_eq_true c5
   clear c5
   have H':=ak H
   clear H
   have p759 : 0 ≤ (x12_1 : Int):=of_decide_eq_true Hd.a_
   have q759 : x12_1 < (l0.length : Int):=of_decide_eq_true Hd.a_
   obtain ⟨ad759,e759,hx759_0,hx759_1,hx759_2⟩:=at_T82 HR0.out x12_1 p759 q759
   cases e759
   replace hx759_0:=(HB.out.cell (World.block_lt_of_cell? w _ hx759_0)).trans hx759_0
   replace hx759_1:=(HB.out.cell (World.block_lt_of_cell? w _ hx759_1)).trans hx759_1
   replace hx759_2:=(HB.out.cell (World.block_lt_of_cell? w _ hx759_2)).trans hx759_2
   replace p759:=eq_true p759
   replace q759:=eq_true q759
   go_wp2_with (first | ((with_reducible refine gate_dst (N:=6) rfl ?_);refine Hd.box_ 6 (#[.int .i64 0,.int .i64 0,.int .i64 0]) 82 ?_;intro gb760 hg w6 hbox hb;have BK760:=ak (hbox);have GW760:=ak ((Hd.g_ hg Hd.b_ : w.heap.size ≤ gb760));have GE760:=ak ((Hd.g_ hg Hd.b_ : w.heap.size ≤ gb760));replace HB:=ak (below_step Hd.b_ hb);clear hb hbox hg;obtain ⟨hcz7_0,hcz7_1,hcz7_2⟩:=Hd.c3_ BK760.out;obtain ⟨hfz7_0,hfz7_1,hfz7_2⟩:=Hd.f3_ BK760.out))
   go_loopg [7,18] k1 (fun kq v7 v18 w' => ∃ (x7_2 : Bool) (x18_2 : Int),v7 = .bool x7_2 ∧ v18 = .int .i64 x18_2 ∧ Aside0 (impl_NoMore.l1 kq l1 x7_2 l0 (l0.length : Int) x12_1 l1 (l1.length : Int) x18_2 ((rd_T82 l0 x12_1).f0) ((rd_T82 l0 x12_1).f1) ((rd_T82 l0 x12_1).f2) = some r) ∧ Aside0 (kq ≤ k1) ∧ Aside0 (w'.heap[gb760]? = some (.cells #[.int .i64 ((rd_T82 l0 x12_1).f0),.int .i64 ((rd_T82 l0 x12_1).f1),.int .i64 ((rd_T82 l0 x12_1).f2)] 82 (0,0))) ∧ Aside0 (Below w.heap.size w w'))
   case atStart => exact ⟨(false),(0),z8_,z8_,H',⟨Nat.le_refl _⟩,⟨by (with_reducible repeat (first | refine blk_drewN ?_ _ | refine blk_drew ?_ | refine blk_alloc ?_ _));refine blk_put (cs:=#[.int .i64 ((rd_T82 l0 x12_1).f0),.int .i64 ((rd_T82 l0 x12_1).f1),.int .i64 0]) ?_ 2 _ rfl;(with_reducible repeat (first | refine blk_drewN ?_ _ | refine blk_drew ?_ | refine blk_alloc ?_ _));refine blk_put (cs:=#[.int .i64 ((rd_T82 l0 x12_1).f0),.int .i64 0,.int .i64 0]) ?_ 1 _ rfl;(with_reducible repeat (first | refine blk_drewN ?_ _ | refine blk_drew ?_ | refine blk_alloc ?_ _));refine blk_put (cs:=#[.int .i64 0,.int .i64 0,.int .i64 0]) ?_ 0 _ rfl;(with_reducible repeat (first | refine blk_drewN ?_ _ | refine blk_drew ?_ | refine blk_alloc ?_ _));exact BK760.out⟩,⟨Hd.b_⟩⟩
   case round =>
    clear H'
    try clear c1;try clear p2;try clear c3;try clear c3b0;try clear c4;try clear c4b0;try clear c5;try clear c5b0;try clear p7;try clear q7;try clear hx7;try clear hcz7_0;try clear hcz7_1;try clear hcz7_2;try clear hfz7_0;try clear hfz7_1;try clear hfz7_2;try clear hx759_0;try clear hx759_1;try clear hx759_2;try clear p2;try clear p759;try clear q759
    obtain ⟨x7_2,x18_2,rfl,rfl,HA,HK2,BK760,HB⟩:=hrel
    cases gk with
    | zero => exact absurd HA.out (by simp [impl_NoMore.l1])
    | succ k2 =>
     have H:=HA.out
     clear HA
     simp only [impl_NoMore.l1] at H
     by_cases c8 : x18_2 < (l1.length : Int);rotate_left
     ·
      rw [if_neg c8] at H
      have c8b0:=decide_eq_false c8
      clear c8
      by_cases c29 : x7_2 = true;rotate_left
      ·
       replace c29:=Bool.eq_false_iff.mpr c29
       subst c29
       rw [if_neg (show ¬ (false = true) by decide)] at H
       obtain rfl:=Option.some.inj H
       go_wp2
       go_ret
       exact ⟨Hd.e_,Hd.b_⟩
      subst c29
      rw [if_pos rfl] at H
      have H':=ak H
      clear H
      go_wp2
      go_roundg k2
      case measure => have:=HK1.out;have:=HK2.out;omega
      case rel => exact ⟨(wrap64 (x12_1 + 1)),z8_,H',⟨z62_⟩,⟨Hd.b_⟩⟩
     rw [if_pos c8] at H
     have c8b0:=decide_eq_true c8
     clear c8
     by_cases c9 : 0 ≤ x18_2;rotate_left
     ·
      rw [if_neg c9] at H
      exact absurd H (by simp)
     rw [if_pos c9] at H
     have c9b0:=decide_eq_true c9
     clear c9
     by_cases c10 : x18_2 < (l1.length : Int);rotate_left
     ·
      rw [if_neg c10] at H
      exact absurd H (by simp)
     rw [if_pos c10] at H
     have c10b0:=decide_eq_true c10
     clear c10
     by_cases c11 : x7_2 = true
     ·
      subst c11
      rw [if_pos rfl] at H
      have H':=ak H
      clear H
      have p761 : 0 ≤ (x18_2 : Int):=of_decide_eq_true Hd.a_
      have q761 : x18_2 < (l1.length : Int):=of_decide_eq_true Hd.a_
      obtain ⟨ad761,e761,hx761_0,hx761_1,hx761_2⟩:=at_T82 HR1.out x18_2 p761 q761
      cases e761
      replace hx761_0:=(HB.out.cell (World.block_lt_of_cell? w _ hx761_0)).trans hx761_0
      replace hx761_1:=(HB.out.cell (World.block_lt_of_cell? w _ hx761_1)).trans hx761_1
      replace hx761_2:=(HB.out.cell (World.block_lt_of_cell? w _ hx761_2)).trans hx761_2
      replace p761:=eq_true p761
      replace q761:=eq_true q761
      go_wp2_with (first | ((with_reducible refine gate_dst (N:=9) rfl ?_);refine Hd.box_ 9 (#[.int .i64 0,.int .i64 0,.int .i64 0]) 82 ?_;intro gb762 hg w12 hbox hb;have BK762:=ak (hbox);have GW762:=z86_;have GE762:=z86_;replace HB:=ak (below_step Hd.b_ hb);have NB760_762:=ak ((Hd.lt_ BK760 hg));have NB762_760:=ak ((Hd.gt_ BK760 hg));replace BK760:=ak (Hd.kb_ BK760 hb);clear hb hbox hg;have hnb13:=NB762_760.out;have hnc13:=NB760_762.out;obtain ⟨hcz14_0,hcz14_1,hcz14_2⟩:=Hd.c3_ BK762.out;obtain ⟨hfz14_0,hfz14_1,hfz14_2⟩:=Hd.f3_ BK762.out))
      go_roundg k2
      case measure => have:=HK1.out;have:=HK2.out;omega
      case rel => exact ⟨(true),(wrap64 (x18_2 + 1)),z8_,z8_,H',⟨z62_⟩,⟨z22_ NB760_762 BK760⟩,⟨Hd.b_⟩⟩
     replace c11:=Bool.eq_false_iff.mpr c11
     subst c11
     rw [if_neg (show ¬ (false = true) by decide)] at H
     by_cases c15 : ((rd_T82 l0 x12_1).f0) = ((rd_T82 l1 x18_2).f0);rotate_left
     ·
      rw [if_neg c15] at H
      have c15b0:=beq_eq_false_iff_ne.mpr c15
      have c15b1:=bne_iff_ne.mpr c15
      have H':=ak H
      clear H
      have p761 : 0 ≤ (x18_2 : Int):=of_decide_eq_true Hd.a_
      have q761 : x18_2 < (l1.length : Int):=of_decide_eq_true Hd.a_
      obtain ⟨ad761,e761,hx761_0,hx761_1,hx761_2⟩:=at_T82 HR1.out x18_2 p761 q761
      cases e761
      replace hx761_0:=(HB.out.cell (World.block_lt_of_cell? w _ hx761_0)).trans hx761_0
      replace hx761_1:=(HB.out.cell (World.block_lt_of_cell? w _ hx761_1)).trans hx761_1
      replace hx761_2:=(HB.out.cell (World.block_lt_of_cell? w _ hx761_2)).trans hx761_2
      replace p761:=eq_true p761
      replace q761:=eq_true q761
      go_wp2_with (first | ((with_reducible refine gate_dst (N:=9) rfl ?_);refine Hd.box_ 9 (#[.int .i64 0,.int .i64 0,.int .i64 0]) 82 ?_;intro gb762 hg w25 hbox hb;have BK762:=ak (hbox);have GW762:=z86_;have GE762:=z86_;replace HB:=ak (below_step Hd.b_ hb);have NB760_762:=ak ((Hd.lt_ BK760 hg));have NB762_760:=ak ((Hd.gt_ BK760 hg));replace BK760:=ak (Hd.kb_ BK760 hb);clear hb hbox hg;have hnb26:=NB762_760.out;have hnc26:=NB760_762.out;obtain ⟨hcz27_0,hcz27_1,hcz27_2⟩:=Hd.c3_ BK762.out;obtain ⟨hfz27_0,hfz27_1,hfz27_2⟩:=Hd.f3_ BK762.out;obtain ⟨hcz28_0,hcz28_1,hcz28_2⟩:=Hd.c3_ BK760.out;obtain ⟨hfz28_0,hfz28_1,hfz28_2⟩:=Hd.f3_ BK760.out))
      go_roundg k2
      case measure => have:=HK1.out;have:=HK2.out;omega
      case rel => exact ⟨(false),(wrap64 (x18_2 + 1)),z8_,z8_,H',⟨z62_⟩,⟨z22_ NB760_762 BK760⟩,⟨Hd.b_⟩⟩
     rw [if_pos c15] at H
     have c15b0:=beq_iff_eq.mpr c15
     have c15b1:=bne_eq_false_iff_eq.mpr c15
     clear c15
     by_cases c16 : ((rd_T82 l0 x12_1).f1) = ((rd_T82 l1 x18_2).f1);rotate_left
     ·
      rw [if_neg c16] at H
      have c16b0:=beq_eq_false_iff_ne.mpr c16
      have c16b1:=bne_iff_ne.mpr c16
      have H':=ak H
      clear H
      have p761 : 0 ≤ (x18_2 : Int):=of_decide_eq_true Hd.a_
      have q761 : x18_2 < (l1.length : Int):=of_decide_eq_true Hd.a_
      obtain ⟨ad761,e761,hx761_0,hx761_1,hx761_2⟩:=at_T82 HR1.out x18_2 p761 q761
      cases e761
      replace hx761_0:=(HB.out.cell (World.block_lt_of_cell? w _ hx761_0)).trans hx761_0
      replace hx761_1:=(HB.out.cell (World.block_lt_of_cell? w _ hx761_1)).trans hx761_1
      replace hx761_2:=(HB.out.cell (World.block_lt_of_cell? w _ hx761_2)).trans hx761_2
      replace p761:=eq_true p761
      replace q761:=eq_true q761
      go_wp2_with (first | ((with_reducible refine gate_dst (N:=9) rfl ?_);refine Hd.box_ 9 (#[.int .i64 0,.int .i64 0,.int .i64 0]) 82 ?_;intro gb762 hg w21 hbox hb;have BK762:=ak (hbox);have GW762:=z86_;have GE762:=z86_;replace HB:=ak (below_step Hd.b_ hb);have NB760_762:=ak ((Hd.lt_ BK760 hg));have NB762_760:=ak ((Hd.gt_ BK760 hg));replace BK760:=ak (Hd.kb_ BK760 hb);clear hb hbox hg;have hnb22:=NB762_760.out;have hnc22:=NB760_762.out;obtain ⟨hcz23_0,hcz23_1,hcz23_2⟩:=Hd.c3_ BK762.out;obtain ⟨hfz23_0,hfz23_1,hfz23_2⟩:=Hd.f3_ BK762.out;obtain ⟨hcz24_0,hcz24_1,hcz24_2⟩:=Hd.c3_ BK760.out;obtain ⟨hfz24_0,hfz24_1,hfz24_2⟩:=Hd.f3_ BK760.out))
      go_roundg k2
      case measure => have:=HK1.out;have:=HK2.out;omega
      case rel => exact ⟨(false),(wrap64 (x18_2 + 1)),z8_,z8_,H',⟨z62_⟩,⟨z22_ NB760_762 BK760⟩,⟨Hd.b_⟩⟩
     rw [if_pos c16] at H
     have c16b0:=beq_iff_eq.mpr c16
     have c16b1:=bne_eq_false_iff_eq.mpr c16
     clear c16
     have H':=ak H
     clear H
     have p761 : 0 ≤ (x18_2 : Int):=of_decide_eq_true Hd.a_
     have q761 : x18_2 < (l1.length : Int):=of_decide_eq_true Hd.a_
     obtain ⟨ad761,e761,hx761_0,hx761_1,hx761_2⟩:=at_T82 HR1.out x18_2 p761 q761
     cases e761
     replace hx761_0:=(HB.out.cell (World.block_lt_of_cell? w _ hx761_0)).trans hx761_0
     replace hx761_1:=(HB.out.cell (World.block_lt_of_cell? w _ hx761_1)).trans hx761_1
     replace hx761_2:=(HB.out.cell (World.block_lt_of_cell? w _ hx761_2)).trans hx761_2
     replace p761:=eq_true p761
     replace q761:=eq_true q761
     go_wp2_with (first | ((with_reducible refine gate_dst (N:=9) rfl ?_);refine Hd.box_ 9 (#[.int .i64 0,.int .i64 0,.int .i64 0]) 82 ?_;intro gb762 hg w17 hbox hb;have BK762:=ak (hbox);have GW762:=z86_;have GE762:=z86_;replace HB:=ak (below_step Hd.b_ hb);have NB760_762:=ak ((Hd.lt_ BK760 hg));have NB762_760:=ak ((Hd.gt_ BK760 hg));replace BK760:=ak (Hd.kb_ BK760 hb);clear hb hbox hg;have hnb18:=NB762_760.out;have hnc18:=NB760_762.out;obtain ⟨hcz19_0,hcz19_1,hcz19_2⟩:=Hd.c3_ BK762.out;obtain ⟨hfz19_0,hfz19_1,hfz19_2⟩:=Hd.f3_ BK762.out;obtain ⟨hcz20_0,hcz20_1,hcz20_2⟩:=Hd.c3_ BK760.out;obtain ⟨hfz20_0,hfz20_1,hfz20_2⟩:=Hd.f3_ BK760.out))
     go_roundg k2
     case measure => have:=HK1.out;have:=HK2.out;omega
     case rel => exact ⟨(decide (((rd_T82 l1 x18_2).f2) ≥ ((rd_T82 l0 x12_1).f2))),(wrap64 (x18_2 + 1)),z8_,z8_,H',⟨z62_⟩,⟨z22_ NB760_762 BK760⟩,⟨Hd.b_⟩⟩
def impl_CountMeets.l0 : Nat → Int → Int → List (S82) → Int → Int → Option (Int)
 | 0,_,_,_,_,_ => none
 | k + 1,x1,x5,x8,x9,x10 => if x10 < x9 then (if 0 ≤ x10 then (if x10 < (x8.length : Int) then (if ((rd_T82 x8 x10).f2) = x1 then (impl_CountMeets.l0 k x1 (wrap64 (x5 + 1)) x8 x9 (wrap64 (x10 + 1))) else (impl_CountMeets.l0 k x1 x5 x8 x9 (wrap64 (x10 + 1)))) else (none)) else (none)) else (some x5)
def impl_CountMeets.f (k : Nat) (l0 : List (S82)) (a1 : Int) : Option (Int):=impl_CountMeets.l0 k a1 0 l0 (l0.length : Int) 0
theorem impl_CountMeets.calls (k : Nat) (A0 : Option Addr) (c0 : Nat) (l0 : List (S82)) (a1 : Int) (r : Int) (w : World) (hr0 : Kd.C k82 w A0 l0.length l0) (hc0 : l0.length ≤ c0) (h : impl_CountMeets.f k l0 a1 = some r) :
  Calls Try.prog 31 #[.slice A0 l0.length c0,.int .i64 a1] w fun e w' => e = .returned (.int .i64 r) ∧ Below w.heap.size w w':=by
 have hu82:=Try.underlying82
 have HR0:=ak hr0
 have HC0:=ak hc0
 clear hr0 hc0
 have HB:=ak (Below.refl w.heap.size w)
 have H:=h;clear h;unfold impl_CountMeets.f at H
 have H':=ak H
 clear H
 go_enter Try.func31,Try.ntmps31
 go_wp2
 go_loopg [5,10] k (fun kq v5 v10 w' => ∃ (x5_1 : Int) (x10_1 : Int),v5 = .int .i64 x5_1 ∧ v10 = .int .i64 x10_1 ∧ Aside0 (impl_CountMeets.l0 kq a1 x5_1 l0 (l0.length : Int) x10_1 = some r) ∧ Aside0 (kq ≤ k) ∧ Aside0 (Below w.heap.size w w'))
 case atStart => exact ⟨(0),(0),z8_,z8_,H',⟨Nat.le_refl _⟩,⟨Hd.b_⟩⟩
 case round =>
  clear H'
  try clear p2
  obtain ⟨x5_1,x10_1,rfl,rfl,HA,HK1,HB⟩:=hrel
  cases gk with
  | zero => exact absurd HA.out (by simp [impl_CountMeets.l0])
  | succ k1 =>
   have H:=HA.out
   clear HA
   simp only [impl_CountMeets.l0] at H
   by_cases c3 : x10_1 < (l0.length : Int);rotate_left
   ·
    rw [if_neg c3] at H
    have c3b0:=decide_eq_false c3
    clear c3
    obtain rfl:=Option.some.inj H
    go_wp2
    go_ret
    exact ⟨Hd.e_,Hd.b_⟩
   rw [if_pos c3] at H
   have c3b0:=decide_eq_true c3
   clear c3
   by_cases c4 : 0 ≤ x10_1;rotate_left
   ·
    rw [if_neg c4] at H
    exact absurd H (by simp)
   rw [if_pos c4] at H
   have c4b0:=decide_eq_true c4
   clear c4
   by_cases c5 : x10_1 < (l0.length : Int);rotate_left
   ·
    rw [if_neg c5] at H
    exact absurd H (by simp)
   rw [if_pos c5] at H
   have c5b0:=decide_eq_true c5
   clear c5
   by_cases c6 : ((rd_T82 l0 x10_1).f2) = a1;rotate_left
   ·
    rw [if_neg c6] at H
    have c6b0:=beq_eq_false_iff_ne.mpr c6
    have c6b1:=bne_iff_ne.mpr c6
    have H':=ak H
    clear H
    have p763 : 0 ≤ (x10_1 : Int):=of_decide_eq_true Hd.a_
    have q763 : x10_1 < (l0.length : Int):=of_decide_eq_true Hd.a_
    obtain ⟨ad763,e763,hx763_0,hx763_1,hx763_2⟩:=at_T82 HR0.out x10_1 p763 q763
    cases e763
    replace hx763_0:=(HB.out.cell (World.block_lt_of_cell? w _ hx763_0)).trans hx763_0
    replace hx763_1:=(HB.out.cell (World.block_lt_of_cell? w _ hx763_1)).trans hx763_1
    replace hx763_2:=(HB.out.cell (World.block_lt_of_cell? w _ hx763_2)).trans hx763_2
    replace p763:=eq_true p763
    replace q763:=eq_true q763
    go_wp2_with (first | ((with_reducible refine gate_dst (N:=7) rfl ?_);refine Hd.box_ 7 (#[.int .i64 0,.int .i64 0,.int .i64 0]) 82 ?_;intro gb764 hg w9 hbox hb;have BK764:=ak (hbox);have GW764:=ak ((Hd.g_ hg Hd.b_ : w.heap.size ≤ gb764));have GE764:=ak ((Hd.g_ hg Hd.b_ : w.heap.size ≤ gb764));replace HB:=ak (below_step Hd.b_ hb);clear hb hbox hg;obtain ⟨hcz10_0,hcz10_1,hcz10_2⟩:=Hd.c3_ BK764.out;obtain ⟨hfz10_0,hfz10_1,hfz10_2⟩:=Hd.f3_ BK764.out))
    go_roundg k1
    case measure => have:=HK1.out;omega
    case rel => exact ⟨(x5_1),(wrap64 (x10_1 + 1)),z8_,z8_,H',⟨by have:=HK1.out;omega⟩,⟨Hd.b_⟩⟩
   rw [if_pos c6] at H
   have c6b0:=beq_iff_eq.mpr c6
   have c6b1:=bne_eq_false_iff_eq.mpr c6
   clear c6
   have H':=ak H
   clear H
   have p763 : 0 ≤ (x10_1 : Int):=of_decide_eq_true Hd.a_
   have q763 : x10_1 < (l0.length : Int):=of_decide_eq_true Hd.a_
   obtain ⟨ad763,e763,hx763_0,hx763_1,hx763_2⟩:=at_T82 HR0.out x10_1 p763 q763
   cases e763
   replace hx763_0:=(HB.out.cell (World.block_lt_of_cell? w _ hx763_0)).trans hx763_0
   replace hx763_1:=(HB.out.cell (World.block_lt_of_cell? w _ hx763_1)).trans hx763_1
   replace hx763_2:=(HB.out.cell (World.block_lt_of_cell? w _ hx763_2)).trans hx763_2
   replace p763:=eq_true p763
   replace q763:=eq_true q763
   go_wp2_with (first | ((with_reducible refine gate_dst (N:=7) rfl ?_);refine Hd.box_ 7 (#[.int .i64 0,.int .i64 0,.int .i64 0]) 82 ?_;intro gb764 hg w7 hbox hb;have BK764:=ak (hbox);have GW764:=ak ((Hd.g_ hg Hd.b_ : w.heap.size ≤ gb764));have GE764:=ak ((Hd.g_ hg Hd.b_ : w.heap.size ≤ gb764));replace HB:=ak (below_step Hd.b_ hb);clear hb hbox hg;obtain ⟨hcz8_0,hcz8_1,hcz8_2⟩:=Hd.c3_ BK764.out;obtain ⟨hfz8_0,hfz8_1,hfz8_2⟩:=Hd.f3_ BK764.out))
   go_roundg k1
   case measure => have:=HK1.out;omega
   case rel => exact ⟨(wrap64 (x5_1 + 1)),(wrap64 (x10_1 + 1)),z8_,z8_,H',⟨by have:=HK1.out;omega⟩,⟨Hd.b_⟩⟩
end Go.Proofs.Ytbbdhlggnglfgaa.MFnMeets
