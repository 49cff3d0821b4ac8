-- Laid by this session's program pp.py, after the kit's print and texts of the session's own. Not trusted: Lean checks it.
import Derived.Test.YtbbdhlggnglfgaaZFnFeaturesMx0
import Derived.Test.YtbbdhlggnglfgaaZFnFeaturesMx1
import Derived.Test.YtbbdhlggnglfgaaZFnFeaturesMx11
import Derived.Test.YtbbdhlggnglfgaaZFnFeaturesMx19
namespace Go.Proofs.Ytbbdhlggnglfgaa.MFnFeatures
open Go.RowKit Go.Proofs.YtbbdhlggnglfgaaW.PrintWords Go.Proofs.YtbbdhlggnglfgaaW.PrintLast Go.Proofs.YtbbdhlggnglfgaaW.PrintMore
attribute [local go_sem] max2_int min2_int max_two min_two max_three min_three max_four min_four
set_option linter.unusedVariables false
set_option maxHeartbeats 8000000
set_option maxRecDepth 100000
set_option linter.unusedSimpArgs false
attribute [local go_sem high] eqA75
def spec_l9Any.f (k:Nat) (s0_0:List Int) (s0_1:Int) (s0_2:Int):Option ((List (S34)) × Int × Int):=(spec_l9Source.f k s0_0 s0_1 s0_2).bind fun bt693=>(if (bt693.1.length:Int)=0 then (some (bt693.1,bt693.2.1,bt693.2.2)) else ((spec_l1Below.f s0_0 bt693.2.1 bt693.2.2 (bt693.1.length:Int)).bind fun bt698=>((spec_l1Below.f s0_0 bt698.2.1 bt698.2.2 10).bind fun bt701=>(if bt701.1=0 then ((spec_l1Int.f s0_0 bt701.2.1 bt701.2.2 (([0,1,99,100]:List Int))).bind fun bt707=>(if 0≤bt698.1 then (if bt698.1<(bt693.1.length:Int) then (some ((bt693.1.set (bt698.1:Int).toNat (⟨bt707.1,(rd_T34 bt693.1 bt698.1).f1,(rd_T34 bt693.1 bt698.1).f2,(rd_T34 bt693.1 bt698.1).f3,(rd_T34 bt693.1 bt698.1).f4⟩:S34)),bt707.2.1,bt707.2.2)) else (none)) else (none))) else (if bt701.1=1 then ((spec_l1Int.f s0_0 bt701.2.1 bt701.2.2 (([(-1),9,10]:List Int))).bind fun bt714=>(if 0≤bt698.1 then (if bt698.1<(bt693.1.length:Int) then (some ((bt693.1.set (bt698.1:Int).toNat (⟨(rd_T34 bt693.1 bt698.1).f0,(rd_T34 bt693.1 bt698.1).f1,bt714.1,(rd_T34 bt693.1 bt698.1).f3,(rd_T34 bt693.1 bt698.1).f4⟩:S34)),bt714.2.1,bt714.2.2)) else (none)) else (none))) else (if bt701.1=2 then ((spec_l1Str.f s0_0 bt701.2.1 bt701.2.2 (([(⟨#[65]⟩:ByteArray),(⟨#[116,111,111,108,111,110,103,97,97]⟩:ByteArray),(⟨#[97,32,98]⟩:ByteArray)]:List ByteArray))).bind fun bt721=>(if 0≤bt698.1 then (if bt698.1<(bt693.1.length:Int) then (some ((bt693.1.set (bt698.1:Int).toNat (⟨(rd_T34 bt693.1 bt698.1).f0,(rd_T34 bt693.1 bt698.1).f1,(rd_T34 bt693.1 bt698.1).f2,bt721.1,(rd_T34 bt693.1 bt698.1).f4⟩:S34)),bt721.2.1,bt721.2.2)) else (none)) else (none))) else (if bt701.1=3 then ((spec_l1Int.f s0_0 bt701.2.1 bt701.2.2 (([0,1,2,3,4]:List Int))).bind fun bt728=>(if 0≤bt698.1 then (if bt698.1<(bt693.1.length:Int) then (some ((bt693.1.set (bt698.1:Int).toNat (⟨(rd_T34 bt693.1 bt698.1).f0,bt728.1,(rd_T34 bt693.1 bt698.1).f2,(rd_T34 bt693.1 bt698.1).f3,(rd_T34 bt693.1 bt698.1).f4⟩:S34)),bt728.2.1,bt728.2.2)) else (none)) else (none))) else (if bt701.1=4 then ((spec_l6Any.f k s0_0 bt701.2.1 bt701.2.2).bind fun bt732=>(if 0≤bt698.1 then (if bt698.1<(bt693.1.length:Int) then (some ((bt693.1.set (bt698.1:Int).toNat (⟨(rd_T34 bt693.1 bt698.1).f0,(rd_T34 bt693.1 bt698.1).f1,(rd_T34 bt693.1 bt698.1).f2,(rd_T34 bt693.1 bt698.1).f3,bt732.1⟩:S34)),bt732.2.1,bt732.2.2)) else (none)) else (none))) else (some (bt693.1,bt701.2.1,bt701.2.2))))))))))
theorem spec_l9Any.calls (k:Nat) (g:Nat) (s0_0:List Int) (s0_1:Int) (s0_2:Int) (r1:List (S34)) (r2:Int) (r3:Int) (w0 w:World) (hI:IsS89 w0 w g s0_0 s0_1 s0_2) (hB:Below w0.heap.size w0 w) (h:spec_l9Any.f k s0_0 s0_1 s0_2=some (r1,r2,r3)) :
  Calls Try.prog 46 #[.pointer (some ⟨g,0,none⟩)] w fun e w'=>∃ v0_:Value,e = .returned (v0_)∧Kd.N k34 34 w' w.heap.size (fun k_=>(w.heap.size≤k_)) v0_ r1∧IsS89 w0 w' g s0_0 r2 r3∧Below w0.heap.size w0 w'∧KeepBut w w' g none:=by
 have HI0:=ak hI
 have HK:=z115_
 have HL:=ak hB.size
 clear hI
 have HW0:=ak hB.size
 have HB:=ak hB
 clear hB
 have H:=h;clear h;unfold spec_l9Any.f at H
 replace H:=Hd.bd_ H;obtain⟨⟨t693,t696,t697⟩,A2,H⟩:=H;dsimp only at H
 by_cases c3:(t693.length:Int)=0
 ·
  rw [if_pos c3] at H
  have c3b0:=beq_iff_eq.mpr c3
  have c3b1:=bne_eq_false_iff_eq.mpr c3
  clear c3
  simp only[Option.some.injEq,Prod.mk.injEq] at H
  obtain⟨rfl,rfl,rfl⟩:=H
  go_enter Try.func46,Try.ntmps46
  go_wp2_with (first|((with_reducible refine gate_callee (f:=66) rfl ?_);refine Hd.gl_ 6 Try.func66 #[.pointer (some ⟨g,0,none⟩)] ?_;(with_reducible refine(spec_l9Source.calls k g s0_0 s0_1 s0_2 t693 t696 t697 w0 _ ?side1 ?side2 A2.out).mono ?_);(case side1=>exact z1_);(case side2=>exact z2_);rintro e w4 ⟨v694,rfl,ho0,hi,hb,hk⟩;refine⟨_,rfl,?_⟩;have HO695:=z220_;replace HK:=z218_;replace HB:=ak (hb);replace HI0:=ak (hi);clear hb hk hi ho0;obtain⟨Ao5,co5,eo5⟩:=Kd.N_slice HO695.out;subst eo5))
  go_ret
  exact⟨_,Hd.e_,z51_ HO695,z1_,z2_,z0_⟩
 rw [if_neg c3] at H
 have c3b0:=beq_eq_false_iff_ne.mpr c3
 have c3b1:=bne_iff_ne.mpr c3
 have c3b2:¬ (t693=[]):=fun h_=>c3 (by rw [h_];rfl)
 replace H:=Hd.bd_ H;obtain⟨⟨t698,t699,t700⟩,A6,H⟩:=H;dsimp only at H
 replace H:=Hd.bd_ H;obtain⟨⟨t701,t702,t703⟩,A7,H⟩:=H;dsimp only at H
 by_cases c8:t701=0
 ·
  rw [if_pos c8] at H
  have c8b0:=beq_iff_eq.mpr c8
  have c8b1:=bne_eq_false_iff_eq.mpr c8
  clear c8
  generalize hy704:(([0,1,99,100]:List Int))=y704 at H;have Ny704:=ak hy704.symm;clear hy704;try rw [Option.bind_some] at H
  replace H:=Hd.bd_ H;obtain⟨⟨t707,t708,t709⟩,A9,H⟩:=H;dsimp only at H
  by_cases c10:0≤t698;rotate_left
  ·
   rw [if_neg c10] at H
   exact absurd H (by simp)
  rw [if_pos c10] at H
  have c10b0:=z212_
  clear c10
  by_cases c11:t698<(t693.length:Int);rotate_left
  ·
   rw [if_neg c11] at H
   exact absurd H (by simp)
  rw [if_pos c11] at H
  have c11b0:=decide_eq_true c11
  clear c11
  generalize hy710:(t693.set (t698:Int).toNat (⟨t707,(rd_T34 t693 t698).f1,(rd_T34 t693 t698).f2,(rd_T34 t693 t698).f3,(rd_T34 t693 t698).f4⟩:S34))=y710 at H;have Ny710:=ak hy710.symm;clear hy710;try rw [Option.bind_some] at H
  simp only[Option.some.injEq,Prod.mk.injEq] at H
  obtain⟨rfl,rfl,rfl⟩:=H
  go_enter Try.func46,Try.ntmps46
  go_wp2_with (first|((with_reducible refine gate_callee (f:=66) rfl ?_);refine Hd.gl_ 6 Try.func66 #[.pointer (some ⟨g,0,none⟩)] ?_;(with_reducible refine(spec_l9Source.calls k g s0_0 s0_1 s0_2 t693 t696 t697 w0 _ ?side1 ?side2 A2.out).mono ?_);(case side1=>exact z1_);(case side2=>exact z2_);rintro e w13 ⟨v694,rfl,ho0,hi,hb,hk⟩;refine⟨_,rfl,?_⟩;have HO695:=z220_;replace HK:=z218_;replace HB:=ak (hb);replace HI0:=ak (hi);clear hb hk hi ho0;obtain⟨Ao14,co14,eo14⟩:=Kd.N_slice HO695.out;subst eo14)|((with_reducible refine gate_callee (f:=49) rfl ?_);refine Hd.gl_ 14 Try.func49 #[.pointer (some ⟨g,0,none⟩),.int .i64 (t693.length:Int)] ?_;(with_reducible refine(spec_l1Below.calls g s0_0 t696 t697 (t693.length:Int) t698 t699 t700 w0 _ ?side1 ?side2 A6.out).mono ?_);(case side1=>exact z1_);(case side2=>exact z2_);rintro e w15 ⟨rfl,hi,hb,hk⟩;refine⟨_,rfl,?_⟩;replace HO695:=z219_;replace HK:=z218_;replace HB:=ak (hb);replace HI0:=ak (hi);clear hb hk hi)|((with_reducible refine gate_callee (f:=49) rfl ?_);refine Hd.gl_ 16 Try.func49 #[.pointer (some ⟨g,0,none⟩),.int .i64 10] ?_;(with_reducible refine(spec_l1Below.calls g s0_0 t699 t700 10 t701 t702 t703 w0 _ ?side1 ?side2 A7.out).mono ?_);(case side1=>exact z1_);(case side2=>exact z2_);rintro e w16 ⟨rfl,hi,hb,hk⟩;refine⟨_,rfl,?_⟩;replace HO695:=z219_;replace HK:=z218_;replace HB:=ak (hb);replace HI0:=ak (hi);clear hb hk hi)|((with_reducible refine gate_dst (N:=22) rfl ?_);refine Kd.R_lit (Kd.int .i64) _ 3 ?hg (N:=22) ?hd (xs:=([0,1,99,100]:List Int)) (inner:=[.int .i64 0,.int .i64 1,.int .i64 99,.int .i64 100]) (ok:=fun _=>True) (okp:=fun _=>True) ?hr ?hp (fun _ hk=>hk) trivial (Below.refl _ _) (Nat.le_refl _) (by simp) ?_;(case hd=>rfl);(case hg=>rfl);(case hr=>exact z39_);(case hp=>exact(Reps.one (show Kd.M (Kd.int .i64) _ _ _ 0 [.int .i64 0] from rfl) (Reps.one (show Kd.M (Kd.int .i64) _ _ _ 1 [.int .i64 1] from rfl) (Reps.one (show Kd.M (Kd.int .i64) _ _ _ 99 [.int .i64 99] from rfl) (Reps.one (show Kd.M (Kd.int .i64) _ _ _ 100 [.int .i64 100] from rfl) (Reps.none _ _))))));intro v705 w17 ho18 hb hg_ hnew_;clear hg_ hnew_;(first|rw [← Ny704.out] at ho18|(simp only[Int.reduceToNat] at ho18;rw [← Ny704.out] at ho18));replace HO695:=ak (Kd.N_elder' (z3_ HO695) (Kd.R_base ho18) hb);have HO706:=ak (Kd.R_lower (Kd.R_newM (M:=fun k_=>(w.heap.size≤k_)) ho18 (keep_size (w:=w) (g:=g) (row:=none) z0_) (fun k_ h_=>h_)) (keep_size (w:=w) (g:=g) (row:=none) z0_));replace HK:=z217_;replace HB:=z225_;replace HI0:=z224_;clear hb ho18;obtain⟨Ao19,co19,eo19⟩:=Kd.R_slice HO706.out;subst eo19)|((with_reducible refine gate_callee (f:=67) rfl ?_);refine Hd.gl_ 23 Try.func67 #[.pointer (some ⟨g,0,none⟩),.slice Ao19 y704.length co19] ?_;(with_reducible refine(spec_l1Int.calls g s0_0 t702 t703 _ _ y704 t707 t708 t709 w0 _ ?side1 ?side2 ?side3 ?side4 ?side5 A9.out).mono ?_);(case side1=>exact z1_);(case side2=>exact z2_);(case side3=>exact z61_ HO706);(case side4=>exact(Kd.R_reads' HO706.out).2.1);(case side5=>exact z155_ HO706);rintro e w20 ⟨rfl,hi,hb,hk⟩;refine⟨_,rfl,?_⟩;replace HO695:=ak (Kd.N_mono (Kd.N_keep (Kd.N_mono (ok:=fun k_=>((((w.heap.size≤k_))∧k_≠g)∧some k_≠(.slice Ao19 y704.length co19:Value).ownBlock)) (z3_ HO695) (fun k_ hk_=>(⟨hk_,hk_.1.2⟩:_∧k_≠g))) hk (fun _ h=>h.2)) (fun _ h=>h.1));replace HO706:=ak (Kd.R_mono (Kd.R_keep (IsS89.apart (show IsS89 w0 _ g s0_0 t702 t703 from by repeat (first|(with_reducible first|exact HI0.out|apply IsS89.alloc|apply IsS89.drewN|apply IsS89.drew|apply IsS89.set_1|apply IsS89.set_2)|exact HI0.out)) (Hd.r_ HO706) (by decide)) hk (fun _ h=>h.2)) (fun _ h=>h.1));replace HK:=z218_;replace HB:=ak (hb);replace HI0:=ak (hi);clear hb hk hi;have p12:0≤(t698:Int):=od_;have q12:(t698:Int)<((t693.length:Int):Int):=od_;obtain⟨go12,co12,eo12,gb12,gl12,cl12,HG12⟩:=Kd.N_form HO695.out (by omega);(first|cases eo12|(injection eo12 with ea_ en_ ec_;(first|subst ea_|(injection ea_ with ea_;subst ea_));subst ec_;clear en_));have GB12:=ak gb12;have GG12:=ak HG12;clear gb12 gl12 HG12;obtain⟨ce12,hcl12,hM12,hcc12,hfr12⟩:=Kd.N_elem HO695.out z34 (t698:Int) p12 q12;obtain⟨ua12_4,uc12_4,rfl,ul12_4,ge12_4⟩:=k34_openF hM12;have hx12_0:w20.cell? ⟨go12,(t698:Int).toNat*5,none⟩=some (.int .i64 ((rd_T34 t693 t698).f0)):=hcc12 0 _ rfl;have hx12_1:w20.cell? ⟨go12,(t698:Int).toNat*5+1,none⟩=some (.int .i64 ((rd_T34 t693 t698).f1)):=hcc12 1 _ rfl;have hx12_2:w20.cell? ⟨go12,(t698:Int).toNat*5+2,none⟩=some (.int .i64 ((rd_T34 t693 t698).f2)):=hcc12 2 _ rfl;have hx12_3:w20.cell? ⟨go12,(t698:Int).toNat*5+3,none⟩=some (.string ((rd_T34 t693 t698).f3)):=hcc12 3 _ rfl;have hx12_4:w20.cell? ⟨go12,(t698:Int).toNat*5+4,none⟩=some (.slice ua12_4 ((rd_T34 t693 t698).f4).length uc12_4):=hcc12 4 _ rfl;have hf12_0:w20.frozen? ⟨go12,(t698:Int).toNat*5,none⟩=false:=hfr12 0;have hf12_1:w20.frozen? ⟨go12,(t698:Int).toNat*5+1,none⟩=false:=hfr12 1;have hf12_2:w20.frozen? ⟨go12,(t698:Int).toNat*5+2,none⟩=false:=hfr12 2;have hf12_3:w20.frozen? ⟨go12,(t698:Int).toNat*5+3,none⟩=false:=hfr12 3;have hf12_4:w20.frozen? ⟨go12,(t698:Int).toNat*5+4,none⟩=false:=hfr12 4;clear hcl12 hcc12 hfr12 hM12;replace p12:=eq_true p12;replace q12:=eq_true q12;have n_:=ak (Kd.N_mono (ok':=(fun k_=>(w.heap.size≤k_)∧some k_≠(.slice Ao19 y704.length co19:Value).ownBlock)) HO695.out (fun k_ hk=>⟨hk.1.1,hk.2⟩));clear HO695;have HO695:=n_;clear n_;have HX21:=ak (show Kd.N k34 34 w20 w.heap.size (fun k_=>(w.heap.size≤k_)∧some k_≠(.slice Ao19 y704.length co19:Value).ownBlock) (.slice (some ⟨go12,0,none⟩) t693.length co14) t693 from (z3_ HO695));obtain⟨ce21,hcl21,hM21,hcc21,hfr21⟩:=Kd.N_elem HX21.out z34 (t698:Int) (od_) (by have h_:(t698:Int)<((t693.length:Int):Int):=od_;first|exact h_|(have e_:=z172_ HO695;omega)|simpa using h_);obtain⟨ua21_4,uc21_4,rfl,ul21_4,ge21_4⟩:=k34_openF hM21;have HP21:=Kd.N_seg HX21.out (t698:Int) (od_) (by have h_:(t698:Int)<((t693.length:Int):Int):=od_;first|exact h_|(have e_:=z172_ HO695;omega)|simpa using h_) (seg:=[.int .i64 t707]) (j:=0) hcl21 hcc21 (show 1≤5 from by decide) (x':=(⟨t707,(rd_T34 t693 t698).f1,(rd_T34 t693 t698).f2,(rd_T34 t693 t698).f3,(rd_T34 t693 t698).f4⟩:S34)) (k34_mkF _ _ (⟨t707,(rd_T34 t693 t698).f1,(rd_T34 t693 t698).f2,(rd_T34 t693 t698).f3,(rd_T34 t693 t698).f4⟩:S34) ul21_4 ge21_4) (fun _ hk=>hk);have hx21_0:=hcc21 0 _ rfl;(try simp only[show (k34).sz=5 from rfl,Nat.mul_one,Nat.add_zero] at hx21_0);have hf21_0:=hfr21 0;(try simp only[show (k34).sz=5 from rfl,Nat.mul_one,Nat.add_zero] at hf21_0);clear hcl21 hcc21 hfr21 hM21)|((with_reducible refine gate_store (t:=3) (p:=25) rfl ?_);refine store_event (t:=3) (p:=25) (v:=?vo_w22) (w1:=(w20.setCell ⟨go12,(t698:Int).toNat*5,none⟩ (.int .i64 t707))) ?hg ?ho ?hn ?hr ?_;(case ho=>rfl);(case hg=>rfl);(case hn=>rfl);(case hr=>exact z39_);intro w22 hw;have hg:w20.grownBy w22 (some go12):=(by rw [hw];exact HP21.2);have hp_:Kd.N k34 34 w22 w.heap.size (fun k_=>(w.heap.size≤k_)∧some k_≠(.slice Ao19 y704.length co19:Value).ownBlock) (.slice (some ⟨go12,0,none⟩) t693.length co14) y710:=(by rw [hw,Ny710.out];exact HP21.1);clear HP21;replace HI0:=z234_ HO695;replace HO706:=ak (Kd.R_over' (v:=(.slice (some ⟨go12,0,none⟩) t693.length co14)) (Hd.r_ HO706) (Kd.N_typed HO695.out) (by decide) hg);replace HB:=ak ((by rw [hw];exact below_set (HB.out) (Nat.le_trans HL.out GB12.out):Below w0.heap.size w0 w22));replace HK:=z261_ HO695;replace HO695:=ak (hp_);clear hg hw hp_))
  go_ret
  exact⟨_,Hd.e_,z51_ HO695,z1_,z2_,z0_⟩
 rw [if_neg c8] at H
 have c8b0:=beq_eq_false_iff_ne.mpr c8
 have c8b1:=bne_iff_ne.mpr c8
 by_cases c23:t701=1
 ·
  rw [if_pos c23] at H
  have c23b0:=beq_iff_eq.mpr c23
  have c23b1:=bne_eq_false_iff_eq.mpr c23
  clear c23
  generalize hy711:(([(-1),9,10]:List Int))=y711 at H;have Ny711:=ak hy711.symm;clear hy711;try rw [Option.bind_some] at H
  replace H:=Hd.bd_ H;obtain⟨⟨t714,t715,t716⟩,A24,H⟩:=H;dsimp only at H
  by_cases c25:0≤t698;rotate_left
  ·
   rw [if_neg c25] at H
   exact absurd H (by simp)
  rw [if_pos c25] at H
  have c25b0:=decide_eq_true c25
  clear c25
  by_cases c26:t698<(t693.length:Int);rotate_left
  ·
   rw [if_neg c26] at H
   exact absurd H (by simp)
  rw [if_pos c26] at H
  have c26b0:=decide_eq_true c26
  clear c26
  generalize hy717:(t693.set (t698:Int).toNat (⟨(rd_T34 t693 t698).f0,(rd_T34 t693 t698).f1,t714,(rd_T34 t693 t698).f3,(rd_T34 t693 t698).f4⟩:S34))=y717 at H;have Ny717:=ak hy717.symm;clear hy717;try rw [Option.bind_some] at H
  simp only[Option.some.injEq,Prod.mk.injEq] at H
  obtain⟨rfl,rfl,rfl⟩:=H
  go_enter Try.func46,Try.ntmps46
  go_wp2_with (first|((with_reducible refine gate_callee (f:=66) rfl ?_);refine Hd.gl_ 6 Try.func66 #[.pointer (some ⟨g,0,none⟩)] ?_;(with_reducible refine(spec_l9Source.calls k g s0_0 s0_1 s0_2 t693 t696 t697 w0 _ ?side1 ?side2 A2.out).mono ?_);(case side1=>exact z1_);(case side2=>exact z2_);rintro e w28 ⟨v694,rfl,ho0,hi,hb,hk⟩;refine⟨_,rfl,?_⟩;have HO695:=z220_;replace HK:=z218_;replace HB:=ak (hb);replace HI0:=ak (hi);clear hb hk hi ho0;obtain⟨Ao29,co29,eo29⟩:=Kd.N_slice HO695.out;subst eo29)|((with_reducible refine gate_callee (f:=49) rfl ?_);refine Hd.gl_ 14 Try.func49 #[.pointer (some ⟨g,0,none⟩),.int .i64 (t693.length:Int)] ?_;(with_reducible refine(spec_l1Below.calls g s0_0 t696 t697 (t693.length:Int) t698 t699 t700 w0 _ ?side1 ?side2 A6.out).mono ?_);(case side1=>exact z1_);(case side2=>exact z2_);rintro e w30 ⟨rfl,hi,hb,hk⟩;refine⟨_,rfl,?_⟩;replace HO695:=z219_;replace HK:=z218_;replace HB:=ak (hb);replace HI0:=ak (hi);clear hb hk hi)|((with_reducible refine gate_callee (f:=49) rfl ?_);refine Hd.gl_ 16 Try.func49 #[.pointer (some ⟨g,0,none⟩),.int .i64 10] ?_;(with_reducible refine(spec_l1Below.calls g s0_0 t699 t700 10 t701 t702 t703 w0 _ ?side1 ?side2 A7.out).mono ?_);(case side1=>exact z1_);(case side2=>exact z2_);rintro e w31 ⟨rfl,hi,hb,hk⟩;refine⟨_,rfl,?_⟩;replace HO695:=z219_;replace HK:=z218_;replace HB:=ak (hb);replace HI0:=ak (hi);clear hb hk hi)|((with_reducible refine gate_dst (N:=31) rfl ?_);refine Kd.R_lit (Kd.int .i64) _ 3 ?hg (N:=31) ?hd (xs:=([(-1),9,10]:List Int)) (inner:=[.int .i64 (-1),.int .i64 9,.int .i64 10]) (ok:=fun _=>True) (okp:=fun _=>True) ?hr ?hp (fun _ hk=>hk) trivial (Below.refl _ _) (Nat.le_refl _) (by simp) ?_;(case hd=>rfl);(case hg=>rfl);(case hr=>exact z39_);(case hp=>exact(Reps.one (show Kd.M (Kd.int .i64) _ _ _ (-1) [.int .i64 (-1)] from rfl) (Reps.one (show Kd.M (Kd.int .i64) _ _ _ 9 [.int .i64 9] from rfl) (Reps.one (show Kd.M (Kd.int .i64) _ _ _ 10 [.int .i64 10] from rfl) (Reps.none _ _)))));intro v712 w32 ho33 hb hg_ hnew_;clear hg_ hnew_;(first|rw [← Ny711.out] at ho33|(simp only[Int.reduceToNat] at ho33;rw [← Ny711.out] at ho33));replace HO695:=ak (Kd.N_elder' (z3_ HO695) (Kd.R_base ho33) hb);have HO713:=ak (Kd.R_lower (Kd.R_newM (M:=fun k_=>(w.heap.size≤k_)) ho33 (keep_size (w:=w) (g:=g) (row:=none) z0_) (fun k_ h_=>h_)) (keep_size (w:=w) (g:=g) (row:=none) z0_));replace HK:=z217_;replace HB:=z225_;replace HI0:=z224_;clear hb ho33;obtain⟨Ao34,co34,eo34⟩:=Kd.R_slice HO713.out;subst eo34)|((with_reducible refine gate_callee (f:=67) rfl ?_);refine Hd.gl_ 32 Try.func67 #[.pointer (some ⟨g,0,none⟩),.slice Ao34 y711.length co34] ?_;(with_reducible refine(spec_l1Int.calls g s0_0 t702 t703 _ _ y711 t714 t715 t716 w0 _ ?side1 ?side2 ?side3 ?side4 ?side5 A24.out).mono ?_);(case side1=>exact z1_);(case side2=>exact z2_);(case side3=>exact z61_ HO713);(case side4=>exact(Kd.R_reads' HO713.out).2.1);(case side5=>exact z155_ HO713);rintro e w35 ⟨rfl,hi,hb,hk⟩;refine⟨_,rfl,?_⟩;replace HO695:=ak (Kd.N_mono (Kd.N_keep (Kd.N_mono (ok:=fun k_=>((((w.heap.size≤k_))∧k_≠g)∧some k_≠(.slice Ao34 y711.length co34:Value).ownBlock)) (z3_ HO695) (fun k_ hk_=>(⟨hk_,hk_.1.2⟩:_∧k_≠g))) hk (fun _ h=>h.2)) (fun _ h=>h.1));replace HO713:=ak (Kd.R_mono (Kd.R_keep (IsS89.apart (show IsS89 w0 _ g s0_0 t702 t703 from by repeat (first|(with_reducible first|exact HI0.out|apply IsS89.alloc|apply IsS89.drewN|apply IsS89.drew|apply IsS89.set_1|apply IsS89.set_2)|exact HI0.out)) (Hd.r_ HO713) (by decide)) hk (fun _ h=>h.2)) (fun _ h=>h.1));replace HK:=z218_;replace HB:=ak (hb);replace HI0:=ak (hi);clear hb hk hi;have p27:0≤(t698:Int):=od_;have q27:(t698:Int)<((t693.length:Int):Int):=od_;obtain⟨go27,co27,eo27,gb27,gl27,cl27,HG27⟩:=Kd.N_form HO695.out (by omega);(first|cases eo27|(injection eo27 with ea_ en_ ec_;(first|subst ea_|(injection ea_ with ea_;subst ea_));subst ec_;clear en_));have GB27:=ak gb27;have GG27:=ak HG27;clear gb27 gl27 HG27;obtain⟨ce27,hcl27,hM27,hcc27,hfr27⟩:=Kd.N_elem HO695.out z34 (t698:Int) p27 q27;obtain⟨ua27_4,uc27_4,rfl,ul27_4,ge27_4⟩:=k34_openF hM27;have hx27_0:w35.cell? ⟨go27,(t698:Int).toNat*5,none⟩=some (.int .i64 ((rd_T34 t693 t698).f0)):=hcc27 0 _ rfl;have hx27_1:w35.cell? ⟨go27,(t698:Int).toNat*5+1,none⟩=some (.int .i64 ((rd_T34 t693 t698).f1)):=hcc27 1 _ rfl;have hx27_2:w35.cell? ⟨go27,(t698:Int).toNat*5+2,none⟩=some (.int .i64 ((rd_T34 t693 t698).f2)):=hcc27 2 _ rfl;have hx27_3:w35.cell? ⟨go27,(t698:Int).toNat*5+3,none⟩=some (.string ((rd_T34 t693 t698).f3)):=hcc27 3 _ rfl;have hx27_4:w35.cell? ⟨go27,(t698:Int).toNat*5+4,none⟩=some (.slice ua27_4 ((rd_T34 t693 t698).f4).length uc27_4):=hcc27 4 _ rfl;have hf27_0:w35.frozen? ⟨go27,(t698:Int).toNat*5,none⟩=false:=hfr27 0;have hf27_1:w35.frozen? ⟨go27,(t698:Int).toNat*5+1,none⟩=false:=hfr27 1;have hf27_2:w35.frozen? ⟨go27,(t698:Int).toNat*5+2,none⟩=false:=hfr27 2;have hf27_3:w35.frozen? ⟨go27,(t698:Int).toNat*5+3,none⟩=false:=hfr27 3;have hf27_4:w35.frozen? ⟨go27,(t698:Int).toNat*5+4,none⟩=false:=hfr27 4;clear hcl27 hcc27 hfr27 hM27;replace p27:=eq_true p27;replace q27:=eq_true q27;have n_:=ak (Kd.N_mono (ok':=(fun k_=>(w.heap.size≤k_)∧some k_≠(.slice Ao34 y711.length co34:Value).ownBlock)) HO695.out (fun k_ hk=>⟨hk.1.1,hk.2⟩));clear HO695;have HO695:=n_;clear n_;have HX36:=ak (show Kd.N k34 34 w35 w.heap.size (fun k_=>(w.heap.size≤k_)∧some k_≠(.slice Ao34 y711.length co34:Value).ownBlock) (.slice (some ⟨go27,0,none⟩) t693.length co29) t693 from (z3_ HO695));obtain⟨ce36,hcl36,hM36,hcc36,hfr36⟩:=Kd.N_elem HX36.out z34 (t698:Int) (od_) (by have h_:(t698:Int)<((t693.length:Int):Int):=od_;first|exact h_|(have e_:=z172_ HO695;omega)|simpa using h_);obtain⟨ua36_4,uc36_4,rfl,ul36_4,ge36_4⟩:=k34_openF hM36;have HP36:=Kd.N_seg HX36.out (t698:Int) (od_) (by have h_:(t698:Int)<((t693.length:Int):Int):=od_;first|exact h_|(have e_:=z172_ HO695;omega)|simpa using h_) (seg:=[.int .i64 t714]) (j:=2) hcl36 hcc36 (show 3≤5 from by decide) (x':=(⟨(rd_T34 t693 t698).f0,(rd_T34 t693 t698).f1,t714,(rd_T34 t693 t698).f3,(rd_T34 t693 t698).f4⟩:S34)) (k34_mkF _ _ (⟨(rd_T34 t693 t698).f0,(rd_T34 t693 t698).f1,t714,(rd_T34 t693 t698).f3,(rd_T34 t693 t698).f4⟩:S34) ul36_4 ge36_4) (fun _ hk=>hk);have hx36_2:=hcc36 2 _ rfl;(try simp only[show (k34).sz=5 from rfl,Nat.mul_one,Nat.add_zero] at hx36_2);have hf36_2:=hfr36 2;(try simp only[show (k34).sz=5 from rfl,Nat.mul_one,Nat.add_zero] at hf36_2);clear hcl36 hcc36 hfr36 hM36)|((with_reducible refine gate_store (t:=3) (p:=34) rfl ?_);refine store_event (t:=3) (p:=34) (v:=?vo_w37) (w1:=(w35.setCell ⟨go27,(t698:Int).toNat*5+2,none⟩ (.int .i64 t714))) ?hg ?ho ?hn ?hr ?_;(case ho=>rfl);(case hg=>rfl);(case hn=>rfl);(case hr=>exact z39_);intro w37 hw;have hg:w35.grownBy w37 (some go27):=(by rw [hw];exact HP36.2);have hp_:Kd.N k34 34 w37 w.heap.size (fun k_=>(w.heap.size≤k_)∧some k_≠(.slice Ao34 y711.length co34:Value).ownBlock) (.slice (some ⟨go27,0,none⟩) t693.length co29) y717:=(by rw [hw,Ny717.out];exact HP36.1);clear HP36;replace HI0:=z234_ HO695;replace HO713:=ak (Kd.R_over' (v:=(.slice (some ⟨go27,0,none⟩) t693.length co29)) (Hd.r_ HO713) (Kd.N_typed HO695.out) (by decide) hg);replace HB:=ak ((by rw [hw];exact below_set (HB.out) (Nat.le_trans HL.out GB27.out):Below w0.heap.size w0 w37));replace HK:=z261_ HO695;replace HO695:=ak (hp_);clear hg hw hp_))
  go_ret
  exact⟨_,Hd.e_,z51_ HO695,z1_,z2_,z0_⟩
 rw [if_neg c23] at H
 have c23b0:=beq_eq_false_iff_ne.mpr c23
 have c23b1:=bne_iff_ne.mpr c23
 by_cases c38:t701=2
 ·
  rw [if_pos c38] at H
  have c38b0:=beq_iff_eq.mpr c38
  have c38b1:=bne_eq_false_iff_eq.mpr c38
  clear c38
  generalize hy718:(([(⟨#[65]⟩:ByteArray),(⟨#[116,111,111,108,111,110,103,97,97]⟩:ByteArray),(⟨#[97,32,98]⟩:ByteArray)]:List ByteArray))=y718 at H;have Ny718:=ak hy718.symm;clear hy718;try rw [Option.bind_some] at H
  replace H:=Hd.bd_ H;obtain⟨⟨t721,t722,t723⟩,A39,H⟩:=H;dsimp only at H
  by_cases c40:0≤t698;rotate_left
  ·
   rw [if_neg c40] at H
   exact absurd H (by simp)
  rw [if_pos c40] at H
  have c40b0:=decide_eq_true c40
  clear c40
  by_cases c41:t698<(t693.length:Int);rotate_left
  ·
   rw [if_neg c41] at H
   exact absurd H (by simp)
  rw [if_pos c41] at H
  have c41b0:=decide_eq_true c41
  clear c41
  generalize hy724:(t693.set (t698:Int).toNat (⟨(rd_T34 t693 t698).f0,(rd_T34 t693 t698).f1,(rd_T34 t693 t698).f2,t721,(rd_T34 t693 t698).f4⟩:S34))=y724 at H;have Ny724:=ak hy724.symm;clear hy724;try rw [Option.bind_some] at H
  simp only[Option.some.injEq,Prod.mk.injEq] at H
  obtain⟨rfl,rfl,rfl⟩:=H
  go_enter Try.func46,Try.ntmps46
  go_wp2_with (first|((with_reducible refine gate_callee (f:=66) rfl ?_);refine Hd.gl_ 6 Try.func66 #[.pointer (some ⟨g,0,none⟩)] ?_;(with_reducible refine(spec_l9Source.calls k g s0_0 s0_1 s0_2 t693 t696 t697 w0 _ ?side1 ?side2 A2.out).mono ?_);(case side1=>exact z1_);(case side2=>exact z2_);rintro e w43 ⟨v694,rfl,ho0,hi,hb,hk⟩;refine⟨_,rfl,?_⟩;have HO695:=z220_;replace HK:=z218_;replace HB:=ak (hb);replace HI0:=ak (hi);clear hb hk hi ho0;obtain⟨Ao44,co44,eo44⟩:=Kd.N_slice HO695.out;subst eo44)|((with_reducible refine gate_callee (f:=49) rfl ?_);refine Hd.gl_ 14 Try.func49 #[.pointer (some ⟨g,0,none⟩),.int .i64 (t693.length:Int)] ?_;(with_reducible refine(spec_l1Below.calls g s0_0 t696 t697 (t693.length:Int) t698 t699 t700 w0 _ ?side1 ?side2 A6.out).mono ?_);(case side1=>exact z1_);(case side2=>exact z2_);rintro e w45 ⟨rfl,hi,hb,hk⟩;refine⟨_,rfl,?_⟩;replace HO695:=z219_;replace HK:=z218_;replace HB:=ak (hb);replace HI0:=ak (hi);clear hb hk hi)|((with_reducible refine gate_callee (f:=49) rfl ?_);refine Hd.gl_ 16 Try.func49 #[.pointer (some ⟨g,0,none⟩),.int .i64 10] ?_;(with_reducible refine(spec_l1Below.calls g s0_0 t699 t700 10 t701 t702 t703 w0 _ ?side1 ?side2 A7.out).mono ?_);(case side1=>exact z1_);(case side2=>exact z2_);rintro e w46 ⟨rfl,hi,hb,hk⟩;refine⟨_,rfl,?_⟩;replace HO695:=z219_;replace HK:=z218_;replace HB:=ak (hb);replace HI0:=ak (hi);clear hb hk hi)|((with_reducible refine gate_dst (N:=40) rfl ?_);refine Kd.R_lit Kd.string _ 9 ?hg (N:=40) ?hd (xs:=([(⟨#[65]⟩:ByteArray),(⟨#[116,111,111,108,111,110,103,97,97]⟩:ByteArray),(⟨#[97,32,98]⟩:ByteArray)]:List ByteArray)) (inner:=[.string (⟨#[65]⟩:ByteArray),.string (⟨#[116,111,111,108,111,110,103,97,97]⟩:ByteArray),.string (⟨#[97,32,98]⟩:ByteArray)]) (ok:=fun _=>True) (okp:=fun _=>True) ?hr ?hp (fun _ hk=>hk) trivial (Below.refl _ _) (Nat.le_refl _) (by simp) ?_;(case hd=>rfl);(case hg=>rfl);(case hr=>exact z39_);(case hp=>exact(Reps.one (show Kd.M Kd.string _ _ _ (⟨#[65]⟩:ByteArray) [.string (⟨#[65]⟩:ByteArray)] from rfl) (Reps.one (show Kd.M Kd.string _ _ _ (⟨#[116,111,111,108,111,110,103,97,97]⟩:ByteArray) [.string (⟨#[116,111,111,108,111,110,103,97,97]⟩:ByteArray)] from rfl) (Reps.one (show Kd.M Kd.string _ _ _ (⟨#[97,32,98]⟩:ByteArray) [.string (⟨#[97,32,98]⟩:ByteArray)] from rfl) (Reps.none _ _)))));intro v719 w47 ho48 hb hg_ hnew_;clear hg_ hnew_;(first|rw [← Ny718.out] at ho48|(simp only[Int.reduceToNat] at ho48;rw [← Ny718.out] at ho48));replace HO695:=ak (Kd.N_elder' (z3_ HO695) (Kd.R_base ho48) hb);have HO720:=ak (Kd.R_lower (Kd.R_newM (M:=fun k_=>(w.heap.size≤k_)) ho48 (keep_size (w:=w) (g:=g) (row:=none) z0_) (fun k_ h_=>h_)) (keep_size (w:=w) (g:=g) (row:=none) z0_));replace HK:=z217_;replace HB:=z225_;replace HI0:=z224_;clear hb ho48;obtain⟨Ao49,co49,eo49⟩:=Kd.R_slice HO720.out;subst eo49)|((with_reducible refine gate_callee (f:=68) rfl ?_);refine Hd.gl_ 41 Try.func68 #[.pointer (some ⟨g,0,none⟩),.slice Ao49 y718.length co49] ?_;(with_reducible refine(spec_l1Str.calls g s0_0 t702 t703 _ _ y718 t721 t722 t723 w0 _ ?side1 ?side2 ?side3 ?side4 ?side5 A39.out).mono ?_);(case side1=>exact z1_);(case side2=>exact z2_);(case side3=>exact z61_ HO720);(case side4=>exact(Kd.R_reads' HO720.out).2.1);(case side5=>exact z155_ HO720);rintro e w50 ⟨rfl,hi,hb,hk⟩;refine⟨_,rfl,?_⟩;replace HO695:=ak (Kd.N_mono (Kd.N_keep (Kd.N_mono (ok:=fun k_=>((((w.heap.size≤k_))∧k_≠g)∧some k_≠(.slice Ao49 y718.length co49:Value).ownBlock)) (z3_ HO695) (fun k_ hk_=>(⟨hk_,hk_.1.2⟩:_∧k_≠g))) hk (fun _ h=>h.2)) (fun _ h=>h.1));replace HO720:=ak (Kd.R_mono (Kd.R_keep (IsS89.apart (show IsS89 w0 _ g s0_0 t702 t703 from by repeat (first|(with_reducible first|exact HI0.out|apply IsS89.alloc|apply IsS89.drewN|apply IsS89.drew|apply IsS89.set_1|apply IsS89.set_2)|exact HI0.out)) (Hd.r_ HO720) (by decide)) hk (fun _ h=>h.2)) (fun _ h=>h.1));replace HK:=z218_;replace HB:=ak (hb);replace HI0:=ak (hi);clear hb hk hi;have p42:0≤(t698:Int):=od_;have q42:(t698:Int)<((t693.length:Int):Int):=od_;obtain⟨go42,co42,eo42,gb42,gl42,cl42,HG42⟩:=Kd.N_form HO695.out (by omega);(first|cases eo42|(injection eo42 with ea_ en_ ec_;(first|subst ea_|(injection ea_ with ea_;subst ea_));subst ec_;clear en_));have GB42:=ak gb42;have GG42:=ak HG42;clear gb42 gl42 HG42;obtain⟨ce42,hcl42,hM42,hcc42,hfr42⟩:=Kd.N_elem HO695.out z34 (t698:Int) p42 q42;obtain⟨ua42_4,uc42_4,rfl,ul42_4,ge42_4⟩:=k34_openF hM42;have hx42_0:w50.cell? ⟨go42,(t698:Int).toNat*5,none⟩=some (.int .i64 ((rd_T34 t693 t698).f0)):=hcc42 0 _ rfl;have hx42_1:w50.cell? ⟨go42,(t698:Int).toNat*5+1,none⟩=some (.int .i64 ((rd_T34 t693 t698).f1)):=hcc42 1 _ rfl;have hx42_2:w50.cell? ⟨go42,(t698:Int).toNat*5+2,none⟩=some (.int .i64 ((rd_T34 t693 t698).f2)):=hcc42 2 _ rfl;have hx42_3:w50.cell? ⟨go42,(t698:Int).toNat*5+3,none⟩=some (.string ((rd_T34 t693 t698).f3)):=hcc42 3 _ rfl;have hx42_4:w50.cell? ⟨go42,(t698:Int).toNat*5+4,none⟩=some (.slice ua42_4 ((rd_T34 t693 t698).f4).length uc42_4):=hcc42 4 _ rfl;have hf42_0:w50.frozen? ⟨go42,(t698:Int).toNat*5,none⟩=false:=hfr42 0;have hf42_1:w50.frozen? ⟨go42,(t698:Int).toNat*5+1,none⟩=false:=hfr42 1;have hf42_2:w50.frozen? ⟨go42,(t698:Int).toNat*5+2,none⟩=false:=hfr42 2;have hf42_3:w50.frozen? ⟨go42,(t698:Int).toNat*5+3,none⟩=false:=hfr42 3;have hf42_4:w50.frozen? ⟨go42,(t698:Int).toNat*5+4,none⟩=false:=hfr42 4;clear hcl42 hcc42 hfr42 hM42;replace p42:=eq_true p42;replace q42:=eq_true q42;have n_:=ak (Kd.N_mono (ok':=(fun k_=>(w.heap.size≤k_)∧some k_≠(.slice Ao49 y718.length co49:Value).ownBlock)) HO695.out (fun k_ hk=>⟨hk.1.1,hk.2⟩));clear HO695;have HO695:=n_;clear n_;have HX51:=ak (show Kd.N k34 34 w50 w.heap.size (fun k_=>(w.heap.size≤k_)∧some k_≠(.slice Ao49 y718.length co49:Value).ownBlock) (.slice (some ⟨go42,0,none⟩) t693.length co44) t693 from (z3_ HO695));obtain⟨ce51,hcl51,hM51,hcc51,hfr51⟩:=Kd.N_elem HX51.out z34 (t698:Int) (od_) (by have h_:(t698:Int)<((t693.length:Int):Int):=od_;first|exact h_|(have e_:=z172_ HO695;omega)|simpa using h_);obtain⟨ua51_4,uc51_4,rfl,ul51_4,ge51_4⟩:=k34_openF hM51;have HP51:=Kd.N_seg HX51.out (t698:Int) (od_) (by have h_:(t698:Int)<((t693.length:Int):Int):=od_;first|exact h_|(have e_:=z172_ HO695;omega)|simpa using h_) (seg:=[.string t721]) (j:=3) hcl51 hcc51 (show 4≤5 from by decide) (x':=(⟨(rd_T34 t693 t698).f0,(rd_T34 t693 t698).f1,(rd_T34 t693 t698).f2,t721,(rd_T34 t693 t698).f4⟩:S34)) (k34_mkF _ _ (⟨(rd_T34 t693 t698).f0,(rd_T34 t693 t698).f1,(rd_T34 t693 t698).f2,t721,(rd_T34 t693 t698).f4⟩:S34) ul51_4 ge51_4) (fun _ hk=>hk);have hx51_3:=hcc51 3 _ rfl;(try simp only[show (k34).sz=5 from rfl,Nat.mul_one,Nat.add_zero] at hx51_3);have hf51_3:=hfr51 3;(try simp only[show (k34).sz=5 from rfl,Nat.mul_one,Nat.add_zero] at hf51_3);clear hcl51 hcc51 hfr51 hM51)|((with_reducible refine gate_store (t:=9) (p:=43) rfl ?_);refine store_event (t:=9) (p:=43) (v:=?vo_w52) (w1:=(w50.setCell ⟨go42,(t698:Int).toNat*5+3,none⟩ (.string t721))) ?hg ?ho ?hn ?hr ?_;(case ho=>rfl);(case hg=>rfl);(case hn=>rfl);(case hr=>exact z39_);intro w52 hw;have hg:w50.grownBy w52 (some go42):=(by rw [hw];exact HP51.2);have hp_:Kd.N k34 34 w52 w.heap.size (fun k_=>(w.heap.size≤k_)∧some k_≠(.slice Ao49 y718.length co49:Value).ownBlock) (.slice (some ⟨go42,0,none⟩) t693.length co44) y724:=(by rw [hw,Ny724.out];exact HP51.1);clear HP51;replace HI0:=z234_ HO695;replace HO720:=ak (Kd.R_over' (v:=(.slice (some ⟨go42,0,none⟩) t693.length co44)) (Hd.r_ HO720) (Kd.N_typed HO695.out) (by decide) hg);replace HB:=ak ((by rw [hw];exact below_set (HB.out) (Nat.le_trans HL.out GB42.out):Below w0.heap.size w0 w52));replace HK:=z261_ HO695;replace HO695:=ak (hp_);clear hg hw hp_))
  go_ret
  exact⟨_,Hd.e_,z51_ HO695,z1_,z2_,z0_⟩
 rw [if_neg c38] at H
 have c38b0:=beq_eq_false_iff_ne.mpr c38
 have c38b1:=bne_iff_ne.mpr c38
 by_cases c53:t701=3
 ·
  rw [if_pos c53] at H
  have c53b0:=beq_iff_eq.mpr c53
  have c53b1:=bne_eq_false_iff_eq.mpr c53
  clear c53
  generalize hy725:(([0,1,2,3,4]:List Int))=y725 at H;have Ny725:=ak hy725.symm;clear hy725;try rw [Option.bind_some] at H
  replace H:=Hd.bd_ H;obtain⟨⟨t728,t729,t730⟩,A54,H⟩:=H;dsimp only at H
  by_cases c55:0≤t698;rotate_left
  ·
   rw [if_neg c55] at H
   exact absurd H (by simp)
  rw [if_pos c55] at H
  have c55b0:=decide_eq_true c55
  clear c55
  by_cases c56:t698<(t693.length:Int);rotate_left
  ·
   rw [if_neg c56] at H
   exact absurd H (by simp)
  rw [if_pos c56] at H
  have c56b0:=decide_eq_true c56
  clear c56
  generalize hy731:(t693.set (t698:Int).toNat (⟨(rd_T34 t693 t698).f0,t728,(rd_T34 t693 t698).f2,(rd_T34 t693 t698).f3,(rd_T34 t693 t698).f4⟩:S34))=y731 at H;have Ny731:=ak hy731.symm;clear hy731;try rw [Option.bind_some] at H
  simp only[Option.some.injEq,Prod.mk.injEq] at H
  obtain⟨rfl,rfl,rfl⟩:=H
  go_enter Try.func46,Try.ntmps46
  go_wp2_with (first|((with_reducible refine gate_callee (f:=66) rfl ?_);refine Hd.gl_ 6 Try.func66 #[.pointer (some ⟨g,0,none⟩)] ?_;(with_reducible refine(spec_l9Source.calls k g s0_0 s0_1 s0_2 t693 t696 t697 w0 _ ?side1 ?side2 A2.out).mono ?_);(case side1=>exact z1_);(case side2=>exact z2_);rintro e w58 ⟨v694,rfl,ho0,hi,hb,hk⟩;refine⟨_,rfl,?_⟩;have HO695:=z220_;replace HK:=z218_;replace HB:=ak (hb);replace HI0:=ak (hi);clear hb hk hi ho0;obtain⟨Ao59,co59,eo59⟩:=Kd.N_slice HO695.out;subst eo59)|((with_reducible refine gate_callee (f:=49) rfl ?_);refine Hd.gl_ 14 Try.func49 #[.pointer (some ⟨g,0,none⟩),.int .i64 (t693.length:Int)] ?_;(with_reducible refine(spec_l1Below.calls g s0_0 t696 t697 (t693.length:Int) t698 t699 t700 w0 _ ?side1 ?side2 A6.out).mono ?_);(case side1=>exact z1_);(case side2=>exact z2_);rintro e w60 ⟨rfl,hi,hb,hk⟩;refine⟨_,rfl,?_⟩;replace HO695:=z219_;replace HK:=z218_;replace HB:=ak (hb);replace HI0:=ak (hi);clear hb hk hi)|((with_reducible refine gate_callee (f:=49) rfl ?_);refine Hd.gl_ 16 Try.func49 #[.pointer (some ⟨g,0,none⟩),.int .i64 10] ?_;(with_reducible refine(spec_l1Below.calls g s0_0 t699 t700 10 t701 t702 t703 w0 _ ?side1 ?side2 A7.out).mono ?_);(case side1=>exact z1_);(case side2=>exact z2_);rintro e w61 ⟨rfl,hi,hb,hk⟩;refine⟨_,rfl,?_⟩;replace HO695:=z219_;replace HK:=z218_;replace HB:=ak (hb);replace HI0:=ak (hi);clear hb hk hi)|((with_reducible refine gate_dst (N:=49) rfl ?_);refine Kd.R_lit (Kd.int .i64) _ 3 ?hg (N:=49) ?hd (xs:=([0,1,2,3,4]:List Int)) (inner:=[.int .i64 0,.int .i64 1,.int .i64 2,.int .i64 3,.int .i64 4]) (ok:=fun _=>True) (okp:=fun _=>True) ?hr ?hp (fun _ hk=>hk) trivial (Below.refl _ _) (Nat.le_refl _) (by simp) ?_;(case hd=>rfl);(case hg=>rfl);(case hr=>exact z39_);(case hp=>exact(Reps.one (show Kd.M (Kd.int .i64) _ _ _ 0 [.int .i64 0] from rfl) (Reps.one (show Kd.M (Kd.int .i64) _ _ _ 1 [.int .i64 1] from rfl) (Reps.one (show Kd.M (Kd.int .i64) _ _ _ 2 [.int .i64 2] from rfl) (Reps.one (show Kd.M (Kd.int .i64) _ _ _ 3 [.int .i64 3] from rfl) (Reps.one (show Kd.M (Kd.int .i64) _ _ _ 4 [.int .i64 4] from rfl) (Reps.none _ _)))))));intro v726 w62 ho63 hb hg_ hnew_;clear hg_ hnew_;(first|rw [← Ny725.out] at ho63|(simp only[Int.reduceToNat] at ho63;rw [← Ny725.out] at ho63));replace HO695:=ak (Kd.N_elder' (z3_ HO695) (Kd.R_base ho63) hb);have HO727:=ak (Kd.R_lower (Kd.R_newM (M:=fun k_=>(w.heap.size≤k_)) ho63 (keep_size (w:=w) (g:=g) (row:=none) z0_) (fun k_ h_=>h_)) (keep_size (w:=w) (g:=g) (row:=none) z0_));replace HK:=z217_;replace HB:=z225_;replace HI0:=z224_;clear hb ho63;obtain⟨Ao64,co64,eo64⟩:=Kd.R_slice HO727.out;subst eo64)|((with_reducible refine gate_callee (f:=67) rfl ?_);refine Hd.gl_ 50 Try.func67 #[.pointer (some ⟨g,0,none⟩),.slice Ao64 y725.length co64] ?_;(with_reducible refine(spec_l1Int.calls g s0_0 t702 t703 _ _ y725 t728 t729 t730 w0 _ ?side1 ?side2 ?side3 ?side4 ?side5 A54.out).mono ?_);(case side1=>exact z1_);(case side2=>exact z2_);(case side3=>exact z61_ HO727);(case side4=>exact(Kd.R_reads' HO727.out).2.1);(case side5=>exact z155_ HO727);rintro e w65 ⟨rfl,hi,hb,hk⟩;refine⟨_,rfl,?_⟩;replace HO695:=ak (Kd.N_mono (Kd.N_keep (Kd.N_mono (ok:=fun k_=>((((w.heap.size≤k_))∧k_≠g)∧some k_≠(.slice Ao64 y725.length co64:Value).ownBlock)) (z3_ HO695) (fun k_ hk_=>(⟨hk_,hk_.1.2⟩:_∧k_≠g))) hk (fun _ h=>h.2)) (fun _ h=>h.1));replace HO727:=ak (Kd.R_mono (Kd.R_keep (IsS89.apart (show IsS89 w0 _ g s0_0 t702 t703 from by repeat (first|(with_reducible first|exact HI0.out|apply IsS89.alloc|apply IsS89.drewN|apply IsS89.drew|apply IsS89.set_1|apply IsS89.set_2)|exact HI0.out)) (Hd.r_ HO727) (by decide)) hk (fun _ h=>h.2)) (fun _ h=>h.1));replace HK:=z218_;replace HB:=ak (hb);replace HI0:=ak (hi);clear hb hk hi;have p57:0≤(t698:Int):=od_;have q57:(t698:Int)<((t693.length:Int):Int):=od_;obtain⟨go57,co57,eo57,gb57,gl57,cl57,HG57⟩:=Kd.N_form HO695.out (by omega);(first|cases eo57|(injection eo57 with ea_ en_ ec_;(first|subst ea_|(injection ea_ with ea_;subst ea_));subst ec_;clear en_));have GB57:=ak gb57;have GG57:=ak HG57;clear gb57 gl57 HG57;obtain⟨ce57,hcl57,hM57,hcc57,hfr57⟩:=Kd.N_elem HO695.out z34 (t698:Int) p57 q57;obtain⟨ua57_4,uc57_4,rfl,ul57_4,ge57_4⟩:=k34_openF hM57;have hx57_0:w65.cell? ⟨go57,(t698:Int).toNat*5,none⟩=some (.int .i64 ((rd_T34 t693 t698).f0)):=hcc57 0 _ rfl;have hx57_1:w65.cell? ⟨go57,(t698:Int).toNat*5+1,none⟩=some (.int .i64 ((rd_T34 t693 t698).f1)):=hcc57 1 _ rfl;have hx57_2:w65.cell? ⟨go57,(t698:Int).toNat*5+2,none⟩=some (.int .i64 ((rd_T34 t693 t698).f2)):=hcc57 2 _ rfl;have hx57_3:w65.cell? ⟨go57,(t698:Int).toNat*5+3,none⟩=some (.string ((rd_T34 t693 t698).f3)):=hcc57 3 _ rfl;have hx57_4:w65.cell? ⟨go57,(t698:Int).toNat*5+4,none⟩=some (.slice ua57_4 ((rd_T34 t693 t698).f4).length uc57_4):=hcc57 4 _ rfl;have hf57_0:w65.frozen? ⟨go57,(t698:Int).toNat*5,none⟩=false:=hfr57 0;have hf57_1:w65.frozen? ⟨go57,(t698:Int).toNat*5+1,none⟩=false:=hfr57 1;have hf57_2:w65.frozen? ⟨go57,(t698:Int).toNat*5+2,none⟩=false:=hfr57 2;have hf57_3:w65.frozen? ⟨go57,(t698:Int).toNat*5+3,none⟩=false:=hfr57 3;have hf57_4:w65.frozen? ⟨go57,(t698:Int).toNat*5+4,none⟩=false:=hfr57 4;clear hcl57 hcc57 hfr57 hM57;replace p57:=eq_true p57;replace q57:=eq_true q57;have n_:=ak (Kd.N_mono (ok':=(fun k_=>(w.heap.size≤k_)∧some k_≠(.slice Ao64 y725.length co64:Value).ownBlock)) HO695.out (fun k_ hk=>⟨hk.1.1,hk.2⟩));clear HO695;have HO695:=n_;clear n_;have HX66:=ak (show Kd.N k34 34 w65 w.heap.size (fun k_=>(w.heap.size≤k_)∧some k_≠(.slice Ao64 y725.length co64:Value).ownBlock) (.slice (some ⟨go57,0,none⟩) t693.length co59) t693 from (z3_ HO695));obtain⟨ce66,hcl66,hM66,hcc66,hfr66⟩:=Kd.N_elem HX66.out z34 (t698:Int) (od_) (by have h_:(t698:Int)<((t693.length:Int):Int):=od_;first|exact h_|(have e_:=z172_ HO695;omega)|simpa using h_);obtain⟨ua66_4,uc66_4,rfl,ul66_4,ge66_4⟩:=k34_openF hM66;have HP66:=Kd.N_seg HX66.out (t698:Int) (od_) (by have h_:(t698:Int)<((t693.length:Int):Int):=od_;first|exact h_|(have e_:=z172_ HO695;omega)|simpa using h_) (seg:=[.int .i64 t728]) (j:=1) hcl66 hcc66 (show 2≤5 from by decide) (x':=(⟨(rd_T34 t693 t698).f0,t728,(rd_T34 t693 t698).f2,(rd_T34 t693 t698).f3,(rd_T34 t693 t698).f4⟩:S34)) (k34_mkF _ _ (⟨(rd_T34 t693 t698).f0,t728,(rd_T34 t693 t698).f2,(rd_T34 t693 t698).f3,(rd_T34 t693 t698).f4⟩:S34) ul66_4 ge66_4) (fun _ hk=>hk);have hx66_1:=hcc66 1 _ rfl;(try simp only[show (k34).sz=5 from rfl,Nat.mul_one,Nat.add_zero] at hx66_1);have hf66_1:=hfr66 1;(try simp only[show (k34).sz=5 from rfl,Nat.mul_one,Nat.add_zero] at hf66_1);clear hcl66 hcc66 hfr66 hM66)|((with_reducible refine gate_store (t:=3) (p:=52) rfl ?_);refine store_event (t:=3) (p:=52) (v:=?vo_w67) (w1:=(w65.setCell ⟨go57,(t698:Int).toNat*5+1,none⟩ (.int .i64 t728))) ?hg ?ho ?hn ?hr ?_;(case ho=>rfl);(case hg=>rfl);(case hn=>rfl);(case hr=>exact z39_);intro w67 hw;have hg:w65.grownBy w67 (some go57):=(by rw [hw];exact HP66.2);have hp_:Kd.N k34 34 w67 w.heap.size (fun k_=>(w.heap.size≤k_)∧some k_≠(.slice Ao64 y725.length co64:Value).ownBlock) (.slice (some ⟨go57,0,none⟩) t693.length co59) y731:=(by rw [hw,Ny731.out];exact HP66.1);clear HP66;replace HI0:=z234_ HO695;replace HO727:=ak (Kd.R_over' (v:=(.slice (some ⟨go57,0,none⟩) t693.length co59)) (Hd.r_ HO727) (Kd.N_typed HO695.out) (by decide) hg);replace HB:=ak ((by rw [hw];exact below_set (HB.out) (Nat.le_trans HL.out GB57.out):Below w0.heap.size w0 w67));replace HK:=z261_ HO695;replace HO695:=ak (hp_);clear hg hw hp_))
  go_ret
  exact⟨_,Hd.e_,z51_ HO695,z1_,z2_,z0_⟩
 rw [if_neg c53] at H
 have c53b0:=beq_eq_false_iff_ne.mpr c53
 have c53b1:=bne_iff_ne.mpr c53
 by_cases c68:t701=4;rotate_left
 ·
  rw [if_neg c68] at H
  have c68b0:=beq_eq_false_iff_ne.mpr c68
  have c68b1:=bne_iff_ne.mpr c68
  simp only[Option.some.injEq,Prod.mk.injEq] at H
  obtain⟨rfl,rfl,rfl⟩:=H
  go_enter Try.func46,Try.ntmps46
  go_wp2_with (first|((with_reducible refine gate_callee (f:=66) rfl ?_);refine Hd.gl_ 6 Try.func66 #[.pointer (some ⟨g,0,none⟩)] ?_;(with_reducible refine(spec_l9Source.calls k g s0_0 s0_1 s0_2 t693 t696 t697 w0 _ ?side1 ?side2 A2.out).mono ?_);(case side1=>exact z1_);(case side2=>exact z2_);rintro e w80 ⟨v694,rfl,ho0,hi,hb,hk⟩;refine⟨_,rfl,?_⟩;have HO695:=z220_;replace HK:=z218_;replace HB:=ak (hb);replace HI0:=ak (hi);clear hb hk hi ho0;obtain⟨Ao81,co81,eo81⟩:=Kd.N_slice HO695.out;subst eo81)|((with_reducible refine gate_callee (f:=49) rfl ?_);refine Hd.gl_ 14 Try.func49 #[.pointer (some ⟨g,0,none⟩),.int .i64 (t693.length:Int)] ?_;(with_reducible refine(spec_l1Below.calls g s0_0 t696 t697 (t693.length:Int) t698 t699 t700 w0 _ ?side1 ?side2 A6.out).mono ?_);(case side1=>exact z1_);(case side2=>exact z2_);rintro e w82 ⟨rfl,hi,hb,hk⟩;refine⟨_,rfl,?_⟩;replace HO695:=z219_;replace HK:=z218_;replace HB:=ak (hb);replace HI0:=ak (hi);clear hb hk hi)|((with_reducible refine gate_callee (f:=49) rfl ?_);refine Hd.gl_ 16 Try.func49 #[.pointer (some ⟨g,0,none⟩),.int .i64 10] ?_;(with_reducible refine(spec_l1Below.calls g s0_0 t699 t700 10 t701 t702 t703 w0 _ ?side1 ?side2 A7.out).mono ?_);(case side1=>exact z1_);(case side2=>exact z2_);rintro e w83 ⟨rfl,hi,hb,hk⟩;refine⟨_,rfl,?_⟩;replace HO695:=z219_;replace HK:=z218_;replace HB:=ak (hb);replace HI0:=ak (hi);clear hb hk hi))
  go_ret
  exact⟨_,Hd.e_,z51_ HO695,z1_,z2_,z0_⟩
 rw [if_pos c68] at H
 have c68b0:=beq_iff_eq.mpr c68
 have c68b1:=bne_eq_false_iff_eq.mpr c68
 clear c68
 replace H:=Hd.bd_ H;obtain⟨⟨t732,t735,t736⟩,A69,H⟩:=H;dsimp only at H
 by_cases c70:0≤t698;rotate_left
 ·
  rw [if_neg c70] at H
  exact absurd H (by simp)
 rw [if_pos c70] at H
 have c70b0:=decide_eq_true c70
 clear c70
 by_cases c71:t698<(t693.length:Int);rotate_left
 ·
  rw [if_neg c71] at H
  exact absurd H (by simp)
 rw [if_pos c71] at H
 have c71b0:=decide_eq_true c71
 clear c71
 generalize hy737:(t693.set (t698:Int).toNat (⟨(rd_T34 t693 t698).f0,(rd_T34 t693 t698).f1,(rd_T34 t693 t698).f2,(rd_T34 t693 t698).f3,t732⟩:S34))=y737 at H;have Ny737:=ak hy737.symm;clear hy737;try rw [Option.bind_some] at H
 simp only[Option.some.injEq,Prod.mk.injEq] at H
 obtain⟨rfl,rfl,rfl⟩:=H
 go_enter Try.func46,Try.ntmps46
 go_wp2_with (first|((with_reducible refine gate_callee (f:=66) rfl ?_);refine Hd.gl_ 6 Try.func66 #[.pointer (some ⟨g,0,none⟩)] ?_;(with_reducible refine(spec_l9Source.calls k g s0_0 s0_1 s0_2 t693 t696 t697 w0 _ ?side1 ?side2 A2.out).mono ?_);(case side1=>exact z1_);(case side2=>exact z2_);rintro e w73 ⟨v694,rfl,ho0,hi,hb,hk⟩;refine⟨_,rfl,?_⟩;have HO695:=z220_;replace HK:=z218_;replace HB:=ak (hb);replace HI0:=ak (hi);clear hb hk hi ho0;obtain⟨Ao74,co74,eo74⟩:=Kd.N_slice HO695.out;subst eo74)|((with_reducible refine gate_callee (f:=49) rfl ?_);refine Hd.gl_ 14 Try.func49 #[.pointer (some ⟨g,0,none⟩),.int .i64 (t693.length:Int)] ?_;(with_reducible refine(spec_l1Below.calls g s0_0 t696 t697 (t693.length:Int) t698 t699 t700 w0 _ ?side1 ?side2 A6.out).mono ?_);(case side1=>exact z1_);(case side2=>exact z2_);rintro e w75 ⟨rfl,hi,hb,hk⟩;refine⟨_,rfl,?_⟩;replace HO695:=z219_;replace HK:=z218_;replace HB:=ak (hb);replace HI0:=ak (hi);clear hb hk hi)|((with_reducible refine gate_callee (f:=49) rfl ?_);refine Hd.gl_ 16 Try.func49 #[.pointer (some ⟨g,0,none⟩),.int .i64 10] ?_;(with_reducible refine(spec_l1Below.calls g s0_0 t699 t700 10 t701 t702 t703 w0 _ ?side1 ?side2 A7.out).mono ?_);(case side1=>exact z1_);(case side2=>exact z2_);rintro e w76 ⟨rfl,hi,hb,hk⟩;refine⟨_,rfl,?_⟩;replace HO695:=z219_;replace HK:=z218_;replace HB:=ak (hb);replace HI0:=ak (hi);clear hb hk hi)|((with_reducible refine gate_callee (f:=69) rfl ?_);refine Hd.gl_ 58 Try.func69 #[.pointer (some ⟨g,0,none⟩)] ?_;(with_reducible refine(spec_l6Any.calls k g s0_0 t702 t703 t732 t735 t736 w0 _ ?side1 ?side2 A69.out).mono ?_);(case side1=>exact z1_);(case side2=>exact z2_);rintro e w77 ⟨v733,rfl,ho0,hi,hb,hk⟩;refine⟨_,rfl,?_⟩;replace HO695:=ak (Kd.N_mono (Kd.N_told (Kd.N_oldK (Kd.N_mono (ok:=fun k_=>(((w.heap.size≤k_))∧k_≠g)) (z3_ HO695) (fun k_ hk_=>(⟨hk_,hk_.2⟩:_∧k_≠g))) hk) (Kd.R_base ho0)) (fun _ h_=>h_.1));have HO734:=z274_;replace HK:=z218_;replace HB:=ak (hb);replace HI0:=ak (hi);clear hb hk hi ho0;obtain⟨Ax_,cx_,ex_⟩:=Kd.R_slice HO734.out;subst ex_;have p72:0≤(t698:Int):=od_;have q72:(t698:Int)<((t693.length:Int):Int):=od_;obtain⟨go72,co72,eo72,gb72,gl72,cl72,HG72⟩:=Kd.N_form HO695.out (by omega);(first|cases eo72|(injection eo72 with ea_ en_ ec_;(first|subst ea_|(injection ea_ with ea_;subst ea_));subst ec_;clear en_));have GB72:=ak gb72;have GG72:=ak HG72;clear gb72 gl72 HG72;obtain⟨ce72,hcl72,hM72,hcc72,hfr72⟩:=Kd.N_elem HO695.out z34 (t698:Int) p72 q72;obtain⟨ua72_4,uc72_4,rfl,ul72_4,ge72_4⟩:=k34_openF hM72;have hx72_0:w77.cell? ⟨go72,(t698:Int).toNat*5,none⟩=some (.int .i64 ((rd_T34 t693 t698).f0)):=hcc72 0 _ rfl;have hx72_1:w77.cell? ⟨go72,(t698:Int).toNat*5+1,none⟩=some (.int .i64 ((rd_T34 t693 t698).f1)):=hcc72 1 _ rfl;have hx72_2:w77.cell? ⟨go72,(t698:Int).toNat*5+2,none⟩=some (.int .i64 ((rd_T34 t693 t698).f2)):=hcc72 2 _ rfl;have hx72_3:w77.cell? ⟨go72,(t698:Int).toNat*5+3,none⟩=some (.string ((rd_T34 t693 t698).f3)):=hcc72 3 _ rfl;have hx72_4:w77.cell? ⟨go72,(t698:Int).toNat*5+4,none⟩=some (.slice ua72_4 ((rd_T34 t693 t698).f4).length uc72_4):=hcc72 4 _ rfl;have hf72_0:w77.frozen? ⟨go72,(t698:Int).toNat*5,none⟩=false:=hfr72 0;have hf72_1:w77.frozen? ⟨go72,(t698:Int).toNat*5+1,none⟩=false:=hfr72 1;have hf72_2:w77.frozen? ⟨go72,(t698:Int).toNat*5+2,none⟩=false:=hfr72 2;have hf72_3:w77.frozen? ⟨go72,(t698:Int).toNat*5+3,none⟩=false:=hfr72 3;have hf72_4:w77.frozen? ⟨go72,(t698:Int).toNat*5+4,none⟩=false:=hfr72 4;clear hcl72 hcc72 hfr72 hM72;replace p72:=eq_true p72;replace q72:=eq_true q72;have n_:=ak (Kd.N_mono (ok':=(fun k_=>(w.heap.size≤k_)∧some k_≠((Value.slice Ax_ t732.length cx_):Value).ownBlock)) HO695.out (fun k_ hk=>⟨hk.1.1,hk.2⟩));clear HO695;have HO695:=n_;clear n_;have HX78:=ak (show Kd.N k34 34 w77 w.heap.size (fun k_=>(w.heap.size≤k_)) (.slice (some ⟨go72,0,none⟩) t693.length co74) t693 from (z51_ HO695));obtain⟨ce78,hcl78,hM78,hcc78,hfr78⟩:=Kd.N_elem HX78.out z34 (t698:Int) (od_) (by have h_:(t698:Int)<((t693.length:Int):Int):=od_;first|exact h_|(have e_:=z172_ HO695;omega)|simpa using h_);obtain⟨ua78_4,uc78_4,rfl,ul78_4,ge78_4⟩:=k34_openF hM78;have HP78:=Kd.N_seg HX78.out (t698:Int) (od_) (by have h_:(t698:Int)<((t693.length:Int):Int):=od_;first|exact h_|(have e_:=z172_ HO695;omega)|simpa using h_) (seg:=[(Value.slice Ax_ t732.length cx_)]) (j:=4) hcl78 hcc78 (show 5≤5 from by decide) (x':=(⟨(rd_T34 t693 t698).f0,(rd_T34 t693 t698).f1,(rd_T34 t693 t698).f2,(rd_T34 t693 t698).f3,t732⟩:S34)) (k34_mkF _ _ (⟨(rd_T34 t693 t698).f0,(rd_T34 t693 t698).f1,(rd_T34 t693 t698).f2,(rd_T34 t693 t698).f3,t732⟩:S34) (Kd.R_reads' (Kd.R_mono (ok':=(fun k_=>((fun k_=>(w.heap.size≤k_))) k_∧k_≠go72)) (Kd.R_apart' (HO734.out) (Kd.N_typed HO695.out) (by decide)) (fun k_ hk=>⟨hk.1.1,fun e_=>(hk.2) (by rw [e_];rfl)⟩))).2.1 (Kd.R_F (Kd.R_mono (ok':=(fun k_=>((fun k_=>(w.heap.size≤k_))) k_∧k_≠go72)) (Kd.R_apart' (HO734.out) (Kd.N_typed HO695.out) (by decide)) (fun k_ hk=>⟨hk.1.1,fun e_=>(hk.2) (by rw [e_];rfl)⟩)))) (fun _ hk=>hk);have hx78_4:=hcc78 4 _ rfl;(try simp only[show (k34).sz=5 from rfl,Nat.mul_one,Nat.add_zero] at hx78_4);have hf78_4:=hfr78 4;(try simp only[show (k34).sz=5 from rfl,Nat.mul_one,Nat.add_zero] at hf78_4);clear hcl78 hcc78 hfr78 hM78)|((with_reducible refine gate_store (t:=32) (p:=60) rfl ?_);refine store_event (t:=32) (p:=60) (v:=?vo_w79) (w1:=(w77.setCell ⟨go72,(t698:Int).toNat*5+4,none⟩ ((Value.slice Ax_ t732.length cx_)))) ?hg ?ho ?hn ?hr ?_;(case ho=>rfl);(case hg=>rfl);(case hn=>rfl);(case hr=>exact z39_);intro w79 hw;have hg:w77.grownBy w79 (some go72):=(by rw [hw];exact HP78.2);have hp_:Kd.N k34 34 w79 w.heap.size (fun k_=>(w.heap.size≤k_)) (.slice (some ⟨go72,0,none⟩) t693.length co74) y737:=(by rw [hw,Ny737.out];exact HP78.1);clear HP78;have n0_:=z234_ HO695;have n1_:=ak (hp_);have n2_:=ak ((by rw [hw];exact below_set (HB.out) (Nat.le_trans HL.out GB72.out):Below w0.heap.size w0 w79));have n3_:=z261_ HO695;clear HI0;clear HO695;clear HB;clear HK;clear HO734;have HI0:=n0_;have HO695:=n1_;have HB:=n2_;have HK:=n3_;clear n0_ n1_ n2_ n3_;clear hg hw hp_))
 go_ret
 exact⟨_,Hd.e_,z3_ HO695,z1_,z2_,z0_⟩
def spec_l9One.f (k:Nat) (s0_0:List Int) (s0_1:Int) (s0_2:Int):Option (Int × Int × Int × ByteArray × (List (S75)) × Int × Int):=(spec_l9Any.f k s0_0 s0_1 s0_2).bind fun bt739=>(if (bt739.1.length:Int)=0 then (some (0,0,0,(⟨#[]⟩:ByteArray),([]:List (S75)),bt739.2.1,bt739.2.2)) else (if 0<(bt739.1.length:Int) then (some ((rd_T34 bt739.1 0).f0,(rd_T34 bt739.1 0).f1,(rd_T34 bt739.1 0).f2,(rd_T34 bt739.1 0).f3,(rd_T34 bt739.1 0).f4,bt739.2.1,bt739.2.2)) else (none)))
theorem spec_l9One.calls (k:Nat) (g:Nat) (s0_0:List Int) (s0_1:Int) (s0_2:Int) (r1:Int) (r2:Int) (r3:Int) (r4:ByteArray) (r5:List (S75)) (r6:Int) (r7:Int) (w0 w:World) (hI:IsS89 w0 w g s0_0 s0_1 s0_2) (hB:Below w0.heap.size w0 w) (h:spec_l9One.f k s0_0 s0_1 s0_2=some (r1,r2,r3,r4,r5,r6,r7)) :
  Calls Try.prog 47 #[.pointer (some ⟨g,0,none⟩)] w fun e w'=>∃ v4_:Value,e = .returned (.agg #[.int .i64 r1,.int .i64 r2,.int .i64 r3,.string r4,v4_])∧Kd.V k75 75 w' w.heap.size (fun k_=>(w.heap.size≤k_)) v4_ r5∧IsS89 w0 w' g s0_0 r6 r7∧Below w0.heap.size w0 w'∧KeepBut w w' g none:=by
 have hu34:=Try.underlying34
 have HI0:=ak hI
 have HK:=z115_
 have HL:=ak hB.size
 clear hI
 have HW0:=ak hB.size
 have HB:=ak hB
 clear hB
 have H:=h;clear h;unfold spec_l9One.f at H
 replace H:=Hd.bd_ H;obtain⟨⟨t739,t742,t743⟩,A2,H⟩:=H;dsimp only at H
 by_cases c3:(t739.length:Int)=0
 ·
  rw [if_pos c3] at H
  have c3b0:=beq_iff_eq.mpr c3
  have c3b1:=bne_eq_false_iff_eq.mpr c3
  clear c3
  simp only[Option.some.injEq,Prod.mk.injEq] at H
  obtain⟨rfl,rfl,rfl,rfl,rfl,rfl,rfl⟩:=H
  go_enter Try.func47,Try.ntmps47
  go_wp2_with (first|((with_reducible refine gate_dst (N:=2) rfl ?_);refine Hd.box_ 2 (#[.int .i64 0,.int .i64 0,.int .i64 0,.string (⟨#[]⟩:ByteArray),.slice none 0 0]) 34 ?_;intro gb738 hg w4 hbox hb;replace HB:=z225_;have BK738:=ak (hbox);have GW738:=ak ((z221_:w.heap.size≤gb738));have GE738:=ak ((Nat.le_trans HW0.out (z221_:w.heap.size≤gb738):w0.heap.size≤gb738));replace HK:=z217_;have NB0_738:=ak ((z32_:g≠gb738));have NB738_0:=ak ((z33_:gb738≠g));replace HI0:=z224_;clear hb hbox hg)|((with_reducible refine gate_callee (f:=46) rfl ?_);refine Hd.gl_ 5 Try.func46 #[.pointer (some ⟨g,0,none⟩)] ?_;(with_reducible refine(spec_l9Any.calls k g s0_0 s0_1 s0_2 t739 t742 t743 w0 _ ?side1 ?side2 A2.out).mono ?_);(case side1=>exact z7_ NB0_738);(case side2=>exact z9_ GE738);rintro e w5 ⟨v740,rfl,ho0,hi,hb,hk⟩;refine⟨_,rfl,?_⟩;have HO741:=z235_;replace BK738:=z197_ NB738_0;replace HK:=ak (KeepBut.trans (z4_ GW738) hk (.inl rfl));replace HB:=ak (hb);replace HI0:=ak (hi);clear hb hk hi ho0;obtain⟨Ao6,co6,eo6⟩:=Kd.N_slice HO741.out;subst eo6;have hnb7:=NB738_0.out;have hnc7:=NB0_738.out;obtain⟨hcz8_0,hcz8_1,hcz8_2,hcz8_3,hcz8_4⟩:=Hd.c5_ BK738.out;obtain⟨hfz8_0,hfz8_1,hfz8_2,hfz8_3,hfz8_4⟩:=Hd.f5_ BK738.out))
  refine bodyPost_ret (results_cell_row rfl _ _ gb738 34 #[.int .i64 0,.int .i64 0,.int .i64 0,.string (⟨#[]⟩:ByteArray),.slice none 0 0] (0,0) _ rfl (by (with_reducible repeat (first|refine blk_drewN ?_ _|refine blk_drew ?_|refine blk_alloc ?_ _));refine blk_put (cs:=#[.int .i64 0,.int .i64 0,.int .i64 0,.string (⟨#[]⟩:ByteArray),.slice none 0 0]) ?_ 4 _ rfl;(with_reducible repeat (first|refine blk_drewN ?_ _|refine blk_drew ?_|refine blk_alloc ?_ _));refine blk_put (cs:=#[.int .i64 0,.int .i64 0,.int .i64 0,.string (⟨#[]⟩:ByteArray),.slice none 0 0]) ?_ 3 _ rfl;(with_reducible repeat (first|refine blk_drewN ?_ _|refine blk_drew ?_|refine blk_alloc ?_ _));refine blk_put (cs:=#[.int .i64 0,.int .i64 0,.int .i64 0,.string (⟨#[]⟩:ByteArray),.slice none 0 0]) ?_ 2 _ rfl;(with_reducible repeat (first|refine blk_drewN ?_ _|refine blk_drew ?_|refine blk_alloc ?_ _));refine blk_put (cs:=#[.int .i64 0,.int .i64 0,.int .i64 0,.string (⟨#[]⟩:ByteArray),.slice none 0 0]) ?_ 1 _ rfl;(with_reducible repeat (first|refine blk_drewN ?_ _|refine blk_drew ?_|refine blk_alloc ?_ _));refine blk_put (cs:=#[.int .i64 0,.int .i64 0,.int .i64 0,.string (⟨#[]⟩:ByteArray),.slice none 0 0]) ?_ 0 _ rfl;(with_reducible repeat (first|refine blk_drewN ?_ _|refine blk_drew ?_|refine blk_alloc ?_ _));exact BK738.out) Try.underlying34 rfl (by kernel_rfl)) rfl ?_
  exact⟨_,Hd.e_,Kd.R_V (by first|exact Kd.R_nil _ _ _ 0 _|exact Kd.R_nil _ _ _ _ _|exact Kd.N_nil _ _ _ _ _|exact Kd.V_nil _ _ _ _ _|exact Kd.Q_nil _ _ _ _ _|exact Kd.S_nil _ _ _ _ _),z7_ NB0_738,z9_ GE738,z4_ GW738⟩
 rw [if_neg c3] at H
 have c3b0:=beq_eq_false_iff_ne.mpr c3
 have c3b1:=bne_iff_ne.mpr c3
 have c3b2:¬ (t739=[]):=fun h_=>c3 (by rw [h_];rfl)
 by_cases c9:0<(t739.length:Int);rotate_left
 ·
  rw [if_neg c9] at H
  exact absurd H (by simp)
 rw [if_pos c9] at H
 have c9b0:=decide_eq_true c9
 have c9b1:decide (0<t739.length)=true:=decide_eq_true (by omega)
 clear c9
 simp only[Option.some.injEq,Prod.mk.injEq] at H
 obtain⟨rfl,rfl,rfl,rfl,rfl,rfl,rfl⟩:=H
 go_enter Try.func47,Try.ntmps47
 go_wp2_with (first|((with_reducible refine gate_dst (N:=2) rfl ?_);refine Hd.box_ 2 (#[.int .i64 0,.int .i64 0,.int .i64 0,.string (⟨#[]⟩:ByteArray),.slice none 0 0]) 34 ?_;intro gb738 hg w10 hbox hb;replace HB:=z225_;have BK738:=ak (hbox);have GW738:=ak ((z221_:w.heap.size≤gb738));have GE738:=ak ((Nat.le_trans HW0.out (z221_:w.heap.size≤gb738):w0.heap.size≤gb738));replace HK:=z217_;have NB0_738:=ak ((z32_:g≠gb738));have NB738_0:=ak ((z33_:gb738≠g));replace HI0:=z224_;clear hb hbox hg)|((with_reducible refine gate_callee (f:=46) rfl ?_);refine Hd.gl_ 5 Try.func46 #[.pointer (some ⟨g,0,none⟩)] ?_;(with_reducible refine(spec_l9Any.calls k g s0_0 s0_1 s0_2 t739 t742 t743 w0 _ ?side1 ?side2 A2.out).mono ?_);(case side1=>exact z7_ NB0_738);(case side2=>exact z9_ GE738);rintro e w11 ⟨v740,rfl,ho0,hi,hb,hk⟩;refine⟨_,rfl,?_⟩;have HO741:=z235_;replace BK738:=z197_ NB738_0;replace HK:=ak (KeepBut.trans (z4_ GW738) hk (.inl rfl));replace HB:=ak (hb);replace HI0:=ak (hi);clear hb hk hi ho0;obtain⟨Ao12,co12,eo12⟩:=Kd.N_slice HO741.out;subst eo12;have p744:0≤(0:Int):=(by omega);have q744:0<(t739.length:Int):=od_;obtain⟨ad744,A744_4,c744_4,e744,hx744_0,hx744_1,hx744_2,hx744_3,hx744_4,hl744_4,hi744_4⟩:=at_T34 (Kd.N_reads' HO741.out).2.2 0 p744 q744;cases e744;obtain⟨ce744,hce744,hMe744,hcc744⟩:=Kd.N_get HO741.out z34 0 p744 (by first|exact q744|exact od_|(have e_:=z172_ HO741;omega));obtain⟨ua744_4,uc744_4,rfl,ul744_4,ge744_4⟩:=k34_openF hMe744;have hv744_4:=hcc744 4 _ rfl;rw [add_field _ _ 4 (by omega)] at hv744_4;replace hv744_4:=Option.some.inj (hv744_4.symm.trans hx744_4);injection hv744_4 with hva_ hvn_ hvc_;rw [hva_] at ge744_4;rw [hvc_] at ul744_4;have HL744_4:=ak (show Kd.V k75 75 _ w.heap.size _ _ ((rd_T34 t739 0).f4) from Kd.V_mk ul744_4 ge744_4);clear hva_ hvn_ hvc_ ge744_4 ul744_4;clear hcc744 hce744;have qi744:(0<t739.length)=True:=eq_true (by omega);(try rw [show ((0:Int)).toNat=0 from rfl] at hx744_0);(try rw [show 0*5=0 from rfl] at hx744_0);(try rw [Addr.add_zero'] at hx744_0);(try rw [show ((0:Int)).toNat=0 from rfl] at hx744_1);(try rw [show 0*5=0 from rfl] at hx744_1);(try rw [Addr.add_zero'] at hx744_1);(try rw [show ((0:Int)).toNat=0 from rfl] at hx744_2);(try rw [show 0*5=0 from rfl] at hx744_2);(try rw [Addr.add_zero'] at hx744_2);(try rw [show ((0:Int)).toNat=0 from rfl] at hx744_3);(try rw [show 0*5=0 from rfl] at hx744_3);(try rw [Addr.add_zero'] at hx744_3);(try rw [show ((0:Int)).toNat=0 from rfl] at hx744_4);(try rw [show 0*5=0 from rfl] at hx744_4);(try rw [Addr.add_zero'] at hx744_4);have HR744_4:=ak hi744_4;have HC744_4:=ak hl744_4;clear hi744_4 hl744_4;replace p744:=eq_true p744;replace q744:=eq_true q744;have hnb13:=NB738_0.out;have hnc13:=NB0_738.out;obtain⟨hcz14_0,hcz14_1,hcz14_2,hcz14_3,hcz14_4⟩:=Hd.c5_ BK738.out;obtain⟨hfz14_0,hfz14_1,hfz14_2,hfz14_3,hfz14_4⟩:=Hd.f5_ BK738.out))
 refine bodyPost_ret (results_cell_row rfl _ _ gb738 34 #[.int .i64 ((rd_T34 t739 0).f0),.int .i64 ((rd_T34 t739 0).f1),.int .i64 ((rd_T34 t739 0).f2),.string ((rd_T34 t739 0).f3),.slice A744_4 ((rd_T34 t739 0).f4).length c744_4] (0,0) _ rfl (by (with_reducible repeat (first|refine blk_drewN ?_ _|refine blk_drew ?_|refine blk_alloc ?_ _));refine blk_put (cs:=#[.int .i64 ((rd_T34 t739 0).f0),.int .i64 ((rd_T34 t739 0).f1),.int .i64 ((rd_T34 t739 0).f2),.string ((rd_T34 t739 0).f3),.slice none 0 0]) ?_ 4 _ rfl;(with_reducible repeat (first|refine blk_drewN ?_ _|refine blk_drew ?_|refine blk_alloc ?_ _));refine blk_put (cs:=#[.int .i64 ((rd_T34 t739 0).f0),.int .i64 ((rd_T34 t739 0).f1),.int .i64 ((rd_T34 t739 0).f2),.string (⟨#[]⟩:ByteArray),.slice none 0 0]) ?_ 3 _ rfl;(with_reducible repeat (first|refine blk_drewN ?_ _|refine blk_drew ?_|refine blk_alloc ?_ _));refine blk_put (cs:=#[.int .i64 ((rd_T34 t739 0).f0),.int .i64 ((rd_T34 t739 0).f1),.int .i64 0,.string (⟨#[]⟩:ByteArray),.slice none 0 0]) ?_ 2 _ rfl;(with_reducible repeat (first|refine blk_drewN ?_ _|refine blk_drew ?_|refine blk_alloc ?_ _));refine blk_put (cs:=#[.int .i64 ((rd_T34 t739 0).f0),.int .i64 0,.int .i64 0,.string (⟨#[]⟩:ByteArray),.slice none 0 0]) ?_ 1 _ rfl;(with_reducible repeat (first|refine blk_drewN ?_ _|refine blk_drew ?_|refine blk_alloc ?_ _));refine blk_put (cs:=#[.int .i64 0,.int .i64 0,.int .i64 0,.string (⟨#[]⟩:ByteArray),.slice none 0 0]) ?_ 0 _ rfl;(with_reducible repeat (first|refine blk_drewN ?_ _|refine blk_drew ?_|refine blk_alloc ?_ _));exact BK738.out) Try.underlying34 rfl (by kernel_rfl)) rfl ?_
 exact⟨_,Hd.e_,by (with_reducible repeat (first|apply Kd.V_alloc|apply Kd.V_drewN|apply Kd.V_drew));exact Kd.V_mono (Kd.V_far (p:=⟨gb738,4,none⟩) (Kd.V_far (p:=⟨gb738,3,none⟩) (Kd.V_far (p:=⟨gb738,2,none⟩) (Kd.V_far (p:=⟨gb738,1,none⟩) (Kd.V_far (p:=⟨gb738,0,none⟩) (Kd.V_mono HL744_4.out (fun k_ hk=>(⟨hk,hk.1.2.1⟩:_∧k_≠gb738))) (fun _ hk=>hk.2) (.int .i64 ((rd_T34 t739 0).f0))) (fun _ hk=>hk.2) (.int .i64 ((rd_T34 t739 0).f1))) (fun _ hk=>hk.2) (.int .i64 ((rd_T34 t739 0).f2))) (fun _ hk=>hk.2) (.string ((rd_T34 t739 0).f3))) (fun _ hk=>hk.2) (.slice A744_4 ((rd_T34 t739 0).f4).length c744_4)) (fun _ hk=>hk.1.1.1),z7_ NB0_738,z9_ GE738,z4_ GW738⟩
def spec_l1Once.f (s0_0:List Int) (s0_1:Int) (s0_2:Int) (a1:Int):Option (Bool × Int × Int):=(spec_l1Below.f s0_0 s0_1 s0_2 a1).bind fun bt745=>(some ((bt745.1==0),bt745.2.1,bt745.2.2))
theorem spec_l1Once.calls (g:Nat) (s0_0:List Int) (s0_1:Int) (s0_2:Int) (a1:Int) (r1:Bool) (r2:Int) (r3:Int) (w0 w:World) (hI:IsS89 w0 w g s0_0 s0_1 s0_2) (hB:Below w0.heap.size w0 w) (h:spec_l1Once.f s0_0 s0_1 s0_2 a1=some (r1,r2,r3)) :
  Calls Try.prog 48 #[.pointer (some ⟨g,0,none⟩),.int .i64 a1] w fun e w'=>e = .returned (.bool r1)∧IsS89 w0 w' g s0_0 r2 r3∧Below w0.heap.size w0 w'∧KeepBut w w' g none:=by
 have HI0:=ak hI
 have HK:=z115_
 have HL:=ak hB.size
 clear hI
 have HW0:=ak hB.size
 have HB:=ak hB
 clear hB
 have H:=h;clear h;unfold spec_l1Once.f at H
 replace H:=Hd.bd_ H;obtain⟨⟨t745,t746,t747⟩,A3,H⟩:=H;dsimp only at H
 simp only[Option.some.injEq,Prod.mk.injEq] at H
 obtain⟨rfl,rfl,rfl⟩:=H
 go_enter Try.func48,Try.ntmps48
 go_wp2_with (first|((with_reducible refine gate_callee (f:=49) rfl ?_);refine Hd.gl_ 7 Try.func49 #[.pointer (some ⟨g,0,none⟩),.int .i64 a1] ?_;(with_reducible refine(spec_l1Below.calls g s0_0 s0_1 s0_2 a1 t745 t746 t747 w0 _ ?side1 ?side2 A3.out).mono ?_);(case side1=>exact z1_);(case side2=>exact z2_);rintro e w4 ⟨rfl,hi,hb,hk⟩;refine⟨_,rfl,?_⟩;replace HK:=z218_;replace HB:=ak (hb);replace HI0:=ak (hi);clear hb hk hi))
 go_ret
 exact⟨Hd.e_,z1_,z2_,z0_⟩
def spec_DrawPutFeature.f (k:Nat) (l0:List Int):Option ((List (S34)) × Int × Int × Int × ByteArray × (List (S75))):=(spec_l1New.f k l0).bind fun bt749=>((spec_l9Any.f k bt749.1 bt749.2.1 bt749.2.2).bind fun bt753=>((spec_l9One.f k bt749.1 bt753.2.1 bt753.2.2).bind fun bt758=>((spec_l1Once.f bt749.1 bt758.2.2.2.2.2.1 bt758.2.2.2.2.2.2 2).bind fun bt768=>(if bt768.1=true then ((spec_l1Below.f bt749.1 bt768.2.1 bt768.2.2 20).bind fun bt771=>(some (bt753.1,wrap64 (1+bt771.1),bt758.2.1,bt758.2.2.1,bt758.2.2.2.1,bt758.2.2.2.2.1))) else (some (bt753.1,bt758.1,bt758.2.1,bt758.2.2.1,bt758.2.2.2.1,bt758.2.2.2.2.1))))))
theorem spec_DrawPutFeature.calls (k:Nat) (A0:Option Addr) (c0:Nat) (l0:List Int) (r1:List (S34)) (r2:Int) (r3:Int) (r4:Int) (r5:ByteArray) (r6:List (S75)) (w:World) (hr0:Kd.C (Kd.int .u8) w A0 l0.length l0) (hc0:l0.length≤c0) (h:spec_DrawPutFeature.f k l0=some (r1,r2,r3,r4,r5,r6)) :
  Calls Try.prog 19 #[.slice A0 l0.length c0] w fun e w'=>∃ v0_ v5_:Value,e = .returned (.tuple #[v0_,.agg #[.int .i64 r2,.int .i64 r3,.int .i64 r4,.string r5,v5_]])∧Kd.N k34 34 w' w.heap.size (fun k_=>(w.heap.size≤k_)) v0_ r1∧Kd.V k75 75 w' w.heap.size (fun k_=>(w.heap.size≤k_)∧some k_≠(v0_:Value).ownBlock) v5_ r6∧Below w.heap.size w w':=by
 have hu34:=Try.underlying34
 have HR0:=ak hr0
 have HC0:=ak hc0
 clear hr0 hc0
 have HB:=z52_
 have H:=h;clear h;unfold spec_DrawPutFeature.f at H
 replace H:=Hd.bd_ H;obtain⟨⟨t749,t750,t751⟩,A2,H⟩:=H;dsimp only at H
 replace H:=Hd.bd_ H;obtain⟨⟨t753,t756,t757⟩,A3,H⟩:=H;dsimp only at H
 replace H:=Hd.bd_ H;obtain⟨⟨t758,t759,t760,t761,t762,t765,t766⟩,A4,H⟩:=H;dsimp only at H
 replace H:=Hd.bd_ H;obtain⟨⟨t768,t769,t770⟩,A5,H⟩:=H;dsimp only at H
 by_cases c6:t768=true;rotate_left
 ·
  replace c6:=Bool.eq_false_iff.mpr c6
  subst c6
  rw [if_neg (show ¬ (false=true) by decide)] at H
  simp only[Option.some.injEq,Prod.mk.injEq] at H
  obtain⟨rfl,rfl,rfl,rfl,rfl,rfl⟩:=H
  go_enter Try.func19,Try.ntmps19
  try go_wp2_with (first|((with_reducible refine gate_dst (N:=3) rfl ?_);refine Hd.box_ 3 (#[.int .i64 0,.int .i64 0,.int .i64 0,.string (⟨#[]⟩:ByteArray),.slice none 0 0]) 34 ?_;intro gb748 hg w27 hbox hb;have BK748:=ak (hbox);have GW748:=z205_;have GE748:=z205_;replace HB:=z17_;clear hb hbox hg)|((with_reducible refine gate_callee (f:=45) rfl ?_);refine Hd.gl_ 8 Try.func45 #[.slice A0 l0.length c0] ?_;(with_reducible refine(spec_l1New.calls k _ _ l0 t749 t750 t751 w _ ?side1 ?side2 ?side3 A2.out).mono ?_);(case side1=>exact z211_ GE748);(case side2=>exact HR0.out);(case side3=>exact HC0.out);rintro e w28 ⟨g752,rfl,hi,hb,hb2⟩;refine⟨_,rfl,?_⟩;replace HB:=ak (hb);have HI752:=ak (hi);have NB752_748:=z159_;have NB748_752:=z156_;replace BK748:=z167_;clear hb hi)|((with_reducible refine gate_callee (f:=46) rfl ?_);refine Hd.gl_ 10 Try.func46 #[.pointer (some ⟨g752,0,none⟩)] ?_;(with_reducible refine(spec_l9Any.calls k g752 t749 t750 t751 t753 t756 t757 w _ ?side1 ?side2 A3.out).mono ?_);(case side1=>exact z35_ NB752_748);(case side2=>exact z23_ GE748);rintro e w29 ⟨v754,rfl,ho0,hi,hb,hk⟩;refine⟨_,rfl,?_⟩;have HO755:=z236_;replace BK748:=z78_ NB748_752;replace HB:=ak (hb);replace HI752:=ak (hi);clear hb hk hi ho0)|((with_reducible refine gate_callee (f:=47) rfl ?_);refine Hd.gl_ 12 Try.func47 #[.pointer (some ⟨g752,0,none⟩)] ?_;(with_reducible refine(spec_l9One.calls k g752 t749 t756 t757 t758 t759 t760 t761 t762 t765 t766 w _ ?side1 ?side2 A4.out).mono ?_);(case side1=>exact z35_ NB752_748);(case side2=>exact z23_ GE748);rintro e w30 ⟨v763,rfl,ho0,hi,hb,hk⟩;refine⟨_,rfl,?_⟩;have HO764:=z232_;replace BK748:=z78_ NB748_752;replace HO755:=z266_;replace HB:=ak (hb);replace HI752:=ak (hi);clear hb hk hi ho0)|((with_reducible refine gate_dst (N:=6) rfl ?_);refine Hd.box_ 6 (#[.int .i64 0,.int .i64 0,.int .i64 0,.string (⟨#[]⟩:ByteArray),.slice none 0 0]) 34 ?_;intro gb767 hg w31 hbox hb;replace HO755:=ak (Kd.N_below (Kd.N_elderB (z3_ HO755) gb767 (Nat.le_of_eq hg.symm)) hb);replace HO764:=ak (Kd.V_below (Kd.V_elderB (z5_ HO764) gb767 (Nat.le_of_eq hg.symm)) hb);have BK767:=ak (hbox);have GW767:=z262_;have GE767:=z262_;replace HB:=ak (below_step (z23_ GE748) hb);have NB748_767:=ak ((Hd.lt_ BK748 hg));have NB767_748:=ak ((Hd.gt_ BK748 hg));replace BK748:=ak (Hd.kb_ BK748 hb);have NB752_767:=ak ((z126_ NB752_748:g752≠gb767));have NB767_752:=ak ((z127_ NB752_748:gb767≠g752));replace HI752:=ak (IsS89.below (z35_ NB752_748) hb);clear hb hbox hg;have hnb32:=NB767_748.out;have hnc32:=NB748_767.out;have hnb33:=NB767_752.out;have hnc33:=NB752_767.out;obtain⟨hcz34_0,hcz34_1,hcz34_2,hcz34_3,hcz34_4⟩:=Hd.c5_ BK767.out;obtain⟨hfz34_0,hfz34_1,hfz34_2,hfz34_3,hfz34_4⟩:=Hd.f5_ BK767.out;obtain⟨Ao35,co35,eo35⟩:=Kd.V_slice HO764.out;subst eo35)|((with_reducible refine gate_callee (f:=48) rfl ?_);refine Hd.gl_ 14 Try.func48 #[.pointer (some ⟨g752,0,none⟩),.int .i64 2] ?_;(with_reducible refine(spec_l1Once.calls g752 t749 t765 t766 2 false t769 t770 w _ ?side1 ?side2 A5.out).mono ?_);(case side1=>exact z79_ NB752_748 NB752_767);(case side2=>exact z59_ GE748 GE767);rintro e w36 ⟨rfl,hi,hb,hk⟩;refine⟨_,rfl,?_⟩;replace BK748:=z282_ NB748_752;replace HO755:=ak (Kd.N_mono (Kd.N_keep (Kd.N_mono (ok:=fun k_=>((((w.heap.size≤k_))∧(k_≠gb748∧k_≠g752))∧k_≠gb767)) (by (with_reducible repeat (first|apply Kd.N_alloc|apply Kd.N_drewN|apply Kd.N_drew));exact(Kd.N_mono (Kd.N_far (p:=⟨gb767,4,none⟩) (Kd.N_far (p:=⟨gb767,3,none⟩) (Kd.N_far (p:=⟨gb767,2,none⟩) (Kd.N_far (p:=⟨gb767,1,none⟩) (Kd.N_far (p:=⟨gb767,0,none⟩) (Kd.N_mono HO755.out (fun k_ hk=>(⟨hk,hk.2⟩:_∧k_≠gb767))) (fun _ hk=>hk.2) (.int .i64 t758)) (fun _ hk=>hk.2) (.int .i64 t759)) (fun _ hk=>hk.2) (.int .i64 t760)) (fun _ hk=>hk.2) (.string t761)) (fun _ hk=>hk.2) (.slice Ao35 t762.length co35)) (fun _ h_=>h_.1))) (fun k_ hk_=>(⟨hk_,hk_.1.2.2⟩:_∧k_≠g752))) hk (fun _ h=>h.2)) (fun _ h=>h.1));replace HO764:=ak (Kd.V_mono (Kd.V_keep (Kd.V_mono (ok:=fun k_=>((((w.heap.size≤k_))∧(some k_≠(v754:Value).ownBlock∧(k_≠gb748∧k_≠g752)))∧k_≠gb767)) (by (with_reducible repeat (first|apply Kd.V_alloc|apply Kd.V_drewN|apply Kd.V_drew));exact(Kd.V_mono (Kd.V_far (p:=⟨gb767,4,none⟩) (Kd.V_far (p:=⟨gb767,3,none⟩) (Kd.V_far (p:=⟨gb767,2,none⟩) (Kd.V_far (p:=⟨gb767,1,none⟩) (Kd.V_far (p:=⟨gb767,0,none⟩) (Kd.V_mono HO764.out (fun k_ hk=>(⟨hk,hk.2⟩:_∧k_≠gb767))) (fun _ hk=>hk.2) (.int .i64 t758)) (fun _ hk=>hk.2) (.int .i64 t759)) (fun _ hk=>hk.2) (.int .i64 t760)) (fun _ hk=>hk.2) (.string t761)) (fun _ hk=>hk.2) (.slice Ao35 t762.length co35)) (fun _ h_=>h_.1))) (fun k_ hk_=>(⟨hk_,hk_.1.2.2.2⟩:_∧k_≠g752))) hk (fun _ h=>h.2)) (fun _ h=>h.1));replace BK767:=ak (KeepBut.blk hk (g':=gb767) (o:=.cells #[.int .i64 t758,.int .i64 t759,.int .i64 t760,.string t761,.slice Ao35 t762.length co35] 34 (0,0)) (z30_ BK767) NB767_752.out (by simp));replace HB:=ak (hb);replace HI752:=ak (hi);clear hb hk hi))
  replace HO755:=ak (Kd.N_drew HO755.out)
  replace HO764:=z165_ HO764
  replace BK748:=z65_ BK748
  replace BK767:=z65_ BK767
  replace HI752:=ak (IsS89.drew HI752.out)
  replace HB:=z42_
  refine start_ (n:=4) (S:=fun w'=>w'.cell? ⟨gb767,0,none⟩=some (.int .i64 t758)∧w'.cell? ⟨gb767,1,none⟩=some (.int .i64 t759)∧w'.cell? ⟨gb767,2,none⟩=some (.int .i64 t760)∧w'.cell? ⟨gb767,3,none⟩=some (.string t761)∧w'.cell? ⟨gb767,4,none⟩=some (.slice Ao35 t762.length co35)) (ds:=[]) #[Z,Z,Z,Z] (by kernel_rfl) rfl rfl ⟨(blk_cell BK767.out 0).trans rfl,(blk_cell BK767.out 1).trans rfl,(blk_cell BK767.out 2).trans rfl,(blk_cell BK767.out 3).trans rfl,(blk_cell BK767.out 4).trans rfl⟩ (fun hHeld=>?_)
  generalize w36.drew=w37 at HO755 HO764 BK748 BK767 HI752 HB hHeld ⊢
  refine pure_ (i:=0) (N:=some 19) (v:=?_) (a':=?_) #[Y,Z,Z,Z] rfl rfl (by kernel_rfl) (fun _ _ _ h=>h) (Or.inl ⟨by rfl,?_⟩) ?_ ?_
  rotate_left
  ·
   intro w'
   go_simp
   with_reducible rfl
  rotate_left
  ·
   simp only[Act.put,List.setIfInBounds_toArray,List.set_cons_zero,List.set_cons_succ,i64_w,i32_w]
   rfl
  refine pure_ (i:=2) (N:=some 2) (v:=?_) (a':=?_) #[Y,Z,Y,Z] rfl rfl (by kernel_rfl) (fun _ _ _ h=>h) (Or.inl ⟨by rfl,?_⟩) ?_ ?_
  rotate_left
  ·
   intro w'
   go_simp
   with_reducible rfl
  rotate_left
  ·
   simp only[Act.put,List.setIfInBounds_toArray,List.set_cons_zero,List.set_cons_succ,i64_w,i32_w]
   rfl
  refine take_ (i:=1) (N:=some 20) (v:=?_) (a':=?_) #[Y,Y,Y,Z] rfl rfl (by kernel_rfl) (fun _ _ _ h=>h) (Or.inl ⟨by rfl,?_⟩) hHeld ?_ ?_
  rotate_left
  ·
   rintro w' ⟨s0,s1,s2,s3,s4⟩
   go_simp
   with_reducible rfl
  rotate_left
  ·
   simp only[Act.put,List.setIfInBounds_toArray,List.set_cons_zero,List.set_cons_succ,i64_w,i32_w]
   rfl
  refine one_ (i:=3) (N:=none) #[Y,Y,Y,Y] rfl rfl (by kernel_rfl) (by decide) (fun K hK=>?_)
  have hs38:w37.cell? ⟨gb748,0,none⟩=some (.int .i64 0):=(blk_cell BK748.out 0).trans rfl
  have hfs38:=blk_frozen BK748.out 0
  have hns38_1:=NB767_748.out
  have hms38_1:=NB748_767.out
  have hs39:w37.cell? ⟨gb748,1,none⟩=some (.int .i64 0):=(blk_cell BK748.out 1).trans rfl
  have hfs39:=blk_frozen BK748.out 1
  have hns39_1:=NB767_748.out
  have hms39_1:=NB748_767.out
  have hs40:w37.cell? ⟨gb748,2,none⟩=some (.int .i64 0):=(blk_cell BK748.out 2).trans rfl
  have hfs40:=blk_frozen BK748.out 2
  have hns40_1:=NB767_748.out
  have hms40_1:=NB748_767.out
  have hs41:w37.cell? ⟨gb748,3,none⟩=some (.string (⟨#[]⟩:ByteArray)):=(blk_cell BK748.out 3).trans rfl
  have hfs41:=blk_frozen BK748.out 3
  have hns41_1:=NB767_748.out
  have hms41_1:=NB748_767.out
  have hs42:w37.cell? ⟨gb748,4,none⟩=some (.slice none 0 0):=(blk_cell BK748.out 4).trans rfl
  have hfs42:=blk_frozen BK748.out 4
  have hns42_1:=NB767_748.out
  have hms42_1:=NB748_767.out
  refine skip_ (w1:=?_) (by rfl) rfl ?_ ?_
  rotate_left
  ·
   go_simp
   rfl
  refine hK.out _ _ ⟨((cell_far (p:=⟨gb748,_,none⟩) NB767_748.out _).trans (((cell_far (p:=⟨gb748,_,none⟩) NB767_748.out _).trans (((cell_far (p:=⟨gb748,_,none⟩) NB767_748.out _).trans (((cell_far (p:=⟨gb748,_,none⟩) NB767_748.out _).trans (((cell_far (p:=⟨gb748,_,none⟩) NB767_748.out _).trans (hHeld.1)))))))))),((cell_far (p:=⟨gb748,_,none⟩) NB767_748.out _).trans (((cell_far (p:=⟨gb748,_,none⟩) NB767_748.out _).trans (((cell_far (p:=⟨gb748,_,none⟩) NB767_748.out _).trans (((cell_far (p:=⟨gb748,_,none⟩) NB767_748.out _).trans (((cell_far (p:=⟨gb748,_,none⟩) NB767_748.out _).trans (hHeld.2.1)))))))))),((cell_far (p:=⟨gb748,_,none⟩) NB767_748.out _).trans (((cell_far (p:=⟨gb748,_,none⟩) NB767_748.out _).trans (((cell_far (p:=⟨gb748,_,none⟩) NB767_748.out _).trans (((cell_far (p:=⟨gb748,_,none⟩) NB767_748.out _).trans (((cell_far (p:=⟨gb748,_,none⟩) NB767_748.out _).trans (hHeld.2.2.1)))))))))),((cell_far (p:=⟨gb748,_,none⟩) NB767_748.out _).trans (((cell_far (p:=⟨gb748,_,none⟩) NB767_748.out _).trans (((cell_far (p:=⟨gb748,_,none⟩) NB767_748.out _).trans (((cell_far (p:=⟨gb748,_,none⟩) NB767_748.out _).trans (((cell_far (p:=⟨gb748,_,none⟩) NB767_748.out _).trans (hHeld.2.2.2.1)))))))))),((cell_far (p:=⟨gb748,_,none⟩) NB767_748.out _).trans (((cell_far (p:=⟨gb748,_,none⟩) NB767_748.out _).trans (((cell_far (p:=⟨gb748,_,none⟩) NB767_748.out _).trans (((cell_far (p:=⟨gb748,_,none⟩) NB767_748.out _).trans (((cell_far (p:=⟨gb748,_,none⟩) NB767_748.out _).trans (hHeld.2.2.2.2))))))))))⟩ (fun hHeld=>?_)
  clear hK K
  refine done_ (by kernel_rfl) ?_
  try go_wp2
  refine bodyPost_ret (results_tc rfl _ _ gb748 34 #[.int .i64 t758,.int .i64 t759,.int .i64 t760,.string t761,.slice Ao35 t762.length co35] (0,0) _ rfl (z30_ BK748) Try.underlying34 rfl (by kernel_rfl)) rfl ?_
  exact⟨_,_,Hd.e_,by (with_reducible repeat (first|apply Kd.N_alloc|apply Kd.N_drewN|apply Kd.N_drew));exact Kd.N_mono (Kd.N_far (p:=⟨gb748,4,none⟩) (Kd.N_far (p:=⟨gb748,3,none⟩) (Kd.N_far (p:=⟨gb748,2,none⟩) (Kd.N_far (p:=⟨gb748,1,none⟩) (Kd.N_far (p:=⟨gb748,0,none⟩) (Kd.N_mono HO755.out (fun k_ hk=>(⟨hk,hk.1.2.1⟩:_∧k_≠gb748))) (fun _ hk=>hk.2) (.int .i64 t758)) (fun _ hk=>hk.2) (.int .i64 t759)) (fun _ hk=>hk.2) (.int .i64 t760)) (fun _ hk=>hk.2) (.string t761)) (fun _ hk=>hk.2) (.slice Ao35 t762.length co35)) (fun _ hk=>hk.1.1.1),by (with_reducible repeat (first|apply Kd.V_alloc|apply Kd.V_drewN|apply Kd.V_drew));exact Kd.V_mono (Kd.V_far (p:=⟨gb748,4,none⟩) (Kd.V_far (p:=⟨gb748,3,none⟩) (Kd.V_far (p:=⟨gb748,2,none⟩) (Kd.V_far (p:=⟨gb748,1,none⟩) (Kd.V_far (p:=⟨gb748,0,none⟩) (Kd.V_mono HO764.out (fun k_ hk=>(⟨hk,hk.1.2.2.1⟩:_∧k_≠gb748))) (fun _ hk=>hk.2) (.int .i64 t758)) (fun _ hk=>hk.2) (.int .i64 t759)) (fun _ hk=>hk.2) (.int .i64 t760)) (fun _ hk=>hk.2) (.string t761)) (fun _ hk=>hk.2) (.slice Ao35 t762.length co35)) (fun _ hk=>⟨hk.1.1.1,hk.1.1.2.1⟩),z59_ GE748 GE767⟩
 subst c6
 rw [if_pos rfl] at H
 replace H:=Hd.bd_ H;obtain⟨⟨t771,t772,t773⟩,A7,H⟩:=H;dsimp only at H
 simp only[Option.some.injEq,Prod.mk.injEq] at H
 obtain⟨rfl,rfl,rfl,rfl,rfl,rfl⟩:=H
 go_enter Try.func19,Try.ntmps19
 try go_wp2_with (first|((with_reducible refine gate_dst (N:=3) rfl ?_);refine Hd.box_ 3 (#[.int .i64 0,.int .i64 0,.int .i64 0,.string (⟨#[]⟩:ByteArray),.slice none 0 0]) 34 ?_;intro gb748 hg w8 hbox hb;have BK748:=ak (hbox);have GW748:=z205_;have GE748:=z205_;replace HB:=z17_;clear hb hbox hg)|((with_reducible refine gate_callee (f:=45) rfl ?_);refine Hd.gl_ 8 Try.func45 #[.slice A0 l0.length c0] ?_;(with_reducible refine(spec_l1New.calls k _ _ l0 t749 t750 t751 w _ ?side1 ?side2 ?side3 A2.out).mono ?_);(case side1=>exact z211_ GE748);(case side2=>exact HR0.out);(case side3=>exact HC0.out);rintro e w9 ⟨g752,rfl,hi,hb,hb2⟩;refine⟨_,rfl,?_⟩;replace HB:=ak (hb);have HI752:=ak (hi);have NB752_748:=z159_;have NB748_752:=z156_;replace BK748:=z167_;(try clear hb);(try clear hb2);(try clear hi))|((with_reducible refine gate_callee (f:=46) rfl ?_);refine Hd.gl_ 10 Try.func46 #[.pointer (some ⟨g752,0,none⟩)] ?_;(with_reducible refine(spec_l9Any.calls k g752 t749 t750 t751 t753 t756 t757 w _ ?side1 ?side2 A3.out).mono ?_);(case side1=>exact z35_ NB752_748);(case side2=>exact z23_ GE748);rintro e w10 ⟨v754,rfl,ho0,hi,hb,hk⟩;refine⟨_,rfl,?_⟩;have HO755:=z236_;replace BK748:=z78_ NB748_752;replace HB:=ak (hb);replace HI752:=ak (hi);(try clear hb);(try clear hk);(try clear hi);(try clear ho0))|((with_reducible refine gate_callee (f:=47) rfl ?_);refine Hd.gl_ 12 Try.func47 #[.pointer (some ⟨g752,0,none⟩)] ?_;(with_reducible refine(spec_l9One.calls k g752 t749 t756 t757 t758 t759 t760 t761 t762 t765 t766 w _ ?side1 ?side2 A4.out).mono ?_);(case side1=>exact z35_ NB752_748);(case side2=>exact z23_ GE748);rintro e w11 ⟨v763,rfl,ho0,hi,hb,hk⟩;refine⟨_,rfl,?_⟩;have HO764:=z232_;replace BK748:=z78_ NB748_752;replace HO755:=z266_;replace HB:=ak (hb);replace HI752:=ak (hi);clear hb hk hi ho0)|((with_reducible refine gate_dst (N:=6) rfl ?_);refine Hd.box_ 6 (#[.int .i64 0,.int .i64 0,.int .i64 0,.string (⟨#[]⟩:ByteArray),.slice none 0 0]) 34 ?_;intro gb767 hg w12 hbox hb;replace HO755:=ak (Kd.N_below (Kd.N_elderB (z3_ HO755) gb767 (Nat.le_of_eq hg.symm)) hb);replace HO764:=ak (Kd.V_below (Kd.V_elderB (z5_ HO764) gb767 (Nat.le_of_eq hg.symm)) hb);have BK767:=ak (hbox);have GW767:=z262_;have GE767:=z262_;replace HB:=ak (below_step (z23_ GE748) hb);have NB748_767:=ak ((Hd.lt_ BK748 hg));have NB767_748:=ak ((Hd.gt_ BK748 hg));replace BK748:=ak (Hd.kb_ BK748 hb);have NB752_767:=ak ((z126_ NB752_748:g752≠gb767));have NB767_752:=ak ((z127_ NB752_748:gb767≠g752));replace HI752:=ak (IsS89.below (z35_ NB752_748) hb);clear hb hbox hg;have hnb13:=NB767_748.out;have hnc13:=NB748_767.out;have hnb14:=NB767_752.out;have hnc14:=NB752_767.out;obtain⟨hcz15_0,hcz15_1,hcz15_2,hcz15_3,hcz15_4⟩:=Hd.c5_ BK767.out;obtain⟨hfz15_0,hfz15_1,hfz15_2,hfz15_3,hfz15_4⟩:=Hd.f5_ BK767.out;obtain⟨Ao16,co16,eo16⟩:=Kd.V_slice HO764.out;subst eo16)|((with_reducible refine gate_callee (f:=48) rfl ?_);refine Hd.gl_ 14 Try.func48 #[.pointer (some ⟨g752,0,none⟩),.int .i64 2] ?_;(with_reducible refine(spec_l1Once.calls g752 t749 t765 t766 2 true t769 t770 w _ ?side1 ?side2 A5.out).mono ?_);(case side1=>exact z79_ NB752_748 NB752_767);(case side2=>exact z59_ GE748 GE767);rintro e w17 ⟨rfl,hi,hb,hk⟩;refine⟨_,rfl,?_⟩;replace BK748:=z282_ NB748_752;replace HO755:=ak (Kd.N_mono (Kd.N_keep (Kd.N_mono (ok:=fun k_=>((((w.heap.size≤k_))∧(k_≠gb748∧k_≠g752))∧k_≠gb767)) (by (with_reducible repeat (first|apply Kd.N_alloc|apply Kd.N_drewN|apply Kd.N_drew));exact(Kd.N_mono (Kd.N_far (p:=⟨gb767,4,none⟩) (Kd.N_far (p:=⟨gb767,3,none⟩) (Kd.N_far (p:=⟨gb767,2,none⟩) (Kd.N_far (p:=⟨gb767,1,none⟩) (Kd.N_far (p:=⟨gb767,0,none⟩) (Kd.N_mono HO755.out (fun k_ hk=>(⟨hk,hk.2⟩:_∧k_≠gb767))) (fun _ hk=>hk.2) (.int .i64 t758)) (fun _ hk=>hk.2) (.int .i64 t759)) (fun _ hk=>hk.2) (.int .i64 t760)) (fun _ hk=>hk.2) (.string t761)) (fun _ hk=>hk.2) (.slice Ao16 t762.length co16)) (fun _ h_=>h_.1))) (fun k_ hk_=>(⟨hk_,hk_.1.2.2⟩:_∧k_≠g752))) hk (fun _ h=>h.2)) (fun _ h=>h.1));replace HO764:=ak (Kd.V_mono (Kd.V_keep (Kd.V_mono (ok:=fun k_=>((((w.heap.size≤k_))∧(some k_≠(v754:Value).ownBlock∧(k_≠gb748∧k_≠g752)))∧k_≠gb767)) (by (with_reducible repeat (first|apply Kd.V_alloc|apply Kd.V_drewN|apply Kd.V_drew));exact(Kd.V_mono (Kd.V_far (p:=⟨gb767,4,none⟩) (Kd.V_far (p:=⟨gb767,3,none⟩) (Kd.V_far (p:=⟨gb767,2,none⟩) (Kd.V_far (p:=⟨gb767,1,none⟩) (Kd.V_far (p:=⟨gb767,0,none⟩) (Kd.V_mono HO764.out (fun k_ hk=>(⟨hk,hk.2⟩:_∧k_≠gb767))) (fun _ hk=>hk.2) (.int .i64 t758)) (fun _ hk=>hk.2) (.int .i64 t759)) (fun _ hk=>hk.2) (.int .i64 t760)) (fun _ hk=>hk.2) (.string t761)) (fun _ hk=>hk.2) (.slice Ao16 t762.length co16)) (fun _ h_=>h_.1))) (fun k_ hk_=>(⟨hk_,hk_.1.2.2.2⟩:_∧k_≠g752))) hk (fun _ h=>h.2)) (fun _ h=>h.1));replace BK767:=ak (KeepBut.blk hk (g':=gb767) (o:=.cells #[.int .i64 t758,.int .i64 t759,.int .i64 t760,.string t761,.slice Ao16 t762.length co16] 34 (0,0)) (z30_ BK767) NB767_752.out (by simp));replace HB:=ak (hb);replace HI752:=ak (hi);clear hb hk hi)|((with_reducible refine gate_callee (f:=49) rfl ?_);refine Hd.gl_ 16 Try.func49 #[.pointer (some ⟨g752,0,none⟩),.int .i64 20] ?_;(with_reducible refine(spec_l1Below.calls g752 t749 t769 t770 20 t771 t772 t773 w _ ?side1 ?side2 A7.out).mono ?_);(case side1=>exact z79_ NB752_748 NB752_767);(case side2=>exact z59_ GE748 GE767);rintro e w18 ⟨rfl,hi,hb,hk⟩;refine⟨_,rfl,?_⟩;replace BK748:=z78_ NB748_752;replace HO755:=ak (Kd.N_mono (Kd.N_keep (Kd.N_mono (ok:=fun k_=>((((w.heap.size≤k_))∧(k_≠gb748∧k_≠g752))∧k_≠gb767)) (z3_ HO755) (fun k_ hk_=>(⟨hk_,hk_.1.2.2⟩:_∧k_≠g752))) hk (fun _ h=>h.2)) (fun _ h=>h.1));replace HO764:=ak (Kd.V_mono (Kd.V_keep (Kd.V_mono (ok:=fun k_=>((((w.heap.size≤k_))∧(some k_≠(v754:Value).ownBlock∧(k_≠gb748∧k_≠g752)))∧k_≠gb767)) (z5_ HO764) (fun k_ hk_=>(⟨hk_,hk_.1.2.2.2⟩:_∧k_≠g752))) hk (fun _ h=>h.2)) (fun _ h=>h.1));replace BK767:=ak (KeepBut.blk hk (g':=gb767) (o:=.cells #[.int .i64 t758,.int .i64 t759,.int .i64 t760,.string t761,.slice Ao16 t762.length co16] 34 (0,0)) (Hd.k_ BK767) NB767_752.out (by simp));replace HB:=ak (hb);replace HI752:=ak (hi);clear hb hk hi;obtain⟨hcz19_0,hcz19_1,hcz19_2,hcz19_3,hcz19_4⟩:=Hd.c5_ BK767.out;obtain⟨hfz19_0,hfz19_1,hfz19_2,hfz19_3,hfz19_4⟩:=Hd.f5_ BK767.out))
 have n0_:Aside0 (Kd.N k34 34 (w18.setCell ⟨gb767,0,none⟩ (.int .i64 (wrap64 (1+t771)))) w.heap.size (fun k_=>(w.heap.size≤k_)∧k_≠gb748∧k_≠g752∧k_≠gb767) v754 t753):=⟨by (with_reducible repeat (first|apply Kd.N_alloc|apply Kd.N_drewN|apply Kd.N_drew));exact Kd.N_mono (Kd.N_far (p:=⟨gb767,0,none⟩) (Kd.N_mono HO755.out (fun k_ hk=>(⟨hk,hk.2⟩:_∧k_≠gb767))) (fun _ hk=>hk.2) (.int .i64 (wrap64 (1+t771)))) (fun _ hk=>⟨hk.1.1.1,⟨hk.1.1.2.1,⟨hk.1.1.2.2,hk.1.2⟩⟩⟩)⟩
 have n1_:Aside0 (Kd.V k75 75 (w18.setCell ⟨gb767,0,none⟩ (.int .i64 (wrap64 (1+t771)))) w.heap.size (fun k_=>(w.heap.size≤k_)∧some k_≠(v754:Value).ownBlock∧k_≠gb748∧k_≠g752∧k_≠gb767) (.slice Ao16 t762.length co16) t762):=⟨by (with_reducible repeat (first|apply Kd.V_alloc|apply Kd.V_drewN|apply Kd.V_drew));exact Kd.V_mono (Kd.V_far (p:=⟨gb767,0,none⟩) (Kd.V_mono HO764.out (fun k_ hk=>(⟨hk,hk.2⟩:_∧k_≠gb767))) (fun _ hk=>hk.2) (.int .i64 (wrap64 (1+t771)))) (fun _ hk=>⟨hk.1.1.1,⟨hk.1.1.2.1,⟨hk.1.1.2.2.1,⟨hk.1.1.2.2.2,hk.1.2⟩⟩⟩⟩)⟩
 have n2_:Aside0 ((w18.setCell ⟨gb767,0,none⟩ (.int .i64 (wrap64 (1+t771)))).heap[gb748]?=some (.cells #[.int .i64 0,.int .i64 0,.int .i64 0,.string (⟨#[]⟩:ByteArray),.slice none 0 0] 34 (0,0))):=⟨by (with_reducible repeat (first|refine blk_drewN ?_ _|refine blk_drew ?_|refine blk_alloc ?_ _));refine blk_far ?_ NB748_767.out _;(with_reducible repeat (first|refine blk_drewN ?_ _|refine blk_drew ?_|refine blk_alloc ?_ _));exact BK748.out⟩
 have n3_:Aside0 ((w18.setCell ⟨gb767,0,none⟩ (.int .i64 (wrap64 (1+t771)))).heap[gb767]?=some (.cells #[.int .i64 (wrap64 (1+t771)),.int .i64 t759,.int .i64 t760,.string t761,.slice Ao16 t762.length co16] 34 (0,0))):=⟨by (with_reducible repeat (first|refine blk_drewN ?_ _|refine blk_drew ?_|refine blk_alloc ?_ _));refine blk_put (cs:=#[.int .i64 t758,.int .i64 t759,.int .i64 t760,.string t761,.slice Ao16 t762.length co16]) ?_ 0 _ rfl;(with_reducible repeat (first|refine blk_drewN ?_ _|refine blk_drew ?_|refine blk_alloc ?_ _));exact BK767.out⟩
 have n4_:Aside0 (IsS89 w (w18.setCell ⟨gb767,0,none⟩ (.int .i64 (wrap64 (1+t771)))) g752 t749 t772 t773):=⟨z79_ NB752_748 NB752_767⟩
 have n5_:Aside0 (Below w.heap.size w (w18.setCell ⟨gb767,0,none⟩ (.int .i64 (wrap64 (1+t771))))):=⟨z59_ GE748 GE767⟩
 try clear HO755;try clear HO764;try clear BK748;try clear BK767;try clear HI752;try clear HB
 generalize (w18.setCell ⟨gb767,0,none⟩ (.int .i64 (wrap64 (1+t771))))=w20 at n0_ n1_ n2_ n3_ n4_ n5_ ⊢
 have HO755:=n0_
 have HO764:=n1_
 have BK748:=n2_
 have BK767:=n3_
 have HI752:=n4_
 have HB:=n5_
 clear n0_ n1_ n2_ n3_ n4_ n5_
 replace HO755:=ak (Kd.N_drew HO755.out)
 replace HO764:=z165_ HO764
 replace BK748:=z65_ BK748
 replace BK767:=z65_ BK767
 replace HI752:=ak (IsS89.drew HI752.out)
 replace HB:=z42_
 refine start_ (n:=4) (S:=fun w'=>w'.cell? ⟨gb767,0,none⟩=some (.int .i64 (wrap64 (1+t771)))∧w'.cell? ⟨gb767,1,none⟩=some (.int .i64 t759)∧w'.cell? ⟨gb767,2,none⟩=some (.int .i64 t760)∧w'.cell? ⟨gb767,3,none⟩=some (.string t761)∧w'.cell? ⟨gb767,4,none⟩=some (.slice Ao16 t762.length co16)) (ds:=[]) #[Z,Z,Z,Z] (by kernel_rfl) rfl rfl ⟨(blk_cell BK767.out 0).trans rfl,(blk_cell BK767.out 1).trans rfl,(blk_cell BK767.out 2).trans rfl,(blk_cell BK767.out 3).trans rfl,(blk_cell BK767.out 4).trans rfl⟩ (fun hHeld=>?_)
 generalize w20.drew=w21 at HO755 HO764 BK748 BK767 HI752 HB hHeld ⊢
 refine pure_ (i:=0) (N:=some 19) (v:=?_) (a':=?_) #[Y,Z,Z,Z] rfl rfl (by kernel_rfl) (fun _ _ _ h=>h) (Or.inl ⟨by rfl,?_⟩) ?_ ?_
 rotate_left
 ·
  intro w'
  go_simp
  with_reducible rfl
 rotate_left
 ·
  simp only[Act.put,List.setIfInBounds_toArray,List.set_cons_zero,List.set_cons_succ,i64_w,i32_w]
  rfl
 refine pure_ (i:=2) (N:=some 2) (v:=?_) (a':=?_) #[Y,Z,Y,Z] rfl rfl (by kernel_rfl) (fun _ _ _ h=>h) (Or.inl ⟨by rfl,?_⟩) ?_ ?_
 rotate_left
 ·
  intro w'
  go_simp
  with_reducible rfl
 rotate_left
 ·
  simp only[Act.put,List.setIfInBounds_toArray,List.set_cons_zero,List.set_cons_succ,i64_w,i32_w]
  rfl
 refine take_ (i:=1) (N:=some 20) (v:=?_) (a':=?_) #[Y,Y,Y,Z] rfl rfl (by kernel_rfl) (fun _ _ _ h=>h) (Or.inl ⟨by rfl,?_⟩) hHeld ?_ ?_
 rotate_left
 ·
  rintro w' ⟨s0,s1,s2,s3,s4⟩
  go_simp
  with_reducible rfl
 rotate_left
 ·
  simp only[Act.put,List.setIfInBounds_toArray,List.set_cons_zero,List.set_cons_succ,i64_w,i32_w]
  rfl
 refine one_ (i:=3) (N:=none) #[Y,Y,Y,Y] rfl rfl (by kernel_rfl) (by decide) (fun K hK=>?_)
 have hs22:w21.cell? ⟨gb748,0,none⟩=some (.int .i64 0):=(blk_cell BK748.out 0).trans rfl
 have hfs22:=blk_frozen BK748.out 0
 have hns22_1:=NB767_748.out
 have hms22_1:=NB748_767.out
 have hs23:w21.cell? ⟨gb748,1,none⟩=some (.int .i64 0):=(blk_cell BK748.out 1).trans rfl
 have hfs23:=blk_frozen BK748.out 1
 have hns23_1:=NB767_748.out
 have hms23_1:=NB748_767.out
 have hs24:w21.cell? ⟨gb748,2,none⟩=some (.int .i64 0):=(blk_cell BK748.out 2).trans rfl
 have hfs24:=blk_frozen BK748.out 2
 have hns24_1:=NB767_748.out
 have hms24_1:=NB748_767.out
 have hs25:w21.cell? ⟨gb748,3,none⟩=some (.string (⟨#[]⟩:ByteArray)):=(blk_cell BK748.out 3).trans rfl
 have hfs25:=blk_frozen BK748.out 3
 have hns25_1:=NB767_748.out
 have hms25_1:=NB748_767.out
 have hs26:w21.cell? ⟨gb748,4,none⟩=some (.slice none 0 0):=(blk_cell BK748.out 4).trans rfl
 have hfs26:=blk_frozen BK748.out 4
 have hns26_1:=NB767_748.out
 have hms26_1:=NB748_767.out
 refine skip_ (w1:=?_) (by rfl) rfl ?_ ?_
 rotate_left
 ·
  go_simp
  rfl
 refine hK.out _ _ ⟨((cell_far (p:=⟨gb748,_,none⟩) NB767_748.out _).trans (((cell_far (p:=⟨gb748,_,none⟩) NB767_748.out _).trans (((cell_far (p:=⟨gb748,_,none⟩) NB767_748.out _).trans (((cell_far (p:=⟨gb748,_,none⟩) NB767_748.out _).trans (((cell_far (p:=⟨gb748,_,none⟩) NB767_748.out _).trans (hHeld.1)))))))))),((cell_far (p:=⟨gb748,_,none⟩) NB767_748.out _).trans (((cell_far (p:=⟨gb748,_,none⟩) NB767_748.out _).trans (((cell_far (p:=⟨gb748,_,none⟩) NB767_748.out _).trans (((cell_far (p:=⟨gb748,_,none⟩) NB767_748.out _).trans (((cell_far (p:=⟨gb748,_,none⟩) NB767_748.out _).trans (hHeld.2.1)))))))))),((cell_far (p:=⟨gb748,_,none⟩) NB767_748.out _).trans (((cell_far (p:=⟨gb748,_,none⟩) NB767_748.out _).trans (((cell_far (p:=⟨gb748,_,none⟩) NB767_748.out _).trans (((cell_far (p:=⟨gb748,_,none⟩) NB767_748.out _).trans (((cell_far (p:=⟨gb748,_,none⟩) NB767_748.out _).trans (hHeld.2.2.1)))))))))),((cell_far (p:=⟨gb748,_,none⟩) NB767_748.out _).trans (((cell_far (p:=⟨gb748,_,none⟩) NB767_748.out _).trans (((cell_far (p:=⟨gb748,_,none⟩) NB767_748.out _).trans (((cell_far (p:=⟨gb748,_,none⟩) NB767_748.out _).trans (((cell_far (p:=⟨gb748,_,none⟩) NB767_748.out _).trans (hHeld.2.2.2.1)))))))))),((cell_far (p:=⟨gb748,_,none⟩) NB767_748.out _).trans (((cell_far (p:=⟨gb748,_,none⟩) NB767_748.out _).trans (((cell_far (p:=⟨gb748,_,none⟩) NB767_748.out _).trans (((cell_far (p:=⟨gb748,_,none⟩) NB767_748.out _).trans (((cell_far (p:=⟨gb748,_,none⟩) NB767_748.out _).trans (hHeld.2.2.2.2))))))))))⟩ (fun hHeld=>?_)
 clear hK K
 refine done_ (by kernel_rfl) ?_
 try go_wp2
 refine bodyPost_ret (results_tc rfl _ _ gb748 34 #[.int .i64 (wrap64 (1+t771)),.int .i64 t759,.int .i64 t760,.string t761,.slice Ao16 t762.length co16] (0,0) _ rfl (by (with_reducible repeat (first|refine blk_drewN ?_ _|refine blk_drew ?_|refine blk_alloc ?_ _));refine blk_put (cs:=#[.int .i64 (wrap64 (1+t771)),.int .i64 t759,.int .i64 t760,.string t761,.slice none 0 0]) ?_ 4 _ rfl;(with_reducible repeat (first|refine blk_drewN ?_ _|refine blk_drew ?_|refine blk_alloc ?_ _));refine blk_put (cs:=#[.int .i64 (wrap64 (1+t771)),.int .i64 t759,.int .i64 t760,.string (⟨#[]⟩:ByteArray),.slice none 0 0]) ?_ 3 _ rfl;(with_reducible repeat (first|refine blk_drewN ?_ _|refine blk_drew ?_|refine blk_alloc ?_ _));refine blk_put (cs:=#[.int .i64 (wrap64 (1+t771)),.int .i64 t759,.int .i64 0,.string (⟨#[]⟩:ByteArray),.slice none 0 0]) ?_ 2 _ rfl;(with_reducible repeat (first|refine blk_drewN ?_ _|refine blk_drew ?_|refine blk_alloc ?_ _));refine blk_put (cs:=#[.int .i64 (wrap64 (1+t771)),.int .i64 0,.int .i64 0,.string (⟨#[]⟩:ByteArray),.slice none 0 0]) ?_ 1 _ rfl;(with_reducible repeat (first|refine blk_drewN ?_ _|refine blk_drew ?_|refine blk_alloc ?_ _));refine blk_put (cs:=#[.int .i64 0,.int .i64 0,.int .i64 0,.string (⟨#[]⟩:ByteArray),.slice none 0 0]) ?_ 0 _ rfl;(with_reducible repeat (first|refine blk_drewN ?_ _|refine blk_drew ?_|refine blk_alloc ?_ _));exact BK748.out) Try.underlying34 rfl (by kernel_rfl)) rfl ?_
 exact⟨_,_,Hd.e_,by (with_reducible repeat (first|apply Kd.N_alloc|apply Kd.N_drewN|apply Kd.N_drew));exact Kd.N_mono (Kd.N_far (p:=⟨gb748,4,none⟩) (Kd.N_far (p:=⟨gb748,3,none⟩) (Kd.N_far (p:=⟨gb748,2,none⟩) (Kd.N_far (p:=⟨gb748,1,none⟩) (Kd.N_far (p:=⟨gb748,0,none⟩) (Kd.N_mono HO755.out (fun k_ hk=>(⟨hk,hk.2.1⟩:_∧k_≠gb748))) (fun _ hk=>hk.2) (.int .i64 (wrap64 (1+t771)))) (fun _ hk=>hk.2) (.int .i64 t759)) (fun _ hk=>hk.2) (.int .i64 t760)) (fun _ hk=>hk.2) (.string t761)) (fun _ hk=>hk.2) (.slice Ao16 t762.length co16)) (fun _ hk=>hk.1.1),by (with_reducible repeat (first|apply Kd.V_alloc|apply Kd.V_drewN|apply Kd.V_drew));exact Kd.V_mono (Kd.V_far (p:=⟨gb748,4,none⟩) (Kd.V_far (p:=⟨gb748,3,none⟩) (Kd.V_far (p:=⟨gb748,2,none⟩) (Kd.V_far (p:=⟨gb748,1,none⟩) (Kd.V_far (p:=⟨gb748,0,none⟩) (Kd.V_mono HO764.out (fun k_ hk=>(⟨hk,hk.2.2.1⟩:_∧k_≠gb748))) (fun _ hk=>hk.2) (.int .i64 (wrap64 (1+t771)))) (fun _ hk=>hk.2) (.int .i64 t759)) (fun _ hk=>hk.2) (.int .i64 t760)) (fun _ hk=>hk.2) (.string t761)) (fun _ hk=>hk.2) (.slice Ao16 t762.length co16)) (fun _ hk=>⟨hk.1.1,hk.1.2.1⟩),z59_ GE748 GE767⟩
def impl_Point_53.l0:Nat→List (S75)→List (S75)→Int→Int→Option (Bool)
 | 0,_,_,_,_=>none
 | k+1,x0,x1,x12,x13=>if x13<x12 then (if 0≤x13 then (if x13<(x0.length:Int) then (if x13<(x1.length:Int) then (if (!(((rd_T75 x0 x13).f0)==((rd_T75 x1 x13).f0))||(!(((rd_T75 x0 x13).f1)==((rd_T75 x1 x13).f1))))=true then (some false) else (impl_Point_53.l0 k x0 x1 x12 (wrap64 (x13+1)))) else (none)) else (none)) else (none)) else (some true)
def impl_Point_53.f (k:Nat) (l0:List (S75)) (l1:List (S75)):Option (Bool):=if (l0.length:Int)=(l1.length:Int) then (impl_Point_53.l0 k l0 l1 (l0.length:Int) 0) else (some false)
theorem impl_Point_53.calls (k:Nat) (A0:Option Addr) (c0:Nat) (l0:List (S75)) (A1:Option Addr) (c1:Nat) (l1:List (S75)) (r:Bool) (w:World) (hr0:Kd.C k75 w A0 l0.length l0) (hc0:l0.length≤c0) (hr1:Kd.C k75 w A1 l1.length l1) (hc1:l1.length≤c1) (h:impl_Point_53.f k l0 l1=some r) :
  Calls Try.prog 53 #[.slice A0 l0.length c0,.slice A1 l1.length c1] w fun e w'=>e = .returned (.bool r)∧Drawn0 w w':=by
 have hu75:=Try.underlying75
 have HR0:=ak hr0
 have HC0:=ak hc0
 clear hr0 hc0
 have HR1:=ak hr1
 have HC1:=ak hc1
 clear hr1 hc1
 have H:=h;clear h;unfold impl_Point_53.f at H
 by_cases c3:(l0.length:Int)=(l1.length:Int);rotate_left
 ·
  rw [if_neg c3] at H
  have c3b0:=beq_eq_false_iff_ne.mpr c3
  have c3b1:=bne_iff_ne.mpr c3
  have c3b2:(l0.length==l1.length)=false:=by first|simpa using c3|(simp at c3 ⊢;omega)
  obtain rfl:=Option.some.inj H
  go_enter Try.func53,Try.ntmps53
  go_wp2
  repeat (go_quiet (fail);try go_wp2)
  go_ret
  exact⟨z14_,z36_⟩
 rw [if_pos c3] at H
 have c3b0:=beq_iff_eq.mpr c3
 have c3b1:=bne_eq_false_iff_eq.mpr c3
 have c3b2:(l0.length==l1.length)=true:=by first|simpa using c3|(simp at c3 ⊢;omega)
 clear c3
 have H':=ak H
 clear H
 go_enter Try.func53,Try.ntmps53
 go_wp2
 repeat (go_quiet (fail);try go_wp2)
 go_loopg [13] k (fun kq v13 w'=>∃ (x13_1:Int),v13 = .int .i64 x13_1∧Aside0 (impl_Point_53.l0 kq l0 l1 (l0.length:Int) x13_1=some r)∧Aside0 (kq≤k)∧Drawn0 w w')
 case atStart=>exact⟨(0),z14_,H',⟨Nat.le_refl _⟩,z36_⟩
 case round =>
  clear H'
  try clear c1;try clear c3;try clear c3b0;try clear c3b1;try clear c3b2
  obtain⟨x13_1,rfl,HA,HK1,⟨m1,rfl⟩⟩:=hrel
  cases gk with
  | zero=>exact absurd HA.out (by simp [impl_Point_53.l0])
  | succ k1 =>
   have H:=HA.out
   clear HA
   simp only[impl_Point_53.l0] at H
   by_cases c4:x13_1<(l0.length:Int);rotate_left
   ·
    rw [if_neg c4] at H
    have c4b0:=z198_
    clear c4
    obtain rfl:=Option.some.inj H
    go_wp2
    repeat (go_quiet (fail);try go_wp2)
    go_ret
    exact⟨z14_,z36_⟩
   rw [if_pos c4] at H
   have c4b0:=decide_eq_true c4
   clear c4
   by_cases c5:0≤x13_1;rotate_left
   ·
    rw [if_neg c5] at H
    exact absurd H (by simp)
   rw [if_pos c5] at H
   have c5b0:=decide_eq_true c5
   clear c5
   by_cases c6:x13_1<(l0.length:Int);rotate_left
   ·
    rw [if_neg c6] at H
    exact absurd H (by simp)
   rw [if_pos c6] at H
   have c6b0:=decide_eq_true c6
   clear c6
   by_cases c7:x13_1<(l1.length:Int);rotate_left
   ·
    rw [if_neg c7] at H
    exact absurd H (by simp)
   rw [if_pos c7] at H
   have c7b0:=decide_eq_true c7
   clear c7
   by_cases c8:(!(((rd_T75 l0 x13_1).f0)==((rd_T75 l1 x13_1).f0))||(!(((rd_T75 l0 x13_1).f1)==((rd_T75 l1 x13_1).f1))))=true
   ·
    rw [if_pos c8] at H
    have c8b0:(!(((rd_T75 l0 x13_1).f0)==((rd_T75 l1 x13_1).f0))||(!(((rd_T75 l0 x13_1).f1)==((rd_T75 l1 x13_1).f1))))=true:=c8
    clear c8
    obtain rfl:=Option.some.inj H
    have p774:0≤(x13_1:Int):=od_
    have q774:x13_1<(l0.length:Int):=od_
    obtain⟨ad774,e774,hx774_0,hx774_1⟩:=at_T75 HR0.out x13_1 p774 q774
    cases e774
    replace p774:=eq_true p774
    replace q774:=eq_true q774
    have p775:0≤(x13_1:Int):=od_
    have q775:x13_1<(l1.length:Int):=od_
    obtain⟨ad775,e775,hx775_0,hx775_1⟩:=at_T75 HR1.out x13_1 p775 q775
    cases e775
    replace p775:=eq_true p775
    replace q775:=eq_true q775
    go_wp2
    repeat (go_quiet (fail);try go_wp2)
    go_ret
    exact⟨z14_,z36_⟩
   rw [if_neg c8] at H
   have c8b0:(!(((rd_T75 l0 x13_1).f0)==((rd_T75 l1 x13_1).f0))||(!(((rd_T75 l0 x13_1).f1)==((rd_T75 l1 x13_1).f1))))=false:=by simpa using c8
   clear c8
   have H':=ak H
   clear H
   have p774:0≤(x13_1:Int):=od_
   have q774:x13_1<(l0.length:Int):=od_
   obtain⟨ad774,e774,hx774_0,hx774_1⟩:=at_T75 HR0.out x13_1 p774 q774
   cases e774
   replace p774:=eq_true p774
   replace q774:=eq_true q774
   have p775:0≤(x13_1:Int):=od_
   have q775:x13_1<(l1.length:Int):=od_
   obtain⟨ad775,e775,hx775_0,hx775_1⟩:=at_T75 HR1.out x13_1 p775 q775
   cases e775
   replace p775:=eq_true p775
   replace q775:=eq_true q775
   go_wp2
   repeat (go_quiet (fail);try go_wp2)
   go_roundg k1
   case measure=>have:=HK1.out;omega
   case rel=>exact⟨(wrap64 (x13_1+1)),z14_,H',⟨z101_⟩,z36_⟩
def impl_EqualFeatures.f (k:Nat) (a0_0:Int) (a0_1:Int) (a0_2:Int) (a0_3:ByteArray) (l0_4:List (S75)) (a1_0:Int) (a1_1:Int) (a1_2:Int) (a1_3:ByteArray) (l1_4:List (S75)):Option (Bool):=if a0_0=a1_0 then (if a0_1=a1_1 then (if a0_2=a1_2 then (if a0_3.toList=a1_3.toList then ((impl_Point_53.f k l0_4 l1_4).bind fun t778=>(some t778)) else (some false)) else (some false)) else (some false)) else (some false)
theorem impl_EqualFeatures.calls (k:Nat) (a0_0:Int) (a0_1:Int) (a0_2:Int) (a0_3:ByteArray) (A0_4:Option Addr) (c0_4:Nat) (l0_4:List (S75)) (a1_0:Int) (a1_1:Int) (a1_2:Int) (a1_3:ByteArray) (A1_4:Option Addr) (c1_4:Nat) (l1_4:List (S75)) (r:Bool) (w:World) (hr0_4:Kd.C k75 w A0_4 l0_4.length l0_4) (hc0_4:l0_4.length≤c0_4) (hr1_4:Kd.C k75 w A1_4 l1_4.length l1_4) (hc1_4:l1_4.length≤c1_4) (h:impl_EqualFeatures.f k a0_0 a0_1 a0_2 a0_3 l0_4 a1_0 a1_1 a1_2 a1_3 l1_4=some r) :
  Calls Try.prog 22 #[.agg #[.int .i64 a0_0,.int .i64 a0_1,.int .i64 a0_2,.string a0_3,.slice A0_4 l0_4.length c0_4],.agg #[.int .i64 a1_0,.int .i64 a1_1,.int .i64 a1_2,.string a1_3,.slice A1_4 l1_4.length c1_4]] w fun e w'=>e = .returned (.bool r)∧Below w.heap.size w w':=by
 have hu34:=Try.underlying34
 have HR0_4:=ak hr0_4
 have HC0_4:=ak hc0_4
 clear hr0_4 hc0_4
 have HR1_4:=ak hr1_4
 have HC1_4:=ak hc1_4
 clear hr1_4 hc1_4
 have HB:=z52_
 have H:=h;clear h;unfold impl_EqualFeatures.f at H
 by_cases c3:a0_0=a1_0;rotate_left
 ·
  rw [if_neg c3] at H
  have c3b0:=beq_eq_false_iff_ne.mpr c3
  have c3b1:=bne_iff_ne.mpr c3
  obtain rfl:=Option.some.inj H
  go_enter Try.func22,Try.ntmps22
  go_wp2_with (first|((with_reducible refine gate_dst (N:=2) rfl ?_);refine Hd.box_ 2 (#[.int .i64 a0_0,.int .i64 a0_1,.int .i64 a0_2,.string a0_3,.slice A0_4 l0_4.length c0_4]) 34 ?_;intro gb776 hg w28 hbox hb;have BK776:=ak (hbox);have GW776:=z110_;have GE776:=z110_;replace HB:=z17_;clear hb hbox hg)|((with_reducible refine gate_dst (N:=3) rfl ?_);refine Hd.box_ 3 (#[.int .i64 a1_0,.int .i64 a1_1,.int .i64 a1_2,.string a1_3,.slice A1_4 l1_4.length c1_4]) 34 ?_;intro gb777 hg w29 hbox hb;have BK777:=ak (hbox);have GW777:=z111_;have GE777:=z111_;replace HB:=z17_;have NB776_777:=ak ((Hd.lt_ BK776 hg));have NB777_776:=ak ((Hd.gt_ BK776 hg));replace BK776:=ak (Hd.kb_ BK776 hb);clear hb hbox hg;have hnb30:=NB776_777.out;have hnc30:=NB777_776.out;obtain⟨hcz31_0,hcz31_1,hcz31_2,hcz31_3,hcz31_4⟩:=Hd.c5_ BK776.out;obtain⟨hfz31_0,hfz31_1,hfz31_2,hfz31_3,hfz31_4⟩:=Hd.f5_ BK776.out;obtain⟨hcz32_0,hcz32_1,hcz32_2,hcz32_3,hcz32_4⟩:=Hd.c5_ BK777.out;obtain⟨hfz32_0,hfz32_1,hfz32_2,hfz32_3,hfz32_4⟩:=Hd.f5_ BK777.out))
  go_ret
  exact⟨Hd.e_,Hd.b_⟩
 rw [if_pos c3] at H
 have c3b0:=beq_iff_eq.mpr c3
 have c3b1:=bne_eq_false_iff_eq.mpr c3
 clear c3
 by_cases c4:a0_1=a1_1;rotate_left
 ·
  rw [if_neg c4] at H
  have c4b0:=beq_eq_false_iff_ne.mpr c4
  have c4b1:=bne_iff_ne.mpr c4
  obtain rfl:=Option.some.inj H
  go_enter Try.func22,Try.ntmps22
  go_wp2_with (first|((with_reducible refine gate_dst (N:=2) rfl ?_);refine Hd.box_ 2 (#[.int .i64 a0_0,.int .i64 a0_1,.int .i64 a0_2,.string a0_3,.slice A0_4 l0_4.length c0_4]) 34 ?_;intro gb776 hg w23 hbox hb;have BK776:=ak (hbox);have GW776:=z110_;have GE776:=z110_;replace HB:=z17_;clear hb hbox hg)|((with_reducible refine gate_dst (N:=3) rfl ?_);refine Hd.box_ 3 (#[.int .i64 a1_0,.int .i64 a1_1,.int .i64 a1_2,.string a1_3,.slice A1_4 l1_4.length c1_4]) 34 ?_;intro gb777 hg w24 hbox hb;have BK777:=ak (hbox);have GW777:=z111_;have GE777:=z111_;replace HB:=z17_;have NB776_777:=ak ((Hd.lt_ BK776 hg));have NB777_776:=ak ((Hd.gt_ BK776 hg));replace BK776:=ak (Hd.kb_ BK776 hb);clear hb hbox hg;have hnb25:=NB776_777.out;have hnc25:=NB777_776.out;obtain⟨hcz26_0,hcz26_1,hcz26_2,hcz26_3,hcz26_4⟩:=Hd.c5_ BK776.out;obtain⟨hfz26_0,hfz26_1,hfz26_2,hfz26_3,hfz26_4⟩:=Hd.f5_ BK776.out;obtain⟨hcz27_0,hcz27_1,hcz27_2,hcz27_3,hcz27_4⟩:=Hd.c5_ BK777.out;obtain⟨hfz27_0,hfz27_1,hfz27_2,hfz27_3,hfz27_4⟩:=Hd.f5_ BK777.out))
  go_ret
  exact⟨Hd.e_,Hd.b_⟩
 rw [if_pos c4] at H
 have c4b0:=beq_iff_eq.mpr c4
 have c4b1:=bne_eq_false_iff_eq.mpr c4
 clear c4
 by_cases c5:a0_2=a1_2;rotate_left
 ·
  rw [if_neg c5] at H
  have c5b0:=beq_eq_false_iff_ne.mpr c5
  have c5b1:=bne_iff_ne.mpr c5
  obtain rfl:=Option.some.inj H
  go_enter Try.func22,Try.ntmps22
  go_wp2_with (first|((with_reducible refine gate_dst (N:=2) rfl ?_);refine Hd.box_ 2 (#[.int .i64 a0_0,.int .i64 a0_1,.int .i64 a0_2,.string a0_3,.slice A0_4 l0_4.length c0_4]) 34 ?_;intro gb776 hg w18 hbox hb;have BK776:=ak (hbox);have GW776:=z110_;have GE776:=z110_;replace HB:=z17_;clear hb hbox hg)|((with_reducible refine gate_dst (N:=3) rfl ?_);refine Hd.box_ 3 (#[.int .i64 a1_0,.int .i64 a1_1,.int .i64 a1_2,.string a1_3,.slice A1_4 l1_4.length c1_4]) 34 ?_;intro gb777 hg w19 hbox hb;have BK777:=ak (hbox);have GW777:=z111_;have GE777:=z111_;replace HB:=z17_;have NB776_777:=ak ((Hd.lt_ BK776 hg));have NB777_776:=ak ((Hd.gt_ BK776 hg));replace BK776:=ak (Hd.kb_ BK776 hb);clear hb hbox hg;have hnb20:=NB776_777.out;have hnc20:=NB777_776.out;obtain⟨hcz21_0,hcz21_1,hcz21_2,hcz21_3,hcz21_4⟩:=Hd.c5_ BK776.out;obtain⟨hfz21_0,hfz21_1,hfz21_2,hfz21_3,hfz21_4⟩:=Hd.f5_ BK776.out;obtain⟨hcz22_0,hcz22_1,hcz22_2,hcz22_3,hcz22_4⟩:=Hd.c5_ BK777.out;obtain⟨hfz22_0,hfz22_1,hfz22_2,hfz22_3,hfz22_4⟩:=Hd.f5_ BK777.out))
  go_ret
  exact⟨Hd.e_,Hd.b_⟩
 rw [if_pos c5] at H
 have c5b0:=beq_iff_eq.mpr c5
 have c5b1:=bne_eq_false_iff_eq.mpr c5
 clear c5
 by_cases c6:a0_3.toList=a1_3.toList;rotate_left
 ·
  rw [if_neg c6] at H
  have c6b0:=beq_eq_false_iff_ne.mpr c6
  have c6b1:=bne_iff_ne.mpr c6
  obtain rfl:=Option.some.inj H
  go_enter Try.func22,Try.ntmps22
  go_wp2_with (first|((with_reducible refine gate_dst (N:=2) rfl ?_);refine Hd.box_ 2 (#[.int .i64 a0_0,.int .i64 a0_1,.int .i64 a0_2,.string a0_3,.slice A0_4 l0_4.length c0_4]) 34 ?_;intro gb776 hg w13 hbox hb;have BK776:=ak (hbox);have GW776:=z110_;have GE776:=z110_;replace HB:=z17_;clear hb hbox hg)|((with_reducible refine gate_dst (N:=3) rfl ?_);refine Hd.box_ 3 (#[.int .i64 a1_0,.int .i64 a1_1,.int .i64 a1_2,.string a1_3,.slice A1_4 l1_4.length c1_4]) 34 ?_;intro gb777 hg w14 hbox hb;have BK777:=ak (hbox);have GW777:=z111_;have GE777:=z111_;replace HB:=z17_;have NB776_777:=ak ((Hd.lt_ BK776 hg));have NB777_776:=ak ((Hd.gt_ BK776 hg));replace BK776:=ak (Hd.kb_ BK776 hb);clear hb hbox hg;have hnb15:=NB776_777.out;have hnc15:=NB777_776.out;obtain⟨hcz16_0,hcz16_1,hcz16_2,hcz16_3,hcz16_4⟩:=Hd.c5_ BK776.out;obtain⟨hfz16_0,hfz16_1,hfz16_2,hfz16_3,hfz16_4⟩:=Hd.f5_ BK776.out;obtain⟨hcz17_0,hcz17_1,hcz17_2,hcz17_3,hcz17_4⟩:=Hd.c5_ BK777.out;obtain⟨hfz17_0,hfz17_1,hfz17_2,hfz17_3,hfz17_4⟩:=Hd.f5_ BK777.out))
  go_ret
  exact⟨Hd.e_,Hd.b_⟩
 rw [if_pos c6] at H
 have c6b0:=beq_iff_eq.mpr c6
 have c6b1:=bne_eq_false_iff_eq.mpr c6
 clear c6
 replace H:=Hd.bd_ H;obtain⟨t778,A7,H⟩:=H
 obtain rfl:=Option.some.inj H
 go_enter Try.func22,Try.ntmps22
 go_wp2_with (first|((with_reducible refine gate_dst (N:=2) rfl ?_);refine Hd.box_ 2 (#[.int .i64 a0_0,.int .i64 a0_1,.int .i64 a0_2,.string a0_3,.slice A0_4 l0_4.length c0_4]) 34 ?_;intro gb776 hg w8 hbox hb;have BK776:=ak (hbox);have GW776:=z110_;have GE776:=z110_;replace HB:=z17_;clear hb hbox hg)|((with_reducible refine gate_dst (N:=3) rfl ?_);refine Hd.box_ 3 (#[.int .i64 a1_0,.int .i64 a1_1,.int .i64 a1_2,.string a1_3,.slice A1_4 l1_4.length c1_4]) 34 ?_;intro gb777 hg w9 hbox hb;have BK777:=ak (hbox);have GW777:=z111_;have GE777:=z111_;replace HB:=z17_;have NB776_777:=ak ((Hd.lt_ BK776 hg));have NB777_776:=ak ((Hd.gt_ BK776 hg));replace BK776:=ak (Hd.kb_ BK776 hb);clear hb hbox hg;have hnb10:=NB776_777.out;have hnc10:=NB777_776.out;obtain⟨hcz11_0,hcz11_1,hcz11_2,hcz11_3,hcz11_4⟩:=Hd.c5_ BK776.out;obtain⟨hfz11_0,hfz11_1,hfz11_2,hfz11_3,hfz11_4⟩:=Hd.f5_ BK776.out;obtain⟨hcz12_0,hcz12_1,hcz12_2,hcz12_3,hcz12_4⟩:=Hd.c5_ BK777.out;obtain⟨hfz12_0,hfz12_1,hfz12_2,hfz12_3,hfz12_4⟩:=Hd.f5_ BK777.out)|(go_at_call 53;(with_reducible refine(impl_Point_53.calls k _ _ l0_4 _ _ l1_4 t778 _ ?side1 ?side2 ?side3 ?side4 A7.out).mono ?_);(case side1=>exact z15_ HR0_4);(case side2=>exact HC0_4.out);(case side3=>exact z15_ HR1_4);(case side4=>exact HC1_4.out);rintro e w' ⟨rfl,⟨nd,rfl⟩⟩))
 go_ret
 exact⟨Hd.e_,Hd.b_⟩
end Go.Proofs.Ytbbdhlggnglfgaa.MFnFeatures
