-- Laid by this session's program pp.py, after the kit's print and texts of the session's own. Not trusted: Lean checks it.
import Derived.Test.YtbbdhlggnglfgaaZFnMeetsMx0
import Derived.Test.YtbbdhlggnglfgaaZFnMeetsMx3
import Derived.Test.YtbbdhlggnglfgaaZFnMeetsMx4
import Derived.Test.YtbbdhlggnglfgaaZFnMeetsMx5
import Derived.Test.YtbbdhlggnglfgaaZFnMeetsMx6
import Derived.Test.YtbbdhlggnglfgaaZFnMeetsMx7
import Derived.Test.YtbbdhlggnglfgaaZFnMeetsMx8
import Derived.Test.YtbbdhlggnglfgaaZFnMeetsMx16
namespace Go.Proofs.Ytbbdhlggnglfgaa.MFnMeets
open Go.RowKit Go.Proofs.YtbbdhlggnglfgaaW.PrintWords Go.Proofs.YtbbdhlggnglfgaaW.PrintLast Go.Proofs.YtbbdhlggnglfgaaW.PrintMore
attribute [local go_sem] max2_int min2_int max_two min_two max_three min_three max_four min_four   -- for this text's walks alone
set_option linter.unusedVariables false
set_option maxHeartbeats 8000000
set_option maxRecDepth 100000
set_option linter.unusedSimpArgs false
def spec_l9Any.f (k : Nat) (s0_0 : List Int) (s0_1 : Int) (s0_2 : Int) : Option ((List (S34)) × Int × Int):=(spec_l9Source.f k s0_0 s0_1 s0_2).bind fun bt619 => (if (bt619.1.length : Int) = 0 then (some (bt619.1,bt619.2.1,bt619.2.2)) else ((spec_l1Below.f s0_0 bt619.2.1 bt619.2.2 (bt619.1.length : Int)).bind fun bt624 => ((spec_l1Below.f s0_0 bt624.2.1 bt624.2.2 10).bind fun bt627 => (if bt627.1 = 0 then ((spec_l1Int.f s0_0 bt627.2.1 bt627.2.2 (([0,1,99,100] : List Int))).bind fun bt633 => (if 0 ≤ bt624.1 then (if bt624.1 < (bt619.1.length : Int) then (some ((bt619.1.set (bt624.1 : Int).toNat (⟨bt633.1,(rd_T34 bt619.1 bt624.1).f1,(rd_T34 bt619.1 bt624.1).f2,(rd_T34 bt619.1 bt624.1).f3,(rd_T34 bt619.1 bt624.1).f4⟩ : S34)),bt633.2.1,bt633.2.2)) else (none)) else (none))) else (if bt627.1 = 1 then ((spec_l1Int.f s0_0 bt627.2.1 bt627.2.2 (([(-1),9,10] : List Int))).bind fun bt640 => (if 0 ≤ bt624.1 then (if bt624.1 < (bt619.1.length : Int) then (some ((bt619.1.set (bt624.1 : Int).toNat (⟨(rd_T34 bt619.1 bt624.1).f0,(rd_T34 bt619.1 bt624.1).f1,bt640.1,(rd_T34 bt619.1 bt624.1).f3,(rd_T34 bt619.1 bt624.1).f4⟩ : S34)),bt640.2.1,bt640.2.2)) else (none)) else (none))) else (if bt627.1 = 2 then ((spec_l1Str.f s0_0 bt627.2.1 bt627.2.2 (([(⟨#[65]⟩ : ByteArray),(⟨#[116,111,111,108,111,110,103,97,97]⟩ : ByteArray),(⟨#[97,32,98]⟩ : ByteArray)] : List ByteArray))).bind fun bt647 => (if 0 ≤ bt624.1 then (if bt624.1 < (bt619.1.length : Int) then (some ((bt619.1.set (bt624.1 : Int).toNat (⟨(rd_T34 bt619.1 bt624.1).f0,(rd_T34 bt619.1 bt624.1).f1,(rd_T34 bt619.1 bt624.1).f2,bt647.1,(rd_T34 bt619.1 bt624.1).f4⟩ : S34)),bt647.2.1,bt647.2.2)) else (none)) else (none))) else (if bt627.1 = 3 then ((spec_l1Int.f s0_0 bt627.2.1 bt627.2.2 (([0,1,2,3,4] : List Int))).bind fun bt654 => (if 0 ≤ bt624.1 then (if bt624.1 < (bt619.1.length : Int) then (some ((bt619.1.set (bt624.1 : Int).toNat (⟨(rd_T34 bt619.1 bt624.1).f0,bt654.1,(rd_T34 bt619.1 bt624.1).f2,(rd_T34 bt619.1 bt624.1).f3,(rd_T34 bt619.1 bt624.1).f4⟩ : S34)),bt654.2.1,bt654.2.2)) else (none)) else (none))) else (if bt627.1 = 4 then ((spec_l6Any.f k s0_0 bt627.2.1 bt627.2.2).bind fun bt658 => (if 0 ≤ bt624.1 then (if bt624.1 < (bt619.1.length : Int) then (some ((bt619.1.set (bt624.1 : Int).toNat (⟨(rd_T34 bt619.1 bt624.1).f0,(rd_T34 bt619.1 bt624.1).f1,(rd_T34 bt619.1 bt624.1).f2,(rd_T34 bt619.1 bt624.1).f3,bt658.1⟩ : S34)),bt658.2.1,bt658.2.2)) else (none)) else (none))) else (some (bt619.1,bt627.2.1,bt627.2.2))))))))))
theorem spec_l9Any.calls (k : Nat) (g : Nat) (s0_0 : List Int) (s0_1 : Int) (s0_2 : Int) (r1 : List (S34)) (r2 : Int) (r3 : Int) (w0 w : World) (hI : IsS89 w0 w g s0_0 s0_1 s0_2) (hB : Below w0.heap.size w0 w) (h : spec_l9Any.f k s0_0 s0_1 s0_2 = some (r1,r2,r3)) :
  Calls Try.prog 46 #[.pointer (some ⟨g,0,none⟩)] w fun e w' => ∃ v0_ : Value,e = .returned (v0_) ∧ Kd.N k34 34 w' w.heap.size (fun k_ => (w.heap.size ≤ k_)) v0_ r1 ∧ IsS89 w0 w' g s0_0 r2 r3 ∧ Below w0.heap.size w0 w' ∧ KeepBut w w' g none:=by
 have HI0:=ak hI
 have HK:=ak (KeepBut.refl w g none)
 have HL:=ak hB.size
 clear hI
 have HW0:=ak hB.size
 have HB:=ak hB
 clear hB
 have H:=h;clear h;unfold spec_l9Any.f at H
 replace H:=Hd.bd_ H;obtain ⟨⟨t619,t622,t623⟩,A2,H⟩:=H;dsimp only at H
 by_cases c3 : (t619.length : Int) = 0
 ·
  rw [if_pos c3] at H
  have c3b0:=beq_iff_eq.mpr c3
  have c3b1:=bne_eq_false_iff_eq.mpr c3
  clear c3
  simp only [Option.some.injEq,Prod.mk.injEq] at H
  obtain ⟨rfl,rfl,rfl⟩:=H
  go_enter Try.func46,Try.ntmps46
  go_wp2_with (first | ((with_reducible refine gate_callee (f:=66) rfl ?_);refine Hd.gl_ 6 Try.func66 #[.pointer (some ⟨g,0,none⟩)] ?_;(with_reducible refine (spec_l9Source.calls k g s0_0 s0_1 s0_2 t619 t622 t623 w0 _ ?side1 ?side2 A2.out).mono ?_);(case side1 => exact z1_);(case side2 => exact z2_);rintro e w4 ⟨v620,rfl,ho0,hi,hb,hk⟩;refine ⟨_,rfl,?_⟩;have HO621:=z101_;replace HK:=z99_;replace HB:=ak (hb);replace HI0:=ak (hi);clear hb hk hi ho0;obtain ⟨Ao5,co5,eo5⟩:=Kd.N_slice HO621.out;subst eo5))
  go_ret
  exact ⟨_,Hd.e_,z37_ HO621,z1_,z2_,z0_⟩
 rw [if_neg c3] at H
 have c3b0:=beq_eq_false_iff_ne.mpr c3
 have c3b1:=bne_iff_ne.mpr c3
 have c3b2 : ¬ (t619 = []):=fun h_ => c3 (by rw [h_];rfl)
 replace H:=Hd.bd_ H;obtain ⟨⟨t624,t625,t626⟩,A6,H⟩:=H;dsimp only at H
 replace H:=Hd.bd_ H;obtain ⟨⟨t627,t628,t629⟩,A7,H⟩:=H;dsimp only at H
 by_cases c8 : t627 = 0
 ·
  rw [if_pos c8] at H
  have c8b0:=beq_iff_eq.mpr c8
  have c8b1:=bne_eq_false_iff_eq.mpr c8
  clear c8
  generalize hy630 : (([0,1,99,100] : List Int)) = y630 at H;have Ny630:=ak hy630.symm;clear hy630;try rw [Option.bind_some] at H
  replace H:=Hd.bd_ H;obtain ⟨⟨t633,t634,t635⟩,A9,H⟩:=H;dsimp only at H
  by_cases c10 : 0 ≤ t624;rotate_left
  ·
   rw [if_neg c10] at H
   exact absurd H (by simp)
  rw [if_pos c10] at H
  have c10b0:=decide_eq_true c10
  clear c10
  by_cases c11 : t624 < (t619.length : Int);rotate_left
  ·
   rw [if_neg c11] at H
   exact absurd H (by simp)
  rw [if_pos c11] at H
  have c11b0:=decide_eq_true c11
  clear c11
  generalize hy636 : (t619.set (t624 : Int).toNat (⟨t633,(rd_T34 t619 t624).f1,(rd_T34 t619 t624).f2,(rd_T34 t619 t624).f3,(rd_T34 t619 t624).f4⟩ : S34)) = y636 at H;have Ny636:=ak hy636.symm;clear hy636;try rw [Option.bind_some] at H
  simp only [Option.some.injEq,Prod.mk.injEq] at H
  obtain ⟨rfl,rfl,rfl⟩:=H
  go_enter Try.func46,Try.ntmps46
  go_wp2_with (first | ((with_reducible refine gate_callee (f:=66) rfl ?_);refine Hd.gl_ 6 Try.func66 #[.pointer (some ⟨g,0,none⟩)] ?_;(with_reducible refine (spec_l9Source.calls k g s0_0 s0_1 s0_2 t619 t622 t623 w0 _ ?side1 ?side2 A2.out).mono ?_);(case side1 => exact z1_);(case side2 => exact z2_);rintro e w13 ⟨v620,rfl,ho0,hi,hb,hk⟩;refine ⟨_,rfl,?_⟩;have HO621:=z101_;replace HK:=z99_;replace HB:=ak (hb);replace HI0:=ak (hi);clear hb hk hi ho0;obtain ⟨Ao14,co14,eo14⟩:=Kd.N_slice HO621.out;subst eo14) | ((with_reducible refine gate_callee (f:=49) rfl ?_);refine Hd.gl_ 14 Try.func49 #[.pointer (some ⟨g,0,none⟩),.int .i64 (t619.length : Int)] ?_;(with_reducible refine (spec_l1Below.calls g s0_0 t622 t623 (t619.length : Int) t624 t625 t626 w0 _ ?side1 ?side2 A6.out).mono ?_);(case side1 => exact z1_);(case side2 => exact z2_);rintro e w15 ⟨rfl,hi,hb,hk⟩;refine ⟨_,rfl,?_⟩;replace HO621:=z100_;replace HK:=z99_;replace HB:=ak (hb);replace HI0:=ak (hi);clear hb hk hi) | ((with_reducible refine gate_callee (f:=49) rfl ?_);refine Hd.gl_ 16 Try.func49 #[.pointer (some ⟨g,0,none⟩),.int .i64 10] ?_;(with_reducible refine (spec_l1Below.calls g s0_0 t625 t626 10 t627 t628 t629 w0 _ ?side1 ?side2 A7.out).mono ?_);(case side1 => exact z1_);(case side2 => exact z2_);rintro e w16 ⟨rfl,hi,hb,hk⟩;refine ⟨_,rfl,?_⟩;replace HO621:=z100_;replace HK:=z99_;replace HB:=ak (hb);replace HI0:=ak (hi);clear hb hk hi) | ((with_reducible refine gate_dst (N:=22) rfl ?_);refine Kd.R_lit (Kd.int .i64) _ 3 ?hg (N:=22) ?hd (xs:=([0,1,99,100] : List Int)) (inner:=[.int .i64 0,.int .i64 1,.int .i64 99,.int .i64 100]) (ok:=fun _ => True) (okp:=fun _ => True) ?hr ?hp (fun _ hk => hk) trivial (Below.refl _ _) (Nat.le_refl _) (by simp) ?_;(case hd => rfl);(case hg => rfl);(case hr => exact z31_);(case hp => exact (Reps.one (show Kd.M (Kd.int .i64) _ _ _ 0 [.int .i64 0] from rfl) (Reps.one (show Kd.M (Kd.int .i64) _ _ _ 1 [.int .i64 1] from rfl) (Reps.one (show Kd.M (Kd.int .i64) _ _ _ 99 [.int .i64 99] from rfl) (Reps.one (show Kd.M (Kd.int .i64) _ _ _ 100 [.int .i64 100] from rfl) (Reps.none _ _))))));intro v631 w17 ho18 hb hg_ hnew_;clear hg_ hnew_;(first | rw [← Ny630.out] at ho18 | (simp only [Int.reduceToNat] at ho18;rw [← Ny630.out] at ho18));replace HO621:=ak (Kd.N_elder' (z13_ HO621) (Kd.R_base ho18) hb);have HO632:=ak (Kd.R_lower (Kd.R_newM (M:=fun k_ => (w.heap.size ≤ k_)) ho18 (keep_size (w:=w) (g:=g) (row:=none) z0_) (fun k_ h_ => h_)) (keep_size (w:=w) (g:=g) (row:=none) z0_));replace HK:=z98_;replace HB:=ak (below_step z2_ hb);replace HI0:=ak (IsS89.below z1_ hb);clear hb ho18;obtain ⟨Ao19,co19,eo19⟩:=Kd.R_slice HO632.out;subst eo19) | ((with_reducible refine gate_callee (f:=67) rfl ?_);refine Hd.gl_ 23 Try.func67 #[.pointer (some ⟨g,0,none⟩),.slice Ao19 y630.length co19] ?_;(with_reducible refine (spec_l1Int.calls g s0_0 t628 t629 _ _ y630 t633 t634 t635 w0 _ ?side1 ?side2 ?side3 ?side4 ?side5 A9.out).mono ?_);(case side1 => exact z1_);(case side2 => exact z2_);(case side3 => exact z26_ HO632);(case side4 => exact (Kd.R_reads' HO632.out).2.1);(case side5 => exact far_slice (IsS89.own_ne HI0.out HO632.out (by decide)));rintro e w20 ⟨rfl,hi,hb,hk⟩;refine ⟨_,rfl,?_⟩;replace HO621:=ak (Kd.N_mono (Kd.N_keep (Kd.N_mono (ok:=fun k_ => ((((w.heap.size ≤ k_)) ∧ k_ ≠ g) ∧ some k_ ≠ (.slice Ao19 y630.length co19 : Value).ownBlock)) (z13_ HO621) (fun k_ hk_ => (⟨hk_,hk_.1.2⟩ : _ ∧ k_ ≠ g))) hk (fun _ h => h.2)) (fun _ h => h.1));replace HO632:=ak (Kd.R_mono (Kd.R_keep (IsS89.apart (show IsS89 w0 _ g s0_0 t628 t629 from by repeat (first | (with_reducible first | exact HI0.out | apply IsS89.alloc | apply IsS89.drewN | apply IsS89.drew | apply IsS89.set_1 | apply IsS89.set_2) | exact HI0.out)) (Hd.r_ HO632) (by decide)) hk (fun _ h => h.2)) (fun _ h => h.1));replace HK:=z99_;replace HB:=ak (hb);replace HI0:=ak (hi);clear hb hk hi;have p12 : 0 ≤ (t624 : Int):=of_decide_eq_true Hd.a_;have q12 : (t624 : Int) < ((t619.length : Int) : Int):=of_decide_eq_true Hd.a_;obtain ⟨go12,co12,eo12,gb12,gl12,cl12,HG12⟩:=Kd.N_form HO621.out (by omega);(first | cases eo12 | (injection eo12 with ea_ en_ ec_;(first | subst ea_ | (injection ea_ with ea_;subst ea_));subst ec_;clear en_));have GB12:=ak gb12;have GG12:=ak HG12;clear gb12 gl12 HG12;obtain ⟨ce12,hcl12,hM12,hcc12,hfr12⟩:=Kd.N_elem HO621.out z34 (t624 : Int) p12 q12;obtain ⟨ua12_4,uc12_4,rfl,ul12_4,ge12_4⟩:=k34_openF hM12;have hx12_0 : w20.cell? ⟨go12,(t624 : Int).toNat * 5,none⟩ = some (.int .i64 ((rd_T34 t619 t624).f0)):=hcc12 0 _ rfl;have hx12_1 : w20.cell? ⟨go12,(t624 : Int).toNat * 5 + 1,none⟩ = some (.int .i64 ((rd_T34 t619 t624).f1)):=hcc12 1 _ rfl;have hx12_2 : w20.cell? ⟨go12,(t624 : Int).toNat * 5 + 2,none⟩ = some (.int .i64 ((rd_T34 t619 t624).f2)):=hcc12 2 _ rfl;have hx12_3 : w20.cell? ⟨go12,(t624 : Int).toNat * 5 + 3,none⟩ = some (.string ((rd_T34 t619 t624).f3)):=hcc12 3 _ rfl;have hx12_4 : w20.cell? ⟨go12,(t624 : Int).toNat * 5 + 4,none⟩ = some (.slice ua12_4 ((rd_T34 t619 t624).f4).length uc12_4):=hcc12 4 _ rfl;have hf12_0 : w20.frozen? ⟨go12,(t624 : Int).toNat * 5,none⟩ = false:=hfr12 0;have hf12_1 : w20.frozen? ⟨go12,(t624 : Int).toNat * 5 + 1,none⟩ = false:=hfr12 1;have hf12_2 : w20.frozen? ⟨go12,(t624 : Int).toNat * 5 + 2,none⟩ = false:=hfr12 2;have hf12_3 : w20.frozen? ⟨go12,(t624 : Int).toNat * 5 + 3,none⟩ = false:=hfr12 3;have hf12_4 : w20.frozen? ⟨go12,(t624 : Int).toNat * 5 + 4,none⟩ = false:=hfr12 4;clear hcl12 hcc12 hfr12 hM12;replace p12:=eq_true p12;replace q12:=eq_true q12;have n_:=ak (Kd.N_mono (ok':=(fun k_ => (w.heap.size ≤ k_) ∧ some k_ ≠ (.slice Ao19 y630.length co19 : Value).ownBlock)) HO621.out (fun k_ hk => ⟨hk.1.1,hk.2⟩));clear HO621;have HO621:=n_;clear n_;have HX21:=ak (show Kd.N k34 34 w20 w.heap.size (fun k_ => (w.heap.size ≤ k_) ∧ some k_ ≠ (.slice Ao19 y630.length co19 : Value).ownBlock) (.slice (some ⟨go12,0,none⟩) t619.length co14) t619 from (z13_ HO621));obtain ⟨ce21,hcl21,hM21,hcc21,hfr21⟩:=Kd.N_elem HX21.out z34 (t624 : Int) (of_decide_eq_true Hd.a_) (by have h_ : (t624 : Int) < ((t619.length : Int) : Int):=of_decide_eq_true Hd.a_;first | exact h_ | (have e_:=(Kd.N_reads' HO621.out).1;omega) | simpa using h_);obtain ⟨ua21_4,uc21_4,rfl,ul21_4,ge21_4⟩:=k34_openF hM21;have HP21:=Kd.N_seg HX21.out (t624 : Int) (of_decide_eq_true Hd.a_) (by have h_ : (t624 : Int) < ((t619.length : Int) : Int):=of_decide_eq_true Hd.a_;first | exact h_ | (have e_:=(Kd.N_reads' HO621.out).1;omega) | simpa using h_) (seg:=[.int .i64 t633]) (j:=0) hcl21 hcc21 (show 1 ≤ 5 from by decide) (x':=(⟨t633,(rd_T34 t619 t624).f1,(rd_T34 t619 t624).f2,(rd_T34 t619 t624).f3,(rd_T34 t619 t624).f4⟩ : S34)) (k34_mkF _ _ (⟨t633,(rd_T34 t619 t624).f1,(rd_T34 t619 t624).f2,(rd_T34 t619 t624).f3,(rd_T34 t619 t624).f4⟩ : S34) ul21_4 ge21_4) (fun _ hk => hk);have hx21_0:=hcc21 0 _ rfl;(try simp only [show (k34).sz = 5 from rfl,Nat.mul_one,Nat.add_zero] at hx21_0);have hf21_0:=hfr21 0;(try simp only [show (k34).sz = 5 from rfl,Nat.mul_one,Nat.add_zero] at hf21_0);clear hcl21 hcc21 hfr21 hM21) | ((with_reducible refine gate_store (t:=3) (p:=25) rfl ?_);refine store_event (t:=3) (p:=25) (v:=?vo_w22) (w1:=(w20.setCell ⟨go12,(t624 : Int).toNat * 5,none⟩ (.int .i64 t633))) ?hg ?ho ?hn ?hr ?_;(case ho => rfl);(case hg => rfl);(case hn => rfl);(case hr => exact z31_);intro w22 hw;have hg : w20.grownBy w22 (some go12):=(by rw [hw];exact HP21.2);have hp_ : Kd.N k34 34 w22 w.heap.size (fun k_ => (w.heap.size ≤ k_) ∧ some k_ ≠ (.slice Ao19 y630.length co19 : Value).ownBlock) (.slice (some ⟨go12,0,none⟩) t619.length co14) y636:=(by rw [hw,Ny636.out];exact HP21.1);clear HP21;replace HI0:=z108_ HO621;replace HO632:=ak (Kd.R_over' (v:=(.slice (some ⟨go12,0,none⟩) t619.length co14)) (Hd.r_ HO632) (Kd.N_typed HO621.out) (by decide) hg);replace HB:=ak ((by rw [hw];exact below_set (HB.out) (Nat.le_trans HL.out GB12.out) : Below w0.heap.size w0 w22));replace HK:=ak (KeepBut.trans z0_ (KeepBut.of_grown hg g) (Kd.N_base2 HO621.out));replace HO621:=ak (hp_);clear hg hw hp_))
  go_ret
  exact ⟨_,Hd.e_,z37_ HO621,z1_,z2_,z0_⟩
 rw [if_neg c8] at H
 have c8b0:=beq_eq_false_iff_ne.mpr c8
 have c8b1:=bne_iff_ne.mpr c8
 by_cases c23 : t627 = 1
 ·
  rw [if_pos c23] at H
  have c23b0:=beq_iff_eq.mpr c23
  have c23b1:=bne_eq_false_iff_eq.mpr c23
  clear c23
  generalize hy637 : (([(-1),9,10] : List Int)) = y637 at H;have Ny637:=ak hy637.symm;clear hy637;try rw [Option.bind_some] at H
  replace H:=Hd.bd_ H;obtain ⟨⟨t640,t641,t642⟩,A24,H⟩:=H;dsimp only at H
  by_cases c25 : 0 ≤ t624;rotate_left
  ·
   rw [if_neg c25] at H
   exact absurd H (by simp)
  rw [if_pos c25] at H
  have c25b0:=decide_eq_true c25
  clear c25
  by_cases c26 : t624 < (t619.length : Int);rotate_left
  ·
   rw [if_neg c26] at H
   exact absurd H (by simp)
  rw [if_pos c26] at H
  have c26b0:=decide_eq_true c26
  clear c26
  generalize hy643 : (t619.set (t624 : Int).toNat (⟨(rd_T34 t619 t624).f0,(rd_T34 t619 t624).f1,t640,(rd_T34 t619 t624).f3,(rd_T34 t619 t624).f4⟩ : S34)) = y643 at H;have Ny643:=ak hy643.symm;clear hy643;try rw [Option.bind_some] at H
  simp only [Option.some.injEq,Prod.mk.injEq] at H
  obtain ⟨rfl,rfl,rfl⟩:=H
  go_enter Try.func46,Try.ntmps46
  go_wp2_with (first | ((with_reducible refine gate_callee (f:=66) rfl ?_);refine Hd.gl_ 6 Try.func66 #[.pointer (some ⟨g,0,none⟩)] ?_;(with_reducible refine (spec_l9Source.calls k g s0_0 s0_1 s0_2 t619 t622 t623 w0 _ ?side1 ?side2 A2.out).mono ?_);(case side1 => exact z1_);(case side2 => exact z2_);rintro e w28 ⟨v620,rfl,ho0,hi,hb,hk⟩;refine ⟨_,rfl,?_⟩;have HO621:=z101_;replace HK:=z99_;replace HB:=ak (hb);replace HI0:=ak (hi);clear hb hk hi ho0;obtain ⟨Ao29,co29,eo29⟩:=Kd.N_slice HO621.out;subst eo29) | ((with_reducible refine gate_callee (f:=49) rfl ?_);refine Hd.gl_ 14 Try.func49 #[.pointer (some ⟨g,0,none⟩),.int .i64 (t619.length : Int)] ?_;(with_reducible refine (spec_l1Below.calls g s0_0 t622 t623 (t619.length : Int) t624 t625 t626 w0 _ ?side1 ?side2 A6.out).mono ?_);(case side1 => exact z1_);(case side2 => exact z2_);rintro e w30 ⟨rfl,hi,hb,hk⟩;refine ⟨_,rfl,?_⟩;replace HO621:=z100_;replace HK:=z99_;replace HB:=ak (hb);replace HI0:=ak (hi);clear hb hk hi) | ((with_reducible refine gate_callee (f:=49) rfl ?_);refine Hd.gl_ 16 Try.func49 #[.pointer (some ⟨g,0,none⟩),.int .i64 10] ?_;(with_reducible refine (spec_l1Below.calls g s0_0 t625 t626 10 t627 t628 t629 w0 _ ?side1 ?side2 A7.out).mono ?_);(case side1 => exact z1_);(case side2 => exact z2_);rintro e w31 ⟨rfl,hi,hb,hk⟩;refine ⟨_,rfl,?_⟩;replace HO621:=z100_;replace HK:=z99_;replace HB:=ak (hb);replace HI0:=ak (hi);clear hb hk hi) | ((with_reducible refine gate_dst (N:=31) rfl ?_);refine Kd.R_lit (Kd.int .i64) _ 3 ?hg (N:=31) ?hd (xs:=([(-1),9,10] : List Int)) (inner:=[.int .i64 (-1),.int .i64 9,.int .i64 10]) (ok:=fun _ => True) (okp:=fun _ => True) ?hr ?hp (fun _ hk => hk) trivial (Below.refl _ _) (Nat.le_refl _) (by simp) ?_;(case hd => rfl);(case hg => rfl);(case hr => exact z31_);(case hp => exact (Reps.one (show Kd.M (Kd.int .i64) _ _ _ (-1) [.int .i64 (-1)] from rfl) (Reps.one (show Kd.M (Kd.int .i64) _ _ _ 9 [.int .i64 9] from rfl) (Reps.one (show Kd.M (Kd.int .i64) _ _ _ 10 [.int .i64 10] from rfl) (Reps.none _ _)))));intro v638 w32 ho33 hb hg_ hnew_;clear hg_ hnew_;(first | rw [← Ny637.out] at ho33 | (simp only [Int.reduceToNat] at ho33;rw [← Ny637.out] at ho33));replace HO621:=ak (Kd.N_elder' (z13_ HO621) (Kd.R_base ho33) hb);have HO639:=ak (Kd.R_lower (Kd.R_newM (M:=fun k_ => (w.heap.size ≤ k_)) ho33 (keep_size (w:=w) (g:=g) (row:=none) z0_) (fun k_ h_ => h_)) (keep_size (w:=w) (g:=g) (row:=none) z0_));replace HK:=z98_;replace HB:=ak (below_step z2_ hb);replace HI0:=ak (IsS89.below z1_ hb);clear hb ho33;obtain ⟨Ao34,co34,eo34⟩:=Kd.R_slice HO639.out;subst eo34) | ((with_reducible refine gate_callee (f:=67) rfl ?_);refine Hd.gl_ 32 Try.func67 #[.pointer (some ⟨g,0,none⟩),.slice Ao34 y637.length co34] ?_;(with_reducible refine (spec_l1Int.calls g s0_0 t628 t629 _ _ y637 t640 t641 t642 w0 _ ?side1 ?side2 ?side3 ?side4 ?side5 A24.out).mono ?_);(case side1 => exact z1_);(case side2 => exact z2_);(case side3 => exact z26_ HO639);(case side4 => exact (Kd.R_reads' HO639.out).2.1);(case side5 => exact far_slice (IsS89.own_ne HI0.out HO639.out (by decide)));rintro e w35 ⟨rfl,hi,hb,hk⟩;refine ⟨_,rfl,?_⟩;replace HO621:=ak (Kd.N_mono (Kd.N_keep (Kd.N_mono (ok:=fun k_ => ((((w.heap.size ≤ k_)) ∧ k_ ≠ g) ∧ some k_ ≠ (.slice Ao34 y637.length co34 : Value).ownBlock)) (z13_ HO621) (fun k_ hk_ => (⟨hk_,hk_.1.2⟩ : _ ∧ k_ ≠ g))) hk (fun _ h => h.2)) (fun _ h => h.1));replace HO639:=ak (Kd.R_mono (Kd.R_keep (IsS89.apart (show IsS89 w0 _ g s0_0 t628 t629 from by repeat (first | (with_reducible first | exact HI0.out | apply IsS89.alloc | apply IsS89.drewN | apply IsS89.drew | apply IsS89.set_1 | apply IsS89.set_2) | exact HI0.out)) (Hd.r_ HO639) (by decide)) hk (fun _ h => h.2)) (fun _ h => h.1));replace HK:=z99_;replace HB:=ak (hb);replace HI0:=ak (hi);clear hb hk hi;have p27 : 0 ≤ (t624 : Int):=of_decide_eq_true Hd.a_;have q27 : (t624 : Int) < ((t619.length : Int) : Int):=of_decide_eq_true Hd.a_;obtain ⟨go27,co27,eo27,gb27,gl27,cl27,HG27⟩:=Kd.N_form HO621.out (by omega);(first | cases eo27 | (injection eo27 with ea_ en_ ec_;(first | subst ea_ | (injection ea_ with ea_;subst ea_));subst ec_;clear en_));have GB27:=ak gb27;have GG27:=ak HG27;clear gb27 gl27 HG27;obtain ⟨ce27,hcl27,hM27,hcc27,hfr27⟩:=Kd.N_elem HO621.out z34 (t624 : Int) p27 q27;obtain ⟨ua27_4,uc27_4,rfl,ul27_4,ge27_4⟩:=k34_openF hM27;have hx27_0 : w35.cell? ⟨go27,(t624 : Int).toNat * 5,none⟩ = some (.int .i64 ((rd_T34 t619 t624).f0)):=hcc27 0 _ rfl;have hx27_1 : w35.cell? ⟨go27,(t624 : Int).toNat * 5 + 1,none⟩ = some (.int .i64 ((rd_T34 t619 t624).f1)):=hcc27 1 _ rfl;have hx27_2 : w35.cell? ⟨go27,(t624 : Int).toNat * 5 + 2,none⟩ = some (.int .i64 ((rd_T34 t619 t624).f2)):=hcc27 2 _ rfl;have hx27_3 : w35.cell? ⟨go27,(t624 : Int).toNat * 5 + 3,none⟩ = some (.string ((rd_T34 t619 t624).f3)):=hcc27 3 _ rfl;have hx27_4 : w35.cell? ⟨go27,(t624 : Int).toNat * 5 + 4,none⟩ = some (.slice ua27_4 ((rd_T34 t619 t624).f4).length uc27_4):=hcc27 4 _ rfl;have hf27_0 : w35.frozen? ⟨go27,(t624 : Int).toNat * 5,none⟩ = false:=hfr27 0;have hf27_1 : w35.frozen? ⟨go27,(t624 : Int).toNat * 5 + 1,none⟩ = false:=hfr27 1;have hf27_2 : w35.frozen? ⟨go27,(t624 : Int).toNat * 5 + 2,none⟩ = false:=hfr27 2;have hf27_3 : w35.frozen? ⟨go27,(t624 : Int).toNat * 5 + 3,none⟩ = false:=hfr27 3;have hf27_4 : w35.frozen? ⟨go27,(t624 : Int).toNat * 5 + 4,none⟩ = false:=hfr27 4;clear hcl27 hcc27 hfr27 hM27;replace p27:=eq_true p27;replace q27:=eq_true q27;have n_:=ak (Kd.N_mono (ok':=(fun k_ => (w.heap.size ≤ k_) ∧ some k_ ≠ (.slice Ao34 y637.length co34 : Value).ownBlock)) HO621.out (fun k_ hk => ⟨hk.1.1,hk.2⟩));clear HO621;have HO621:=n_;clear n_;have HX36:=ak (show Kd.N k34 34 w35 w.heap.size (fun k_ => (w.heap.size ≤ k_) ∧ some k_ ≠ (.slice Ao34 y637.length co34 : Value).ownBlock) (.slice (some ⟨go27,0,none⟩) t619.length co29) t619 from (z13_ HO621));obtain ⟨ce36,hcl36,hM36,hcc36,hfr36⟩:=Kd.N_elem HX36.out z34 (t624 : Int) (of_decide_eq_true Hd.a_) (by have h_ : (t624 : Int) < ((t619.length : Int) : Int):=of_decide_eq_true Hd.a_;first | exact h_ | (have e_:=(Kd.N_reads' HO621.out).1;omega) | simpa using h_);obtain ⟨ua36_4,uc36_4,rfl,ul36_4,ge36_4⟩:=k34_openF hM36;have HP36:=Kd.N_seg HX36.out (t624 : Int) (of_decide_eq_true Hd.a_) (by have h_ : (t624 : Int) < ((t619.length : Int) : Int):=of_decide_eq_true Hd.a_;first | exact h_ | (have e_:=(Kd.N_reads' HO621.out).1;omega) | simpa using h_) (seg:=[.int .i64 t640]) (j:=2) hcl36 hcc36 (show 3 ≤ 5 from by decide) (x':=(⟨(rd_T34 t619 t624).f0,(rd_T34 t619 t624).f1,t640,(rd_T34 t619 t624).f3,(rd_T34 t619 t624).f4⟩ : S34)) (k34_mkF _ _ (⟨(rd_T34 t619 t624).f0,(rd_T34 t619 t624).f1,t640,(rd_T34 t619 t624).f3,(rd_T34 t619 t624).f4⟩ : S34) ul36_4 ge36_4) (fun _ hk => hk);have hx36_2:=hcc36 2 _ rfl;(try simp only [show (k34).sz = 5 from rfl,Nat.mul_one,Nat.add_zero] at hx36_2);have hf36_2:=hfr36 2;(try simp only [show (k34).sz = 5 from rfl,Nat.mul_one,Nat.add_zero] at hf36_2);clear hcl36 hcc36 hfr36 hM36) | ((with_reducible refine gate_store (t:=3) (p:=34) rfl ?_);refine store_event (t:=3) (p:=34) (v:=?vo_w37) (w1:=(w35.setCell ⟨go27,(t624 : Int).toNat * 5 + 2,none⟩ (.int .i64 t640))) ?hg ?ho ?hn ?hr ?_;(case ho => rfl);(case hg => rfl);(case hn => rfl);(case hr => exact z31_);intro w37 hw;have hg : w35.grownBy w37 (some go27):=(by rw [hw];exact HP36.2);have hp_ : Kd.N k34 34 w37 w.heap.size (fun k_ => (w.heap.size ≤ k_) ∧ some k_ ≠ (.slice Ao34 y637.length co34 : Value).ownBlock) (.slice (some ⟨go27,0,none⟩) t619.length co29) y643:=(by rw [hw,Ny643.out];exact HP36.1);clear HP36;replace HI0:=z108_ HO621;replace HO639:=ak (Kd.R_over' (v:=(.slice (some ⟨go27,0,none⟩) t619.length co29)) (Hd.r_ HO639) (Kd.N_typed HO621.out) (by decide) hg);replace HB:=ak ((by rw [hw];exact below_set (HB.out) (Nat.le_trans HL.out GB27.out) : Below w0.heap.size w0 w37));replace HK:=ak (KeepBut.trans z0_ (KeepBut.of_grown hg g) (Kd.N_base2 HO621.out));replace HO621:=ak (hp_);clear hg hw hp_))
  go_ret
  exact ⟨_,Hd.e_,z37_ HO621,z1_,z2_,z0_⟩
 rw [if_neg c23] at H
 have c23b0:=beq_eq_false_iff_ne.mpr c23
 have c23b1:=bne_iff_ne.mpr c23
 by_cases c38 : t627 = 2
 ·
  rw [if_pos c38] at H
  have c38b0:=beq_iff_eq.mpr c38
  have c38b1:=bne_eq_false_iff_eq.mpr c38
  clear c38
  generalize hy644 : (([(⟨#[65]⟩ : ByteArray),(⟨#[116,111,111,108,111,110,103,97,97]⟩ : ByteArray),(⟨#[97,32,98]⟩ : ByteArray)] : List ByteArray)) = y644 at H;have Ny644:=ak hy644.symm;clear hy644;try rw [Option.bind_some] at H
  replace H:=Hd.bd_ H;obtain ⟨⟨t647,t648,t649⟩,A39,H⟩:=H;dsimp only at H
  by_cases c40 : 0 ≤ t624;rotate_left
  ·
   rw [if_neg c40] at H
   exact absurd H (by simp)
  rw [if_pos c40] at H
  have c40b0:=decide_eq_true c40
  clear c40
  by_cases c41 : t624 < (t619.length : Int);rotate_left
  ·
   rw [if_neg c41] at H
   exact absurd H (by simp)
  rw [if_pos c41] at H
  have c41b0:=decide_eq_true c41
  clear c41
  generalize hy650 : (t619.set (t624 : Int).toNat (⟨(rd_T34 t619 t624).f0,(rd_T34 t619 t624).f1,(rd_T34 t619 t624).f2,t647,(rd_T34 t619 t624).f4⟩ : S34)) = y650 at H;have Ny650:=ak hy650.symm;clear hy650;try rw [Option.bind_some] at H
  simp only [Option.some.injEq,Prod.mk.injEq] at H
  obtain ⟨rfl,rfl,rfl⟩:=H
  go_enter Try.func46,Try.ntmps46
  go_wp2_with (first | ((with_reducible refine gate_callee (f:=66) rfl ?_);refine Hd.gl_ 6 Try.func66 #[.pointer (some ⟨g,0,none⟩)] ?_;(with_reducible refine (spec_l9Source.calls k g s0_0 s0_1 s0_2 t619 t622 t623 w0 _ ?side1 ?side2 A2.out).mono ?_);(case side1 => exact z1_);(case side2 => exact z2_);rintro e w43 ⟨v620,rfl,ho0,hi,hb,hk⟩;refine ⟨_,rfl,?_⟩;have HO621:=z101_;replace HK:=z99_;replace HB:=ak (hb);replace HI0:=ak (hi);clear hb hk hi ho0;obtain ⟨Ao44,co44,eo44⟩:=Kd.N_slice HO621.out;subst eo44) | ((with_reducible refine gate_callee (f:=49) rfl ?_);refine Hd.gl_ 14 Try.func49 #[.pointer (some ⟨g,0,none⟩),.int .i64 (t619.length : Int)] ?_;(with_reducible refine (spec_l1Below.calls g s0_0 t622 t623 (t619.length : Int) t624 t625 t626 w0 _ ?side1 ?side2 A6.out).mono ?_);(case side1 => exact z1_);(case side2 => exact z2_);rintro e w45 ⟨rfl,hi,hb,hk⟩;refine ⟨_,rfl,?_⟩;replace HO621:=z100_;replace HK:=z99_;replace HB:=ak (hb);replace HI0:=ak (hi);clear hb hk hi) | ((with_reducible refine gate_callee (f:=49) rfl ?_);refine Hd.gl_ 16 Try.func49 #[.pointer (some ⟨g,0,none⟩),.int .i64 10] ?_;(with_reducible refine (spec_l1Below.calls g s0_0 t625 t626 10 t627 t628 t629 w0 _ ?side1 ?side2 A7.out).mono ?_);(case side1 => exact z1_);(case side2 => exact z2_);rintro e w46 ⟨rfl,hi,hb,hk⟩;refine ⟨_,rfl,?_⟩;replace HO621:=z100_;replace HK:=z99_;replace HB:=ak (hb);replace HI0:=ak (hi);clear hb hk hi) | ((with_reducible refine gate_dst (N:=40) rfl ?_);refine Kd.R_lit Kd.string _ 9 ?hg (N:=40) ?hd (xs:=([(⟨#[65]⟩ : ByteArray),(⟨#[116,111,111,108,111,110,103,97,97]⟩ : ByteArray),(⟨#[97,32,98]⟩ : ByteArray)] : List ByteArray)) (inner:=[.string (⟨#[65]⟩ : ByteArray),.string (⟨#[116,111,111,108,111,110,103,97,97]⟩ : ByteArray),.string (⟨#[97,32,98]⟩ : ByteArray)]) (ok:=fun _ => True) (okp:=fun _ => True) ?hr ?hp (fun _ hk => hk) trivial (Below.refl _ _) (Nat.le_refl _) (by simp) ?_;(case hd => rfl);(case hg => rfl);(case hr => exact z31_);(case hp => exact (Reps.one (show Kd.M Kd.string _ _ _ (⟨#[65]⟩ : ByteArray) [.string (⟨#[65]⟩ : ByteArray)] from rfl) (Reps.one (show Kd.M Kd.string _ _ _ (⟨#[116,111,111,108,111,110,103,97,97]⟩ : ByteArray) [.string (⟨#[116,111,111,108,111,110,103,97,97]⟩ : ByteArray)] from rfl) (Reps.one (show Kd.M Kd.string _ _ _ (⟨#[97,32,98]⟩ : ByteArray) [.string (⟨#[97,32,98]⟩ : ByteArray)] from rfl) (Reps.none _ _)))));intro v645 w47 ho48 hb hg_ hnew_;clear hg_ hnew_;(first | rw [← Ny644.out] at ho48 | (simp only [Int.reduceToNat] at ho48;rw [← Ny644.out] at ho48));replace HO621:=ak (Kd.N_elder' (z13_ HO621) (Kd.R_base ho48) hb);have HO646:=ak (Kd.R_lower (Kd.R_newM (M:=fun k_ => (w.heap.size ≤ k_)) ho48 (keep_size (w:=w) (g:=g) (row:=none) z0_) (fun k_ h_ => h_)) (keep_size (w:=w) (g:=g) (row:=none) z0_));replace HK:=z98_;replace HB:=ak (below_step z2_ hb);replace HI0:=ak (IsS89.below z1_ hb);clear hb ho48;obtain ⟨Ao49,co49,eo49⟩:=Kd.R_slice HO646.out;subst eo49) | ((with_reducible refine gate_callee (f:=68) rfl ?_);refine Hd.gl_ 41 Try.func68 #[.pointer (some ⟨g,0,none⟩),.slice Ao49 y644.length co49] ?_;(with_reducible refine (spec_l1Str.calls g s0_0 t628 t629 _ _ y644 t647 t648 t649 w0 _ ?side1 ?side2 ?side3 ?side4 ?side5 A39.out).mono ?_);(case side1 => exact z1_);(case side2 => exact z2_);(case side3 => exact z26_ HO646);(case side4 => exact (Kd.R_reads' HO646.out).2.1);(case side5 => exact far_slice (IsS89.own_ne HI0.out HO646.out (by decide)));rintro e w50 ⟨rfl,hi,hb,hk⟩;refine ⟨_,rfl,?_⟩;replace HO621:=ak (Kd.N_mono (Kd.N_keep (Kd.N_mono (ok:=fun k_ => ((((w.heap.size ≤ k_)) ∧ k_ ≠ g) ∧ some k_ ≠ (.slice Ao49 y644.length co49 : Value).ownBlock)) (z13_ HO621) (fun k_ hk_ => (⟨hk_,hk_.1.2⟩ : _ ∧ k_ ≠ g))) hk (fun _ h => h.2)) (fun _ h => h.1));replace HO646:=ak (Kd.R_mono (Kd.R_keep (IsS89.apart (show IsS89 w0 _ g s0_0 t628 t629 from by repeat (first | (with_reducible first | exact HI0.out | apply IsS89.alloc | apply IsS89.drewN | apply IsS89.drew | apply IsS89.set_1 | apply IsS89.set_2) | exact HI0.out)) (Hd.r_ HO646) (by decide)) hk (fun _ h => h.2)) (fun _ h => h.1));replace HK:=z99_;replace HB:=ak (hb);replace HI0:=ak (hi);clear hb hk hi;have p42 : 0 ≤ (t624 : Int):=of_decide_eq_true Hd.a_;have q42 : (t624 : Int) < ((t619.length : Int) : Int):=of_decide_eq_true Hd.a_;obtain ⟨go42,co42,eo42,gb42,gl42,cl42,HG42⟩:=Kd.N_form HO621.out (by omega);(first | cases eo42 | (injection eo42 with ea_ en_ ec_;(first | subst ea_ | (injection ea_ with ea_;subst ea_));subst ec_;clear en_));have GB42:=ak gb42;have GG42:=ak HG42;clear gb42 gl42 HG42;obtain ⟨ce42,hcl42,hM42,hcc42,hfr42⟩:=Kd.N_elem HO621.out z34 (t624 : Int) p42 q42;obtain ⟨ua42_4,uc42_4,rfl,ul42_4,ge42_4⟩:=k34_openF hM42;have hx42_0 : w50.cell? ⟨go42,(t624 : Int).toNat * 5,none⟩ = some (.int .i64 ((rd_T34 t619 t624).f0)):=hcc42 0 _ rfl;have hx42_1 : w50.cell? ⟨go42,(t624 : Int).toNat * 5 + 1,none⟩ = some (.int .i64 ((rd_T34 t619 t624).f1)):=hcc42 1 _ rfl;have hx42_2 : w50.cell? ⟨go42,(t624 : Int).toNat * 5 + 2,none⟩ = some (.int .i64 ((rd_T34 t619 t624).f2)):=hcc42 2 _ rfl;have hx42_3 : w50.cell? ⟨go42,(t624 : Int).toNat * 5 + 3,none⟩ = some (.string ((rd_T34 t619 t624).f3)):=hcc42 3 _ rfl;have hx42_4 : w50.cell? ⟨go42,(t624 : Int).toNat * 5 + 4,none⟩ = some (.slice ua42_4 ((rd_T34 t619 t624).f4).length uc42_4):=hcc42 4 _ rfl;have hf42_0 : w50.frozen? ⟨go42,(t624 : Int).toNat * 5,none⟩ = false:=hfr42 0;have hf42_1 : w50.frozen? ⟨go42,(t624 : Int).toNat * 5 + 1,none⟩ = false:=hfr42 1;have hf42_2 : w50.frozen? ⟨go42,(t624 : Int).toNat * 5 + 2,none⟩ = false:=hfr42 2;have hf42_3 : w50.frozen? ⟨go42,(t624 : Int).toNat * 5 + 3,none⟩ = false:=hfr42 3;have hf42_4 : w50.frozen? ⟨go42,(t624 : Int).toNat * 5 + 4,none⟩ = false:=hfr42 4;clear hcl42 hcc42 hfr42 hM42;replace p42:=eq_true p42;replace q42:=eq_true q42;have n_:=ak (Kd.N_mono (ok':=(fun k_ => (w.heap.size ≤ k_) ∧ some k_ ≠ (.slice Ao49 y644.length co49 : Value).ownBlock)) HO621.out (fun k_ hk => ⟨hk.1.1,hk.2⟩));clear HO621;have HO621:=n_;clear n_;have HX51:=ak (show Kd.N k34 34 w50 w.heap.size (fun k_ => (w.heap.size ≤ k_) ∧ some k_ ≠ (.slice Ao49 y644.length co49 : Value).ownBlock) (.slice (some ⟨go42,0,none⟩) t619.length co44) t619 from (z13_ HO621));obtain ⟨ce51,hcl51,hM51,hcc51,hfr51⟩:=Kd.N_elem HX51.out z34 (t624 : Int) (of_decide_eq_true Hd.a_) (by have h_ : (t624 : Int) < ((t619.length : Int) : Int):=of_decide_eq_true Hd.a_;first | exact h_ | (have e_:=(Kd.N_reads' HO621.out).1;omega) | simpa using h_);obtain ⟨ua51_4,uc51_4,rfl,ul51_4,ge51_4⟩:=k34_openF hM51;have HP51:=Kd.N_seg HX51.out (t624 : Int) (of_decide_eq_true Hd.a_) (by have h_ : (t624 : Int) < ((t619.length : Int) : Int):=of_decide_eq_true Hd.a_;first | exact h_ | (have e_:=(Kd.N_reads' HO621.out).1;omega) | simpa using h_) (seg:=[.string t647]) (j:=3) hcl51 hcc51 (show 4 ≤ 5 from by decide) (x':=(⟨(rd_T34 t619 t624).f0,(rd_T34 t619 t624).f1,(rd_T34 t619 t624).f2,t647,(rd_T34 t619 t624).f4⟩ : S34)) (k34_mkF _ _ (⟨(rd_T34 t619 t624).f0,(rd_T34 t619 t624).f1,(rd_T34 t619 t624).f2,t647,(rd_T34 t619 t624).f4⟩ : S34) ul51_4 ge51_4) (fun _ hk => hk);have hx51_3:=hcc51 3 _ rfl;(try simp only [show (k34).sz = 5 from rfl,Nat.mul_one,Nat.add_zero] at hx51_3);have hf51_3:=hfr51 3;(try simp only [show (k34).sz = 5 from rfl,Nat.mul_one,Nat.add_zero] at hf51_3);clear hcl51 hcc51 hfr51 hM51) | ((with_reducible refine gate_store (t:=9) (p:=43) rfl ?_);refine store_event (t:=9) (p:=43) (v:=?vo_w52) (w1:=(w50.setCell ⟨go42,(t624 : Int).toNat * 5 + 3,none⟩ (.string t647))) ?hg ?ho ?hn ?hr ?_;(case ho => rfl);(case hg => rfl);(case hn => rfl);(case hr => exact z31_);intro w52 hw;have hg : w50.grownBy w52 (some go42):=(by rw [hw];exact HP51.2);have hp_ : Kd.N k34 34 w52 w.heap.size (fun k_ => (w.heap.size ≤ k_) ∧ some k_ ≠ (.slice Ao49 y644.length co49 : Value).ownBlock) (.slice (some ⟨go42,0,none⟩) t619.length co44) y650:=(by rw [hw,Ny650.out];exact HP51.1);clear HP51;replace HI0:=z108_ HO621;replace HO646:=ak (Kd.R_over' (v:=(.slice (some ⟨go42,0,none⟩) t619.length co44)) (Hd.r_ HO646) (Kd.N_typed HO621.out) (by decide) hg);replace HB:=ak ((by rw [hw];exact below_set (HB.out) (Nat.le_trans HL.out GB42.out) : Below w0.heap.size w0 w52));replace HK:=ak (KeepBut.trans z0_ (KeepBut.of_grown hg g) (Kd.N_base2 HO621.out));replace HO621:=ak (hp_);clear hg hw hp_))
  go_ret
  exact ⟨_,Hd.e_,z37_ HO621,z1_,z2_,z0_⟩
 rw [if_neg c38] at H
 have c38b0:=beq_eq_false_iff_ne.mpr c38
 have c38b1:=bne_iff_ne.mpr c38
 by_cases c53 : t627 = 3
 ·
  rw [if_pos c53] at H
  have c53b0:=beq_iff_eq.mpr c53
  have c53b1:=bne_eq_false_iff_eq.mpr c53
  clear c53
  generalize hy651 : (([0,1,2,3,4] : List Int)) = y651 at H;have Ny651:=ak hy651.symm;clear hy651;try rw [Option.bind_some] at H
  replace H:=Hd.bd_ H;obtain ⟨⟨t654,t655,t656⟩,A54,H⟩:=H;dsimp only at H
  by_cases c55 : 0 ≤ t624;rotate_left
  ·
   rw [if_neg c55] at H
   exact absurd H (by simp)
  rw [if_pos c55] at H
  have c55b0:=decide_eq_true c55
  clear c55
  by_cases c56 : t624 < (t619.length : Int);rotate_left
  ·
   rw [if_neg c56] at H
   exact absurd H (by simp)
  rw [if_pos c56] at H
  have c56b0:=decide_eq_true c56
  clear c56
  generalize hy657 : (t619.set (t624 : Int).toNat (⟨(rd_T34 t619 t624).f0,t654,(rd_T34 t619 t624).f2,(rd_T34 t619 t624).f3,(rd_T34 t619 t624).f4⟩ : S34)) = y657 at H;have Ny657:=ak hy657.symm;clear hy657;try rw [Option.bind_some] at H
  simp only [Option.some.injEq,Prod.mk.injEq] at H
  obtain ⟨rfl,rfl,rfl⟩:=H
  go_enter Try.func46,Try.ntmps46
  go_wp2_with (first | ((with_reducible refine gate_callee (f:=66) rfl ?_);refine Hd.gl_ 6 Try.func66 #[.pointer (some ⟨g,0,none⟩)] ?_;(with_reducible refine (spec_l9Source.calls k g s0_0 s0_1 s0_2 t619 t622 t623 w0 _ ?side1 ?side2 A2.out).mono ?_);(case side1 => exact z1_);(case side2 => exact z2_);rintro e w58 ⟨v620,rfl,ho0,hi,hb,hk⟩;refine ⟨_,rfl,?_⟩;have HO621:=z101_;replace HK:=z99_;replace HB:=ak (hb);replace HI0:=ak (hi);clear hb hk hi ho0;obtain ⟨Ao59,co59,eo59⟩:=Kd.N_slice HO621.out;subst eo59) | ((with_reducible refine gate_callee (f:=49) rfl ?_);refine Hd.gl_ 14 Try.func49 #[.pointer (some ⟨g,0,none⟩),.int .i64 (t619.length : Int)] ?_;(with_reducible refine (spec_l1Below.calls g s0_0 t622 t623 (t619.length : Int) t624 t625 t626 w0 _ ?side1 ?side2 A6.out).mono ?_);(case side1 => exact z1_);(case side2 => exact z2_);rintro e w60 ⟨rfl,hi,hb,hk⟩;refine ⟨_,rfl,?_⟩;replace HO621:=z100_;replace HK:=z99_;replace HB:=ak (hb);replace HI0:=ak (hi);clear hb hk hi) | ((with_reducible refine gate_callee (f:=49) rfl ?_);refine Hd.gl_ 16 Try.func49 #[.pointer (some ⟨g,0,none⟩),.int .i64 10] ?_;(with_reducible refine (spec_l1Below.calls g s0_0 t625 t626 10 t627 t628 t629 w0 _ ?side1 ?side2 A7.out).mono ?_);(case side1 => exact z1_);(case side2 => exact z2_);rintro e w61 ⟨rfl,hi,hb,hk⟩;refine ⟨_,rfl,?_⟩;replace HO621:=z100_;replace HK:=z99_;replace HB:=ak (hb);replace HI0:=ak (hi);clear hb hk hi) | ((with_reducible refine gate_dst (N:=49) rfl ?_);refine Kd.R_lit (Kd.int .i64) _ 3 ?hg (N:=49) ?hd (xs:=([0,1,2,3,4] : List Int)) (inner:=[.int .i64 0,.int .i64 1,.int .i64 2,.int .i64 3,.int .i64 4]) (ok:=fun _ => True) (okp:=fun _ => True) ?hr ?hp (fun _ hk => hk) trivial (Below.refl _ _) (Nat.le_refl _) (by simp) ?_;(case hd => rfl);(case hg => rfl);(case hr => exact z31_);(case hp => exact (Reps.one (show Kd.M (Kd.int .i64) _ _ _ 0 [.int .i64 0] from rfl) (Reps.one (show Kd.M (Kd.int .i64) _ _ _ 1 [.int .i64 1] from rfl) (Reps.one (show Kd.M (Kd.int .i64) _ _ _ 2 [.int .i64 2] from rfl) (Reps.one (show Kd.M (Kd.int .i64) _ _ _ 3 [.int .i64 3] from rfl) (Reps.one (show Kd.M (Kd.int .i64) _ _ _ 4 [.int .i64 4] from rfl) (Reps.none _ _)))))));intro v652 w62 ho63 hb hg_ hnew_;clear hg_ hnew_;(first | rw [← Ny651.out] at ho63 | (simp only [Int.reduceToNat] at ho63;rw [← Ny651.out] at ho63));replace HO621:=ak (Kd.N_elder' (z13_ HO621) (Kd.R_base ho63) hb);have HO653:=ak (Kd.R_lower (Kd.R_newM (M:=fun k_ => (w.heap.size ≤ k_)) ho63 (keep_size (w:=w) (g:=g) (row:=none) z0_) (fun k_ h_ => h_)) (keep_size (w:=w) (g:=g) (row:=none) z0_));replace HK:=z98_;replace HB:=ak (below_step z2_ hb);replace HI0:=ak (IsS89.below z1_ hb);clear hb ho63;obtain ⟨Ao64,co64,eo64⟩:=Kd.R_slice HO653.out;subst eo64) | ((with_reducible refine gate_callee (f:=67) rfl ?_);refine Hd.gl_ 50 Try.func67 #[.pointer (some ⟨g,0,none⟩),.slice Ao64 y651.length co64] ?_;(with_reducible refine (spec_l1Int.calls g s0_0 t628 t629 _ _ y651 t654 t655 t656 w0 _ ?side1 ?side2 ?side3 ?side4 ?side5 A54.out).mono ?_);(case side1 => exact z1_);(case side2 => exact z2_);(case side3 => exact z26_ HO653);(case side4 => exact (Kd.R_reads' HO653.out).2.1);(case side5 => exact far_slice (IsS89.own_ne HI0.out HO653.out (by decide)));rintro e w65 ⟨rfl,hi,hb,hk⟩;refine ⟨_,rfl,?_⟩;replace HO621:=ak (Kd.N_mono (Kd.N_keep (Kd.N_mono (ok:=fun k_ => ((((w.heap.size ≤ k_)) ∧ k_ ≠ g) ∧ some k_ ≠ (.slice Ao64 y651.length co64 : Value).ownBlock)) (z13_ HO621) (fun k_ hk_ => (⟨hk_,hk_.1.2⟩ : _ ∧ k_ ≠ g))) hk (fun _ h => h.2)) (fun _ h => h.1));replace HO653:=ak (Kd.R_mono (Kd.R_keep (IsS89.apart (show IsS89 w0 _ g s0_0 t628 t629 from by repeat (first | (with_reducible first | exact HI0.out | apply IsS89.alloc | apply IsS89.drewN | apply IsS89.drew | apply IsS89.set_1 | apply IsS89.set_2) | exact HI0.out)) (Hd.r_ HO653) (by decide)) hk (fun _ h => h.2)) (fun _ h => h.1));replace HK:=z99_;replace HB:=ak (hb);replace HI0:=ak (hi);clear hb hk hi;have p57 : 0 ≤ (t624 : Int):=of_decide_eq_true Hd.a_;have q57 : (t624 : Int) < ((t619.length : Int) : Int):=of_decide_eq_true Hd.a_;obtain ⟨go57,co57,eo57,gb57,gl57,cl57,HG57⟩:=Kd.N_form HO621.out (by omega);(first | cases eo57 | (injection eo57 with ea_ en_ ec_;(first | subst ea_ | (injection ea_ with ea_;subst ea_));subst ec_;clear en_));have GB57:=ak gb57;have GG57:=ak HG57;clear gb57 gl57 HG57;obtain ⟨ce57,hcl57,hM57,hcc57,hfr57⟩:=Kd.N_elem HO621.out z34 (t624 : Int) p57 q57;obtain ⟨ua57_4,uc57_4,rfl,ul57_4,ge57_4⟩:=k34_openF hM57;have hx57_0 : w65.cell? ⟨go57,(t624 : Int).toNat * 5,none⟩ = some (.int .i64 ((rd_T34 t619 t624).f0)):=hcc57 0 _ rfl;have hx57_1 : w65.cell? ⟨go57,(t624 : Int).toNat * 5 + 1,none⟩ = some (.int .i64 ((rd_T34 t619 t624).f1)):=hcc57 1 _ rfl;have hx57_2 : w65.cell? ⟨go57,(t624 : Int).toNat * 5 + 2,none⟩ = some (.int .i64 ((rd_T34 t619 t624).f2)):=hcc57 2 _ rfl;have hx57_3 : w65.cell? ⟨go57,(t624 : Int).toNat * 5 + 3,none⟩ = some (.string ((rd_T34 t619 t624).f3)):=hcc57 3 _ rfl;have hx57_4 : w65.cell? ⟨go57,(t624 : Int).toNat * 5 + 4,none⟩ = some (.slice ua57_4 ((rd_T34 t619 t624).f4).length uc57_4):=hcc57 4 _ rfl;have hf57_0 : w65.frozen? ⟨go57,(t624 : Int).toNat * 5,none⟩ = false:=hfr57 0;have hf57_1 : w65.frozen? ⟨go57,(t624 : Int).toNat * 5 + 1,none⟩ = false:=hfr57 1;have hf57_2 : w65.frozen? ⟨go57,(t624 : Int).toNat * 5 + 2,none⟩ = false:=hfr57 2;have hf57_3 : w65.frozen? ⟨go57,(t624 : Int).toNat * 5 + 3,none⟩ = false:=hfr57 3;have hf57_4 : w65.frozen? ⟨go57,(t624 : Int).toNat * 5 + 4,none⟩ = false:=hfr57 4;clear hcl57 hcc57 hfr57 hM57;replace p57:=eq_true p57;replace q57:=eq_true q57;have n_:=ak (Kd.N_mono (ok':=(fun k_ => (w.heap.size ≤ k_) ∧ some k_ ≠ (.slice Ao64 y651.length co64 : Value).ownBlock)) HO621.out (fun k_ hk => ⟨hk.1.1,hk.2⟩));clear HO621;have HO621:=n_;clear n_;have HX66:=ak (show Kd.N k34 34 w65 w.heap.size (fun k_ => (w.heap.size ≤ k_) ∧ some k_ ≠ (.slice Ao64 y651.length co64 : Value).ownBlock) (.slice (some ⟨go57,0,none⟩) t619.length co59) t619 from (z13_ HO621));obtain ⟨ce66,hcl66,hM66,hcc66,hfr66⟩:=Kd.N_elem HX66.out z34 (t624 : Int) (of_decide_eq_true Hd.a_) (by have h_ : (t624 : Int) < ((t619.length : Int) : Int):=of_decide_eq_true Hd.a_;first | exact h_ | (have e_:=(Kd.N_reads' HO621.out).1;omega) | simpa using h_);obtain ⟨ua66_4,uc66_4,rfl,ul66_4,ge66_4⟩:=k34_openF hM66;have HP66:=Kd.N_seg HX66.out (t624 : Int) (of_decide_eq_true Hd.a_) (by have h_ : (t624 : Int) < ((t619.length : Int) : Int):=of_decide_eq_true Hd.a_;first | exact h_ | (have e_:=(Kd.N_reads' HO621.out).1;omega) | simpa using h_) (seg:=[.int .i64 t654]) (j:=1) hcl66 hcc66 (show 2 ≤ 5 from by decide) (x':=(⟨(rd_T34 t619 t624).f0,t654,(rd_T34 t619 t624).f2,(rd_T34 t619 t624).f3,(rd_T34 t619 t624).f4⟩ : S34)) (k34_mkF _ _ (⟨(rd_T34 t619 t624).f0,t654,(rd_T34 t619 t624).f2,(rd_T34 t619 t624).f3,(rd_T34 t619 t624).f4⟩ : S34) ul66_4 ge66_4) (fun _ hk => hk);have hx66_1:=hcc66 1 _ rfl;(try simp only [show (k34).sz = 5 from rfl,Nat.mul_one,Nat.add_zero] at hx66_1);have hf66_1:=hfr66 1;(try simp only [show (k34).sz = 5 from rfl,Nat.mul_one,Nat.add_zero] at hf66_1);clear hcl66 hcc66 hfr66 hM66) | ((with_reducible refine gate_store (t:=3) (p:=52) rfl ?_);refine store_event (t:=3) (p:=52) (v:=?vo_w67) (w1:=(w65.setCell ⟨go57,(t624 : Int).toNat * 5 + 1,none⟩ (.int .i64 t654))) ?hg ?ho ?hn ?hr ?_;(case ho => rfl);(case hg => rfl);(case hn => rfl);(case hr => exact z31_);intro w67 hw;have hg : w65.grownBy w67 (some go57):=(by rw [hw];exact HP66.2);have hp_ : Kd.N k34 34 w67 w.heap.size (fun k_ => (w.heap.size ≤ k_) ∧ some k_ ≠ (.slice Ao64 y651.length co64 : Value).ownBlock) (.slice (some ⟨go57,0,none⟩) t619.length co59) y657:=(by rw [hw,Ny657.out];exact HP66.1);clear HP66;replace HI0:=z108_ HO621;replace HO653:=ak (Kd.R_over' (v:=(.slice (some ⟨go57,0,none⟩) t619.length co59)) (Hd.r_ HO653) (Kd.N_typed HO621.out) (by decide) hg);replace HB:=ak ((by rw [hw];exact below_set (HB.out) (Nat.le_trans HL.out GB57.out) : Below w0.heap.size w0 w67));replace HK:=ak (KeepBut.trans z0_ (KeepBut.of_grown hg g) (Kd.N_base2 HO621.out));replace HO621:=ak (hp_);clear hg hw hp_))
  go_ret
  exact ⟨_,Hd.e_,z37_ HO621,z1_,z2_,z0_⟩
 rw [if_neg c53] at H
 have c53b0:=beq_eq_false_iff_ne.mpr c53
 have c53b1:=bne_iff_ne.mpr c53
 by_cases c68 : t627 = 4;rotate_left
 ·
  rw [if_neg c68] at H
  have c68b0:=beq_eq_false_iff_ne.mpr c68
  have c68b1:=bne_iff_ne.mpr c68
  simp only [Option.some.injEq,Prod.mk.injEq] at H
  obtain ⟨rfl,rfl,rfl⟩:=H
  go_enter Try.func46,Try.ntmps46
  go_wp2_with (first | ((with_reducible refine gate_callee (f:=66) rfl ?_);refine Hd.gl_ 6 Try.func66 #[.pointer (some ⟨g,0,none⟩)] ?_;(with_reducible refine (spec_l9Source.calls k g s0_0 s0_1 s0_2 t619 t622 t623 w0 _ ?side1 ?side2 A2.out).mono ?_);(case side1 => exact z1_);(case side2 => exact z2_);rintro e w80 ⟨v620,rfl,ho0,hi,hb,hk⟩;refine ⟨_,rfl,?_⟩;have HO621:=z101_;replace HK:=z99_;replace HB:=ak (hb);replace HI0:=ak (hi);clear hb hk hi ho0;obtain ⟨Ao81,co81,eo81⟩:=Kd.N_slice HO621.out;subst eo81) | ((with_reducible refine gate_callee (f:=49) rfl ?_);refine Hd.gl_ 14 Try.func49 #[.pointer (some ⟨g,0,none⟩),.int .i64 (t619.length : Int)] ?_;(with_reducible refine (spec_l1Below.calls g s0_0 t622 t623 (t619.length : Int) t624 t625 t626 w0 _ ?side1 ?side2 A6.out).mono ?_);(case side1 => exact z1_);(case side2 => exact z2_);rintro e w82 ⟨rfl,hi,hb,hk⟩;refine ⟨_,rfl,?_⟩;replace HO621:=z100_;replace HK:=z99_;replace HB:=ak (hb);replace HI0:=ak (hi);clear hb hk hi) | ((with_reducible refine gate_callee (f:=49) rfl ?_);refine Hd.gl_ 16 Try.func49 #[.pointer (some ⟨g,0,none⟩),.int .i64 10] ?_;(with_reducible refine (spec_l1Below.calls g s0_0 t625 t626 10 t627 t628 t629 w0 _ ?side1 ?side2 A7.out).mono ?_);(case side1 => exact z1_);(case side2 => exact z2_);rintro e w83 ⟨rfl,hi,hb,hk⟩;refine ⟨_,rfl,?_⟩;replace HO621:=z100_;replace HK:=z99_;replace HB:=ak (hb);replace HI0:=ak (hi);clear hb hk hi))
  go_ret
  exact ⟨_,Hd.e_,z37_ HO621,z1_,z2_,z0_⟩
 rw [if_pos c68] at H
 have c68b0:=beq_iff_eq.mpr c68
 have c68b1:=bne_eq_false_iff_eq.mpr c68
 clear c68
 replace H:=Hd.bd_ H;obtain ⟨⟨t658,t661,t662⟩,A69,H⟩:=H;dsimp only at H
 by_cases c70 : 0 ≤ t624;rotate_left
 ·
  rw [if_neg c70] at H
  exact absurd H (by simp)
 rw [if_pos c70] at H
 have c70b0:=decide_eq_true c70
 clear c70
 by_cases c71 : t624 < (t619.length : Int);rotate_left
 ·
  rw [if_neg c71] at H
  exact absurd H (by simp)
 rw [if_pos c71] at H
 have c71b0:=decide_eq_true c71
 clear c71
 generalize hy663 : (t619.set (t624 : Int).toNat (⟨(rd_T34 t619 t624).f0,(rd_T34 t619 t624).f1,(rd_T34 t619 t624).f2,(rd_T34 t619 t624).f3,t658⟩ : S34)) = y663 at H;have Ny663:=ak hy663.symm;clear hy663;try rw [Option.bind_some] at H
 simp only [Option.some.injEq,Prod.mk.injEq] at H
 obtain ⟨rfl,rfl,rfl⟩:=H
 go_enter Try.func46,Try.ntmps46
 go_wp2_with (first | ((with_reducible refine gate_callee (f:=66) rfl ?_);refine Hd.gl_ 6 Try.func66 #[.pointer (some ⟨g,0,none⟩)] ?_;(with_reducible refine (spec_l9Source.calls k g s0_0 s0_1 s0_2 t619 t622 t623 w0 _ ?side1 ?side2 A2.out).mono ?_);(case side1 => exact z1_);(case side2 => exact z2_);rintro e w73 ⟨v620,rfl,ho0,hi,hb,hk⟩;refine ⟨_,rfl,?_⟩;have HO621:=z101_;replace HK:=z99_;replace HB:=ak (hb);replace HI0:=ak (hi);clear hb hk hi ho0;obtain ⟨Ao74,co74,eo74⟩:=Kd.N_slice HO621.out;subst eo74) | ((with_reducible refine gate_callee (f:=49) rfl ?_);refine Hd.gl_ 14 Try.func49 #[.pointer (some ⟨g,0,none⟩),.int .i64 (t619.length : Int)] ?_;(with_reducible refine (spec_l1Below.calls g s0_0 t622 t623 (t619.length : Int) t624 t625 t626 w0 _ ?side1 ?side2 A6.out).mono ?_);(case side1 => exact z1_);(case side2 => exact z2_);rintro e w75 ⟨rfl,hi,hb,hk⟩;refine ⟨_,rfl,?_⟩;replace HO621:=z100_;replace HK:=z99_;replace HB:=ak (hb);replace HI0:=ak (hi);clear hb hk hi) | ((with_reducible refine gate_callee (f:=49) rfl ?_);refine Hd.gl_ 16 Try.func49 #[.pointer (some ⟨g,0,none⟩),.int .i64 10] ?_;(with_reducible refine (spec_l1Below.calls g s0_0 t625 t626 10 t627 t628 t629 w0 _ ?side1 ?side2 A7.out).mono ?_);(case side1 => exact z1_);(case side2 => exact z2_);rintro e w76 ⟨rfl,hi,hb,hk⟩;refine ⟨_,rfl,?_⟩;replace HO621:=z100_;replace HK:=z99_;replace HB:=ak (hb);replace HI0:=ak (hi);clear hb hk hi) | ((with_reducible refine gate_callee (f:=69) rfl ?_);refine Hd.gl_ 58 Try.func69 #[.pointer (some ⟨g,0,none⟩)] ?_;(with_reducible refine (spec_l6Any.calls k g s0_0 t628 t629 t658 t661 t662 w0 _ ?side1 ?side2 A69.out).mono ?_);(case side1 => exact z1_);(case side2 => exact z2_);rintro e w77 ⟨v659,rfl,ho0,hi,hb,hk⟩;refine ⟨_,rfl,?_⟩;replace HO621:=ak (Kd.N_mono (Kd.N_told (Kd.N_oldK (Kd.N_mono (ok:=fun k_ => (((w.heap.size ≤ k_)) ∧ k_ ≠ g)) (z13_ HO621) (fun k_ hk_ => (⟨hk_,hk_.2⟩ : _ ∧ k_ ≠ g))) hk) (Kd.R_base ho0)) (fun _ h_ => h_.1));have HO660:=ak (Kd.R_lower (Kd.R_newM (M:=fun k_ => (w.heap.size ≤ k_)) ho0 (keep_size (w:=w) (g:=g) (row:=none) z0_) (fun k_ h_ => h_)) (keep_size (w:=w) (g:=g) (row:=none) z0_));replace HK:=z99_;replace HB:=ak (hb);replace HI0:=ak (hi);clear hb hk hi ho0;obtain ⟨Ax_,cx_,ex_⟩:=Kd.R_slice HO660.out;subst ex_;have p72 : 0 ≤ (t624 : Int):=of_decide_eq_true Hd.a_;have q72 : (t624 : Int) < ((t619.length : Int) : Int):=of_decide_eq_true Hd.a_;obtain ⟨go72,co72,eo72,gb72,gl72,cl72,HG72⟩:=Kd.N_form HO621.out (by omega);(first | cases eo72 | (injection eo72 with ea_ en_ ec_;(first | subst ea_ | (injection ea_ with ea_;subst ea_));subst ec_;clear en_));have GB72:=ak gb72;have GG72:=ak HG72;clear gb72 gl72 HG72;obtain ⟨ce72,hcl72,hM72,hcc72,hfr72⟩:=Kd.N_elem HO621.out z34 (t624 : Int) p72 q72;obtain ⟨ua72_4,uc72_4,rfl,ul72_4,ge72_4⟩:=k34_openF hM72;have hx72_0 : w77.cell? ⟨go72,(t624 : Int).toNat * 5,none⟩ = some (.int .i64 ((rd_T34 t619 t624).f0)):=hcc72 0 _ rfl;have hx72_1 : w77.cell? ⟨go72,(t624 : Int).toNat * 5 + 1,none⟩ = some (.int .i64 ((rd_T34 t619 t624).f1)):=hcc72 1 _ rfl;have hx72_2 : w77.cell? ⟨go72,(t624 : Int).toNat * 5 + 2,none⟩ = some (.int .i64 ((rd_T34 t619 t624).f2)):=hcc72 2 _ rfl;have hx72_3 : w77.cell? ⟨go72,(t624 : Int).toNat * 5 + 3,none⟩ = some (.string ((rd_T34 t619 t624).f3)):=hcc72 3 _ rfl;have hx72_4 : w77.cell? ⟨go72,(t624 : Int).toNat * 5 + 4,none⟩ = some (.slice ua72_4 ((rd_T34 t619 t624).f4).length uc72_4):=hcc72 4 _ rfl;have hf72_0 : w77.frozen? ⟨go72,(t624 : Int).toNat * 5,none⟩ = false:=hfr72 0;have hf72_1 : w77.frozen? ⟨go72,(t624 : Int).toNat * 5 + 1,none⟩ = false:=hfr72 1;have hf72_2 : w77.frozen? ⟨go72,(t624 : Int).toNat * 5 + 2,none⟩ = false:=hfr72 2;have hf72_3 : w77.frozen? ⟨go72,(t624 : Int).toNat * 5 + 3,none⟩ = false:=hfr72 3;have hf72_4 : w77.frozen? ⟨go72,(t624 : Int).toNat * 5 + 4,none⟩ = false:=hfr72 4;clear hcl72 hcc72 hfr72 hM72;replace p72:=eq_true p72;replace q72:=eq_true q72;have n_:=ak (Kd.N_mono (ok':=(fun k_ => (w.heap.size ≤ k_) ∧ some k_ ≠ ((Value.slice Ax_ t658.length cx_) : Value).ownBlock)) HO621.out (fun k_ hk => ⟨hk.1.1,hk.2⟩));clear HO621;have HO621:=n_;clear n_;have HX78:=ak (show Kd.N k34 34 w77 w.heap.size (fun k_ => (w.heap.size ≤ k_)) (.slice (some ⟨go72,0,none⟩) t619.length co74) t619 from (z37_ HO621));obtain ⟨ce78,hcl78,hM78,hcc78,hfr78⟩:=Kd.N_elem HX78.out z34 (t624 : Int) (of_decide_eq_true Hd.a_) (by have h_ : (t624 : Int) < ((t619.length : Int) : Int):=of_decide_eq_true Hd.a_;first | exact h_ | (have e_:=(Kd.N_reads' HO621.out).1;omega) | simpa using h_);obtain ⟨ua78_4,uc78_4,rfl,ul78_4,ge78_4⟩:=k34_openF hM78;have HP78:=Kd.N_seg HX78.out (t624 : Int) (of_decide_eq_true Hd.a_) (by have h_ : (t624 : Int) < ((t619.length : Int) : Int):=of_decide_eq_true Hd.a_;first | exact h_ | (have e_:=(Kd.N_reads' HO621.out).1;omega) | simpa using h_) (seg:=[(Value.slice Ax_ t658.length cx_)]) (j:=4) hcl78 hcc78 (show 5 ≤ 5 from by decide) (x':=(⟨(rd_T34 t619 t624).f0,(rd_T34 t619 t624).f1,(rd_T34 t619 t624).f2,(rd_T34 t619 t624).f3,t658⟩ : S34)) (k34_mkF _ _ (⟨(rd_T34 t619 t624).f0,(rd_T34 t619 t624).f1,(rd_T34 t619 t624).f2,(rd_T34 t619 t624).f3,t658⟩ : S34) (Kd.R_reads' (Kd.R_mono (ok':=(fun k_ => ((fun k_ => (w.heap.size ≤ k_))) k_ ∧ k_ ≠ go72)) (Kd.R_apart' (HO660.out) (Kd.N_typed HO621.out) (by decide)) (fun k_ hk => ⟨hk.1.1,fun e_ => (hk.2) (by rw [e_];rfl)⟩))).2.1 (Kd.R_F (Kd.R_mono (ok':=(fun k_ => ((fun k_ => (w.heap.size ≤ k_))) k_ ∧ k_ ≠ go72)) (Kd.R_apart' (HO660.out) (Kd.N_typed HO621.out) (by decide)) (fun k_ hk => ⟨hk.1.1,fun e_ => (hk.2) (by rw [e_];rfl)⟩)))) (fun _ hk => hk);have hx78_4:=hcc78 4 _ rfl;(try simp only [show (k34).sz = 5 from rfl,Nat.mul_one,Nat.add_zero] at hx78_4);have hf78_4:=hfr78 4;(try simp only [show (k34).sz = 5 from rfl,Nat.mul_one,Nat.add_zero] at hf78_4);clear hcl78 hcc78 hfr78 hM78) | ((with_reducible refine gate_store (t:=32) (p:=60) rfl ?_);refine store_event (t:=32) (p:=60) (v:=?vo_w79) (w1:=(w77.setCell ⟨go72,(t624 : Int).toNat * 5 + 4,none⟩ ((Value.slice Ax_ t658.length cx_)))) ?hg ?ho ?hn ?hr ?_;(case ho => rfl);(case hg => rfl);(case hn => rfl);(case hr => exact z31_);intro w79 hw;have hg : w77.grownBy w79 (some go72):=(by rw [hw];exact HP78.2);have hp_ : Kd.N k34 34 w79 w.heap.size (fun k_ => (w.heap.size ≤ k_)) (.slice (some ⟨go72,0,none⟩) t619.length co74) y663:=(by rw [hw,Ny663.out];exact HP78.1);clear HP78;have n0_:=z108_ HO621;have n1_:=ak (hp_);have n2_:=ak ((by rw [hw];exact below_set (HB.out) (Nat.le_trans HL.out GB72.out) : Below w0.heap.size w0 w79));have n3_:=ak (KeepBut.trans z0_ (KeepBut.of_grown hg g) (Kd.N_base2 HO621.out));clear HI0;clear HO621;clear HB;clear HK;clear HO660;have HI0:=n0_;have HO621:=n1_;have HB:=n2_;have HK:=n3_;clear n0_ n1_ n2_ n3_;clear hg hw hp_))
 go_ret
 exact ⟨_,Hd.e_,z13_ HO621,z1_,z2_,z0_⟩
def spec_l9One.f (k : Nat) (s0_0 : List Int) (s0_1 : Int) (s0_2 : Int) : Option (Int × Int × Int × ByteArray × (List (S75)) × Int × Int):=(spec_l9Any.f k s0_0 s0_1 s0_2).bind fun bt665 => (if (bt665.1.length : Int) = 0 then (some (0,0,0,(⟨#[]⟩ : ByteArray),([] : List (S75)),bt665.2.1,bt665.2.2)) else (if 0 < (bt665.1.length : Int) then (some ((rd_T34 bt665.1 0).f0,(rd_T34 bt665.1 0).f1,(rd_T34 bt665.1 0).f2,(rd_T34 bt665.1 0).f3,(rd_T34 bt665.1 0).f4,bt665.2.1,bt665.2.2)) else (none)))
theorem spec_l9One.calls (k : Nat) (g : Nat) (s0_0 : List Int) (s0_1 : Int) (s0_2 : Int) (r1 : Int) (r2 : Int) (r3 : Int) (r4 : ByteArray) (r5 : List (S75)) (r6 : Int) (r7 : Int) (w0 w : World) (hI : IsS89 w0 w g s0_0 s0_1 s0_2) (hB : Below w0.heap.size w0 w) (h : spec_l9One.f k s0_0 s0_1 s0_2 = some (r1,r2,r3,r4,r5,r6,r7)) :
  Calls Try.prog 47 #[.pointer (some ⟨g,0,none⟩)] w fun e w' => ∃ v4_ : Value,e = .returned (.agg #[.int .i64 r1,.int .i64 r2,.int .i64 r3,.string r4,v4_]) ∧ Kd.V k75 75 w' w.heap.size (fun k_ => (w.heap.size ≤ k_)) v4_ r5 ∧ IsS89 w0 w' g s0_0 r6 r7 ∧ Below w0.heap.size w0 w' ∧ KeepBut w w' g none:=by
 have hu34:=Try.underlying34
 have HI0:=ak hI
 have HK:=ak (KeepBut.refl w g none)
 have HL:=ak hB.size
 clear hI
 have HW0:=ak hB.size
 have HB:=ak hB
 clear hB
 have H:=h;clear h;unfold spec_l9One.f at H
 replace H:=Hd.bd_ H;obtain ⟨⟨t665,t668,t669⟩,A2,H⟩:=H;dsimp only at H
 by_cases c3 : (t665.length : Int) = 0
 ·
  rw [if_pos c3] at H
  have c3b0:=beq_iff_eq.mpr c3
  have c3b1:=bne_eq_false_iff_eq.mpr c3
  clear c3
  simp only [Option.some.injEq,Prod.mk.injEq] at H
  obtain ⟨rfl,rfl,rfl,rfl,rfl,rfl,rfl⟩:=H
  go_enter Try.func47,Try.ntmps47
  go_wp2_with (first | ((with_reducible refine gate_dst (N:=2) rfl ?_);refine Hd.box_ 2 (#[.int .i64 0,.int .i64 0,.int .i64 0,.string (⟨#[]⟩ : ByteArray),.slice none 0 0]) 34 ?_;intro gb664 hg w4 hbox hb;replace HB:=ak (below_step z2_ hb);have BK664:=ak (hbox);have GW664:=ak ((z102_ : w.heap.size ≤ gb664));have GE664:=ak ((Nat.le_trans HW0.out (z102_ : w.heap.size ≤ gb664) : w0.heap.size ≤ gb664));replace HK:=z98_;have NB0_664:=ak ((z24_ : g ≠ gb664));have NB664_0:=ak ((z25_ : gb664 ≠ g));replace HI0:=ak (IsS89.below z1_ hb);clear hb hbox hg) | ((with_reducible refine gate_callee (f:=46) rfl ?_);refine Hd.gl_ 5 Try.func46 #[.pointer (some ⟨g,0,none⟩)] ?_;(with_reducible refine (spec_l9Any.calls k g s0_0 s0_1 s0_2 t665 t668 t669 w0 _ ?side1 ?side2 A2.out).mono ?_);(case side1 => exact z7_ NB0_664);(case side2 => exact z10_ GE664);rintro e w5 ⟨v666,rfl,ho0,hi,hb,hk⟩;refine ⟨_,rfl,?_⟩;have HO667:=z107_;replace BK664:=ak (KeepBut.blk hk (g':=gb664) (o:=.cells #[.int .i64 0,.int .i64 0,.int .i64 0,.string (⟨#[]⟩ : ByteArray),.slice none 0 0] 34 (0,0)) (Hd.k_ BK664) NB664_0.out (by simp));replace HK:=ak (KeepBut.trans (z3_ GW664) hk (.inl rfl));replace HB:=ak (hb);replace HI0:=ak (hi);clear hb hk hi ho0;obtain ⟨Ao6,co6,eo6⟩:=Kd.N_slice HO667.out;subst eo6;have hnb7:=NB664_0.out;have hnc7:=NB0_664.out;obtain ⟨hcz8_0,hcz8_1,hcz8_2,hcz8_3,hcz8_4⟩:=Hd.c5_ BK664.out;obtain ⟨hfz8_0,hfz8_1,hfz8_2,hfz8_3,hfz8_4⟩:=Hd.f5_ BK664.out))
  refine bodyPost_ret (results_cell_row rfl _ _ gb664 34 #[.int .i64 0,.int .i64 0,.int .i64 0,.string (⟨#[]⟩ : ByteArray),.slice none 0 0] (0,0) _ rfl (by (with_reducible repeat (first | refine blk_drewN ?_ _ | refine blk_drew ?_ | refine blk_alloc ?_ _));refine blk_put (cs:=#[.int .i64 0,.int .i64 0,.int .i64 0,.string (⟨#[]⟩ : ByteArray),.slice none 0 0]) ?_ 4 _ rfl;(with_reducible repeat (first | refine blk_drewN ?_ _ | refine blk_drew ?_ | refine blk_alloc ?_ _));refine blk_put (cs:=#[.int .i64 0,.int .i64 0,.int .i64 0,.string (⟨#[]⟩ : ByteArray),.slice none 0 0]) ?_ 3 _ rfl;(with_reducible repeat (first | refine blk_drewN ?_ _ | refine blk_drew ?_ | refine blk_alloc ?_ _));refine blk_put (cs:=#[.int .i64 0,.int .i64 0,.int .i64 0,.string (⟨#[]⟩ : ByteArray),.slice none 0 0]) ?_ 2 _ rfl;(with_reducible repeat (first | refine blk_drewN ?_ _ | refine blk_drew ?_ | refine blk_alloc ?_ _));refine blk_put (cs:=#[.int .i64 0,.int .i64 0,.int .i64 0,.string (⟨#[]⟩ : ByteArray),.slice none 0 0]) ?_ 1 _ rfl;(with_reducible repeat (first | refine blk_drewN ?_ _ | refine blk_drew ?_ | refine blk_alloc ?_ _));refine blk_put (cs:=#[.int .i64 0,.int .i64 0,.int .i64 0,.string (⟨#[]⟩ : ByteArray),.slice none 0 0]) ?_ 0 _ rfl;(with_reducible repeat (first | refine blk_drewN ?_ _ | refine blk_drew ?_ | refine blk_alloc ?_ _));exact BK664.out) Try.underlying34 rfl (by kernel_rfl)) rfl ?_
  exact ⟨_,Hd.e_,Kd.R_V (by first | exact Kd.R_nil _ _ _ 0 _ | exact Kd.R_nil _ _ _ _ _ | exact Kd.N_nil _ _ _ _ _ | exact Kd.V_nil _ _ _ _ _ | exact Kd.Q_nil _ _ _ _ _ | exact Kd.S_nil _ _ _ _ _),z7_ NB0_664,z10_ GE664,z3_ GW664⟩
 rw [if_neg c3] at H
 have c3b0:=beq_eq_false_iff_ne.mpr c3
 have c3b1:=bne_iff_ne.mpr c3
 have c3b2 : ¬ (t665 = []):=fun h_ => c3 (by rw [h_];rfl)
 by_cases c9 : 0 < (t665.length : Int);rotate_left
 ·
  rw [if_neg c9] at H
  exact absurd H (by simp)
 rw [if_pos c9] at H
 have c9b0:=decide_eq_true c9
 have c9b1 : decide (0 < t665.length) = true:=decide_eq_true (by omega)
 clear c9
 simp only [Option.some.injEq,Prod.mk.injEq] at H
 obtain ⟨rfl,rfl,rfl,rfl,rfl,rfl,rfl⟩:=H
 go_enter Try.func47,Try.ntmps47
 go_wp2_with (first | ((with_reducible refine gate_dst (N:=2) rfl ?_);refine Hd.box_ 2 (#[.int .i64 0,.int .i64 0,.int .i64 0,.string (⟨#[]⟩ : ByteArray),.slice none 0 0]) 34 ?_;intro gb664 hg w10 hbox hb;replace HB:=ak (below_step z2_ hb);have BK664:=ak (hbox);have GW664:=ak ((z102_ : w.heap.size ≤ gb664));have GE664:=ak ((Nat.le_trans HW0.out (z102_ : w.heap.size ≤ gb664) : w0.heap.size ≤ gb664));replace HK:=z98_;have NB0_664:=ak ((z24_ : g ≠ gb664));have NB664_0:=ak ((z25_ : gb664 ≠ g));replace HI0:=ak (IsS89.below z1_ hb);clear hb hbox hg) | ((with_reducible refine gate_callee (f:=46) rfl ?_);refine Hd.gl_ 5 Try.func46 #[.pointer (some ⟨g,0,none⟩)] ?_;(with_reducible refine (spec_l9Any.calls k g s0_0 s0_1 s0_2 t665 t668 t669 w0 _ ?side1 ?side2 A2.out).mono ?_);(case side1 => exact z7_ NB0_664);(case side2 => exact z10_ GE664);rintro e w11 ⟨v666,rfl,ho0,hi,hb,hk⟩;refine ⟨_,rfl,?_⟩;have HO667:=z107_;replace BK664:=ak (KeepBut.blk hk (g':=gb664) (o:=.cells #[.int .i64 0,.int .i64 0,.int .i64 0,.string (⟨#[]⟩ : ByteArray),.slice none 0 0] 34 (0,0)) (Hd.k_ BK664) NB664_0.out (by simp));replace HK:=ak (KeepBut.trans (z3_ GW664) hk (.inl rfl));replace HB:=ak (hb);replace HI0:=ak (hi);clear hb hk hi ho0;obtain ⟨Ao12,co12,eo12⟩:=Kd.N_slice HO667.out;subst eo12;have p670 : 0 ≤ (0 : Int):=(by omega);have q670 : 0 < (t665.length : Int):=of_decide_eq_true Hd.a_;obtain ⟨ad670,A670_4,c670_4,e670,hx670_0,hx670_1,hx670_2,hx670_3,hx670_4,hl670_4,hi670_4⟩:=at_T34 (Kd.N_reads' HO667.out).2.2 0 p670 q670;cases e670;obtain ⟨ce670,hce670,hMe670,hcc670⟩:=Kd.N_get HO667.out z34 0 p670 (by first | exact q670 | exact of_decide_eq_true Hd.a_ | (have e_:=(Kd.N_reads' HO667.out).1;omega));obtain ⟨ua670_4,uc670_4,rfl,ul670_4,ge670_4⟩:=k34_openF hMe670;have hv670_4:=hcc670 4 _ rfl;rw [add_field _ _ 4 (by omega)] at hv670_4;replace hv670_4:=Option.some.inj (hv670_4.symm.trans hx670_4);injection hv670_4 with hva_ hvn_ hvc_;rw [hva_] at ge670_4;rw [hvc_] at ul670_4;have HL670_4:=ak (show Kd.V k75 75 _ w.heap.size _ _ ((rd_T34 t665 0).f4) from Kd.V_mk ul670_4 ge670_4);clear hva_ hvn_ hvc_ ge670_4 ul670_4;clear hcc670 hce670;have qi670 : (0 < t665.length) = True:=eq_true (by omega);(try rw [show ((0 : Int)).toNat = 0 from rfl] at hx670_0);(try rw [show 0 * 5 = 0 from rfl] at hx670_0);(try rw [Addr.add_zero'] at hx670_0);(try rw [show ((0 : Int)).toNat = 0 from rfl] at hx670_1);(try rw [show 0 * 5 = 0 from rfl] at hx670_1);(try rw [Addr.add_zero'] at hx670_1);(try rw [show ((0 : Int)).toNat = 0 from rfl] at hx670_2);(try rw [show 0 * 5 = 0 from rfl] at hx670_2);(try rw [Addr.add_zero'] at hx670_2);(try rw [show ((0 : Int)).toNat = 0 from rfl] at hx670_3);(try rw [show 0 * 5 = 0 from rfl] at hx670_3);(try rw [Addr.add_zero'] at hx670_3);(try rw [show ((0 : Int)).toNat = 0 from rfl] at hx670_4);(try rw [show 0 * 5 = 0 from rfl] at hx670_4);(try rw [Addr.add_zero'] at hx670_4);have HR670_4:=ak hi670_4;have HC670_4:=ak hl670_4;clear hi670_4 hl670_4;replace p670:=eq_true p670;replace q670:=eq_true q670;have hnb13:=NB664_0.out;have hnc13:=NB0_664.out;obtain ⟨hcz14_0,hcz14_1,hcz14_2,hcz14_3,hcz14_4⟩:=Hd.c5_ BK664.out;obtain ⟨hfz14_0,hfz14_1,hfz14_2,hfz14_3,hfz14_4⟩:=Hd.f5_ BK664.out))
 refine bodyPost_ret (results_cell_row rfl _ _ gb664 34 #[.int .i64 ((rd_T34 t665 0).f0),.int .i64 ((rd_T34 t665 0).f1),.int .i64 ((rd_T34 t665 0).f2),.string ((rd_T34 t665 0).f3),.slice A670_4 ((rd_T34 t665 0).f4).length c670_4] (0,0) _ rfl (by (with_reducible repeat (first | refine blk_drewN ?_ _ | refine blk_drew ?_ | refine blk_alloc ?_ _));refine blk_put (cs:=#[.int .i64 ((rd_T34 t665 0).f0),.int .i64 ((rd_T34 t665 0).f1),.int .i64 ((rd_T34 t665 0).f2),.string ((rd_T34 t665 0).f3),.slice none 0 0]) ?_ 4 _ rfl;(with_reducible repeat (first | refine blk_drewN ?_ _ | refine blk_drew ?_ | refine blk_alloc ?_ _));refine blk_put (cs:=#[.int .i64 ((rd_T34 t665 0).f0),.int .i64 ((rd_T34 t665 0).f1),.int .i64 ((rd_T34 t665 0).f2),.string (⟨#[]⟩ : ByteArray),.slice none 0 0]) ?_ 3 _ rfl;(with_reducible repeat (first | refine blk_drewN ?_ _ | refine blk_drew ?_ | refine blk_alloc ?_ _));refine blk_put (cs:=#[.int .i64 ((rd_T34 t665 0).f0),.int .i64 ((rd_T34 t665 0).f1),.int .i64 0,.string (⟨#[]⟩ : ByteArray),.slice none 0 0]) ?_ 2 _ rfl;(with_reducible repeat (first | refine blk_drewN ?_ _ | refine blk_drew ?_ | refine blk_alloc ?_ _));refine blk_put (cs:=#[.int .i64 ((rd_T34 t665 0).f0),.int .i64 0,.int .i64 0,.string (⟨#[]⟩ : ByteArray),.slice none 0 0]) ?_ 1 _ rfl;(with_reducible repeat (first | refine blk_drewN ?_ _ | refine blk_drew ?_ | refine blk_alloc ?_ _));refine blk_put (cs:=#[.int .i64 0,.int .i64 0,.int .i64 0,.string (⟨#[]⟩ : ByteArray),.slice none 0 0]) ?_ 0 _ rfl;(with_reducible repeat (first | refine blk_drewN ?_ _ | refine blk_drew ?_ | refine blk_alloc ?_ _));exact BK664.out) Try.underlying34 rfl (by kernel_rfl)) rfl ?_
 exact ⟨_,Hd.e_,by (with_reducible repeat (first | apply Kd.V_alloc | apply Kd.V_drewN | apply Kd.V_drew));exact Kd.V_mono (Kd.V_far (p:=⟨gb664,4,none⟩) (Kd.V_far (p:=⟨gb664,3,none⟩) (Kd.V_far (p:=⟨gb664,2,none⟩) (Kd.V_far (p:=⟨gb664,1,none⟩) (Kd.V_far (p:=⟨gb664,0,none⟩) (Kd.V_mono HL670_4.out (fun k_ hk => (⟨hk,hk.1.2.1⟩ : _ ∧ k_ ≠ gb664))) (fun _ hk => hk.2) (.int .i64 ((rd_T34 t665 0).f0))) (fun _ hk => hk.2) (.int .i64 ((rd_T34 t665 0).f1))) (fun _ hk => hk.2) (.int .i64 ((rd_T34 t665 0).f2))) (fun _ hk => hk.2) (.string ((rd_T34 t665 0).f3))) (fun _ hk => hk.2) (.slice A670_4 ((rd_T34 t665 0).f4).length c670_4)) (fun _ hk => hk.1.1.1),z7_ NB0_664,z10_ GE664,z3_ GW664⟩
def spec_DrawFeaturesMeet.f (k : Nat) (l0 : List Int) : Option (Int × Int × Int × ByteArray × (List (S75)) × Int × Int × Int × ByteArray × (List (S75))):=(spec_l1New.f k l0).bind fun bt673 => ((spec_l9One.f k bt673.1 bt673.2.1 bt673.2.2).bind fun bt677 => ((spec_l9One.f k bt673.1 bt677.2.2.2.2.2.1 bt677.2.2.2.2.2.2).bind fun bt687 => (some (bt677.1,bt677.2.1,bt677.2.2.1,bt677.2.2.2.1,bt677.2.2.2.2.1,bt687.1,bt687.2.1,bt687.2.2.1,bt687.2.2.2.1,bt687.2.2.2.2.1))))
theorem spec_DrawFeaturesMeet.calls (k : Nat) (A0 : Option Addr) (c0 : Nat) (l0 : List Int) (r1 : Int) (r2 : Int) (r3 : Int) (r4 : ByteArray) (r5 : List (S75)) (r6 : Int) (r7 : Int) (r8 : Int) (r9 : ByteArray) (r10 : List (S75)) (w : World) (hr0 : Kd.C (Kd.int .u8) w A0 l0.length l0) (hc0 : l0.length ≤ c0) (h : spec_DrawFeaturesMeet.f k l0 = some (r1,r2,r3,r4,r5,r6,r7,r8,r9,r10)) :
  Calls Try.prog 26 #[.slice A0 l0.length c0] w fun e w' => ∃ v4_ v9_ : Value,e = .returned (.tuple #[.agg #[.int .i64 r1,.int .i64 r2,.int .i64 r3,.string r4,v4_],.agg #[.int .i64 r6,.int .i64 r7,.int .i64 r8,.string r9,v9_]]) ∧ Kd.V k75 75 w' w.heap.size (fun k_ => (w.heap.size ≤ k_)) v4_ r5 ∧ Kd.V k75 75 w' w.heap.size (fun k_ => (w.heap.size ≤ k_)) v9_ r10 ∧ Below w.heap.size w w':=by
 have hu34:=Try.underlying34
 have HR0:=ak hr0
 have HC0:=ak hc0
 clear hr0 hc0
 have HB:=ak (Below.refl w.heap.size w)
 have H:=h;clear h;unfold spec_DrawFeaturesMeet.f at H
 replace H:=Hd.bd_ H;obtain ⟨⟨t673,t674,t675⟩,A2,H⟩:=H;dsimp only at H
 replace H:=Hd.bd_ H;obtain ⟨⟨t677,t678,t679,t680,t681,t684,t685⟩,A3,H⟩:=H;dsimp only at H
 replace H:=Hd.bd_ H;obtain ⟨⟨t687,t688,t689,t690,t691,t694,t695⟩,A4,H⟩:=H;dsimp only at H
 simp only [Option.some.injEq,Prod.mk.injEq] at H
 obtain ⟨rfl,rfl,rfl,rfl,rfl,rfl,rfl,rfl,rfl,rfl⟩:=H
 go_enter Try.func26,Try.ntmps26
 try go_wp2_with (first | ((with_reducible refine gate_dst (N:=2) rfl ?_);refine Hd.box_ 2 (#[.int .i64 0,.int .i64 0,.int .i64 0,.string (⟨#[]⟩ : ByteArray),.slice none 0 0]) 34 ?_;intro gb671 hg w5 hbox hb;have BK671:=ak (hbox);have GW671:=ak ((Hd.g_ hg Hd.b_ : w.heap.size ≤ gb671));have GE671:=ak ((Hd.g_ hg Hd.b_ : w.heap.size ≤ gb671));replace HB:=ak (below_step Hd.b_ hb);clear hb hbox hg) | ((with_reducible refine gate_dst (N:=3) rfl ?_);refine Hd.box_ 3 (#[.int .i64 0,.int .i64 0,.int .i64 0,.string (⟨#[]⟩ : ByteArray),.slice none 0 0]) 34 ?_;intro gb672 hg w6 hbox hb;have BK672:=ak (hbox);have GW672:=ak ((Hd.g_ hg Hd.b_ : w.heap.size ≤ gb672));have GE672:=ak ((Hd.g_ hg Hd.b_ : w.heap.size ≤ gb672));replace HB:=ak (below_step Hd.b_ hb);have NB671_672:=ak ((Hd.lt_ BK671 hg));have NB672_671:=ak ((Hd.gt_ BK671 hg));replace BK671:=ak (Hd.kb_ BK671 hb);clear hb hbox hg) | ((with_reducible refine gate_callee (f:=45) rfl ?_);refine Hd.gl_ 7 Try.func45 #[.slice A0 l0.length c0] ?_;(with_reducible refine (spec_l1New.calls k _ _ l0 t673 t674 t675 w _ ?side1 ?side2 ?side3 A2.out).mono ?_);(case side1 => repeat (first | (with_reducible first | exact HB.out | apply below_alloc | apply pw_below_drewN | apply below_drew1 | refine below_set ?_ GE671.out | refine below_set ?_ GE672.out) | exact HB.out));(case side2 => exact HR0.out);(case side3 => exact HC0.out);rintro e w7 ⟨g676,rfl,hi,hb,hb2⟩;refine ⟨_,rfl,?_⟩;replace HB:=ak (hb);have HI676:=ak (hi);have NB676_671:=ak (IsS89.ne_blk hi (blk_below (g:=gb671) (o:=.cells #[.int .i64 0,.int .i64 0,.int .i64 0,.string (⟨#[]⟩ : ByteArray),.slice none 0 0] 34 (0,0)) (Hd.k_ BK671) hb2) (by decide));have NB671_676:=ak (Ne.symm (IsS89.ne_blk hi (blk_below (g:=gb671) (o:=.cells #[.int .i64 0,.int .i64 0,.int .i64 0,.string (⟨#[]⟩ : ByteArray),.slice none 0 0] 34 (0,0)) (Hd.k_ BK671) hb2) (by decide)));replace BK671:=ak (blk_below (g:=gb671) (o:=.cells #[.int .i64 0,.int .i64 0,.int .i64 0,.string (⟨#[]⟩ : ByteArray),.slice none 0 0] 34 (0,0)) (Hd.k_ BK671) hb2);have NB676_672:=ak (IsS89.ne_blk hi (blk_below (g:=gb672) (o:=.cells #[.int .i64 0,.int .i64 0,.int .i64 0,.string (⟨#[]⟩ : ByteArray),.slice none 0 0] 34 (0,0)) (Hd.k_ BK672) hb2) (by decide));have NB672_676:=ak (Ne.symm (IsS89.ne_blk hi (blk_below (g:=gb672) (o:=.cells #[.int .i64 0,.int .i64 0,.int .i64 0,.string (⟨#[]⟩ : ByteArray),.slice none 0 0] 34 (0,0)) (Hd.k_ BK672) hb2) (by decide)));replace BK672:=ak (blk_below (g:=gb672) (o:=.cells #[.int .i64 0,.int .i64 0,.int .i64 0,.string (⟨#[]⟩ : ByteArray),.slice none 0 0] 34 (0,0)) (Hd.k_ BK672) hb2);clear hb hi) | ((with_reducible refine gate_callee (f:=47) rfl ?_);refine Hd.gl_ 9 Try.func47 #[.pointer (some ⟨g676,0,none⟩)] ?_;(with_reducible refine (spec_l9One.calls k g676 t673 t674 t675 t677 t678 t679 t680 t681 t684 t685 w _ ?side1 ?side2 A3.out).mono ?_);(case side1 => exact z71_ NB676_671 NB676_672);(case side2 => exact z39_ GE671 GE672);rintro e w8 ⟨v682,rfl,ho0,hi,hb,hk⟩;refine ⟨_,rfl,?_⟩;have HO683:=ak (Kd.V_lower (Kd.V_mono (ok':=fun k_ => (w.heap.size ≤ k_) ∧ k_ ≠ gb671 ∧ k_ ≠ gb672 ∧ k_ ≠ g676) ho0 (fun k_ hk_ => ⟨(Nat.le_trans (below_size (z39_ GE671 GE672)) hk_),(Kd.freshB (g:=gb671) (o:=.cells #[.int .i64 0,.int .i64 0,.int .i64 0,.string (⟨#[]⟩ : ByteArray),.slice none 0 0] 34 (0,0)) (Hd.k_ BK671) k_ hk_),(Kd.freshB (g:=gb672) (o:=.cells #[.int .i64 0,.int .i64 0,.int .i64 0,.string (⟨#[]⟩ : ByteArray),.slice none 0 0] 34 (0,0)) (Hd.k_ BK672) k_ hk_),(IsS89.fresh (z71_ NB676_671 NB676_672) k_ hk_)⟩)) (below_size (z39_ GE671 GE672)));replace BK671:=ak (KeepBut.blk hk (g':=gb671) (o:=.cells #[.int .i64 0,.int .i64 0,.int .i64 0,.string (⟨#[]⟩ : ByteArray),.slice none 0 0] 34 (0,0)) (Hd.k_ BK671) NB671_676.out (by simp));replace BK672:=ak (KeepBut.blk hk (g':=gb672) (o:=.cells #[.int .i64 0,.int .i64 0,.int .i64 0,.string (⟨#[]⟩ : ByteArray),.slice none 0 0] 34 (0,0)) (Hd.k_ BK672) NB672_676.out (by simp));replace HB:=ak (hb);replace HI676:=ak (hi);clear hb hk hi ho0) | ((with_reducible refine gate_dst (N:=5) rfl ?_);refine Hd.box_ 5 (#[.int .i64 0,.int .i64 0,.int .i64 0,.string (⟨#[]⟩ : ByteArray),.slice none 0 0]) 34 ?_;intro gb686 hg w9 hbox hb;replace HO683:=ak (Kd.V_below (Kd.V_elderB (z5_ HO683) gb686 (Nat.le_of_eq hg.symm)) hb);have BK686:=ak (hbox);have GW686:=ak ((by rw [hg];exact (below_size (z39_ GE671 GE672)) : w.heap.size ≤ gb686));have GE686:=ak ((by rw [hg];exact (below_size (z39_ GE671 GE672)) : w.heap.size ≤ gb686));replace HB:=ak (below_step (z39_ GE671 GE672) hb);have NB671_686:=ak ((Hd.lt_ BK671 hg));have NB686_671:=ak ((Hd.gt_ BK671 hg));replace BK671:=ak (Hd.kb_ BK671 hb);have NB672_686:=ak ((Hd.lt_ BK672 hg));have NB686_672:=ak ((Hd.gt_ BK672 hg));replace BK672:=ak (Hd.kb_ BK672 hb);have NB676_686:=ak ((by rw [hg];exact Nat.ne_of_lt (IsS89.lt (show IsS89 w _ g676 t673 t684 t685 from by repeat (first | (with_reducible first | exact HI676.out | apply IsS89.alloc | apply IsS89.drewN | apply IsS89.drew | apply IsS89.set_1 | apply IsS89.set_2 | refine IsS89.far ?_ NB676_671.out _ | refine IsS89.far ?_ NB676_672.out _) | exact HI676.out))) : g676 ≠ gb686));have NB686_676:=ak ((by rw [hg];exact Nat.ne_of_gt (IsS89.lt (show IsS89 w _ g676 t673 t684 t685 from by repeat (first | (with_reducible first | exact HI676.out | apply IsS89.alloc | apply IsS89.drewN | apply IsS89.drew | apply IsS89.set_1 | apply IsS89.set_2 | refine IsS89.far ?_ NB676_671.out _ | refine IsS89.far ?_ NB676_672.out _) | exact HI676.out))) : gb686 ≠ g676));replace HI676:=ak (IsS89.below (z71_ NB676_671 NB676_672) hb);clear hb hbox hg;have hnb10:=NB686_671.out;have hnc10:=NB671_686.out;have hnb11:=NB686_672.out;have hnc11:=NB672_686.out;have hnb12:=NB686_676.out;have hnc12:=NB676_686.out;obtain ⟨hcz13_0,hcz13_1,hcz13_2,hcz13_3,hcz13_4⟩:=Hd.c5_ BK686.out;obtain ⟨hfz13_0,hfz13_1,hfz13_2,hfz13_3,hfz13_4⟩:=Hd.f5_ BK686.out;obtain ⟨Ao14,co14,eo14⟩:=Kd.V_slice HO683.out;subst eo14))
 have n0_ : Aside0 (Kd.V k75 75 (((((w9.setCell ⟨gb686,0,none⟩ (.int .i64 t677)).setCell ⟨gb686,1,none⟩ (.int .i64 t678)).setCell ⟨gb686,2,none⟩ (.int .i64 t679)).setCell ⟨gb686,3,none⟩ (.string t680)).setCell ⟨gb686,4,none⟩ (.slice Ao14 t681.length co14)) w.heap.size (fun k_ => (w.heap.size ≤ k_) ∧ k_ ≠ gb671 ∧ k_ ≠ gb672 ∧ k_ ≠ g676 ∧ k_ ≠ gb686) (.slice Ao14 t681.length co14) t681):=⟨by (with_reducible repeat (first | apply Kd.V_alloc | apply Kd.V_drewN | apply Kd.V_drew));exact Kd.V_mono (Kd.V_far (p:=⟨gb686,4,none⟩) (Kd.V_far (p:=⟨gb686,3,none⟩) (Kd.V_far (p:=⟨gb686,2,none⟩) (Kd.V_far (p:=⟨gb686,1,none⟩) (Kd.V_far (p:=⟨gb686,0,none⟩) (Kd.V_mono HO683.out (fun k_ hk => (⟨hk,hk.2⟩ : _ ∧ k_ ≠ gb686))) (fun _ hk => hk.2) (.int .i64 t677)) (fun _ hk => hk.2) (.int .i64 t678)) (fun _ hk => hk.2) (.int .i64 t679)) (fun _ hk => hk.2) (.string t680)) (fun _ hk => hk.2) (.slice Ao14 t681.length co14)) (fun _ hk => ⟨hk.1.1.1,⟨hk.1.1.2.1,⟨hk.1.1.2.2.1,⟨hk.1.1.2.2.2,hk.1.2⟩⟩⟩⟩)⟩
 have n1_ : Aside0 ((((((w9.setCell ⟨gb686,0,none⟩ (.int .i64 t677)).setCell ⟨gb686,1,none⟩ (.int .i64 t678)).setCell ⟨gb686,2,none⟩ (.int .i64 t679)).setCell ⟨gb686,3,none⟩ (.string t680)).setCell ⟨gb686,4,none⟩ (.slice Ao14 t681.length co14)).heap[gb671]? = some (.cells #[.int .i64 0,.int .i64 0,.int .i64 0,.string (⟨#[]⟩ : ByteArray),.slice none 0 0] 34 (0,0))):=⟨z15_ NB671_686 BK671⟩
 have n2_ : Aside0 ((((((w9.setCell ⟨gb686,0,none⟩ (.int .i64 t677)).setCell ⟨gb686,1,none⟩ (.int .i64 t678)).setCell ⟨gb686,2,none⟩ (.int .i64 t679)).setCell ⟨gb686,3,none⟩ (.string t680)).setCell ⟨gb686,4,none⟩ (.slice Ao14 t681.length co14)).heap[gb672]? = some (.cells #[.int .i64 0,.int .i64 0,.int .i64 0,.string (⟨#[]⟩ : ByteArray),.slice none 0 0] 34 (0,0))):=⟨z15_ NB672_686 BK672⟩
 have n3_ : Aside0 ((((((w9.setCell ⟨gb686,0,none⟩ (.int .i64 t677)).setCell ⟨gb686,1,none⟩ (.int .i64 t678)).setCell ⟨gb686,2,none⟩ (.int .i64 t679)).setCell ⟨gb686,3,none⟩ (.string t680)).setCell ⟨gb686,4,none⟩ (.slice Ao14 t681.length co14)).heap[gb686]? = some (.cells #[.int .i64 t677,.int .i64 t678,.int .i64 t679,.string t680,.slice Ao14 t681.length co14] 34 (0,0))):=⟨by (with_reducible repeat (first | refine blk_drewN ?_ _ | refine blk_drew ?_ | refine blk_alloc ?_ _));refine blk_put (cs:=#[.int .i64 t677,.int .i64 t678,.int .i64 t679,.string t680,.slice none 0 0]) ?_ 4 _ rfl;(with_reducible repeat (first | refine blk_drewN ?_ _ | refine blk_drew ?_ | refine blk_alloc ?_ _));refine blk_put (cs:=#[.int .i64 t677,.int .i64 t678,.int .i64 t679,.string (⟨#[]⟩ : ByteArray),.slice none 0 0]) ?_ 3 _ rfl;(with_reducible repeat (first | refine blk_drewN ?_ _ | refine blk_drew ?_ | refine blk_alloc ?_ _));refine blk_put (cs:=#[.int .i64 t677,.int .i64 t678,.int .i64 0,.string (⟨#[]⟩ : ByteArray),.slice none 0 0]) ?_ 2 _ rfl;(with_reducible repeat (first | refine blk_drewN ?_ _ | refine blk_drew ?_ | refine blk_alloc ?_ _));refine blk_put (cs:=#[.int .i64 t677,.int .i64 0,.int .i64 0,.string (⟨#[]⟩ : ByteArray),.slice none 0 0]) ?_ 1 _ rfl;(with_reducible repeat (first | refine blk_drewN ?_ _ | refine blk_drew ?_ | refine blk_alloc ?_ _));refine blk_put (cs:=#[.int .i64 0,.int .i64 0,.int .i64 0,.string (⟨#[]⟩ : ByteArray),.slice none 0 0]) ?_ 0 _ rfl;(with_reducible repeat (first | refine blk_drewN ?_ _ | refine blk_drew ?_ | refine blk_alloc ?_ _));exact BK686.out⟩
 have n4_ : Aside0 (IsS89 w (((((w9.setCell ⟨gb686,0,none⟩ (.int .i64 t677)).setCell ⟨gb686,1,none⟩ (.int .i64 t678)).setCell ⟨gb686,2,none⟩ (.int .i64 t679)).setCell ⟨gb686,3,none⟩ (.string t680)).setCell ⟨gb686,4,none⟩ (.slice Ao14 t681.length co14)) g676 t673 t684 t685):=⟨z69_ NB676_671 NB676_672 NB676_686⟩
 have n5_ : Aside0 (Below w.heap.size w (((((w9.setCell ⟨gb686,0,none⟩ (.int .i64 t677)).setCell ⟨gb686,1,none⟩ (.int .i64 t678)).setCell ⟨gb686,2,none⟩ (.int .i64 t679)).setCell ⟨gb686,3,none⟩ (.string t680)).setCell ⟨gb686,4,none⟩ (.slice Ao14 t681.length co14))):=⟨z40_ GE671 GE672 GE686⟩
 try clear HO683;try clear BK671;try clear BK672;try clear BK686;try clear HI676;try clear HB
 generalize (((((w9.setCell ⟨gb686,0,none⟩ (.int .i64 t677)).setCell ⟨gb686,1,none⟩ (.int .i64 t678)).setCell ⟨gb686,2,none⟩ (.int .i64 t679)).setCell ⟨gb686,3,none⟩ (.string t680)).setCell ⟨gb686,4,none⟩ (.slice Ao14 t681.length co14)) = w15 at n0_ n1_ n2_ n3_ n4_ n5_ ⊢
 have HO683:=n0_
 have BK671:=n1_
 have BK672:=n2_
 have BK686:=n3_
 have HI676:=n4_
 have HB:=n5_
 clear n0_ n1_ n2_ n3_ n4_ n5_
 replace HO683:=ak (Kd.V_drew HO683.out)
 replace BK671:=ak (blk_drew BK671.out)
 replace BK672:=ak (blk_drew BK672.out)
 replace BK686:=ak (blk_drew BK686.out)
 replace HI676:=ak (IsS89.drew HI676.out)
 replace HB:=ak (below_drew1 HB.out)
 refine start_ (n:=5) (S:=fun w' => w'.cell? ⟨gb686,0,none⟩ = some (.int .i64 t677) ∧ w'.cell? ⟨gb686,1,none⟩ = some (.int .i64 t678) ∧ w'.cell? ⟨gb686,2,none⟩ = some (.int .i64 t679) ∧ w'.cell? ⟨gb686,3,none⟩ = some (.string t680) ∧ w'.cell? ⟨gb686,4,none⟩ = some (.slice Ao14 t681.length co14)) (ds:=[]) #[N_,N_,N_,N_,N_] (by kernel_rfl) rfl rfl ⟨(blk_cell BK686.out 0).trans rfl,(blk_cell BK686.out 1).trans rfl,(blk_cell BK686.out 2).trans rfl,(blk_cell BK686.out 3).trans rfl,(blk_cell BK686.out 4).trans rfl⟩ (fun hHeld => ?_)
 generalize w15.drew = w16 at HO683 BK671 BK672 BK686 HI676 HB hHeld ⊢
 refine pure_ (i:=1) (N:=some 11) (v:=?_) (a':=?_) #[N_,Y_,N_,N_,N_] rfl rfl (by kernel_rfl) (fun _ _ _ h => h) (Or.inl ⟨by rfl,?_⟩) ?_ ?_
 rotate_left
 ·
  intro w'
  go_simp
  with_reducible rfl
 rotate_left
 ·
  simp only [Act.put,List.setIfInBounds_toArray,List.set_cons_zero,List.set_cons_succ,i64_w,i32_w]
  rfl
 refine take_ (i:=0) (N:=some 10) (v:=?_) (a':=?_) #[Y_,Y_,N_,N_,N_] rfl rfl (by kernel_rfl) (fun _ _ _ h => h) (Or.inl ⟨by rfl,?_⟩) hHeld ?_ ?_
 rotate_left
 ·
  rintro w' ⟨s0,s1,s2,s3,s4⟩
  go_simp
  with_reducible rfl
 rotate_left
 ·
  simp only [Act.put,List.setIfInBounds_toArray,List.set_cons_zero,List.set_cons_succ,i64_w,i32_w]
  rfl
 refine one_ (i:=2) (N:=some 12) #[Y_,Y_,Y_,N_,N_] rfl rfl (by kernel_rfl) (by decide) (fun K hK => ?_)
 refine goes_ Try.func47 (by kernel_rfl) rfl #[.pointer (some ⟨g676,0,none⟩)] (by rfl) rfl rfl Hd.m_ ?_
 with_reducible refine (spec_l9One.calls k g676 t673 t684 t685 t687 t688 t689 t690 t691 t694 t695 w _ ?side1 ?side2 A4.out).mono ?_
 (case side1 => exact z69_ NB676_671 NB676_672 NB676_686)
 (case side2 => exact z40_ GE671 GE672 GE686)
 rintro e w17 ⟨v692,rfl,ho0,hi,hb,hk⟩
 refine ⟨_,rfl,?_⟩
 replace HO683:=ak (Kd.V_mono (Kd.V_keep (Kd.V_mono (ok:=fun k_ => (((w.heap.size ≤ k_)) ∧ (k_ ≠ gb671 ∧ (k_ ≠ gb672 ∧ (k_ ≠ g676 ∧ k_ ≠ gb686))))) (z5_ HO683) (fun k_ hk_ => (⟨hk_,hk_.2.2.2.1⟩ : _ ∧ k_ ≠ g676))) hk (fun _ h => h.2)) (fun _ h => h.1))
 have HO693:=ak (Kd.V_lower (Kd.V_mono (ok':=fun k_ => (w.heap.size ≤ k_) ∧ k_ ≠ gb671 ∧ k_ ≠ gb672 ∧ k_ ≠ gb686 ∧ k_ ≠ g676) ho0 (fun k_ hk_ => ⟨(Nat.le_trans (below_size (z40_ GE671 GE672 GE686)) hk_),(Kd.freshB (g:=gb671) (o:=.cells #[.int .i64 0,.int .i64 0,.int .i64 0,.string (⟨#[]⟩ : ByteArray),.slice none 0 0] 34 (0,0)) (Hd.k_ BK671) k_ hk_),(Kd.freshB (g:=gb672) (o:=.cells #[.int .i64 0,.int .i64 0,.int .i64 0,.string (⟨#[]⟩ : ByteArray),.slice none 0 0] 34 (0,0)) (Hd.k_ BK672) k_ hk_),(Kd.freshB (g:=gb686) (o:=.cells #[.int .i64 t677,.int .i64 t678,.int .i64 t679,.string t680,.slice Ao14 t681.length co14] 34 (0,0)) (Hd.k_ BK686) k_ hk_),(IsS89.fresh (z69_ NB676_671 NB676_672 NB676_686) k_ hk_)⟩)) (below_size (z40_ GE671 GE672 GE686)))
 replace BK671:=ak (KeepBut.blk hk (g':=gb671) (o:=.cells #[.int .i64 0,.int .i64 0,.int .i64 0,.string (⟨#[]⟩ : ByteArray),.slice none 0 0] 34 (0,0)) (Hd.k_ BK671) NB671_676.out (by simp))
 replace BK672:=ak (KeepBut.blk hk (g':=gb672) (o:=.cells #[.int .i64 0,.int .i64 0,.int .i64 0,.string (⟨#[]⟩ : ByteArray),.slice none 0 0] 34 (0,0)) (Hd.k_ BK672) NB672_676.out (by simp))
 replace BK686:=ak (KeepBut.blk hk (g':=gb686) (o:=.cells #[.int .i64 t677,.int .i64 t678,.int .i64 t679,.string t680,.slice Ao14 t681.length co14] 34 (0,0)) (Hd.k_ BK686) NB686_676.out (by simp))
 replace HB:=ak (hb)
 replace HI676:=ak (hi)
 try clear hb;try clear hb2;try clear hk;try clear hi;try clear ho0
 obtain ⟨Ao27,co27,eo27⟩:=Kd.V_slice HO693.out
 (first | subst eo27 | (injection eo27 with f1_ f2_ f3_;have f4_:=f1_.symm;have f5_:=f3_.symm;clear f1_ f2_ f3_;subst f4_;subst f5_))
 refine hK.out _ _ ⟨(blk_cell BK686.out 0).trans rfl,(blk_cell BK686.out 1).trans rfl,(blk_cell BK686.out 2).trans rfl,(blk_cell BK686.out 3).trans rfl,(blk_cell BK686.out 4).trans rfl⟩ (fun hHeld => ?_)
 clear hK K
 refine Hd.n_ (some 12) ?_
 refine one_ (i:=3) (N:=none) #[Y_,Y_,Y_,Y_,N_] rfl rfl (by kernel_rfl) (by decide) (fun K hK => ?_)
 have hs18 : w17.cell? ⟨gb671,0,none⟩ = some (.int .i64 0):=(blk_cell BK671.out 0).trans rfl
 have hfs18:=blk_frozen BK671.out 0
 have hns18_1:=NB672_671.out
 have hns18_2:=NB686_671.out
 have hms18_1:=NB671_672.out
 have hms18_2:=NB671_686.out
 have hs19 : w17.cell? ⟨gb671,1,none⟩ = some (.int .i64 0):=(blk_cell BK671.out 1).trans rfl
 have hfs19:=blk_frozen BK671.out 1
 have hns19_1:=NB672_671.out
 have hns19_2:=NB686_671.out
 have hms19_1:=NB671_672.out
 have hms19_2:=NB671_686.out
 have hs20 : w17.cell? ⟨gb671,2,none⟩ = some (.int .i64 0):=(blk_cell BK671.out 2).trans rfl
 have hfs20:=blk_frozen BK671.out 2
 have hns20_1:=NB672_671.out
 have hns20_2:=NB686_671.out
 have hms20_1:=NB671_672.out
 have hms20_2:=NB671_686.out
 have hs21 : w17.cell? ⟨gb671,3,none⟩ = some (.string (⟨#[]⟩ : ByteArray)):=(blk_cell BK671.out 3).trans rfl
 have hfs21:=blk_frozen BK671.out 3
 have hns21_1:=NB672_671.out
 have hns21_2:=NB686_671.out
 have hms21_1:=NB671_672.out
 have hms21_2:=NB671_686.out
 have hs22 : w17.cell? ⟨gb671,4,none⟩ = some (.slice none 0 0):=(blk_cell BK671.out 4).trans rfl
 have hfs22:=blk_frozen BK671.out 4
 have hns22_1:=NB672_671.out
 have hns22_2:=NB686_671.out
 have hms22_1:=NB671_672.out
 have hms22_2:=NB671_686.out
 refine skip_ (w1:=?_) (by rfl) rfl ?_ ?_
 rotate_left
 ·
  go_simp
  rfl
 refine hK.out _ _ ⟨((cell_far (p:=⟨gb671,_,none⟩) NB686_671.out _).trans (((cell_far (p:=⟨gb671,_,none⟩) NB686_671.out _).trans (((cell_far (p:=⟨gb671,_,none⟩) NB686_671.out _).trans (((cell_far (p:=⟨gb671,_,none⟩) NB686_671.out _).trans (((cell_far (p:=⟨gb671,_,none⟩) NB686_671.out _).trans (hHeld.1)))))))))),((cell_far (p:=⟨gb671,_,none⟩) NB686_671.out _).trans (((cell_far (p:=⟨gb671,_,none⟩) NB686_671.out _).trans (((cell_far (p:=⟨gb671,_,none⟩) NB686_671.out _).trans (((cell_far (p:=⟨gb671,_,none⟩) NB686_671.out _).trans (((cell_far (p:=⟨gb671,_,none⟩) NB686_671.out _).trans (hHeld.2.1)))))))))),((cell_far (p:=⟨gb671,_,none⟩) NB686_671.out _).trans (((cell_far (p:=⟨gb671,_,none⟩) NB686_671.out _).trans (((cell_far (p:=⟨gb671,_,none⟩) NB686_671.out _).trans (((cell_far (p:=⟨gb671,_,none⟩) NB686_671.out _).trans (((cell_far (p:=⟨gb671,_,none⟩) NB686_671.out _).trans (hHeld.2.2.1)))))))))),((cell_far (p:=⟨gb671,_,none⟩) NB686_671.out _).trans (((cell_far (p:=⟨gb671,_,none⟩) NB686_671.out _).trans (((cell_far (p:=⟨gb671,_,none⟩) NB686_671.out _).trans (((cell_far (p:=⟨gb671,_,none⟩) NB686_671.out _).trans (((cell_far (p:=⟨gb671,_,none⟩) NB686_671.out _).trans (hHeld.2.2.2.1)))))))))),((cell_far (p:=⟨gb671,_,none⟩) NB686_671.out _).trans (((cell_far (p:=⟨gb671,_,none⟩) NB686_671.out _).trans (((cell_far (p:=⟨gb671,_,none⟩) NB686_671.out _).trans (((cell_far (p:=⟨gb671,_,none⟩) NB686_671.out _).trans (((cell_far (p:=⟨gb671,_,none⟩) NB686_671.out _).trans (hHeld.2.2.2.2))))))))))⟩ (fun hHeld => ?_)
 clear hK K
 refine one_ (i:=4) (N:=none) #[Y_,Y_,Y_,Y_,Y_] rfl rfl (by kernel_rfl) (by decide) (fun K hK => ?_)
 have hs23 : w17.cell? ⟨gb672,0,none⟩ = some (.int .i64 0):=(blk_cell BK672.out 0).trans rfl
 have hfs23:=blk_frozen BK672.out 0
 have hns23_0:=NB671_672.out
 have hns23_2:=NB686_672.out
 have hms23_0:=NB672_671.out
 have hms23_2:=NB672_686.out
 have hs24 : w17.cell? ⟨gb672,1,none⟩ = some (.int .i64 0):=(blk_cell BK672.out 1).trans rfl
 have hfs24:=blk_frozen BK672.out 1
 have hns24_0:=NB671_672.out
 have hns24_2:=NB686_672.out
 have hms24_0:=NB672_671.out
 have hms24_2:=NB672_686.out
 have hs25 : w17.cell? ⟨gb672,2,none⟩ = some (.int .i64 0):=(blk_cell BK672.out 2).trans rfl
 have hfs25:=blk_frozen BK672.out 2
 have hns25_0:=NB671_672.out
 have hns25_2:=NB686_672.out
 have hms25_0:=NB672_671.out
 have hms25_2:=NB672_686.out
 have hs26 : w17.cell? ⟨gb672,3,none⟩ = some (.string (⟨#[]⟩ : ByteArray)):=(blk_cell BK672.out 3).trans rfl
 have hfs26:=blk_frozen BK672.out 3
 have hns26_0:=NB671_672.out
 have hns26_2:=NB686_672.out
 have hms26_0:=NB672_671.out
 have hms26_2:=NB672_686.out
 have hs28 : w17.cell? ⟨gb672,4,none⟩ = some (.slice none 0 0):=(blk_cell BK672.out 4).trans rfl
 have hfs28:=blk_frozen BK672.out 4
 have hns28_0:=NB671_672.out
 have hns28_2:=NB686_672.out
 have hms28_0:=NB672_671.out
 have hms28_2:=NB672_686.out
 refine skip_ (w1:=?_) (by rfl) rfl ?_ ?_
 rotate_left
 ·
  go_simp
  rfl
 refine hK.out _ _ ⟨((cell_far (p:=⟨gb672,_,none⟩) NB686_672.out _).trans (((cell_far (p:=⟨gb672,_,none⟩) NB686_672.out _).trans (((cell_far (p:=⟨gb672,_,none⟩) NB686_672.out _).trans (((cell_far (p:=⟨gb672,_,none⟩) NB686_672.out _).trans (((cell_far (p:=⟨gb672,_,none⟩) NB686_672.out _).trans (hHeld.1)))))))))),((cell_far (p:=⟨gb672,_,none⟩) NB686_672.out _).trans (((cell_far (p:=⟨gb672,_,none⟩) NB686_672.out _).trans (((cell_far (p:=⟨gb672,_,none⟩) NB686_672.out _).trans (((cell_far (p:=⟨gb672,_,none⟩) NB686_672.out _).trans (((cell_far (p:=⟨gb672,_,none⟩) NB686_672.out _).trans (hHeld.2.1)))))))))),((cell_far (p:=⟨gb672,_,none⟩) NB686_672.out _).trans (((cell_far (p:=⟨gb672,_,none⟩) NB686_672.out _).trans (((cell_far (p:=⟨gb672,_,none⟩) NB686_672.out _).trans (((cell_far (p:=⟨gb672,_,none⟩) NB686_672.out _).trans (((cell_far (p:=⟨gb672,_,none⟩) NB686_672.out _).trans (hHeld.2.2.1)))))))))),((cell_far (p:=⟨gb672,_,none⟩) NB686_672.out _).trans (((cell_far (p:=⟨gb672,_,none⟩) NB686_672.out _).trans (((cell_far (p:=⟨gb672,_,none⟩) NB686_672.out _).trans (((cell_far (p:=⟨gb672,_,none⟩) NB686_672.out _).trans (((cell_far (p:=⟨gb672,_,none⟩) NB686_672.out _).trans (hHeld.2.2.2.1)))))))))),((cell_far (p:=⟨gb672,_,none⟩) NB686_672.out _).trans (((cell_far (p:=⟨gb672,_,none⟩) NB686_672.out _).trans (((cell_far (p:=⟨gb672,_,none⟩) NB686_672.out _).trans (((cell_far (p:=⟨gb672,_,none⟩) NB686_672.out _).trans (((cell_far (p:=⟨gb672,_,none⟩) NB686_672.out _).trans (hHeld.2.2.2.2))))))))))⟩ (fun hHeld => ?_)
 clear hK K
 refine done_ (by kernel_rfl) ?_
 try go_wp2
 refine bodyPost_ret (results_cc rfl _ _ gb671 gb672 34 34 #[.int .i64 t677,.int .i64 t678,.int .i64 t679,.string t680,.slice Ao14 t681.length co14] #[.int .i64 t687,.int .i64 t688,.int .i64 t689,.string t690,.slice Ao27 t691.length co27] (0,0) (0,0) _ _ rfl (by (with_reducible repeat (first | refine blk_drewN ?_ _ | refine blk_drew ?_ | refine blk_alloc ?_ _));refine blk_far ?_ NB671_672.out _;(with_reducible repeat (first | refine blk_drewN ?_ _ | refine blk_drew ?_ | refine blk_alloc ?_ _));refine blk_far ?_ NB671_672.out _;(with_reducible repeat (first | refine blk_drewN ?_ _ | refine blk_drew ?_ | refine blk_alloc ?_ _));refine blk_far ?_ NB671_672.out _;(with_reducible repeat (first | refine blk_drewN ?_ _ | refine blk_drew ?_ | refine blk_alloc ?_ _));refine blk_far ?_ NB671_672.out _;(with_reducible repeat (first | refine blk_drewN ?_ _ | refine blk_drew ?_ | refine blk_alloc ?_ _));refine blk_far ?_ NB671_672.out _;(with_reducible repeat (first | refine blk_drewN ?_ _ | refine blk_drew ?_ | refine blk_alloc ?_ _));refine blk_put (cs:=#[.int .i64 t677,.int .i64 t678,.int .i64 t679,.string t680,.slice none 0 0]) ?_ 4 _ rfl;(with_reducible repeat (first | refine blk_drewN ?_ _ | refine blk_drew ?_ | refine blk_alloc ?_ _));refine blk_put (cs:=#[.int .i64 t677,.int .i64 t678,.int .i64 t679,.string (⟨#[]⟩ : ByteArray),.slice none 0 0]) ?_ 3 _ rfl;(with_reducible repeat (first | refine blk_drewN ?_ _ | refine blk_drew ?_ | refine blk_alloc ?_ _));refine blk_put (cs:=#[.int .i64 t677,.int .i64 t678,.int .i64 0,.string (⟨#[]⟩ : ByteArray),.slice none 0 0]) ?_ 2 _ rfl;(with_reducible repeat (first | refine blk_drewN ?_ _ | refine blk_drew ?_ | refine blk_alloc ?_ _));refine blk_put (cs:=#[.int .i64 t677,.int .i64 0,.int .i64 0,.string (⟨#[]⟩ : ByteArray),.slice none 0 0]) ?_ 1 _ rfl;(with_reducible repeat (first | refine blk_drewN ?_ _ | refine blk_drew ?_ | refine blk_alloc ?_ _));refine blk_put (cs:=#[.int .i64 0,.int .i64 0,.int .i64 0,.string (⟨#[]⟩ : ByteArray),.slice none 0 0]) ?_ 0 _ rfl;(with_reducible repeat (first | refine blk_drewN ?_ _ | refine blk_drew ?_ | refine blk_alloc ?_ _));exact BK671.out) Try.underlying34 rfl (by kernel_rfl) rfl (by (with_reducible repeat (first | refine blk_drewN ?_ _ | refine blk_drew ?_ | refine blk_alloc ?_ _));refine blk_put (cs:=#[.int .i64 t687,.int .i64 t688,.int .i64 t689,.string t690,.slice none 0 0]) ?_ 4 _ rfl;(with_reducible repeat (first | refine blk_drewN ?_ _ | refine blk_drew ?_ | refine blk_alloc ?_ _));refine blk_put (cs:=#[.int .i64 t687,.int .i64 t688,.int .i64 t689,.string (⟨#[]⟩ : ByteArray),.slice none 0 0]) ?_ 3 _ rfl;(with_reducible repeat (first | refine blk_drewN ?_ _ | refine blk_drew ?_ | refine blk_alloc ?_ _));refine blk_put (cs:=#[.int .i64 t687,.int .i64 t688,.int .i64 0,.string (⟨#[]⟩ : ByteArray),.slice none 0 0]) ?_ 2 _ rfl;(with_reducible repeat (first | refine blk_drewN ?_ _ | refine blk_drew ?_ | refine blk_alloc ?_ _));refine blk_put (cs:=#[.int .i64 t687,.int .i64 0,.int .i64 0,.string (⟨#[]⟩ : ByteArray),.slice none 0 0]) ?_ 1 _ rfl;(with_reducible repeat (first | refine blk_drewN ?_ _ | refine blk_drew ?_ | refine blk_alloc ?_ _));refine blk_put (cs:=#[.int .i64 0,.int .i64 0,.int .i64 0,.string (⟨#[]⟩ : ByteArray),.slice none 0 0]) ?_ 0 _ rfl;(with_reducible repeat (first | refine blk_drewN ?_ _ | refine blk_drew ?_ | refine blk_alloc ?_ _));refine blk_far ?_ NB672_671.out _;(with_reducible repeat (first | refine blk_drewN ?_ _ | refine blk_drew ?_ | refine blk_alloc ?_ _));refine blk_far ?_ NB672_671.out _;(with_reducible repeat (first | refine blk_drewN ?_ _ | refine blk_drew ?_ | refine blk_alloc ?_ _));refine blk_far ?_ NB672_671.out _;(with_reducible repeat (first | refine blk_drewN ?_ _ | refine blk_drew ?_ | refine blk_alloc ?_ _));refine blk_far ?_ NB672_671.out _;(with_reducible repeat (first | refine blk_drewN ?_ _ | refine blk_drew ?_ | refine blk_alloc ?_ _));refine blk_far ?_ NB672_671.out _;(with_reducible repeat (first | refine blk_drewN ?_ _ | refine blk_drew ?_ | refine blk_alloc ?_ _));exact BK672.out) Try.underlying34 rfl (by kernel_rfl)) rfl ?_
 exact ⟨_,_,Hd.e_,z44_ HO683,z44_ HO693,z40_ GE671 GE672 GE686⟩
mutual
def impl_greatest.l0 : Nat → List (S101) → Int → List (S101) → Int → Int → Option (Int)
 | 0,_,_,_,_,_ => none
 | k + 1,x1,x5,x10,x11,x12 => if x12 < x11 then (if 0 ≤ x12 then (if x12 < (x10.length : Int) then (impl_greatest.l1 k x1 x5 x10 x11 x12 x1 (x1.length : Int) 0 ((rd_T101 x10 x12).f0.f0) ((rd_T101 x10 x12).f0.f1) ((rd_T101 x10 x12).f1.f0) ((rd_T101 x10 x12).f1.f1)) else (none)) else (none)) else (some x5)
def impl_greatest.l1 : Nat → List (S101) → Int → List (S101) → Int → Int → List (S101) → Int → Int → Int → Int → Int → Int → Option (Int)
 | 0,_,_,_,_,_,_,_,_,_,_,_,_ => none
 | k + 1,x1,x5,x10,x11,x12,x16,x17,x18,x698000,x698001,x698002,x698003 => if x18 < x17 then (if 0 ≤ x18 then (if x18 < (x16.length : Int) then ((impl_HowMeet.f k x698000 x698001 x698002 x698003 ((rd_T101 x16 x18).f0.f0) ((rd_T101 x16 x18).f0.f1) ((rd_T101 x16 x18).f1.f0) ((rd_T101 x16 x18).f1.f1)).bind fun t700 => (impl_greatest.l1 k x1 (mx x5 t700) x10 x11 x12 x16 x17 (wrap64 (x18 + 1)) x698000 x698001 x698002 x698003)) else (none)) else (none)) else (impl_greatest.l0 k x1 x5 x10 x11 (wrap64 (x12 + 1)))
end
def impl_greatest.f (k : Nat) (l0 : List (S101)) (l1 : List (S101)) : Option (Int):=impl_greatest.l0 k l1 0 l0 (l0.length : Int) 0
theorem impl_greatest.calls (k : Nat) (A0 : Option Addr) (c0 : Nat) (l0 : List (S101)) (A1 : Option Addr) (c1 : Nat) (l1 : List (S101)) (r : Int) (w : World) (hr0 : Kd.C k101 w A0 l0.length l0) (hc0 : l0.length ≤ c0) (hr1 : Kd.C k101 w A1 l1.length l1) (hc1 : l1.length ≤ c1) (h : impl_greatest.f k l0 l1 = some r) :
  Calls Try.prog 56 #[.slice A0 l0.length c0,.slice A1 l1.length c1] w fun e w' => e = .returned (.int .i64 r) ∧ Below w.heap.size w w':=by
 have hu101:=Try.underlying101
 have HR0:=ak hr0
 have HC0:=ak hc0
 clear hr0 hc0
 have HR1:=ak hr1
 have HC1:=ak hc1
 clear hr1 hc1
 have HB:=ak (Below.refl w.heap.size w)
 have H:=h;clear h;unfold impl_greatest.f at H
 have H':=ak H
 clear H
 go_enter Try.func56,Try.ntmps56
 go_wp2
 go_loopg [5,12] k (fun kq v5 v12 w' => ∃ (x5_1 : Int) (x12_1 : Int),v5 = .int .i64 x5_1 ∧ v12 = .int .i64 x12_1 ∧ Aside0 (impl_greatest.l0 kq l1 x5_1 l0 (l0.length : Int) x12_1 = some r) ∧ Aside0 (kq ≤ k) ∧ Aside0 (Below w.heap.size w w'))
 case atStart => exact ⟨(0),(0),z8_,z8_,H',⟨Nat.le_refl _⟩,⟨Hd.b_⟩⟩
 case round =>
  clear H'
  try clear c1;try clear p2
  obtain ⟨x5_1,x12_1,rfl,rfl,HA,HK1,HB⟩:=hrel
  cases gk with
  | zero => exact absurd HA.out (by simp [impl_greatest.l0])
  | succ k1 =>
   have H:=HA.out
   clear HA
   simp only [impl_greatest.l0] at H
   by_cases c3 : x12_1 < (l0.length : Int);rotate_left
   ·
    rw [if_neg c3] at H
    have c3b0:=decide_eq_false c3
    clear c3
    obtain rfl:=Option.some.inj H
    go_wp2
    go_ret
    exact ⟨Hd.e_,Hd.b_⟩
   rw [if_pos c3] at H
   have c3b0:=decide_eq_true c3
   clear c3
   by_cases c4 : 0 ≤ x12_1;rotate_left
   ·
    rw [if_neg c4] at H
    exact absurd H (by simp)
   rw [if_pos c4] at H
   have c4b0:=decide_eq_true c4
   clear c4
   by_cases c5 : x12_1 < (l0.length : Int);rotate_left
   ·
    rw [if_neg c5] at H
    exact absurd H (by simp)
   rw [if_pos c5] at H
   have c5b0:=decide_eq_true c5
   clear c5
   have H':=ak H
   clear H
   have p696 : 0 ≤ (x12_1 : Int):=of_decide_eq_true Hd.a_
   have q696 : x12_1 < (l0.length : Int):=of_decide_eq_true Hd.a_
   obtain ⟨ad696,e696,hx696_0,hx696_1,hx696_2,hx696_3⟩:=at_T101 HR0.out x12_1 p696 q696
   cases e696
   replace hx696_0:=(HB.out.cell (World.block_lt_of_cell? w _ hx696_0)).trans hx696_0
   replace hx696_1:=(HB.out.cell (World.block_lt_of_cell? w _ hx696_1)).trans hx696_1
   replace hx696_2:=(HB.out.cell (World.block_lt_of_cell? w _ hx696_2)).trans hx696_2
   replace hx696_3:=(HB.out.cell (World.block_lt_of_cell? w _ hx696_3)).trans hx696_3
   replace p696:=eq_true p696
   replace q696:=eq_true q696
   go_wp2_with (first | ((with_reducible refine gate_dst (N:=7) rfl ?_);refine Hd.box_ 7 (#[.int .i64 0,.int .i64 0,.int .i64 0,.int .i64 0]) 101 ?_;intro gb697 hg w6 hbox hb;have BK697:=ak (hbox);have GW697:=ak ((Hd.g_ hg Hd.b_ : w.heap.size ≤ gb697));have GE697:=ak ((Hd.g_ hg Hd.b_ : w.heap.size ≤ gb697));replace HB:=ak (below_step Hd.b_ hb);clear hb hbox hg;obtain ⟨hcz7_0,hcz7_1,hcz7_2,hcz7_3⟩:=Hd.c4_ BK697.out;obtain ⟨hfz7_0,hfz7_1,hfz7_2,hfz7_3⟩:=Hd.f4_ BK697.out))
   go_loopg [5,18] k1 (fun kq v5 v18 w' => ∃ (x5_2 : Int) (x18_2 : Int),v5 = .int .i64 x5_2 ∧ v18 = .int .i64 x18_2 ∧ Aside0 (impl_greatest.l1 kq l1 x5_2 l0 (l0.length : Int) x12_1 l1 (l1.length : Int) x18_2 ((rd_T101 l0 x12_1).f0.f0) ((rd_T101 l0 x12_1).f0.f1) ((rd_T101 l0 x12_1).f1.f0) ((rd_T101 l0 x12_1).f1.f1) = some r) ∧ Aside0 (kq ≤ k1) ∧ Aside0 (w'.heap[gb697]? = some (.cells #[.int .i64 ((rd_T101 l0 x12_1).f0.f0),.int .i64 ((rd_T101 l0 x12_1).f0.f1),.int .i64 ((rd_T101 l0 x12_1).f1.f0),.int .i64 ((rd_T101 l0 x12_1).f1.f1)] 101 (0,0))) ∧ Aside0 (Below w.heap.size w w'))
   case atStart => exact ⟨(x5_1),(0),z8_,z8_,H',⟨Nat.le_refl _⟩,⟨by (with_reducible repeat (first | refine blk_drewN ?_ _ | refine blk_drew ?_ | refine blk_alloc ?_ _));refine blk_put (cs:=#[.int .i64 ((rd_T101 l0 x12_1).f0.f0),.int .i64 ((rd_T101 l0 x12_1).f0.f1),.int .i64 ((rd_T101 l0 x12_1).f1.f0),.int .i64 0]) ?_ 3 _ rfl;(with_reducible repeat (first | refine blk_drewN ?_ _ | refine blk_drew ?_ | refine blk_alloc ?_ _));refine blk_put (cs:=#[.int .i64 ((rd_T101 l0 x12_1).f0.f0),.int .i64 ((rd_T101 l0 x12_1).f0.f1),.int .i64 0,.int .i64 0]) ?_ 2 _ rfl;(with_reducible repeat (first | refine blk_drewN ?_ _ | refine blk_drew ?_ | refine blk_alloc ?_ _));refine blk_put (cs:=#[.int .i64 ((rd_T101 l0 x12_1).f0.f0),.int .i64 0,.int .i64 0,.int .i64 0]) ?_ 1 _ rfl;(with_reducible repeat (first | refine blk_drewN ?_ _ | refine blk_drew ?_ | refine blk_alloc ?_ _));refine blk_put (cs:=#[.int .i64 0,.int .i64 0,.int .i64 0,.int .i64 0]) ?_ 0 _ rfl;(with_reducible repeat (first | refine blk_drewN ?_ _ | refine blk_drew ?_ | refine blk_alloc ?_ _));exact BK697.out⟩,⟨Hd.b_⟩⟩
   case round =>
    clear H'
    try clear c1;try clear p2;try clear c3;try clear c3b0;try clear c4;try clear c4b0;try clear c5;try clear c5b0;try clear p6;try clear q6;try clear hx6;try clear hcz7_0;try clear hcz7_1;try clear hcz7_2;try clear hcz7_3;try clear hfz7_0;try clear hfz7_1;try clear hfz7_2;try clear hfz7_3;try clear hx696_0;try clear hx696_1;try clear hx696_2;try clear hx696_3;try clear p2;try clear p696;try clear q696
    obtain ⟨x5_2,x18_2,rfl,rfl,HA,HK2,BK697,HB⟩:=hrel
    cases gk with
    | zero => exact absurd HA.out (by simp [impl_greatest.l1])
    | succ k2 =>
     have H:=HA.out
     clear HA
     simp only [impl_greatest.l1] at H
     by_cases c8 : x18_2 < (l1.length : Int);rotate_left
     ·
      rw [if_neg c8] at H
      have c8b0:=decide_eq_false c8
      clear c8
      have H':=ak H
      clear H
      go_wp2
      go_roundg k2
      case measure => have:=HK1.out;have:=HK2.out;omega
      case rel => exact ⟨(x5_2),(wrap64 (x12_1 + 1)),z8_,z8_,H',⟨z62_⟩,⟨Hd.b_⟩⟩
     rw [if_pos c8] at H
     have c8b0:=decide_eq_true c8
     clear c8
     by_cases c9 : 0 ≤ x18_2;rotate_left
     ·
      rw [if_neg c9] at H
      exact absurd H (by simp)
     rw [if_pos c9] at H
     have c9b0:=decide_eq_true c9
     clear c9
     by_cases c10 : x18_2 < (l1.length : Int);rotate_left
     ·
      rw [if_neg c10] at H
      exact absurd H (by simp)
     rw [if_pos c10] at H
     have c10b0:=decide_eq_true c10
     clear c10
     replace H:=Hd.bd_ H;obtain ⟨t700,A11,H⟩:=H
     obtain ⟨ji12,hji12⟩ : ∃ j_ : Int,(mx x5_2 t700) = j_:=⟨_,rfl⟩
     replace H : (impl_greatest.l1 k2 l1 ji12 l0 (l0.length : Int) x12_1 l1 (l1.length : Int) (wrap64 (x18_2 + 1)) ((rd_T101 l0 x12_1).f0.f0) ((rd_T101 l0 x12_1).f0.f1) ((rd_T101 l0 x12_1).f1.f0) ((rd_T101 l0 x12_1).f1.f1)) = some r:=by first | (rw [hji12] at H;exact H) | (simp only [hji12] at H ⊢;exact H)
     (try rw [hji12] at A11)
     have hji12_ : (if x5_2 < t700 then t700 else x5_2) = ji12:=hji12
     have H':=ak H
     clear H
     have p698 : 0 ≤ (x18_2 : Int):=of_decide_eq_true Hd.a_
     have q698 : x18_2 < (l1.length : Int):=of_decide_eq_true Hd.a_
     obtain ⟨ad698,e698,hx698_0,hx698_1,hx698_2,hx698_3⟩:=at_T101 HR1.out x18_2 p698 q698
     cases e698
     replace hx698_0:=(HB.out.cell (World.block_lt_of_cell? w _ hx698_0)).trans hx698_0
     replace hx698_1:=(HB.out.cell (World.block_lt_of_cell? w _ hx698_1)).trans hx698_1
     replace hx698_2:=(HB.out.cell (World.block_lt_of_cell? w _ hx698_2)).trans hx698_2
     replace hx698_3:=(HB.out.cell (World.block_lt_of_cell? w _ hx698_3)).trans hx698_3
     replace p698:=eq_true p698
     replace q698:=eq_true q698
     go_wp2_with (first | ((with_reducible refine gate_dst (N:=9) rfl ?_);refine Hd.box_ 9 (#[.int .i64 0,.int .i64 0,.int .i64 0,.int .i64 0]) 101 ?_;intro gb699 hg w13 hbox hb;have BK699:=ak (hbox);have GW699:=ak ((Hd.g_ hg Hd.b_ : w.heap.size ≤ gb699));have GE699:=ak ((Hd.g_ hg Hd.b_ : w.heap.size ≤ gb699));replace HB:=ak (below_step Hd.b_ hb);have NB697_699:=ak ((Hd.lt_ BK697 hg));have NB699_697:=ak ((Hd.gt_ BK697 hg));replace BK697:=ak (Hd.kb_ BK697 hb);clear hb hbox hg;have hnb14:=NB699_697.out;have hnc14:=NB697_699.out;obtain ⟨hcz15_0,hcz15_1,hcz15_2,hcz15_3⟩:=Hd.c4_ BK699.out;obtain ⟨hfz15_0,hfz15_1,hfz15_2,hfz15_3⟩:=Hd.f4_ BK699.out;obtain ⟨hcz16_0,hcz16_1,hcz16_2,hcz16_3⟩:=Hd.c4_ BK697.out;obtain ⟨hfz16_0,hfz16_1,hfz16_2,hfz16_3⟩:=Hd.f4_ BK697.out) | ((with_reducible refine gate_callee (f:=76) rfl ?_);refine Hd.gl_ 25 Try.func76 #[.agg #[.int .i64 ((rd_T101 l0 x12_1).f0.f0),.int .i64 ((rd_T101 l0 x12_1).f0.f1),.int .i64 ((rd_T101 l0 x12_1).f1.f0),.int .i64 ((rd_T101 l0 x12_1).f1.f1)],.agg #[.int .i64 ((rd_T101 l1 x18_2).f0.f0),.int .i64 ((rd_T101 l1 x18_2).f0.f1),.int .i64 ((rd_T101 l1 x18_2).f1.f0),.int .i64 ((rd_T101 l1 x18_2).f1.f1)]] ?_;(with_reducible refine (impl_HowMeet.calls k2 ((rd_T101 l0 x12_1).f0.f0) ((rd_T101 l0 x12_1).f0.f1) ((rd_T101 l0 x12_1).f1.f0) ((rd_T101 l0 x12_1).f1.f1) ((rd_T101 l1 x18_2).f0.f0) ((rd_T101 l1 x18_2).f0.f1) ((rd_T101 l1 x18_2).f1.f0) ((rd_T101 l1 x18_2).f1.f1) t700 _ A11.out).mono ?_);rintro e w17 ⟨rfl,hb⟩;refine ⟨_,rfl,?_⟩;replace BK697:=ak (blk_below (g:=gb697) (o:=.cells #[.int .i64 ((rd_T101 l0 x12_1).f0.f0),.int .i64 ((rd_T101 l0 x12_1).f0.f1),.int .i64 ((rd_T101 l0 x12_1).f1.f0),.int .i64 ((rd_T101 l0 x12_1).f1.f1)] 101 (0,0)) (by (with_reducible repeat (first | refine blk_drewN ?_ _ | refine blk_drew ?_ | refine blk_alloc ?_ _));refine blk_far ?_ NB697_699.out _;(with_reducible repeat (first | refine blk_drewN ?_ _ | refine blk_drew ?_ | refine blk_alloc ?_ _));refine blk_far ?_ NB697_699.out _;(with_reducible repeat (first | refine blk_drewN ?_ _ | refine blk_drew ?_ | refine blk_alloc ?_ _));refine blk_far ?_ NB697_699.out _;(with_reducible repeat (first | refine blk_drewN ?_ _ | refine blk_drew ?_ | refine blk_alloc ?_ _));refine blk_far ?_ NB697_699.out _;(with_reducible repeat (first | refine blk_drewN ?_ _ | refine blk_drew ?_ | refine blk_alloc ?_ _));exact BK697.out) hb);replace BK699:=ak (blk_below (g:=gb699) (o:=.cells #[.int .i64 ((rd_T101 l1 x18_2).f0.f0),.int .i64 ((rd_T101 l1 x18_2).f0.f1),.int .i64 ((rd_T101 l1 x18_2).f1.f0),.int .i64 ((rd_T101 l1 x18_2).f1.f1)] 101 (0,0)) (by (with_reducible repeat (first | refine blk_drewN ?_ _ | refine blk_drew ?_ | refine blk_alloc ?_ _));refine blk_put (cs:=#[.int .i64 ((rd_T101 l1 x18_2).f0.f0),.int .i64 ((rd_T101 l1 x18_2).f0.f1),.int .i64 ((rd_T101 l1 x18_2).f1.f0),.int .i64 0]) ?_ 3 _ rfl;(with_reducible repeat (first | refine blk_drewN ?_ _ | refine blk_drew ?_ | refine blk_alloc ?_ _));refine blk_put (cs:=#[.int .i64 ((rd_T101 l1 x18_2).f0.f0),.int .i64 ((rd_T101 l1 x18_2).f0.f1),.int .i64 0,.int .i64 0]) ?_ 2 _ rfl;(with_reducible repeat (first | refine blk_drewN ?_ _ | refine blk_drew ?_ | refine blk_alloc ?_ _));refine blk_put (cs:=#[.int .i64 ((rd_T101 l1 x18_2).f0.f0),.int .i64 0,.int .i64 0,.int .i64 0]) ?_ 1 _ rfl;(with_reducible repeat (first | refine blk_drewN ?_ _ | refine blk_drew ?_ | refine blk_alloc ?_ _));refine blk_put (cs:=#[.int .i64 0,.int .i64 0,.int .i64 0,.int .i64 0]) ?_ 0 _ rfl;(with_reducible repeat (first | refine blk_drewN ?_ _ | refine blk_drew ?_ | refine blk_alloc ?_ _));exact BK699.out) hb);replace HB:=ak (below_step Hd.b_ hb);clear hb))
     go_roundg k2
     case measure => have:=HK1.out;have:=HK2.out;omega
     case rel => exact ⟨(ji12),(wrap64 (x18_2 + 1)),(by first | rfl | (simp;done) | (simp only [← hji12] <;> (first | rfl | simp)) | (simp [*];done)),z8_,H',⟨z62_⟩,⟨z4_ BK697⟩,⟨Hd.b_⟩⟩
def impl_RingSegments.f (k : Nat) (l0 : List (S75)) : Option ((List (S101))):=(impl_IsRing.f k l0).bind fun t701 => (if t701 = true then ((impl_around.f k l0).bind fun t702 => (some t702)) else (some (([] : List (S101)))))
theorem impl_RingSegments.calls (k : Nat) (A0 : Option Addr) (c0 : Nat) (l0 : List (S75)) (r : List (S101)) (w : World) (hr0 : Kd.C k75 w A0 l0.length l0) (hc0 : l0.length ≤ c0) (h : impl_RingSegments.f k l0 = some r) :
  Calls Try.prog 78 #[.slice A0 l0.length c0] w fun e w' => ∃ v0_ : Value,e = .returned (v0_) ∧ Kd.R k101 101 w' w.heap.size (fun _ => True) v0_ r ∧ Below w.heap.size w w':=by
 have HR0:=ak hr0
 have HC0:=ak hc0
 clear hr0 hc0
 have HB:=ak (Below.refl w.heap.size w)
 have H:=h;clear h;unfold impl_RingSegments.f at H
 replace H:=Hd.bd_ H;obtain ⟨t701,A2,H⟩:=H
 by_cases c3 : t701 = true
 ·
  subst c3
  rw [if_pos rfl] at H
  replace H:=Hd.bd_ H;obtain ⟨t702,A4,H⟩:=H
  obtain rfl:=Option.some.inj H
  go_enter Try.func78,Try.ntmps78
  go_wp2_with (first | ((with_reducible refine gate_callee (f:=75) rfl ?_);refine Hd.gl_ 4 Try.func75 #[.slice A0 l0.length c0] ?_;(with_reducible refine (impl_IsRing.calls k _ _ l0 true _ ?side1 ?side2 A2.out).mono ?_);(case side1 => exact z27_ HR0);(case side2 => exact HC0.out);rintro e w5 ⟨rfl,hb⟩;refine ⟨_,rfl,?_⟩;replace HB:=ak (below_step Hd.b_ hb);clear hb) | ((with_reducible refine gate_callee (f:=89) rfl ?_);refine Hd.gl_ 8 Try.func89 #[.slice A0 l0.length c0] ?_;(with_reducible refine (impl_around.calls k _ _ l0 t702 _ ?side1 ?side2 A4.out).mono ?_);(case side1 => exact z14_ HR0);(case side2 => exact HC0.out);rintro e w6 ⟨v703,rfl,ho0,hb⟩;refine ⟨_,rfl,?_⟩;have HO704:=z78_;replace HB:=ak (below_step Hd.b_ hb);clear hb ho0))
  go_ret
  exact ⟨_,Hd.e_,z6_ HO704,Hd.b_⟩
 replace c3:=Bool.eq_false_iff.mpr c3
 subst c3
 rw [if_neg (show ¬ (false = true) by decide)] at H
 generalize hy705 : (([] : List (S101))) = y705 at H;have Ny705:=ak hy705.symm;clear hy705;try rw [Option.bind_some] at H
 obtain rfl:=Option.some.inj H
 go_enter Try.func78,Try.ntmps78
 go_wp2_with (first | ((with_reducible refine gate_callee (f:=75) rfl ?_);refine Hd.gl_ 4 Try.func75 #[.slice A0 l0.length c0] ?_;(with_reducible refine (impl_IsRing.calls k _ _ l0 false _ ?side1 ?side2 A2.out).mono ?_);(case side1 => exact z27_ HR0);(case side2 => exact HC0.out);rintro e w7 ⟨rfl,hb⟩;refine ⟨_,rfl,?_⟩;replace HB:=ak (below_step Hd.b_ hb);clear hb) | ((with_reducible refine gate_dst (N:=6) rfl ?_);refine Kd.R_lit k101 _ 101 ?hg (N:=6) ?hd (xs:=([] : List (S101))) (inner:=[]) (ok:=fun _ => True) (okp:=fun _ => True) ?hr ?hp (fun _ hk => hk) trivial (Below.refl _ _) (Nat.le_refl _) (by simp) ?_;(case hd => rfl);(case hg => rfl);(case hr => exact z31_);(case hp => exact (Reps.none _ _));intro v706 w8 ho9 hb hg_ hnew_;clear hg_ hnew_;(first | rw [← Ny705.out] at ho9 | (simp only [Int.reduceToNat] at ho9;rw [← Ny705.out] at ho9));have HO707:=ak (Kd.R_lower ho9 (below_size Hd.b_));replace HB:=ak (below_step Hd.b_ hb);clear hb ho9))
 go_ret
 exact ⟨_,Hd.e_,z6_ HO707,Hd.b_⟩
def impl_PartsOf.f (k : Nat) (a0_0 : Int) (a0_1 : Int) (a0_2 : Int) (a0_3 : ByteArray) (l0_4 : List (S75)) : Option ((List (S101))):=(impl_IsFeature.f k a0_0 a0_1 a0_2 a0_3 l0_4).bind fun t709 => (if t709 = true then (if a0_1 = 2 then ((impl_SegmentsOf.f k l0_4).bind fun t710 => (some t710)) else (if a0_1 = 3 then ((impl_RingSegments.f k l0_4).bind fun t713 => (some t713)) else (some (([] : List (S101)))))) else (some (([] : List (S101)))))
theorem impl_PartsOf.calls (k : Nat) (a0_0 : Int) (a0_1 : Int) (a0_2 : Int) (a0_3 : ByteArray) (A0_4 : Option Addr) (c0_4 : Nat) (l0_4 : List (S75)) (r : List (S101)) (w : World) (hr0_4 : Kd.C k75 w A0_4 l0_4.length l0_4) (hc0_4 : l0_4.length ≤ c0_4) (h : impl_PartsOf.f k a0_0 a0_1 a0_2 a0_3 l0_4 = some r) :
  Calls Try.prog 57 #[.agg #[.int .i64 a0_0,.int .i64 a0_1,.int .i64 a0_2,.string a0_3,.slice A0_4 l0_4.length c0_4]] w fun e w' => ∃ v0_ : Value,e = .returned (v0_) ∧ Kd.R k101 101 w' w.heap.size (fun _ => True) v0_ r ∧ Below w.heap.size w w':=by
 have hu34:=Try.underlying34
 have HR0_4:=ak hr0_4
 have HC0_4:=ak hc0_4
 clear hr0_4 hc0_4
 have HB:=ak (Below.refl w.heap.size w)
 have H:=h;clear h;unfold impl_PartsOf.f at H
 replace H:=Hd.bd_ H;obtain ⟨t709,A2,H⟩:=H
 by_cases c3 : t709 = true;rotate_left
 ·
  replace c3:=Bool.eq_false_iff.mpr c3
  subst c3
  rw [if_neg (show ¬ (false = true) by decide)] at H
  generalize hy719 : (([] : List (S101))) = y719 at H;have Ny719:=ak hy719.symm;clear hy719;try rw [Option.bind_some] at H
  obtain rfl:=Option.some.inj H
  go_enter Try.func57,Try.ntmps57
  go_wp2_with (first | ((with_reducible refine gate_dst (N:=1) rfl ?_);refine Hd.box_ 1 (#[.int .i64 a0_0,.int .i64 a0_1,.int .i64 a0_2,.string a0_3,.slice A0_4 l0_4.length c0_4]) 34 ?_;intro gb708 hg w24 hbox hb;have BK708:=ak (hbox);have GW708:=z85_;have GE708:=z85_;replace HB:=ak (below_step Hd.b_ hb);clear hb hbox hg;obtain ⟨hcz25_0,hcz25_1,hcz25_2,hcz25_3,hcz25_4⟩:=Hd.c5_ BK708.out;obtain ⟨hfz25_0,hfz25_1,hfz25_2,hfz25_3,hfz25_4⟩:=Hd.f5_ BK708.out) | ((with_reducible refine gate_callee (f:=52) rfl ?_);refine Hd.gl_ 4 Try.func52 #[.agg #[.int .i64 a0_0,.int .i64 a0_1,.int .i64 a0_2,.string a0_3,.slice A0_4 l0_4.length c0_4]] ?_;(with_reducible refine (impl_IsFeature.calls k a0_0 a0_1 a0_2 a0_3 _ _ l0_4 false _ ?side1 ?side2 A2.out).mono ?_);(case side1 => exact z14_ HR0_4);(case side2 => exact HC0_4.out);rintro e w26 ⟨rfl,hb⟩;refine ⟨_,rfl,?_⟩;replace BK708:=ak (Hd.kb_ BK708 hb);replace HB:=ak (below_step Hd.b_ hb);clear hb) | ((with_reducible refine gate_dst (N:=17) rfl ?_);refine Kd.R_lit k101 _ 101 ?hg (N:=17) ?hd (xs:=([] : List (S101))) (inner:=[]) (ok:=fun _ => True) (okp:=fun _ => True) ?hr ?hp (fun _ hk => hk) trivial (Below.refl _ _) (Nat.le_refl _) (by simp) ?_;(case hd => rfl);(case hg => rfl);(case hr => exact z31_);(case hp => exact (Reps.none _ _));intro v720 w27 ho28 hb hg_ hnew_;clear hg_ hnew_;(first | rw [← Ny719.out] at ho28 | (simp only [Int.reduceToNat] at ho28;rw [← Ny719.out] at ho28));have HO721:=ak (Kd.R_lower ho28 (below_size Hd.b_));replace BK708:=ak (Hd.kb_ BK708 hb);replace HB:=ak (below_step Hd.b_ hb);clear hb ho28))
  go_ret
  exact ⟨_,Hd.e_,z6_ HO721,Hd.b_⟩
 subst c3
 rw [if_pos rfl] at H
 by_cases c4 : a0_1 = 2
 ·
  rw [if_pos c4] at H
  have c4b0:=beq_iff_eq.mpr c4
  have c4b1:=bne_eq_false_iff_eq.mpr c4
  clear c4
  replace H:=Hd.bd_ H;obtain ⟨t710,A5,H⟩:=H
  obtain rfl:=Option.some.inj H
  go_enter Try.func57,Try.ntmps57
  go_wp2_with (first | ((with_reducible refine gate_dst (N:=1) rfl ?_);refine Hd.box_ 1 (#[.int .i64 a0_0,.int .i64 a0_1,.int .i64 a0_2,.string a0_3,.slice A0_4 l0_4.length c0_4]) 34 ?_;intro gb708 hg w6 hbox hb;have BK708:=ak (hbox);have GW708:=z85_;have GE708:=z85_;replace HB:=ak (below_step Hd.b_ hb);clear hb hbox hg;obtain ⟨hcz7_0,hcz7_1,hcz7_2,hcz7_3,hcz7_4⟩:=Hd.c5_ BK708.out;obtain ⟨hfz7_0,hfz7_1,hfz7_2,hfz7_3,hfz7_4⟩:=Hd.f5_ BK708.out) | ((with_reducible refine gate_callee (f:=52) rfl ?_);refine Hd.gl_ 4 Try.func52 #[.agg #[.int .i64 a0_0,.int .i64 a0_1,.int .i64 a0_2,.string a0_3,.slice A0_4 l0_4.length c0_4]] ?_;(with_reducible refine (impl_IsFeature.calls k a0_0 a0_1 a0_2 a0_3 _ _ l0_4 true _ ?side1 ?side2 A2.out).mono ?_);(case side1 => exact z14_ HR0_4);(case side2 => exact HC0_4.out);rintro e w8 ⟨rfl,hb⟩;refine ⟨_,rfl,?_⟩;replace BK708:=ak (Hd.kb_ BK708 hb);replace HB:=ak (below_step Hd.b_ hb);clear hb;obtain ⟨hcz9_0,hcz9_1,hcz9_2,hcz9_3,hcz9_4⟩:=Hd.c5_ BK708.out;obtain ⟨hfz9_0,hfz9_1,hfz9_2,hfz9_3,hfz9_4⟩:=Hd.f5_ BK708.out) | ((with_reducible refine gate_callee (f:=77) rfl ?_);refine Hd.gl_ 11 Try.func77 #[.slice A0_4 l0_4.length c0_4] ?_;(with_reducible refine (impl_SegmentsOf.calls k _ _ l0_4 t710 _ ?side1 ?side2 A5.out).mono ?_);(case side1 => exact z14_ HR0_4);(case side2 => exact HC0_4.out);rintro e w10 ⟨v711,rfl,ho0,hb⟩;refine ⟨_,rfl,?_⟩;have HO712:=z78_;replace BK708:=ak (Hd.kb_ BK708 hb);replace HB:=ak (below_step Hd.b_ hb);clear hb ho0))
  go_ret
  exact ⟨_,Hd.e_,z6_ HO712,Hd.b_⟩
 rw [if_neg c4] at H
 have c4b0:=beq_eq_false_iff_ne.mpr c4
 have c4b1:=bne_iff_ne.mpr c4
 by_cases c11 : a0_1 = 3;rotate_left
 ·
  rw [if_neg c11] at H
  have c11b0:=beq_eq_false_iff_ne.mpr c11
  have c11b1:=bne_iff_ne.mpr c11
  generalize hy716 : (([] : List (S101))) = y716 at H;have Ny716:=ak hy716.symm;clear hy716;try rw [Option.bind_some] at H
  obtain rfl:=Option.some.inj H
  go_enter Try.func57,Try.ntmps57
  go_wp2_with (first | ((with_reducible refine gate_dst (N:=1) rfl ?_);refine Hd.box_ 1 (#[.int .i64 a0_0,.int .i64 a0_1,.int .i64 a0_2,.string a0_3,.slice A0_4 l0_4.length c0_4]) 34 ?_;intro gb708 hg w18 hbox hb;have BK708:=ak (hbox);have GW708:=z85_;have GE708:=z85_;replace HB:=ak (below_step Hd.b_ hb);clear hb hbox hg;obtain ⟨hcz19_0,hcz19_1,hcz19_2,hcz19_3,hcz19_4⟩:=Hd.c5_ BK708.out;obtain ⟨hfz19_0,hfz19_1,hfz19_2,hfz19_3,hfz19_4⟩:=Hd.f5_ BK708.out) | ((with_reducible refine gate_callee (f:=52) rfl ?_);refine Hd.gl_ 4 Try.func52 #[.agg #[.int .i64 a0_0,.int .i64 a0_1,.int .i64 a0_2,.string a0_3,.slice A0_4 l0_4.length c0_4]] ?_;(with_reducible refine (impl_IsFeature.calls k a0_0 a0_1 a0_2 a0_3 _ _ l0_4 true _ ?side1 ?side2 A2.out).mono ?_);(case side1 => exact z14_ HR0_4);(case side2 => exact HC0_4.out);rintro e w20 ⟨rfl,hb⟩;refine ⟨_,rfl,?_⟩;replace BK708:=ak (Hd.kb_ BK708 hb);replace HB:=ak (below_step Hd.b_ hb);clear hb;obtain ⟨hcz21_0,hcz21_1,hcz21_2,hcz21_3,hcz21_4⟩:=Hd.c5_ BK708.out;obtain ⟨hfz21_0,hfz21_1,hfz21_2,hfz21_3,hfz21_4⟩:=Hd.f5_ BK708.out) | ((with_reducible refine gate_dst (N:=17) rfl ?_);refine Kd.R_lit k101 _ 101 ?hg (N:=17) ?hd (xs:=([] : List (S101))) (inner:=[]) (ok:=fun _ => True) (okp:=fun _ => True) ?hr ?hp (fun _ hk => hk) trivial (Below.refl _ _) (Nat.le_refl _) (by simp) ?_;(case hd => rfl);(case hg => rfl);(case hr => exact z31_);(case hp => exact (Reps.none _ _));intro v717 w22 ho23 hb hg_ hnew_;clear hg_ hnew_;(first | rw [← Ny716.out] at ho23 | (simp only [Int.reduceToNat] at ho23;rw [← Ny716.out] at ho23));have HO718:=ak (Kd.R_lower ho23 (below_size Hd.b_));replace BK708:=ak (Hd.kb_ BK708 hb);replace HB:=ak (below_step Hd.b_ hb);clear hb ho23))
  go_ret
  exact ⟨_,Hd.e_,z6_ HO718,Hd.b_⟩
 rw [if_pos c11] at H
 have c11b0:=beq_iff_eq.mpr c11
 have c11b1:=bne_eq_false_iff_eq.mpr c11
 clear c11
 replace H:=Hd.bd_ H;obtain ⟨t713,A12,H⟩:=H
 obtain rfl:=Option.some.inj H
 go_enter Try.func57,Try.ntmps57
 go_wp2_with (first | ((with_reducible refine gate_dst (N:=1) rfl ?_);refine Hd.box_ 1 (#[.int .i64 a0_0,.int .i64 a0_1,.int .i64 a0_2,.string a0_3,.slice A0_4 l0_4.length c0_4]) 34 ?_;intro gb708 hg w13 hbox hb;have BK708:=ak (hbox);have GW708:=z85_;have GE708:=z85_;replace HB:=ak (below_step Hd.b_ hb);clear hb hbox hg;obtain ⟨hcz14_0,hcz14_1,hcz14_2,hcz14_3,hcz14_4⟩:=Hd.c5_ BK708.out;obtain ⟨hfz14_0,hfz14_1,hfz14_2,hfz14_3,hfz14_4⟩:=Hd.f5_ BK708.out) | ((with_reducible refine gate_callee (f:=52) rfl ?_);refine Hd.gl_ 4 Try.func52 #[.agg #[.int .i64 a0_0,.int .i64 a0_1,.int .i64 a0_2,.string a0_3,.slice A0_4 l0_4.length c0_4]] ?_;(with_reducible refine (impl_IsFeature.calls k a0_0 a0_1 a0_2 a0_3 _ _ l0_4 true _ ?side1 ?side2 A2.out).mono ?_);(case side1 => exact z14_ HR0_4);(case side2 => exact HC0_4.out);rintro e w15 ⟨rfl,hb⟩;refine ⟨_,rfl,?_⟩;replace BK708:=ak (Hd.kb_ BK708 hb);replace HB:=ak (below_step Hd.b_ hb);clear hb;obtain ⟨hcz16_0,hcz16_1,hcz16_2,hcz16_3,hcz16_4⟩:=Hd.c5_ BK708.out;obtain ⟨hfz16_0,hfz16_1,hfz16_2,hfz16_3,hfz16_4⟩:=Hd.f5_ BK708.out) | ((with_reducible refine gate_callee (f:=78) rfl ?_);refine Hd.gl_ 16 Try.func78 #[.slice A0_4 l0_4.length c0_4] ?_;(with_reducible refine (impl_RingSegments.calls k _ _ l0_4 t713 _ ?side1 ?side2 A12.out).mono ?_);(case side1 => exact z14_ HR0_4);(case side2 => exact HC0_4.out);rintro e w17 ⟨v714,rfl,ho0,hb⟩;refine ⟨_,rfl,?_⟩;have HO715:=z78_;replace BK708:=ak (Hd.kb_ BK708 hb);replace HB:=ak (below_step Hd.b_ hb);clear hb ho0))
 go_ret
 exact ⟨_,Hd.e_,z6_ HO715,Hd.b_⟩
end Go.Proofs.Ytbbdhlggnglfgaa.MFnMeets
