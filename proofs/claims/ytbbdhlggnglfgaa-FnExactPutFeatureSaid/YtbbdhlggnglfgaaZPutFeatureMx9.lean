-- Laid by this session's program pp.py, after the kit's print and texts of the session's own. Not trusted: Lean checks it.
import Derived.Test.YtbbdhlggnglfgaaZPutFeatureMx0
import Derived.Test.YtbbdhlggnglfgaaZPutFeatureMx1
namespace Go.Proofs.Ytbbdhlggnglfgaa.MFnExactPutFeature
open Go.RowKit Go.Proofs.YtbbdhlggnglfgaaW.PrintWords Go.Proofs.YtbbdhlggnglfgaaW.PrintLast Go.Proofs.YtbbdhlggnglfgaaW.PrintMore
attribute [local go_sem] max2_int min2_int max_two min_two max_three min_three max_four min_four   -- for this text's walks alone
set_option linter.unusedVariables false
set_option maxHeartbeats 8000000
set_option maxRecDepth 100000
set_option linter.unusedSimpArgs false
attribute [local go_sem high] eqA75
def laws_toPoint.f (a0_0 : Int) (a0_1 : Int) : Option (Int × Int):=some (a0_0,a0_1)
theorem laws_toPoint.calls (a0_0 : Int) (a0_1 : Int) (r1 : Int) (r2 : Int) (w : World) (h : laws_toPoint.f a0_0 a0_1 = some (r1,r2)) :
  Calls Try.prog 61 #[.agg #[.int .i64 a0_0,.int .i64 a0_1]] w fun e w' => e = .returned (.agg #[.int .i64 r1,.int .i64 r2]) ∧ Below w.heap.size w w':=by
 have hu84:=Try.underlying84
 have hu75:=Try.underlying75
 have HB:=ak (Below.refl w.heap.size w)
 have H:=h;clear h;unfold laws_toPoint.f at H
 simp only [Option.some.injEq,Prod.mk.injEq] at H
 obtain ⟨rfl,rfl⟩:=H
 go_enter Try.func61,Try.ntmps61
 go_wp2_with (first | ((with_reducible refine gate_dst (N:=1) rfl ?_);refine Hd.box_ 1 (#[.int .i64 a0_0,.int .i64 a0_1]) 84 ?_;intro gb289 hg w2 hbox hb;have BK289:=ak (hbox);have GW289:=ak ((Hd.g_ hg Hd.b_ : w.heap.size ≤ gb289));have GE289:=ak ((Hd.g_ hg Hd.b_ : w.heap.size ≤ gb289));replace HB:=ak (below_step Hd.b_ hb);clear hb hbox hg) | ((with_reducible refine gate_dst (N:=2) rfl ?_);refine Hd.box_ 2 (#[.int .i64 0,.int .i64 0]) 75 ?_;intro gb290 hg w3 hbox hb;have BK290:=ak (hbox);have GW290:=ak ((Hd.g_ hg Hd.b_ : w.heap.size ≤ gb290));have GE290:=ak ((Hd.g_ hg Hd.b_ : w.heap.size ≤ gb290));replace HB:=ak (below_step Hd.b_ hb);have NB289_290:=ak ((Hd.lt_ BK289 hg));have NB290_289:=ak ((Hd.gt_ BK289 hg));replace BK289:=ak (Hd.kb_ BK289 hb);clear hb hbox hg) | ((with_reducible refine gate_dst (N:=3) rfl ?_);refine Hd.box_ 3 (#[.int .i64 0,.int .i64 0]) 75 ?_;intro gb291 hg w4 hbox hb;have BK291:=ak (hbox);have GW291:=ak ((Hd.g_ hg Hd.b_ : w.heap.size ≤ gb291));have GE291:=ak ((Hd.g_ hg Hd.b_ : w.heap.size ≤ gb291));replace HB:=ak (below_step Hd.b_ hb);have NB289_291:=ak ((Hd.lt_ BK289 hg));have NB291_289:=ak ((Hd.gt_ BK289 hg));replace BK289:=ak (Hd.kb_ BK289 hb);have NB290_291:=ak ((Hd.lt_ BK290 hg));have NB291_290:=ak ((Hd.gt_ BK290 hg));replace BK290:=ak (Hd.kb_ BK290 hb);clear hb hbox hg;have hnb5:=NB289_290.out;have hnc5:=NB290_289.out;have hnb6:=NB289_291.out;have hnc6:=NB291_289.out;obtain ⟨hcz7_0,hcz7_1⟩:=Hd.c2_ BK289.out;obtain ⟨hfz7_0,hfz7_1⟩:=Hd.f2_ BK289.out;have hnb8:=NB291_290.out;have hnc8:=NB290_291.out;obtain ⟨hcz9_0,hcz9_1⟩:=Hd.c2_ BK291.out;obtain ⟨hfz9_0,hfz9_1⟩:=Hd.f2_ BK291.out;obtain ⟨hcz10_0,hcz10_1⟩:=Hd.c2_ BK290.out;obtain ⟨hfz10_0,hfz10_1⟩:=Hd.f2_ BK290.out))
 refine bodyPost_ret (results_cell_row rfl _ _ gb290 75 #[.int .i64 a0_0,.int .i64 a0_1] (0,0) _ rfl (by (with_reducible repeat (first | refine blk_drewN ?_ _ | refine blk_drew ?_ | refine blk_alloc ?_ _));refine blk_put (cs:=#[.int .i64 a0_0,.int .i64 0]) ?_ 1 _ rfl;(with_reducible repeat (first | refine blk_drewN ?_ _ | refine blk_drew ?_ | refine blk_alloc ?_ _));refine blk_put (cs:=#[.int .i64 0,.int .i64 0]) ?_ 0 _ rfl;(with_reducible repeat (first | refine blk_drewN ?_ _ | refine blk_drew ?_ | refine blk_alloc ?_ _));refine blk_far ?_ NB290_291.out _;(with_reducible repeat (first | refine blk_drewN ?_ _ | refine blk_drew ?_ | refine blk_alloc ?_ _));refine blk_far ?_ NB290_291.out _;(with_reducible repeat (first | refine blk_drewN ?_ _ | refine blk_drew ?_ | refine blk_alloc ?_ _));exact BK290.out) Try.underlying75 rfl (by kernel_rfl)) rfl ?_
 exact ⟨Hd.e_,Hd.b_⟩
def laws_toPointS.l0 : Nat → List (S84) → List (S75) → Int → Option ((List (S75)))
 | 0,_,_,_ => none
 | k + 1,x0,x3,x4 => if x4 < (x0.length : Int) then (if 0 ≤ x4 then ((laws_toPoint.f ((rd_T84 x0 x4).f0) ((rd_T84 x0 x4).f1)).bind fun bt296 => (if x4 < (x3.length : Int) then (laws_toPointS.l0 k x0 (x3.set (x4 : Int).toNat (⟨bt296.1,bt296.2⟩ : S75)) (wrap64 (x4 + 1))) else (none))) else (none)) else (some x3)
def laws_toPointS.f (k : Nat) (l0 : List (S84)) : Option ((List (S75))):=if 0 ≤ (l0.length : Int) then (if ((l0.length : Int) : Int).toNat ≤ 17592186044416 then (laws_toPointS.l0 k l0 (List.replicate ((l0.length : Int) : Int).toNat z75) 0) else (none)) else (none)
theorem laws_toPointS.calls (k : Nat) (A0 : Option Addr) (c0 : Nat) (l0 : List (S84)) (r : List (S75)) (w : World) (hr0 : Kd.C k84 w A0 l0.length l0) (hc0 : l0.length ≤ c0) (h : laws_toPointS.f k l0 = some r) :
  Calls Try.prog 37 #[.slice A0 l0.length c0] w fun e w' => ∃ v0_ : Value,e = .returned (v0_) ∧ Kd.R k75 75 w' w.heap.size (fun _ => True) v0_ r ∧ Below w.heap.size w w':=by
 have hu84:=Try.underlying84
 have hu75:=Try.underlying75
 have HR0:=ak hr0
 have HC0:=ak hc0
 clear hr0 hc0
 have HB:=ak (Below.refl w.heap.size w)
 have H:=h;clear h;unfold laws_toPointS.f at H
 by_cases c2 : 0 ≤ (l0.length : Int);rotate_left
 ·
  rw [if_neg c2] at H
  exact absurd H (by simp)
 rw [if_pos c2] at H
 have c2b0:=eq_true c2
 have c2b1:=decide_eq_true c2
 clear c2
 by_cases c3 : ((l0.length : Int) : Int).toNat ≤ 17592186044416;rotate_left
 ·
  rw [if_neg c3] at H
  exact absurd H (by simp)
 rw [if_pos c3] at H
 have c3b0:=eq_true c3
 have c3b1:=decide_eq_true c3
 clear c3
 generalize hy292 : (List.replicate ((l0.length : Int) : Int).toNat z75) = y292 at H;have Ny292:=ak hy292.symm;clear hy292;try rw [Option.bind_some] at H
 have H':=ak H
 clear H
 go_enter Try.func37,Try.ntmps37
 go_wp2_with (first | ((with_reducible refine gate_dst (N:=7) rfl ?_);refine Kd.R_make k75 _ 75 rfl (N:=7) rfl 32 _ _ rfl (l0.length : Int) rfl rfl Try.underlying32 (.agg #[(.int .i64 0),(.int .i64 0)]) 16 info75 rfl (by decide) (by omega) z75 (ok:=fun _ => True) (okp:=fun _ => True) (k75_mkM _ _ _ z75 ) (fun _ hk => hk) trivial (of_decide_eq_true Hd.a_) (Nat.le_trans (Nat.mul_le_mul_right _ (of_decide_eq_true Hd.a_ : (l0.length : Int).toNat ≤ 17592186044416)) (by omega)) (Below.refl _ _) (Nat.le_refl _) ?_;intro v293 w4 ho5 hb hg_ hnew_;clear hg_ hnew_;(first | rw [← Ny292.out] at ho5 | (simp only [Int.reduceToNat] at ho5;rw [← Ny292.out] at ho5));have HO294:=ak (Kd.R_lower ho5 (below_size Hd.b_));replace HB:=ak (below_step Hd.b_ hb);clear hb ho5))
 go_loopg [4] k (fun kq v4 w' => ∃ (x3_1 : List (S75)) (x4_1 : Int),v4 = .int .i64 x4_1 ∧ Aside0 (laws_toPointS.l0 kq l0 x3_1 x4_1 = some r) ∧ Aside0 (kq ≤ k) ∧ Aside0 (Kd.R k75 75 w' w.heap.size (fun _ => True) v293 x3_1) ∧ Aside0 (Below w.heap.size w w'))
 case atStart => exact ⟨(y292),(0),z2_,H',⟨Nat.le_refl _⟩,⟨z4_ HO294⟩,⟨Hd.b_⟩⟩
 case round =>
  clear H'
  try clear c2;try clear c2b0;try clear c2b1;try clear p2;try clear c3;try clear c3b0;try clear c3b1
  obtain ⟨x3_1,x4_1,rfl,HA,HK1,HO_3,HB⟩:=hrel
  cases gk with
  | zero => exact absurd HA.out (by simp [laws_toPointS.l0])
  | succ k1 =>
   have H:=HA.out
   clear HA
   simp only [laws_toPointS.l0] at H
   by_cases c6 : x4_1 < (l0.length : Int);rotate_left
   ·
    rw [if_neg c6] at H
    have c6b0:=decide_eq_false c6
    clear c6
    obtain rfl:=Option.some.inj H
    go_wp2
    go_ret
    exact ⟨_,Hd.e_,z4_ HO_3,Hd.b_⟩
   rw [if_pos c6] at H
   have c6b0:=decide_eq_true c6
   clear c6
   by_cases c7 : 0 ≤ x4_1;rotate_left
   ·
    rw [if_neg c7] at H
    exact absurd H (by simp)
   rw [if_pos c7] at H
   have c7b0:=decide_eq_true c7
   clear c7
   replace H:=Hd.bd_ H;obtain ⟨⟨t296,t297⟩,A8,H⟩:=H;dsimp only at H
   by_cases c9 : x4_1 < (x3_1.length : Int);rotate_left
   ·
    rw [if_neg c9] at H
    exact absurd H (by simp)
   rw [if_pos c9] at H
   have c9b0:=decide_eq_true c9
   clear c9
   generalize hy298 : (x3_1.set (x4_1 : Int).toNat (⟨t296,t297⟩ : S75)) = y298 at H;have Ny298:=ak hy298.symm;clear hy298;try rw [Option.bind_some] at H
   have H':=ak H
   clear H
   have p295 : 0 ≤ (x4_1 : Int):=of_decide_eq_true Hd.a_
   have q295 : x4_1 < (l0.length : Int):=of_decide_eq_true Hd.a_
   obtain ⟨ad295,e295,hx295_0,hx295_1⟩:=at_T84 HR0.out x4_1 p295 q295
   cases e295
   replace hx295_0:=(HB.out.cell (World.block_lt_of_cell? w _ hx295_0)).trans hx295_0
   replace hx295_1:=(HB.out.cell (World.block_lt_of_cell? w _ hx295_1)).trans hx295_1
   replace p295:=eq_true p295
   replace q295:=eq_true q295
   go_wp2_with (first | ((with_reducible refine gate_callee (f:=61) rfl ?_);refine Hd.gl_ 20 Try.func61 #[.agg #[.int .i64 ((rd_T84 l0 x4_1).f0),.int .i64 ((rd_T84 l0 x4_1).f1)]] ?_;(with_reducible refine (laws_toPoint.calls ((rd_T84 l0 x4_1).f0) ((rd_T84 l0 x4_1).f1) t296 t297 _ A8.out).mono ?_);rintro e w11 ⟨rfl,hb⟩;refine ⟨_,rfl,?_⟩;replace HO_3:=z71_;replace HB:=ak (below_step Hd.b_ hb);clear hb;have p10 : 0 ≤ (x4_1 : Int):=of_decide_eq_true Hd.a_;have q10 : (x4_1 : Int) < ((x3_1.length : Int) : Int):=of_decide_eq_true Hd.a_;obtain ⟨go10,co10,eo10,gb10,gl10,cl10,HG10⟩:=Kd.R_form HO_3.out (by omega);(first | cases eo10 | (injection eo10 with ea_ en_ ec_;(first | subst ea_ | (injection ea_ with ea_;subst ea_));subst ec_;clear en_));have GB10:=ak gb10;have GG10:=ak HG10;clear gb10 gl10 HG10;obtain ⟨ce10,hcl10,hM10,hcc10,hfr10⟩:=Kd.R_elem HO_3.out z75 (x4_1 : Int) p10 q10;obtain rfl:=k75_openM hM10;have hx10_0 : w11.cell? ⟨go10,(x4_1 : Int).toNat * 2,none⟩ = some (.int .i64 ((rd_T75 x3_1 x4_1).f0)):=hcc10 0 _ rfl;have hx10_1 : w11.cell? ⟨go10,(x4_1 : Int).toNat * 2 + 1,none⟩ = some (.int .i64 ((rd_T75 x3_1 x4_1).f1)):=hcc10 1 _ rfl;have hf10_0 : w11.frozen? ⟨go10,(x4_1 : Int).toNat * 2,none⟩ = false:=hfr10 0;have hf10_1 : w11.frozen? ⟨go10,(x4_1 : Int).toNat * 2 + 1,none⟩ = false:=hfr10 1;clear hcl10 hcc10 hfr10 hM10;replace p10:=eq_true p10;replace q10:=eq_true q10;have HX12:=ak (show Kd.R k75 75 w11 w.heap.size (fun _ => True) (.slice (some ⟨go10,0,none⟩) x3_1.length co10) x3_1 from (Hd.r_ HO_3));obtain ⟨ce12,hcl12,hM12,hcc12,hfr12⟩:=Kd.R_elem HX12.out z75 (x4_1 : Int) (of_decide_eq_true Hd.a_) (by have h_ : (x4_1 : Int) < ((x3_1.length : Int) : Int):=of_decide_eq_true Hd.a_;first | exact h_ | (have e_:=(Kd.R_reads' HO_3.out).1;omega) | simpa using h_);obtain rfl:=k75_openM hM12;have HP12:=Kd.R_seg HX12.out (x4_1 : Int) (of_decide_eq_true Hd.a_) (by have h_ : (x4_1 : Int) < ((x3_1.length : Int) : Int):=of_decide_eq_true Hd.a_;first | exact h_ | (have e_:=(Kd.R_reads' HO_3.out).1;omega) | simpa using h_) (seg:=[.int .i64 t296,.int .i64 t297]) (j:=0) hcl12 hcc12 (show 2 ≤ 2 from by decide) (x':=(⟨t296,t297⟩ : S75)) (k75_mkM _ _ _ (⟨t296,t297⟩ : S75) ) (fun _ hk => hk);have hx12_0:=hcc12 0 _ rfl;(try simp only [show (k75).sz = 2 from rfl,Nat.mul_one,Nat.add_zero] at hx12_0);have hf12_0:=hfr12 0;(try simp only [show (k75).sz = 2 from rfl,Nat.mul_one,Nat.add_zero] at hf12_0);have hx12_1:=hcc12 1 _ rfl;(try simp only [show (k75).sz = 2 from rfl,Nat.mul_one,Nat.add_zero] at hx12_1);have hf12_1:=hfr12 1;(try simp only [show (k75).sz = 2 from rfl,Nat.mul_one,Nat.add_zero] at hf12_1);clear hcl12 hcc12 hfr12 hM12) | ((with_reducible refine gate_store (t:=75) (p:=21) rfl ?_);refine store_event (t:=75) (p:=21) (v:=?vo_w13) (w1:=((w11.setCell ⟨go10,(x4_1 : Int).toNat * 2,none⟩ (.int .i64 t296)).setCell ⟨go10,(x4_1 : Int).toNat * 2 + 1,none⟩ (.int .i64 t297))) ?hg ?ho ?hn ?hr ?_;(case ho => rfl);(case hg => rfl);(case hn => rfl);(case hr => exact z24_);intro w13 hw;have hg : w11.grownBy w13 (some go10):=(by rw [hw];exact HP12.2);have hp_ : Kd.R k75 75 w13 w.heap.size (fun _ => True) (.slice (some ⟨go10,0,none⟩) x3_1.length co10) y298:=(by rw [hw,Ny298.out];exact HP12.1);clear HP12;replace HO_3:=ak (hp_);replace HB:=ak ((by rw [hw];exact below_set (below_set (HB.out) GB10.out) GB10.out : Below w.heap.size w w13));clear hg hw hp_))
   go_roundg k1
   case measure => have:=HK1.out;omega
   case rel => exact ⟨(y298),(wrap64 (x4_1 + 1)),z2_,H',⟨by have:=HK1.out;omega⟩,⟨z4_ HO_3⟩,⟨Hd.b_⟩⟩
def laws_toFeature.f (k : Nat) (a0_0 : Int) (a0_1 : Int) (a0_2 : Int) (a0_3 : ByteArray) (l0_4 : List (S84)) : Option (Int × Int × Int × ByteArray × (List (S75))):=(laws_toPointS.f k l0_4).bind fun t302 => (some (a0_0,a0_1,a0_2,a0_3,t302))
theorem laws_toFeature.calls (k : Nat) (a0_0 : Int) (a0_1 : Int) (a0_2 : Int) (a0_3 : ByteArray) (A0_4 : Option Addr) (c0_4 : Nat) (l0_4 : List (S84)) (r1 : Int) (r2 : Int) (r3 : Int) (r4 : ByteArray) (r5 : List (S75)) (w : World) (hr0_4 : Kd.C k84 w A0_4 l0_4.length l0_4) (hc0_4 : l0_4.length ≤ c0_4) (h : laws_toFeature.f k a0_0 a0_1 a0_2 a0_3 l0_4 = some (r1,r2,r3,r4,r5)) :
  Calls Try.prog 11 #[.agg #[.int .i64 a0_0,.int .i64 a0_1,.int .i64 a0_2,.string a0_3,.slice A0_4 l0_4.length c0_4]] w fun e w' => ∃ v4_ : Value,e = .returned (.agg #[.int .i64 r1,.int .i64 r2,.int .i64 r3,.string r4,v4_]) ∧ Kd.R k75 75 w' w.heap.size (fun _ => True) v4_ r5 ∧ Below w.heap.size w w':=by
 have hu25:=Try.underlying25
 have hu34:=Try.underlying34
 have HR0_4:=ak hr0_4
 have HC0_4:=ak hc0_4
 clear hr0_4 hc0_4
 have HB:=ak (Below.refl w.heap.size w)
 have H:=h;clear h;unfold laws_toFeature.f at H
 replace H:=Hd.bd_ H;obtain ⟨t302,A2,H⟩:=H
 simp only [Option.some.injEq,Prod.mk.injEq] at H
 obtain ⟨rfl,rfl,rfl,rfl,rfl⟩:=H
 go_enter Try.func11,Try.ntmps11
 go_wp2_with (first | ((with_reducible refine gate_dst (N:=1) rfl ?_);refine Hd.box_ 1 (#[.int .i64 a0_0,.int .i64 a0_1,.int .i64 a0_2,.string a0_3,.slice A0_4 l0_4.length c0_4]) 25 ?_;intro gb299 hg w3 hbox hb;have BK299:=ak (hbox);have GW299:=ak ((Hd.g_ hg Hd.b_ : w.heap.size ≤ gb299));have GE299:=ak ((Hd.g_ hg Hd.b_ : w.heap.size ≤ gb299));replace HB:=ak (below_step Hd.b_ hb);clear hb hbox hg) | ((with_reducible refine gate_dst (N:=2) rfl ?_);refine Hd.box_ 2 (#[.int .i64 0,.int .i64 0,.int .i64 0,.string (⟨#[]⟩ : ByteArray),.slice none 0 0]) 34 ?_;intro gb300 hg w4 hbox hb;have BK300:=ak (hbox);have GW300:=ak ((Hd.g_ hg Hd.b_ : w.heap.size ≤ gb300));have GE300:=ak ((Hd.g_ hg Hd.b_ : w.heap.size ≤ gb300));replace HB:=ak (below_step Hd.b_ hb);have NB299_300:=ak ((Hd.lt_ BK299 hg));have NB300_299:=ak ((Hd.gt_ BK299 hg));replace BK299:=ak (Hd.kb_ BK299 hb);clear hb hbox hg) | ((with_reducible refine gate_dst (N:=3) rfl ?_);refine Hd.box_ 3 (#[.int .i64 0,.int .i64 0,.int .i64 0,.string (⟨#[]⟩ : ByteArray),.slice none 0 0]) 34 ?_;intro gb301 hg w5 hbox hb;have BK301:=ak (hbox);have GW301:=ak ((Hd.g_ hg Hd.b_ : w.heap.size ≤ gb301));have GE301:=ak ((Hd.g_ hg Hd.b_ : w.heap.size ≤ gb301));replace HB:=ak (below_step Hd.b_ hb);have NB299_301:=ak ((Hd.lt_ BK299 hg));have NB301_299:=ak ((Hd.gt_ BK299 hg));replace BK299:=ak (Hd.kb_ BK299 hb);have NB300_301:=ak ((Hd.lt_ BK300 hg));have NB301_300:=ak ((Hd.gt_ BK300 hg));replace BK300:=ak (Hd.kb_ BK300 hb);clear hb hbox hg;have hnb6:=NB299_300.out;have hnc6:=NB300_299.out;have hnb7:=NB299_301.out;have hnc7:=NB301_299.out;obtain ⟨hcz8_0,hcz8_1,hcz8_2,hcz8_3,hcz8_4⟩:=Hd.c5_ BK299.out;obtain ⟨hfz8_0,hfz8_1,hfz8_2,hfz8_3,hfz8_4⟩:=Hd.f5_ BK299.out;have hnb9:=NB301_300.out;have hnc9:=NB300_301.out;obtain ⟨hcz10_0,hcz10_1,hcz10_2,hcz10_3,hcz10_4⟩:=Hd.c5_ BK301.out;obtain ⟨hfz10_0,hfz10_1,hfz10_2,hfz10_3,hfz10_4⟩:=Hd.f5_ BK301.out) | ((with_reducible refine gate_callee (f:=37) rfl ?_);refine Hd.gl_ 18 Try.func37 #[.slice A0_4 l0_4.length c0_4] ?_;(with_reducible refine (laws_toPointS.calls k _ _ l0_4 t302 _ ?side1 ?side2 A2.out).mono ?_);(case side1 => exact Kd.C_below HR0_4.out Hd.b_);(case side2 => exact HC0_4.out);rintro e w11 ⟨v303,rfl,ho0,hb⟩;refine ⟨_,rfl,?_⟩;have HO304:=z59_;replace BK299:=ak (blk_below (g:=gb299) (o:=.cells #[.int .i64 a0_0,.int .i64 a0_1,.int .i64 a0_2,.string a0_3,.slice A0_4 l0_4.length c0_4] 25 (0,0)) (z29_ NB299_301 BK299) hb);replace BK300:=ak (blk_below (g:=gb300) (o:=.cells #[.int .i64 0,.int .i64 0,.int .i64 0,.string (⟨#[]⟩ : ByteArray),.slice none 0 0] 34 (0,0)) (z29_ NB300_301 BK300) hb);replace BK301:=ak (blk_below (g:=gb301) (o:=.cells #[.int .i64 a0_0,.int .i64 a0_1,.int .i64 a0_2,.string a0_3,.slice none 0 0] 34 (0,0)) (by (with_reducible repeat (first | refine blk_drewN ?_ _ | refine blk_drew ?_ | refine blk_alloc ?_ _));refine blk_put (cs:=#[.int .i64 a0_0,.int .i64 a0_1,.int .i64 a0_2,.string (⟨#[]⟩ : ByteArray),.slice none 0 0]) ?_ 3 _ rfl;(with_reducible repeat (first | refine blk_drewN ?_ _ | refine blk_drew ?_ | refine blk_alloc ?_ _));refine blk_put (cs:=#[.int .i64 a0_0,.int .i64 a0_1,.int .i64 0,.string (⟨#[]⟩ : ByteArray),.slice none 0 0]) ?_ 2 _ rfl;(with_reducible repeat (first | refine blk_drewN ?_ _ | refine blk_drew ?_ | refine blk_alloc ?_ _));refine blk_put (cs:=#[.int .i64 a0_0,.int .i64 0,.int .i64 0,.string (⟨#[]⟩ : ByteArray),.slice none 0 0]) ?_ 1 _ rfl;(with_reducible repeat (first | refine blk_drewN ?_ _ | refine blk_drew ?_ | refine blk_alloc ?_ _));refine blk_put (cs:=#[.int .i64 0,.int .i64 0,.int .i64 0,.string (⟨#[]⟩ : ByteArray),.slice none 0 0]) ?_ 0 _ rfl;(with_reducible repeat (first | refine blk_drewN ?_ _ | refine blk_drew ?_ | refine blk_alloc ?_ _));exact BK301.out) hb);replace HB:=ak (below_step Hd.b_ hb);clear hb ho0;obtain ⟨Ao12,co12,eo12⟩:=Kd.R_slice HO304.out;subst eo12;obtain ⟨hcz13_0,hcz13_1,hcz13_2,hcz13_3,hcz13_4⟩:=Hd.c5_ BK301.out;obtain ⟨hfz13_0,hfz13_1,hfz13_2,hfz13_3,hfz13_4⟩:=Hd.f5_ BK301.out;obtain ⟨hcz14_0,hcz14_1,hcz14_2,hcz14_3,hcz14_4⟩:=Hd.c5_ BK300.out;obtain ⟨hfz14_0,hfz14_1,hfz14_2,hfz14_3,hfz14_4⟩:=Hd.f5_ BK300.out))
 refine bodyPost_ret (results_cell_row rfl _ _ gb300 34 #[.int .i64 a0_0,.int .i64 a0_1,.int .i64 a0_2,.string a0_3,.slice Ao12 t302.length co12] (0,0) _ rfl (z8_ NB300_301 BK300) Try.underlying34 rfl (by kernel_rfl)) rfl ?_
 exact ⟨_,Hd.e_,by (with_reducible repeat (first | apply Kd.R_alloc | apply Kd.R_drewN | apply Kd.R_drew));exact Kd.R_mono (Kd.R_far (p:=⟨gb300,4,none⟩) (Kd.R_far (p:=⟨gb300,3,none⟩) (Kd.R_far (p:=⟨gb300,2,none⟩) (Kd.R_far (p:=⟨gb300,1,none⟩) (Kd.R_far (p:=⟨gb300,0,none⟩) (Kd.R_far (p:=⟨gb301,4,none⟩) (Kd.R_types (Kd.R_types HO304.out BK301.out (by decide)) BK300.out (by decide)) (fun _ hk => hk.1.2) (.slice Ao12 t302.length co12)) (fun _ hk => hk.2) (.int .i64 a0_0)) (fun _ hk => hk.2) (.int .i64 a0_1)) (fun _ hk => hk.2) (.int .i64 a0_2)) (fun _ hk => hk.2) (.string a0_3)) (fun _ hk => hk.2) (.slice Ao12 t302.length co12)) (fun _ hk => trivial),Hd.b_⟩
def laws_toFeatureS.l0 : Nat → List (S25) → List (S34) → Int → Option ((List (S34)))
 | 0,_,_,_ => none
 | k + 1,x0,x3,x4 => if x4 < (x0.length : Int) then (if 0 ≤ x4 then ((laws_toFeature.f k ((rd_T25 x0 x4).f0) ((rd_T25 x0 x4).f1) ((rd_T25 x0 x4).f2) ((rd_T25 x0 x4).f3) ((rd_T25 x0 x4).f4)).bind fun bt309 => (if x4 < (x3.length : Int) then (laws_toFeatureS.l0 k x0 (x3.set (x4 : Int).toNat (⟨bt309.1,bt309.2.1,bt309.2.2.1,bt309.2.2.2.1,bt309.2.2.2.2⟩ : S34)) (wrap64 (x4 + 1))) else (none))) else (none)) else (some x3)
def laws_toFeatureS.f (k : Nat) (l0 : List (S25)) : Option ((List (S34))):=if 0 ≤ (l0.length : Int) then (if ((l0.length : Int) : Int).toNat ≤ 4398046511104 then (laws_toFeatureS.l0 k l0 (List.replicate ((l0.length : Int) : Int).toNat z34) 0) else (none)) else (none)
theorem laws_toFeatureS.calls (k : Nat) (A0 : Option Addr) (c0 : Nat) (l0 : List (S25)) (r : List (S34)) (w : World) (hr0 : Kd.C k25 w A0 l0.length l0) (hc0 : l0.length ≤ c0) (h : laws_toFeatureS.f k l0 = some r) :
  Calls Try.prog 10 #[.slice A0 l0.length c0] w fun e w' => ∃ v0_ : Value,e = .returned (v0_) ∧ Kd.S k34 34 w' w.heap.size (fun _ => True) v0_ r ∧ Below w.heap.size w w':=by
 have hu25:=Try.underlying25
 have hu34:=Try.underlying34
 have HR0:=ak hr0
 have HC0:=ak hc0
 clear hr0 hc0
 have HB:=ak (Below.refl w.heap.size w)
 have H:=h;clear h;unfold laws_toFeatureS.f at H
 by_cases c2 : 0 ≤ (l0.length : Int);rotate_left
 ·
  rw [if_neg c2] at H
  exact absurd H (by simp)
 rw [if_pos c2] at H
 have c2b0:=eq_true c2
 have c2b1:=decide_eq_true c2
 clear c2
 by_cases c3 : ((l0.length : Int) : Int).toNat ≤ 4398046511104;rotate_left
 ·
  rw [if_neg c3] at H
  exact absurd H (by simp)
 rw [if_pos c3] at H
 have c3b0:=eq_true c3
 have c3b1:=decide_eq_true c3
 clear c3
 generalize hy305 : (List.replicate ((l0.length : Int) : Int).toNat z34) = y305 at H;have Ny305:=ak hy305.symm;clear hy305;try rw [Option.bind_some] at H
 have H':=ak H
 clear H
 go_enter Try.func10,Try.ntmps10
 go_wp2_with (first | ((with_reducible refine gate_dst (N:=7) rfl ?_);refine Kd.S_make k34 _ 34 rfl (N:=7) rfl 28 _ _ rfl (l0.length : Int) rfl rfl Try.underlying28 (.agg #[(.int .i64 0),(.int .i64 0),(.int .i64 0),(.string ⟨#[]⟩),(.slice none 0 0)]) 64 info34 rfl (by decide) (by omega) z34 (ok:=fun _ => True) (okp:=fun _ => True) (k34_mkM _ _ _ z34 (Kd.R_nil _ _ _ _ _)) (fun _ hk => hk) trivial (of_decide_eq_true Hd.a_) (Nat.le_trans (Nat.mul_le_mul_right _ (of_decide_eq_true Hd.a_ : (l0.length : Int).toNat ≤ 4398046511104)) (by omega)) (Below.refl _ _) (Nat.le_refl _) ?_;intro v306 w4 ho5 hb hg_ hnew_;clear hg_ hnew_;(first | rw [← Ny305.out] at ho5 | (simp only [Int.reduceToNat] at ho5;rw [← Ny305.out] at ho5));have HO307:=ak (Kd.S_lower ho5 (below_size Hd.b_));replace HB:=ak (below_step Hd.b_ hb);clear hb ho5))
 go_loopg [4] k (fun kq v4 w' => ∃ (x3_1 : List (S34)) (x4_1 : Int),v4 = .int .i64 x4_1 ∧ Aside0 (laws_toFeatureS.l0 kq l0 x3_1 x4_1 = some r) ∧ Aside0 (kq ≤ k) ∧ Aside0 (Kd.S k34 34 w' w.heap.size (fun _ => True) v306 x3_1) ∧ Aside0 (Below w.heap.size w w'))
 case atStart => exact ⟨(y305),(0),z2_,H',⟨Nat.le_refl _⟩,⟨z7_ HO307⟩,⟨Hd.b_⟩⟩
 case round =>
  clear H'
  try clear c1;try clear c2;try clear c2b0;try clear c2b1;try clear p2;try clear c3;try clear c3b0;try clear c3b1
  obtain ⟨x3_1,x4_1,rfl,HA,HK1,HO_3,HB⟩:=hrel
  cases gk with
  | zero => exact absurd HA.out (by simp [laws_toFeatureS.l0])
  | succ k1 =>
   have H:=HA.out
   clear HA
   simp only [laws_toFeatureS.l0] at H
   by_cases c6 : x4_1 < (l0.length : Int);rotate_left
   ·
    rw [if_neg c6] at H
    have c6b0:=decide_eq_false c6
    clear c6
    obtain rfl:=Option.some.inj H
    go_wp2
    go_ret
    exact ⟨_,Hd.e_,z7_ HO_3,Hd.b_⟩
   rw [if_pos c6] at H
   have c6b0:=decide_eq_true c6
   clear c6
   by_cases c7 : 0 ≤ x4_1;rotate_left
   ·
    rw [if_neg c7] at H
    exact absurd H (by simp)
   rw [if_pos c7] at H
   have c7b0:=decide_eq_true c7
   clear c7
   replace H:=Hd.bd_ H;obtain ⟨⟨t309,t310,t311,t312,t313⟩,A8,H⟩:=H;dsimp only at H
   by_cases c9 : x4_1 < (x3_1.length : Int);rotate_left
   ·
    rw [if_neg c9] at H
    exact absurd H (by simp)
   rw [if_pos c9] at H
   have c9b0:=decide_eq_true c9
   clear c9
   generalize hy316 : (x3_1.set (x4_1 : Int).toNat (⟨t309,t310,t311,t312,t313⟩ : S34)) = y316 at H;have Ny316:=ak hy316.symm;clear hy316;try rw [Option.bind_some] at H
   have H':=ak H
   clear H
   have p308 : 0 ≤ (x4_1 : Int):=of_decide_eq_true Hd.a_
   have q308 : x4_1 < (l0.length : Int):=of_decide_eq_true Hd.a_
   obtain ⟨ad308,A308_4,c308_4,e308,hx308_0,hx308_1,hx308_2,hx308_3,hx308_4,hl308_4,hi308_4⟩:=at_T25 HR0.out x4_1 p308 q308
   cases e308
   replace hx308_0:=(HB.out.cell (World.block_lt_of_cell? w _ hx308_0)).trans hx308_0
   replace hx308_1:=(HB.out.cell (World.block_lt_of_cell? w _ hx308_1)).trans hx308_1
   replace hx308_2:=(HB.out.cell (World.block_lt_of_cell? w _ hx308_2)).trans hx308_2
   replace hx308_3:=(HB.out.cell (World.block_lt_of_cell? w _ hx308_3)).trans hx308_3
   replace hx308_4:=(HB.out.cell (World.block_lt_of_cell? w _ hx308_4)).trans hx308_4
   have HR308_4:=ak hi308_4
   have HC308_4:=ak hl308_4
   clear hi308_4 hl308_4
   replace p308:=eq_true p308
   replace q308:=eq_true q308
   go_wp2_with (first | ((with_reducible refine gate_callee (f:=11) rfl ?_);refine Hd.gl_ 20 Try.func11 #[.agg #[.int .i64 ((rd_T25 l0 x4_1).f0),.int .i64 ((rd_T25 l0 x4_1).f1),.int .i64 ((rd_T25 l0 x4_1).f2),.string ((rd_T25 l0 x4_1).f3),.slice A308_4 ((rd_T25 l0 x4_1).f4).length c308_4]] ?_;(with_reducible refine (laws_toFeature.calls k1 ((rd_T25 l0 x4_1).f0) ((rd_T25 l0 x4_1).f1) ((rd_T25 l0 x4_1).f2) ((rd_T25 l0 x4_1).f3) _ _ ((rd_T25 l0 x4_1).f4) t309 t310 t311 t312 t313 _ ?side1 ?side2 A8.out).mono ?_);(case side1 => exact z1_ HR308_4);(case side2 => exact HC308_4.out);rintro e w11 ⟨v314,rfl,ho0,hb⟩;refine ⟨_,rfl,?_⟩;replace HO_3:=ak (Kd.S_elder' (z7_ HO_3) (Kd.R_base ho0) hb);have HO315:=z59_;replace HB:=ak (below_step Hd.b_ hb);clear hb ho0;have hst_ : ∀ (a : Addr) (W : World),(store a v314 .plain).run Try.prog W = stored Try.prog W a v314 .plain:=fun a W => run_store Try.prog W a v314 .plain (by obtain ⟨_,_,e_⟩:=Kd.R_slice HO315.out;rw [e_];rfl);have hoc_ : v314.cells = #[v314]:=(by obtain ⟨_,_,e_⟩:=Kd.R_slice HO315.out;rw [e_];rfl);(try simp only [Value.cells] at hoc_);have p10 : 0 ≤ (x4_1 : Int):=of_decide_eq_true Hd.a_;have q10 : (x4_1 : Int) < ((x3_1.length : Int) : Int):=of_decide_eq_true Hd.a_;obtain ⟨go10,co10,eo10,gb10,gl10,cl10,HG10⟩:=Kd.S_form HO_3.out (by omega);(first | cases eo10 | (injection eo10 with ea_ en_ ec_;(first | subst ea_ | (injection ea_ with ea_;subst ea_));subst ec_;clear en_));have GB10:=ak gb10;have GG10:=ak HG10;clear gb10 gl10 HG10;obtain ⟨_,ce10,hcl10,hM10,hcc10,hfr10,_,_⟩:=Kd.S_elem HO_3.out z34 (x4_1 : Int) p10 q10;obtain ⟨ve10_4,rfl,ge10_4⟩:=k34_openM hM10;have hx10_0 : w11.cell? ⟨go10,(x4_1 : Int).toNat * 5,none⟩ = some (.int .i64 ((rd_T34 x3_1 x4_1).f0)):=hcc10 0 _ rfl;have hx10_1 : w11.cell? ⟨go10,(x4_1 : Int).toNat * 5 + 1,none⟩ = some (.int .i64 ((rd_T34 x3_1 x4_1).f1)):=hcc10 1 _ rfl;have hx10_2 : w11.cell? ⟨go10,(x4_1 : Int).toNat * 5 + 2,none⟩ = some (.int .i64 ((rd_T34 x3_1 x4_1).f2)):=hcc10 2 _ rfl;have hx10_3 : w11.cell? ⟨go10,(x4_1 : Int).toNat * 5 + 3,none⟩ = some (.string ((rd_T34 x3_1 x4_1).f3)):=hcc10 3 _ rfl;have hx10_4 : w11.cell? ⟨go10,(x4_1 : Int).toNat * 5 + 4,none⟩ = some (ve10_4):=hcc10 4 _ rfl;have hf10_0 : w11.frozen? ⟨go10,(x4_1 : Int).toNat * 5,none⟩ = false:=hfr10 0;have hf10_1 : w11.frozen? ⟨go10,(x4_1 : Int).toNat * 5 + 1,none⟩ = false:=hfr10 1;have hf10_2 : w11.frozen? ⟨go10,(x4_1 : Int).toNat * 5 + 2,none⟩ = false:=hfr10 2;have hf10_3 : w11.frozen? ⟨go10,(x4_1 : Int).toNat * 5 + 3,none⟩ = false:=hfr10 3;have hf10_4 : w11.frozen? ⟨go10,(x4_1 : Int).toNat * 5 + 4,none⟩ = false:=hfr10 4;clear hcl10 hcc10 hfr10 hM10;replace p10:=eq_true p10;replace q10:=eq_true q10;have n_:=ak (Kd.S_mono (ok':=(fun k_ => some k_ ≠ (v314 : Value).ownBlock)) HO_3.out (fun k_ hk => hk.2));clear HO_3;have HO_3:=n_;clear n_;have HX12:=ak (show Kd.S k34 34 w11 w.heap.size (fun k_ => ((fun _ => True)) k_ ∧ ¬ ((fun k_ => some k_ = (v314 : Value).ownBlock)) k_) (.slice (some ⟨go10,0,none⟩) x3_1.length co10) x3_1 from (by (with_reducible repeat (first | apply Kd.S_alloc | apply Kd.S_drewN | apply Kd.S_drew));exact Kd.S_mono HO_3.out (fun k_ hk => ⟨trivial,fun e_ => hk e_⟩)));obtain ⟨oki12,ce12,hcl12,hM12,hcc12,hfr12,hoki12,hH12⟩:=Kd.S_elem HX12.out z34 (x4_1 : Int) (of_decide_eq_true Hd.a_) (by have h_ : (x4_1 : Int) < ((x3_1.length : Int) : Int):=of_decide_eq_true Hd.a_;first | exact h_ | (have e_:=(Kd.S_reads' HO_3.out).1;omega) | simpa using h_);obtain ⟨ve12_4,rfl,ge12_4⟩:=k34_openM hM12;have HP12:=Kd.S_seg hH12 (of_decide_eq_true Hd.a_) (by have h_ : (x4_1 : Int) < ((x3_1.length : Int) : Int):=of_decide_eq_true Hd.a_;first | exact h_ | (have e_:=(Kd.S_reads' HO_3.out).1;omega) | simpa using h_) (seg:=[.int .i64 t309,.int .i64 t310,.int .i64 t311,.string t312,v314]) (j:=0) (show 5 ≤ 5 from by decide) (x':=(⟨t309,t310,t311,t312,t313⟩ : S34)) (k34_mkM _ _ _ (⟨t309,t310,t311,t312,t313⟩ : S34) (Kd.R_mono (Kd.R_tight rfl (Kd.R_mono (ok':=fun k_ => ((fun _ => True)) k_ ∧ k_ ≠ go10) (Kd.R_apart' (HO315.out) (Kd.S_typed HO_3.out) (by decide)) (fun k_ hk => ⟨trivial,fun e_ => (hk.2) (by rw [e_];rfl)⟩))) (fun _ h_ => Or.inr (h_)))) (fun _ hk => hk) (fun k_ hk_ => ((Kd.R_mono (ok':=fun k_ => ((fun _ => True)) k_ ∧ k_ ≠ go10) (Kd.R_apart' (HO315.out) (Kd.S_typed HO_3.out) (by decide)) (fun k_ hk => ⟨trivial,fun e_ => (hk.2) (by rw [e_];rfl)⟩))).1 k_ hk_.symm);have hx12_0:=hcc12 0 _ rfl;(try simp only [show (k34).sz = 5 from rfl,Nat.mul_one,Nat.add_zero] at hx12_0);have hf12_0:=hfr12 0;(try simp only [show (k34).sz = 5 from rfl,Nat.mul_one,Nat.add_zero] at hf12_0);have hx12_1:=hcc12 1 _ rfl;(try simp only [show (k34).sz = 5 from rfl,Nat.mul_one,Nat.add_zero] at hx12_1);have hf12_1:=hfr12 1;(try simp only [show (k34).sz = 5 from rfl,Nat.mul_one,Nat.add_zero] at hf12_1);have hx12_2:=hcc12 2 _ rfl;(try simp only [show (k34).sz = 5 from rfl,Nat.mul_one,Nat.add_zero] at hx12_2);have hf12_2:=hfr12 2;(try simp only [show (k34).sz = 5 from rfl,Nat.mul_one,Nat.add_zero] at hf12_2);have hx12_3:=hcc12 3 _ rfl;(try simp only [show (k34).sz = 5 from rfl,Nat.mul_one,Nat.add_zero] at hx12_3);have hf12_3:=hfr12 3;(try simp only [show (k34).sz = 5 from rfl,Nat.mul_one,Nat.add_zero] at hf12_3);have hx12_4:=hcc12 4 _ rfl;(try simp only [show (k34).sz = 5 from rfl,Nat.mul_one,Nat.add_zero] at hx12_4);have hf12_4:=hfr12 4;(try simp only [show (k34).sz = 5 from rfl,Nat.mul_one,Nat.add_zero] at hf12_4);clear hcl12 hcc12 hfr12 hM12 hoki12 hH12) | ((with_reducible refine gate_store (t:=34) (p:=21) rfl ?_);refine store_event (t:=34) (p:=21) (v:=?vo_w13) (w1:=(((((w11.setCell ⟨go10,(x4_1 : Int).toNat * 5,none⟩ (.int .i64 t309)).setCell ⟨go10,(x4_1 : Int).toNat * 5 + 1,none⟩ (.int .i64 t310)).setCell ⟨go10,(x4_1 : Int).toNat * 5 + 2,none⟩ (.int .i64 t311)).setCell ⟨go10,(x4_1 : Int).toNat * 5 + 3,none⟩ (.string t312)).setCell ⟨go10,(x4_1 : Int).toNat * 5 + 4,none⟩ (v314))) ?hg ?ho ?hn ?hr ?_;(case ho => rfl);(case hg => rfl);(case hn => rfl);(case hr => exact z24_);intro w13 hw;have hg : w11.grownBy w13 (some go10):=(by rw [hw];exact HP12.2);have hp_ : Kd.S k34 34 w13 w.heap.size (fun _ => True) (.slice (some ⟨go10,0,none⟩) x3_1.length co10) y316:=(by rw [hw,Ny316.out];exact HP12.1);clear HP12;have n0_:=ak (hp_);have n1_:=ak ((by rw [hw];exact below_set (below_set (below_set (below_set (below_set (HB.out) GB10.out) GB10.out) GB10.out) GB10.out) GB10.out : Below w.heap.size w w13));clear HO_3;clear HB;clear HO315;have HO_3:=n0_;have HB:=n1_;clear n0_ n1_;clear hg hw hp_))
   go_roundg k1
   case measure => have:=HK1.out;omega
   case rel => exact ⟨(y316),(wrap64 (x4_1 + 1)),z2_,H',⟨by have:=HK1.out;omega⟩,⟨z7_ HO_3⟩,⟨Hd.b_⟩⟩
def impl_FindFeature.l0 : Nat → List S34 → Int → Int → Option Int
  | 0,_,_,_ => none
  | k + 1,x0,x1,x8 => if x8 < (x0.length : Int) then (if 0 ≤ x8 then (if (rd_T34 x0 x8).f0 = x1 then some x8 else impl_FindFeature.l0 k x0 x1 (wrap64 (x8 + 1))) else none) else some (-1)
def impl_FindFeature.f (k : Nat) (l0 : List S34) (a1 : Int) : Option Int:=impl_FindFeature.l0 k l0 a1 0
theorem impl_FindFeature.lit (x0 x1 x2 : Int) (x3 : ByteArray) (x4 : Value) (id : Int) (g : Nat) (w : World) (h1 : x4.oneCell' = true) (hc : w.cell? ⟨g,0,none⟩ = some (.int .i64 id)) :
    Calls Try.prog 51 #[.agg #[.int .i64 x0,.int .i64 x1,.int .i64 x2,.string x3,x4],.pointer (some ⟨g,0,none⟩)] w fun e w' => e = .returned (.bool (decide (x0 = id))) ∧ Below w.heap.size w w':=by
  have hu34:=Try.underlying34
  have hc2 : ∀ o,(w.alloc o).cell? ⟨g,0,none⟩ = some (.int .i64 id):=fun o => (World.cell?_alloc_lt _ _ _ (World.block_lt_of_cell? _ _ hc)).trans hc
  go_enter Try.func51,Try.ntmps51
  go_wp2
  go_ret
  exact ⟨by first | rfl | (simp;done) | (simp [beq_eq_decide];done),below_alloc (Below.refl _ _) _⟩
theorem impl_FindFeature.idx (k : Nat) (A : Option Addr) (c : Nat) (l0 : List S34) (id r : Int) (g : Nat) (w : World) (hr0 : Kd.C k34 w A l0.length l0) (hc : w.cell? ⟨g,0,none⟩ = some (.int .i64 id)) (h : impl_FindFeature.l0 k l0 id 0 = some r) :
    Calls Try.prog 50 #[.slice A l0.length c,.func (.func 51) #[] #[.pointer (some ⟨g,0,none⟩)]] w fun e w' => e = .returned (.int .i64 r) ∧ Below w.heap.size w w':=by
  have hu34:=Try.underlying34
  have HR:=ak hr0
  have HC:=ak hc
  have HB:=ak (Below.refl w.heap.size w)
  have H':=ak h
  clear h hr0 hc
  go_enter Try.func50,Try.ntmps50
  go_wp2
  go_loopg [8] k (fun kq v8 w' => ∃ (x8_1 : Int),v8 = .int .i64 x8_1 ∧ Aside0 (impl_FindFeature.l0 kq l0 id x8_1 = some r) ∧ Aside0 (kq ≤ k) ∧ Aside0 (Below w.heap.size w w'))
  case atStart => exact ⟨0,rfl,H',⟨Nat.le_refl _⟩,HB⟩
  case round =>
    clear H' HB
    obtain ⟨x8_1,rfl,HA,HK1,HB⟩:=hrel
    cases gk with
    | zero => exact absurd HA.out (by simp [impl_FindFeature.l0])
    | succ k1 =>
      have H:=HA.out
      clear HA
      simp only [impl_FindFeature.l0] at H
      by_cases c3 : x8_1 < (l0.length : Int)
      · rw [if_pos c3] at H
        by_cases c4 : 0 ≤ x8_1
        · rw [if_pos c4] at H
          obtain ⟨ad,A4,c4_,e1,hx0,hx1,hx2,hx3,hx4,_,_⟩:=at_T34 HR.out x8_1 c4 c3
          subst e1
          replace hx0:=(HB.out.cell (World.block_lt_of_cell? w _ hx0)).trans hx0
          replace hx1:=(HB.out.cell (World.block_lt_of_cell? w _ hx1)).trans hx1
          replace hx2:=(HB.out.cell (World.block_lt_of_cell? w _ hx2)).trans hx2
          replace hx3:=(HB.out.cell (World.block_lt_of_cell? w _ hx3)).trans hx3
          replace hx4:=(HB.out.cell (World.block_lt_of_cell? w _ hx4)).trans hx4
          have hcw:=(HB.out.cell (World.block_lt_of_cell? w _ HC.out)).trans HC.out
          have b3 : decide (x8_1 < (l0.length : Int)) = true:=decide_eq_true c3
          have b4 : decide (0 ≤ x8_1) = true:=decide_eq_true c4
          have b3':=eq_true c3
          have b4':=eq_true c4
          clear c3 c4
          by_cases c5 : (rd_T34 l0 x8_1).f0 = id
          · rw [if_pos c5] at H
            obtain rfl:=Option.some.inj H
            have HD:=ak (decide_eq_true c5)
            clear c5 H
            go_wp2_with (first | (go_at_call 51;(with_reducible refine (impl_FindFeature.lit _ _ _ _ _ id g _ rfl hcw).mono ?_);rintro e w2 ⟨rfl,hb⟩;rw [HD.out]))
            go_ret
            exact ⟨rfl,below_step HB.out hb⟩
          · rw [if_neg c5] at H
            have HD:=ak (decide_eq_false c5)
            have H':=ak H
            clear c5 H
            go_wp2_with (first | (go_at_call 51;(with_reducible refine (impl_FindFeature.lit _ _ _ _ _ id g _ rfl hcw).mono ?_);rintro e w2 ⟨rfl,hb⟩;rw [HD.out]))
            go_roundg k1
            case measure => have:=HK1.out;omega
            case rel => exact ⟨_,rfl,H',⟨by have:=HK1.out;omega⟩,⟨below_step HB.out hb⟩⟩
        · rw [if_neg c4] at H;cases H
      · rw [if_neg c3] at H
        obtain rfl:=Option.some.inj H
        have b3 : decide (x8_1 < (l0.length : Int)) = false:=decide_eq_false c3
        go_wp2
        go_ret
        exact ⟨rfl,HB.out⟩
theorem impl_FindFeature.calls (k : Nat) (A0 : Option Addr) (c0 : Nat) (l0 : List S34) (a1 : Int) (r : Int) (w : World) (hr0 : Kd.C k34 w A0 l0.length l0) (hc0 : l0.length ≤ c0) (h : impl_FindFeature.f k l0 a1 = some r) :
    Calls Try.prog 20 #[.slice A0 l0.length c0,.int .i64 a1] w fun e w' => e = .returned (.int .i64 r) ∧ Below w.heap.size w w':=by
  have hmf : ∀ (fn : Fn) (first cap : Array Value) (w : World),(Instr.makeFunc fn first cap).run Try.prog w = .ok (.func fn first cap) w:=fun _ _ _ _ => rfl
  have HR:=ak hr0
  have H':=ak (show impl_FindFeature.l0 k l0 a1 0 = some r from h)
  clear h hr0 hc0
  go_enter Try.func20,Try.ntmps20
  go_wp2_with (first | (go_at_call 50;(with_reducible refine (impl_FindFeature.idx k A0 c0 l0 a1 r _ _ (Kd.C_below HR.out (below_alloc (Below.refl _ _) _)) ?hc H'.out).mono ?_);(case hc => exact (blk_cell (blk_new w _) 0).trans rfl);rintro e w2 ⟨rfl,hb⟩))
  go_ret
  exact ⟨rfl,below_step (below_alloc (Below.refl _ _) _) hb⟩
def impl_InRange.f (a0 : Int) (a1 : Int) (a2 : Int) : Option (Bool):=if a1 ≤ a0 then (some (decide (a0 ≤ a2))) else (some false)
theorem impl_InRange.calls (a0 : Int) (a1 : Int) (a2 : Int) (r : Bool) (w : World) (h : impl_InRange.f a0 a1 a2 = some r) :
  Calls Try.prog 71 #[.int .i64 a0,.int .i64 a1,.int .i64 a2] w fun e w' => e = .returned (.bool r) ∧ Drawn0 w w':=by
 have H:=h;clear h;unfold impl_InRange.f at H
 by_cases c4 : a1 ≤ a0
 ·
  rw [if_pos c4] at H
  have c4b0:=decide_eq_true c4
  clear c4
  obtain rfl:=Option.some.inj H
  go_enter Try.func71,Try.ntmps71
  go_wp2
  go_ret
  exact ⟨z2_,z12_⟩
 rw [if_neg c4] at H
 have c4b0:=decide_eq_false c4
 clear c4
 obtain rfl:=Option.some.inj H
 go_enter Try.func71,Try.ntmps71
 go_wp2
 go_ret
 exact ⟨z2_,z12_⟩
def impl_IsName.l0 : Nat → ByteArray → Int → Int → Option (Bool)
 | 0,_,_,_ => none
 | k + 1,x0,x5,x6 => if x6 < x5 then (if 0 ≤ x6 then (if x6 < (x0.size : Int) then (if (bt x0 x6) < 97 then (some false) else (if (bt x0 x6) > 122 then (some false) else (impl_IsName.l0 k x0 x5 (wrap64 (x6 + 1))))) else (none)) else (none)) else ((impl_InRange.f (x0.size : Int) 1 8).bind fun t317 => (some t317))
def impl_IsName.f (k : Nat) (a0 : ByteArray) : Option (Bool):=impl_IsName.l0 k a0 (a0.size : Int) 0
theorem impl_IsName.calls (k : Nat) (a0 : ByteArray) (r : Bool) (w : World) (h : impl_IsName.f k a0 = some r) :
  Calls Try.prog 72 #[.string a0] w fun e w' => e = .returned (.bool r) ∧ Drawn0 w w':=by
 have H:=h;clear h;unfold impl_IsName.f at H
 have H':=ak H
 clear H
 go_enter Try.func72,Try.ntmps72
 go_wp2
 go_loopg [6] k (fun kq v6 w' => ∃ (x6_1 : Int),v6 = .int .i64 x6_1 ∧ Aside0 (impl_IsName.l0 kq a0 (a0.size : Int) x6_1 = some r) ∧ Aside0 (kq ≤ k) ∧ Drawn0 w w')
 case atStart => exact ⟨(0),z2_,H',⟨Nat.le_refl _⟩,z12_⟩
 case round =>
  clear H'
  obtain ⟨x6_1,rfl,HA,HK1,⟨m1,rfl⟩⟩:=hrel
  cases gk with
  | zero => exact absurd HA.out (by simp [impl_IsName.l0])
  | succ k1 =>
   have H:=HA.out
   clear HA
   simp only [impl_IsName.l0] at H
   by_cases c2 : x6_1 < (a0.size : Int);rotate_left
   ·
    rw [if_neg c2] at H
    have c2b0:=decide_eq_false c2
    clear c2
    replace H:=Hd.bd_ H;obtain ⟨t317,A9,H⟩:=H
    obtain rfl:=Option.some.inj H
    go_wp2_with (first | ((with_reducible refine gate_callee (f:=71) rfl ?_);refine Hd.gl_ 22 Try.func71 #[.int .i64 (a0.size : Int),.int .i64 1,.int .i64 8] ?_;(with_reducible refine (impl_InRange.calls (a0.size : Int) 1 8 t317 _ A9.out).mono ?_);rintro e w' ⟨rfl,⟨nd,rfl⟩⟩;refine ⟨_,rfl,?_⟩))
    go_ret
    exact ⟨z2_,z12_⟩
   rw [if_pos c2] at H
   have c2b0:=decide_eq_true c2
   clear c2
   by_cases c3 : 0 ≤ x6_1;rotate_left
   ·
    rw [if_neg c3] at H
    exact absurd H (by simp)
   rw [if_pos c3] at H
   have c3b0:=decide_eq_true c3
   clear c3
   by_cases c4 : x6_1 < (a0.size : Int);rotate_left
   ·
    rw [if_neg c4] at H
    exact absurd H (by simp)
   rw [if_pos c4] at H
   have c4b0:=decide_eq_true c4
   clear c4
   by_cases c6 : (bt a0 x6_1) < 97
   ·
    rw [if_pos c6] at H
    have c6b0:=decide_eq_true c6
    clear c6
    obtain rfl:=Option.some.inj H
    have p5 : 0 ≤ (x6_1 : Int):=of_decide_eq_true Hd.a_
    have q5 : x6_1 < (a0.size : Int):=of_decide_eq_true Hd.a_
    have hx5:=bt_at a0 x6_1
    replace p5:=eq_true p5
    replace q5:=eq_true q5
    go_wp2
    go_ret
    exact ⟨z2_,z12_⟩
   rw [if_neg c6] at H
   have c6b0:=decide_eq_false c6
   clear c6
   by_cases c8 : (bt a0 x6_1) > 122
   ·
    rw [if_pos c8] at H
    have c8b0 : decide (122 < (bt a0 x6_1)) = true:=decide_eq_true c8
    clear c8
    obtain rfl:=Option.some.inj H
    have p5 : 0 ≤ (x6_1 : Int):=of_decide_eq_true Hd.a_
    have q5 : x6_1 < (a0.size : Int):=of_decide_eq_true Hd.a_
    have hx5:=bt_at a0 x6_1
    replace p5:=eq_true p5
    replace q5:=eq_true q5
    have p7 : 0 ≤ (x6_1 : Int):=of_decide_eq_true Hd.a_
    have q7 : x6_1 < (a0.size : Int):=of_decide_eq_true Hd.a_
    have hx7:=bt_at a0 x6_1
    replace p7:=eq_true p7
    replace q7:=eq_true q7
    go_wp2
    go_ret
    exact ⟨z2_,z12_⟩
   rw [if_neg c8] at H
   have c8b0 : decide (122 < (bt a0 x6_1)) = false:=decide_eq_false c8
   clear c8
   have H':=ak H
   clear H
   have p5 : 0 ≤ (x6_1 : Int):=of_decide_eq_true Hd.a_
   have q5 : x6_1 < (a0.size : Int):=of_decide_eq_true Hd.a_
   have hx5:=bt_at a0 x6_1
   replace p5:=eq_true p5
   replace q5:=eq_true q5
   have p7 : 0 ≤ (x6_1 : Int):=of_decide_eq_true Hd.a_
   have q7 : x6_1 < (a0.size : Int):=of_decide_eq_true Hd.a_
   have hx7:=bt_at a0 x6_1
   replace p7:=eq_true p7
   replace q7:=eq_true q7
   go_wp2
   go_roundg k1
   case measure => have:=HK1.out;omega
   case rel => exact ⟨(wrap64 (x6_1 + 1)),z2_,H',⟨by have:=HK1.out;omega⟩,z12_⟩
def impl_IsPoint.f (a0_0 : Int) (a0_1 : Int) : Option (Bool):=(impl_InRange.f a0_0 0 200).bind fun t319 => (if t319 = true then ((impl_InRange.f a0_1 0 200).bind fun t320 => (some t320)) else (some false))
theorem impl_IsPoint.calls (a0_0 : Int) (a0_1 : Int) (r : Bool) (w : World) (h : impl_IsPoint.f a0_0 a0_1 = some r) :
  Calls Try.prog 73 #[.agg #[.int .i64 a0_0,.int .i64 a0_1]] w fun e w' => e = .returned (.bool r) ∧ Below w.heap.size w w':=by
 have hu75:=Try.underlying75
 have HB:=ak (Below.refl w.heap.size w)
 have H:=h;clear h;unfold impl_IsPoint.f at H
 replace H:=Hd.bd_ H;obtain ⟨t319,A2,H⟩:=H
 by_cases c3 : t319 = true
 ·
  subst c3
  rw [if_pos rfl] at H
  replace H:=Hd.bd_ H;obtain ⟨t320,A4,H⟩:=H
  obtain rfl:=Option.some.inj H
  go_enter Try.func73,Try.ntmps73
  go_wp2_with (first | ((with_reducible refine gate_dst (N:=1) rfl ?_);refine Hd.box_ 1 (#[.int .i64 a0_0,.int .i64 a0_1]) 75 ?_;intro gb318 hg w5 hbox hb;have BK318:=ak (hbox);have GW318:=ak ((Hd.g_ hg Hd.b_ : w.heap.size ≤ gb318));have GE318:=ak ((Hd.g_ hg Hd.b_ : w.heap.size ≤ gb318));replace HB:=ak (below_step Hd.b_ hb);clear hb hbox hg;obtain ⟨hcz6_0,hcz6_1⟩:=Hd.c2_ BK318.out;obtain ⟨hfz6_0,hfz6_1⟩:=Hd.f2_ BK318.out) | ((with_reducible refine gate_callee (f:=71) rfl ?_);refine Hd.gl_ 5 Try.func71 #[.int .i64 a0_0,.int .i64 0,.int .i64 200] ?_;(with_reducible refine (impl_InRange.calls a0_0 0 200 true _ A2.out).mono ?_);rintro e w' ⟨rfl,⟨nd,rfl⟩⟩;refine ⟨_,rfl,?_⟩) | (go_at_call 71;(with_reducible refine (impl_InRange.calls a0_1 0 200 t320 _ A4.out).mono ?_);rintro e w' ⟨rfl,⟨nd,rfl⟩⟩))
  go_ret
  exact ⟨Hd.e_,Hd.b_⟩
 replace c3:=Bool.eq_false_iff.mpr c3
 subst c3
 rw [if_neg (show ¬ (false = true) by decide)] at H
 obtain rfl:=Option.some.inj H
 go_enter Try.func73,Try.ntmps73
 go_wp2_with (first | ((with_reducible refine gate_dst (N:=1) rfl ?_);refine Hd.box_ 1 (#[.int .i64 a0_0,.int .i64 a0_1]) 75 ?_;intro gb318 hg w7 hbox hb;have BK318:=ak (hbox);have GW318:=ak ((Hd.g_ hg Hd.b_ : w.heap.size ≤ gb318));have GE318:=ak ((Hd.g_ hg Hd.b_ : w.heap.size ≤ gb318));replace HB:=ak (below_step Hd.b_ hb);clear hb hbox hg;obtain ⟨hcz8_0,hcz8_1⟩:=Hd.c2_ BK318.out;obtain ⟨hfz8_0,hfz8_1⟩:=Hd.f2_ BK318.out) | ((with_reducible refine gate_callee (f:=71) rfl ?_);refine Hd.gl_ 5 Try.func71 #[.int .i64 a0_0,.int .i64 0,.int .i64 200] ?_;(with_reducible refine (impl_InRange.calls a0_0 0 200 false _ A2.out).mono ?_);rintro e w' ⟨rfl,⟨nd,rfl⟩⟩;refine ⟨_,rfl,?_⟩))
 go_ret
 exact ⟨Hd.e_,Hd.b_⟩
def impl_IsSegment.f (a0_0 : Int) (a0_1 : Int) (a0_2 : Int) (a0_3 : Int) : Option (Bool):=(impl_IsPoint.f a0_0 a0_1).bind fun t322 => (if t322 = true then ((impl_IsPoint.f a0_2 a0_3).bind fun t323 => (if t323 = true then (some (!(a0_0 == a0_2) || (!(a0_1 == a0_3)))) else (some false))) else (some false))
theorem impl_IsSegment.calls (a0_0 : Int) (a0_1 : Int) (a0_2 : Int) (a0_3 : Int) (r : Bool) (w : World) (h : impl_IsSegment.f a0_0 a0_1 a0_2 a0_3 = some r) :
  Calls Try.prog 90 #[.agg #[.int .i64 a0_0,.int .i64 a0_1,.int .i64 a0_2,.int .i64 a0_3]] w fun e w' => e = .returned (.bool r) ∧ Below w.heap.size w w':=by
 have hu101:=Try.underlying101
 have hu75:=Try.underlying75
 have HB:=ak (Below.refl w.heap.size w)
 have H:=h;clear h;unfold impl_IsSegment.f at H
 replace H:=Hd.bd_ H;obtain ⟨t322,A2,H⟩:=H
 by_cases c3 : t322 = true;rotate_left
 ·
  replace c3:=Bool.eq_false_iff.mpr c3
  subst c3
  rw [if_neg (show ¬ (false = true) by decide)] at H
  obtain rfl:=Option.some.inj H
  go_enter Try.func90,Try.ntmps90
  go_wp2_with (first | ((with_reducible refine gate_dst (N:=1) rfl ?_);refine Hd.box_ 1 (#[.int .i64 a0_0,.int .i64 a0_1,.int .i64 a0_2,.int .i64 a0_3]) 101 ?_;intro gb321 hg w17 hbox hb;have BK321:=ak (hbox);have GW321:=ak ((Hd.g_ hg Hd.b_ : w.heap.size ≤ gb321));have GE321:=ak ((Hd.g_ hg Hd.b_ : w.heap.size ≤ gb321));replace HB:=ak (below_step Hd.b_ hb);clear hb hbox hg;obtain ⟨hcz18_0,hcz18_1,hcz18_2,hcz18_3⟩:=Hd.c4_ BK321.out;obtain ⟨hfz18_0,hfz18_1,hfz18_2,hfz18_3⟩:=Hd.f4_ BK321.out) | ((with_reducible refine gate_callee (f:=73) rfl ?_);refine Hd.gl_ 5 Try.func73 #[.agg #[.int .i64 a0_0,.int .i64 a0_1]] ?_;(with_reducible refine (impl_IsPoint.calls a0_0 a0_1 false _ A2.out).mono ?_);rintro e w19 ⟨rfl,hb⟩;refine ⟨_,rfl,?_⟩;replace BK321:=ak (Hd.kb_ BK321 hb);replace HB:=ak (below_step Hd.b_ hb);clear hb))
  go_ret
  exact ⟨Hd.e_,Hd.b_⟩
 subst c3
 rw [if_pos rfl] at H
 replace H:=Hd.bd_ H;obtain ⟨t323,A4,H⟩:=H
 by_cases c5 : t323 = true
 ·
  subst c5
  rw [if_pos rfl] at H
  obtain rfl:=Option.some.inj H
  go_enter Try.func90,Try.ntmps90
  go_wp2_with (first | ((with_reducible refine gate_dst (N:=1) rfl ?_);refine Hd.box_ 1 (#[.int .i64 a0_0,.int .i64 a0_1,.int .i64 a0_2,.int .i64 a0_3]) 101 ?_;intro gb321 hg w6 hbox hb;have BK321:=ak (hbox);have GW321:=ak ((Hd.g_ hg Hd.b_ : w.heap.size ≤ gb321));have GE321:=ak ((Hd.g_ hg Hd.b_ : w.heap.size ≤ gb321));replace HB:=ak (below_step Hd.b_ hb);clear hb hbox hg;obtain ⟨hcz7_0,hcz7_1,hcz7_2,hcz7_3⟩:=Hd.c4_ BK321.out;obtain ⟨hfz7_0,hfz7_1,hfz7_2,hfz7_3⟩:=Hd.f4_ BK321.out) | ((with_reducible refine gate_callee (f:=73) rfl ?_);refine Hd.gl_ 5 Try.func73 #[.agg #[.int .i64 a0_0,.int .i64 a0_1]] ?_;(with_reducible refine (impl_IsPoint.calls a0_0 a0_1 true _ A2.out).mono ?_);rintro e w8 ⟨rfl,hb⟩;refine ⟨_,rfl,?_⟩;replace BK321:=ak (Hd.kb_ BK321 hb);replace HB:=ak (below_step Hd.b_ hb);clear hb;obtain ⟨hcz9_0,hcz9_1,hcz9_2,hcz9_3⟩:=Hd.c4_ BK321.out;obtain ⟨hfz9_0,hfz9_1,hfz9_2,hfz9_3⟩:=Hd.f4_ BK321.out) | (go_at_call 73;(with_reducible refine (impl_IsPoint.calls a0_2 a0_3 true _ A4.out).mono ?_);rintro e w10 ⟨rfl,hb⟩;replace BK321:=ak (Hd.kb_ BK321 hb);replace HB:=ak (below_step Hd.b_ hb);clear hb;obtain ⟨hcz11_0,hcz11_1,hcz11_2,hcz11_3⟩:=Hd.c4_ BK321.out;obtain ⟨hfz11_0,hfz11_1,hfz11_2,hfz11_3⟩:=Hd.f4_ BK321.out))
  go_ret
  exact ⟨Hd.e_,Hd.b_⟩
 replace c5:=Bool.eq_false_iff.mpr c5
 subst c5
 rw [if_neg (show ¬ (false = true) by decide)] at H
 obtain rfl:=Option.some.inj H
 go_enter Try.func90,Try.ntmps90
 go_wp2_with (first | ((with_reducible refine gate_dst (N:=1) rfl ?_);refine Hd.box_ 1 (#[.int .i64 a0_0,.int .i64 a0_1,.int .i64 a0_2,.int .i64 a0_3]) 101 ?_;intro gb321 hg w12 hbox hb;have BK321:=ak (hbox);have GW321:=ak ((Hd.g_ hg Hd.b_ : w.heap.size ≤ gb321));have GE321:=ak ((Hd.g_ hg Hd.b_ : w.heap.size ≤ gb321));replace HB:=ak (below_step Hd.b_ hb);clear hb hbox hg;obtain ⟨hcz13_0,hcz13_1,hcz13_2,hcz13_3⟩:=Hd.c4_ BK321.out;obtain ⟨hfz13_0,hfz13_1,hfz13_2,hfz13_3⟩:=Hd.f4_ BK321.out) | ((with_reducible refine gate_callee (f:=73) rfl ?_);refine Hd.gl_ 5 Try.func73 #[.agg #[.int .i64 a0_0,.int .i64 a0_1]] ?_;(with_reducible refine (impl_IsPoint.calls a0_0 a0_1 true _ A2.out).mono ?_);rintro e w14 ⟨rfl,hb⟩;refine ⟨_,rfl,?_⟩;replace BK321:=ak (Hd.kb_ BK321 hb);replace HB:=ak (below_step Hd.b_ hb);clear hb;obtain ⟨hcz15_0,hcz15_1,hcz15_2,hcz15_3⟩:=Hd.c4_ BK321.out;obtain ⟨hfz15_0,hfz15_1,hfz15_2,hfz15_3⟩:=Hd.f4_ BK321.out) | (go_at_call 73;(with_reducible refine (impl_IsPoint.calls a0_2 a0_3 false _ A4.out).mono ?_);rintro e w16 ⟨rfl,hb⟩;replace BK321:=ak (Hd.kb_ BK321 hb);replace HB:=ak (below_step Hd.b_ hb);clear hb))
 go_ret
 exact ⟨Hd.e_,Hd.b_⟩
def cmp_isNaN_int.f (a0 : Int) : Option (Bool):=some (a0 != a0)
theorem cmp_isNaN_int.calls (a0 : Int) (r : Bool) (w : World) (h : cmp_isNaN_int.f a0 = some r) :
  Calls Try.prog 113 #[.int .i64 a0] w fun e w' => e = .returned (.bool r) ∧ Drawn0 w w':=by
 have H : (some (a0 != a0)) = some r:=h
 clear h
 obtain rfl:=Option.some.inj H
 go_enter Try.func113,Try.ntmps113
 go_wp2
 go_ret
 exact ⟨z2_,z12_⟩
def cmp_Compare_int.f (a0 : Int) (a1 : Int) : Option (Int):=(cmp_isNaN_int.f a0).bind fun t324 => ((cmp_isNaN_int.f a1).bind fun t325 => (if t324 = true then (if t325 = true then (some 0) else (some (-1))) else (if t325 = true then (some 1) else (if a0 < a1 then (some (-1)) else (if a0 > a1 then (some 1) else (some 0))))))
theorem cmp_Compare_int.calls (a0 : Int) (a1 : Int) (r : Int) (w : World) (h : cmp_Compare_int.f a0 a1 = some r) :
  Calls Try.prog 106 #[.int .i64 a0,.int .i64 a1] w fun e w' => e = .returned (.int .i64 r) ∧ Drawn0 w w':=by
 have H:=h;clear h;unfold cmp_Compare_int.f at H
 replace H:=Hd.bd_ H;obtain ⟨t324,A3,H⟩:=H
 replace H:=Hd.bd_ H;obtain ⟨t325,A4,H⟩:=H
 by_cases c5 : t324 = true
 ·
  subst c5
  rw [if_pos rfl] at H
  by_cases c6 : t325 = true
  ·
   subst c6
   rw [if_pos rfl] at H
   obtain rfl:=Option.some.inj H
   go_enter Try.func106,Try.ntmps106
   go_wp2_with (first | ((with_reducible refine gate_callee (f:=113) rfl ?_);refine Hd.gl_ 8 Try.func113 #[.int .i64 a0] ?_;(with_reducible refine (cmp_isNaN_int.calls a0 true _ A3.out).mono ?_);rintro e w' ⟨rfl,⟨nd,rfl⟩⟩;refine ⟨_,rfl,?_⟩) | ((with_reducible refine gate_callee (f:=113) rfl ?_);refine Hd.gl_ 10 Try.func113 #[.int .i64 a1] ?_;(with_reducible refine (cmp_isNaN_int.calls a1 true _ A4.out).mono ?_);rintro e w' ⟨rfl,⟨nd,rfl⟩⟩;refine ⟨_,rfl,?_⟩))
   go_ret
   exact ⟨z2_,z12_⟩
  replace c6:=Bool.eq_false_iff.mpr c6
  subst c6
  rw [if_neg (show ¬ (false = true) by decide)] at H
  obtain rfl:=Option.some.inj H
  go_enter Try.func106,Try.ntmps106
  go_wp2_with (first | ((with_reducible refine gate_callee (f:=113) rfl ?_);refine Hd.gl_ 8 Try.func113 #[.int .i64 a0] ?_;(with_reducible refine (cmp_isNaN_int.calls a0 true _ A3.out).mono ?_);rintro e w' ⟨rfl,⟨nd,rfl⟩⟩;refine ⟨_,rfl,?_⟩) | ((with_reducible refine gate_callee (f:=113) rfl ?_);refine Hd.gl_ 10 Try.func113 #[.int .i64 a1] ?_;(with_reducible refine (cmp_isNaN_int.calls a1 false _ A4.out).mono ?_);rintro e w' ⟨rfl,⟨nd,rfl⟩⟩;refine ⟨_,rfl,?_⟩))
  go_ret
  exact ⟨z2_,z12_⟩
 replace c5:=Bool.eq_false_iff.mpr c5
 subst c5
 rw [if_neg (show ¬ (false = true) by decide)] at H
 by_cases c7 : t325 = true
 ·
  subst c7
  rw [if_pos rfl] at H
  obtain rfl:=Option.some.inj H
  go_enter Try.func106,Try.ntmps106
  go_wp2_with (first | ((with_reducible refine gate_callee (f:=113) rfl ?_);refine Hd.gl_ 8 Try.func113 #[.int .i64 a0] ?_;(with_reducible refine (cmp_isNaN_int.calls a0 false _ A3.out).mono ?_);rintro e w' ⟨rfl,⟨nd,rfl⟩⟩;refine ⟨_,rfl,?_⟩) | ((with_reducible refine gate_callee (f:=113) rfl ?_);refine Hd.gl_ 10 Try.func113 #[.int .i64 a1] ?_;(with_reducible refine (cmp_isNaN_int.calls a1 true _ A4.out).mono ?_);rintro e w' ⟨rfl,⟨nd,rfl⟩⟩;refine ⟨_,rfl,?_⟩))
  go_ret
  exact ⟨z2_,z12_⟩
 replace c7:=Bool.eq_false_iff.mpr c7
 subst c7
 rw [if_neg (show ¬ (false = true) by decide)] at H
 by_cases c8 : a0 < a1
 ·
  rw [if_pos c8] at H
  have c8b0:=decide_eq_true c8
  clear c8
  obtain rfl:=Option.some.inj H
  go_enter Try.func106,Try.ntmps106
  go_wp2_with (first | ((with_reducible refine gate_callee (f:=113) rfl ?_);refine Hd.gl_ 8 Try.func113 #[.int .i64 a0] ?_;(with_reducible refine (cmp_isNaN_int.calls a0 false _ A3.out).mono ?_);rintro e w' ⟨rfl,⟨nd,rfl⟩⟩;refine ⟨_,rfl,?_⟩) | ((with_reducible refine gate_callee (f:=113) rfl ?_);refine Hd.gl_ 10 Try.func113 #[.int .i64 a1] ?_;(with_reducible refine (cmp_isNaN_int.calls a1 false _ A4.out).mono ?_);rintro e w' ⟨rfl,⟨nd,rfl⟩⟩;refine ⟨_,rfl,?_⟩))
  go_ret
  exact ⟨z2_,z12_⟩
 rw [if_neg c8] at H
 have c8b0:=decide_eq_false c8
 clear c8
 by_cases c9 : a0 > a1
 ·
  rw [if_pos c9] at H
  have c9b0 : decide (a1 < a0) = true:=decide_eq_true c9
  clear c9
  obtain rfl:=Option.some.inj H
  go_enter Try.func106,Try.ntmps106
  go_wp2_with (first | ((with_reducible refine gate_callee (f:=113) rfl ?_);refine Hd.gl_ 8 Try.func113 #[.int .i64 a0] ?_;(with_reducible refine (cmp_isNaN_int.calls a0 false _ A3.out).mono ?_);rintro e w' ⟨rfl,⟨nd,rfl⟩⟩;refine ⟨_,rfl,?_⟩) | ((with_reducible refine gate_callee (f:=113) rfl ?_);refine Hd.gl_ 10 Try.func113 #[.int .i64 a1] ?_;(with_reducible refine (cmp_isNaN_int.calls a1 false _ A4.out).mono ?_);rintro e w' ⟨rfl,⟨nd,rfl⟩⟩;refine ⟨_,rfl,?_⟩))
  go_ret
  exact ⟨z2_,z12_⟩
 rw [if_neg c9] at H
 have c9b0 : decide (a1 < a0) = false:=decide_eq_false c9
 clear c9
 obtain rfl:=Option.some.inj H
 go_enter Try.func106,Try.ntmps106
 go_wp2_with (first | ((with_reducible refine gate_callee (f:=113) rfl ?_);refine Hd.gl_ 8 Try.func113 #[.int .i64 a0] ?_;(with_reducible refine (cmp_isNaN_int.calls a0 false _ A3.out).mono ?_);rintro e w' ⟨rfl,⟨nd,rfl⟩⟩;refine ⟨_,rfl,?_⟩) | ((with_reducible refine gate_callee (f:=113) rfl ?_);refine Hd.gl_ 10 Try.func113 #[.int .i64 a1] ?_;(with_reducible refine (cmp_isNaN_int.calls a1 false _ A4.out).mono ?_);rintro e w' ⟨rfl,⟨nd,rfl⟩⟩;refine ⟨_,rfl,?_⟩))
 go_ret
 exact ⟨z2_,z12_⟩
def impl_cross.f (a0_0 : Int) (a0_1 : Int) (a1_0 : Int) (a1_1 : Int) (a2_0 : Int) (a2_1 : Int) : Option (Int):=some (wrap64 ((wrap64 ((wrap64 (a1_0 - a0_0)) * (wrap64 (a2_1 - a0_1)))) - (wrap64 ((wrap64 (a1_1 - a0_1)) * (wrap64 (a2_0 - a0_0))))))
theorem impl_cross.calls (a0_0 : Int) (a0_1 : Int) (a1_0 : Int) (a1_1 : Int) (a2_0 : Int) (a2_1 : Int) (r : Int) (w : World) (h : impl_cross.f a0_0 a0_1 a1_0 a1_1 a2_0 a2_1 = some r) :
  Calls Try.prog 107 #[.agg #[.int .i64 a0_0,.int .i64 a0_1],.agg #[.int .i64 a1_0,.int .i64 a1_1],.agg #[.int .i64 a2_0,.int .i64 a2_1]] w fun e w' => e = .returned (.int .i64 r) ∧ Below w.heap.size w w':=by
 have hu75:=Try.underlying75
 have HB:=ak (Below.refl w.heap.size w)
 have H : (some (wrap64 ((wrap64 ((wrap64 (a1_0 - a0_0)) * (wrap64 (a2_1 - a0_1)))) - (wrap64 ((wrap64 (a1_1 - a0_1)) * (wrap64 (a2_0 - a0_0))))))) = some r:=h
 clear h
 obtain rfl:=Option.some.inj H
 go_enter Try.func107,Try.ntmps107
 go_wp2_with (first | ((with_reducible refine gate_dst (N:=3) rfl ?_);refine Hd.box_ 3 (#[.int .i64 a0_0,.int .i64 a0_1]) 75 ?_;intro gb326 hg w4 hbox hb;have BK326:=ak (hbox);have GW326:=ak ((Hd.g_ hg Hd.b_ : w.heap.size ≤ gb326));have GE326:=ak ((Hd.g_ hg Hd.b_ : w.heap.size ≤ gb326));replace HB:=ak (below_step Hd.b_ hb);clear hb hbox hg) | ((with_reducible refine gate_dst (N:=4) rfl ?_);refine Hd.box_ 4 (#[.int .i64 a1_0,.int .i64 a1_1]) 75 ?_;intro gb327 hg w5 hbox hb;have BK327:=ak (hbox);have GW327:=ak ((Hd.g_ hg Hd.b_ : w.heap.size ≤ gb327));have GE327:=ak ((Hd.g_ hg Hd.b_ : w.heap.size ≤ gb327));replace HB:=ak (below_step Hd.b_ hb);have NB326_327:=ak ((Hd.lt_ BK326 hg));have NB327_326:=ak ((Hd.gt_ BK326 hg));replace BK326:=ak (Hd.kb_ BK326 hb);clear hb hbox hg) | ((with_reducible refine gate_dst (N:=5) rfl ?_);refine Hd.box_ 5 (#[.int .i64 a2_0,.int .i64 a2_1]) 75 ?_;intro gb328 hg w6 hbox hb;have BK328:=ak (hbox);have GW328:=ak ((Hd.g_ hg Hd.b_ : w.heap.size ≤ gb328));have GE328:=ak ((Hd.g_ hg Hd.b_ : w.heap.size ≤ gb328));replace HB:=ak (below_step Hd.b_ hb);have NB326_328:=ak ((Hd.lt_ BK326 hg));have NB328_326:=ak ((Hd.gt_ BK326 hg));replace BK326:=ak (Hd.kb_ BK326 hb);have NB327_328:=ak ((Hd.lt_ BK327 hg));have NB328_327:=ak ((Hd.gt_ BK327 hg));replace BK327:=ak (Hd.kb_ BK327 hb);clear hb hbox hg;have hnb7:=NB327_326.out;have hnc7:=NB326_327.out;have hnb8:=NB327_328.out;have hnc8:=NB328_327.out;obtain ⟨hcz9_0,hcz9_1⟩:=Hd.c2_ BK327.out;obtain ⟨hfz9_0,hfz9_1⟩:=Hd.f2_ BK327.out;have hnb10:=NB326_328.out;have hnc10:=NB328_326.out;obtain ⟨hcz11_0,hcz11_1⟩:=Hd.c2_ BK326.out;obtain ⟨hfz11_0,hfz11_1⟩:=Hd.f2_ BK326.out;obtain ⟨hcz12_0,hcz12_1⟩:=Hd.c2_ BK328.out;obtain ⟨hfz12_0,hfz12_1⟩:=Hd.f2_ BK328.out))
 go_ret
 exact ⟨Hd.e_,Hd.b_⟩
end Go.Proofs.Ytbbdhlggnglfgaa.MFnExactPutFeature
