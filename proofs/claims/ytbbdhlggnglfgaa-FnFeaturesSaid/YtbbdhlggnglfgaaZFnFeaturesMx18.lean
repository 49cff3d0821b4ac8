-- Laid by this session's program pp.py, after the kit's print and texts of the session's own. Not trusted: Lean checks it.
import Derived.Test.YtbbdhlggnglfgaaZFnFeaturesMx0
import Derived.Test.YtbbdhlggnglfgaaZFnFeaturesMx1
import Derived.Test.YtbbdhlggnglfgaaZFnFeaturesMx11
import Derived.Test.YtbbdhlggnglfgaaZFnFeaturesMx12
namespace Go.Proofs.Ytbbdhlggnglfgaa.MFnFeatures
open Go.RowKit Go.Proofs.YtbbdhlggnglfgaaW.PrintWords Go.Proofs.YtbbdhlggnglfgaaW.PrintLast Go.Proofs.YtbbdhlggnglfgaaW.PrintMore
attribute [local go_sem] max2_int min2_int max_two min_two max_three min_three max_four min_four
set_option linter.unusedVariables false
set_option maxHeartbeats 8000000
set_option maxRecDepth 100000
set_option linter.unusedSimpArgs false
attribute [local go_sem high] eqA75
def spec_l4Draw.f (s0_0:List Int) (s0_1:Int) (s0_2:Int):Option (Int × Int × Int × Int):=(spec_l1Below.f s0_0 s0_1 s0_2 12).bind fun bt494=>((spec_l1Below.f s0_0 bt494.2.1 bt494.2.2 12).bind fun bt497=>(some (bt494.1,bt497.1,bt497.2.1,bt497.2.2)))
theorem spec_l4Draw.calls (g:Nat) (s0_0:List Int) (s0_1:Int) (s0_2:Int) (r1:Int) (r2:Int) (r3:Int) (r4:Int) (w0 w:World) (hI:IsS89 w0 w g s0_0 s0_1 s0_2) (hB:Below w0.heap.size w0 w) (h:spec_l4Draw.f s0_0 s0_1 s0_2=some (r1,r2,r3,r4)) :
  Calls Try.prog 102 #[.pointer (some ⟨g,0,none⟩)] w fun e w'=>e = .returned (.agg #[.int .i64 r1,.int .i64 r2])∧IsS89 w0 w' g s0_0 r3 r4∧Below w0.heap.size w0 w'∧KeepBut w w' g none:=by
 have hu75:=Try.underlying75
 have HI0:=ak hI
 have HK:=z115_
 have HL:=ak hB.size
 clear hI
 have HW0:=ak hB.size
 have HB:=ak hB
 clear hB
 have H:=h;clear h;unfold spec_l4Draw.f at H
 replace H:=Hd.bd_ H;obtain⟨⟨t494,t495,t496⟩,A2,H⟩:=H;dsimp only at H
 replace H:=Hd.bd_ H;obtain⟨⟨t497,t498,t499⟩,A3,H⟩:=H;dsimp only at H
 simp only[Option.some.injEq,Prod.mk.injEq] at H
 obtain⟨rfl,rfl,rfl,rfl⟩:=H
 go_enter Try.func102,Try.ntmps102
 go_wp2_with (first|((with_reducible refine gate_dst (N:=2) rfl ?_);refine Hd.box_ 2 (#[.int .i64 0,.int .i64 0]) 75 ?_;intro gb493 hg w4 hbox hb;replace HB:=z225_;have BK493:=ak (hbox);have GW493:=ak ((z221_:w.heap.size≤gb493));have GE493:=ak ((Nat.le_trans HW0.out (z221_:w.heap.size≤gb493):w0.heap.size≤gb493));replace HK:=z217_;have NB0_493:=ak ((z32_:g≠gb493));have NB493_0:=ak ((z33_:gb493≠g));replace HI0:=z224_;clear hb hbox hg)|((with_reducible refine gate_callee (f:=49) rfl ?_);refine Hd.gl_ 4 Try.func49 #[.pointer (some ⟨g,0,none⟩),.int .i64 12] ?_;(with_reducible refine(spec_l1Below.calls g s0_0 s0_1 s0_2 12 t494 t495 t496 w0 _ ?side1 ?side2 A2.out).mono ?_);(case side1=>exact z7_ NB0_493);(case side2=>exact z9_ GE493);rintro e w5 ⟨rfl,hi,hb,hk⟩;refine⟨_,rfl,?_⟩;replace BK493:=ak (KeepBut.blk hk (g':=gb493) (o:=.cells #[.int .i64 0,.int .i64 0] 75 (0,0)) (Hd.k_ BK493) NB493_0.out (by simp));replace HK:=ak (KeepBut.trans (z4_ GW493) hk (.inl rfl));replace HB:=ak (hb);replace HI0:=ak (hi);clear hb hk hi)|((with_reducible refine gate_callee (f:=49) rfl ?_);refine Hd.gl_ 6 Try.func49 #[.pointer (some ⟨g,0,none⟩),.int .i64 12] ?_;(with_reducible refine(spec_l1Below.calls g s0_0 t495 t496 12 t497 t498 t499 w0 _ ?side1 ?side2 A3.out).mono ?_);(case side1=>exact z7_ NB0_493);(case side2=>exact z9_ GE493);rintro e w6 ⟨rfl,hi,hb,hk⟩;refine⟨_,rfl,?_⟩;replace BK493:=ak (KeepBut.blk hk (g':=gb493) (o:=.cells #[.int .i64 0,.int .i64 0] 75 (0,0)) (Hd.k_ BK493) NB493_0.out (by simp));replace HK:=ak (KeepBut.trans (z4_ GW493) hk (.inl rfl));replace HB:=ak (hb);replace HI0:=ak (hi);clear hb hk hi;have hnb7:=NB493_0.out;have hnc7:=NB0_493.out;obtain⟨hcz8_0,hcz8_1⟩:=Hd.c2_ BK493.out;obtain⟨hfz8_0,hfz8_1⟩:=Hd.f2_ BK493.out))
 refine bodyPost_ret (results_cell_row rfl _ _ gb493 75 #[.int .i64 t494,.int .i64 t497] (0,0) _ rfl (by (with_reducible repeat (first|refine blk_drewN ?_ _|refine blk_drew ?_|refine blk_alloc ?_ _));refine blk_put (cs:=#[.int .i64 t494,.int .i64 0]) ?_ 1 _ rfl;(with_reducible repeat (first|refine blk_drewN ?_ _|refine blk_drew ?_|refine blk_alloc ?_ _));refine blk_put (cs:=#[.int .i64 0,.int .i64 0]) ?_ 0 _ rfl;(with_reducible repeat (first|refine blk_drewN ?_ _|refine blk_drew ?_|refine blk_alloc ?_ _));exact BK493.out) Try.underlying75 rfl (by kernel_rfl)) rfl ?_
 exact⟨Hd.e_,z7_ NB0_493,z9_ GE493,z4_ GW493⟩
def spec_l6Draw.l0:Nat→List (S75)→Int→List Int→Int→Int→Option ((List (S75)) × Int × Int)
 | 0,_,_,_,_,_=>none
 | k+1,x3,x4,x1000,x1001,x1002=>if x4>0 then (if 0≤(wrap64 ((x3.length:Int)-1)) then (if (wrap64 ((x3.length:Int)-1))<(x3.length:Int) then ((spec_l1Below.f x1000 x1001 x1002 14).bind fun bt512=>((spec_l1Below.f x1000 bt512.2.1 bt512.2.2 4).bind fun bt515=>((spec_Min.f 200 (wrap64 (((rd_T75 x3 (wrap64 ((x3.length:Int)-1))).f1)+bt515.1))).bind fun t518=>(if (bt512.1==((rd_T75 x3 (wrap64 ((x3.length:Int)-1))).f0)&&(t518==((rd_T75 x3 (wrap64 ((x3.length:Int)-1))).f1)))=true then (if x3.length<8796093022208 then (spec_l6Draw.l0 k (x3++[(⟨wrap64 (bt512.1+1),t518⟩:S75)]) (wrap64 (x4-1)) x1000 bt515.2.1 bt515.2.2) else (none)) else (if x3.length<8796093022208 then (spec_l6Draw.l0 k (x3++[(⟨bt512.1,t518⟩:S75)]) (wrap64 (x4-1)) x1000 bt515.2.1 bt515.2.2) else (none)))))) else (none)) else (none)) else (some (x3,x1001,x1002))
def spec_l6Draw.f (k:Nat) (s0_0:List Int) (s0_1:Int) (s0_2:Int):Option ((List (S75)) × Int × Int):=(spec_l4Draw.f s0_0 s0_1 s0_2).bind fun bt500=>((spec_l1Below.f s0_0 bt500.2.2.1 bt500.2.2.2 5).bind fun bt507=>(spec_l6Draw.l0 k (([(⟨bt500.1,bt500.2.1⟩:S75)]:List (S75))) (wrap64 (1+bt507.1)) s0_0 bt507.2.1 bt507.2.2))
def spec_l6Draw.T6:Bool × List (List Nat × List Nat):=(true,[([],[]),([0],[0]),([],[]),([2],[2]),([],[]),([4,1],[4]),([3,5],[3,5]),([6,5],[6]),([1,7],[1,7]),([],[]),([9,8,7,0,1,2,3,4,5,6,7,8,9],[8,9])])
def spec_l6Draw.B6:List Nat:=[0,1,0,4,0,19,63,127,255,0,1023]
theorem spec_l6Draw.tab6:rtab .any (opsOf Try.f86 6)=spec_l6Draw.T6:=by kernel_rfl
theorem spec_l6Draw.bits6:waitsOk spec_l6Draw.T6.2 spec_l6Draw.B6=true:=by kernel_rfl
theorem spec_l6Draw.calls (k:Nat) (g:Nat) (s0_0:List Int) (s0_1:Int) (s0_2:Int) (r1:List (S75)) (r2:Int) (r3:Int) (w0 w:World) (hI:IsS89 w0 w g s0_0 s0_1 s0_2) (hB:Below w0.heap.size w0 w) (h:spec_l6Draw.f k s0_0 s0_1 s0_2=some (r1,r2,r3)) :
  Calls Try.prog 86 #[.pointer (some ⟨g,0,none⟩)] w fun e w'=>∃ v0_:Value,e = .returned (v0_)∧Kd.R k75 75 w' w.heap.size (fun _=>True) v0_ r1∧IsS89 w0 w' g s0_0 r2 r3∧Below w0.heap.size w0 w'∧KeepBut w w' g none:=by
 have hu75:=Try.underlying75
 have HI0:=ak hI
 have HK:=z115_
 have HL:=ak hB.size
 clear hI
 have HW0:=ak hB.size
 have HB:=ak hB
 clear hB
 have H:=h;clear h;unfold spec_l6Draw.f at H
 replace H:=Hd.bd_ H;obtain⟨⟨t500,t501,t502,t503⟩,A2,H⟩:=H;dsimp only at H
 generalize hy504:(([(⟨t500,t501⟩:S75)]:List (S75)))=y504 at H;have Ny504:=ak hy504.symm;clear hy504;try rw [Option.bind_some] at H
 replace H:=Hd.bd_ H;obtain⟨⟨t507,t508,t509⟩,A3,H⟩:=H;dsimp only at H
 have H':=ak H
 clear H
 go_enter Try.func86,Try.ntmps86
 go_wp2_with (first|((with_reducible refine gate_callee (f:=102) rfl ?_);refine Hd.gl_ 8 Try.func102 #[.pointer (some ⟨g,0,none⟩)] ?_;(with_reducible refine(spec_l4Draw.calls g s0_0 s0_1 s0_2 t500 t501 t502 t503 w0 _ ?side1 ?side2 A2.out).mono ?_);(case side1=>exact z1_);(case side2=>exact z2_);rintro e w4 ⟨rfl,hi,hb,hk⟩;refine⟨_,rfl,?_⟩;replace HK:=z218_;replace HB:=ak (hb);replace HI0:=ak (hi);clear hb hk hi)|((with_reducible refine gate_dst (N:=9) rfl ?_);refine Kd.R_lit k75 _ 75 ?hg (N:=9) ?hd (xs:=([(⟨t500,t501⟩:S75)]:List (S75))) (inner:=[.int .i64 t500,.int .i64 t501]) (ok:=fun _=>True) (okp:=fun _=>True) ?hr ?hp (fun _ hk=>hk) trivial (Below.refl _ _) (Nat.le_refl _) (by simp) ?_;(case hd=>rfl);(case hg=>rfl);(case hr=>exact z39_);(case hp=>exact(Reps.c2 (show Kd.M k75 _ _ _ (⟨t500,t501⟩:S75) [.int .i64 t500,.int .i64 t501] from (k75_mkM _ _ _ (⟨t500,t501⟩:S75) )) (Reps.none _ _)));intro v505 w5 ho6 hb hg_ hnew_;clear hg_ hnew_;(first|rw [← Ny504.out] at ho6|(simp only[Int.reduceToNat] at ho6;rw [← Ny504.out] at ho6));have HO506:=ak (Kd.R_lower ho6 (keep_size (w:=w) (g:=g) (row:=none) z0_));replace HK:=z217_;replace HB:=z225_;replace HI0:=z224_;clear hb ho6)|((with_reducible refine gate_callee (f:=49) rfl ?_);refine Hd.gl_ 11 Try.func49 #[.pointer (some ⟨g,0,none⟩),.int .i64 5] ?_;(with_reducible refine(spec_l1Below.calls g s0_0 t502 t503 5 t507 t508 t509 w0 _ ?side1 ?side2 A3.out).mono ?_);(case side1=>exact z1_);(case side2=>exact z2_);rintro e w7 ⟨rfl,hi,hb,hk⟩;refine⟨_,rfl,?_⟩;replace HO506:=ak (Kd.R_mono (Kd.R_keep (IsS89.apart (show IsS89 w0 _ g s0_0 t502 t503 from by repeat (first|(with_reducible first|exact HI0.out|apply IsS89.alloc|apply IsS89.drewN|apply IsS89.drew|apply IsS89.set_1|apply IsS89.set_2)|exact HI0.out)) (Hd.r_ HO506) (by decide)) hk (fun _ h=>h.2)) (fun _ h=>h.1));replace HK:=z218_;replace HB:=ak (hb);replace HI0:=ak (hi);clear hb hk hi))
 go_loopg [3,4] k (fun kq v3 v4 w'=>∃ (x3_1:List (S75)) (x4_1:Int) (x1001_1:Int) (x1002_1:Int),v4 = .int .i64 x4_1∧Aside0 (spec_l6Draw.l0 kq x3_1 x4_1 s0_0 x1001_1 x1002_1=some (r1,r2,r3))∧Aside0 (kq≤k)∧Aside0 (Kd.R k75 75 w' w.heap.size (fun _=>True) v3 x3_1)∧Aside0 (IsS89 w0 w' g s0_0 x1001_1 x1002_1)∧Aside0 (KeepBut w w' g none)∧Aside0 (Below w0.heap.size w0 w'))
 case atStart=>exact⟨(y504),(wrap64 (1+t507)),(t508),(t509),z14_,H',⟨Nat.le_refl _⟩,⟨z12_ HO506⟩,⟨z1_⟩,⟨z0_⟩,⟨z2_⟩⟩
 case round =>
  clear H'
  try clear c2
  obtain⟨x3_1,x4_1,x1001_1,x1002_1,rfl,HA,HK1,HO_3,HI0,HK,HB⟩:=hrel
  cases gk with
  | zero=>exact absurd HA.out (by simp [spec_l6Draw.l0])
  | succ k1 =>
   have H:=HA.out
   clear HA
   simp only[spec_l6Draw.l0] at H
   by_cases c8:x4_1>0;rotate_left
   ·
    rw [if_neg c8] at H
    have c8b0:decide (0<x4_1)=false:=decide_eq_false c8
    clear c8
    simp only[Option.some.injEq,Prod.mk.injEq] at H
    obtain⟨rfl,rfl,rfl⟩:=H
    go_wp2
    go_ret
    exact⟨_,Hd.e_,z12_ HO_3,z1_,z2_,z0_⟩
   rw [if_pos c8] at H
   have c8b0:decide (0<x4_1)=true:=decide_eq_true c8
   clear c8
   obtain⟨ji9,hji9⟩:∃ j_:Int,(wrap64 ((x3_1.length:Int)-1))=j_:=⟨_,rfl⟩
   replace H:(if 0≤(ji9) then (if (ji9)<(x3_1.length:Int) then ((spec_l1Below.f s0_0 x1001_1 x1002_1 14).bind fun bt512=>((spec_l1Below.f s0_0 bt512.2.1 bt512.2.2 4).bind fun bt515=>((spec_Min.f 200 (wrap64 (((rd_T75 x3_1 (ji9)).f1)+bt515.1))).bind fun t518=>(if (bt512.1==((rd_T75 x3_1 (ji9)).f0)&&(t518==((rd_T75 x3_1 (ji9)).f1)))=true then (if x3_1.length<8796093022208 then (spec_l6Draw.l0 k1 (x3_1++[(⟨wrap64 (bt512.1+1),t518⟩:S75)]) (wrap64 (x4_1-1)) s0_0 bt515.2.1 bt515.2.2) else (none)) else (if x3_1.length<8796093022208 then (spec_l6Draw.l0 k1 (x3_1++[(⟨bt512.1,t518⟩:S75)]) (wrap64 (x4_1-1)) s0_0 bt515.2.1 bt515.2.2) else (none)))))) else (none)) else (none))=some (r1,r2,r3):=by first|(rw [hji9] at H;exact H)|(simp only[hji9] at H ⊢;exact H)
   have hji9w:(IntKind.i64.wrap ((x3_1.length:Int)-1))=ji9:=(i64_w _).trans hji9
   by_cases c10:0≤(ji9);rotate_left
   ·
    rw [if_neg c10] at H
    exact absurd H (by simp)
   rw [if_pos c10] at H
   have c10b0:=z212_
   clear c10
   by_cases c11:(ji9)<(x3_1.length:Int);rotate_left
   ·
    rw [if_neg c11] at H
    exact absurd H (by simp)
   rw [if_pos c11] at H
   have c11b0:=decide_eq_true c11
   clear c11
   replace H:=Hd.bd_ H;obtain⟨⟨t512,t513,t514⟩,A12,H⟩:=H;dsimp only at H
   replace H:=Hd.bd_ H;obtain⟨⟨t515,t516,t517⟩,A13,H⟩:=H;dsimp only at H
   replace H:=Hd.bd_ H;obtain⟨t518,A14,H⟩:=H
   by_cases c15:(t512==((rd_T75 x3_1 (ji9)).f0)&&(t518==((rd_T75 x3_1 (ji9)).f1)))=true
   ·
    rw [if_pos c15] at H
    have c15b0:(t512==((rd_T75 x3_1 (ji9)).f0)&&(t518==((rd_T75 x3_1 (ji9)).f1)))=true:=c15
    (try (have c15b1:decide (t512=((rd_T75 x3_1 (ji9)).f0)&&(t518==((rd_T75 x3_1 (ji9)).f1)))=true:=by simpa using c15))
    (try (have c15b2:(t512==((rd_T75 x3_1 (ji9)).f0)&&(t518==((rd_T75 x3_1 (ji9)).f1)))=true:=by simpa using c15))
    clear c15
    by_cases c16:x3_1.length<8796093022208;rotate_left
    ·
     rw [if_neg c16] at H
     exact absurd H (by simp)
    rw [if_pos c16] at H
    have LMc16:=ak c16
    clear c16
    generalize hy520:(x3_1++[(⟨wrap64 (t512+1),t518⟩:S75)])=y520 at H;have Ny520:=ak hy520.symm;clear hy520;try rw [Option.bind_some] at H
    have H':=ak H
    clear H
    obtain⟨Ao17,co17,eo17⟩:=Kd.R_slice HO_3.out
    subst eo17
    have p510:0≤((ji9):Int):=od_
    have q510:(ji9)<(x3_1.length:Int):=od_
    obtain⟨ad510,e510,hx510_0,hx510_1⟩:=at_T75 (Kd.R_reads' HO_3.out).2.2 (ji9) p510 q510
    cases e510
    replace p510:=eq_true p510
    replace q510:=eq_true q510
    try go_wp2_with (first|((with_reducible refine gate_dst (N:=5) rfl ?_);refine Hd.box_ 5 (#[.int .i64 0,.int .i64 0]) 75 ?_;intro gb511 hg w18 hbox hb;replace HO_3:=ak (Kd.R_below (Kd.R_elderB (Hd.r_ HO_3) gb511 (Nat.le_of_eq hg.symm)) hb);replace HB:=z225_;have BK511:=ak (hbox);have GW511:=ak ((z221_:w.heap.size≤gb511));have GE511:=ak ((Nat.le_trans HW0.out (z221_:w.heap.size≤gb511):w0.heap.size≤gb511));replace HK:=z217_;have NB0_511:=z119_;have NB511_0:=z120_;replace HI0:=z224_;clear hb hbox hg;have hnb19:=NB511_0.out;have hnc19:=NB0_511.out;obtain⟨hcz20_0,hcz20_1⟩:=Hd.c2_ BK511.out;obtain⟨hfz20_0,hfz20_1⟩:=Hd.f2_ BK511.out))
    have n0_:Aside0 (Kd.R k75 75 ((w18.setCell ⟨gb511,0,none⟩ (.int .i64 ((rd_T75 x3_1 (ji9)).f0))).setCell ⟨gb511,1,none⟩ (.int .i64 ((rd_T75 x3_1 (ji9)).f1))) w.heap.size (fun k_=>k_≠gb511) (.slice (some ad510) x3_1.length co17) x3_1):=⟨z117_ HO_3⟩
    have n1_:Aside0 (((w18.setCell ⟨gb511,0,none⟩ (.int .i64 ((rd_T75 x3_1 (ji9)).f0))).setCell ⟨gb511,1,none⟩ (.int .i64 ((rd_T75 x3_1 (ji9)).f1))).heap[gb511]?=some (.cells #[.int .i64 ((rd_T75 x3_1 (ji9)).f0),.int .i64 ((rd_T75 x3_1 (ji9)).f1)] 75 (0,0))):=⟨z98_ BK511⟩
    have n2_:Aside0 (IsS89 w0 ((w18.setCell ⟨gb511,0,none⟩ (.int .i64 ((rd_T75 x3_1 (ji9)).f0))).setCell ⟨gb511,1,none⟩ (.int .i64 ((rd_T75 x3_1 (ji9)).f1))) g s0_0 x1001_1 x1002_1):=⟨z7_ NB0_511⟩
    have n3_:Aside0 (KeepBut w ((w18.setCell ⟨gb511,0,none⟩ (.int .i64 ((rd_T75 x3_1 (ji9)).f0))).setCell ⟨gb511,1,none⟩ (.int .i64 ((rd_T75 x3_1 (ji9)).f1))) g none):=⟨z4_ GW511⟩
    have n4_:Aside0 (Below w0.heap.size w0 ((w18.setCell ⟨gb511,0,none⟩ (.int .i64 ((rd_T75 x3_1 (ji9)).f0))).setCell ⟨gb511,1,none⟩ (.int .i64 ((rd_T75 x3_1 (ji9)).f1)))):=⟨z9_ GE511⟩
    try clear HO_3;try clear BK511;try clear HI0;try clear HK;try clear HB
    generalize ((w18.setCell ⟨gb511,0,none⟩ (.int .i64 ((rd_T75 x3_1 (ji9)).f0))).setCell ⟨gb511,1,none⟩ (.int .i64 ((rd_T75 x3_1 (ji9)).f1)))=w21 at n0_ n1_ n2_ n3_ n4_ ⊢
    have HO_3:=n0_
    have BK511:=n1_
    have HI0:=n2_
    have HK:=n3_
    have HB:=n4_
    clear n0_ n1_ n2_ n3_ n4_
    replace HO_3:=z97_ HO_3
    replace BK511:=z65_ BK511
    replace HI0:=ak (IsS89.drew HI0.out)
    replace HK:=ak (keep_drew HK.out)
    replace HB:=z42_
    refine start_ (n:=11) (S:=fun w'=>w'.cell? ⟨gb511,0,none⟩=some (.int .i64 ((rd_T75 x3_1 (ji9)).f0))∧w'.cell? ⟨gb511,1,none⟩=some (.int .i64 ((rd_T75 x3_1 (ji9)).f1))) (ds:=[]) #[Z,Z,Z,Z,Z,Z,Z,Z,Z,Z,Z] (by kernel_rfl) rfl rfl ⟨(blk_cell BK511.out 0).trans rfl,(blk_cell BK511.out 1).trans rfl⟩ (fun hHeld=>?_);refine with_tabW spec_l6Draw.tab6 spec_l6Draw.bits6 (fun HT_ HW_=>?_)
    generalize w21.drew=w22 at HO_3 BK511 HI0 HK HB hHeld ⊢
    refine Hd.p_ HT_ 0 (some 23) #[Y,Z,Z,Z,Z,Z,Z,Z,Z,Z,Z] ?_
    refine Hd.p_ HT_ 2 (some 25) #[Y,Z,Y,Z,Z,Z,Z,Z,Z,Z,Z] ?_
    refine Hd.p_ HT_ 4 (some 27) #[Y,Z,Y,Z,Y,Z,Z,Z,Z,Z,Z] ?_
    refine Hd.t_ HT_ HW_ hHeld 3 (some 26) #[Y,Z,Y,Y,Y,Z,Z,Z,Z,Z,Z] ?_
    refine join_ (σ:=Nat) 1 #[true,true,true,true,true,true,true,true,true,true,false] (fun s_=>[(24,.int .i64 t512),(28,.int .i64 t515),(30,.int .i64 t518),(6,.pointer (some ⟨s_,0,none⟩)),(29,.int .i64 (wrap64 (((rd_T75 x3_1 (ji9)).f1)+t515))),(31,.agg #[.int .i64 t512,.int .i64 t518])]) (fun s_ w'=>(w'.cell? ⟨gb511,0,none⟩=some (.int .i64 ((rd_T75 x3_1 (ji9)).f0))∧w'.cell? ⟨gb511,1,none⟩=some (.int .i64 ((rd_T75 x3_1 (ji9)).f1)))∧(Kd.R k75 75 w' w.heap.size (fun k_=>k_≠gb511∧k_≠s_) (.slice (some ad510) x3_1.length co17) x3_1)∧(w'.heap[gb511]?=some (.cells #[.int .i64 ((rd_T75 x3_1 (ji9)).f0),.int .i64 ((rd_T75 x3_1 (ji9)).f1)] 75 (0,0)))∧(w'.heap[s_]?=some (.cells #[.int .i64 0,.int .i64 0] 75 (0,0)))∧(w.heap.size≤s_)∧(w0.heap.size≤s_)∧(g≠s_)∧(s_≠g)∧(gb511≠s_)∧(s_≠gb511)∧(IsS89 w0 w' g s0_0 t516 t517)∧(KeepBut w w' g none)∧(Below w0.heap.size w0 w')) ?_ ?_
    rotate_left
    ·
     intro hCont
     refine two_ (i:=1) (j:=9) (Ni:=some 24) (Nj:=some 6) #[Y,Y,Y,Y,Y,Z,Z,Z,Z,Z,Z] #[Y,Z,Y,Y,Y,Z,Z,Z,Z,Y,Z] rfl rfl rfl rfl (two_of HT_.out (by kernel_rfl)) (by decide) (by decide) (fun K hK=>?_) (fun K hK=>?_)
     ·
      skip
      refine goes_ Try.func49 (by kernel_rfl) rfl #[.pointer (some ⟨g,0,none⟩),.int .i64 14] (by rfl) rfl rfl Hd.m_ ?_
      with_reducible refine(spec_l1Below.calls g s0_0 x1001_1 x1002_1 14 t512 t513 t514 w0 _ ?side1 ?side2 A12.out).mono ?_
      (case side1=>exact z7_ NB0_511)
      (case side2=>exact z9_ GE511)
      rintro e w23 ⟨rfl,hi,hb,hk⟩
      refine⟨_,rfl,?_⟩
      replace HO_3:=ak (Kd.R_mono (Kd.R_keep (IsS89.apart (show IsS89 w0 _ g s0_0 x1001_1 x1002_1 from by repeat (first|(with_reducible first|exact HI0.out|apply IsS89.alloc|apply IsS89.drewN|apply IsS89.drew|apply IsS89.set_1|apply IsS89.set_2|refine IsS89.far ?_ NB0_511.out _)|exact HI0.out)) (Hd.r_ HO_3) (by decide)) hk (fun _ h=>h.2)) (fun _ h=>h.1))
      replace BK511:=z43_ NB511_0
      replace HK:=z284_
      replace HB:=ak (hb)
      replace HI0:=ak (hi)
      try clear hb;try clear hk;try clear hi
      refine hK.out _ _ ⟨(blk_cell BK511.out 0).trans rfl,(blk_cell BK511.out 1).trans rfl⟩ (fun hHeld=>?_)
      clear hK K
      refine Hd.n_ (some 24) ?_
      refine two_ (i:=5) (j:=9) (Ni:=some 28) (Nj:=some 6) #[Y,Y,Y,Y,Y,Y,Z,Z,Z,Z,Z] #[Y,Y,Y,Y,Y,Z,Z,Z,Z,Y,Z] rfl rfl rfl rfl (two_of HT_.out (by kernel_rfl)) (by decide) (by decide) (fun K hK=>?_) (fun K hK=>?_)
      ·
       skip
       refine goes_ Try.func49 (by kernel_rfl) rfl #[.pointer (some ⟨g,0,none⟩),.int .i64 4] (by rfl) rfl rfl Hd.m_ ?_
       with_reducible refine(spec_l1Below.calls g s0_0 t513 t514 4 t515 t516 t517 w0 _ ?side1 ?side2 A13.out).mono ?_
       (case side1=>exact z7_ NB0_511)
       (case side2=>exact z9_ GE511)
       rintro e w24 ⟨rfl,hi,hb,hk⟩
       refine⟨_,rfl,?_⟩
       replace HO_3:=ak (Kd.R_mono (Kd.R_keep (IsS89.apart (show IsS89 w0 _ g s0_0 t513 t514 from by repeat (first|(with_reducible first|exact HI0.out|apply IsS89.alloc|apply IsS89.drewN|apply IsS89.drew|apply IsS89.set_1|apply IsS89.set_2|refine IsS89.far ?_ NB0_511.out _)|exact HI0.out)) (Hd.r_ HO_3) (by decide)) hk (fun _ h=>h.2)) (fun _ h=>h.1))
       replace BK511:=z43_ NB511_0
       replace HK:=z284_
       replace HB:=ak (hb)
       replace HI0:=ak (hi)
       try clear hb;try clear hk;try clear hi
       refine hK.out _ _ ⟨(blk_cell BK511.out 0).trans rfl,(blk_cell BK511.out 1).trans rfl⟩ (fun hHeld=>?_)
       clear hK K
       refine Hd.n_ (some 28) ?_
       refine Hd.p_ HT_ 6 (some 29) #[Y,Y,Y,Y,Y,Y,Y,Z,Z,Z,Z] ?_
       refine two_ (i:=7) (j:=9) (Ni:=some 30) (Nj:=some 6) #[Y,Y,Y,Y,Y,Y,Y,Y,Z,Z,Z] #[Y,Y,Y,Y,Y,Y,Y,Z,Z,Y,Z] rfl rfl rfl rfl (two_of HT_.out (by kernel_rfl)) (by decide) (by decide) (fun K hK=>?_) (fun K hK=>?_)
       ·
        skip
        refine goes_ Try.func104 (by kernel_rfl) rfl #[.int .i64 200,.int .i64 (wrap64 (((rd_T75 x3_1 (ji9)).f1)+t515))] (by rfl) rfl rfl z50_ ?_
        with_reducible refine(spec_Min.calls 200 (wrap64 (((rd_T75 x3_1 (ji9)).f1)+t515)) t518 _ A14.out).mono ?_
        rintro e w' ⟨rfl,⟨nd,rfl⟩⟩
        refine⟨_,rfl,?_⟩
        replace HO_3:=ak (Kd.R_drewN HO_3.out nd)
        replace BK511:=ak (blk_drewN BK511.out nd)
        replace HB:=z158_
        generalize w22.drewN nd=w22 at HO_3 BK511 HB ⊢
        refine hK.out _ _ ⟨(blk_cell BK511.out 0).trans rfl,(blk_cell BK511.out 1).trans rfl⟩ (fun hHeld=>?_)
        clear hK K
        refine Hd.n_ (some 30) ?_
        refine Hd.p_ HT_ 8 (some 31) #[Y,Y,Y,Y,Y,Y,Y,Y,Y,Z,Z] ?_
        refine Hd.o_ HT_ 9 (some 6) #[Y,Y,Y,Y,Y,Y,Y,Y,Y,Y,Z] (fun K hK=>?_)
        refine box_step ?hg (N:=6) ?hd (cs:=#[.int .i64 0,.int .i64 0]) (t:=75) ?hr ?_;(case hd=>rfl);(case hg=>rfl);(case hr=>exact z39_)
        intro gb519 hg w25 hbox hb
        replace HO_3:=z92_
        replace HB:=z267_
        have BK519:=ak (hbox)
        have GW519:=z287_
        have GE519:=z222_
        replace HK:=z230_
        have NB511_519:=z195_
        have NB519_511:=z196_
        replace BK511:=z210_
        have NB0_519:=ak ((z66_ NB0_511:g≠gb519))
        have NB519_0:=ak ((z67_ NB0_511:gb519≠g))
        replace HI0:=z260_
        clear hb hbox hg
        refine hK.out _ _ ⟨(blk_cell BK511.out 0).trans rfl,(blk_cell BK511.out 1).trans rfl⟩ (fun hHeld=>?_)
        clear hK K
        refine Hd.n_ (some 6) ?_
        exact norm_ z64_ (hCont (gb519) _ ⟨hHeld,(Hd.r_ HO_3),(Hd.k_ BK511),(Hd.k_ BK519),GW519.out,GE519.out,NB0_519.out,NB519_0.out,NB511_519.out,NB519_511.out,(z10_ NB0_511 NB0_519),(z8_ GW511 GW519),(z11_ GE511 GE519)⟩)
       ·
        skip
        refine box_step ?hg (N:=6) ?hd (cs:=#[.int .i64 0,.int .i64 0]) (t:=75) ?hr ?_;(case hd=>rfl);(case hg=>rfl);(case hr=>exact z39_)
        intro gb519 hg w25 hbox hb
        replace HO_3:=z92_
        replace HB:=z267_
        have BK519:=ak (hbox)
        have GW519:=z287_
        have GE519:=z222_
        replace HK:=z230_
        have NB511_519:=z195_
        have NB519_511:=z196_
        replace BK511:=z210_
        have NB0_519:=ak ((z66_ NB0_511:g≠gb519))
        have NB519_0:=ak ((z67_ NB0_511:gb519≠g))
        replace HI0:=z260_
        clear hb hbox hg
        refine hK.out _ _ ⟨(blk_cell BK511.out 0).trans rfl,(blk_cell BK511.out 1).trans rfl⟩ (fun hHeld=>?_)
        clear hK K
        refine Hd.n_ (some 6) ?_
        refine Hd.o_ HT_ 7 (some 30) #[Y,Y,Y,Y,Y,Y,Y,Y,Z,Y,Z] (fun K hK=>?_)
        refine goes_ Try.func104 (by kernel_rfl) rfl #[.int .i64 200,.int .i64 (wrap64 (((rd_T75 x3_1 (ji9)).f1)+t515))] (by rfl) rfl rfl z50_ ?_
        with_reducible refine(spec_Min.calls 200 (wrap64 (((rd_T75 x3_1 (ji9)).f1)+t515)) t518 _ A14.out).mono ?_
        rintro e w' ⟨rfl,⟨nd,rfl⟩⟩
        refine⟨_,rfl,?_⟩
        replace HO_3:=ak (Kd.R_drewN HO_3.out nd)
        replace BK511:=ak (blk_drewN BK511.out nd)
        replace HB:=z158_
        generalize w22.drewN nd=w22 at HO_3 BK511 HB ⊢
        refine hK.out _ _ ⟨(blk_cell BK511.out 0).trans rfl,(blk_cell BK511.out 1).trans rfl⟩ (fun hHeld=>?_)
        clear hK K
        refine Hd.n_ (some 30) ?_
        refine Hd.p_ HT_ 8 (some 31) #[Y,Y,Y,Y,Y,Y,Y,Y,Y,Y,Z] ?_
        exact norm_ z64_ (hCont (gb519) _ ⟨hHeld,(Hd.r_ HO_3),(Hd.k_ BK511),(Hd.k_ BK519),GW519.out,GE519.out,NB0_519.out,NB519_0.out,NB511_519.out,NB519_511.out,(z10_ NB0_511 NB0_519),(z8_ GW511 GW519),(z11_ GE511 GE519)⟩)
      ·
       skip
       refine box_step ?hg (N:=6) ?hd (cs:=#[.int .i64 0,.int .i64 0]) (t:=75) ?hr ?_;(case hd=>rfl);(case hg=>rfl);(case hr=>exact z39_)
       intro gb519 hg w24 hbox hb
       replace HO_3:=z92_
       replace HB:=z267_
       have BK519:=ak (hbox)
       have GW519:=z287_
       have GE519:=z222_
       replace HK:=z230_
       have NB511_519:=z195_
       have NB519_511:=z196_
       replace BK511:=z210_
       have NB0_519:=ak ((z128_ NB0_511:g≠gb519))
       have NB519_0:=ak ((z129_ NB0_511:gb519≠g))
       replace HI0:=z260_
       clear hb hbox hg
       refine hK.out _ _ ⟨(blk_cell BK511.out 0).trans rfl,(blk_cell BK511.out 1).trans rfl⟩ (fun hHeld=>?_)
       clear hK K
       refine Hd.n_ (some 6) ?_
       refine Hd.o_ HT_ 5 (some 28) #[Y,Y,Y,Y,Y,Y,Z,Z,Z,Y,Z] (fun K hK=>?_)
       refine goes_ Try.func49 (by kernel_rfl) rfl #[.pointer (some ⟨g,0,none⟩),.int .i64 4] (by rfl) rfl rfl Hd.m_ ?_
       with_reducible refine(spec_l1Below.calls g s0_0 t513 t514 4 t515 t516 t517 w0 _ ?side1 ?side2 A13.out).mono ?_
       (case side1=>exact z10_ NB0_511 NB0_519)
       (case side2=>exact z11_ GE511 GE519)
       rintro e w25 ⟨rfl,hi,hb,hk⟩
       refine⟨_,rfl,?_⟩
       replace HO_3:=ak (Kd.R_mono (Kd.R_keep (IsS89.apart (show IsS89 w0 _ g s0_0 t513 t514 from by repeat (first|(with_reducible first|exact HI0.out|apply IsS89.alloc|apply IsS89.drewN|apply IsS89.drew|apply IsS89.set_1|apply IsS89.set_2|refine IsS89.far ?_ NB0_511.out _|refine IsS89.far ?_ NB0_519.out _)|exact HI0.out)) (Hd.r_ HO_3) (by decide)) hk (fun _ h=>h.2)) (fun _ h=>h.1))
       replace BK511:=z43_ NB511_0
       replace BK519:=z93_ NB519_0
       replace HK:=z254_
       replace HB:=ak (hb)
       replace HI0:=ak (hi)
       try clear hb;try clear hk;try clear hi
       refine hK.out _ _ ⟨(blk_cell BK511.out 0).trans rfl,(blk_cell BK511.out 1).trans rfl⟩ (fun hHeld=>?_)
       clear hK K
       refine Hd.n_ (some 28) ?_
       refine Hd.p_ HT_ 6 (some 29) #[Y,Y,Y,Y,Y,Y,Y,Z,Z,Y,Z] ?_
       refine Hd.o_ HT_ 7 (some 30) #[Y,Y,Y,Y,Y,Y,Y,Y,Z,Y,Z] (fun K hK=>?_)
       refine goes_ Try.func104 (by kernel_rfl) rfl #[.int .i64 200,.int .i64 (wrap64 (((rd_T75 x3_1 (ji9)).f1)+t515))] (by rfl) rfl rfl z50_ ?_
       with_reducible refine(spec_Min.calls 200 (wrap64 (((rd_T75 x3_1 (ji9)).f1)+t515)) t518 _ A14.out).mono ?_
       rintro e w' ⟨rfl,⟨nd,rfl⟩⟩
       refine⟨_,rfl,?_⟩
       replace HO_3:=ak (Kd.R_drewN HO_3.out nd)
       replace BK511:=ak (blk_drewN BK511.out nd)
       replace HB:=z158_
       generalize w22.drewN nd=w22 at HO_3 BK511 HB ⊢
       refine hK.out _ _ ⟨(blk_cell BK511.out 0).trans rfl,(blk_cell BK511.out 1).trans rfl⟩ (fun hHeld=>?_)
       clear hK K
       refine Hd.n_ (some 30) ?_
       refine Hd.p_ HT_ 8 (some 31) #[Y,Y,Y,Y,Y,Y,Y,Y,Y,Y,Z] ?_
       exact norm_ z64_ (hCont (gb519) _ ⟨hHeld,(Hd.r_ HO_3),(Hd.k_ BK511),(Hd.k_ BK519),GW519.out,GE519.out,NB0_519.out,NB519_0.out,NB511_519.out,NB519_511.out,(z10_ NB0_511 NB0_519),(z8_ GW511 GW519),(z11_ GE511 GE519)⟩)
     ·
      skip
      refine box_step ?hg (N:=6) ?hd (cs:=#[.int .i64 0,.int .i64 0]) (t:=75) ?hr ?_;(case hd=>rfl);(case hg=>rfl);(case hr=>exact z39_)
      intro gb519 hg w23 hbox hb
      replace HO_3:=z92_
      replace HB:=z267_
      have BK519:=ak (hbox)
      have GW519:=z287_
      have GE519:=z222_
      replace HK:=z230_
      have NB511_519:=z195_
      have NB519_511:=z196_
      replace BK511:=z210_
      have NB0_519:=ak ((z124_ NB0_511:g≠gb519))
      have NB519_0:=ak ((z125_ NB0_511:gb519≠g))
      replace HI0:=z260_
      clear hb hbox hg
      refine hK.out _ _ ⟨(blk_cell BK511.out 0).trans rfl,(blk_cell BK511.out 1).trans rfl⟩ (fun hHeld=>?_)
      clear hK K
      refine Hd.n_ (some 6) ?_
      refine Hd.o_ HT_ 1 (some 24) #[Y,Y,Y,Y,Y,Z,Z,Z,Z,Y,Z] (fun K hK=>?_)
      refine goes_ Try.func49 (by kernel_rfl) rfl #[.pointer (some ⟨g,0,none⟩),.int .i64 14] (by rfl) rfl rfl Hd.m_ ?_
      with_reducible refine(spec_l1Below.calls g s0_0 x1001_1 x1002_1 14 t512 t513 t514 w0 _ ?side1 ?side2 A12.out).mono ?_
      (case side1=>exact z10_ NB0_511 NB0_519)
      (case side2=>exact z11_ GE511 GE519)
      rintro e w24 ⟨rfl,hi,hb,hk⟩
      refine⟨_,rfl,?_⟩
      replace HO_3:=ak (Kd.R_mono (Kd.R_keep (IsS89.apart (show IsS89 w0 _ g s0_0 x1001_1 x1002_1 from by repeat (first|(with_reducible first|exact HI0.out|apply IsS89.alloc|apply IsS89.drewN|apply IsS89.drew|apply IsS89.set_1|apply IsS89.set_2|refine IsS89.far ?_ NB0_511.out _|refine IsS89.far ?_ NB0_519.out _)|exact HI0.out)) (Hd.r_ HO_3) (by decide)) hk (fun _ h=>h.2)) (fun _ h=>h.1))
      replace BK511:=z43_ NB511_0
      replace BK519:=z93_ NB519_0
      replace HK:=z254_
      replace HB:=ak (hb)
      replace HI0:=ak (hi)
      try clear hb;try clear hk;try clear hi
      refine hK.out _ _ ⟨(blk_cell BK511.out 0).trans rfl,(blk_cell BK511.out 1).trans rfl⟩ (fun hHeld=>?_)
      clear hK K
      refine Hd.n_ (some 24) ?_
      refine Hd.o_ HT_ 5 (some 28) #[Y,Y,Y,Y,Y,Y,Z,Z,Z,Y,Z] (fun K hK=>?_)
      refine goes_ Try.func49 (by kernel_rfl) rfl #[.pointer (some ⟨g,0,none⟩),.int .i64 4] (by rfl) rfl rfl Hd.m_ ?_
      with_reducible refine(spec_l1Below.calls g s0_0 t513 t514 4 t515 t516 t517 w0 _ ?side1 ?side2 A13.out).mono ?_
      (case side1=>exact z10_ NB0_511 NB0_519)
      (case side2=>exact z11_ GE511 GE519)
      rintro e w25 ⟨rfl,hi,hb,hk⟩
      refine⟨_,rfl,?_⟩
      replace HO_3:=ak (Kd.R_mono (Kd.R_keep (IsS89.apart (show IsS89 w0 _ g s0_0 t513 t514 from by repeat (first|(with_reducible first|exact HI0.out|apply IsS89.alloc|apply IsS89.drewN|apply IsS89.drew|apply IsS89.set_1|apply IsS89.set_2|refine IsS89.far ?_ NB0_511.out _|refine IsS89.far ?_ NB0_519.out _)|exact HI0.out)) (Hd.r_ HO_3) (by decide)) hk (fun _ h=>h.2)) (fun _ h=>h.1))
      replace BK511:=z43_ NB511_0
      replace BK519:=z93_ NB519_0
      replace HK:=z254_
      replace HB:=ak (hb)
      replace HI0:=ak (hi)
      try clear hb;try clear hk;try clear hi
      refine hK.out _ _ ⟨(blk_cell BK511.out 0).trans rfl,(blk_cell BK511.out 1).trans rfl⟩ (fun hHeld=>?_)
      clear hK K
      refine Hd.n_ (some 28) ?_
      refine Hd.p_ HT_ 6 (some 29) #[Y,Y,Y,Y,Y,Y,Y,Z,Z,Y,Z] ?_
      refine Hd.o_ HT_ 7 (some 30) #[Y,Y,Y,Y,Y,Y,Y,Y,Z,Y,Z] (fun K hK=>?_)
      refine goes_ Try.func104 (by kernel_rfl) rfl #[.int .i64 200,.int .i64 (wrap64 (((rd_T75 x3_1 (ji9)).f1)+t515))] (by rfl) rfl rfl z50_ ?_
      with_reducible refine(spec_Min.calls 200 (wrap64 (((rd_T75 x3_1 (ji9)).f1)+t515)) t518 _ A14.out).mono ?_
      rintro e w' ⟨rfl,⟨nd,rfl⟩⟩
      refine⟨_,rfl,?_⟩
      replace HO_3:=ak (Kd.R_drewN HO_3.out nd)
      replace BK511:=ak (blk_drewN BK511.out nd)
      replace HB:=z158_
      generalize w22.drewN nd=w22 at HO_3 BK511 HB ⊢
      refine hK.out _ _ ⟨(blk_cell BK511.out 0).trans rfl,(blk_cell BK511.out 1).trans rfl⟩ (fun hHeld=>?_)
      clear hK K
      refine Hd.n_ (some 30) ?_
      refine Hd.p_ HT_ 8 (some 31) #[Y,Y,Y,Y,Y,Y,Y,Y,Y,Y,Z] ?_
      exact norm_ z64_ (hCont (gb519) _ ⟨hHeld,(Hd.r_ HO_3),(Hd.k_ BK511),(Hd.k_ BK519),GW519.out,GE519.out,NB0_519.out,NB519_0.out,NB511_519.out,NB519_511.out,(z10_ NB0_511 NB0_519),(z8_ GW511 GW519),(z11_ GE511 GE519)⟩)
    rintro gb519 w26 ⟨hS_,h0_,h1_,h2_,h3_,h4_,h5_,h6_,h7_,h8_,h9_,h10_,h11_⟩
    have n0_:Aside0 (Kd.R k75 75 w26 w.heap.size (fun k_=>k_≠gb511∧k_≠gb519) (.slice (some ad510) x3_1.length co17) x3_1):=⟨h0_⟩
    have n1_:Aside0 (w26.heap[gb511]?=some (.cells #[.int .i64 ((rd_T75 x3_1 (ji9)).f0),.int .i64 ((rd_T75 x3_1 (ji9)).f1)] 75 (0,0))):=⟨h1_⟩
    have n2_:Aside0 (w26.heap[gb519]?=some (.cells #[.int .i64 0,.int .i64 0] 75 (0,0))):=⟨h2_⟩
    have n3_:Aside0 (w.heap.size≤gb519):=⟨h3_⟩
    have n4_:Aside0 (w0.heap.size≤gb519):=⟨h4_⟩
    have n5_:Aside0 (g≠gb519):=⟨h5_⟩
    have n6_:Aside0 (gb519≠g):=⟨h6_⟩
    have n7_:Aside0 (gb511≠gb519):=⟨h7_⟩
    have n8_:Aside0 (gb519≠gb511):=⟨h8_⟩
    have n9_:Aside0 (IsS89 w0 w26 g s0_0 t516 t517):=⟨h9_⟩
    have n10_:Aside0 (KeepBut w w26 g none):=⟨h10_⟩
    have n11_:Aside0 (Below w0.heap.size w0 w26):=⟨h11_⟩
    clear HO_3
    clear BK511
    clear HI0
    clear HK
    clear HB
    clear h0_ h1_ h2_ h3_ h4_ h5_ h6_ h7_ h8_ h9_ h10_ h11_
    have HO_3:=n0_
    have BK511:=n1_
    have BK519:=n2_
    have GW519:=n3_
    have GE519:=n4_
    have NB0_519:=n5_
    have NB519_0:=n6_
    have NB511_519:=n7_
    have NB519_511:=n8_
    have HI0:=n9_
    have HK:=n10_
    have HB:=n11_
    clear n0_ n1_ n2_ n3_ n4_ n5_ n6_ n7_ n8_ n9_ n10_ n11_
    have hHeld:w26.cell? ⟨gb511,0,none⟩=some (.int .i64 ((rd_T75 x3_1 (ji9)).f0))∧w26.cell? ⟨gb511,1,none⟩=some (.int .i64 ((rd_T75 x3_1 (ji9)).f1)):=hS_
    refine norm_ (a':=?_) ?_ ?_
    rotate_left
    ·
     simp only[putAll,Act.put,List.setIfInBounds_toArray,List.set_cons_zero,List.set_cons_succ]
     rfl
    refine Hd.o_ HT_ 10 (none) #[Y,Y,Y,Y,Y,Y,Y,Y,Y,Y,Y] (fun K hK=>?_)
    have hs27:w26.cell? ⟨gb519,0,none⟩=some (.int .i64 0):=(blk_cell BK519.out 0).trans rfl
    have hfs27:=blk_frozen BK519.out 0
    have hns27_0:=NB511_519.out
    have hms27_0:=NB519_511.out
    have hs28:w26.cell? ⟨gb519,1,none⟩=some (.int .i64 0):=(blk_cell BK519.out 1).trans rfl
    have hfs28:=blk_frozen BK519.out 1
    have hns28_0:=NB511_519.out
    have hms28_0:=NB519_511.out
    refine skip_ (w1:=?_) (by rfl) rfl ?_ ?_
    rotate_left
    ·
     go_simp
     rfl
    refine hK.out _ _ ⟨((cell_far (p:=⟨gb519,_,none⟩) NB511_519.out _).trans (((cell_far (p:=⟨gb519,_,none⟩) NB511_519.out _).trans (hHeld.1)))),((cell_far (p:=⟨gb519,_,none⟩) NB511_519.out _).trans (((cell_far (p:=⟨gb519,_,none⟩) NB511_519.out _).trans (hHeld.2))))⟩ (fun hHeld=>?_)
    clear hK K
    refine done_ (done_of HT_.out (by kernel_rfl)) ?_
    have hnb29:=NB519_511.out
    have hnc29:=NB511_519.out
    have hnb30:=NB519_0.out
    have hnc30:=NB0_519.out
    obtain⟨hcz31_0,hcz31_1⟩:=Hd.c2_ BK519.out
    obtain⟨hfz31_0,hfz31_1⟩:=Hd.f2_ BK519.out
    obtain⟨hcz32_0,hcz32_1⟩:=Hd.c2_ BK511.out
    obtain⟨hfz32_0,hfz32_1⟩:=Hd.f2_ BK511.out
    try go_wp2_with (first|((with_reducible refine gate_builtin (b:=.append) (xs:=#[.tmp 39,.tmp 41]) rfl ?_);at_builtin;refine Kd.R_append k75 w.heap.size rfl (.tmp 39) (.tmp 41) 32 75 (.agg #[(.int .i64 0),(.int .i64 0)]) 16 rfl Try.underlying32 info75 rfl (by decide) (by omega) (.slice (some ad510) x3_1.length co17) x3_1 (⟨wrap64 (t512+1),t518⟩:S75) [.int .i64 (wrap64 (t512+1)),.int .i64 t518] (fun k_=>k_≠gb511∧k_≠gb519) (fun _=>False) rfl z39_ ?aP (fun _ hk=>hk.elim) ?aF ?aO (Below.refl _ _) ?aS ?aL ?_;(case aP=>exact k75_mkM _ _ _ (⟨wrap64 (t512+1),t518⟩:S75));(case aF=>exact(fun k_ hk=>⟨Kd.freshB (g:=gb511) (o:=.cells #[.int .i64 ((rd_T75 x3_1 (ji9)).f0),.int .i64 ((rd_T75 x3_1 (ji9)).f1)] 75 (0,0)) (z94_ NB511_519 BK511) k_ hk,Kd.freshB (g:=gb519) (o:=.cells #[.int .i64 (wrap64 (t512+1)),.int .i64 t518] 75 (0,0)) (z80_ BK519) k_ hk⟩));(case aO=>exact(by (with_reducible repeat (first|apply Kd.R_alloc|apply Kd.R_drewN|apply Kd.R_drew));exact Kd.R_mono (Kd.R_far (p:=⟨gb519,0,none⟩) (Kd.R_far (p:=⟨gb519,1,none⟩) (Kd.R_far (p:=⟨gb519,0,none⟩) (Kd.R_mono HO_3.out (fun k_ hk=>(⟨hk,hk.2⟩:_∧k_≠gb519))) (fun _ hk=>hk.2) (.int .i64 t512)) (fun _ hk=>hk.2) (.int .i64 t518)) (fun _ hk=>hk.2) (.int .i64 (wrap64 (t512+1)))) (fun _ hk=>⟨hk.1.1,hk.1.2⟩)));(case aS=>exact(keep_size (w:=w) (g:=g) (row:=none) (z8_ GW511 GW519)));(case aL=>have:=LMc16.out;omega);intro v521 w33 ho hb hg hat;rw [← Ny520.out] at ho;have n0_:=ak (IsS89.grown (Hd.as_ (fun W_=>IsS89 _ W_ _ _ _ _) HI0.out (z10_ NB0_511 NB0_519)) hg (IsS89.own_ne HI0.out HO_3.out (by decide)));have n1_:=ak (blk_grown (g:=gb511) (o:=.cells #[.int .i64 ((rd_T75 x3_1 (ji9)).f0),.int .i64 ((rd_T75 x3_1 (ji9)).f1)] 75 (0,0)) (z94_ NB511_519 BK511) hg (Kd.R_away HO_3.out (fun _ hk=>hk.1)));have n2_:=ak (blk_grown (g:=gb519) (o:=.cells #[.int .i64 (wrap64 (t512+1)),.int .i64 t518] 75 (0,0)) (z80_ BK519) hg (Kd.R_away HO_3.out (fun _ hk=>hk.2)));have n3_:=ak (below_weaken (z11_ GE511 GE519) HL.out hb);have n4_:=ak (KeepBut.trans (z8_ GW511 GW519) (KeepBut.of_grown hg g) (Kd.R_base2 HO_3.out));have n5_:=ak (ho);clear HI0;clear BK511;clear BK519;clear HB;clear HK;clear HO_3;have HI0:=n0_;have BK511:=n1_;have BK519:=n2_;have HB:=n3_;have HK:=n4_;have HO522:=n5_;clear n0_ n1_ n2_ n3_ n4_ n5_;clear ho hb hg hat))
    go_roundg k1
    case measure=>have:=HK1.out;omega
    case rel=>exact⟨(y520),(wrap64 (x4_1-1)),(t516),(t517),z14_,H',⟨z101_⟩,⟨by (with_reducible repeat (first|apply Kd.R_alloc|apply Kd.R_drewN|apply Kd.R_drew));exact Kd.R_mono HO522.out (fun _ hk=>trivial)⟩,⟨z10_ NB0_511 NB0_519⟩,⟨z8_ GW511 GW519⟩,⟨z11_ GE511 GE519⟩⟩
   rw [if_neg c15] at H
   have c15b0:(t512==((rd_T75 x3_1 (ji9)).f0)&&(t518==((rd_T75 x3_1 (ji9)).f1)))=false:=by simpa using c15
   (try (have c15b1:decide (t512=((rd_T75 x3_1 (ji9)).f0)&&(t518==((rd_T75 x3_1 (ji9)).f1)))=false:=by simpa using c15))
   (try (have c15b2:(t512==((rd_T75 x3_1 (ji9)).f0)&&(t518==((rd_T75 x3_1 (ji9)).f1)))=false:=by simpa using c15))
   (try (have c15b3:¬ (t512=((rd_T75 x3_1 (ji9)).f0)&&(t518==((rd_T75 x3_1 (ji9)).f1))):=by simpa using c15))
   clear c15
   by_cases c34:x3_1.length<8796093022208;rotate_left
   ·
    rw [if_neg c34] at H
    exact absurd H (by simp)
   rw [if_pos c34] at H
   have LMc34:=ak c34
   clear c34
   generalize hy523:(x3_1++[(⟨t512,t518⟩:S75)])=y523 at H;have Ny523:=ak hy523.symm;clear hy523;try rw [Option.bind_some] at H
   have H':=ak H
   clear H
   obtain⟨Ao35,co35,eo35⟩:=Kd.R_slice HO_3.out
   subst eo35
   have p510:0≤((ji9):Int):=od_
   have q510:(ji9)<(x3_1.length:Int):=od_
   obtain⟨ad510,e510,hx510_0,hx510_1⟩:=at_T75 (Kd.R_reads' HO_3.out).2.2 (ji9) p510 q510
   cases e510
   replace p510:=eq_true p510
   replace q510:=eq_true q510
   try go_wp2_with (first|((with_reducible refine gate_dst (N:=5) rfl ?_);refine Hd.box_ 5 (#[.int .i64 0,.int .i64 0]) 75 ?_;intro gb511 hg w36 hbox hb;replace HO_3:=ak (Kd.R_below (Kd.R_elderB (Hd.r_ HO_3) gb511 (Nat.le_of_eq hg.symm)) hb);replace HB:=z225_;have BK511:=ak (hbox);have GW511:=ak ((z221_:w.heap.size≤gb511));have GE511:=ak ((Nat.le_trans HW0.out (z221_:w.heap.size≤gb511):w0.heap.size≤gb511));replace HK:=z217_;have NB0_511:=z119_;have NB511_0:=z120_;replace HI0:=z224_;clear hb hbox hg;have hnb37:=NB511_0.out;have hnc37:=NB0_511.out;obtain⟨hcz38_0,hcz38_1⟩:=Hd.c2_ BK511.out;obtain⟨hfz38_0,hfz38_1⟩:=Hd.f2_ BK511.out))
   have n0_:Aside0 (Kd.R k75 75 ((w36.setCell ⟨gb511,0,none⟩ (.int .i64 ((rd_T75 x3_1 (ji9)).f0))).setCell ⟨gb511,1,none⟩ (.int .i64 ((rd_T75 x3_1 (ji9)).f1))) w.heap.size (fun k_=>k_≠gb511) (.slice (some ad510) x3_1.length co35) x3_1):=⟨z117_ HO_3⟩
   have n1_:Aside0 (((w36.setCell ⟨gb511,0,none⟩ (.int .i64 ((rd_T75 x3_1 (ji9)).f0))).setCell ⟨gb511,1,none⟩ (.int .i64 ((rd_T75 x3_1 (ji9)).f1))).heap[gb511]?=some (.cells #[.int .i64 ((rd_T75 x3_1 (ji9)).f0),.int .i64 ((rd_T75 x3_1 (ji9)).f1)] 75 (0,0))):=⟨z98_ BK511⟩
   have n2_:Aside0 (IsS89 w0 ((w36.setCell ⟨gb511,0,none⟩ (.int .i64 ((rd_T75 x3_1 (ji9)).f0))).setCell ⟨gb511,1,none⟩ (.int .i64 ((rd_T75 x3_1 (ji9)).f1))) g s0_0 x1001_1 x1002_1):=⟨z7_ NB0_511⟩
   have n3_:Aside0 (KeepBut w ((w36.setCell ⟨gb511,0,none⟩ (.int .i64 ((rd_T75 x3_1 (ji9)).f0))).setCell ⟨gb511,1,none⟩ (.int .i64 ((rd_T75 x3_1 (ji9)).f1))) g none):=⟨z4_ GW511⟩
   have n4_:Aside0 (Below w0.heap.size w0 ((w36.setCell ⟨gb511,0,none⟩ (.int .i64 ((rd_T75 x3_1 (ji9)).f0))).setCell ⟨gb511,1,none⟩ (.int .i64 ((rd_T75 x3_1 (ji9)).f1)))):=⟨z9_ GE511⟩
   try clear HO_3;try clear BK511;try clear HI0;try clear HK;try clear HB
   generalize ((w36.setCell ⟨gb511,0,none⟩ (.int .i64 ((rd_T75 x3_1 (ji9)).f0))).setCell ⟨gb511,1,none⟩ (.int .i64 ((rd_T75 x3_1 (ji9)).f1)))=w39 at n0_ n1_ n2_ n3_ n4_ ⊢
   have HO_3:=n0_
   have BK511:=n1_
   have HI0:=n2_
   have HK:=n3_
   have HB:=n4_
   clear n0_ n1_ n2_ n3_ n4_
   replace HO_3:=z97_ HO_3
   replace BK511:=z65_ BK511
   replace HI0:=ak (IsS89.drew HI0.out)
   replace HK:=ak (keep_drew HK.out)
   replace HB:=z42_
   refine start_ (n:=11) (S:=fun w'=>w'.cell? ⟨gb511,0,none⟩=some (.int .i64 ((rd_T75 x3_1 (ji9)).f0))∧w'.cell? ⟨gb511,1,none⟩=some (.int .i64 ((rd_T75 x3_1 (ji9)).f1))) (ds:=[]) #[Z,Z,Z,Z,Z,Z,Z,Z,Z,Z,Z] (by kernel_rfl) rfl rfl ⟨(blk_cell BK511.out 0).trans rfl,(blk_cell BK511.out 1).trans rfl⟩ (fun hHeld=>?_);refine with_tabW spec_l6Draw.tab6 spec_l6Draw.bits6 (fun HT_ HW_=>?_)
   generalize w39.drew=w40 at HO_3 BK511 HI0 HK HB hHeld ⊢
   refine Hd.p_ HT_ 0 (some 23) #[Y,Z,Z,Z,Z,Z,Z,Z,Z,Z,Z] ?_
   refine Hd.p_ HT_ 2 (some 25) #[Y,Z,Y,Z,Z,Z,Z,Z,Z,Z,Z] ?_
   refine Hd.p_ HT_ 4 (some 27) #[Y,Z,Y,Z,Y,Z,Z,Z,Z,Z,Z] ?_
   refine Hd.t_ HT_ HW_ hHeld 3 (some 26) #[Y,Z,Y,Y,Y,Z,Z,Z,Z,Z,Z] ?_
   refine join_ (σ:=Nat) 1 #[true,true,true,true,true,true,true,true,true,true,false] (fun s_=>[(24,.int .i64 t512),(28,.int .i64 t515),(30,.int .i64 t518),(6,.pointer (some ⟨s_,0,none⟩)),(29,.int .i64 (wrap64 (((rd_T75 x3_1 (ji9)).f1)+t515))),(31,.agg #[.int .i64 t512,.int .i64 t518])]) (fun s_ w'=>(w'.cell? ⟨gb511,0,none⟩=some (.int .i64 ((rd_T75 x3_1 (ji9)).f0))∧w'.cell? ⟨gb511,1,none⟩=some (.int .i64 ((rd_T75 x3_1 (ji9)).f1)))∧(Kd.R k75 75 w' w.heap.size (fun k_=>k_≠gb511∧k_≠s_) (.slice (some ad510) x3_1.length co35) x3_1)∧(w'.heap[gb511]?=some (.cells #[.int .i64 ((rd_T75 x3_1 (ji9)).f0),.int .i64 ((rd_T75 x3_1 (ji9)).f1)] 75 (0,0)))∧(w'.heap[s_]?=some (.cells #[.int .i64 0,.int .i64 0] 75 (0,0)))∧(w.heap.size≤s_)∧(w0.heap.size≤s_)∧(g≠s_)∧(s_≠g)∧(gb511≠s_)∧(s_≠gb511)∧(IsS89 w0 w' g s0_0 t516 t517)∧(KeepBut w w' g none)∧(Below w0.heap.size w0 w')) ?_ ?_
   rotate_left
   ·
    intro hCont
    refine two_ (i:=1) (j:=9) (Ni:=some 24) (Nj:=some 6) #[Y,Y,Y,Y,Y,Z,Z,Z,Z,Z,Z] #[Y,Z,Y,Y,Y,Z,Z,Z,Z,Y,Z] rfl rfl rfl rfl (two_of HT_.out (by kernel_rfl)) (by decide) (by decide) (fun K hK=>?_) (fun K hK=>?_)
    ·
     skip
     refine goes_ Try.func49 (by kernel_rfl) rfl #[.pointer (some ⟨g,0,none⟩),.int .i64 14] (by rfl) rfl rfl Hd.m_ ?_
     with_reducible refine(spec_l1Below.calls g s0_0 x1001_1 x1002_1 14 t512 t513 t514 w0 _ ?side1 ?side2 A12.out).mono ?_
     (case side1=>exact z7_ NB0_511)
     (case side2=>exact z9_ GE511)
     rintro e w41 ⟨rfl,hi,hb,hk⟩
     refine⟨_,rfl,?_⟩
     replace HO_3:=ak (Kd.R_mono (Kd.R_keep (IsS89.apart (show IsS89 w0 _ g s0_0 x1001_1 x1002_1 from by repeat (first|(with_reducible first|exact HI0.out|apply IsS89.alloc|apply IsS89.drewN|apply IsS89.drew|apply IsS89.set_1|apply IsS89.set_2|refine IsS89.far ?_ NB0_511.out _)|exact HI0.out)) (Hd.r_ HO_3) (by decide)) hk (fun _ h=>h.2)) (fun _ h=>h.1))
     replace BK511:=z43_ NB511_0
     replace HK:=z284_
     replace HB:=ak (hb)
     replace HI0:=ak (hi)
     try clear hb;try clear hk;try clear hi
     refine hK.out _ _ ⟨(blk_cell BK511.out 0).trans rfl,(blk_cell BK511.out 1).trans rfl⟩ (fun hHeld=>?_)
     clear hK K
     refine Hd.n_ (some 24) ?_
     refine two_ (i:=5) (j:=9) (Ni:=some 28) (Nj:=some 6) #[Y,Y,Y,Y,Y,Y,Z,Z,Z,Z,Z] #[Y,Y,Y,Y,Y,Z,Z,Z,Z,Y,Z] rfl rfl rfl rfl (two_of HT_.out (by kernel_rfl)) (by decide) (by decide) (fun K hK=>?_) (fun K hK=>?_)
     ·
      skip
      refine goes_ Try.func49 (by kernel_rfl) rfl #[.pointer (some ⟨g,0,none⟩),.int .i64 4] (by rfl) rfl rfl Hd.m_ ?_
      with_reducible refine(spec_l1Below.calls g s0_0 t513 t514 4 t515 t516 t517 w0 _ ?side1 ?side2 A13.out).mono ?_
      (case side1=>exact z7_ NB0_511)
      (case side2=>exact z9_ GE511)
      rintro e w42 ⟨rfl,hi,hb,hk⟩
      refine⟨_,rfl,?_⟩
      replace HO_3:=ak (Kd.R_mono (Kd.R_keep (IsS89.apart (show IsS89 w0 _ g s0_0 t513 t514 from by repeat (first|(with_reducible first|exact HI0.out|apply IsS89.alloc|apply IsS89.drewN|apply IsS89.drew|apply IsS89.set_1|apply IsS89.set_2|refine IsS89.far ?_ NB0_511.out _)|exact HI0.out)) (Hd.r_ HO_3) (by decide)) hk (fun _ h=>h.2)) (fun _ h=>h.1))
      replace BK511:=z43_ NB511_0
      replace HK:=z284_
      replace HB:=ak (hb)
      replace HI0:=ak (hi)
      try clear hb;try clear hk;try clear hi
      refine hK.out _ _ ⟨(blk_cell BK511.out 0).trans rfl,(blk_cell BK511.out 1).trans rfl⟩ (fun hHeld=>?_)
      clear hK K
      refine Hd.n_ (some 28) ?_
      refine Hd.p_ HT_ 6 (some 29) #[Y,Y,Y,Y,Y,Y,Y,Z,Z,Z,Z] ?_
      refine two_ (i:=7) (j:=9) (Ni:=some 30) (Nj:=some 6) #[Y,Y,Y,Y,Y,Y,Y,Y,Z,Z,Z] #[Y,Y,Y,Y,Y,Y,Y,Z,Z,Y,Z] rfl rfl rfl rfl (two_of HT_.out (by kernel_rfl)) (by decide) (by decide) (fun K hK=>?_) (fun K hK=>?_)
      ·
       skip
       refine goes_ Try.func104 (by kernel_rfl) rfl #[.int .i64 200,.int .i64 (wrap64 (((rd_T75 x3_1 (ji9)).f1)+t515))] (by rfl) rfl rfl z50_ ?_
       with_reducible refine(spec_Min.calls 200 (wrap64 (((rd_T75 x3_1 (ji9)).f1)+t515)) t518 _ A14.out).mono ?_
       rintro e w' ⟨rfl,⟨nd,rfl⟩⟩
       refine⟨_,rfl,?_⟩
       replace HO_3:=ak (Kd.R_drewN HO_3.out nd)
       replace BK511:=ak (blk_drewN BK511.out nd)
       replace HB:=z158_
       generalize w40.drewN nd=w40 at HO_3 BK511 HB ⊢
       refine hK.out _ _ ⟨(blk_cell BK511.out 0).trans rfl,(blk_cell BK511.out 1).trans rfl⟩ (fun hHeld=>?_)
       clear hK K
       refine Hd.n_ (some 30) ?_
       refine Hd.p_ HT_ 8 (some 31) #[Y,Y,Y,Y,Y,Y,Y,Y,Y,Z,Z] ?_
       refine Hd.o_ HT_ 9 (some 6) #[Y,Y,Y,Y,Y,Y,Y,Y,Y,Y,Z] (fun K hK=>?_)
       refine box_step ?hg (N:=6) ?hd (cs:=#[.int .i64 0,.int .i64 0]) (t:=75) ?hr ?_;(case hd=>rfl);(case hg=>rfl);(case hr=>exact z39_)
       intro gb519 hg w43 hbox hb
       replace HO_3:=z92_
       replace HB:=z267_
       have BK519:=ak (hbox)
       have GW519:=z287_
       have GE519:=z222_
       replace HK:=z230_
       have NB511_519:=z195_
       have NB519_511:=z196_
       replace BK511:=z210_
       have NB0_519:=ak ((z66_ NB0_511:g≠gb519))
       have NB519_0:=ak ((z67_ NB0_511:gb519≠g))
       replace HI0:=z260_
       clear hb hbox hg
       refine hK.out _ _ ⟨(blk_cell BK511.out 0).trans rfl,(blk_cell BK511.out 1).trans rfl⟩ (fun hHeld=>?_)
       clear hK K
       refine Hd.n_ (some 6) ?_
       exact norm_ z64_ (hCont (gb519) _ ⟨hHeld,(Hd.r_ HO_3),(Hd.k_ BK511),(Hd.k_ BK519),GW519.out,GE519.out,NB0_519.out,NB519_0.out,NB511_519.out,NB519_511.out,(z10_ NB0_511 NB0_519),(z8_ GW511 GW519),(z11_ GE511 GE519)⟩)
      ·
       skip
       refine box_step ?hg (N:=6) ?hd (cs:=#[.int .i64 0,.int .i64 0]) (t:=75) ?hr ?_;(case hd=>rfl);(case hg=>rfl);(case hr=>exact z39_)
       intro gb519 hg w43 hbox hb
       replace HO_3:=z92_
       replace HB:=z267_
       have BK519:=ak (hbox)
       have GW519:=z287_
       have GE519:=z222_
       replace HK:=z230_
       have NB511_519:=z195_
       have NB519_511:=z196_
       replace BK511:=z210_
       have NB0_519:=ak ((z66_ NB0_511:g≠gb519))
       have NB519_0:=ak ((z67_ NB0_511:gb519≠g))
       replace HI0:=z260_
       clear hb hbox hg
       refine hK.out _ _ ⟨(blk_cell BK511.out 0).trans rfl,(blk_cell BK511.out 1).trans rfl⟩ (fun hHeld=>?_)
       clear hK K
       refine Hd.n_ (some 6) ?_
       refine Hd.o_ HT_ 7 (some 30) #[Y,Y,Y,Y,Y,Y,Y,Y,Z,Y,Z] (fun K hK=>?_)
       refine goes_ Try.func104 (by kernel_rfl) rfl #[.int .i64 200,.int .i64 (wrap64 (((rd_T75 x3_1 (ji9)).f1)+t515))] (by rfl) rfl rfl z50_ ?_
       with_reducible refine(spec_Min.calls 200 (wrap64 (((rd_T75 x3_1 (ji9)).f1)+t515)) t518 _ A14.out).mono ?_
       rintro e w' ⟨rfl,⟨nd,rfl⟩⟩
       refine⟨_,rfl,?_⟩
       replace HO_3:=ak (Kd.R_drewN HO_3.out nd)
       replace BK511:=ak (blk_drewN BK511.out nd)
       replace HB:=z158_
       generalize w40.drewN nd=w40 at HO_3 BK511 HB ⊢
       refine hK.out _ _ ⟨(blk_cell BK511.out 0).trans rfl,(blk_cell BK511.out 1).trans rfl⟩ (fun hHeld=>?_)
       clear hK K
       refine Hd.n_ (some 30) ?_
       refine Hd.p_ HT_ 8 (some 31) #[Y,Y,Y,Y,Y,Y,Y,Y,Y,Y,Z] ?_
       exact norm_ z64_ (hCont (gb519) _ ⟨hHeld,(Hd.r_ HO_3),(Hd.k_ BK511),(Hd.k_ BK519),GW519.out,GE519.out,NB0_519.out,NB519_0.out,NB511_519.out,NB519_511.out,(z10_ NB0_511 NB0_519),(z8_ GW511 GW519),(z11_ GE511 GE519)⟩)
     ·
      skip
      refine box_step ?hg (N:=6) ?hd (cs:=#[.int .i64 0,.int .i64 0]) (t:=75) ?hr ?_;(case hd=>rfl);(case hg=>rfl);(case hr=>exact z39_)
      intro gb519 hg w42 hbox hb
      replace HO_3:=z92_
      replace HB:=z267_
      have BK519:=ak (hbox)
      have GW519:=z287_
      have GE519:=z222_
      replace HK:=z230_
      have NB511_519:=z195_
      have NB519_511:=z196_
      replace BK511:=z210_
      have NB0_519:=ak ((z128_ NB0_511:g≠gb519))
      have NB519_0:=ak ((z129_ NB0_511:gb519≠g))
      replace HI0:=z260_
      clear hb hbox hg
      refine hK.out _ _ ⟨(blk_cell BK511.out 0).trans rfl,(blk_cell BK511.out 1).trans rfl⟩ (fun hHeld=>?_)
      clear hK K
      refine Hd.n_ (some 6) ?_
      refine Hd.o_ HT_ 5 (some 28) #[Y,Y,Y,Y,Y,Y,Z,Z,Z,Y,Z] (fun K hK=>?_)
      refine goes_ Try.func49 (by kernel_rfl) rfl #[.pointer (some ⟨g,0,none⟩),.int .i64 4] (by rfl) rfl rfl Hd.m_ ?_
      with_reducible refine(spec_l1Below.calls g s0_0 t513 t514 4 t515 t516 t517 w0 _ ?side1 ?side2 A13.out).mono ?_
      (case side1=>exact z10_ NB0_511 NB0_519)
      (case side2=>exact z11_ GE511 GE519)
      rintro e w43 ⟨rfl,hi,hb,hk⟩
      refine⟨_,rfl,?_⟩
      replace HO_3:=ak (Kd.R_mono (Kd.R_keep (IsS89.apart (show IsS89 w0 _ g s0_0 t513 t514 from by repeat (first|(with_reducible first|exact HI0.out|apply IsS89.alloc|apply IsS89.drewN|apply IsS89.drew|apply IsS89.set_1|apply IsS89.set_2|refine IsS89.far ?_ NB0_511.out _|refine IsS89.far ?_ NB0_519.out _)|exact HI0.out)) (Hd.r_ HO_3) (by decide)) hk (fun _ h=>h.2)) (fun _ h=>h.1))
      replace BK511:=z43_ NB511_0
      replace BK519:=z93_ NB519_0
      replace HK:=z254_
      replace HB:=ak (hb)
      replace HI0:=ak (hi)
      try clear hb;try clear hk;try clear hi
      refine hK.out _ _ ⟨(blk_cell BK511.out 0).trans rfl,(blk_cell BK511.out 1).trans rfl⟩ (fun hHeld=>?_)
      clear hK K
      refine Hd.n_ (some 28) ?_
      refine Hd.p_ HT_ 6 (some 29) #[Y,Y,Y,Y,Y,Y,Y,Z,Z,Y,Z] ?_
      refine Hd.o_ HT_ 7 (some 30) #[Y,Y,Y,Y,Y,Y,Y,Y,Z,Y,Z] (fun K hK=>?_)
      refine goes_ Try.func104 (by kernel_rfl) rfl #[.int .i64 200,.int .i64 (wrap64 (((rd_T75 x3_1 (ji9)).f1)+t515))] (by rfl) rfl rfl z50_ ?_
      with_reducible refine(spec_Min.calls 200 (wrap64 (((rd_T75 x3_1 (ji9)).f1)+t515)) t518 _ A14.out).mono ?_
      rintro e w' ⟨rfl,⟨nd,rfl⟩⟩
      refine⟨_,rfl,?_⟩
      replace HO_3:=ak (Kd.R_drewN HO_3.out nd)
      replace BK511:=ak (blk_drewN BK511.out nd)
      replace HB:=z158_
      generalize w40.drewN nd=w40 at HO_3 BK511 HB ⊢
      refine hK.out _ _ ⟨(blk_cell BK511.out 0).trans rfl,(blk_cell BK511.out 1).trans rfl⟩ (fun hHeld=>?_)
      clear hK K
      refine Hd.n_ (some 30) ?_
      refine Hd.p_ HT_ 8 (some 31) #[Y,Y,Y,Y,Y,Y,Y,Y,Y,Y,Z] ?_
      exact norm_ z64_ (hCont (gb519) _ ⟨hHeld,(Hd.r_ HO_3),(Hd.k_ BK511),(Hd.k_ BK519),GW519.out,GE519.out,NB0_519.out,NB519_0.out,NB511_519.out,NB519_511.out,(z10_ NB0_511 NB0_519),(z8_ GW511 GW519),(z11_ GE511 GE519)⟩)
    ·
     skip
     refine box_step ?hg (N:=6) ?hd (cs:=#[.int .i64 0,.int .i64 0]) (t:=75) ?hr ?_;(case hd=>rfl);(case hg=>rfl);(case hr=>exact z39_)
     intro gb519 hg w41 hbox hb
     replace HO_3:=z92_
     replace HB:=z267_
     have BK519:=ak (hbox)
     have GW519:=z287_
     have GE519:=z222_
     replace HK:=z230_
     have NB511_519:=z195_
     have NB519_511:=z196_
     replace BK511:=z210_
     have NB0_519:=ak ((z124_ NB0_511:g≠gb519))
     have NB519_0:=ak ((z125_ NB0_511:gb519≠g))
     replace HI0:=z260_
     clear hb hbox hg
     refine hK.out _ _ ⟨(blk_cell BK511.out 0).trans rfl,(blk_cell BK511.out 1).trans rfl⟩ (fun hHeld=>?_)
     clear hK K
     refine Hd.n_ (some 6) ?_
     refine Hd.o_ HT_ 1 (some 24) #[Y,Y,Y,Y,Y,Z,Z,Z,Z,Y,Z] (fun K hK=>?_)
     refine goes_ Try.func49 (by kernel_rfl) rfl #[.pointer (some ⟨g,0,none⟩),.int .i64 14] (by rfl) rfl rfl Hd.m_ ?_
     with_reducible refine(spec_l1Below.calls g s0_0 x1001_1 x1002_1 14 t512 t513 t514 w0 _ ?side1 ?side2 A12.out).mono ?_
     (case side1=>exact z10_ NB0_511 NB0_519)
     (case side2=>exact z11_ GE511 GE519)
     rintro e w42 ⟨rfl,hi,hb,hk⟩
     refine⟨_,rfl,?_⟩
     replace HO_3:=ak (Kd.R_mono (Kd.R_keep (IsS89.apart (show IsS89 w0 _ g s0_0 x1001_1 x1002_1 from by repeat (first|(with_reducible first|exact HI0.out|apply IsS89.alloc|apply IsS89.drewN|apply IsS89.drew|apply IsS89.set_1|apply IsS89.set_2|refine IsS89.far ?_ NB0_511.out _|refine IsS89.far ?_ NB0_519.out _)|exact HI0.out)) (Hd.r_ HO_3) (by decide)) hk (fun _ h=>h.2)) (fun _ h=>h.1))
     replace BK511:=z43_ NB511_0
     replace BK519:=z93_ NB519_0
     replace HK:=z254_
     replace HB:=ak (hb)
     replace HI0:=ak (hi)
     try clear hb;try clear hk;try clear hi
     refine hK.out _ _ ⟨(blk_cell BK511.out 0).trans rfl,(blk_cell BK511.out 1).trans rfl⟩ (fun hHeld=>?_)
     clear hK K
     refine Hd.n_ (some 24) ?_
     refine Hd.o_ HT_ 5 (some 28) #[Y,Y,Y,Y,Y,Y,Z,Z,Z,Y,Z] (fun K hK=>?_)
     refine goes_ Try.func49 (by kernel_rfl) rfl #[.pointer (some ⟨g,0,none⟩),.int .i64 4] (by rfl) rfl rfl Hd.m_ ?_
     with_reducible refine(spec_l1Below.calls g s0_0 t513 t514 4 t515 t516 t517 w0 _ ?side1 ?side2 A13.out).mono ?_
     (case side1=>exact z10_ NB0_511 NB0_519)
     (case side2=>exact z11_ GE511 GE519)
     rintro e w43 ⟨rfl,hi,hb,hk⟩
     refine⟨_,rfl,?_⟩
     replace HO_3:=ak (Kd.R_mono (Kd.R_keep (IsS89.apart (show IsS89 w0 _ g s0_0 t513 t514 from by repeat (first|(with_reducible first|exact HI0.out|apply IsS89.alloc|apply IsS89.drewN|apply IsS89.drew|apply IsS89.set_1|apply IsS89.set_2|refine IsS89.far ?_ NB0_511.out _|refine IsS89.far ?_ NB0_519.out _)|exact HI0.out)) (Hd.r_ HO_3) (by decide)) hk (fun _ h=>h.2)) (fun _ h=>h.1))
     replace BK511:=z43_ NB511_0
     replace BK519:=z93_ NB519_0
     replace HK:=z254_
     replace HB:=ak (hb)
     replace HI0:=ak (hi)
     try clear hb;try clear hk;try clear hi
     refine hK.out _ _ ⟨(blk_cell BK511.out 0).trans rfl,(blk_cell BK511.out 1).trans rfl⟩ (fun hHeld=>?_)
     clear hK K
     refine Hd.n_ (some 28) ?_
     refine Hd.p_ HT_ 6 (some 29) #[Y,Y,Y,Y,Y,Y,Y,Z,Z,Y,Z] ?_
     refine Hd.o_ HT_ 7 (some 30) #[Y,Y,Y,Y,Y,Y,Y,Y,Z,Y,Z] (fun K hK=>?_)
     refine goes_ Try.func104 (by kernel_rfl) rfl #[.int .i64 200,.int .i64 (wrap64 (((rd_T75 x3_1 (ji9)).f1)+t515))] (by rfl) rfl rfl z50_ ?_
     with_reducible refine(spec_Min.calls 200 (wrap64 (((rd_T75 x3_1 (ji9)).f1)+t515)) t518 _ A14.out).mono ?_
     rintro e w' ⟨rfl,⟨nd,rfl⟩⟩
     refine⟨_,rfl,?_⟩
     replace HO_3:=ak (Kd.R_drewN HO_3.out nd)
     replace BK511:=ak (blk_drewN BK511.out nd)
     replace HB:=z158_
     generalize w40.drewN nd=w40 at HO_3 BK511 HB ⊢
     refine hK.out _ _ ⟨(blk_cell BK511.out 0).trans rfl,(blk_cell BK511.out 1).trans rfl⟩ (fun hHeld=>?_)
     clear hK K
     refine Hd.n_ (some 30) ?_
     refine Hd.p_ HT_ 8 (some 31) #[Y,Y,Y,Y,Y,Y,Y,Y,Y,Y,Z] ?_
     exact norm_ z64_ (hCont (gb519) _ ⟨hHeld,(Hd.r_ HO_3),(Hd.k_ BK511),(Hd.k_ BK519),GW519.out,GE519.out,NB0_519.out,NB519_0.out,NB511_519.out,NB519_511.out,(z10_ NB0_511 NB0_519),(z8_ GW511 GW519),(z11_ GE511 GE519)⟩)
   rintro gb519 w44 ⟨hS_,h0_,h1_,h2_,h3_,h4_,h5_,h6_,h7_,h8_,h9_,h10_,h11_⟩
   have n0_:Aside0 (Kd.R k75 75 w44 w.heap.size (fun k_=>k_≠gb511∧k_≠gb519) (.slice (some ad510) x3_1.length co35) x3_1):=⟨h0_⟩
   have n1_:Aside0 (w44.heap[gb511]?=some (.cells #[.int .i64 ((rd_T75 x3_1 (ji9)).f0),.int .i64 ((rd_T75 x3_1 (ji9)).f1)] 75 (0,0))):=⟨h1_⟩
   have n2_:Aside0 (w44.heap[gb519]?=some (.cells #[.int .i64 0,.int .i64 0] 75 (0,0))):=⟨h2_⟩
   have n3_:Aside0 (w.heap.size≤gb519):=⟨h3_⟩
   have n4_:Aside0 (w0.heap.size≤gb519):=⟨h4_⟩
   have n5_:Aside0 (g≠gb519):=⟨h5_⟩
   have n6_:Aside0 (gb519≠g):=⟨h6_⟩
   have n7_:Aside0 (gb511≠gb519):=⟨h7_⟩
   have n8_:Aside0 (gb519≠gb511):=⟨h8_⟩
   have n9_:Aside0 (IsS89 w0 w44 g s0_0 t516 t517):=⟨h9_⟩
   have n10_:Aside0 (KeepBut w w44 g none):=⟨h10_⟩
   have n11_:Aside0 (Below w0.heap.size w0 w44):=⟨h11_⟩
   clear HO_3
   clear BK511
   clear HI0
   clear HK
   clear HB
   clear h0_ h1_ h2_ h3_ h4_ h5_ h6_ h7_ h8_ h9_ h10_ h11_
   have HO_3:=n0_
   have BK511:=n1_
   have BK519:=n2_
   have GW519:=n3_
   have GE519:=n4_
   have NB0_519:=n5_
   have NB519_0:=n6_
   have NB511_519:=n7_
   have NB519_511:=n8_
   have HI0:=n9_
   have HK:=n10_
   have HB:=n11_
   clear n0_ n1_ n2_ n3_ n4_ n5_ n6_ n7_ n8_ n9_ n10_ n11_
   have hHeld:w44.cell? ⟨gb511,0,none⟩=some (.int .i64 ((rd_T75 x3_1 (ji9)).f0))∧w44.cell? ⟨gb511,1,none⟩=some (.int .i64 ((rd_T75 x3_1 (ji9)).f1)):=hS_
   refine norm_ (a':=?_) ?_ ?_
   rotate_left
   ·
    simp only[putAll,Act.put,List.setIfInBounds_toArray,List.set_cons_zero,List.set_cons_succ]
    rfl
   refine Hd.o_ HT_ 10 (none) #[Y,Y,Y,Y,Y,Y,Y,Y,Y,Y,Y] (fun K hK=>?_)
   have hs45:w44.cell? ⟨gb519,0,none⟩=some (.int .i64 0):=(blk_cell BK519.out 0).trans rfl
   have hfs45:=blk_frozen BK519.out 0
   have hns45_0:=NB511_519.out
   have hms45_0:=NB519_511.out
   have hs46:w44.cell? ⟨gb519,1,none⟩=some (.int .i64 0):=(blk_cell BK519.out 1).trans rfl
   have hfs46:=blk_frozen BK519.out 1
   have hns46_0:=NB511_519.out
   have hms46_0:=NB519_511.out
   refine skip_ (w1:=?_) (by rfl) rfl ?_ ?_
   rotate_left
   ·
    go_simp
    rfl
   refine hK.out _ _ ⟨((cell_far (p:=⟨gb519,_,none⟩) NB511_519.out _).trans (((cell_far (p:=⟨gb519,_,none⟩) NB511_519.out _).trans (hHeld.1)))),((cell_far (p:=⟨gb519,_,none⟩) NB511_519.out _).trans (((cell_far (p:=⟨gb519,_,none⟩) NB511_519.out _).trans (hHeld.2))))⟩ (fun hHeld=>?_)
   clear hK K
   refine done_ (done_of HT_.out (by kernel_rfl)) ?_
   have hnb47:=NB519_511.out
   have hnc47:=NB511_519.out
   have hnb48:=NB519_0.out
   have hnc48:=NB0_519.out
   obtain⟨hcz49_0,hcz49_1⟩:=Hd.c2_ BK519.out
   obtain⟨hfz49_0,hfz49_1⟩:=Hd.f2_ BK519.out
   obtain⟨hcz50_0,hcz50_1⟩:=Hd.c2_ BK511.out
   obtain⟨hfz50_0,hfz50_1⟩:=Hd.f2_ BK511.out
   try go_wp2_with (first|((with_reducible refine gate_builtin (b:=.append) (xs:=#[.tmp 39,.tmp 41]) rfl ?_);at_builtin;refine Kd.R_append k75 w.heap.size rfl (.tmp 39) (.tmp 41) 32 75 (.agg #[(.int .i64 0),(.int .i64 0)]) 16 rfl Try.underlying32 info75 rfl (by decide) (by omega) (.slice (some ad510) x3_1.length co35) x3_1 (⟨t512,t518⟩:S75) [.int .i64 t512,.int .i64 t518] (fun k_=>k_≠gb511∧k_≠gb519) (fun _=>False) rfl z39_ ?aP (fun _ hk=>hk.elim) ?aF ?aO (Below.refl _ _) ?aS ?aL ?_;(case aP=>exact k75_mkM _ _ _ (⟨t512,t518⟩:S75));(case aF=>exact(fun k_ hk=>⟨Kd.freshB (g:=gb511) (o:=.cells #[.int .i64 ((rd_T75 x3_1 (ji9)).f0),.int .i64 ((rd_T75 x3_1 (ji9)).f1)] 75 (0,0)) (z22_ NB511_519 BK511) k_ hk,Kd.freshB (g:=gb519) (o:=.cells #[.int .i64 t512,.int .i64 t518] 75 (0,0)) (z100_ BK519) k_ hk⟩));(case aO=>exact(by (with_reducible repeat (first|apply Kd.R_alloc|apply Kd.R_drewN|apply Kd.R_drew));exact Kd.R_mono (Kd.R_far (p:=⟨gb519,1,none⟩) (Kd.R_far (p:=⟨gb519,0,none⟩) (Kd.R_mono HO_3.out (fun k_ hk=>(⟨hk,hk.2⟩:_∧k_≠gb519))) (fun _ hk=>hk.2) (.int .i64 t512)) (fun _ hk=>hk.2) (.int .i64 t518)) (fun _ hk=>⟨hk.1.1,hk.1.2⟩)));(case aS=>exact(keep_size (w:=w) (g:=g) (row:=none) (z8_ GW511 GW519)));(case aL=>have:=LMc34.out;omega);intro v524 w51 ho hb hg hat;rw [← Ny523.out] at ho;have n0_:=ak (IsS89.grown (Hd.as_ (fun W_=>IsS89 _ W_ _ _ _ _) HI0.out (z10_ NB0_511 NB0_519)) hg (IsS89.own_ne HI0.out HO_3.out (by decide)));have n1_:=ak (blk_grown (g:=gb511) (o:=.cells #[.int .i64 ((rd_T75 x3_1 (ji9)).f0),.int .i64 ((rd_T75 x3_1 (ji9)).f1)] 75 (0,0)) (z22_ NB511_519 BK511) hg (Kd.R_away HO_3.out (fun _ hk=>hk.1)));have n2_:=ak (blk_grown (g:=gb519) (o:=.cells #[.int .i64 t512,.int .i64 t518] 75 (0,0)) (z100_ BK519) hg (Kd.R_away HO_3.out (fun _ hk=>hk.2)));have n3_:=ak (below_weaken (z11_ GE511 GE519) HL.out hb);have n4_:=ak (KeepBut.trans (z8_ GW511 GW519) (KeepBut.of_grown hg g) (Kd.R_base2 HO_3.out));have n5_:=ak (ho);clear HI0;clear BK511;clear BK519;clear HB;clear HK;clear HO_3;have HI0:=n0_;have BK511:=n1_;have BK519:=n2_;have HB:=n3_;have HK:=n4_;have HO525:=n5_;clear n0_ n1_ n2_ n3_ n4_ n5_;clear ho hb hg hat))
   go_roundg k1
   case measure=>have:=HK1.out;omega
   case rel=>exact⟨(y523),(wrap64 (x4_1-1)),(t516),(t517),z14_,H',⟨z101_⟩,⟨by (with_reducible repeat (first|apply Kd.R_alloc|apply Kd.R_drewN|apply Kd.R_drew));exact Kd.R_mono HO525.out (fun _ hk=>trivial)⟩,⟨z10_ NB0_511 NB0_519⟩,⟨z8_ GW511 GW519⟩,⟨z11_ GE511 GE519⟩⟩
end Go.Proofs.Ytbbdhlggnglfgaa.MFnFeatures
