-- Laid by this session's program pp.py, after the kit's print and texts of the session's own. Not trusted: Lean checks it.
import Derived.Test.YtbbdhlggnglfgaaZFnFeaturesMx0
import Derived.Test.YtbbdhlggnglfgaaZFnFeaturesMx8
namespace Go.Proofs.Ytbbdhlggnglfgaa.MFnFeatures
open Go.RowKit Go.Proofs.YtbbdhlggnglfgaaW.PrintWords Go.Proofs.YtbbdhlggnglfgaaW.PrintLast Go.Proofs.YtbbdhlggnglfgaaW.PrintMore
attribute [local go_sem] max2_int min2_int max_two min_two max_three min_three max_four min_four
set_option linter.unusedVariables false
set_option maxHeartbeats 8000000
set_option maxRecDepth 100000
set_option linter.unusedSimpArgs false
def impl_cloneSource.l0:Nat→List (S34)→List (S34)→Int→Int→Option ((List (S34)))
 | 0,_,_,_,_=>none
 | k+1,x3,x7,x8,x9=>if x9<x8 then (if 0≤x9 then (if x9<(x7.length:Int) then ((impl_cloneFeature.f ((rd_T34 x7 x9).f0) ((rd_T34 x7 x9).f1) ((rd_T34 x7 x9).f2) ((rd_T34 x7 x9).f3) ((rd_T34 x7 x9).f4)).bind fun bt235=>(if x3.length<2199023255552 then (impl_cloneSource.l0 k (x3++[(⟨bt235.1,bt235.2.1,bt235.2.2.1,bt235.2.2.2.1,bt235.2.2.2.2⟩:S34)]) x7 x8 (wrap64 (x9+1))) else (none))) else (none)) else (none)) else (some x3)
def impl_cloneSource.f (k:Nat) (l0:List (S34)):Option ((List (S34))):=impl_cloneSource.l0 k (([]:List (S34))) l0 (l0.length:Int) 0
theorem impl_cloneSource.calls (k:Nat) (A0:Option Addr) (c0:Nat) (l0:List (S34)) (r:List (S34)) (w:World) (hr0:Kd.C k34 w A0 l0.length l0) (hc0:l0.length≤c0) (h:impl_cloneSource.f k l0=some r) :
  Calls Try.prog 38 #[.slice A0 l0.length c0] w fun e w'=>∃ v0_:Value,e = .returned (v0_)∧Kd.S k34 34 w' w.heap.size (fun _=>True) v0_ r∧Below w.heap.size w w':=by
 have hu34:=Try.underlying34
 have HR0:=ak hr0
 have HC0:=ak hc0
 clear hr0 hc0
 have HB:=z52_
 have H:=h;clear h;unfold impl_cloneSource.f at H
 generalize hy230:(([]:List (S34)))=y230 at H;have Ny230:=ak hy230.symm;clear hy230;try rw [Option.bind_some] at H
 have H':=ak H
 clear H
 go_enter Try.func38,Try.ntmps38
 go_wp2_with (first|((with_reducible refine gate_dst (N:=6) rfl ?_);refine Kd.S_lit k34 _ 34 ?hg (N:=6) ?hd (xs:=([]:List (S34))) (inner:=[]) (ok:=fun _=>True) (okp:=fun _=>True) ?hr ?hp (fun _ hk=>hk) trivial (Below.refl _ _) (Nat.le_refl _) (by simp) ?_;(case hd=>rfl);(case hg=>rfl);(case hr=>exact z39_);(case hp=>exact z213_);intro v231 w2 ho3 hb hg_ hnew_;clear hg_ hnew_;(first|rw [← Ny230.out] at ho3|(simp only[Int.reduceToNat] at ho3;rw [← Ny230.out] at ho3));have HO232:=ak (Kd.S_lower ho3 (below_size Hd.b_));replace HB:=z17_;clear hb ho3))
 go_loopg [3,9] k (fun kq v3 v9 w'=>∃ (x3_1:List (S34)) (x9_1:Int),v9 = .int .i64 x9_1∧Aside0 (impl_cloneSource.l0 kq x3_1 l0 (l0.length:Int) x9_1=some r)∧Aside0 (kq≤k)∧Aside0 (Kd.S k34 34 w' w.heap.size (fun _=>True) v3 x3_1)∧Aside0 (Below w.heap.size w w'))
 case atStart=>exact⟨(y230),(0),z14_,H',⟨Nat.le_refl _⟩,⟨z24_ HO232⟩,⟨Hd.b_⟩⟩
 case round =>
  clear H'
  obtain⟨x3_1,x9_1,rfl,HA,HK1,HO_3,HB⟩:=hrel
  cases gk with
  | zero=>exact absurd HA.out (by simp [impl_cloneSource.l0])
  | succ k1 =>
   have H:=HA.out
   clear HA
   simp only[impl_cloneSource.l0] at H
   by_cases c4:x9_1<(l0.length:Int);rotate_left
   ·
    rw [if_neg c4] at H
    have c4b0:=z198_
    clear c4
    obtain rfl:=Option.some.inj H
    go_wp2
    go_ret
    exact⟨_,Hd.e_,z24_ HO_3,Hd.b_⟩
   rw [if_pos c4] at H
   have c4b0:=decide_eq_true c4
   clear c4
   by_cases c5:0≤x9_1;rotate_left
   ·
    rw [if_neg c5] at H
    exact absurd H (by simp)
   rw [if_pos c5] at H
   have c5b0:=decide_eq_true c5
   clear c5
   by_cases c6:x9_1<(l0.length:Int);rotate_left
   ·
    rw [if_neg c6] at H
    exact absurd H (by simp)
   rw [if_pos c6] at H
   have c6b0:=decide_eq_true c6
   clear c6
   replace H:=Hd.bd_ H;obtain⟨⟨t235,t236,t237,t238,t239⟩,A7,H⟩:=H;dsimp only at H
   by_cases c8:x3_1.length<2199023255552;rotate_left
   ·
    rw [if_neg c8] at H
    exact absurd H (by simp)
   rw [if_pos c8] at H
   have LMc8:=ak c8
   clear c8
   generalize hy242:(x3_1++[(⟨t235,t236,t237,t238,t239⟩:S34)])=y242 at H;have Ny242:=ak hy242.symm;clear hy242;try rw [Option.bind_some] at H
   have H':=ak H
   clear H
   have p233:0≤(x9_1:Int):=od_
   have q233:x9_1<(l0.length:Int):=od_
   obtain⟨ad233,A233_4,c233_4,e233,hx233_0,hx233_1,hx233_2,hx233_3,hx233_4,hl233_4,hi233_4⟩:=at_T34 HR0.out x9_1 p233 q233
   cases e233
   replace hx233_0:=(HB.out.cell (bl_ w _ hx233_0)).trans hx233_0
   replace hx233_1:=(HB.out.cell (bl_ w _ hx233_1)).trans hx233_1
   replace hx233_2:=(HB.out.cell (bl_ w _ hx233_2)).trans hx233_2
   replace hx233_3:=(HB.out.cell (bl_ w _ hx233_3)).trans hx233_3
   replace hx233_4:=(HB.out.cell (bl_ w _ hx233_4)).trans hx233_4
   have HR233_4:=ak hi233_4
   have HC233_4:=ak hl233_4
   clear hi233_4 hl233_4
   replace p233:=eq_true p233
   replace q233:=eq_true q233
   go_wp2_with (first|((with_reducible refine gate_dst (N:=5) rfl ?_);refine Hd.box_ 5 (#[.int .i64 0,.int .i64 0,.int .i64 0,.string (⟨#[]⟩:ByteArray),.slice none 0 0]) 34 ?_;intro gb234 hg w9 hbox hb;replace HO_3:=ak (Kd.S_below (Kd.S_elderB (z24_ HO_3) gb234 (Nat.le_of_eq hg.symm)) hb);have BK234:=ak (hbox);have GW234:=ak ((Hd.g_ hg Hd.b_:w.heap.size≤gb234));have GE234:=ak ((Hd.g_ hg Hd.b_:w.heap.size≤gb234));replace HB:=z17_;clear hb hbox hg;obtain⟨hcz10_0,hcz10_1,hcz10_2,hcz10_3,hcz10_4⟩:=Hd.c5_ BK234.out;obtain⟨hfz10_0,hfz10_1,hfz10_2,hfz10_3,hfz10_4⟩:=Hd.f5_ BK234.out)|((with_reducible refine gate_callee (f:=39) rfl ?_);refine Hd.gl_ 15 Try.func39 #[.agg #[.int .i64 ((rd_T34 l0 x9_1).f0),.int .i64 ((rd_T34 l0 x9_1).f1),.int .i64 ((rd_T34 l0 x9_1).f2),.string ((rd_T34 l0 x9_1).f3),.slice A233_4 ((rd_T34 l0 x9_1).f4).length c233_4]] ?_;(with_reducible refine(impl_cloneFeature.calls ((rd_T34 l0 x9_1).f0) ((rd_T34 l0 x9_1).f1) ((rd_T34 l0 x9_1).f2) ((rd_T34 l0 x9_1).f3) _ _ ((rd_T34 l0 x9_1).f4) t235 t236 t237 t238 t239 _ ?side1 ?side2 A7.out).mono ?_);(case side1=>exact Kd.C_below HR233_4.out Hd.b_);(case side2=>exact HC233_4.out);rintro e w11 ⟨v240,rfl,ho0,hb⟩;refine⟨_,rfl,?_⟩;replace HO_3:=ak (Kd.S_elder' (by (with_reducible repeat (first|apply Kd.S_alloc|apply Kd.S_drewN|apply Kd.S_drew));exact(Kd.S_mono (Kd.S_far (p:=⟨gb234,4,none⟩) (Kd.S_far (p:=⟨gb234,3,none⟩) (Kd.S_far (p:=⟨gb234,2,none⟩) (Kd.S_far (p:=⟨gb234,1,none⟩) (Kd.S_far (p:=⟨gb234,0,none⟩) (Kd.S_mono HO_3.out (fun k_ hk=>(⟨hk,hk.2⟩:_∧k_≠gb234))) (fun _ hk=>hk.2) (.int .i64 ((rd_T34 l0 x9_1).f0))) (fun _ hk=>hk.2) (.int .i64 ((rd_T34 l0 x9_1).f1))) (fun _ hk=>hk.2) (.int .i64 ((rd_T34 l0 x9_1).f2))) (fun _ hk=>hk.2) (.string ((rd_T34 l0 x9_1).f3))) (fun _ hk=>hk.2) (.slice A233_4 ((rd_T34 l0 x9_1).f4).length c233_4)) (fun _ h_=>h_.1))) (Kd.R_base ho0) hb);have HO241:=z140_;replace BK234:=ak (blk_below (g:=gb234) (o:=.cells #[.int .i64 ((rd_T34 l0 x9_1).f0),.int .i64 ((rd_T34 l0 x9_1).f1),.int .i64 ((rd_T34 l0 x9_1).f2),.string ((rd_T34 l0 x9_1).f3),.slice A233_4 ((rd_T34 l0 x9_1).f4).length c233_4] 34 (0,0)) (by (with_reducible repeat (first|refine blk_drewN ?_ _|refine blk_drew ?_|refine blk_alloc ?_ _));refine blk_put (cs:=#[.int .i64 ((rd_T34 l0 x9_1).f0),.int .i64 ((rd_T34 l0 x9_1).f1),.int .i64 ((rd_T34 l0 x9_1).f2),.string ((rd_T34 l0 x9_1).f3),.slice none 0 0]) ?_ 4 _ rfl;(with_reducible repeat (first|refine blk_drewN ?_ _|refine blk_drew ?_|refine blk_alloc ?_ _));refine blk_put (cs:=#[.int .i64 ((rd_T34 l0 x9_1).f0),.int .i64 ((rd_T34 l0 x9_1).f1),.int .i64 ((rd_T34 l0 x9_1).f2),.string (⟨#[]⟩:ByteArray),.slice none 0 0]) ?_ 3 _ rfl;(with_reducible repeat (first|refine blk_drewN ?_ _|refine blk_drew ?_|refine blk_alloc ?_ _));refine blk_put (cs:=#[.int .i64 ((rd_T34 l0 x9_1).f0),.int .i64 ((rd_T34 l0 x9_1).f1),.int .i64 0,.string (⟨#[]⟩:ByteArray),.slice none 0 0]) ?_ 2 _ rfl;(with_reducible repeat (first|refine blk_drewN ?_ _|refine blk_drew ?_|refine blk_alloc ?_ _));refine blk_put (cs:=#[.int .i64 ((rd_T34 l0 x9_1).f0),.int .i64 0,.int .i64 0,.string (⟨#[]⟩:ByteArray),.slice none 0 0]) ?_ 1 _ rfl;(with_reducible repeat (first|refine blk_drewN ?_ _|refine blk_drew ?_|refine blk_alloc ?_ _));refine blk_put (cs:=#[.int .i64 0,.int .i64 0,.int .i64 0,.string (⟨#[]⟩:ByteArray),.slice none 0 0]) ?_ 0 _ rfl;(with_reducible repeat (first|refine blk_drewN ?_ _|refine blk_drew ?_|refine blk_alloc ?_ _));exact BK234.out) hb);replace HB:=z17_;(try clear hb);(try clear hk);(try clear ho0);obtain⟨Ao13,co13,eo13⟩:=Kd.R_slice HO241.out;subst eo13)|((with_reducible refine gate_builtin (b:=.append) (xs:=#[.tmp 13,.tmp 16]) rfl ?_);at_builtin;refine Kd.S_append k34 (w0:=w) w.heap.size rfl (.tmp 13) (.tmp 16) 28 34 (.agg #[(.int .i64 0),(.int .i64 0),(.int .i64 0),(.string ⟨#[]⟩),(.slice none 0 0)]) 64 rfl Try.underlying28 info34 rfl (by decide) (by omega) u3 x3_1 (⟨t235,t236,t237,t238,t239⟩:S34) [.int .i64 t235,.int .i64 t236,.int .i64 t237,.string t238,.slice Ao13 t239.length co13] (fun k_=>k_≠gb234) (fun k_=>some k_=(.slice Ao13 t239.length co13:Value).ownBlock) rfl rfl ?aP (fun k_ hk_=>((Kd.R_mono (ok':=fun k_=>((fun k_=>k_≠gb234)) k_∧some k_≠(u3:Value).ownBlock) (Kd.R_types (Kd.R_apart' (HO241.out) (Kd.S_typed HO_3.out) (by decide)) BK234.out (by decide)) (fun k_ hk=>⟨hk.2,hk.1.2⟩))).1 k_ hk_.symm) ?aF ?aO ?aB ?aS ?aL ?_;(case aP=>exact k34_mkM _ _ _ (⟨t235,t236,t237,t238,t239⟩:S34) (Kd.R_mono (Kd.R_tight rfl (Kd.R_mono (ok':=fun k_=>((fun k_=>k_≠gb234)) k_∧some k_≠(u3:Value).ownBlock) (Kd.R_types (Kd.R_apart' (HO241.out) (Kd.S_typed HO_3.out) (by decide)) BK234.out (by decide)) (fun k_ hk=>⟨hk.2,hk.1.2⟩))) (fun _ h_=>h_)));(case aB=>exact Hd.b_);(case aF=>exact(fun k_ hk=>Kd.freshB (g:=gb234) (o:=.cells #[.int .i64 ((rd_T34 l0 x9_1).f0),.int .i64 ((rd_T34 l0 x9_1).f1),.int .i64 ((rd_T34 l0 x9_1).f2),.string ((rd_T34 l0 x9_1).f3),.slice A233_4 ((rd_T34 l0 x9_1).f4).length c233_4] 34 (0,0)) (Hd.k_ BK234) k_ hk));(case aO=>exact(by (with_reducible repeat (first|apply Kd.S_alloc|apply Kd.S_drewN|apply Kd.S_drew));exact Kd.S_mono HO_3.out (fun k_ hk=>⟨hk.1.2,fun e_=>hk.2 e_⟩)));(case aS=>exact z133_);(case aL=>have:=LMc8.out;omega);intro v243 w12 ho hb hg hat;rw [← Ny242.out] at ho;have n0_:=ak (blk_grown (g:=gb234) (o:=.cells #[.int .i64 ((rd_T34 l0 x9_1).f0),.int .i64 ((rd_T34 l0 x9_1).f1),.int .i64 ((rd_T34 l0 x9_1).f2),.string ((rd_T34 l0 x9_1).f3),.slice A233_4 ((rd_T34 l0 x9_1).f4).length c233_4] 34 (0,0)) (Hd.k_ BK234) hg (Kd.S_away HO_3.out (fun _ hk=>hk.1.2)));have n1_:=ak (hb);have n2_:=ak (ho);clear BK234;clear HB;clear HO_3;clear HO241;have BK234:=n0_;have HB:=n1_;have HO244:=n2_;clear n0_ n1_ n2_;clear ho hb hg hat))
   go_roundg k1
   case measure=>have:=HK1.out;omega
   case rel=>exact⟨(y242),(wrap64 (x9_1+1)),z14_,H',⟨z101_⟩,⟨by (with_reducible repeat (first|apply Kd.S_alloc|apply Kd.S_drewN|apply Kd.S_drew));exact Kd.S_mono HO244.out (fun _ hk=>trivial)⟩,⟨Hd.b_⟩⟩
end Go.Proofs.Ytbbdhlggnglfgaa.MFnFeatures
