-- Laid by this session's program pp.py, after the kit's print and texts of the session's own. Not trusted: Lean checks it.
import Derived.Test.YtbbdhlggnglfgaaZFnFeaturesMx0
import Derived.Test.YtbbdhlggnglfgaaZFnFeaturesMx2
import Derived.Test.YtbbdhlggnglfgaaZFnFeaturesMx8
import Derived.Test.YtbbdhlggnglfgaaZFnFeaturesMx10
import Derived.Test.YtbbdhlggnglfgaaZFnFeaturesMx20
import Derived.Test.YtbbdhlggnglfgaaZFnFeaturesMx21
namespace Go.Proofs.Ytbbdhlggnglfgaa.MFnFeatures
open Go.RowKit Go.Proofs.YtbbdhlggnglfgaaW.PrintWords Go.Proofs.YtbbdhlggnglfgaaW.PrintLast Go.Proofs.YtbbdhlggnglfgaaW.PrintMore
attribute [local go_sem] max2_int min2_int max_two min_two max_three min_three max_four min_four
set_option linter.unusedVariables false
set_option maxHeartbeats 8000000
set_option maxRecDepth 100000
set_option linter.unusedSimpArgs false
def laws_FnFeatures.f (k:Nat) (l0:List Int):Option (Bool):=(laws_big.f l0).bind fun t805=>(if t805=true then (some true) else ((spec_DrawPutFeature.f k l0).bind fun bt806=>((impl_PutFeature.f k bt806.1 bt806.2.1 bt806.2.2.1 bt806.2.2.2.1 bt806.2.2.2.2.1 bt806.2.2.2.2.2).bind fun bt817=>(if bt817.2=true then ((impl_FindFeature.f k bt817.1 bt806.2.1).bind fun t821=>((impl_IsSource.f k bt817.1).bind fun t822=>(if t822=true then (if t821<0 then (none) else (if 0≤t821 then (if t821<(bt817.1.length:Int) then ((impl_EqualFeatures.f k ((rd_T34 bt817.1 t821).f0) ((rd_T34 bt817.1 t821).f1) ((rd_T34 bt817.1 t821).f2) ((rd_T34 bt817.1 t821).f3) ((rd_T34 bt817.1 t821).f4) bt806.2.1 bt806.2.2.1 bt806.2.2.2.1 bt806.2.2.2.2.1 bt806.2.2.2.2.2).bind fun t824=>(if t824=true then ((impl_TakeFeature.f k bt817.1 bt806.2.1).bind fun bt825=>(if bt825.2=true then ((impl_FindFeature.f k bt825.1 bt806.2.1).bind fun t829=>(if t829=(-1) then ((impl_IsSource.f k bt825.1).bind fun t830=>(if t830=true then ((impl_FindFeature.f k bt806.1 bt806.2.1).bind fun t831=>(if t831<0 then ((impl_EqualSources.f k bt825.1 bt806.1).bind fun t832=>(if t832=true then ((spec_DrawEqualSources.f k l0).bind fun bt833=>((impl_EqualSources.f k bt833.1 bt833.2).bind fun t839=>((impl_EqualSources.f k bt833.2 bt833.1).bind fun t840=>(if (t839==t840)=true then ((impl_EqualSources.f k bt833.1 bt833.1).bind fun t841=>(some t841)) else (none))))) else (none))) else ((spec_DrawEqualSources.f k l0).bind fun bt842=>((impl_EqualSources.f k bt842.1 bt842.2).bind fun t848=>((impl_EqualSources.f k bt842.2 bt842.1).bind fun t849=>(if (t848==t849)=true then ((impl_EqualSources.f k bt842.1 bt842.1).bind fun t850=>(some t850)) else (none))))))) else (none))) else (none))) else (none))) else (none))) else (none)) else (none))) else (none)))) else ((impl_EqualSources.f k bt817.1 bt806.1).bind fun t851=>(if t851=true then ((spec_DrawEqualSources.f k l0).bind fun bt852=>((impl_EqualSources.f k bt852.1 bt852.2).bind fun t858=>((impl_EqualSources.f k bt852.2 bt852.1).bind fun t859=>(if (t858==t859)=true then ((impl_EqualSources.f k bt852.1 bt852.1).bind fun t860=>(some t860)) else (none))))) else (none)))))))
def laws_FnFeatures.T7:Bool × List (List Nat × List Nat):=(true,[([],[]),([0],[0]),([1],[1]),([2,1],[2]),([3],[3]),([4,3],[3,4]),([3,5],[3,5]),([6,3],[6]),([7],[7]),([7],[7]),([8,9,7],[7,8,9]),([10,7],[7,10]),([7],[7]),([11,12,7,7],[7,11,12]),([13,7],[7,13]),([7,14],[7,14])])
def laws_FnFeatures.B7:List Nat:=[0,1,3,7,15,31,63,127,255,255,1023,2047,255,8191,16383,32767]
theorem laws_FnFeatures.tab7:rtab .any (opsOf Try.f4 7)=laws_FnFeatures.T7:=by kernel_rfl
theorem laws_FnFeatures.bits7:waitsOk laws_FnFeatures.T7.2 laws_FnFeatures.B7=true:=by kernel_rfl
theorem laws_FnFeatures.calls (k:Nat) (A0:Option Addr) (c0:Nat) (l0:List Int) (r:Bool) (w:World) (hr0:Kd.C (Kd.int .u8) w A0 l0.length l0) (hc0:l0.length≤c0) (h:laws_FnFeatures.f k l0=some r) :
  Calls Try.prog 4 #[.slice A0 l0.length c0] w fun e w'=>e = .returned (.bool r)∧Below w.heap.size w w':=by
 have hu34:=Try.underlying34
 have HR0:=ak hr0
 have HC0:=ak hc0
 clear hr0 hc0
 have HB:=z52_
 have H:=h;clear h;unfold laws_FnFeatures.f at H
 replace H:=Hd.bd_ H;obtain⟨t805,A2,H⟩:=H
 by_cases c3:t805=true
 ·
  subst c3
  rw [if_pos rfl] at H
  obtain rfl:=Option.some.inj H
  go_enter Try.func4,Try.ntmps4
  go_wp2_with (first|((with_reducible refine gate_callee (f:=18) rfl ?_);refine Hd.gl_ 13 Try.func18 #[.slice A0 l0.length c0] ?_;(with_reducible refine(laws_big.calls _ _ l0 true _ ?side1 ?side2 A2.out).mono ?_);(case side1=>exact z37_ HR0);(case side2=>exact HC0.out);rintro e w' ⟨rfl,⟨nd,rfl⟩⟩;refine⟨_,rfl,?_⟩))
  go_ret
  exact⟨Hd.e_,Hd.b_⟩
 replace c3:=z163_
 subst c3
 rw [if_neg (show ¬ (false=true) by decide)] at H
 replace H:=Hd.bd_ H;obtain⟨⟨t806,t809,t810,t811,t812,t813⟩,A4,H⟩:=H;dsimp only at H
 replace H:=Hd.bd_ H;obtain⟨⟨t817,t820⟩,A5,H⟩:=H;dsimp only at H
 by_cases c6:t820=true;rotate_left
 ·
  replace c6:=Bool.eq_false_iff.mpr c6
  subst c6
  rw [if_neg (show ¬ (false=true) by decide)] at H
  replace H:=Hd.bd_ H;obtain⟨t851,A265,H⟩:=H
  by_cases c266:t851=true;rotate_left
  ·
   replace c266:=Bool.eq_false_iff.mpr c266
   subst c266
   rw [if_neg (show ¬ (false=true) by decide)] at H
   exact absurd H (by simp)
  subst c266
  rw [if_pos rfl] at H
  replace H:=Hd.bd_ H;obtain⟨⟨t852,t855⟩,A267,H⟩:=H;dsimp only at H
  replace H:=Hd.bd_ H;obtain⟨t858,A268,H⟩:=H
  replace H:=Hd.bd_ H;obtain⟨t859,A269,H⟩:=H
  by_cases c270:(t858==t859)=true;rotate_left
  ·
   rw [if_neg c270] at H
   have c270b0:(t858==t859)=false:=by simpa using c270
   (try (have c270b1:decide (t858=t859)=false:=by simpa using c270))
   (try (have c270b2:(t858==t859)=false:=by simpa using c270))
   (try (have c270b3:¬ (t858=t859):=by simpa using c270))
   clear c270
   exact absurd H (by simp)
  rw [if_pos c270] at H
  have c270b0:(t858==t859)=true:=c270
  (try (have c270b1:decide (t858=t859)=true:=by simpa using c270))
  (try (have c270b2:(t858==t859)=true:=by simpa using c270))
  clear c270
  replace H:=Hd.bd_ H;obtain⟨t860,A271,H⟩:=H
  obtain rfl:=Option.some.inj H
  go_enter Try.func4,Try.ntmps4
  go_wp2_with (first|((with_reducible refine gate_callee (f:=18) rfl ?_);refine Hd.gl_ 13 Try.func18 #[.slice A0 l0.length c0] ?_;(with_reducible refine(laws_big.calls _ _ l0 false _ ?side1 ?side2 A2.out).mono ?_);(case side1=>exact z37_ HR0);(case side2=>exact HC0.out);rintro e w' ⟨rfl,⟨nd,rfl⟩⟩;refine⟨_,rfl,?_⟩)|((with_reducible refine gate_callee (f:=19) rfl ?_);refine Hd.gl_ 16 Try.func19 #[.slice A0 l0.length c0] ?_;(with_reducible refine(spec_DrawPutFeature.calls k _ _ l0 t806 t809 t810 t811 t812 t813 _ ?side1 ?side2 A4.out).mono ?_);(case side1=>exact z37_ HR0);(case side2=>exact HC0.out);rintro e w272 ⟨v807,v814,rfl,ho0,ho1,hb⟩;refine⟨_,rfl,?_⟩;have HO808:=z153_;have HO815:=z131_;replace HB:=z17_;(try clear hb);(try clear hk);(try clear ho0);(try clear ho1))|((with_reducible refine gate_dst (N:=4) rfl ?_);refine Hd.box_ 4 (#[.int .i64 0,.int .i64 0,.int .i64 0,.string (⟨#[]⟩:ByteArray),.slice none 0 0]) 34 ?_;intro gb816 hg w273 hbox hb;replace HO808:=z277_;replace HO815:=z278_;have BK816:=ak (hbox);have GW816:=z151_;have GE816:=z151_;replace HB:=z17_;clear hb hbox hg;obtain⟨hcz274_0,hcz274_1,hcz274_2,hcz274_3,hcz274_4⟩:=Hd.c5_ BK816.out;obtain⟨hfz274_0,hfz274_1,hfz274_2,hfz274_3,hfz274_4⟩:=Hd.f5_ BK816.out;obtain⟨Ao275,co275,eo275⟩:=Kd.V_slice HO815.out;subst eo275)|((with_reducible refine gate_store (t:=34) (p:=4) rfl ?_);refine store_event (t:=34) (p:=4) (v:=?vo_w276) (w1:=(((((w273.setCell ⟨gb816,0,none⟩ (.int .i64 t809)).setCell ⟨gb816,1,none⟩ (.int .i64 t810)).setCell ⟨gb816,2,none⟩ (.int .i64 t811)).setCell ⟨gb816,3,none⟩ (.string t812)).setCell ⟨gb816,4,none⟩ (.slice Ao275 t813.length co275))) ?hg ?ho ?hn ?hr ?_;(case ho=>rfl);(case hg=>rfl);(case hn=>rfl);(case hr=>exact z39_);intro w276 hw;have n0_:Aside0 (Kd.N k34 34 w276 w.heap.size (fun k_=>k_≠gb816) v807 t806):=⟨(by rw [hw];exact(by (with_reducible repeat (first|apply Kd.N_alloc|apply Kd.N_drewN|apply Kd.N_drew));exact Kd.N_mono (Kd.N_far (p:=⟨gb816,4,none⟩) (Kd.N_far (p:=⟨gb816,3,none⟩) (Kd.N_far (p:=⟨gb816,2,none⟩) (Kd.N_far (p:=⟨gb816,1,none⟩) (Kd.N_far (p:=⟨gb816,0,none⟩) (Kd.N_mono HO808.out (fun k_ hk=>(⟨hk,hk.2⟩:_∧k_≠gb816))) (fun _ hk=>hk.2) (.int .i64 t809)) (fun _ hk=>hk.2) (.int .i64 t810)) (fun _ hk=>hk.2) (.int .i64 t811)) (fun _ hk=>hk.2) (.string t812)) (fun _ hk=>hk.2) (.slice Ao275 t813.length co275)) (fun _ hk=>hk.1.2)))⟩;have n1_:Aside0 (Kd.V k75 75 w276 w.heap.size (fun k_=>some k_≠(v807:Value).ownBlock∧k_≠gb816) (.slice Ao275 t813.length co275) t813):=⟨(by rw [hw];exact(by (with_reducible repeat (first|apply Kd.V_alloc|apply Kd.V_drewN|apply Kd.V_drew));exact Kd.V_mono (Kd.V_far (p:=⟨gb816,4,none⟩) (Kd.V_far (p:=⟨gb816,3,none⟩) (Kd.V_far (p:=⟨gb816,2,none⟩) (Kd.V_far (p:=⟨gb816,1,none⟩) (Kd.V_far (p:=⟨gb816,0,none⟩) (Kd.V_mono HO815.out (fun k_ hk=>(⟨hk,hk.2⟩:_∧k_≠gb816))) (fun _ hk=>hk.2) (.int .i64 t809)) (fun _ hk=>hk.2) (.int .i64 t810)) (fun _ hk=>hk.2) (.int .i64 t811)) (fun _ hk=>hk.2) (.string t812)) (fun _ hk=>hk.2) (.slice Ao275 t813.length co275)) (fun _ hk=>⟨hk.1.1,hk.1.2⟩)))⟩;have n2_:Aside0 (w276.heap[gb816]?=some (.cells #[.int .i64 t809,.int .i64 t810,.int .i64 t811,.string t812,.slice Ao275 t813.length co275] 34 (0,0))):=⟨(z29_ BK816)⟩;have n3_:Aside0 (Below w.heap.size w w276):=⟨(by rw [hw];exact Hd.b_)⟩;clear hw;clear HO808;clear HO815;clear BK816;clear HB;have HO808:=n0_;have HO815:=n1_;have BK816:=n2_;have HB:=n3_;clear n0_ n1_ n2_ n3_;obtain⟨hcz277_0,hcz277_1,hcz277_2,hcz277_3,hcz277_4⟩:=Hd.c5_ BK816.out;obtain⟨hfz277_0,hfz277_1,hfz277_2,hfz277_3,hfz277_4⟩:=Hd.f5_ BK816.out;obtain⟨Ao278,co278,eo278⟩:=Kd.N_slice HO808.out;subst eo278)|((with_reducible refine gate_callee (f:=12) rfl ?_);refine Hd.gl_ 22 Try.func12 #[.slice Ao278 t806.length co278,.agg #[.int .i64 t809,.int .i64 t810,.int .i64 t811,.string t812,.slice Ao275 t813.length co275]] ?_;(with_reducible refine(impl_PutFeature.calls k (fun k_=>k_≠gb816) _ _ t806 t809 t810 t811 t812 _ _ t813 t817 false _ ?side1 ?side2 ?side3 A5.out).mono ?_);(case side1=>exact Kd.N_V (HO808.out));(case side2=>exact z25_ HO815);(case side3=>exact z123_ HO815);rintro e w279 ⟨v818,rfl,hs0_,hb⟩;refine⟨_,rfl,?_⟩;have ho0:=z194_;replace HO808:=ak (Kd.N_elder' (z3_ HO808) (Kd.S_base hs0_) hb);replace HO815:=ak (Kd.V_elder' (z5_ HO815) (Kd.S_base hs0_) hb);have HO819:=ak (Kd.N_lower (Kd.N_mono (ok':=fun k_=>k_≠gb816) ho0 (fun k_ hk_=>Or.elim hk_ (fun hs_=>hs_) (fun hn_=>(Kd.freshB (g:=gb816) (o:=.cells #[.int .i64 t809,.int .i64 t810,.int .i64 t811,.string t812,.slice Ao275 t813.length co275] 34 (0,0)) (Hd.k_ BK816) k_ hn_)))) (below_size Hd.b_));replace BK816:=z95_;replace HB:=z17_;(try clear hb);(try clear hk);(try clear hi);(try clear ho0);(try clear hs0_);obtain⟨Ao280,co280,eo280⟩:=Kd.N_slice HO819.out;subst eo280)|((with_reducible refine gate_callee (f:=24) rfl ?_);refine Hd.gl_ 80 Try.func24 #[.slice Ao280 t817.length co280,.slice Ao278 t806.length co278] ?_;(with_reducible refine(impl_EqualSources.calls k _ _ t817 _ _ t806 true _ ?side1 ?side2 ?side3 ?side4 A265.out).mono ?_);(case side1=>exact z16_ HO819);(case side2=>exact z81_ HO819);(case side3=>exact z16_ HO808);(case side4=>exact z81_ HO808);rintro e w281 ⟨rfl,hb⟩;refine⟨_,rfl,?_⟩;replace HO808:=z226_;replace HO815:=z227_;replace HO819:=z228_;replace BK816:=z95_;replace HB:=z17_;clear hb)|((with_reducible refine gate_callee (f:=25) rfl ?_);refine Hd.gl_ 84 Try.func25 #[.slice A0 l0.length c0] ?_;(with_reducible refine(spec_DrawEqualSources.calls k _ _ l0 t852 t855 _ ?side1 ?side2 A267.out).mono ?_);(case side1=>exact z15_ HR0);(case side2=>exact HC0.out);rintro e w282 ⟨v853,v856,rfl,ho0,ho1,hb⟩;refine⟨_,rfl,?_⟩;replace HO815:=z256_;have HO854:=ak (Kd.N_lower (Kd.N_mono (ok':=fun k_=>some k_≠(v856:Value).ownBlock∧some k_≠(.slice Ao278 t806.length co278:Value).ownBlock∧some k_≠(.slice Ao280 t817.length co280:Value).ownBlock∧k_≠gb816) ho0 (fun k_ hk_=>⟨hk_.2,(Kd.fresh' (Kd.N_lt (z3_ HO808)) k_ hk_.1),(Kd.fresh' (Kd.N_lt (z3_ HO819)) k_ hk_.1),(Kd.freshB (g:=gb816) (o:=.cells #[.int .i64 t809,.int .i64 t810,.int .i64 t811,.string t812,.slice Ao275 t813.length co275] 34 (0,0)) (Hd.k_ BK816) k_ hk_.1)⟩)) (below_size Hd.b_));have HO857:=ak (Kd.N_lower (Kd.N_mono (ok':=fun k_=>some k_≠(v853:Value).ownBlock∧some k_≠(.slice Ao278 t806.length co278:Value).ownBlock∧some k_≠(.slice Ao280 t817.length co280:Value).ownBlock∧k_≠gb816) ho1 (fun k_ hk_=>⟨hk_.2,(Kd.fresh' (Kd.N_lt (z3_ HO808)) k_ hk_.1),(Kd.fresh' (Kd.N_lt (z3_ HO819)) k_ hk_.1),(Kd.freshB (g:=gb816) (o:=.cells #[.int .i64 t809,.int .i64 t810,.int .i64 t811,.string t812,.slice Ao275 t813.length co275] 34 (0,0)) (Hd.k_ BK816) k_ hk_.1)⟩)) (below_size Hd.b_));replace HO808:=z257_;replace HO819:=z258_;replace BK816:=z95_;replace HB:=z17_;clear hb ho0;(try clear ho1);obtain⟨Ao283,co283,eo283⟩:=Kd.N_slice HO854.out;subst eo283;obtain⟨Ao284,co284,eo284⟩:=Kd.N_slice HO857.out;subst eo284)|((with_reducible refine gate_callee (f:=24) rfl ?_);refine Hd.gl_ 89 Try.func24 #[.slice Ao283 t852.length co283,.slice Ao284 t855.length co284] ?_;(with_reducible refine(impl_EqualSources.calls k _ _ t852 _ _ t855 t858 _ ?side1 ?side2 ?side3 ?side4 A268.out).mono ?_);(case side1=>exact z16_ HO854);(case side2=>exact z81_ HO854);(case side3=>exact z16_ HO857);(case side4=>exact z81_ HO857);rintro e w285 ⟨rfl,hb⟩;refine⟨_,rfl,?_⟩;replace HO808:=z226_;replace HO815:=z227_;replace HO819:=z228_;replace HO854:=ak (Kd.N_below (z3_ HO854) hb);replace HO857:=ak (Kd.N_below (z3_ HO857) hb);replace BK816:=z95_;replace HB:=z17_;clear hb)|((with_reducible refine gate_callee (f:=24) rfl ?_);refine Hd.gl_ 92 Try.func24 #[.slice Ao284 t855.length co284,.slice Ao283 t852.length co283] ?_;(with_reducible refine(impl_EqualSources.calls k _ _ t855 _ _ t852 t859 _ ?side1 ?side2 ?side3 ?side4 A269.out).mono ?_);(case side1=>exact z16_ HO857);(case side2=>exact z81_ HO857);(case side3=>exact z16_ HO854);(case side4=>exact z81_ HO854);rintro e w286 ⟨rfl,hb⟩;refine⟨_,rfl,?_⟩;replace HO808:=z226_;replace HO815:=z227_;replace HO819:=z228_;replace HO854:=ak (Kd.N_below (z3_ HO854) hb);replace HO857:=ak (Kd.N_below (z3_ HO857) hb);replace BK816:=z95_;replace HB:=z17_;clear hb)|(go_at_call 24;(with_reducible refine(impl_EqualSources.calls k _ _ t852 _ _ t852 t860 _ ?side1 ?side2 ?side3 ?side4 A271.out).mono ?_);(case side1=>exact z16_ HO854);(case side2=>exact z81_ HO854);(case side3=>exact z16_ HO854);(case side4=>exact z81_ HO854);rintro e w287 ⟨rfl,hb⟩;replace HO808:=z226_;replace HO815:=z227_;replace HO819:=z228_;replace HO854:=ak (Kd.N_below (z3_ HO854) hb);replace HO857:=ak (Kd.N_below (z3_ HO857) hb);replace BK816:=z95_;replace HB:=z17_;clear hb))
  go_ret
  exact⟨Hd.e_,Hd.b_⟩
 subst c6
 rw [if_pos rfl] at H
 replace H:=Hd.bd_ H;obtain⟨t821,A7,H⟩:=H
 replace H:=Hd.bd_ H;obtain⟨t822,A8,H⟩:=H
 by_cases c9:t822=true;rotate_left
 ·
  replace c9:=Bool.eq_false_iff.mpr c9
  subst c9
  rw [if_neg (show ¬ (false=true) by decide)] at H
  exact absurd H (by simp)
 subst c9
 rw [if_pos rfl] at H
 by_cases c10:t821<0
 ·
  rw [if_pos c10] at H
  have c10b0:=z212_
  clear c10
  exact absurd H (by simp)
 rw [if_neg c10] at H
 have c10b0:=decide_eq_false c10
 clear c10
 by_cases c24:0≤t821;rotate_left
 ·
  rw [if_neg c24] at H
  exact absurd H (by simp)
 rw [if_pos c24] at H
 have c24b0:=decide_eq_true c24
 clear c24
 by_cases c25:t821<(t817.length:Int);rotate_left
 ·
  rw [if_neg c25] at H
  exact absurd H (by simp)
 rw [if_pos c25] at H
 have c25b0:=decide_eq_true c25
 clear c25
 replace H:=Hd.bd_ H;obtain⟨t824,A26,H⟩:=H
 by_cases c27:t824=true;rotate_left
 ·
  replace c27:=Bool.eq_false_iff.mpr c27
  subst c27
  rw [if_neg (show ¬ (false=true) by decide)] at H
  exact absurd H (by simp)
 subst c27
 rw [if_pos rfl] at H
 replace H:=Hd.bd_ H;obtain⟨⟨t825,t826⟩,A28,H⟩:=H;dsimp only at H
 by_cases c29:t826=true;rotate_left
 ·
  replace c29:=Bool.eq_false_iff.mpr c29
  subst c29
  rw [if_neg (show ¬ (false=true) by decide)] at H
  exact absurd H (by simp)
 subst c29
 rw [if_pos rfl] at H
 replace H:=Hd.bd_ H;obtain⟨t829,A30,H⟩:=H
 by_cases c31:t829=(-1);rotate_left
 ·
  rw [if_neg c31] at H
  have c31b0:=beq_eq_false_iff_ne.mpr c31
  have c31b1:=bne_iff_ne.mpr c31
  exact absurd H (by simp)
 rw [if_pos c31] at H
 have c31b0:=beq_iff_eq.mpr c31
 have c31b1:=bne_eq_false_iff_eq.mpr c31
 clear c31
 replace H:=Hd.bd_ H;obtain⟨t830,A32,H⟩:=H
 by_cases c33:t830=true;rotate_left
 ·
  replace c33:=Bool.eq_false_iff.mpr c33
  subst c33
  rw [if_neg (show ¬ (false=true) by decide)] at H
  exact absurd H (by simp)
 subst c33
 rw [if_pos rfl] at H
 replace H:=Hd.bd_ H;obtain⟨t831,A34,H⟩:=H
 by_cases c35:t831<0;rotate_left
 ·
  rw [if_neg c35] at H
  have c35b0:=decide_eq_false c35
  clear c35
  replace H:=Hd.bd_ H;obtain⟨⟨t842,t845⟩,A123,H⟩:=H;dsimp only at H
  replace H:=Hd.bd_ H;obtain⟨t848,A124,H⟩:=H
  replace H:=Hd.bd_ H;obtain⟨t849,A125,H⟩:=H
  by_cases c126:(t848==t849)=true;rotate_left
  ·
   rw [if_neg c126] at H
   have c126b0:(t848==t849)=false:=by simpa using c126
   (try (have c126b1:decide (t848=t849)=false:=by simpa using c126))
   (try (have c126b2:(t848==t849)=false:=by simpa using c126))
   (try (have c126b3:¬ (t848=t849):=by simpa using c126))
   clear c126
   exact absurd H (by simp)
  rw [if_pos c126] at H
  have c126b0:(t848==t849)=true:=c126
  (try (have c126b1:decide (t848=t849)=true:=by simpa using c126))
  (try (have c126b2:(t848==t849)=true:=by simpa using c126))
  clear c126
  replace H:=Hd.bd_ H;obtain⟨t850,A127,H⟩:=H
  obtain rfl:=Option.some.inj H
  go_enter Try.func4,Try.ntmps4
  try go_wp2_with (first|((with_reducible refine gate_callee (f:=18) rfl ?_);refine Hd.gl_ 13 Try.func18 #[.slice A0 l0.length c0] ?_;(with_reducible refine(laws_big.calls _ _ l0 false _ ?side1 ?side2 A2.out).mono ?_);(case side1=>exact z37_ HR0);(case side2=>exact HC0.out);rintro e w' ⟨rfl,⟨nd,rfl⟩⟩;refine⟨_,rfl,?_⟩)|((with_reducible refine gate_callee (f:=19) rfl ?_);refine Hd.gl_ 16 Try.func19 #[.slice A0 l0.length c0] ?_;(with_reducible refine(spec_DrawPutFeature.calls k _ _ l0 t806 t809 t810 t811 t812 t813 _ ?side1 ?side2 A4.out).mono ?_);(case side1=>exact z37_ HR0);(case side2=>exact HC0.out);rintro e w128 ⟨v807,v814,rfl,ho0,ho1,hb⟩;refine⟨_,rfl,?_⟩;have HO808:=z153_;have HO815:=z131_;replace HB:=z17_;(try clear hb);(try clear hk);(try clear ho0);(try clear ho1))|((with_reducible refine gate_dst (N:=4) rfl ?_);refine Hd.box_ 4 (#[.int .i64 0,.int .i64 0,.int .i64 0,.string (⟨#[]⟩:ByteArray),.slice none 0 0]) 34 ?_;intro gb816 hg w129 hbox hb;replace HO808:=z277_;replace HO815:=z278_;have BK816:=ak (hbox);have GW816:=z151_;have GE816:=z151_;replace HB:=z17_;clear hb hbox hg;obtain⟨hcz130_0,hcz130_1,hcz130_2,hcz130_3,hcz130_4⟩:=Hd.c5_ BK816.out;obtain⟨hfz130_0,hfz130_1,hfz130_2,hfz130_3,hfz130_4⟩:=Hd.f5_ BK816.out;obtain⟨Ao131,co131,eo131⟩:=Kd.V_slice HO815.out;subst eo131)|((with_reducible refine gate_store (t:=34) (p:=4) rfl ?_);refine store_event (t:=34) (p:=4) (v:=?vo_w132) (w1:=(((((w129.setCell ⟨gb816,0,none⟩ (.int .i64 t809)).setCell ⟨gb816,1,none⟩ (.int .i64 t810)).setCell ⟨gb816,2,none⟩ (.int .i64 t811)).setCell ⟨gb816,3,none⟩ (.string t812)).setCell ⟨gb816,4,none⟩ (.slice Ao131 t813.length co131))) ?hg ?ho ?hn ?hr ?_;(case ho=>rfl);(case hg=>rfl);(case hn=>rfl);(case hr=>exact z39_);intro w132 hw;have n0_:Aside0 (Kd.N k34 34 w132 w.heap.size (fun k_=>k_≠gb816) v807 t806):=⟨(by rw [hw];exact(by (with_reducible repeat (first|apply Kd.N_alloc|apply Kd.N_drewN|apply Kd.N_drew));exact Kd.N_mono (Kd.N_far (p:=⟨gb816,4,none⟩) (Kd.N_far (p:=⟨gb816,3,none⟩) (Kd.N_far (p:=⟨gb816,2,none⟩) (Kd.N_far (p:=⟨gb816,1,none⟩) (Kd.N_far (p:=⟨gb816,0,none⟩) (Kd.N_mono HO808.out (fun k_ hk=>(⟨hk,hk.2⟩:_∧k_≠gb816))) (fun _ hk=>hk.2) (.int .i64 t809)) (fun _ hk=>hk.2) (.int .i64 t810)) (fun _ hk=>hk.2) (.int .i64 t811)) (fun _ hk=>hk.2) (.string t812)) (fun _ hk=>hk.2) (.slice Ao131 t813.length co131)) (fun _ hk=>hk.1.2)))⟩;have n1_:Aside0 (Kd.V k75 75 w132 w.heap.size (fun k_=>some k_≠(v807:Value).ownBlock∧k_≠gb816) (.slice Ao131 t813.length co131) t813):=⟨(by rw [hw];exact(by (with_reducible repeat (first|apply Kd.V_alloc|apply Kd.V_drewN|apply Kd.V_drew));exact Kd.V_mono (Kd.V_far (p:=⟨gb816,4,none⟩) (Kd.V_far (p:=⟨gb816,3,none⟩) (Kd.V_far (p:=⟨gb816,2,none⟩) (Kd.V_far (p:=⟨gb816,1,none⟩) (Kd.V_far (p:=⟨gb816,0,none⟩) (Kd.V_mono HO815.out (fun k_ hk=>(⟨hk,hk.2⟩:_∧k_≠gb816))) (fun _ hk=>hk.2) (.int .i64 t809)) (fun _ hk=>hk.2) (.int .i64 t810)) (fun _ hk=>hk.2) (.int .i64 t811)) (fun _ hk=>hk.2) (.string t812)) (fun _ hk=>hk.2) (.slice Ao131 t813.length co131)) (fun _ hk=>⟨hk.1.1,hk.1.2⟩)))⟩;have n2_:Aside0 (w132.heap[gb816]?=some (.cells #[.int .i64 t809,.int .i64 t810,.int .i64 t811,.string t812,.slice Ao131 t813.length co131] 34 (0,0))):=⟨(z29_ BK816)⟩;have n3_:Aside0 (Below w.heap.size w w132):=⟨(by rw [hw];exact Hd.b_)⟩;clear hw;clear HO808;clear HO815;clear BK816;clear HB;have HO808:=n0_;have HO815:=n1_;have BK816:=n2_;have HB:=n3_;clear n0_ n1_ n2_ n3_;obtain⟨hcz133_0,hcz133_1,hcz133_2,hcz133_3,hcz133_4⟩:=Hd.c5_ BK816.out;obtain⟨hfz133_0,hfz133_1,hfz133_2,hfz133_3,hfz133_4⟩:=Hd.f5_ BK816.out;obtain⟨Ao134,co134,eo134⟩:=Kd.N_slice HO808.out;subst eo134)|((with_reducible refine gate_callee (f:=12) rfl ?_);refine Hd.gl_ 22 Try.func12 #[.slice Ao134 t806.length co134,.agg #[.int .i64 t809,.int .i64 t810,.int .i64 t811,.string t812,.slice Ao131 t813.length co131]] ?_;(with_reducible refine(impl_PutFeature.calls k (fun k_=>k_≠gb816) _ _ t806 t809 t810 t811 t812 _ _ t813 t817 true _ ?side1 ?side2 ?side3 A5.out).mono ?_);(case side1=>exact Kd.N_V (HO808.out));(case side2=>exact z25_ HO815);(case side3=>exact z123_ HO815);rintro e w135 ⟨v818,rfl,hs0_,hb⟩;refine⟨_,rfl,?_⟩;have ho0:=z194_;replace HO808:=ak (Kd.N_elder' (z3_ HO808) (Kd.S_base hs0_) hb);replace HO815:=ak (Kd.V_elder' (z5_ HO815) (Kd.S_base hs0_) hb);have HO819:=ak (Kd.N_lower (Kd.N_mono (ok':=fun k_=>k_≠gb816) ho0 (fun k_ hk_=>Or.elim hk_ (fun hs_=>hs_) (fun hn_=>(Kd.freshB (g:=gb816) (o:=.cells #[.int .i64 t809,.int .i64 t810,.int .i64 t811,.string t812,.slice Ao131 t813.length co131] 34 (0,0)) (Hd.k_ BK816) k_ hn_)))) (below_size Hd.b_));replace BK816:=z95_;replace HB:=z17_;(try clear hb);(try clear hk);(try clear hi);(try clear ho0);(try clear hs0_);obtain⟨hcz136_0,hcz136_1,hcz136_2,hcz136_3,hcz136_4⟩:=Hd.c5_ BK816.out;obtain⟨hfz136_0,hfz136_1,hfz136_2,hfz136_3,hfz136_4⟩:=Hd.f5_ BK816.out;obtain⟨Ao137,co137,eo137⟩:=Kd.N_slice HO819.out;subst eo137)|((with_reducible refine gate_callee (f:=20) rfl ?_);refine Hd.gl_ 29 Try.func20 #[.slice Ao137 t817.length co137,.int .i64 t809] ?_;(with_reducible refine(impl_FindFeature.calls k _ _ t817 t809 t821 _ ?side1 ?side2 A7.out).mono ?_);(case side1=>exact z16_ HO819);(case side2=>exact z81_ HO819);rintro e w138 ⟨rfl,hb⟩;refine⟨_,rfl,?_⟩;replace HO808:=z226_;replace HO815:=z227_;replace HO819:=z228_;replace BK816:=z95_;replace HB:=z17_;clear hb))
  replace HO808:=ak (Kd.N_drew HO808.out)
  replace HO815:=z165_ HO815
  replace HO819:=ak (Kd.N_drew HO819.out)
  replace BK816:=z65_ BK816
  replace HB:=z42_
  have p823:0≤(t821:Int):=od_
  have q823:t821<(t817.length:Int):=od_
  obtain⟨ad823,A823_4,c823_4,e823,hx823_0,hx823_1,hx823_2,hx823_3,hx823_4,hl823_4,hi823_4⟩:=at_T34 (Kd.N_reads' HO819.out).2.2 t821 p823 q823
  cases e823
  obtain⟨ce823,hce823,hMe823,hcc823⟩:=Kd.N_get HO819.out z34 t821 p823 (by first|exact q823|exact od_|(have e_:=z172_ HO819;omega))
  obtain⟨ua823_4,uc823_4,rfl,ul823_4,ge823_4⟩:=k34_openF hMe823
  have hv823_4:=hcc823 4 _ rfl
  rw [add_field _ _ 4 (by omega)] at hv823_4
  replace hv823_4:=Option.some.inj (hv823_4.symm.trans hx823_4)
  injection hv823_4 with hva_ hvn_ hvc_
  rw [hva_] at ge823_4
  rw [hvc_] at ul823_4
  have HL823_4:=ak (show Kd.V k75 75 _ w.heap.size _ _ ((rd_T34 t817 t821).f4) from Kd.V_mk ul823_4 ge823_4)
  clear hva_ hvn_ hvc_ ge823_4 ul823_4
  clear hcc823 hce823
  have HR823_4:=ak hi823_4
  have HC823_4:=ak hl823_4
  clear hi823_4 hl823_4
  replace p823:=eq_true p823
  replace q823:=eq_true q823
  refine start_ (n:=16) (S:=fun w'=>w'.cell? ⟨gb816,0,none⟩=some (.int .i64 t809)∧w'.cell? ⟨gb816,1,none⟩=some (.int .i64 t810)∧w'.cell? ⟨gb816,2,none⟩=some (.int .i64 t811)∧w'.cell? ⟨gb816,3,none⟩=some (.string t812)∧w'.cell? ⟨gb816,4,none⟩=some (.slice Ao131 t813.length co131)∧w'.cell? (ad823.add ((t821).toNat*5))=some (.int .i64 ((rd_T34 t817 t821).f0))∧w'.cell? ⟨(ad823.add ((t821).toNat*5)).block,(ad823.add ((t821).toNat*5)).off+1,none⟩=some (.int .i64 ((rd_T34 t817 t821).f1))∧w'.cell? ⟨(ad823.add ((t821).toNat*5)).block,(ad823.add ((t821).toNat*5)).off+2,none⟩=some (.int .i64 ((rd_T34 t817 t821).f2))∧w'.cell? ⟨(ad823.add ((t821).toNat*5)).block,(ad823.add ((t821).toNat*5)).off+3,none⟩=some (.string ((rd_T34 t817 t821).f3))∧w'.cell? ⟨(ad823.add ((t821).toNat*5)).block,(ad823.add ((t821).toNat*5)).off+4,none⟩=some (.slice A823_4 ((rd_T34 t817 t821).f4).length c823_4)) (ds:=[]) #[Z,Z,Z,Z,Z,Z,Z,Z,Z,Z,Z,Z,Z,Z,Z,Z] (by kernel_rfl) rfl rfl ⟨(blk_cell BK816.out 0).trans rfl,(blk_cell BK816.out 1).trans rfl,(blk_cell BK816.out 2).trans rfl,(blk_cell BK816.out 3).trans rfl,(blk_cell BK816.out 4).trans rfl,hx823_0,hx823_1,hx823_2,hx823_3,hx823_4⟩ (fun hHeld=>?_);refine with_tabW laws_FnFeatures.tab7 laws_FnFeatures.bits7 (fun HT_ HW_=>?_)
  generalize w138.drew=w139 at HO808 HO815 HO819 BK816 HB HL823_4 HR823_4 hx823_0 hx823_1 hx823_2 hx823_3 hx823_4 hHeld ⊢
  refine Hd.p_ HT_ 0 (some 30) #[Y,Z,Z,Z,Z,Z,Z,Z,Z,Z,Z,Z,Z,Z,Z,Z] ?_
  refine Hd.o_ HT_ 1 (some 31) #[Y,Y,Z,Z,Z,Z,Z,Z,Z,Z,Z,Z,Z,Z,Z,Z] (fun K hK=>?_)
  refine goes_ Try.func21 (by kernel_rfl) rfl #[.slice (some ad823) t817.length co137] (by rfl) rfl rfl Hd.m_ ?_
  with_reducible refine(impl_IsSource.calls k _ _ t817 true _ ?side1 ?side2 A8.out).mono ?_
  (case side1=>exact z16_ HO819)
  (case side2=>exact z81_ HO819)
  rintro e w140 ⟨rfl,hb⟩
  have HS5_:=z154_
  have HS6_:=z143_
  have HS7_:=z139_
  have HS8_:=z134_
  have HS9_:=z135_
  refine⟨_,rfl,?_⟩
  replace HO808:=z226_
  replace HO815:=z227_
  replace HO819:=z228_
  replace HL823_4:=z244_
  replace HR823_4:=ak (Kd.C_below HR823_4.out hb)
  replace BK816:=z95_
  replace HB:=z17_
  try clear hb;try clear hk
  refine hK.out _ _ ⟨(blk_cell BK816.out 0).trans rfl,(blk_cell BK816.out 1).trans rfl,(blk_cell BK816.out 2).trans rfl,(blk_cell BK816.out 3).trans rfl,(blk_cell BK816.out 4).trans rfl,HS5_,HS6_,HS7_,HS8_,HS9_⟩ (fun hHeld=>?_)
  clear hK K
  refine Hd.n_ (some 31) ?_
  refine Hd.p_ HT_ 2 (some 32) #[Y,Y,Y,Z,Z,Z,Z,Z,Z,Z,Z,Z,Z,Z,Z,Z] ?_
  refine Hd.p_ HT_ 3 (some 33) #[Y,Y,Y,Y,Z,Z,Z,Z,Z,Z,Z,Z,Z,Z,Z,Z] ?_
  refine Hd.p_ HT_ 4 (some 34) #[Y,Y,Y,Y,Y,Z,Z,Z,Z,Z,Z,Z,Z,Z,Z,Z] ?_
  refine Hd.p_ HT_ 5 (some 35) #[Y,Y,Y,Y,Y,Y,Z,Z,Z,Z,Z,Z,Z,Z,Z,Z] ?_
  refine Hd.p_ HT_ 6 (some 36) #[Y,Y,Y,Y,Y,Y,Y,Z,Z,Z,Z,Z,Z,Z,Z,Z] ?_
  refine Hd.p_ HT_ 7 (some 37) #[Y,Y,Y,Y,Y,Y,Y,Y,Z,Z,Z,Z,Z,Z,Z,Z] ?_
  refine Hd.p_ HT_ 8 (some 38) #[Y,Y,Y,Y,Y,Y,Y,Y,Y,Z,Z,Z,Z,Z,Z,Z] ?_
  refine Hd.p_ HT_ 9 (some 39) #[Y,Y,Y,Y,Y,Y,Y,Y,Y,Y,Z,Z,Z,Z,Z,Z] ?_
  refine Hd.p_ HT_ 10 (some 40) #[Y,Y,Y,Y,Y,Y,Y,Y,Y,Y,Y,Z,Z,Z,Z,Z] ?_
  refine Hd.t_ HT_ HW_ hHeld 11 (some 41) #[Y,Y,Y,Y,Y,Y,Y,Y,Y,Y,Y,Y,Z,Z,Z,Z] ?_
  refine Hd.t_ HT_ HW_ hHeld 12 (some 42) #[Y,Y,Y,Y,Y,Y,Y,Y,Y,Y,Y,Y,Y,Z,Z,Z] ?_
  refine Hd.o_ HT_ 13 (some 43) #[Y,Y,Y,Y,Y,Y,Y,Y,Y,Y,Y,Y,Y,Y,Z,Z] (fun K hK=>?_)
  refine goes_ Try.func22 (by kernel_rfl) rfl #[.agg #[.int .i64 ((rd_T34 t817 t821).f0),.int .i64 ((rd_T34 t817 t821).f1),.int .i64 ((rd_T34 t817 t821).f2),.string ((rd_T34 t817 t821).f3),.slice A823_4 ((rd_T34 t817 t821).f4).length c823_4],.agg #[.int .i64 t809,.int .i64 t810,.int .i64 t811,.string t812,.slice Ao131 t813.length co131]] (by rfl) rfl rfl Hd.m_ ?_
  with_reducible refine(impl_EqualFeatures.calls k ((rd_T34 t817 t821).f0) ((rd_T34 t817 t821).f1) ((rd_T34 t817 t821).f2) ((rd_T34 t817 t821).f3) _ _ ((rd_T34 t817 t821).f4) t809 t810 t811 t812 _ _ t813 true _ ?side1 ?side2 ?side3 ?side4 A26.out).mono ?_
  (case side1=>exact z276_)
  (case side2=>exact HC823_4.out)
  (case side3=>exact z25_ HO815)
  (case side4=>exact z123_ HO815)
  rintro e w141 ⟨rfl,hb⟩
  have HS5_:=z154_
  have HS6_:=z143_
  have HS7_:=z139_
  have HS8_:=z134_
  have HS9_:=z135_
  refine⟨_,rfl,?_⟩
  replace HO808:=z226_
  replace HO815:=z227_
  replace HO819:=z228_
  replace HL823_4:=z244_
  replace BK816:=z95_
  replace HR823_4:=z229_
  replace HB:=z17_
  try clear hb;try clear hk
  refine hK.out _ _ ⟨(blk_cell BK816.out 0).trans rfl,(blk_cell BK816.out 1).trans rfl,(blk_cell BK816.out 2).trans rfl,(blk_cell BK816.out 3).trans rfl,(blk_cell BK816.out 4).trans rfl,HS5_,HS6_,HS7_,HS8_,HS9_⟩ (fun hHeld=>?_)
  clear hK K
  refine Hd.n_ (some 43) ?_
  refine Hd.p_ HT_ 14 (some 44) #[Y,Y,Y,Y,Y,Y,Y,Y,Y,Y,Y,Y,Y,Y,Y,Z] ?_
  refine Hd.p_ HT_ 15 (some 45) #[Y,Y,Y,Y,Y,Y,Y,Y,Y,Y,Y,Y,Y,Y,Y,Y] ?_
  refine done_ (done_of HT_.out (by kernel_rfl)) ?_
  obtain⟨hcz142_0,hcz142_1,hcz142_2,hcz142_3,hcz142_4⟩:=Hd.c5_ BK816.out
  obtain⟨hfz142_0,hfz142_1,hfz142_2,hfz142_3,hfz142_4⟩:=Hd.f5_ BK816.out
  try go_wp2_with (first|((with_reducible refine gate_callee (f:=23) rfl ?_);refine Hd.gl_ 50 Try.func23 #[.slice (some ad823) t817.length co137,.int .i64 t809] ?_;(with_reducible refine(impl_TakeFeature.calls k _ _ t817 t809 t825 true _ ?side1 ?side2 A28.out).mono ?_);(case side1=>exact z16_ HO819);(case side2=>exact z81_ HO819);rintro e w143 ⟨v827,rfl,ho0,hb⟩;refine⟨_,rfl,?_⟩;replace HO815:=ak (Kd.V_elder' (z5_ HO815) (Kd.S_base ho0) hb);replace HL823_4:=ak (Kd.V_elder' z31_ (Kd.S_base ho0) hb);have HO828:=ak (Kd.N_lower (Kd.N_mono (ok':=fun k_=>some k_≠(.slice Ao134 t806.length co134:Value).ownBlock∧some k_≠(.slice (some ad823) t817.length co137:Value).ownBlock∧k_≠gb816) (Kd.S_N (Kd.S_bound ho0)) (fun k_ hk_=>⟨(Kd.fresh' (Kd.N_lt (z3_ HO808)) k_ hk_.2.1),(Kd.fresh' (Kd.N_lt (z3_ HO819)) k_ hk_.2.1),(Kd.freshB (g:=gb816) (o:=.cells #[.int .i64 t809,.int .i64 t810,.int .i64 t811,.string t812,.slice Ao131 t813.length co131] 34 (0,0)) (Hd.k_ BK816) k_ hk_.2.1)⟩)) (below_size Hd.b_));replace HO808:=ak (Kd.N_elder' (z3_ HO808) (Kd.S_base ho0) hb);replace HO819:=ak (Kd.N_elder' (z3_ HO819) (Kd.S_base ho0) hb);replace BK816:=z95_;replace HR823_4:=z229_;replace HB:=z17_;(try clear hb);(try clear hk);(try clear ho0);obtain⟨hcz144_0,hcz144_1,hcz144_2,hcz144_3,hcz144_4⟩:=Hd.c5_ BK816.out;obtain⟨hfz144_0,hfz144_1,hfz144_2,hfz144_3,hfz144_4⟩:=Hd.f5_ BK816.out;obtain⟨Ao145,co145,eo145⟩:=Kd.N_slice HO828.out;subst eo145)|(go_at_call 20;(with_reducible refine(impl_FindFeature.calls k _ _ t825 t809 t829 _ ?side1 ?side2 A30.out).mono ?_);(case side1=>exact z16_ HO828);(case side2=>exact z81_ HO828);rintro e w146 ⟨rfl,hb⟩;replace HO808:=z226_;replace HO815:=z227_;replace HO819:=z228_;replace HL823_4:=z244_;replace HO828:=z240_;replace BK816:=z95_;replace HR823_4:=z229_;replace HB:=z17_;(try clear hb);(try clear hk);(try clear hi))|(go_at_call 21;(with_reducible refine(impl_IsSource.calls k _ _ t825 true _ ?side1 ?side2 A32.out).mono ?_);(case side1=>exact z16_ HO828);(case side2=>exact z81_ HO828);rintro e w147 ⟨rfl,hb⟩;replace HO808:=z226_;replace HO815:=z227_;replace HO819:=z228_;replace HL823_4:=z244_;replace HO828:=z240_;replace BK816:=z95_;replace HR823_4:=z229_;replace HB:=z17_;clear hb;obtain⟨hcz148_0,hcz148_1,hcz148_2,hcz148_3,hcz148_4⟩:=Hd.c5_ BK816.out;obtain⟨hfz148_0,hfz148_1,hfz148_2,hfz148_3,hfz148_4⟩:=Hd.f5_ BK816.out)|((with_reducible refine gate_callee (f:=20) rfl ?_);refine Hd.gl_ 70 Try.func20 #[.slice Ao134 t806.length co134,.int .i64 t809] ?_;(with_reducible refine(impl_FindFeature.calls k _ _ t806 t809 t831 _ ?side1 ?side2 A34.out).mono ?_);(case side1=>exact z16_ HO808);(case side2=>exact z81_ HO808);rintro e w149 ⟨rfl,hb⟩;refine⟨_,rfl,?_⟩;replace HO808:=z226_;replace HO815:=z227_;replace HO819:=z228_;replace HL823_4:=z244_;replace HO828:=z240_;replace BK816:=z95_;replace HR823_4:=z229_;replace HB:=z17_;clear hb)|((with_reducible refine gate_callee (f:=25) rfl ?_);refine Hd.gl_ 84 Try.func25 #[.slice A0 l0.length c0] ?_;(with_reducible refine(spec_DrawEqualSources.calls k _ _ l0 t842 t845 _ ?side1 ?side2 A123.out).mono ?_);(case side1=>exact z15_ HR0);(case side2=>exact HC0.out);rintro e w150 ⟨v843,v846,rfl,ho0,ho1,hb⟩;refine⟨_,rfl,?_⟩;replace HO815:=z256_;replace HL823_4:=z286_;have HO844:=ak (Kd.N_lower (Kd.N_mono (ok':=fun k_=>some k_≠(v846:Value).ownBlock∧some k_≠(.slice Ao134 t806.length co134:Value).ownBlock∧some k_≠(.slice (some ad823) t817.length co137:Value).ownBlock∧some k_≠(.slice Ao145 t825.length co145:Value).ownBlock∧k_≠gb816) ho0 (fun k_ hk_=>⟨hk_.2,(Kd.fresh' (Kd.N_lt (z3_ HO808)) k_ hk_.1),(Kd.fresh' (Kd.N_lt (z3_ HO819)) k_ hk_.1),(Kd.fresh' (Kd.N_lt (z3_ HO828)) k_ hk_.1),(Kd.freshB (g:=gb816) (o:=.cells #[.int .i64 t809,.int .i64 t810,.int .i64 t811,.string t812,.slice Ao131 t813.length co131] 34 (0,0)) (Hd.k_ BK816) k_ hk_.1)⟩)) (below_size Hd.b_));have HO847:=ak (Kd.N_lower (Kd.N_mono (ok':=fun k_=>some k_≠(v843:Value).ownBlock∧some k_≠(.slice Ao134 t806.length co134:Value).ownBlock∧some k_≠(.slice (some ad823) t817.length co137:Value).ownBlock∧some k_≠(.slice Ao145 t825.length co145:Value).ownBlock∧k_≠gb816) ho1 (fun k_ hk_=>⟨hk_.2,(Kd.fresh' (Kd.N_lt (z3_ HO808)) k_ hk_.1),(Kd.fresh' (Kd.N_lt (z3_ HO819)) k_ hk_.1),(Kd.fresh' (Kd.N_lt (z3_ HO828)) k_ hk_.1),(Kd.freshB (g:=gb816) (o:=.cells #[.int .i64 t809,.int .i64 t810,.int .i64 t811,.string t812,.slice Ao131 t813.length co131] 34 (0,0)) (Hd.k_ BK816) k_ hk_.1)⟩)) (below_size Hd.b_));replace HO808:=z257_;replace HO819:=z258_;replace HO828:=z285_;replace BK816:=z95_;replace HR823_4:=z229_;replace HB:=z17_;clear hb ho0;(try clear ho1);obtain⟨Ao151,co151,eo151⟩:=Kd.N_slice HO844.out;subst eo151;obtain⟨Ao152,co152,eo152⟩:=Kd.N_slice HO847.out;subst eo152)|((with_reducible refine gate_callee (f:=24) rfl ?_);refine Hd.gl_ 89 Try.func24 #[.slice Ao151 t842.length co151,.slice Ao152 t845.length co152] ?_;(with_reducible refine(impl_EqualSources.calls k _ _ t842 _ _ t845 t848 _ ?side1 ?side2 ?side3 ?side4 A124.out).mono ?_);(case side1=>exact z16_ HO844);(case side2=>exact z81_ HO844);(case side3=>exact z16_ HO847);(case side4=>exact z81_ HO847);rintro e w153 ⟨rfl,hb⟩;refine⟨_,rfl,?_⟩;replace HO808:=z226_;replace HO815:=z227_;replace HO819:=z228_;replace HL823_4:=z244_;replace HO828:=z240_;replace HO844:=ak (Kd.N_below (z3_ HO844) hb);replace HO847:=ak (Kd.N_below (z3_ HO847) hb);replace BK816:=z95_;replace HR823_4:=z229_;replace HB:=z17_;clear hb)|((with_reducible refine gate_callee (f:=24) rfl ?_);refine Hd.gl_ 92 Try.func24 #[.slice Ao152 t845.length co152,.slice Ao151 t842.length co151] ?_;(with_reducible refine(impl_EqualSources.calls k _ _ t845 _ _ t842 t849 _ ?side1 ?side2 ?side3 ?side4 A125.out).mono ?_);(case side1=>exact z16_ HO847);(case side2=>exact z81_ HO847);(case side3=>exact z16_ HO844);(case side4=>exact z81_ HO844);rintro e w154 ⟨rfl,hb⟩;refine⟨_,rfl,?_⟩;replace HO808:=z226_;replace HO815:=z227_;replace HO819:=z228_;replace HL823_4:=z244_;replace HO828:=z240_;replace HO844:=ak (Kd.N_below (z3_ HO844) hb);replace HO847:=ak (Kd.N_below (z3_ HO847) hb);replace BK816:=z95_;replace HR823_4:=z229_;replace HB:=z17_;clear hb)|(go_at_call 24;(with_reducible refine(impl_EqualSources.calls k _ _ t842 _ _ t842 t850 _ ?side1 ?side2 ?side3 ?side4 A127.out).mono ?_);(case side1=>exact z16_ HO844);(case side2=>exact z81_ HO844);(case side3=>exact z16_ HO844);(case side4=>exact z81_ HO844);rintro e w155 ⟨rfl,hb⟩;replace HO808:=z226_;replace HO815:=z227_;replace HO819:=z228_;replace HL823_4:=z244_;replace HO828:=z240_;replace HO844:=ak (Kd.N_below (z3_ HO844) hb);replace HO847:=ak (Kd.N_below (z3_ HO847) hb);replace BK816:=z95_;replace HR823_4:=z229_;replace HB:=z17_;clear hb))
  go_ret
  exact⟨Hd.e_,Hd.b_⟩
 rw [if_pos c35] at H
 have c35b0:=decide_eq_true c35
 clear c35
 replace H:=Hd.bd_ H;obtain⟨t832,A36,H⟩:=H
 by_cases c37:t832=true;rotate_left
 ·
  replace c37:=Bool.eq_false_iff.mpr c37
  subst c37
  rw [if_neg (show ¬ (false=true) by decide)] at H
  exact absurd H (by simp)
 subst c37
 rw [if_pos rfl] at H
 replace H:=Hd.bd_ H;obtain⟨⟨t833,t836⟩,A38,H⟩:=H;dsimp only at H
 replace H:=Hd.bd_ H;obtain⟨t839,A39,H⟩:=H
 replace H:=Hd.bd_ H;obtain⟨t840,A40,H⟩:=H
 by_cases c41:(t839==t840)=true;rotate_left
 ·
  rw [if_neg c41] at H
  have c41b0:(t839==t840)=false:=by simpa using c41
  (try (have c41b1:decide (t839=t840)=false:=by simpa using c41))
  (try (have c41b2:(t839==t840)=false:=by simpa using c41))
  (try (have c41b3:¬ (t839=t840):=by simpa using c41))
  clear c41
  exact absurd H (by simp)
 rw [if_pos c41] at H
 have c41b0:(t839==t840)=true:=c41
 (try (have c41b1:decide (t839=t840)=true:=by simpa using c41))
 (try (have c41b2:(t839==t840)=true:=by simpa using c41))
 clear c41
 replace H:=Hd.bd_ H;obtain⟨t841,A42,H⟩:=H
 obtain rfl:=Option.some.inj H
 go_enter Try.func4,Try.ntmps4
 try go_wp2_with (first|((with_reducible refine gate_callee (f:=18) rfl ?_);refine Hd.gl_ 13 Try.func18 #[.slice A0 l0.length c0] ?_;(with_reducible refine(laws_big.calls _ _ l0 false _ ?side1 ?side2 A2.out).mono ?_);(case side1=>exact z37_ HR0);(case side2=>exact HC0.out);rintro e w' ⟨rfl,⟨nd,rfl⟩⟩;refine⟨_,rfl,?_⟩)|((with_reducible refine gate_callee (f:=19) rfl ?_);refine Hd.gl_ 16 Try.func19 #[.slice A0 l0.length c0] ?_;(with_reducible refine(spec_DrawPutFeature.calls k _ _ l0 t806 t809 t810 t811 t812 t813 _ ?side1 ?side2 A4.out).mono ?_);(case side1=>exact z37_ HR0);(case side2=>exact HC0.out);rintro e w43 ⟨v807,v814,rfl,ho0,ho1,hb⟩;refine⟨_,rfl,?_⟩;have HO808:=z153_;have HO815:=z131_;replace HB:=z17_;(try clear hb);(try clear hk);(try clear ho0);(try clear ho1))|((with_reducible refine gate_dst (N:=4) rfl ?_);refine Hd.box_ 4 (#[.int .i64 0,.int .i64 0,.int .i64 0,.string (⟨#[]⟩:ByteArray),.slice none 0 0]) 34 ?_;intro gb816 hg w44 hbox hb;replace HO808:=z277_;replace HO815:=z278_;have BK816:=ak (hbox);have GW816:=z151_;have GE816:=z151_;replace HB:=z17_;clear hb hbox hg;obtain⟨hcz45_0,hcz45_1,hcz45_2,hcz45_3,hcz45_4⟩:=Hd.c5_ BK816.out;obtain⟨hfz45_0,hfz45_1,hfz45_2,hfz45_3,hfz45_4⟩:=Hd.f5_ BK816.out;obtain⟨Ao46,co46,eo46⟩:=Kd.V_slice HO815.out;subst eo46)|((with_reducible refine gate_store (t:=34) (p:=4) rfl ?_);refine store_event (t:=34) (p:=4) (v:=?vo_w47) (w1:=(((((w44.setCell ⟨gb816,0,none⟩ (.int .i64 t809)).setCell ⟨gb816,1,none⟩ (.int .i64 t810)).setCell ⟨gb816,2,none⟩ (.int .i64 t811)).setCell ⟨gb816,3,none⟩ (.string t812)).setCell ⟨gb816,4,none⟩ (.slice Ao46 t813.length co46))) ?hg ?ho ?hn ?hr ?_;(case ho=>rfl);(case hg=>rfl);(case hn=>rfl);(case hr=>exact z39_);intro w47 hw;have n0_:Aside0 (Kd.N k34 34 w47 w.heap.size (fun k_=>k_≠gb816) v807 t806):=⟨(by rw [hw];exact(by (with_reducible repeat (first|apply Kd.N_alloc|apply Kd.N_drewN|apply Kd.N_drew));exact Kd.N_mono (Kd.N_far (p:=⟨gb816,4,none⟩) (Kd.N_far (p:=⟨gb816,3,none⟩) (Kd.N_far (p:=⟨gb816,2,none⟩) (Kd.N_far (p:=⟨gb816,1,none⟩) (Kd.N_far (p:=⟨gb816,0,none⟩) (Kd.N_mono HO808.out (fun k_ hk=>(⟨hk,hk.2⟩:_∧k_≠gb816))) (fun _ hk=>hk.2) (.int .i64 t809)) (fun _ hk=>hk.2) (.int .i64 t810)) (fun _ hk=>hk.2) (.int .i64 t811)) (fun _ hk=>hk.2) (.string t812)) (fun _ hk=>hk.2) (.slice Ao46 t813.length co46)) (fun _ hk=>hk.1.2)))⟩;have n1_:Aside0 (Kd.V k75 75 w47 w.heap.size (fun k_=>some k_≠(v807:Value).ownBlock∧k_≠gb816) (.slice Ao46 t813.length co46) t813):=⟨(by rw [hw];exact(by (with_reducible repeat (first|apply Kd.V_alloc|apply Kd.V_drewN|apply Kd.V_drew));exact Kd.V_mono (Kd.V_far (p:=⟨gb816,4,none⟩) (Kd.V_far (p:=⟨gb816,3,none⟩) (Kd.V_far (p:=⟨gb816,2,none⟩) (Kd.V_far (p:=⟨gb816,1,none⟩) (Kd.V_far (p:=⟨gb816,0,none⟩) (Kd.V_mono HO815.out (fun k_ hk=>(⟨hk,hk.2⟩:_∧k_≠gb816))) (fun _ hk=>hk.2) (.int .i64 t809)) (fun _ hk=>hk.2) (.int .i64 t810)) (fun _ hk=>hk.2) (.int .i64 t811)) (fun _ hk=>hk.2) (.string t812)) (fun _ hk=>hk.2) (.slice Ao46 t813.length co46)) (fun _ hk=>⟨hk.1.1,hk.1.2⟩)))⟩;have n2_:Aside0 (w47.heap[gb816]?=some (.cells #[.int .i64 t809,.int .i64 t810,.int .i64 t811,.string t812,.slice Ao46 t813.length co46] 34 (0,0))):=⟨(z29_ BK816)⟩;have n3_:Aside0 (Below w.heap.size w w47):=⟨(by rw [hw];exact Hd.b_)⟩;clear hw;clear HO808;clear HO815;clear BK816;clear HB;have HO808:=n0_;have HO815:=n1_;have BK816:=n2_;have HB:=n3_;clear n0_ n1_ n2_ n3_;obtain⟨hcz48_0,hcz48_1,hcz48_2,hcz48_3,hcz48_4⟩:=Hd.c5_ BK816.out;obtain⟨hfz48_0,hfz48_1,hfz48_2,hfz48_3,hfz48_4⟩:=Hd.f5_ BK816.out;obtain⟨Ao49,co49,eo49⟩:=Kd.N_slice HO808.out;subst eo49)|((with_reducible refine gate_callee (f:=12) rfl ?_);refine Hd.gl_ 22 Try.func12 #[.slice Ao49 t806.length co49,.agg #[.int .i64 t809,.int .i64 t810,.int .i64 t811,.string t812,.slice Ao46 t813.length co46]] ?_;(with_reducible refine(impl_PutFeature.calls k (fun k_=>k_≠gb816) _ _ t806 t809 t810 t811 t812 _ _ t813 t817 true _ ?side1 ?side2 ?side3 A5.out).mono ?_);(case side1=>exact Kd.N_V (HO808.out));(case side2=>exact z25_ HO815);(case side3=>exact z123_ HO815);rintro e w50 ⟨v818,rfl,hs0_,hb⟩;refine⟨_,rfl,?_⟩;have ho0:=z194_;replace HO808:=ak (Kd.N_elder' (z3_ HO808) (Kd.S_base hs0_) hb);replace HO815:=ak (Kd.V_elder' (z5_ HO815) (Kd.S_base hs0_) hb);have HO819:=ak (Kd.N_lower (Kd.N_mono (ok':=fun k_=>k_≠gb816) ho0 (fun k_ hk_=>Or.elim hk_ (fun hs_=>hs_) (fun hn_=>(Kd.freshB (g:=gb816) (o:=.cells #[.int .i64 t809,.int .i64 t810,.int .i64 t811,.string t812,.slice Ao46 t813.length co46] 34 (0,0)) (Hd.k_ BK816) k_ hn_)))) (below_size Hd.b_));replace BK816:=z95_;replace HB:=z17_;(try clear hb);(try clear hk);(try clear hi);(try clear ho0);(try clear hs0_);obtain⟨hcz51_0,hcz51_1,hcz51_2,hcz51_3,hcz51_4⟩:=Hd.c5_ BK816.out;obtain⟨hfz51_0,hfz51_1,hfz51_2,hfz51_3,hfz51_4⟩:=Hd.f5_ BK816.out;obtain⟨Ao52,co52,eo52⟩:=Kd.N_slice HO819.out;subst eo52)|((with_reducible refine gate_callee (f:=20) rfl ?_);refine Hd.gl_ 29 Try.func20 #[.slice Ao52 t817.length co52,.int .i64 t809] ?_;(with_reducible refine(impl_FindFeature.calls k _ _ t817 t809 t821 _ ?side1 ?side2 A7.out).mono ?_);(case side1=>exact z16_ HO819);(case side2=>exact z81_ HO819);rintro e w53 ⟨rfl,hb⟩;refine⟨_,rfl,?_⟩;replace HO808:=z226_;replace HO815:=z227_;replace HO819:=z228_;replace BK816:=z95_;replace HB:=z17_;clear hb))
 replace HO808:=ak (Kd.N_drew HO808.out)
 replace HO815:=z165_ HO815
 replace HO819:=ak (Kd.N_drew HO819.out)
 replace BK816:=z65_ BK816
 replace HB:=z42_
 have p823:0≤(t821:Int):=od_
 have q823:t821<(t817.length:Int):=od_
 obtain⟨ad823,A823_4,c823_4,e823,hx823_0,hx823_1,hx823_2,hx823_3,hx823_4,hl823_4,hi823_4⟩:=at_T34 (Kd.N_reads' HO819.out).2.2 t821 p823 q823
 cases e823
 obtain⟨ce823,hce823,hMe823,hcc823⟩:=Kd.N_get HO819.out z34 t821 p823 (by first|exact q823|exact od_|(have e_:=z172_ HO819;omega))
 obtain⟨ua823_4,uc823_4,rfl,ul823_4,ge823_4⟩:=k34_openF hMe823
 have hv823_4:=hcc823 4 _ rfl
 rw [add_field _ _ 4 (by omega)] at hv823_4
 replace hv823_4:=Option.some.inj (hv823_4.symm.trans hx823_4)
 injection hv823_4 with hva_ hvn_ hvc_
 rw [hva_] at ge823_4
 rw [hvc_] at ul823_4
 have HL823_4:=ak (show Kd.V k75 75 _ w.heap.size _ _ ((rd_T34 t817 t821).f4) from Kd.V_mk ul823_4 ge823_4)
 clear hva_ hvn_ hvc_ ge823_4 ul823_4
 clear hcc823 hce823
 have HR823_4:=ak hi823_4
 have HC823_4:=ak hl823_4
 clear hi823_4 hl823_4
 replace p823:=eq_true p823
 replace q823:=eq_true q823
 refine start_ (n:=16) (S:=fun w'=>w'.cell? ⟨gb816,0,none⟩=some (.int .i64 t809)∧w'.cell? ⟨gb816,1,none⟩=some (.int .i64 t810)∧w'.cell? ⟨gb816,2,none⟩=some (.int .i64 t811)∧w'.cell? ⟨gb816,3,none⟩=some (.string t812)∧w'.cell? ⟨gb816,4,none⟩=some (.slice Ao46 t813.length co46)∧w'.cell? (ad823.add ((t821).toNat*5))=some (.int .i64 ((rd_T34 t817 t821).f0))∧w'.cell? ⟨(ad823.add ((t821).toNat*5)).block,(ad823.add ((t821).toNat*5)).off+1,none⟩=some (.int .i64 ((rd_T34 t817 t821).f1))∧w'.cell? ⟨(ad823.add ((t821).toNat*5)).block,(ad823.add ((t821).toNat*5)).off+2,none⟩=some (.int .i64 ((rd_T34 t817 t821).f2))∧w'.cell? ⟨(ad823.add ((t821).toNat*5)).block,(ad823.add ((t821).toNat*5)).off+3,none⟩=some (.string ((rd_T34 t817 t821).f3))∧w'.cell? ⟨(ad823.add ((t821).toNat*5)).block,(ad823.add ((t821).toNat*5)).off+4,none⟩=some (.slice A823_4 ((rd_T34 t817 t821).f4).length c823_4)) (ds:=[]) #[Z,Z,Z,Z,Z,Z,Z,Z,Z,Z,Z,Z,Z,Z,Z,Z] (by kernel_rfl) rfl rfl ⟨(blk_cell BK816.out 0).trans rfl,(blk_cell BK816.out 1).trans rfl,(blk_cell BK816.out 2).trans rfl,(blk_cell BK816.out 3).trans rfl,(blk_cell BK816.out 4).trans rfl,hx823_0,hx823_1,hx823_2,hx823_3,hx823_4⟩ (fun hHeld=>?_);refine with_tabW laws_FnFeatures.tab7 laws_FnFeatures.bits7 (fun HT_ HW_=>?_)
 generalize w53.drew=w54 at HO808 HO815 HO819 BK816 HB HL823_4 HR823_4 hx823_0 hx823_1 hx823_2 hx823_3 hx823_4 hHeld ⊢
 refine Hd.p_ HT_ 0 (some 30) #[Y,Z,Z,Z,Z,Z,Z,Z,Z,Z,Z,Z,Z,Z,Z,Z] ?_
 refine Hd.o_ HT_ 1 (some 31) #[Y,Y,Z,Z,Z,Z,Z,Z,Z,Z,Z,Z,Z,Z,Z,Z] (fun K hK=>?_)
 refine goes_ Try.func21 (by kernel_rfl) rfl #[.slice (some ad823) t817.length co52] (by rfl) rfl rfl Hd.m_ ?_
 with_reducible refine(impl_IsSource.calls k _ _ t817 true _ ?side1 ?side2 A8.out).mono ?_
 (case side1=>exact z16_ HO819)
 (case side2=>exact z81_ HO819)
 rintro e w55 ⟨rfl,hb⟩
 have HS5_:=z154_
 have HS6_:=z143_
 have HS7_:=z139_
 have HS8_:=z134_
 have HS9_:=z135_
 refine⟨_,rfl,?_⟩
 replace HO808:=z226_
 replace HO815:=z227_
 replace HO819:=z228_
 replace HL823_4:=z244_
 replace HR823_4:=ak (Kd.C_below HR823_4.out hb)
 replace BK816:=z95_
 replace HB:=z17_
 try clear hb;try clear hk
 refine hK.out _ _ ⟨(blk_cell BK816.out 0).trans rfl,(blk_cell BK816.out 1).trans rfl,(blk_cell BK816.out 2).trans rfl,(blk_cell BK816.out 3).trans rfl,(blk_cell BK816.out 4).trans rfl,HS5_,HS6_,HS7_,HS8_,HS9_⟩ (fun hHeld=>?_)
 clear hK K
 refine Hd.n_ (some 31) ?_
 refine Hd.p_ HT_ 2 (some 32) #[Y,Y,Y,Z,Z,Z,Z,Z,Z,Z,Z,Z,Z,Z,Z,Z] ?_
 refine Hd.p_ HT_ 3 (some 33) #[Y,Y,Y,Y,Z,Z,Z,Z,Z,Z,Z,Z,Z,Z,Z,Z] ?_
 refine Hd.p_ HT_ 4 (some 34) #[Y,Y,Y,Y,Y,Z,Z,Z,Z,Z,Z,Z,Z,Z,Z,Z] ?_
 refine Hd.p_ HT_ 5 (some 35) #[Y,Y,Y,Y,Y,Y,Z,Z,Z,Z,Z,Z,Z,Z,Z,Z] ?_
 refine Hd.p_ HT_ 6 (some 36) #[Y,Y,Y,Y,Y,Y,Y,Z,Z,Z,Z,Z,Z,Z,Z,Z] ?_
 refine Hd.p_ HT_ 7 (some 37) #[Y,Y,Y,Y,Y,Y,Y,Y,Z,Z,Z,Z,Z,Z,Z,Z] ?_
 refine Hd.p_ HT_ 8 (some 38) #[Y,Y,Y,Y,Y,Y,Y,Y,Y,Z,Z,Z,Z,Z,Z,Z] ?_
 refine Hd.p_ HT_ 9 (some 39) #[Y,Y,Y,Y,Y,Y,Y,Y,Y,Y,Z,Z,Z,Z,Z,Z] ?_
 refine Hd.p_ HT_ 10 (some 40) #[Y,Y,Y,Y,Y,Y,Y,Y,Y,Y,Y,Z,Z,Z,Z,Z] ?_
 refine Hd.t_ HT_ HW_ hHeld 11 (some 41) #[Y,Y,Y,Y,Y,Y,Y,Y,Y,Y,Y,Y,Z,Z,Z,Z] ?_
 refine Hd.t_ HT_ HW_ hHeld 12 (some 42) #[Y,Y,Y,Y,Y,Y,Y,Y,Y,Y,Y,Y,Y,Z,Z,Z] ?_
 refine Hd.o_ HT_ 13 (some 43) #[Y,Y,Y,Y,Y,Y,Y,Y,Y,Y,Y,Y,Y,Y,Z,Z] (fun K hK=>?_)
 refine goes_ Try.func22 (by kernel_rfl) rfl #[.agg #[.int .i64 ((rd_T34 t817 t821).f0),.int .i64 ((rd_T34 t817 t821).f1),.int .i64 ((rd_T34 t817 t821).f2),.string ((rd_T34 t817 t821).f3),.slice A823_4 ((rd_T34 t817 t821).f4).length c823_4],.agg #[.int .i64 t809,.int .i64 t810,.int .i64 t811,.string t812,.slice Ao46 t813.length co46]] (by rfl) rfl rfl Hd.m_ ?_
 with_reducible refine(impl_EqualFeatures.calls k ((rd_T34 t817 t821).f0) ((rd_T34 t817 t821).f1) ((rd_T34 t817 t821).f2) ((rd_T34 t817 t821).f3) _ _ ((rd_T34 t817 t821).f4) t809 t810 t811 t812 _ _ t813 true _ ?side1 ?side2 ?side3 ?side4 A26.out).mono ?_
 (case side1=>exact z276_)
 (case side2=>exact HC823_4.out)
 (case side3=>exact z25_ HO815)
 (case side4=>exact z123_ HO815)
 rintro e w56 ⟨rfl,hb⟩
 have HS5_:=z154_
 have HS6_:=z143_
 have HS7_:=z139_
 have HS8_:=z134_
 have HS9_:=z135_
 refine⟨_,rfl,?_⟩
 replace HO808:=z226_
 replace HO815:=z227_
 replace HO819:=z228_
 replace HL823_4:=z244_
 replace BK816:=z95_
 replace HR823_4:=z229_
 replace HB:=z17_
 try clear hb;try clear hk
 refine hK.out _ _ ⟨(blk_cell BK816.out 0).trans rfl,(blk_cell BK816.out 1).trans rfl,(blk_cell BK816.out 2).trans rfl,(blk_cell BK816.out 3).trans rfl,(blk_cell BK816.out 4).trans rfl,HS5_,HS6_,HS7_,HS8_,HS9_⟩ (fun hHeld=>?_)
 clear hK K
 refine Hd.n_ (some 43) ?_
 refine Hd.p_ HT_ 14 (some 44) #[Y,Y,Y,Y,Y,Y,Y,Y,Y,Y,Y,Y,Y,Y,Y,Z] ?_
 refine Hd.p_ HT_ 15 (some 45) #[Y,Y,Y,Y,Y,Y,Y,Y,Y,Y,Y,Y,Y,Y,Y,Y] ?_
 refine done_ (done_of HT_.out (by kernel_rfl)) ?_
 obtain⟨hcz57_0,hcz57_1,hcz57_2,hcz57_3,hcz57_4⟩:=Hd.c5_ BK816.out
 obtain⟨hfz57_0,hfz57_1,hfz57_2,hfz57_3,hfz57_4⟩:=Hd.f5_ BK816.out
 try go_wp2_with (first|((with_reducible refine gate_callee (f:=23) rfl ?_);refine Hd.gl_ 50 Try.func23 #[.slice (some ad823) t817.length co52,.int .i64 t809] ?_;(with_reducible refine(impl_TakeFeature.calls k _ _ t817 t809 t825 true _ ?side1 ?side2 A28.out).mono ?_);(case side1=>exact z16_ HO819);(case side2=>exact z81_ HO819);rintro e w58 ⟨v827,rfl,ho0,hb⟩;refine⟨_,rfl,?_⟩;replace HO815:=ak (Kd.V_elder' (z5_ HO815) (Kd.S_base ho0) hb);replace HL823_4:=ak (Kd.V_elder' z31_ (Kd.S_base ho0) hb);have HO828:=ak (Kd.N_lower (Kd.N_mono (ok':=fun k_=>some k_≠(.slice Ao49 t806.length co49:Value).ownBlock∧some k_≠(.slice (some ad823) t817.length co52:Value).ownBlock∧k_≠gb816) (Kd.S_N (Kd.S_bound ho0)) (fun k_ hk_=>⟨(Kd.fresh' (Kd.N_lt (z3_ HO808)) k_ hk_.2.1),(Kd.fresh' (Kd.N_lt (z3_ HO819)) k_ hk_.2.1),(Kd.freshB (g:=gb816) (o:=.cells #[.int .i64 t809,.int .i64 t810,.int .i64 t811,.string t812,.slice Ao46 t813.length co46] 34 (0,0)) (Hd.k_ BK816) k_ hk_.2.1)⟩)) (below_size Hd.b_));replace HO808:=ak (Kd.N_elder' (z3_ HO808) (Kd.S_base ho0) hb);replace HO819:=ak (Kd.N_elder' (z3_ HO819) (Kd.S_base ho0) hb);replace BK816:=z95_;replace HR823_4:=z229_;replace HB:=z17_;(try clear hb);(try clear hk);(try clear ho0);obtain⟨hcz59_0,hcz59_1,hcz59_2,hcz59_3,hcz59_4⟩:=Hd.c5_ BK816.out;obtain⟨hfz59_0,hfz59_1,hfz59_2,hfz59_3,hfz59_4⟩:=Hd.f5_ BK816.out;obtain⟨Ao60,co60,eo60⟩:=Kd.N_slice HO828.out;subst eo60)|(go_at_call 20;(with_reducible refine(impl_FindFeature.calls k _ _ t825 t809 t829 _ ?side1 ?side2 A30.out).mono ?_);(case side1=>exact z16_ HO828);(case side2=>exact z81_ HO828);rintro e w61 ⟨rfl,hb⟩;replace HO808:=z226_;replace HO815:=z227_;replace HO819:=z228_;replace HL823_4:=z244_;replace HO828:=z240_;replace BK816:=z95_;replace HR823_4:=z229_;replace HB:=z17_;(try clear hb);(try clear hk);(try clear hi))|(go_at_call 21;(with_reducible refine(impl_IsSource.calls k _ _ t825 true _ ?side1 ?side2 A32.out).mono ?_);(case side1=>exact z16_ HO828);(case side2=>exact z81_ HO828);rintro e w62 ⟨rfl,hb⟩;replace HO808:=z226_;replace HO815:=z227_;replace HO819:=z228_;replace HL823_4:=z244_;replace HO828:=z240_;replace BK816:=z95_;replace HR823_4:=z229_;replace HB:=z17_;clear hb;obtain⟨hcz63_0,hcz63_1,hcz63_2,hcz63_3,hcz63_4⟩:=Hd.c5_ BK816.out;obtain⟨hfz63_0,hfz63_1,hfz63_2,hfz63_3,hfz63_4⟩:=Hd.f5_ BK816.out)|((with_reducible refine gate_callee (f:=20) rfl ?_);refine Hd.gl_ 70 Try.func20 #[.slice Ao49 t806.length co49,.int .i64 t809] ?_;(with_reducible refine(impl_FindFeature.calls k _ _ t806 t809 t831 _ ?side1 ?side2 A34.out).mono ?_);(case side1=>exact z16_ HO808);(case side2=>exact z81_ HO808);rintro e w64 ⟨rfl,hb⟩;refine⟨_,rfl,?_⟩;replace HO808:=z226_;replace HO815:=z227_;replace HO819:=z228_;replace HL823_4:=z244_;replace HO828:=z240_;replace BK816:=z95_;replace HR823_4:=z229_;replace HB:=z17_;clear hb)|(go_at_call 24;(with_reducible refine(impl_EqualSources.calls k _ _ t825 _ _ t806 true _ ?side1 ?side2 ?side3 ?side4 A36.out).mono ?_);(case side1=>exact z16_ HO828);(case side2=>exact z81_ HO828);(case side3=>exact z16_ HO808);(case side4=>exact z81_ HO808);rintro e w65 ⟨rfl,hb⟩;replace HO808:=z226_;replace HO815:=z227_;replace HO819:=z228_;replace HL823_4:=z244_;replace HO828:=z240_;replace BK816:=z95_;replace HR823_4:=z229_;replace HB:=z17_;clear hb)|((with_reducible refine gate_callee (f:=25) rfl ?_);refine Hd.gl_ 84 Try.func25 #[.slice A0 l0.length c0] ?_;(with_reducible refine(spec_DrawEqualSources.calls k _ _ l0 t833 t836 _ ?side1 ?side2 A38.out).mono ?_);(case side1=>exact z15_ HR0);(case side2=>exact HC0.out);rintro e w66 ⟨v834,v837,rfl,ho0,ho1,hb⟩;refine⟨_,rfl,?_⟩;replace HO815:=z256_;replace HL823_4:=z286_;have HO835:=ak (Kd.N_lower (Kd.N_mono (ok':=fun k_=>some k_≠(v837:Value).ownBlock∧some k_≠(.slice Ao49 t806.length co49:Value).ownBlock∧some k_≠(.slice (some ad823) t817.length co52:Value).ownBlock∧some k_≠(.slice Ao60 t825.length co60:Value).ownBlock∧k_≠gb816) ho0 (fun k_ hk_=>⟨hk_.2,(Kd.fresh' (Kd.N_lt (z3_ HO808)) k_ hk_.1),(Kd.fresh' (Kd.N_lt (z3_ HO819)) k_ hk_.1),(Kd.fresh' (Kd.N_lt (z3_ HO828)) k_ hk_.1),(Kd.freshB (g:=gb816) (o:=.cells #[.int .i64 t809,.int .i64 t810,.int .i64 t811,.string t812,.slice Ao46 t813.length co46] 34 (0,0)) (Hd.k_ BK816) k_ hk_.1)⟩)) (below_size Hd.b_));have HO838:=ak (Kd.N_lower (Kd.N_mono (ok':=fun k_=>some k_≠(v834:Value).ownBlock∧some k_≠(.slice Ao49 t806.length co49:Value).ownBlock∧some k_≠(.slice (some ad823) t817.length co52:Value).ownBlock∧some k_≠(.slice Ao60 t825.length co60:Value).ownBlock∧k_≠gb816) ho1 (fun k_ hk_=>⟨hk_.2,(Kd.fresh' (Kd.N_lt (z3_ HO808)) k_ hk_.1),(Kd.fresh' (Kd.N_lt (z3_ HO819)) k_ hk_.1),(Kd.fresh' (Kd.N_lt (z3_ HO828)) k_ hk_.1),(Kd.freshB (g:=gb816) (o:=.cells #[.int .i64 t809,.int .i64 t810,.int .i64 t811,.string t812,.slice Ao46 t813.length co46] 34 (0,0)) (Hd.k_ BK816) k_ hk_.1)⟩)) (below_size Hd.b_));replace HO808:=z257_;replace HO819:=z258_;replace HO828:=z285_;replace BK816:=z95_;replace HR823_4:=z229_;replace HB:=z17_;clear hb ho0;(try clear ho1);obtain⟨Ao67,co67,eo67⟩:=Kd.N_slice HO835.out;subst eo67;obtain⟨Ao68,co68,eo68⟩:=Kd.N_slice HO838.out;subst eo68)|((with_reducible refine gate_callee (f:=24) rfl ?_);refine Hd.gl_ 89 Try.func24 #[.slice Ao67 t833.length co67,.slice Ao68 t836.length co68] ?_;(with_reducible refine(impl_EqualSources.calls k _ _ t833 _ _ t836 t839 _ ?side1 ?side2 ?side3 ?side4 A39.out).mono ?_);(case side1=>exact z16_ HO835);(case side2=>exact z81_ HO835);(case side3=>exact z16_ HO838);(case side4=>exact z81_ HO838);rintro e w69 ⟨rfl,hb⟩;refine⟨_,rfl,?_⟩;replace HO808:=z226_;replace HO815:=z227_;replace HO819:=z228_;replace HL823_4:=z244_;replace HO828:=z240_;replace HO835:=ak (Kd.N_below (z3_ HO835) hb);replace HO838:=ak (Kd.N_below (z3_ HO838) hb);replace BK816:=z95_;replace HR823_4:=z229_;replace HB:=z17_;clear hb)|((with_reducible refine gate_callee (f:=24) rfl ?_);refine Hd.gl_ 92 Try.func24 #[.slice Ao68 t836.length co68,.slice Ao67 t833.length co67] ?_;(with_reducible refine(impl_EqualSources.calls k _ _ t836 _ _ t833 t840 _ ?side1 ?side2 ?side3 ?side4 A40.out).mono ?_);(case side1=>exact z16_ HO838);(case side2=>exact z81_ HO838);(case side3=>exact z16_ HO835);(case side4=>exact z81_ HO835);rintro e w70 ⟨rfl,hb⟩;refine⟨_,rfl,?_⟩;replace HO808:=z226_;replace HO815:=z227_;replace HO819:=z228_;replace HL823_4:=z244_;replace HO828:=z240_;replace HO835:=ak (Kd.N_below (z3_ HO835) hb);replace HO838:=ak (Kd.N_below (z3_ HO838) hb);replace BK816:=z95_;replace HR823_4:=z229_;replace HB:=z17_;clear hb)|(go_at_call 24;(with_reducible refine(impl_EqualSources.calls k _ _ t833 _ _ t833 t841 _ ?side1 ?side2 ?side3 ?side4 A42.out).mono ?_);(case side1=>exact z16_ HO835);(case side2=>exact z81_ HO835);(case side3=>exact z16_ HO835);(case side4=>exact z81_ HO835);rintro e w71 ⟨rfl,hb⟩;replace HO808:=z226_;replace HO815:=z227_;replace HO819:=z228_;replace HL823_4:=z244_;replace HO828:=z240_;replace HO835:=ak (Kd.N_below (z3_ HO835) hb);replace HO838:=ak (Kd.N_below (z3_ HO838) hb);replace BK816:=z95_;replace HR823_4:=z229_;replace HB:=z17_;clear hb))
 go_ret
 exact⟨Hd.e_,Hd.b_⟩
end Go.Proofs.Ytbbdhlggnglfgaa.MFnFeatures
