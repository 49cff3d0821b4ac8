-- Laid by this session's program pp.py, after the kit's print and texts of the session's own. Not trusted: Lean checks it.
import Derived.Test.YtbbdhlggnglfgaaZFnMeetsMx0
import Derived.Test.YtbbdhlggnglfgaaZFnMeetsMx2
import Derived.Test.YtbbdhlggnglfgaaZFnMeetsMx7
import Derived.Test.YtbbdhlggnglfgaaZFnMeetsMx17
import Derived.Test.YtbbdhlggnglfgaaZFnMeetsMx18
namespace Go.Proofs.Ytbbdhlggnglfgaa.MFnMeets
open Go.RowKit Go.Proofs.YtbbdhlggnglfgaaW.PrintWords Go.Proofs.YtbbdhlggnglfgaaW.PrintLast Go.Proofs.YtbbdhlggnglfgaaW.PrintMore
attribute [local go_sem] max2_int min2_int max_two min_two max_three min_three max_four min_four   -- for this text's walks alone
set_option linter.unusedVariables false
set_option maxHeartbeats 8000000
set_option maxRecDepth 100000
set_option linter.unusedSimpArgs false
mutual
def laws_FnMeets.l0 : Nat → List (S34) → List (S82) → Int → Int → Option (Bool)
 | 0,_,_,_,_ => none
 | k + 1,x5,x6,x7,x8 => if x8 ≤ 3 then ((impl_CountMeets.f k x6 x8).bind fun t791 => (laws_FnMeets.l0 k x5 x6 (wrap64 (x7 + t791)) (wrap64 (x8 + 1)))) else (if x7 = (x6.length : Int) then (laws_FnMeets.l1 k x5 x6 0 0) else (some false))
def laws_FnMeets.l1 : Nat → List (S34) → List (S82) → Int → Int → Option (Bool)
 | 0,_,_,_,_ => none
 | k + 1,x5,x6,x9,x10 => if x10 < (x5.length : Int) then ((impl_IsSource.f k x5).bind fun t792 => (laws_FnMeets.j2 k x5 x6 x9 x10 t792)) else (laws_FnMeets.j2 k x5 x6 x9 x10 false)
def laws_FnMeets.j2 : Nat → List (S34) → List (S82) → Int → Int → Bool → Option (Bool)
 | 0,_,_,_,_,_ => none
 | k + 1,x5,x6,x9,x10,x54 => if x54 = true then (laws_FnMeets.l2 k x5 x6 x9 x10 0) else (some (x9 == (x6.length : Int)))
def laws_FnMeets.l2 : Nat → List (S34) → List (S82) → Int → Int → Int → Option (Bool)
 | 0,_,_,_,_,_ => none
 | k + 1,x5,x6,x9,x10,x11 => if x11 < x10 then (if 0 ≤ x10 then (if x10 < (x5.length : Int) then (if 0 ≤ x11 then (if x11 < (x5.length : Int) then ((impl_FeaturesMeet.f k ((rd_T34 x5 x10).f0) ((rd_T34 x5 x10).f1) ((rd_T34 x5 x10).f2) ((rd_T34 x5 x10).f3) ((rd_T34 x5 x10).f4) ((rd_T34 x5 x11).f0) ((rd_T34 x5 x11).f1) ((rd_T34 x5 x11).f2) ((rd_T34 x5 x11).f3) ((rd_T34 x5 x11).f4)).bind fun t795 => (if t795 = 0 then (laws_FnMeets.l2 k x5 x6 x9 x10 (wrap64 (x11 + 1))) else (laws_FnMeets.l2 k x5 x6 (wrap64 (x9 + 1)) x10 (wrap64 (x11 + 1))))) else (none)) else (none)) else (none)) else (none)) else (laws_FnMeets.l1 k x5 x6 x9 (wrap64 (x10 + 1)))
end
def laws_FnMeets.f (k : Nat) (l0 : List Int) : Option (Bool):=(laws_big.f l0).bind fun t765 => (if t765 = true then (some true) else ((spec_DrawFeaturesMeet.f k l0).bind fun bt766 => ((impl_FeaturesMeet.f k bt766.1 bt766.2.1 bt766.2.2.1 bt766.2.2.2.1 bt766.2.2.2.2.1 bt766.2.2.2.2.2.1 bt766.2.2.2.2.2.2.1 bt766.2.2.2.2.2.2.2.1 bt766.2.2.2.2.2.2.2.2.1 bt766.2.2.2.2.2.2.2.2.2).bind fun t782 => ((impl_FeaturesMeet.f k bt766.2.2.2.2.2.1 bt766.2.2.2.2.2.2.1 bt766.2.2.2.2.2.2.2.1 bt766.2.2.2.2.2.2.2.2.1 bt766.2.2.2.2.2.2.2.2.2 bt766.1 bt766.2.1 bt766.2.2.1 bt766.2.2.2.1 bt766.2.2.2.2.1).bind fun t783 => (if t782 = t783 then ((spec_DrawMeetsOf.f k l0).bind fun t784 => ((impl_MeetsOf.f k t784).bind fun t787 => ((impl_NoMore.f k t787 t787).bind fun t790 => (if t790 = true then (laws_FnMeets.l0 k t784 t787 0 1) else (some false))))) else (some false))))))
def laws_FnMeets.T24 : Bool × List (List Nat × List Nat):=(true,[([],[]),([],[]),([0,1],[0,1]),([2],[2]),([],[]),([],[]),([4,5],[4,5]),([6],[6]),([3,7],[3,7]),([8],[8])])
def laws_FnMeets.B24 : List Nat:=[0,0,3,7,0,0,48,112,255,511]
theorem laws_FnMeets.tab24 : rtab .any (opsOf Try.f5 24) = laws_FnMeets.T24:=by kernel_rfl
theorem laws_FnMeets.bits24 : waitsOk laws_FnMeets.T24.2 laws_FnMeets.B24 = true:=by kernel_rfl
theorem laws_FnMeets.calls (k : Nat) (A0 : Option Addr) (c0 : Nat) (l0 : List Int) (r : Bool) (w : World) (hr0 : Kd.C (Kd.int .u8) w A0 l0.length l0) (hc0 : l0.length ≤ c0) (h : laws_FnMeets.f k l0 = some r) :
  Calls Try.prog 5 #[.slice A0 l0.length c0] w fun e w' => e = .returned (.bool r) ∧ Below w.heap.size w w':=by
 have hu34:=Try.underlying34
 have HR0:=ak hr0
 have HC0:=ak hc0
 clear hr0 hc0
 have HB:=ak (Below.refl w.heap.size w)
 have H:=h;clear h;unfold laws_FnMeets.f at H
 replace H:=Hd.bd_ H;obtain ⟨t765,A2,H⟩:=H
 by_cases c3 : t765 = true
 ·
  subst c3
  rw [if_pos rfl] at H
  obtain rfl:=Option.some.inj H
  go_enter Try.func5,Try.ntmps5
  go_wp2_with (first | ((with_reducible refine gate_callee (f:=18) rfl ?_);refine Hd.gl_ 13 Try.func18 #[.slice A0 l0.length c0] ?_;(with_reducible refine (laws_big.calls _ _ l0 true _ ?side1 ?side2 A2.out).mono ?_);(case side1 => exact z27_ HR0);(case side2 => exact HC0.out);rintro e w' ⟨rfl,⟨nd,rfl⟩⟩;refine ⟨_,rfl,?_⟩))
  go_ret
  exact ⟨Hd.e_,Hd.b_⟩
 replace c3:=Bool.eq_false_iff.mpr c3
 subst c3
 rw [if_neg (show ¬ (false = true) by decide)] at H
 replace H:=Hd.bd_ H;obtain ⟨⟨t766,t767,t768,t769,t770,t773,t774,t775,t776,t777⟩,A4,H⟩:=H;dsimp only at H
 replace H:=Hd.bd_ H;obtain ⟨t782,A5,H⟩:=H
 replace H:=Hd.bd_ H;obtain ⟨t783,A6,H⟩:=H
 by_cases c7 : t782 = t783;rotate_left
 ·
  rw [if_neg c7] at H
  have c7b0:=beq_eq_false_iff_ne.mpr c7
  have c7b1:=bne_iff_ne.mpr c7
  obtain rfl:=Option.some.inj H
  go_enter Try.func5,Try.ntmps5
  try go_wp2_with (first | ((with_reducible refine gate_callee (f:=18) rfl ?_);refine Hd.gl_ 13 Try.func18 #[.slice A0 l0.length c0] ?_;(with_reducible refine (laws_big.calls _ _ l0 false _ ?side1 ?side2 A2.out).mono ?_);(case side1 => exact z27_ HR0);(case side2 => exact HC0.out);rintro e w' ⟨rfl,⟨nd,rfl⟩⟩;refine ⟨_,rfl,?_⟩) | ((with_reducible refine gate_callee (f:=26) rfl ?_);refine Hd.gl_ 16 Try.func26 #[.slice A0 l0.length c0] ?_;(with_reducible refine (spec_DrawFeaturesMeet.calls k _ _ l0 t766 t767 t768 t769 t770 t773 t774 t775 t776 t777 _ ?side1 ?side2 A4.out).mono ?_);(case side1 => exact z27_ HR0);(case side2 => exact HC0.out);rintro e w66 ⟨v771,v778,rfl,ho0,ho1,hb⟩;refine ⟨_,rfl,?_⟩;have HO772:=ak (Kd.V_lower (Kd.V_mono (ok':=fun k_ => True) ho0 (fun k_ hk_ => trivial)) (below_size Hd.b_));have HO779:=ak (Kd.V_lower (Kd.V_mono (ok':=fun k_ => True) ho1 (fun k_ hk_ => trivial)) (below_size Hd.b_));replace HB:=ak (below_step Hd.b_ hb);clear hb ho0;(try clear ho1)) | ((with_reducible refine gate_dst (N:=3) rfl ?_);refine Hd.box_ 3 (#[.int .i64 0,.int .i64 0,.int .i64 0,.string (⟨#[]⟩ : ByteArray),.slice none 0 0]) 34 ?_;intro gb780 hg w67 hbox hb;replace HO772:=ak (Kd.V_below (Kd.V_elderB (z5_ HO772) gb780 (Nat.le_of_eq hg.symm)) hb);replace HO779:=ak (Kd.V_below (Kd.V_elderB (z5_ HO779) gb780 (Nat.le_of_eq hg.symm)) hb);have BK780:=ak (hbox);have GW780:=ak ((Hd.g_ hg Hd.b_ : w.heap.size ≤ gb780));have GE780:=ak ((Hd.g_ hg Hd.b_ : w.heap.size ≤ gb780));replace HB:=ak (below_step Hd.b_ hb);clear hb hbox hg) | ((with_reducible refine gate_dst (N:=4) rfl ?_);refine Hd.box_ 4 (#[.int .i64 0,.int .i64 0,.int .i64 0,.string (⟨#[]⟩ : ByteArray),.slice none 0 0]) 34 ?_;intro gb781 hg w68 hbox hb;replace HO772:=ak (Kd.V_below (Kd.V_elderB (z5_ HO772) gb781 (Nat.le_of_eq hg.symm)) hb);replace HO779:=ak (Kd.V_below (Kd.V_elderB (z5_ HO779) gb781 (Nat.le_of_eq hg.symm)) hb);have BK781:=ak (hbox);have GW781:=ak ((Hd.g_ hg Hd.b_ : w.heap.size ≤ gb781));have GE781:=ak ((Hd.g_ hg Hd.b_ : w.heap.size ≤ gb781));replace HB:=ak (below_step Hd.b_ hb);have NB780_781:=ak ((Hd.lt_ BK780 hg));have NB781_780:=ak ((Hd.gt_ BK780 hg));replace BK780:=ak (Hd.kb_ BK780 hb);clear hb hbox hg;have hnb69:=NB780_781.out;have hnc69:=NB781_780.out;obtain ⟨hcz70_0,hcz70_1,hcz70_2,hcz70_3,hcz70_4⟩:=Hd.c5_ BK780.out;obtain ⟨hfz70_0,hfz70_1,hfz70_2,hfz70_3,hfz70_4⟩:=Hd.f5_ BK780.out;obtain ⟨Ao71,co71,eo71⟩:=Kd.V_slice HO772.out;subst eo71;obtain ⟨hcz72_0,hcz72_1,hcz72_2,hcz72_3,hcz72_4⟩:=Hd.c5_ BK781.out;obtain ⟨hfz72_0,hfz72_1,hfz72_2,hfz72_3,hfz72_4⟩:=Hd.f5_ BK781.out;obtain ⟨Ao73,co73,eo73⟩:=Kd.V_slice HO779.out;subst eo73))
  have n0_ : Aside0 (Kd.V k75 75 ((((((((((w68.setCell ⟨gb780,0,none⟩ (.int .i64 t766)).setCell ⟨gb780,1,none⟩ (.int .i64 t767)).setCell ⟨gb780,2,none⟩ (.int .i64 t768)).setCell ⟨gb780,3,none⟩ (.string t769)).setCell ⟨gb780,4,none⟩ (.slice Ao71 t770.length co71)).setCell ⟨gb781,0,none⟩ (.int .i64 t773)).setCell ⟨gb781,1,none⟩ (.int .i64 t774)).setCell ⟨gb781,2,none⟩ (.int .i64 t775)).setCell ⟨gb781,3,none⟩ (.string t776)).setCell ⟨gb781,4,none⟩ (.slice Ao73 t777.length co73)) w.heap.size (fun k_ => k_ ≠ gb780 ∧ k_ ≠ gb781) (.slice Ao71 t770.length co71) t770):=⟨z41_ HO772⟩
  have n1_ : Aside0 (Kd.V k75 75 ((((((((((w68.setCell ⟨gb780,0,none⟩ (.int .i64 t766)).setCell ⟨gb780,1,none⟩ (.int .i64 t767)).setCell ⟨gb780,2,none⟩ (.int .i64 t768)).setCell ⟨gb780,3,none⟩ (.string t769)).setCell ⟨gb780,4,none⟩ (.slice Ao71 t770.length co71)).setCell ⟨gb781,0,none⟩ (.int .i64 t773)).setCell ⟨gb781,1,none⟩ (.int .i64 t774)).setCell ⟨gb781,2,none⟩ (.int .i64 t775)).setCell ⟨gb781,3,none⟩ (.string t776)).setCell ⟨gb781,4,none⟩ (.slice Ao73 t777.length co73)) w.heap.size (fun k_ => k_ ≠ gb780 ∧ k_ ≠ gb781) (.slice Ao73 t777.length co73) t777):=⟨z41_ HO779⟩
  have n2_ : Aside0 (((((((((((w68.setCell ⟨gb780,0,none⟩ (.int .i64 t766)).setCell ⟨gb780,1,none⟩ (.int .i64 t767)).setCell ⟨gb780,2,none⟩ (.int .i64 t768)).setCell ⟨gb780,3,none⟩ (.string t769)).setCell ⟨gb780,4,none⟩ (.slice Ao71 t770.length co71)).setCell ⟨gb781,0,none⟩ (.int .i64 t773)).setCell ⟨gb781,1,none⟩ (.int .i64 t774)).setCell ⟨gb781,2,none⟩ (.int .i64 t775)).setCell ⟨gb781,3,none⟩ (.string t776)).setCell ⟨gb781,4,none⟩ (.slice Ao73 t777.length co73)).heap[gb780]? = some (.cells #[.int .i64 t766,.int .i64 t767,.int .i64 t768,.string t769,.slice Ao71 t770.length co71] 34 (0,0))):=⟨z17_ NB780_781 BK780⟩
  have n3_ : Aside0 (((((((((((w68.setCell ⟨gb780,0,none⟩ (.int .i64 t766)).setCell ⟨gb780,1,none⟩ (.int .i64 t767)).setCell ⟨gb780,2,none⟩ (.int .i64 t768)).setCell ⟨gb780,3,none⟩ (.string t769)).setCell ⟨gb780,4,none⟩ (.slice Ao71 t770.length co71)).setCell ⟨gb781,0,none⟩ (.int .i64 t773)).setCell ⟨gb781,1,none⟩ (.int .i64 t774)).setCell ⟨gb781,2,none⟩ (.int .i64 t775)).setCell ⟨gb781,3,none⟩ (.string t776)).setCell ⟨gb781,4,none⟩ (.slice Ao73 t777.length co73)).heap[gb781]? = some (.cells #[.int .i64 t773,.int .i64 t774,.int .i64 t775,.string t776,.slice Ao73 t777.length co73] 34 (0,0))):=⟨z18_ NB781_780 BK781⟩
  have n4_ : Aside0 (Below w.heap.size w ((((((((((w68.setCell ⟨gb780,0,none⟩ (.int .i64 t766)).setCell ⟨gb780,1,none⟩ (.int .i64 t767)).setCell ⟨gb780,2,none⟩ (.int .i64 t768)).setCell ⟨gb780,3,none⟩ (.string t769)).setCell ⟨gb780,4,none⟩ (.slice Ao71 t770.length co71)).setCell ⟨gb781,0,none⟩ (.int .i64 t773)).setCell ⟨gb781,1,none⟩ (.int .i64 t774)).setCell ⟨gb781,2,none⟩ (.int .i64 t775)).setCell ⟨gb781,3,none⟩ (.string t776)).setCell ⟨gb781,4,none⟩ (.slice Ao73 t777.length co73))):=⟨Hd.b_⟩
  try clear HO772;try clear HO779;try clear BK780;try clear BK781;try clear HB
  generalize ((((((((((w68.setCell ⟨gb780,0,none⟩ (.int .i64 t766)).setCell ⟨gb780,1,none⟩ (.int .i64 t767)).setCell ⟨gb780,2,none⟩ (.int .i64 t768)).setCell ⟨gb780,3,none⟩ (.string t769)).setCell ⟨gb780,4,none⟩ (.slice Ao71 t770.length co71)).setCell ⟨gb781,0,none⟩ (.int .i64 t773)).setCell ⟨gb781,1,none⟩ (.int .i64 t774)).setCell ⟨gb781,2,none⟩ (.int .i64 t775)).setCell ⟨gb781,3,none⟩ (.string t776)).setCell ⟨gb781,4,none⟩ (.slice Ao73 t777.length co73)) = w74 at n0_ n1_ n2_ n3_ n4_ ⊢
  have HO772:=n0_
  have HO779:=n1_
  have BK780:=n2_
  have BK781:=n3_
  have HB:=n4_
  clear n0_ n1_ n2_ n3_ n4_
  replace HO772:=ak (Kd.V_drew HO772.out)
  replace HO779:=ak (Kd.V_drew HO779.out)
  replace BK780:=ak (blk_drew BK780.out)
  replace BK781:=ak (blk_drew BK781.out)
  replace HB:=ak (below_drew1 HB.out)
  refine start_ (n:=7) (S:=fun w' => w'.cell? ⟨gb780,0,none⟩ = some (.int .i64 t766) ∧ w'.cell? ⟨gb780,1,none⟩ = some (.int .i64 t767) ∧ w'.cell? ⟨gb780,2,none⟩ = some (.int .i64 t768) ∧ w'.cell? ⟨gb780,3,none⟩ = some (.string t769) ∧ w'.cell? ⟨gb780,4,none⟩ = some (.slice Ao71 t770.length co71) ∧ w'.cell? ⟨gb781,0,none⟩ = some (.int .i64 t773) ∧ w'.cell? ⟨gb781,1,none⟩ = some (.int .i64 t774) ∧ w'.cell? ⟨gb781,2,none⟩ = some (.int .i64 t775) ∧ w'.cell? ⟨gb781,3,none⟩ = some (.string t776) ∧ w'.cell? ⟨gb781,4,none⟩ = some (.slice Ao73 t777.length co73)) (ds:=[]) #[N_,N_,N_,N_,N_,N_,N_] (by kernel_rfl) rfl rfl ⟨(blk_cell BK780.out 0).trans rfl,(blk_cell BK780.out 1).trans rfl,(blk_cell BK780.out 2).trans rfl,(blk_cell BK780.out 3).trans rfl,(blk_cell BK780.out 4).trans rfl,(blk_cell BK781.out 0).trans rfl,(blk_cell BK781.out 1).trans rfl,(blk_cell BK781.out 2).trans rfl,(blk_cell BK781.out 3).trans rfl,(blk_cell BK781.out 4).trans rfl⟩ (fun hHeld => ?_)
  generalize w74.drew = w75 at HO772 HO779 BK780 BK781 HB hHeld ⊢
  refine take_ (i:=0) (N:=some 19) (v:=?_) (a':=?_) #[Y_,N_,N_,N_,N_,N_,N_] rfl rfl (by kernel_rfl) (fun _ _ _ h => h) (Or.inl ⟨by rfl,?_⟩) hHeld ?_ ?_
  rotate_left
  ·
   rintro w' ⟨s0,s1,s2,s3,s4,s5,s6,s7,s8,s9⟩
   go_simp
   with_reducible rfl
  rotate_left
  ·
   simp only [Act.put,List.setIfInBounds_toArray,List.set_cons_zero,List.set_cons_succ,i64_w,i32_w]
   rfl
  refine take_ (i:=1) (N:=some 20) (v:=?_) (a':=?_) #[Y_,Y_,N_,N_,N_,N_,N_] rfl rfl (by kernel_rfl) (fun _ _ _ h => h) (Or.inl ⟨by rfl,?_⟩) hHeld ?_ ?_
  rotate_left
  ·
   rintro w' ⟨s0,s1,s2,s3,s4,s5,s6,s7,s8,s9⟩
   go_simp
   with_reducible rfl
  rotate_left
  ·
   simp only [Act.put,List.setIfInBounds_toArray,List.set_cons_zero,List.set_cons_succ,i64_w,i32_w]
   rfl
  refine take_ (i:=3) (N:=some 22) (v:=?_) (a':=?_) #[Y_,Y_,N_,Y_,N_,N_,N_] rfl rfl (by kernel_rfl) (fun _ _ _ h => h) (Or.inl ⟨by rfl,?_⟩) hHeld ?_ ?_
  rotate_left
  ·
   rintro w' ⟨s0,s1,s2,s3,s4,s5,s6,s7,s8,s9⟩
   go_simp
   with_reducible rfl
  rotate_left
  ·
   simp only [Act.put,List.setIfInBounds_toArray,List.set_cons_zero,List.set_cons_succ,i64_w,i32_w]
   rfl
  refine take_ (i:=4) (N:=some 23) (v:=?_) (a':=?_) #[Y_,Y_,N_,Y_,Y_,N_,N_] rfl rfl (by kernel_rfl) (fun _ _ _ h => h) (Or.inl ⟨by rfl,?_⟩) hHeld ?_ ?_
  rotate_left
  ·
   rintro w' ⟨s0,s1,s2,s3,s4,s5,s6,s7,s8,s9⟩
   go_simp
   with_reducible rfl
  rotate_left
  ·
   simp only [Act.put,List.setIfInBounds_toArray,List.set_cons_zero,List.set_cons_succ,i64_w,i32_w]
   rfl
  refine one_ (i:=2) (N:=some 21) #[Y_,Y_,Y_,Y_,Y_,N_,N_] rfl rfl (by kernel_rfl) (by decide) (fun K hK => ?_)
  refine goes_ Try.func27 (by kernel_rfl) rfl #[.agg #[.int .i64 t766,.int .i64 t767,.int .i64 t768,.string t769,.slice Ao71 t770.length co71],.agg #[.int .i64 t773,.int .i64 t774,.int .i64 t775,.string t776,.slice Ao73 t777.length co73]] (by rfl) rfl rfl Hd.m_ ?_
  with_reducible refine (impl_FeaturesMeet.calls k t766 t767 t768 t769 _ _ t770 t773 t774 t775 t776 _ _ t777 t782 _ ?side1 ?side2 ?side3 ?side4 A5.out).mono ?_
  (case side1 => exact z21_ HO772)
  (case side2 => exact z96_ HO772)
  (case side3 => exact z21_ HO779)
  (case side4 => exact z96_ HO779)
  rintro e w76 ⟨rfl,hb⟩
  refine ⟨_,rfl,?_⟩
  replace HO772:=ak (Kd.V_below (z5_ HO772) hb)
  replace HO779:=ak (Kd.V_below (z5_ HO779) hb)
  replace BK780:=ak (Hd.kb_ BK780 hb)
  replace BK781:=ak (Hd.kb_ BK781 hb)
  replace HB:=ak (below_step Hd.b_ hb)
  try clear hb;try clear hb2;try clear hk;try clear hi
  refine hK.out _ _ ⟨(blk_cell BK780.out 0).trans rfl,(blk_cell BK780.out 1).trans rfl,(blk_cell BK780.out 2).trans rfl,(blk_cell BK780.out 3).trans rfl,(blk_cell BK780.out 4).trans rfl,(blk_cell BK781.out 0).trans rfl,(blk_cell BK781.out 1).trans rfl,(blk_cell BK781.out 2).trans rfl,(blk_cell BK781.out 3).trans rfl,(blk_cell BK781.out 4).trans rfl⟩ (fun hHeld => ?_)
  clear hK K
  refine Hd.n_ (some 21) ?_
  refine one_ (i:=5) (N:=some 24) #[Y_,Y_,Y_,Y_,Y_,Y_,N_] rfl rfl (by kernel_rfl) (by decide) (fun K hK => ?_)
  refine goes_ Try.func27 (by kernel_rfl) rfl #[.agg #[.int .i64 t773,.int .i64 t774,.int .i64 t775,.string t776,.slice Ao73 t777.length co73],.agg #[.int .i64 t766,.int .i64 t767,.int .i64 t768,.string t769,.slice Ao71 t770.length co71]] (by rfl) rfl rfl Hd.m_ ?_
  with_reducible refine (impl_FeaturesMeet.calls k t773 t774 t775 t776 _ _ t777 t766 t767 t768 t769 _ _ t770 t783 _ ?side1 ?side2 ?side3 ?side4 A6.out).mono ?_
  (case side1 => exact z21_ HO779)
  (case side2 => exact z96_ HO779)
  (case side3 => exact z21_ HO772)
  (case side4 => exact z96_ HO772)
  rintro e w77 ⟨rfl,hb⟩
  refine ⟨_,rfl,?_⟩
  replace HO772:=ak (Kd.V_below (z5_ HO772) hb)
  replace HO779:=ak (Kd.V_below (z5_ HO779) hb)
  replace BK780:=ak (Hd.kb_ BK780 hb)
  replace BK781:=ak (Hd.kb_ BK781 hb)
  replace HB:=ak (below_step Hd.b_ hb)
  try clear hb;try clear hb2;try clear hk;try clear hi
  refine hK.out _ _ ⟨(blk_cell BK780.out 0).trans rfl,(blk_cell BK780.out 1).trans rfl,(blk_cell BK780.out 2).trans rfl,(blk_cell BK780.out 3).trans rfl,(blk_cell BK780.out 4).trans rfl,(blk_cell BK781.out 0).trans rfl,(blk_cell BK781.out 1).trans rfl,(blk_cell BK781.out 2).trans rfl,(blk_cell BK781.out 3).trans rfl,(blk_cell BK781.out 4).trans rfl⟩ (fun hHeld => ?_)
  clear hK K
  refine Hd.n_ (some 24) ?_
  refine pure_ (i:=6) (N:=some 25) (v:=?_) (a':=?_) #[Y_,Y_,Y_,Y_,Y_,Y_,Y_] rfl rfl (by kernel_rfl) (fun _ _ _ h => h) (Or.inl ⟨by rfl,?_⟩) ?_ ?_
  rotate_left
  ·
   intro w'
   go_simp
   with_reducible rfl
  rotate_left
  ·
   simp only [Act.put,List.setIfInBounds_toArray,List.set_cons_zero,List.set_cons_succ,i64_w,i32_w]
   rfl
  refine done_ (by kernel_rfl) ?_
  try go_wp2
  go_ret
  exact ⟨Hd.e_,Hd.b_⟩
 rw [if_pos c7] at H
 have c7b0:=beq_iff_eq.mpr c7
 have c7b1:=bne_eq_false_iff_eq.mpr c7
 clear c7
 replace H:=Hd.bd_ H;obtain ⟨t784,A8,H⟩:=H
 replace H:=Hd.bd_ H;obtain ⟨t787,A9,H⟩:=H
 replace H:=Hd.bd_ H;obtain ⟨t790,A10,H⟩:=H
 by_cases c11 : t790 = true;rotate_left
 ·
  replace c11:=Bool.eq_false_iff.mpr c11
  subst c11
  rw [if_neg (show ¬ (false = true) by decide)] at H
  obtain rfl:=Option.some.inj H
  go_enter Try.func5,Try.ntmps5
  try go_wp2_with (first | ((with_reducible refine gate_callee (f:=18) rfl ?_);refine Hd.gl_ 13 Try.func18 #[.slice A0 l0.length c0] ?_;(with_reducible refine (laws_big.calls _ _ l0 false _ ?side1 ?side2 A2.out).mono ?_);(case side1 => exact z27_ HR0);(case side2 => exact HC0.out);rintro e w' ⟨rfl,⟨nd,rfl⟩⟩;refine ⟨_,rfl,?_⟩) | ((with_reducible refine gate_callee (f:=26) rfl ?_);refine Hd.gl_ 16 Try.func26 #[.slice A0 l0.length c0] ?_;(with_reducible refine (spec_DrawFeaturesMeet.calls k _ _ l0 t766 t767 t768 t769 t770 t773 t774 t775 t776 t777 _ ?side1 ?side2 A4.out).mono ?_);(case side1 => exact z27_ HR0);(case side2 => exact HC0.out);rintro e w49 ⟨v771,v778,rfl,ho0,ho1,hb⟩;refine ⟨_,rfl,?_⟩;have HO772:=ak (Kd.V_lower (Kd.V_mono (ok':=fun k_ => True) ho0 (fun k_ hk_ => trivial)) (below_size Hd.b_));have HO779:=ak (Kd.V_lower (Kd.V_mono (ok':=fun k_ => True) ho1 (fun k_ hk_ => trivial)) (below_size Hd.b_));replace HB:=ak (below_step Hd.b_ hb);clear hb ho0;(try clear ho1)) | ((with_reducible refine gate_dst (N:=3) rfl ?_);refine Hd.box_ 3 (#[.int .i64 0,.int .i64 0,.int .i64 0,.string (⟨#[]⟩ : ByteArray),.slice none 0 0]) 34 ?_;intro gb780 hg w50 hbox hb;replace HO772:=ak (Kd.V_below (Kd.V_elderB (z5_ HO772) gb780 (Nat.le_of_eq hg.symm)) hb);replace HO779:=ak (Kd.V_below (Kd.V_elderB (z5_ HO779) gb780 (Nat.le_of_eq hg.symm)) hb);have BK780:=ak (hbox);have GW780:=ak ((Hd.g_ hg Hd.b_ : w.heap.size ≤ gb780));have GE780:=ak ((Hd.g_ hg Hd.b_ : w.heap.size ≤ gb780));replace HB:=ak (below_step Hd.b_ hb);clear hb hbox hg) | ((with_reducible refine gate_dst (N:=4) rfl ?_);refine Hd.box_ 4 (#[.int .i64 0,.int .i64 0,.int .i64 0,.string (⟨#[]⟩ : ByteArray),.slice none 0 0]) 34 ?_;intro gb781 hg w51 hbox hb;replace HO772:=ak (Kd.V_below (Kd.V_elderB (z5_ HO772) gb781 (Nat.le_of_eq hg.symm)) hb);replace HO779:=ak (Kd.V_below (Kd.V_elderB (z5_ HO779) gb781 (Nat.le_of_eq hg.symm)) hb);have BK781:=ak (hbox);have GW781:=ak ((Hd.g_ hg Hd.b_ : w.heap.size ≤ gb781));have GE781:=ak ((Hd.g_ hg Hd.b_ : w.heap.size ≤ gb781));replace HB:=ak (below_step Hd.b_ hb);have NB780_781:=ak ((Hd.lt_ BK780 hg));have NB781_780:=ak ((Hd.gt_ BK780 hg));replace BK780:=ak (Hd.kb_ BK780 hb);clear hb hbox hg;have hnb52:=NB780_781.out;have hnc52:=NB781_780.out;obtain ⟨hcz53_0,hcz53_1,hcz53_2,hcz53_3,hcz53_4⟩:=Hd.c5_ BK780.out;obtain ⟨hfz53_0,hfz53_1,hfz53_2,hfz53_3,hfz53_4⟩:=Hd.f5_ BK780.out;obtain ⟨Ao54,co54,eo54⟩:=Kd.V_slice HO772.out;subst eo54;obtain ⟨hcz55_0,hcz55_1,hcz55_2,hcz55_3,hcz55_4⟩:=Hd.c5_ BK781.out;obtain ⟨hfz55_0,hfz55_1,hfz55_2,hfz55_3,hfz55_4⟩:=Hd.f5_ BK781.out;obtain ⟨Ao56,co56,eo56⟩:=Kd.V_slice HO779.out;subst eo56))
  have n0_ : Aside0 (Kd.V k75 75 ((((((((((w51.setCell ⟨gb780,0,none⟩ (.int .i64 t766)).setCell ⟨gb780,1,none⟩ (.int .i64 t767)).setCell ⟨gb780,2,none⟩ (.int .i64 t768)).setCell ⟨gb780,3,none⟩ (.string t769)).setCell ⟨gb780,4,none⟩ (.slice Ao54 t770.length co54)).setCell ⟨gb781,0,none⟩ (.int .i64 t773)).setCell ⟨gb781,1,none⟩ (.int .i64 t774)).setCell ⟨gb781,2,none⟩ (.int .i64 t775)).setCell ⟨gb781,3,none⟩ (.string t776)).setCell ⟨gb781,4,none⟩ (.slice Ao56 t777.length co56)) w.heap.size (fun k_ => k_ ≠ gb780 ∧ k_ ≠ gb781) (.slice Ao54 t770.length co54) t770):=⟨z42_ HO772⟩
  have n1_ : Aside0 (Kd.V k75 75 ((((((((((w51.setCell ⟨gb780,0,none⟩ (.int .i64 t766)).setCell ⟨gb780,1,none⟩ (.int .i64 t767)).setCell ⟨gb780,2,none⟩ (.int .i64 t768)).setCell ⟨gb780,3,none⟩ (.string t769)).setCell ⟨gb780,4,none⟩ (.slice Ao54 t770.length co54)).setCell ⟨gb781,0,none⟩ (.int .i64 t773)).setCell ⟨gb781,1,none⟩ (.int .i64 t774)).setCell ⟨gb781,2,none⟩ (.int .i64 t775)).setCell ⟨gb781,3,none⟩ (.string t776)).setCell ⟨gb781,4,none⟩ (.slice Ao56 t777.length co56)) w.heap.size (fun k_ => k_ ≠ gb780 ∧ k_ ≠ gb781) (.slice Ao56 t777.length co56) t777):=⟨z42_ HO779⟩
  have n2_ : Aside0 (((((((((((w51.setCell ⟨gb780,0,none⟩ (.int .i64 t766)).setCell ⟨gb780,1,none⟩ (.int .i64 t767)).setCell ⟨gb780,2,none⟩ (.int .i64 t768)).setCell ⟨gb780,3,none⟩ (.string t769)).setCell ⟨gb780,4,none⟩ (.slice Ao54 t770.length co54)).setCell ⟨gb781,0,none⟩ (.int .i64 t773)).setCell ⟨gb781,1,none⟩ (.int .i64 t774)).setCell ⟨gb781,2,none⟩ (.int .i64 t775)).setCell ⟨gb781,3,none⟩ (.string t776)).setCell ⟨gb781,4,none⟩ (.slice Ao56 t777.length co56)).heap[gb780]? = some (.cells #[.int .i64 t766,.int .i64 t767,.int .i64 t768,.string t769,.slice Ao54 t770.length co54] 34 (0,0))):=⟨z17_ NB780_781 BK780⟩
  have n3_ : Aside0 (((((((((((w51.setCell ⟨gb780,0,none⟩ (.int .i64 t766)).setCell ⟨gb780,1,none⟩ (.int .i64 t767)).setCell ⟨gb780,2,none⟩ (.int .i64 t768)).setCell ⟨gb780,3,none⟩ (.string t769)).setCell ⟨gb780,4,none⟩ (.slice Ao54 t770.length co54)).setCell ⟨gb781,0,none⟩ (.int .i64 t773)).setCell ⟨gb781,1,none⟩ (.int .i64 t774)).setCell ⟨gb781,2,none⟩ (.int .i64 t775)).setCell ⟨gb781,3,none⟩ (.string t776)).setCell ⟨gb781,4,none⟩ (.slice Ao56 t777.length co56)).heap[gb781]? = some (.cells #[.int .i64 t773,.int .i64 t774,.int .i64 t775,.string t776,.slice Ao56 t777.length co56] 34 (0,0))):=⟨z18_ NB781_780 BK781⟩
  have n4_ : Aside0 (Below w.heap.size w ((((((((((w51.setCell ⟨gb780,0,none⟩ (.int .i64 t766)).setCell ⟨gb780,1,none⟩ (.int .i64 t767)).setCell ⟨gb780,2,none⟩ (.int .i64 t768)).setCell ⟨gb780,3,none⟩ (.string t769)).setCell ⟨gb780,4,none⟩ (.slice Ao54 t770.length co54)).setCell ⟨gb781,0,none⟩ (.int .i64 t773)).setCell ⟨gb781,1,none⟩ (.int .i64 t774)).setCell ⟨gb781,2,none⟩ (.int .i64 t775)).setCell ⟨gb781,3,none⟩ (.string t776)).setCell ⟨gb781,4,none⟩ (.slice Ao56 t777.length co56))):=⟨Hd.b_⟩
  try clear HO772;try clear HO779;try clear BK780;try clear BK781;try clear HB
  generalize ((((((((((w51.setCell ⟨gb780,0,none⟩ (.int .i64 t766)).setCell ⟨gb780,1,none⟩ (.int .i64 t767)).setCell ⟨gb780,2,none⟩ (.int .i64 t768)).setCell ⟨gb780,3,none⟩ (.string t769)).setCell ⟨gb780,4,none⟩ (.slice Ao54 t770.length co54)).setCell ⟨gb781,0,none⟩ (.int .i64 t773)).setCell ⟨gb781,1,none⟩ (.int .i64 t774)).setCell ⟨gb781,2,none⟩ (.int .i64 t775)).setCell ⟨gb781,3,none⟩ (.string t776)).setCell ⟨gb781,4,none⟩ (.slice Ao56 t777.length co56)) = w57 at n0_ n1_ n2_ n3_ n4_ ⊢
  have HO772:=n0_
  have HO779:=n1_
  have BK780:=n2_
  have BK781:=n3_
  have HB:=n4_
  clear n0_ n1_ n2_ n3_ n4_
  replace HO772:=ak (Kd.V_drew HO772.out)
  replace HO779:=ak (Kd.V_drew HO779.out)
  replace BK780:=ak (blk_drew BK780.out)
  replace BK781:=ak (blk_drew BK781.out)
  replace HB:=ak (below_drew1 HB.out)
  refine start_ (n:=7) (S:=fun w' => w'.cell? ⟨gb780,0,none⟩ = some (.int .i64 t766) ∧ w'.cell? ⟨gb780,1,none⟩ = some (.int .i64 t767) ∧ w'.cell? ⟨gb780,2,none⟩ = some (.int .i64 t768) ∧ w'.cell? ⟨gb780,3,none⟩ = some (.string t769) ∧ w'.cell? ⟨gb780,4,none⟩ = some (.slice Ao54 t770.length co54) ∧ w'.cell? ⟨gb781,0,none⟩ = some (.int .i64 t773) ∧ w'.cell? ⟨gb781,1,none⟩ = some (.int .i64 t774) ∧ w'.cell? ⟨gb781,2,none⟩ = some (.int .i64 t775) ∧ w'.cell? ⟨gb781,3,none⟩ = some (.string t776) ∧ w'.cell? ⟨gb781,4,none⟩ = some (.slice Ao56 t777.length co56)) (ds:=[]) #[N_,N_,N_,N_,N_,N_,N_] (by kernel_rfl) rfl rfl ⟨(blk_cell BK780.out 0).trans rfl,(blk_cell BK780.out 1).trans rfl,(blk_cell BK780.out 2).trans rfl,(blk_cell BK780.out 3).trans rfl,(blk_cell BK780.out 4).trans rfl,(blk_cell BK781.out 0).trans rfl,(blk_cell BK781.out 1).trans rfl,(blk_cell BK781.out 2).trans rfl,(blk_cell BK781.out 3).trans rfl,(blk_cell BK781.out 4).trans rfl⟩ (fun hHeld => ?_)
  generalize w57.drew = w58 at HO772 HO779 BK780 BK781 HB hHeld ⊢
  refine take_ (i:=0) (N:=some 19) (v:=?_) (a':=?_) #[Y_,N_,N_,N_,N_,N_,N_] rfl rfl (by kernel_rfl) (fun _ _ _ h => h) (Or.inl ⟨by rfl,?_⟩) hHeld ?_ ?_
  rotate_left
  ·
   rintro w' ⟨s0,s1,s2,s3,s4,s5,s6,s7,s8,s9⟩
   go_simp
   with_reducible rfl
  rotate_left
  ·
   simp only [Act.put,List.setIfInBounds_toArray,List.set_cons_zero,List.set_cons_succ,i64_w,i32_w]
   rfl
  refine take_ (i:=1) (N:=some 20) (v:=?_) (a':=?_) #[Y_,Y_,N_,N_,N_,N_,N_] rfl rfl (by kernel_rfl) (fun _ _ _ h => h) (Or.inl ⟨by rfl,?_⟩) hHeld ?_ ?_
  rotate_left
  ·
   rintro w' ⟨s0,s1,s2,s3,s4,s5,s6,s7,s8,s9⟩
   go_simp
   with_reducible rfl
  rotate_left
  ·
   simp only [Act.put,List.setIfInBounds_toArray,List.set_cons_zero,List.set_cons_succ,i64_w,i32_w]
   rfl
  refine take_ (i:=3) (N:=some 22) (v:=?_) (a':=?_) #[Y_,Y_,N_,Y_,N_,N_,N_] rfl rfl (by kernel_rfl) (fun _ _ _ h => h) (Or.inl ⟨by rfl,?_⟩) hHeld ?_ ?_
  rotate_left
  ·
   rintro w' ⟨s0,s1,s2,s3,s4,s5,s6,s7,s8,s9⟩
   go_simp
   with_reducible rfl
  rotate_left
  ·
   simp only [Act.put,List.setIfInBounds_toArray,List.set_cons_zero,List.set_cons_succ,i64_w,i32_w]
   rfl
  refine take_ (i:=4) (N:=some 23) (v:=?_) (a':=?_) #[Y_,Y_,N_,Y_,Y_,N_,N_] rfl rfl (by kernel_rfl) (fun _ _ _ h => h) (Or.inl ⟨by rfl,?_⟩) hHeld ?_ ?_
  rotate_left
  ·
   rintro w' ⟨s0,s1,s2,s3,s4,s5,s6,s7,s8,s9⟩
   go_simp
   with_reducible rfl
  rotate_left
  ·
   simp only [Act.put,List.setIfInBounds_toArray,List.set_cons_zero,List.set_cons_succ,i64_w,i32_w]
   rfl
  refine one_ (i:=2) (N:=some 21) #[Y_,Y_,Y_,Y_,Y_,N_,N_] rfl rfl (by kernel_rfl) (by decide) (fun K hK => ?_)
  refine goes_ Try.func27 (by kernel_rfl) rfl #[.agg #[.int .i64 t766,.int .i64 t767,.int .i64 t768,.string t769,.slice Ao54 t770.length co54],.agg #[.int .i64 t773,.int .i64 t774,.int .i64 t775,.string t776,.slice Ao56 t777.length co56]] (by rfl) rfl rfl Hd.m_ ?_
  with_reducible refine (impl_FeaturesMeet.calls k t766 t767 t768 t769 _ _ t770 t773 t774 t775 t776 _ _ t777 t782 _ ?side1 ?side2 ?side3 ?side4 A5.out).mono ?_
  (case side1 => exact z21_ HO772)
  (case side2 => exact z96_ HO772)
  (case side3 => exact z21_ HO779)
  (case side4 => exact z96_ HO779)
  rintro e w59 ⟨rfl,hb⟩
  refine ⟨_,rfl,?_⟩
  replace HO772:=ak (Kd.V_below (z5_ HO772) hb)
  replace HO779:=ak (Kd.V_below (z5_ HO779) hb)
  replace BK780:=ak (Hd.kb_ BK780 hb)
  replace BK781:=ak (Hd.kb_ BK781 hb)
  replace HB:=ak (below_step Hd.b_ hb)
  try clear hb;try clear hb2;try clear hk;try clear hi
  refine hK.out _ _ ⟨(blk_cell BK780.out 0).trans rfl,(blk_cell BK780.out 1).trans rfl,(blk_cell BK780.out 2).trans rfl,(blk_cell BK780.out 3).trans rfl,(blk_cell BK780.out 4).trans rfl,(blk_cell BK781.out 0).trans rfl,(blk_cell BK781.out 1).trans rfl,(blk_cell BK781.out 2).trans rfl,(blk_cell BK781.out 3).trans rfl,(blk_cell BK781.out 4).trans rfl⟩ (fun hHeld => ?_)
  clear hK K
  refine Hd.n_ (some 21) ?_
  refine one_ (i:=5) (N:=some 24) #[Y_,Y_,Y_,Y_,Y_,Y_,N_] rfl rfl (by kernel_rfl) (by decide) (fun K hK => ?_)
  refine goes_ Try.func27 (by kernel_rfl) rfl #[.agg #[.int .i64 t773,.int .i64 t774,.int .i64 t775,.string t776,.slice Ao56 t777.length co56],.agg #[.int .i64 t766,.int .i64 t767,.int .i64 t768,.string t769,.slice Ao54 t770.length co54]] (by rfl) rfl rfl Hd.m_ ?_
  with_reducible refine (impl_FeaturesMeet.calls k t773 t774 t775 t776 _ _ t777 t766 t767 t768 t769 _ _ t770 t783 _ ?side1 ?side2 ?side3 ?side4 A6.out).mono ?_
  (case side1 => exact z21_ HO779)
  (case side2 => exact z96_ HO779)
  (case side3 => exact z21_ HO772)
  (case side4 => exact z96_ HO772)
  rintro e w60 ⟨rfl,hb⟩
  refine ⟨_,rfl,?_⟩
  replace HO772:=ak (Kd.V_below (z5_ HO772) hb)
  replace HO779:=ak (Kd.V_below (z5_ HO779) hb)
  replace BK780:=ak (Hd.kb_ BK780 hb)
  replace BK781:=ak (Hd.kb_ BK781 hb)
  replace HB:=ak (below_step Hd.b_ hb)
  try clear hb;try clear hb2;try clear hk;try clear hi
  refine hK.out _ _ ⟨(blk_cell BK780.out 0).trans rfl,(blk_cell BK780.out 1).trans rfl,(blk_cell BK780.out 2).trans rfl,(blk_cell BK780.out 3).trans rfl,(blk_cell BK780.out 4).trans rfl,(blk_cell BK781.out 0).trans rfl,(blk_cell BK781.out 1).trans rfl,(blk_cell BK781.out 2).trans rfl,(blk_cell BK781.out 3).trans rfl,(blk_cell BK781.out 4).trans rfl⟩ (fun hHeld => ?_)
  clear hK K
  refine Hd.n_ (some 24) ?_
  refine pure_ (i:=6) (N:=some 25) (v:=?_) (a':=?_) #[Y_,Y_,Y_,Y_,Y_,Y_,Y_] rfl rfl (by kernel_rfl) (fun _ _ _ h => h) (Or.inl ⟨by rfl,?_⟩) ?_ ?_
  rotate_left
  ·
   intro w'
   go_simp
   with_reducible rfl
  rotate_left
  ·
   simp only [Act.put,List.setIfInBounds_toArray,List.set_cons_zero,List.set_cons_succ,i64_w,i32_w]
   rfl
  refine done_ (by kernel_rfl) ?_
  try go_wp2_with (first | ((with_reducible refine gate_callee (f:=28) rfl ?_);refine Hd.gl_ 27 Try.func28 #[.slice A0 l0.length c0] ?_;(with_reducible refine (spec_DrawMeetsOf.calls k _ _ l0 t784 _ ?side1 ?side2 A8.out).mono ?_);(case side1 => exact z14_ HR0);(case side2 => exact HC0.out);rintro e w61 ⟨v785,rfl,ho0,hb⟩;refine ⟨_,rfl,?_⟩;replace HO772:=ak (Kd.V_elder' (z5_ HO772) (Kd.N_base ho0) hb);replace HO779:=ak (Kd.V_elder' (z5_ HO779) (Kd.N_base ho0) hb);have HO786:=ak (Kd.N_lower (Kd.N_mono (ok':=fun k_ => k_ ≠ gb780 ∧ k_ ≠ gb781) ho0 (fun k_ hk_ => ⟨(Kd.freshB (g:=gb780) (o:=.cells #[.int .i64 t766,.int .i64 t767,.int .i64 t768,.string t769,.slice Ao54 t770.length co54] 34 (0,0)) (Hd.k_ BK780) k_ hk_),(Kd.freshB (g:=gb781) (o:=.cells #[.int .i64 t773,.int .i64 t774,.int .i64 t775,.string t776,.slice Ao56 t777.length co56] 34 (0,0)) (Hd.k_ BK781) k_ hk_)⟩)) (below_size Hd.b_));replace BK780:=ak (Hd.kb_ BK780 hb);replace BK781:=ak (Hd.kb_ BK781 hb);replace HB:=ak (below_step Hd.b_ hb);clear hb ho0;obtain ⟨Ao62,co62,eo62⟩:=Kd.N_slice HO786.out;subst eo62) | ((with_reducible refine gate_callee (f:=29) rfl ?_);refine Hd.gl_ 29 Try.func29 #[.slice Ao62 t784.length co62] ?_;(with_reducible refine (impl_MeetsOf.calls k _ _ t784 t787 _ ?side1 ?side2 A9.out).mono ?_);(case side1 => exact z52_ HO786);(case side2 => exact (Kd.N_reads' HO786.out).2.1);rintro e w63 ⟨v788,rfl,ho0,hb⟩;refine ⟨_,rfl,?_⟩;replace HO772:=ak (Kd.V_elder' (z5_ HO772) (Kd.R_base ho0) hb);replace HO779:=ak (Kd.V_elder' (z5_ HO779) (Kd.R_base ho0) hb);replace HO786:=ak (Kd.N_elder' (z13_ HO786) (Kd.R_base ho0) hb);have HO789:=z78_;replace BK780:=ak (Hd.kb_ BK780 hb);replace BK781:=ak (Hd.kb_ BK781 hb);replace HB:=ak (below_step Hd.b_ hb);clear hb ho0;obtain ⟨Ao64,co64,eo64⟩:=Kd.R_slice HO789.out;subst eo64) | ((with_reducible refine gate_callee (f:=30) rfl ?_);refine Hd.gl_ 32 Try.func30 #[.slice Ao64 t787.length co64,.slice Ao64 t787.length co64] ?_;(with_reducible refine (impl_NoMore.calls k _ _ t787 _ _ t787 false _ ?side1 ?side2 ?side3 ?side4 A10.out).mono ?_);(case side1 => exact z26_ HO789);(case side2 => exact (Kd.R_reads' HO789.out).2.1);(case side3 => exact z26_ HO789);(case side4 => exact (Kd.R_reads' HO789.out).2.1);rintro e w65 ⟨rfl,hb⟩;refine ⟨_,rfl,?_⟩;replace HO772:=ak (Kd.V_below (z5_ HO772) hb);replace HO779:=ak (Kd.V_below (z5_ HO779) hb);replace HO786:=ak (Kd.N_below (z13_ HO786) hb);replace HO789:=ak (Kd.R_below (Hd.r_ HO789) hb);replace BK780:=ak (Hd.kb_ BK780 hb);replace BK781:=ak (Hd.kb_ BK781 hb);replace HB:=ak (below_step Hd.b_ hb);clear hb))
  go_ret
  exact ⟨Hd.e_,Hd.b_⟩
 subst c11
 rw [if_pos rfl] at H
 have H':=ak H
 clear H
 go_enter Try.func5,Try.ntmps5
 try go_wp2_with (first | ((with_reducible refine gate_callee (f:=18) rfl ?_);refine Hd.gl_ 13 Try.func18 #[.slice A0 l0.length c0] ?_;(with_reducible refine (laws_big.calls _ _ l0 false _ ?side1 ?side2 A2.out).mono ?_);(case side1 => exact z27_ HR0);(case side2 => exact HC0.out);rintro e w' ⟨rfl,⟨nd,rfl⟩⟩;refine ⟨_,rfl,?_⟩) | ((with_reducible refine gate_callee (f:=26) rfl ?_);refine Hd.gl_ 16 Try.func26 #[.slice A0 l0.length c0] ?_;(with_reducible refine (spec_DrawFeaturesMeet.calls k _ _ l0 t766 t767 t768 t769 t770 t773 t774 t775 t776 t777 _ ?side1 ?side2 A4.out).mono ?_);(case side1 => exact z27_ HR0);(case side2 => exact HC0.out);rintro e w12 ⟨v771,v778,rfl,ho0,ho1,hb⟩;refine ⟨_,rfl,?_⟩;have HO772:=ak (Kd.V_lower (Kd.V_mono (ok':=fun k_ => True) ho0 (fun k_ hk_ => trivial)) (below_size Hd.b_));have HO779:=ak (Kd.V_lower (Kd.V_mono (ok':=fun k_ => True) ho1 (fun k_ hk_ => trivial)) (below_size Hd.b_));replace HB:=ak (below_step Hd.b_ hb);clear hb ho0;(try clear ho1)) | ((with_reducible refine gate_dst (N:=3) rfl ?_);refine Hd.box_ 3 (#[.int .i64 0,.int .i64 0,.int .i64 0,.string (⟨#[]⟩ : ByteArray),.slice none 0 0]) 34 ?_;intro gb780 hg w13 hbox hb;replace HO772:=ak (Kd.V_below (Kd.V_elderB (z5_ HO772) gb780 (Nat.le_of_eq hg.symm)) hb);replace HO779:=ak (Kd.V_below (Kd.V_elderB (z5_ HO779) gb780 (Nat.le_of_eq hg.symm)) hb);have BK780:=ak (hbox);have GW780:=ak ((Hd.g_ hg Hd.b_ : w.heap.size ≤ gb780));have GE780:=ak ((Hd.g_ hg Hd.b_ : w.heap.size ≤ gb780));replace HB:=ak (below_step Hd.b_ hb);clear hb hbox hg) | ((with_reducible refine gate_dst (N:=4) rfl ?_);refine Hd.box_ 4 (#[.int .i64 0,.int .i64 0,.int .i64 0,.string (⟨#[]⟩ : ByteArray),.slice none 0 0]) 34 ?_;intro gb781 hg w14 hbox hb;replace HO772:=ak (Kd.V_below (Kd.V_elderB (z5_ HO772) gb781 (Nat.le_of_eq hg.symm)) hb);replace HO779:=ak (Kd.V_below (Kd.V_elderB (z5_ HO779) gb781 (Nat.le_of_eq hg.symm)) hb);have BK781:=ak (hbox);have GW781:=ak ((Hd.g_ hg Hd.b_ : w.heap.size ≤ gb781));have GE781:=ak ((Hd.g_ hg Hd.b_ : w.heap.size ≤ gb781));replace HB:=ak (below_step Hd.b_ hb);have NB780_781:=ak ((Hd.lt_ BK780 hg));have NB781_780:=ak ((Hd.gt_ BK780 hg));replace BK780:=ak (Hd.kb_ BK780 hb);clear hb hbox hg;have hnb15:=NB780_781.out;have hnc15:=NB781_780.out;obtain ⟨hcz16_0,hcz16_1,hcz16_2,hcz16_3,hcz16_4⟩:=Hd.c5_ BK780.out;obtain ⟨hfz16_0,hfz16_1,hfz16_2,hfz16_3,hfz16_4⟩:=Hd.f5_ BK780.out;obtain ⟨Ao17,co17,eo17⟩:=Kd.V_slice HO772.out;subst eo17;obtain ⟨hcz18_0,hcz18_1,hcz18_2,hcz18_3,hcz18_4⟩:=Hd.c5_ BK781.out;obtain ⟨hfz18_0,hfz18_1,hfz18_2,hfz18_3,hfz18_4⟩:=Hd.f5_ BK781.out;obtain ⟨Ao19,co19,eo19⟩:=Kd.V_slice HO779.out;subst eo19))
 have n0_ : Aside0 (Kd.V k75 75 ((((((((((w14.setCell ⟨gb780,0,none⟩ (.int .i64 t766)).setCell ⟨gb780,1,none⟩ (.int .i64 t767)).setCell ⟨gb780,2,none⟩ (.int .i64 t768)).setCell ⟨gb780,3,none⟩ (.string t769)).setCell ⟨gb780,4,none⟩ (.slice Ao17 t770.length co17)).setCell ⟨gb781,0,none⟩ (.int .i64 t773)).setCell ⟨gb781,1,none⟩ (.int .i64 t774)).setCell ⟨gb781,2,none⟩ (.int .i64 t775)).setCell ⟨gb781,3,none⟩ (.string t776)).setCell ⟨gb781,4,none⟩ (.slice Ao19 t777.length co19)) w.heap.size (fun k_ => k_ ≠ gb780 ∧ k_ ≠ gb781) (.slice Ao17 t770.length co17) t770):=⟨z43_ HO772⟩
 have n1_ : Aside0 (Kd.V k75 75 ((((((((((w14.setCell ⟨gb780,0,none⟩ (.int .i64 t766)).setCell ⟨gb780,1,none⟩ (.int .i64 t767)).setCell ⟨gb780,2,none⟩ (.int .i64 t768)).setCell ⟨gb780,3,none⟩ (.string t769)).setCell ⟨gb780,4,none⟩ (.slice Ao17 t770.length co17)).setCell ⟨gb781,0,none⟩ (.int .i64 t773)).setCell ⟨gb781,1,none⟩ (.int .i64 t774)).setCell ⟨gb781,2,none⟩ (.int .i64 t775)).setCell ⟨gb781,3,none⟩ (.string t776)).setCell ⟨gb781,4,none⟩ (.slice Ao19 t777.length co19)) w.heap.size (fun k_ => k_ ≠ gb780 ∧ k_ ≠ gb781) (.slice Ao19 t777.length co19) t777):=⟨z43_ HO779⟩
 have n2_ : Aside0 (((((((((((w14.setCell ⟨gb780,0,none⟩ (.int .i64 t766)).setCell ⟨gb780,1,none⟩ (.int .i64 t767)).setCell ⟨gb780,2,none⟩ (.int .i64 t768)).setCell ⟨gb780,3,none⟩ (.string t769)).setCell ⟨gb780,4,none⟩ (.slice Ao17 t770.length co17)).setCell ⟨gb781,0,none⟩ (.int .i64 t773)).setCell ⟨gb781,1,none⟩ (.int .i64 t774)).setCell ⟨gb781,2,none⟩ (.int .i64 t775)).setCell ⟨gb781,3,none⟩ (.string t776)).setCell ⟨gb781,4,none⟩ (.slice Ao19 t777.length co19)).heap[gb780]? = some (.cells #[.int .i64 t766,.int .i64 t767,.int .i64 t768,.string t769,.slice Ao17 t770.length co17] 34 (0,0))):=⟨z17_ NB780_781 BK780⟩
 have n3_ : Aside0 (((((((((((w14.setCell ⟨gb780,0,none⟩ (.int .i64 t766)).setCell ⟨gb780,1,none⟩ (.int .i64 t767)).setCell ⟨gb780,2,none⟩ (.int .i64 t768)).setCell ⟨gb780,3,none⟩ (.string t769)).setCell ⟨gb780,4,none⟩ (.slice Ao17 t770.length co17)).setCell ⟨gb781,0,none⟩ (.int .i64 t773)).setCell ⟨gb781,1,none⟩ (.int .i64 t774)).setCell ⟨gb781,2,none⟩ (.int .i64 t775)).setCell ⟨gb781,3,none⟩ (.string t776)).setCell ⟨gb781,4,none⟩ (.slice Ao19 t777.length co19)).heap[gb781]? = some (.cells #[.int .i64 t773,.int .i64 t774,.int .i64 t775,.string t776,.slice Ao19 t777.length co19] 34 (0,0))):=⟨z18_ NB781_780 BK781⟩
 have n4_ : Aside0 (Below w.heap.size w ((((((((((w14.setCell ⟨gb780,0,none⟩ (.int .i64 t766)).setCell ⟨gb780,1,none⟩ (.int .i64 t767)).setCell ⟨gb780,2,none⟩ (.int .i64 t768)).setCell ⟨gb780,3,none⟩ (.string t769)).setCell ⟨gb780,4,none⟩ (.slice Ao17 t770.length co17)).setCell ⟨gb781,0,none⟩ (.int .i64 t773)).setCell ⟨gb781,1,none⟩ (.int .i64 t774)).setCell ⟨gb781,2,none⟩ (.int .i64 t775)).setCell ⟨gb781,3,none⟩ (.string t776)).setCell ⟨gb781,4,none⟩ (.slice Ao19 t777.length co19))):=⟨Hd.b_⟩
 try clear HO772;try clear HO779;try clear BK780;try clear BK781;try clear HB
 generalize ((((((((((w14.setCell ⟨gb780,0,none⟩ (.int .i64 t766)).setCell ⟨gb780,1,none⟩ (.int .i64 t767)).setCell ⟨gb780,2,none⟩ (.int .i64 t768)).setCell ⟨gb780,3,none⟩ (.string t769)).setCell ⟨gb780,4,none⟩ (.slice Ao17 t770.length co17)).setCell ⟨gb781,0,none⟩ (.int .i64 t773)).setCell ⟨gb781,1,none⟩ (.int .i64 t774)).setCell ⟨gb781,2,none⟩ (.int .i64 t775)).setCell ⟨gb781,3,none⟩ (.string t776)).setCell ⟨gb781,4,none⟩ (.slice Ao19 t777.length co19)) = w20 at n0_ n1_ n2_ n3_ n4_ ⊢
 have HO772:=n0_
 have HO779:=n1_
 have BK780:=n2_
 have BK781:=n3_
 have HB:=n4_
 clear n0_ n1_ n2_ n3_ n4_
 replace HO772:=ak (Kd.V_drew HO772.out)
 replace HO779:=ak (Kd.V_drew HO779.out)
 replace BK780:=ak (blk_drew BK780.out)
 replace BK781:=ak (blk_drew BK781.out)
 replace HB:=ak (below_drew1 HB.out)
 refine start_ (n:=7) (S:=fun w' => w'.cell? ⟨gb780,0,none⟩ = some (.int .i64 t766) ∧ w'.cell? ⟨gb780,1,none⟩ = some (.int .i64 t767) ∧ w'.cell? ⟨gb780,2,none⟩ = some (.int .i64 t768) ∧ w'.cell? ⟨gb780,3,none⟩ = some (.string t769) ∧ w'.cell? ⟨gb780,4,none⟩ = some (.slice Ao17 t770.length co17) ∧ w'.cell? ⟨gb781,0,none⟩ = some (.int .i64 t773) ∧ w'.cell? ⟨gb781,1,none⟩ = some (.int .i64 t774) ∧ w'.cell? ⟨gb781,2,none⟩ = some (.int .i64 t775) ∧ w'.cell? ⟨gb781,3,none⟩ = some (.string t776) ∧ w'.cell? ⟨gb781,4,none⟩ = some (.slice Ao19 t777.length co19)) (ds:=[]) #[N_,N_,N_,N_,N_,N_,N_] (by kernel_rfl) rfl rfl ⟨(blk_cell BK780.out 0).trans rfl,(blk_cell BK780.out 1).trans rfl,(blk_cell BK780.out 2).trans rfl,(blk_cell BK780.out 3).trans rfl,(blk_cell BK780.out 4).trans rfl,(blk_cell BK781.out 0).trans rfl,(blk_cell BK781.out 1).trans rfl,(blk_cell BK781.out 2).trans rfl,(blk_cell BK781.out 3).trans rfl,(blk_cell BK781.out 4).trans rfl⟩ (fun hHeld => ?_)
 generalize w20.drew = w21 at HO772 HO779 BK780 BK781 HB hHeld ⊢
 refine take_ (i:=0) (N:=some 19) (v:=?_) (a':=?_) #[Y_,N_,N_,N_,N_,N_,N_] rfl rfl (by kernel_rfl) (fun _ _ _ h => h) (Or.inl ⟨by rfl,?_⟩) hHeld ?_ ?_
 rotate_left
 ·
  rintro w' ⟨s0,s1,s2,s3,s4,s5,s6,s7,s8,s9⟩
  go_simp
  with_reducible rfl
 rotate_left
 ·
  simp only [Act.put,List.setIfInBounds_toArray,List.set_cons_zero,List.set_cons_succ,i64_w,i32_w]
  rfl
 refine take_ (i:=1) (N:=some 20) (v:=?_) (a':=?_) #[Y_,Y_,N_,N_,N_,N_,N_] rfl rfl (by kernel_rfl) (fun _ _ _ h => h) (Or.inl ⟨by rfl,?_⟩) hHeld ?_ ?_
 rotate_left
 ·
  rintro w' ⟨s0,s1,s2,s3,s4,s5,s6,s7,s8,s9⟩
  go_simp
  with_reducible rfl
 rotate_left
 ·
  simp only [Act.put,List.setIfInBounds_toArray,List.set_cons_zero,List.set_cons_succ,i64_w,i32_w]
  rfl
 refine take_ (i:=3) (N:=some 22) (v:=?_) (a':=?_) #[Y_,Y_,N_,Y_,N_,N_,N_] rfl rfl (by kernel_rfl) (fun _ _ _ h => h) (Or.inl ⟨by rfl,?_⟩) hHeld ?_ ?_
 rotate_left
 ·
  rintro w' ⟨s0,s1,s2,s3,s4,s5,s6,s7,s8,s9⟩
  go_simp
  with_reducible rfl
 rotate_left
 ·
  simp only [Act.put,List.setIfInBounds_toArray,List.set_cons_zero,List.set_cons_succ,i64_w,i32_w]
  rfl
 refine take_ (i:=4) (N:=some 23) (v:=?_) (a':=?_) #[Y_,Y_,N_,Y_,Y_,N_,N_] rfl rfl (by kernel_rfl) (fun _ _ _ h => h) (Or.inl ⟨by rfl,?_⟩) hHeld ?_ ?_
 rotate_left
 ·
  rintro w' ⟨s0,s1,s2,s3,s4,s5,s6,s7,s8,s9⟩
  go_simp
  with_reducible rfl
 rotate_left
 ·
  simp only [Act.put,List.setIfInBounds_toArray,List.set_cons_zero,List.set_cons_succ,i64_w,i32_w]
  rfl
 refine one_ (i:=2) (N:=some 21) #[Y_,Y_,Y_,Y_,Y_,N_,N_] rfl rfl (by kernel_rfl) (by decide) (fun K hK => ?_)
 refine goes_ Try.func27 (by kernel_rfl) rfl #[.agg #[.int .i64 t766,.int .i64 t767,.int .i64 t768,.string t769,.slice Ao17 t770.length co17],.agg #[.int .i64 t773,.int .i64 t774,.int .i64 t775,.string t776,.slice Ao19 t777.length co19]] (by rfl) rfl rfl Hd.m_ ?_
 with_reducible refine (impl_FeaturesMeet.calls k t766 t767 t768 t769 _ _ t770 t773 t774 t775 t776 _ _ t777 t782 _ ?side1 ?side2 ?side3 ?side4 A5.out).mono ?_
 (case side1 => exact z21_ HO772)
 (case side2 => exact z96_ HO772)
 (case side3 => exact z21_ HO779)
 (case side4 => exact z96_ HO779)
 rintro e w22 ⟨rfl,hb⟩
 refine ⟨_,rfl,?_⟩
 replace HO772:=ak (Kd.V_below (z5_ HO772) hb)
 replace HO779:=ak (Kd.V_below (z5_ HO779) hb)
 replace BK780:=ak (Hd.kb_ BK780 hb)
 replace BK781:=ak (Hd.kb_ BK781 hb)
 replace HB:=ak (below_step Hd.b_ hb)
 try clear hb;try clear hb2;try clear hk;try clear hi
 refine hK.out _ _ ⟨(blk_cell BK780.out 0).trans rfl,(blk_cell BK780.out 1).trans rfl,(blk_cell BK780.out 2).trans rfl,(blk_cell BK780.out 3).trans rfl,(blk_cell BK780.out 4).trans rfl,(blk_cell BK781.out 0).trans rfl,(blk_cell BK781.out 1).trans rfl,(blk_cell BK781.out 2).trans rfl,(blk_cell BK781.out 3).trans rfl,(blk_cell BK781.out 4).trans rfl⟩ (fun hHeld => ?_)
 clear hK K
 refine Hd.n_ (some 21) ?_
 refine one_ (i:=5) (N:=some 24) #[Y_,Y_,Y_,Y_,Y_,Y_,N_] rfl rfl (by kernel_rfl) (by decide) (fun K hK => ?_)
 refine goes_ Try.func27 (by kernel_rfl) rfl #[.agg #[.int .i64 t773,.int .i64 t774,.int .i64 t775,.string t776,.slice Ao19 t777.length co19],.agg #[.int .i64 t766,.int .i64 t767,.int .i64 t768,.string t769,.slice Ao17 t770.length co17]] (by rfl) rfl rfl Hd.m_ ?_
 with_reducible refine (impl_FeaturesMeet.calls k t773 t774 t775 t776 _ _ t777 t766 t767 t768 t769 _ _ t770 t783 _ ?side1 ?side2 ?side3 ?side4 A6.out).mono ?_
 (case side1 => exact z21_ HO779)
 (case side2 => exact z96_ HO779)
 (case side3 => exact z21_ HO772)
 (case side4 => exact z96_ HO772)
 rintro e w23 ⟨rfl,hb⟩
 refine ⟨_,rfl,?_⟩
 replace HO772:=ak (Kd.V_below (z5_ HO772) hb)
 replace HO779:=ak (Kd.V_below (z5_ HO779) hb)
 replace BK780:=ak (Hd.kb_ BK780 hb)
 replace BK781:=ak (Hd.kb_ BK781 hb)
 replace HB:=ak (below_step Hd.b_ hb)
 try clear hb;try clear hb2;try clear hk;try clear hi
 refine hK.out _ _ ⟨(blk_cell BK780.out 0).trans rfl,(blk_cell BK780.out 1).trans rfl,(blk_cell BK780.out 2).trans rfl,(blk_cell BK780.out 3).trans rfl,(blk_cell BK780.out 4).trans rfl,(blk_cell BK781.out 0).trans rfl,(blk_cell BK781.out 1).trans rfl,(blk_cell BK781.out 2).trans rfl,(blk_cell BK781.out 3).trans rfl,(blk_cell BK781.out 4).trans rfl⟩ (fun hHeld => ?_)
 clear hK K
 refine Hd.n_ (some 24) ?_
 refine pure_ (i:=6) (N:=some 25) (v:=?_) (a':=?_) #[Y_,Y_,Y_,Y_,Y_,Y_,Y_] rfl rfl (by kernel_rfl) (fun _ _ _ h => h) (Or.inl ⟨by rfl,?_⟩) ?_ ?_
 rotate_left
 ·
  intro w'
  go_simp
  with_reducible rfl
 rotate_left
 ·
  simp only [Act.put,List.setIfInBounds_toArray,List.set_cons_zero,List.set_cons_succ,i64_w,i32_w]
  rfl
 refine done_ (by kernel_rfl) ?_
 try go_wp2_with (first | ((with_reducible refine gate_callee (f:=28) rfl ?_);refine Hd.gl_ 27 Try.func28 #[.slice A0 l0.length c0] ?_;(with_reducible refine (spec_DrawMeetsOf.calls k _ _ l0 t784 _ ?side1 ?side2 A8.out).mono ?_);(case side1 => exact z14_ HR0);(case side2 => exact HC0.out);rintro e w24 ⟨v785,rfl,ho0,hb⟩;refine ⟨_,rfl,?_⟩;replace HO772:=ak (Kd.V_elder' (z5_ HO772) (Kd.N_base ho0) hb);replace HO779:=ak (Kd.V_elder' (z5_ HO779) (Kd.N_base ho0) hb);have HO786:=ak (Kd.N_lower (Kd.N_mono (ok':=fun k_ => k_ ≠ gb780 ∧ k_ ≠ gb781) ho0 (fun k_ hk_ => ⟨(Kd.freshB (g:=gb780) (o:=.cells #[.int .i64 t766,.int .i64 t767,.int .i64 t768,.string t769,.slice Ao17 t770.length co17] 34 (0,0)) (Hd.k_ BK780) k_ hk_),(Kd.freshB (g:=gb781) (o:=.cells #[.int .i64 t773,.int .i64 t774,.int .i64 t775,.string t776,.slice Ao19 t777.length co19] 34 (0,0)) (Hd.k_ BK781) k_ hk_)⟩)) (below_size Hd.b_));replace BK780:=ak (Hd.kb_ BK780 hb);replace BK781:=ak (Hd.kb_ BK781 hb);replace HB:=ak (below_step Hd.b_ hb);clear hb ho0;obtain ⟨Ao25,co25,eo25⟩:=Kd.N_slice HO786.out;subst eo25) | ((with_reducible refine gate_callee (f:=29) rfl ?_);refine Hd.gl_ 29 Try.func29 #[.slice Ao25 t784.length co25] ?_;(with_reducible refine (impl_MeetsOf.calls k _ _ t784 t787 _ ?side1 ?side2 A9.out).mono ?_);(case side1 => exact z52_ HO786);(case side2 => exact (Kd.N_reads' HO786.out).2.1);rintro e w26 ⟨v788,rfl,ho0,hb⟩;refine ⟨_,rfl,?_⟩;replace HO772:=ak (Kd.V_elder' (z5_ HO772) (Kd.R_base ho0) hb);replace HO779:=ak (Kd.V_elder' (z5_ HO779) (Kd.R_base ho0) hb);replace HO786:=ak (Kd.N_elder' (z13_ HO786) (Kd.R_base ho0) hb);have HO789:=z78_;replace BK780:=ak (Hd.kb_ BK780 hb);replace BK781:=ak (Hd.kb_ BK781 hb);replace HB:=ak (below_step Hd.b_ hb);clear hb ho0;obtain ⟨Ao27,co27,eo27⟩:=Kd.R_slice HO789.out;subst eo27) | ((with_reducible refine gate_callee (f:=30) rfl ?_);refine Hd.gl_ 32 Try.func30 #[.slice Ao27 t787.length co27,.slice Ao27 t787.length co27] ?_;(with_reducible refine (impl_NoMore.calls k _ _ t787 _ _ t787 true _ ?side1 ?side2 ?side3 ?side4 A10.out).mono ?_);(case side1 => exact z26_ HO789);(case side2 => exact (Kd.R_reads' HO789.out).2.1);(case side3 => exact z26_ HO789);(case side4 => exact (Kd.R_reads' HO789.out).2.1);rintro e w28 ⟨rfl,hb⟩;refine ⟨_,rfl,?_⟩;replace HO772:=ak (Kd.V_below (z5_ HO772) hb);replace HO779:=ak (Kd.V_below (z5_ HO779) hb);replace HO786:=ak (Kd.N_below (z13_ HO786) hb);replace HO789:=ak (Kd.R_below (Hd.r_ HO789) hb);replace BK780:=ak (Hd.kb_ BK780 hb);replace BK781:=ak (Hd.kb_ BK781 hb);replace HB:=ak (below_step Hd.b_ hb);clear hb))
 go_loopg [7,8] k (fun kq v7 v8 w' => ∃ (x7_1 : Int) (x8_1 : Int),v7 = .int .i64 x7_1 ∧ v8 = .int .i64 x8_1 ∧ Aside0 (laws_FnMeets.l0 kq t784 t787 x7_1 x8_1 = some r) ∧ Aside0 (kq ≤ k) ∧ Aside0 (Kd.N k34 34 w' w.heap.size (fun k_ => some k_ ≠ ((.slice Ao27 t787.length co27) : Value).ownBlock ∧ k_ ≠ gb780 ∧ k_ ≠ gb781) (.slice Ao25 t784.length co25) t784) ∧ Aside0 (Kd.R k82 82 w' w.heap.size (fun _ => True) (.slice Ao27 t787.length co27) t787) ∧ Aside0 (Kd.V k75 75 w' w.heap.size (fun k_ => some k_ ≠ ((.slice Ao25 t784.length co25) : Value).ownBlock ∧ some k_ ≠ ((.slice Ao27 t787.length co27) : Value).ownBlock ∧ k_ ≠ gb780 ∧ k_ ≠ gb781) (.slice Ao17 t770.length co17) t770) ∧ Aside0 (Kd.V k75 75 w' w.heap.size (fun k_ => some k_ ≠ ((.slice Ao25 t784.length co25) : Value).ownBlock ∧ some k_ ≠ ((.slice Ao27 t787.length co27) : Value).ownBlock ∧ k_ ≠ gb780 ∧ k_ ≠ gb781) (.slice Ao19 t777.length co19) t777) ∧ Aside0 (w'.heap[gb780]? = some (.cells #[.int .i64 t766,.int .i64 t767,.int .i64 t768,.string t769,(.slice Ao17 t770.length co17)] 34 (0,0))) ∧ Aside0 (w'.heap[gb781]? = some (.cells #[.int .i64 t773,.int .i64 t774,.int .i64 t775,.string t776,(.slice Ao19 t777.length co19)] 34 (0,0))) ∧ Aside0 (Below w.heap.size w w'))
 case atStart => exact ⟨(0),(1),z8_,z8_,H',⟨Nat.le_refl _⟩,⟨by (with_reducible repeat (first | apply Kd.N_alloc | apply Kd.N_drewN | apply Kd.N_drew));exact Kd.N_mono HO786.out (fun _ hk => ⟨hk.2,⟨hk.1.1,hk.1.2⟩⟩)⟩,⟨z6_ HO789⟩,⟨by (with_reducible repeat (first | apply Kd.V_alloc | apply Kd.V_drewN | apply Kd.V_drew));exact Kd.V_mono HO772.out (fun _ hk => ⟨hk.1.2,⟨hk.2,⟨hk.1.1.1,hk.1.1.2⟩⟩⟩)⟩,⟨by (with_reducible repeat (first | apply Kd.V_alloc | apply Kd.V_drewN | apply Kd.V_drew));exact Kd.V_mono HO779.out (fun _ hk => ⟨hk.1.2,⟨hk.2,⟨hk.1.1.1,hk.1.1.2⟩⟩⟩)⟩,⟨z4_ BK780⟩,⟨z4_ BK781⟩,⟨Hd.b_⟩⟩
 case round =>
  clear H'
  try clear c1;try clear c2;try clear p2;try clear c3;try clear c5;try clear c7;try clear c7b0;try clear c7b1;try clear c11;try clear c15;try clear c18;try clear c26;try clear c27;try clear c28;try clear hcz16_0;try clear hcz16_1;try clear hcz16_2;try clear hcz16_3;try clear hcz16_4;try clear hcz18_0;try clear hcz18_1;try clear hcz18_2;try clear hcz18_3;try clear hcz18_4;try clear hfz16_0;try clear hfz16_1;try clear hfz16_2;try clear hfz16_3;try clear hfz16_4;try clear hfz18_0;try clear hfz18_1;try clear hfz18_2;try clear hfz18_3;try clear hfz18_4
  obtain ⟨x7_1,x8_1,rfl,rfl,HA,HK1,HO_5,HO_6,HO_781004,HO_782004,BK780,BK781,HB⟩:=hrel
  cases gk with
  | zero => exact absurd HA.out (by simp [laws_FnMeets.l0])
  | succ k1 =>
   have H:=HA.out
   clear HA
   simp only [laws_FnMeets.l0] at H
   by_cases c29 : x8_1 ≤ 3
   ·
    rw [if_pos c29] at H
    have c29b0:=decide_eq_true c29
    clear c29
    replace H:=Hd.bd_ H;obtain ⟨t791,A30,H⟩:=H
    have H':=ak H
    clear H
    go_wp2_with (first | ((with_reducible refine gate_callee (f:=31) rfl ?_);refine Hd.gl_ 41 Try.func31 #[.slice Ao27 t787.length co27,.int .i64 x8_1] ?_;(with_reducible refine (impl_CountMeets.calls k1 _ _ t787 x8_1 t791 _ ?side1 ?side2 A30.out).mono ?_);(case side1 => exact z26_ HO_6);(case side2 => exact (Kd.R_reads' HO_6.out).2.1);rintro e w31 ⟨rfl,hb⟩;refine ⟨_,rfl,?_⟩;replace HO_5:=ak (Kd.N_below (z13_ HO_5) hb);replace HO_6:=ak (Kd.R_below (Hd.r_ HO_6) hb);replace HO_781004:=ak (Kd.V_below (z5_ HO_781004) hb);replace HO_782004:=ak (Kd.V_below (z5_ HO_782004) hb);replace BK780:=ak (Hd.kb_ BK780 hb);replace BK781:=ak (Hd.kb_ BK781 hb);replace HB:=ak (below_step Hd.b_ hb);clear hb))
    go_roundg k1
    case measure => have:=HK1.out;omega
    case rel => exact ⟨(wrap64 (x7_1 + t791)),(wrap64 (x8_1 + 1)),z8_,z8_,H',⟨by have:=HK1.out;omega⟩,⟨z13_ HO_5⟩,⟨z6_ HO_6⟩,⟨z5_ HO_781004⟩,⟨z5_ HO_782004⟩,⟨z4_ BK780⟩,⟨z4_ BK781⟩,⟨Hd.b_⟩⟩
   rw [if_neg c29] at H
   have c29b0:=decide_eq_false c29
   clear c29
   by_cases c32 : x7_1 = (t787.length : Int);rotate_left
   ·
    rw [if_neg c32] at H
    have c32b0:=beq_eq_false_iff_ne.mpr c32
    have c32b1:=bne_iff_ne.mpr c32
    obtain rfl:=Option.some.inj H
    go_wp2
    go_ret
    exact ⟨Hd.e_,Hd.b_⟩
   rw [if_pos c32] at H
   have c32b0:=beq_iff_eq.mpr c32
   have c32b1:=bne_eq_false_iff_eq.mpr c32
   clear c32
   have H':=ak H
   clear H
   go_wp2
   go_loopg [9,10] k1 (fun kq v9 v10 w' => ∃ (x9_2 : Int) (x10_2 : Int),v9 = .int .i64 x9_2 ∧ v10 = .int .i64 x10_2 ∧ Aside0 (laws_FnMeets.l1 kq t784 t787 x9_2 x10_2 = some r) ∧ Aside0 (kq ≤ k1) ∧ Aside0 (Kd.N k34 34 w' w.heap.size (fun k_ => some k_ ≠ ((.slice Ao27 t787.length co27) : Value).ownBlock ∧ k_ ≠ gb780 ∧ k_ ≠ gb781) (.slice Ao25 t784.length co25) t784) ∧ Aside0 (Kd.R k82 82 w' w.heap.size (fun _ => True) (.slice Ao27 t787.length co27) t787) ∧ Aside0 (Kd.V k75 75 w' w.heap.size (fun k_ => some k_ ≠ ((.slice Ao25 t784.length co25) : Value).ownBlock ∧ some k_ ≠ ((.slice Ao27 t787.length co27) : Value).ownBlock ∧ k_ ≠ gb780 ∧ k_ ≠ gb781) (.slice Ao17 t770.length co17) t770) ∧ Aside0 (Kd.V k75 75 w' w.heap.size (fun k_ => some k_ ≠ ((.slice Ao25 t784.length co25) : Value).ownBlock ∧ some k_ ≠ ((.slice Ao27 t787.length co27) : Value).ownBlock ∧ k_ ≠ gb780 ∧ k_ ≠ gb781) (.slice Ao19 t777.length co19) t777) ∧ Aside0 (w'.heap[gb780]? = some (.cells #[.int .i64 t766,.int .i64 t767,.int .i64 t768,.string t769,(.slice Ao17 t770.length co17)] 34 (0,0))) ∧ Aside0 (w'.heap[gb781]? = some (.cells #[.int .i64 t773,.int .i64 t774,.int .i64 t775,.string t776,(.slice Ao19 t777.length co19)] 34 (0,0))) ∧ Aside0 (Below w.heap.size w w'))
   case atStart => exact ⟨(0),(0),z8_,z8_,H',⟨Nat.le_refl _⟩,⟨z13_ HO_5⟩,⟨z6_ HO_6⟩,⟨z5_ HO_781004⟩,⟨z5_ HO_782004⟩,⟨z4_ BK780⟩,⟨z4_ BK781⟩,⟨Hd.b_⟩⟩
   case round =>
    clear H'
    try clear c1;try clear c2;try clear p2;try clear c3;try clear c5;try clear p6;try clear c7;try clear c7b0;try clear c7b1;try clear c11;try clear c15;try clear c18;try clear c26;try clear c27;try clear c28;try clear c29;try clear c29b0;try clear c30;try clear c31;try clear c32;try clear c32b0;try clear c32b1;try clear hcz16_0;try clear hcz16_1;try clear hcz16_2;try clear hcz16_3;try clear hcz16_4;try clear hcz18_0;try clear hcz18_1;try clear hcz18_2;try clear hcz18_3;try clear hcz18_4;try clear hfz16_0;try clear hfz16_1;try clear hfz16_2;try clear hfz16_3;try clear hfz16_4;try clear hfz18_0;try clear hfz18_1;try clear hfz18_2;try clear hfz18_3;try clear hfz18_4;try clear p2
    obtain ⟨x9_2,x10_2,rfl,rfl,HA,HK2,HO_5,HO_6,HO_781004,HO_782004,BK780,BK781,HB⟩:=hrel
    cases gk with
    | zero => exact absurd HA.out (by simp [laws_FnMeets.l1])
    | succ k2 =>
     have H:=HA.out
     clear HA
     simp only [laws_FnMeets.l1] at H
     have HC33:=ak H
     clear H
     go_upto_region 19 with (fail)
     go_cut [54] (fun v54 wc => ∃ (kq : Nat) (x54_32 : Bool),v54 = .bool x54_32 ∧ Aside0 (laws_FnMeets.j2 kq t784 t787 x9_2 x10_2 x54_32 = some r) ∧ Aside0 (kq ≤ k2) ∧ Aside0 (Kd.N k34 34 wc w.heap.size (fun k_ => some k_ ≠ ((.slice Ao27 t787.length co27) : Value).ownBlock ∧ k_ ≠ gb780 ∧ k_ ≠ gb781) (.slice Ao25 t784.length co25) t784) ∧ Aside0 (Kd.R k82 82 wc w.heap.size (fun _ => True) (.slice Ao27 t787.length co27) t787) ∧ Aside0 (Kd.V k75 75 wc w.heap.size (fun k_ => some k_ ≠ ((.slice Ao25 t784.length co25) : Value).ownBlock ∧ some k_ ≠ ((.slice Ao27 t787.length co27) : Value).ownBlock ∧ k_ ≠ gb780 ∧ k_ ≠ gb781) (.slice Ao17 t770.length co17) t770) ∧ Aside0 (Kd.V k75 75 wc w.heap.size (fun k_ => some k_ ≠ ((.slice Ao25 t784.length co25) : Value).ownBlock ∧ some k_ ≠ ((.slice Ao27 t787.length co27) : Value).ownBlock ∧ k_ ≠ gb780 ∧ k_ ≠ gb781) (.slice Ao19 t777.length co19) t777) ∧ Aside0 (wc.heap[gb780]? = some (.cells #[.int .i64 t766,.int .i64 t767,.int .i64 t768,.string t769,(.slice Ao17 t770.length co17)] 34 (0,0))) ∧ Aside0 (wc.heap[gb781]? = some (.cells #[.int .i64 t773,.int .i64 t774,.int .i64 t775,.string t776,(.slice Ao19 t777.length co19)] 34 (0,0))) ∧ Aside0 (Below w.heap.size w wc))
     case first =>
      have H:=HC33.out
      clear HC33
      by_cases c34 : x10_2 < (t784.length : Int);rotate_left
      ·
       rw [if_neg c34] at H
       have c34b0:=decide_eq_false c34
       clear c34
       (first | rw [c34b0] | (simp only [i64_w,i32_w];rw [c34b0]) | skip)
       have H':=ak H
       clear H
       go_wp2
       go_meet
       case rel => exact ⟨_,(false),z8_,H',⟨z90_⟩,⟨z13_ HO_5⟩,⟨z6_ HO_6⟩,⟨z5_ HO_781004⟩,⟨z5_ HO_782004⟩,⟨z4_ BK780⟩,⟨z4_ BK781⟩,⟨Hd.b_⟩⟩
      rw [if_pos c34] at H
      have c34b0:=decide_eq_true c34
      clear c34
      (first | rw [c34b0] | (simp only [i64_w,i32_w];rw [c34b0]) | skip)
      replace H:=Hd.bd_ H;obtain ⟨t792,A35,H⟩:=H
      have H':=ak H
      clear H
      go_wp2_with (first | (go_at_call 21;(with_reducible refine (impl_IsSource.calls k2 _ _ t784 t792 _ ?side1 ?side2 A35.out).mono ?_);(case side1 => exact z52_ HO_5);(case side2 => exact (Kd.N_reads' HO_5.out).2.1);rintro e w36 ⟨rfl,hb⟩;replace HO_5:=ak (Kd.N_below (z13_ HO_5) hb);replace HO_6:=ak (Kd.R_below (Hd.r_ HO_6) hb);replace HO_781004:=ak (Kd.V_below (z5_ HO_781004) hb);replace HO_782004:=ak (Kd.V_below (z5_ HO_782004) hb);replace BK780:=ak (Hd.kb_ BK780 hb);replace BK781:=ak (Hd.kb_ BK781 hb);replace HB:=ak (below_step Hd.b_ hb);clear hb))
      go_meet
      case rel => exact ⟨_,(t792),z8_,H',⟨z90_⟩,⟨z13_ HO_5⟩,⟨z6_ HO_6⟩,⟨z5_ HO_781004⟩,⟨z5_ HO_782004⟩,⟨z4_ BK780⟩,⟨z4_ BK781⟩,⟨Hd.b_⟩⟩
     case rest =>
      clear HC33
      try clear c1;try clear c2;try clear p2;try clear c3;try clear c5;try clear p6;try clear c7;try clear c7b0;try clear c7b1;try clear c11;try clear c15;try clear c18;try clear c26;try clear c27;try clear c28;try clear c29;try clear c29b0;try clear c30;try clear c31;try clear c32;try clear c32b0;try clear c32b1;try clear c34;try clear c34b0;try clear hcz16_0;try clear hcz16_1;try clear hcz16_2;try clear hcz16_3;try clear hcz16_4;try clear hcz18_0;try clear hcz18_1;try clear hcz18_2;try clear hcz18_3;try clear hcz18_4;try clear hfz16_0;try clear hfz16_1;try clear hfz16_2;try clear hfz16_3;try clear hfz16_4;try clear hfz18_0;try clear hfz18_1;try clear hfz18_2;try clear hfz18_3;try clear hfz18_4;try clear p2;try clear p6
      obtain ⟨kq,x54_32,rfl,HA,HJ32,HO_5,HO_6,HO_781004,HO_782004,BK780,BK781,HB⟩:=hcut
      cases kq with
      | zero => exact absurd HA.out (by simp [laws_FnMeets.j2])
      | succ kj32 =>
       have H:=HA.out
       clear HA
       simp only [laws_FnMeets.j2] at H
       by_cases c37 : x54_32 = true;rotate_left
       ·
        replace c37:=Bool.eq_false_iff.mpr c37
        subst c37
        rw [if_neg (show ¬ (false = true) by decide)] at H
        obtain rfl:=Option.some.inj H
        go_wp2
        go_ret
        exact ⟨Hd.e_,Hd.b_⟩
       subst c37
       rw [if_pos rfl] at H
       have H':=ak H
       clear H
       go_wp2
       go_loopg [9,11] kj32 (fun kq v9 v11 w' => ∃ (x9_4 : Int) (x11_4 : Int),v9 = .int .i64 x9_4 ∧ v11 = .int .i64 x11_4 ∧ Aside0 (laws_FnMeets.l2 kq t784 t787 x9_4 x10_2 x11_4 = some r) ∧ Aside0 (kq ≤ kj32) ∧ Aside0 (Kd.N k34 34 w' w.heap.size (fun k_ => some k_ ≠ ((.slice Ao27 t787.length co27) : Value).ownBlock ∧ k_ ≠ gb780 ∧ k_ ≠ gb781) (.slice Ao25 t784.length co25) t784) ∧ Aside0 (Kd.R k82 82 w' w.heap.size (fun _ => True) (.slice Ao27 t787.length co27) t787) ∧ Aside0 (Kd.V k75 75 w' w.heap.size (fun k_ => some k_ ≠ ((.slice Ao25 t784.length co25) : Value).ownBlock ∧ some k_ ≠ ((.slice Ao27 t787.length co27) : Value).ownBlock ∧ k_ ≠ gb780 ∧ k_ ≠ gb781) (.slice Ao17 t770.length co17) t770) ∧ Aside0 (Kd.V k75 75 w' w.heap.size (fun k_ => some k_ ≠ ((.slice Ao25 t784.length co25) : Value).ownBlock ∧ some k_ ≠ ((.slice Ao27 t787.length co27) : Value).ownBlock ∧ k_ ≠ gb780 ∧ k_ ≠ gb781) (.slice Ao19 t777.length co19) t777) ∧ Aside0 (w'.heap[gb780]? = some (.cells #[.int .i64 t766,.int .i64 t767,.int .i64 t768,.string t769,(.slice Ao17 t770.length co17)] 34 (0,0))) ∧ Aside0 (w'.heap[gb781]? = some (.cells #[.int .i64 t773,.int .i64 t774,.int .i64 t775,.string t776,(.slice Ao19 t777.length co19)] 34 (0,0))) ∧ Aside0 (Below w.heap.size w w'))
       case atStart => exact ⟨(x9_2),(0),z8_,z8_,H',⟨Nat.le_refl _⟩,⟨z13_ HO_5⟩,⟨z6_ HO_6⟩,⟨z5_ HO_781004⟩,⟨z5_ HO_782004⟩,⟨z4_ BK780⟩,⟨z4_ BK781⟩,⟨Hd.b_⟩⟩
       case round =>
        clear H'
        try clear c1;try clear c2;try clear p2;try clear c3;try clear c5;try clear p6;try clear c7;try clear c7b0;try clear c7b1;try clear c11;try clear c15;try clear c18;try clear c26;try clear c27;try clear c28;try clear c29;try clear c29b0;try clear c30;try clear c31;try clear c32;try clear c32b0;try clear c32b1;try clear c34;try clear c34b0;try clear c37;try clear hcz16_0;try clear hcz16_1;try clear hcz16_2;try clear hcz16_3;try clear hcz16_4;try clear hcz18_0;try clear hcz18_1;try clear hcz18_2;try clear hcz18_3;try clear hcz18_4;try clear hfz16_0;try clear hfz16_1;try clear hfz16_2;try clear hfz16_3;try clear hfz16_4;try clear hfz18_0;try clear hfz18_1;try clear hfz18_2;try clear hfz18_3;try clear hfz18_4;try clear p2;try clear p6
        obtain ⟨x9_4,x11_4,rfl,rfl,HA,HK4,HO_5,HO_6,HO_781004,HO_782004,BK780,BK781,HB⟩:=hrel
        cases gk with
        | zero => exact absurd HA.out (by simp [laws_FnMeets.l2])
        | succ k4 =>
         have H:=HA.out
         clear HA
         simp only [laws_FnMeets.l2] at H
         by_cases c38 : x11_4 < x10_2;rotate_left
         ·
          rw [if_neg c38] at H
          have c38b0:=decide_eq_false c38
          clear c38
          have H':=ak H
          clear H
          go_wp2
          go_roundg k4
          case measure => have:=HK1.out;have:=HK2.out;have:=HJ32.out;have:=HK4.out;omega
          case rel => exact ⟨(x9_4),(wrap64 (x10_2 + 1)),z8_,z8_,H',⟨by have:=HK1.out;have:=HK2.out;have:=HJ32.out;have:=HK4.out;omega⟩,⟨z13_ HO_5⟩,⟨z6_ HO_6⟩,⟨z5_ HO_781004⟩,⟨z5_ HO_782004⟩,⟨z4_ BK780⟩,⟨z4_ BK781⟩,⟨Hd.b_⟩⟩
         rw [if_pos c38] at H
         have c38b0:=decide_eq_true c38
         clear c38
         by_cases c39 : 0 ≤ x10_2;rotate_left
         ·
          rw [if_neg c39] at H
          exact absurd H (by simp)
         rw [if_pos c39] at H
         have c39b0:=decide_eq_true c39
         clear c39
         by_cases c40 : x10_2 < (t784.length : Int);rotate_left
         ·
          rw [if_neg c40] at H
          exact absurd H (by simp)
         rw [if_pos c40] at H
         have c40b0:=decide_eq_true c40
         clear c40
         by_cases c41 : 0 ≤ x11_4;rotate_left
         ·
          rw [if_neg c41] at H
          exact absurd H (by simp)
         rw [if_pos c41] at H
         have c41b0:=decide_eq_true c41
         clear c41
         by_cases c42 : x11_4 < (t784.length : Int);rotate_left
         ·
          rw [if_neg c42] at H
          exact absurd H (by simp)
         rw [if_pos c42] at H
         have c42b0:=decide_eq_true c42
         clear c42
         replace H:=Hd.bd_ H;obtain ⟨t795,A43,H⟩:=H
         by_cases c44 : t795 = 0;rotate_left
         ·
          rw [if_neg c44] at H
          have c44b0:=beq_eq_false_iff_ne.mpr c44
          have c44b1:=bne_iff_ne.mpr c44
          have H':=ak H
          clear H
          try go_wp2
          replace HO_5:=ak (Kd.N_drew HO_5.out)
          replace HO_6:=ak (Kd.R_drew HO_6.out)
          replace HO_781004:=ak (Kd.V_drew HO_781004.out)
          replace HO_782004:=ak (Kd.V_drew HO_782004.out)
          replace BK780:=ak (blk_drew BK780.out)
          replace BK781:=ak (blk_drew BK781.out)
          replace HB:=ak (below_drew1 HB.out)
          have p793 : 0 ≤ (x10_2 : Int):=of_decide_eq_true Hd.a_
          have q793 : x10_2 < (t784.length : Int):=of_decide_eq_true Hd.a_
          obtain ⟨ad793,A793_4,c793_4,e793,hx793_0,hx793_1,hx793_2,hx793_3,hx793_4,hl793_4,hi793_4⟩:=at_T34 (Kd.N_reads' HO_5.out).2.2 x10_2 p793 q793
          cases e793
          obtain ⟨ce793,hce793,hMe793,hcc793⟩:=Kd.N_get HO_5.out z34 x10_2 p793 (by first | exact q793 | exact of_decide_eq_true Hd.a_ | (have e_:=(Kd.N_reads' HO_5.out).1;omega))
          obtain ⟨ua793_4,uc793_4,rfl,ul793_4,ge793_4⟩:=k34_openF hMe793
          have hv793_4:=hcc793 4 _ rfl
          rw [add_field _ _ 4 (by omega)] at hv793_4
          replace hv793_4:=Option.some.inj (hv793_4.symm.trans hx793_4)
          injection hv793_4 with hva_ hvn_ hvc_
          rw [hva_] at ge793_4
          rw [hvc_] at ul793_4
          have HL793_4:=ak (show Kd.V k75 75 _ w.heap.size _ _ ((rd_T34 t784 x10_2).f4) from Kd.V_mk ul793_4 ge793_4)
          clear hva_ hvn_ hvc_ ge793_4 ul793_4
          clear hcc793 hce793
          have HR793_4:=ak hi793_4
          have HC793_4:=ak hl793_4
          clear hi793_4 hl793_4
          replace p793:=eq_true p793
          replace q793:=eq_true q793
          have p794 : 0 ≤ (x11_4 : Int):=of_decide_eq_true Hd.a_
          have q794 : x11_4 < (t784.length : Int):=of_decide_eq_true Hd.a_
          obtain ⟨ad794,A794_4,c794_4,e794,hx794_0,hx794_1,hx794_2,hx794_3,hx794_4,hl794_4,hi794_4⟩:=at_T34 (Kd.N_reads' HO_5.out).2.2 x11_4 p794 q794
          obtain rfl : ad793 = ad794:=(by injection e794)
          obtain ⟨ce794,hce794,hMe794,hcc794⟩:=Kd.N_get HO_5.out z34 x11_4 p794 (by first | exact q794 | exact of_decide_eq_true Hd.a_ | (have e_:=(Kd.N_reads' HO_5.out).1;omega))
          obtain ⟨ua794_4,uc794_4,rfl,ul794_4,ge794_4⟩:=k34_openF hMe794
          have hv794_4:=hcc794 4 _ rfl
          rw [add_field _ _ 4 (by omega)] at hv794_4
          replace hv794_4:=Option.some.inj (hv794_4.symm.trans hx794_4)
          injection hv794_4 with hva_ hvn_ hvc_
          rw [hva_] at ge794_4
          rw [hvc_] at ul794_4
          have HL794_4:=ak (show Kd.V k75 75 _ w.heap.size _ _ ((rd_T34 t784 x11_4).f4) from Kd.V_mk ul794_4 ge794_4)
          clear hva_ hvn_ hvc_ ge794_4 ul794_4
          clear hcc794 hce794
          have HR794_4:=ak hi794_4
          have HC794_4:=ak hl794_4
          clear hi794_4 hl794_4
          replace p794:=eq_true p794
          replace q794:=eq_true q794
          refine start_ (n:=10) (S:=fun w' => w'.cell? (ad793.add ((x10_2).toNat * 5)) = some (.int .i64 ((rd_T34 t784 x10_2).f0)) ∧ w'.cell? ⟨(ad793.add ((x10_2).toNat * 5)).block,(ad793.add ((x10_2).toNat * 5)).off + 1,none⟩ = some (.int .i64 ((rd_T34 t784 x10_2).f1)) ∧ w'.cell? ⟨(ad793.add ((x10_2).toNat * 5)).block,(ad793.add ((x10_2).toNat * 5)).off + 2,none⟩ = some (.int .i64 ((rd_T34 t784 x10_2).f2)) ∧ w'.cell? ⟨(ad793.add ((x10_2).toNat * 5)).block,(ad793.add ((x10_2).toNat * 5)).off + 3,none⟩ = some (.string ((rd_T34 t784 x10_2).f3)) ∧ w'.cell? ⟨(ad793.add ((x10_2).toNat * 5)).block,(ad793.add ((x10_2).toNat * 5)).off + 4,none⟩ = some (.slice A793_4 ((rd_T34 t784 x10_2).f4).length c793_4) ∧ w'.cell? (ad793.add ((x11_4).toNat * 5)) = some (.int .i64 ((rd_T34 t784 x11_4).f0)) ∧ w'.cell? ⟨(ad793.add ((x11_4).toNat * 5)).block,(ad793.add ((x11_4).toNat * 5)).off + 1,none⟩ = some (.int .i64 ((rd_T34 t784 x11_4).f1)) ∧ w'.cell? ⟨(ad793.add ((x11_4).toNat * 5)).block,(ad793.add ((x11_4).toNat * 5)).off + 2,none⟩ = some (.int .i64 ((rd_T34 t784 x11_4).f2)) ∧ w'.cell? ⟨(ad793.add ((x11_4).toNat * 5)).block,(ad793.add ((x11_4).toNat * 5)).off + 3,none⟩ = some (.string ((rd_T34 t784 x11_4).f3)) ∧ w'.cell? ⟨(ad793.add ((x11_4).toNat * 5)).block,(ad793.add ((x11_4).toNat * 5)).off + 4,none⟩ = some (.slice A794_4 ((rd_T34 t784 x11_4).f4).length c794_4)) (ds:=[]) #[N_,N_,N_,N_,N_,N_,N_,N_,N_,N_] (by kernel_rfl) rfl rfl ⟨hx793_0,hx793_1,hx793_2,hx793_3,hx793_4,hx794_0,hx794_1,hx794_2,hx794_3,hx794_4⟩ (fun hHeld => ?_);refine with_tabW laws_FnMeets.tab24 laws_FnMeets.bits24 (fun HT_ HW_ => ?_)
          generalize wr.drew = w47 at HO_5 HO_6 HO_781004 HO_782004 BK780 BK781 HB HL793_4 HL794_4 HR793_4 HR794_4 hx793_0 hx793_1 hx793_2 hx793_3 hx793_4 hx794_0 hx794_1 hx794_2 hx794_3 hx794_4 hHeld ⊢
          refine Hd.p_ HT_ 0 (some 62) #[Y_,N_,N_,N_,N_,N_,N_,N_,N_,N_] ?_
          refine Hd.p_ HT_ 1 (some 63) #[Y_,Y_,N_,N_,N_,N_,N_,N_,N_,N_] ?_
          refine Hd.p_ HT_ 2 (some 64) #[Y_,Y_,Y_,N_,N_,N_,N_,N_,N_,N_] ?_
          refine Hd.p_ HT_ 4 (some 66) #[Y_,Y_,Y_,N_,Y_,N_,N_,N_,N_,N_] ?_
          refine Hd.p_ HT_ 5 (some 67) #[Y_,Y_,Y_,N_,Y_,Y_,N_,N_,N_,N_] ?_
          refine Hd.p_ HT_ 6 (some 68) #[Y_,Y_,Y_,N_,Y_,Y_,Y_,N_,N_,N_] ?_
          refine Hd.t_ HT_ HW_ hHeld 3 (some 65) #[Y_,Y_,Y_,Y_,Y_,Y_,Y_,N_,N_,N_] ?_
          refine Hd.t_ HT_ HW_ hHeld 7 (some 69) #[Y_,Y_,Y_,Y_,Y_,Y_,Y_,Y_,N_,N_] ?_
          refine Hd.o_ HT_ 8 (some 70) #[Y_,Y_,Y_,Y_,Y_,Y_,Y_,Y_,Y_,N_] (fun K hK => ?_)
          refine goes_ Try.func27 (by kernel_rfl) rfl #[.agg #[.int .i64 ((rd_T34 t784 x10_2).f0),.int .i64 ((rd_T34 t784 x10_2).f1),.int .i64 ((rd_T34 t784 x10_2).f2),.string ((rd_T34 t784 x10_2).f3),.slice A793_4 ((rd_T34 t784 x10_2).f4).length c793_4],.agg #[.int .i64 ((rd_T34 t784 x11_4).f0),.int .i64 ((rd_T34 t784 x11_4).f1),.int .i64 ((rd_T34 t784 x11_4).f2),.string ((rd_T34 t784 x11_4).f3),.slice A794_4 ((rd_T34 t784 x11_4).f4).length c794_4]] (by rfl) rfl rfl Hd.m_ ?_
          with_reducible refine (impl_FeaturesMeet.calls k4 ((rd_T34 t784 x10_2).f0) ((rd_T34 t784 x10_2).f1) ((rd_T34 t784 x10_2).f2) ((rd_T34 t784 x10_2).f3) _ _ ((rd_T34 t784 x10_2).f4) ((rd_T34 t784 x11_4).f0) ((rd_T34 t784 x11_4).f1) ((rd_T34 t784 x11_4).f2) ((rd_T34 t784 x11_4).f3) _ _ ((rd_T34 t784 x11_4).f4) t795 _ ?side1 ?side2 ?side3 ?side4 A43.out).mono ?_
          (case side1 => repeat (first | exact (z33_ HR793_4) | (with_reducible refine Kd.C_alloc ?_ _) | (with_reducible refine Kd.C_drewN ?_ _) | (with_reducible refine Kd.C_drew ?_)))
          (case side2 => exact HC793_4.out)
          (case side3 => repeat (first | exact (z33_ HR794_4) | (with_reducible refine Kd.C_alloc ?_ _) | (with_reducible refine Kd.C_drewN ?_ _) | (with_reducible refine Kd.C_drew ?_)))
          (case side4 => exact HC794_4.out)
          rintro e w48 ⟨rfl,hb⟩
          have HS0_:=(hb.cell (World.block_lt_of_cell? _ _ (hHeld.1))).trans (hHeld.1)
          have HS1_:=(hb.cell (World.block_lt_of_cell? _ _ (hHeld.2.1))).trans (hHeld.2.1)
          have HS2_:=(hb.cell (World.block_lt_of_cell? _ _ (hHeld.2.2.1))).trans (hHeld.2.2.1)
          have HS3_:=(hb.cell (World.block_lt_of_cell? _ _ (hHeld.2.2.2.1))).trans (hHeld.2.2.2.1)
          have HS4_:=(hb.cell (World.block_lt_of_cell? _ _ (hHeld.2.2.2.2.1))).trans (hHeld.2.2.2.2.1)
          have HS5_:=(hb.cell (World.block_lt_of_cell? _ _ (hHeld.2.2.2.2.2.1))).trans (hHeld.2.2.2.2.2.1)
          have HS6_:=(hb.cell (World.block_lt_of_cell? _ _ (hHeld.2.2.2.2.2.2.1))).trans (hHeld.2.2.2.2.2.2.1)
          have HS7_:=(hb.cell (World.block_lt_of_cell? _ _ (hHeld.2.2.2.2.2.2.2.1))).trans (hHeld.2.2.2.2.2.2.2.1)
          have HS8_:=(hb.cell (World.block_lt_of_cell? _ _ (hHeld.2.2.2.2.2.2.2.2.1))).trans (hHeld.2.2.2.2.2.2.2.2.1)
          have HS9_:=(hb.cell (World.block_lt_of_cell? _ _ (hHeld.2.2.2.2.2.2.2.2.2))).trans (hHeld.2.2.2.2.2.2.2.2.2)
          refine ⟨_,rfl,?_⟩
          replace HO_5:=ak (Kd.N_below (z13_ HO_5) hb)
          replace HO_6:=ak (Kd.R_below (Hd.r_ HO_6) hb)
          replace HO_781004:=ak (Kd.V_below (z5_ HO_781004) hb)
          replace HO_782004:=ak (Kd.V_below (z5_ HO_782004) hb)
          replace HL793_4:=ak (Kd.V_below (by (with_reducible repeat (first | apply Kd.V_alloc | apply Kd.V_drewN | apply Kd.V_drew));exact HL793_4.out) hb)
          replace HL794_4:=ak (Kd.V_below (by (with_reducible repeat (first | apply Kd.V_alloc | apply Kd.V_drewN | apply Kd.V_drew));exact HL794_4.out) hb)
          replace BK780:=ak (Hd.kb_ BK780 hb)
          replace BK781:=ak (Hd.kb_ BK781 hb)
          replace HR793_4:=ak (Kd.C_below (z33_ HR793_4) hb)
          replace HR794_4:=ak (Kd.C_below (z33_ HR794_4) hb)
          replace HB:=ak (below_step Hd.b_ hb)
          try clear hb;try clear hb2;try clear hk;try clear hi
          refine hK.out _ _ ⟨HS0_,HS1_,HS2_,HS3_,HS4_,HS5_,HS6_,HS7_,HS8_,HS9_⟩ (fun hHeld => ?_)
          clear hK K
          refine Hd.n_ (some 70) ?_
          refine Hd.p_ HT_ 9 (some 71) #[Y_,Y_,Y_,Y_,Y_,Y_,Y_,Y_,Y_,Y_] ?_
          refine done_ (done_of HT_.out (by kernel_rfl)) ?_
          try go_wp2
          go_roundg k4
          case measure => have:=HK1.out;have:=HK2.out;have:=HJ32.out;have:=HK4.out;omega
          case rel => exact ⟨(wrap64 (x9_4 + 1)),(wrap64 (x11_4 + 1)),z8_,z8_,H',⟨by have:=HK1.out;have:=HK2.out;have:=HJ32.out;have:=HK4.out;omega⟩,⟨z13_ HO_5⟩,⟨z6_ HO_6⟩,⟨z5_ HO_781004⟩,⟨z5_ HO_782004⟩,⟨z4_ BK780⟩,⟨z4_ BK781⟩,⟨Hd.b_⟩⟩
         rw [if_pos c44] at H
         have c44b0:=beq_iff_eq.mpr c44
         have c44b1:=bne_eq_false_iff_eq.mpr c44
         clear c44
         have H':=ak H
         clear H
         try go_wp2
         replace HO_5:=ak (Kd.N_drew HO_5.out)
         replace HO_6:=ak (Kd.R_drew HO_6.out)
         replace HO_781004:=ak (Kd.V_drew HO_781004.out)
         replace HO_782004:=ak (Kd.V_drew HO_782004.out)
         replace BK780:=ak (blk_drew BK780.out)
         replace BK781:=ak (blk_drew BK781.out)
         replace HB:=ak (below_drew1 HB.out)
         have p793 : 0 ≤ (x10_2 : Int):=of_decide_eq_true Hd.a_
         have q793 : x10_2 < (t784.length : Int):=of_decide_eq_true Hd.a_
         obtain ⟨ad793,A793_4,c793_4,e793,hx793_0,hx793_1,hx793_2,hx793_3,hx793_4,hl793_4,hi793_4⟩:=at_T34 (Kd.N_reads' HO_5.out).2.2 x10_2 p793 q793
         cases e793
         obtain ⟨ce793,hce793,hMe793,hcc793⟩:=Kd.N_get HO_5.out z34 x10_2 p793 (by first | exact q793 | exact of_decide_eq_true Hd.a_ | (have e_:=(Kd.N_reads' HO_5.out).1;omega))
         obtain ⟨ua793_4,uc793_4,rfl,ul793_4,ge793_4⟩:=k34_openF hMe793
         have hv793_4:=hcc793 4 _ rfl
         rw [add_field _ _ 4 (by omega)] at hv793_4
         replace hv793_4:=Option.some.inj (hv793_4.symm.trans hx793_4)
         injection hv793_4 with hva_ hvn_ hvc_
         rw [hva_] at ge793_4
         rw [hvc_] at ul793_4
         have HL793_4:=ak (show Kd.V k75 75 _ w.heap.size _ _ ((rd_T34 t784 x10_2).f4) from Kd.V_mk ul793_4 ge793_4)
         clear hva_ hvn_ hvc_ ge793_4 ul793_4
         clear hcc793 hce793
         have HR793_4:=ak hi793_4
         have HC793_4:=ak hl793_4
         clear hi793_4 hl793_4
         replace p793:=eq_true p793
         replace q793:=eq_true q793
         have p794 : 0 ≤ (x11_4 : Int):=of_decide_eq_true Hd.a_
         have q794 : x11_4 < (t784.length : Int):=of_decide_eq_true Hd.a_
         obtain ⟨ad794,A794_4,c794_4,e794,hx794_0,hx794_1,hx794_2,hx794_3,hx794_4,hl794_4,hi794_4⟩:=at_T34 (Kd.N_reads' HO_5.out).2.2 x11_4 p794 q794
         obtain rfl : ad793 = ad794:=(by injection e794)
         obtain ⟨ce794,hce794,hMe794,hcc794⟩:=Kd.N_get HO_5.out z34 x11_4 p794 (by first | exact q794 | exact of_decide_eq_true Hd.a_ | (have e_:=(Kd.N_reads' HO_5.out).1;omega))
         obtain ⟨ua794_4,uc794_4,rfl,ul794_4,ge794_4⟩:=k34_openF hMe794
         have hv794_4:=hcc794 4 _ rfl
         rw [add_field _ _ 4 (by omega)] at hv794_4
         replace hv794_4:=Option.some.inj (hv794_4.symm.trans hx794_4)
         injection hv794_4 with hva_ hvn_ hvc_
         rw [hva_] at ge794_4
         rw [hvc_] at ul794_4
         have HL794_4:=ak (show Kd.V k75 75 _ w.heap.size _ _ ((rd_T34 t784 x11_4).f4) from Kd.V_mk ul794_4 ge794_4)
         clear hva_ hvn_ hvc_ ge794_4 ul794_4
         clear hcc794 hce794
         have HR794_4:=ak hi794_4
         have HC794_4:=ak hl794_4
         clear hi794_4 hl794_4
         replace p794:=eq_true p794
         replace q794:=eq_true q794
         refine start_ (n:=10) (S:=fun w' => w'.cell? (ad793.add ((x10_2).toNat * 5)) = some (.int .i64 ((rd_T34 t784 x10_2).f0)) ∧ w'.cell? ⟨(ad793.add ((x10_2).toNat * 5)).block,(ad793.add ((x10_2).toNat * 5)).off + 1,none⟩ = some (.int .i64 ((rd_T34 t784 x10_2).f1)) ∧ w'.cell? ⟨(ad793.add ((x10_2).toNat * 5)).block,(ad793.add ((x10_2).toNat * 5)).off + 2,none⟩ = some (.int .i64 ((rd_T34 t784 x10_2).f2)) ∧ w'.cell? ⟨(ad793.add ((x10_2).toNat * 5)).block,(ad793.add ((x10_2).toNat * 5)).off + 3,none⟩ = some (.string ((rd_T34 t784 x10_2).f3)) ∧ w'.cell? ⟨(ad793.add ((x10_2).toNat * 5)).block,(ad793.add ((x10_2).toNat * 5)).off + 4,none⟩ = some (.slice A793_4 ((rd_T34 t784 x10_2).f4).length c793_4) ∧ w'.cell? (ad793.add ((x11_4).toNat * 5)) = some (.int .i64 ((rd_T34 t784 x11_4).f0)) ∧ w'.cell? ⟨(ad793.add ((x11_4).toNat * 5)).block,(ad793.add ((x11_4).toNat * 5)).off + 1,none⟩ = some (.int .i64 ((rd_T34 t784 x11_4).f1)) ∧ w'.cell? ⟨(ad793.add ((x11_4).toNat * 5)).block,(ad793.add ((x11_4).toNat * 5)).off + 2,none⟩ = some (.int .i64 ((rd_T34 t784 x11_4).f2)) ∧ w'.cell? ⟨(ad793.add ((x11_4).toNat * 5)).block,(ad793.add ((x11_4).toNat * 5)).off + 3,none⟩ = some (.string ((rd_T34 t784 x11_4).f3)) ∧ w'.cell? ⟨(ad793.add ((x11_4).toNat * 5)).block,(ad793.add ((x11_4).toNat * 5)).off + 4,none⟩ = some (.slice A794_4 ((rd_T34 t784 x11_4).f4).length c794_4)) (ds:=[]) #[N_,N_,N_,N_,N_,N_,N_,N_,N_,N_] (by kernel_rfl) rfl rfl ⟨hx793_0,hx793_1,hx793_2,hx793_3,hx793_4,hx794_0,hx794_1,hx794_2,hx794_3,hx794_4⟩ (fun hHeld => ?_);refine with_tabW laws_FnMeets.tab24 laws_FnMeets.bits24 (fun HT_ HW_ => ?_)
         generalize wr.drew = w45 at HO_5 HO_6 HO_781004 HO_782004 BK780 BK781 HB HL793_4 HL794_4 HR793_4 HR794_4 hx793_0 hx793_1 hx793_2 hx793_3 hx793_4 hx794_0 hx794_1 hx794_2 hx794_3 hx794_4 hHeld ⊢
         refine Hd.p_ HT_ 0 (some 62) #[Y_,N_,N_,N_,N_,N_,N_,N_,N_,N_] ?_
         refine Hd.p_ HT_ 1 (some 63) #[Y_,Y_,N_,N_,N_,N_,N_,N_,N_,N_] ?_
         refine Hd.p_ HT_ 2 (some 64) #[Y_,Y_,Y_,N_,N_,N_,N_,N_,N_,N_] ?_
         refine Hd.p_ HT_ 4 (some 66) #[Y_,Y_,Y_,N_,Y_,N_,N_,N_,N_,N_] ?_
         refine Hd.p_ HT_ 5 (some 67) #[Y_,Y_,Y_,N_,Y_,Y_,N_,N_,N_,N_] ?_
         refine Hd.p_ HT_ 6 (some 68) #[Y_,Y_,Y_,N_,Y_,Y_,Y_,N_,N_,N_] ?_
         refine Hd.t_ HT_ HW_ hHeld 3 (some 65) #[Y_,Y_,Y_,Y_,Y_,Y_,Y_,N_,N_,N_] ?_
         refine Hd.t_ HT_ HW_ hHeld 7 (some 69) #[Y_,Y_,Y_,Y_,Y_,Y_,Y_,Y_,N_,N_] ?_
         refine Hd.o_ HT_ 8 (some 70) #[Y_,Y_,Y_,Y_,Y_,Y_,Y_,Y_,Y_,N_] (fun K hK => ?_)
         refine goes_ Try.func27 (by kernel_rfl) rfl #[.agg #[.int .i64 ((rd_T34 t784 x10_2).f0),.int .i64 ((rd_T34 t784 x10_2).f1),.int .i64 ((rd_T34 t784 x10_2).f2),.string ((rd_T34 t784 x10_2).f3),.slice A793_4 ((rd_T34 t784 x10_2).f4).length c793_4],.agg #[.int .i64 ((rd_T34 t784 x11_4).f0),.int .i64 ((rd_T34 t784 x11_4).f1),.int .i64 ((rd_T34 t784 x11_4).f2),.string ((rd_T34 t784 x11_4).f3),.slice A794_4 ((rd_T34 t784 x11_4).f4).length c794_4]] (by rfl) rfl rfl Hd.m_ ?_
         with_reducible refine (impl_FeaturesMeet.calls k4 ((rd_T34 t784 x10_2).f0) ((rd_T34 t784 x10_2).f1) ((rd_T34 t784 x10_2).f2) ((rd_T34 t784 x10_2).f3) _ _ ((rd_T34 t784 x10_2).f4) ((rd_T34 t784 x11_4).f0) ((rd_T34 t784 x11_4).f1) ((rd_T34 t784 x11_4).f2) ((rd_T34 t784 x11_4).f3) _ _ ((rd_T34 t784 x11_4).f4) t795 _ ?side1 ?side2 ?side3 ?side4 A43.out).mono ?_
         (case side1 => repeat (first | exact (z33_ HR793_4) | (with_reducible refine Kd.C_alloc ?_ _) | (with_reducible refine Kd.C_drewN ?_ _) | (with_reducible refine Kd.C_drew ?_)))
         (case side2 => exact HC793_4.out)
         (case side3 => repeat (first | exact (z33_ HR794_4) | (with_reducible refine Kd.C_alloc ?_ _) | (with_reducible refine Kd.C_drewN ?_ _) | (with_reducible refine Kd.C_drew ?_)))
         (case side4 => exact HC794_4.out)
         rintro e w46 ⟨rfl,hb⟩
         have HS0_:=(hb.cell (World.block_lt_of_cell? _ _ (hHeld.1))).trans (hHeld.1)
         have HS1_:=(hb.cell (World.block_lt_of_cell? _ _ (hHeld.2.1))).trans (hHeld.2.1)
         have HS2_:=(hb.cell (World.block_lt_of_cell? _ _ (hHeld.2.2.1))).trans (hHeld.2.2.1)
         have HS3_:=(hb.cell (World.block_lt_of_cell? _ _ (hHeld.2.2.2.1))).trans (hHeld.2.2.2.1)
         have HS4_:=(hb.cell (World.block_lt_of_cell? _ _ (hHeld.2.2.2.2.1))).trans (hHeld.2.2.2.2.1)
         have HS5_:=(hb.cell (World.block_lt_of_cell? _ _ (hHeld.2.2.2.2.2.1))).trans (hHeld.2.2.2.2.2.1)
         have HS6_:=(hb.cell (World.block_lt_of_cell? _ _ (hHeld.2.2.2.2.2.2.1))).trans (hHeld.2.2.2.2.2.2.1)
         have HS7_:=(hb.cell (World.block_lt_of_cell? _ _ (hHeld.2.2.2.2.2.2.2.1))).trans (hHeld.2.2.2.2.2.2.2.1)
         have HS8_:=(hb.cell (World.block_lt_of_cell? _ _ (hHeld.2.2.2.2.2.2.2.2.1))).trans (hHeld.2.2.2.2.2.2.2.2.1)
         have HS9_:=(hb.cell (World.block_lt_of_cell? _ _ (hHeld.2.2.2.2.2.2.2.2.2))).trans (hHeld.2.2.2.2.2.2.2.2.2)
         refine ⟨_,rfl,?_⟩
         replace HO_5:=ak (Kd.N_below (z13_ HO_5) hb)
         replace HO_6:=ak (Kd.R_below (Hd.r_ HO_6) hb)
         replace HO_781004:=ak (Kd.V_below (z5_ HO_781004) hb)
         replace HO_782004:=ak (Kd.V_below (z5_ HO_782004) hb)
         replace HL793_4:=ak (Kd.V_below (by (with_reducible repeat (first | apply Kd.V_alloc | apply Kd.V_drewN | apply Kd.V_drew));exact HL793_4.out) hb)
         replace HL794_4:=ak (Kd.V_below (by (with_reducible repeat (first | apply Kd.V_alloc | apply Kd.V_drewN | apply Kd.V_drew));exact HL794_4.out) hb)
         replace BK780:=ak (Hd.kb_ BK780 hb)
         replace BK781:=ak (Hd.kb_ BK781 hb)
         replace HR793_4:=ak (Kd.C_below (z33_ HR793_4) hb)
         replace HR794_4:=ak (Kd.C_below (z33_ HR794_4) hb)
         replace HB:=ak (below_step Hd.b_ hb)
         try clear hb;try clear hb2;try clear hk;try clear hi
         refine hK.out _ _ ⟨HS0_,HS1_,HS2_,HS3_,HS4_,HS5_,HS6_,HS7_,HS8_,HS9_⟩ (fun hHeld => ?_)
         clear hK K
         refine Hd.n_ (some 70) ?_
         refine Hd.p_ HT_ 9 (some 71) #[Y_,Y_,Y_,Y_,Y_,Y_,Y_,Y_,Y_,Y_] ?_
         refine done_ (done_of HT_.out (by kernel_rfl)) ?_
         try go_wp2
         go_roundg k4
         case measure => have:=HK1.out;have:=HK2.out;have:=HJ32.out;have:=HK4.out;omega
         case rel => exact ⟨(x9_4),(wrap64 (x11_4 + 1)),z8_,z8_,H',⟨by have:=HK1.out;have:=HK2.out;have:=HJ32.out;have:=HK4.out;omega⟩,⟨z13_ HO_5⟩,⟨z6_ HO_6⟩,⟨z5_ HO_781004⟩,⟨z5_ HO_782004⟩,⟨z4_ BK780⟩,⟨z4_ BK781⟩,⟨Hd.b_⟩⟩
end Go.Proofs.Ytbbdhlggnglfgaa.MFnMeets
