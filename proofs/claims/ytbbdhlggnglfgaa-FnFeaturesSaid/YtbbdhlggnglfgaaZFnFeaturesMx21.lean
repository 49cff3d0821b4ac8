-- Laid by this session's program pp.py, after the kit's print and texts of the session's own. Not trusted: Lean checks it.
import Derived.Test.YtbbdhlggnglfgaaZFnFeaturesMx0
import Derived.Test.YtbbdhlggnglfgaaZFnFeaturesMx2
import Derived.Test.YtbbdhlggnglfgaaZFnFeaturesMx8
import Derived.Test.YtbbdhlggnglfgaaZFnFeaturesMx9
import Derived.Test.YtbbdhlggnglfgaaZFnFeaturesMx11
import Derived.Test.YtbbdhlggnglfgaaZFnFeaturesMx20
namespace Go.Proofs.Ytbbdhlggnglfgaa.MFnFeatures
open Go.RowKit Go.Proofs.YtbbdhlggnglfgaaW.PrintWords Go.Proofs.YtbbdhlggnglfgaaW.PrintLast Go.Proofs.YtbbdhlggnglfgaaW.PrintMore
attribute [local go_sem] max2_int min2_int max_two min_two max_three min_three max_four min_four
set_option linter.unusedVariables false
set_option maxHeartbeats 8000000
set_option maxRecDepth 100000
set_option linter.unusedSimpArgs false
def impl_Feature_55.l0:Nat→List (S34)→List (S34)→Int→Int→Option (Bool)
 | 0,_,_,_,_=>none
 | k+1,x1,x15,x16,x17=>if x17<x16 then (if 0≤x17 then (if x17<(x15.length:Int) then (if x17<(x1.length:Int) then ((impl_EqualFeatures.f k ((rd_T34 x15 x17).f0) ((rd_T34 x15 x17).f1) ((rd_T34 x15 x17).f2) ((rd_T34 x15 x17).f3) ((rd_T34 x15 x17).f4) ((rd_T34 x1 x17).f0) ((rd_T34 x1 x17).f1) ((rd_T34 x1 x17).f2) ((rd_T34 x1 x17).f3) ((rd_T34 x1 x17).f4)).bind fun t783=>(if t783=true then (impl_Feature_55.l0 k x1 x15 x16 (wrap64 (x17+1))) else (some false))) else (none)) else (none)) else (none)) else (some true)
def impl_Feature_55.f (k:Nat) (l0:List (S34)) (l1:List (S34)):Option (Bool):=if (l0.length:Int)=(l1.length:Int) then (impl_Feature_55.l0 k l1 l0 (l0.length:Int) 0) else (some false)
theorem impl_Feature_55.calls (k:Nat) (A0:Option Addr) (c0:Nat) (l0:List (S34)) (A1:Option Addr) (c1:Nat) (l1:List (S34)) (r:Bool) (w:World) (hr0:Kd.C k34 w A0 l0.length l0) (hc0:l0.length≤c0) (hr1:Kd.C k34 w A1 l1.length l1) (hc1:l1.length≤c1) (h:impl_Feature_55.f k l0 l1=some r) :
  Calls Try.prog 55 #[.slice A0 l0.length c0,.slice A1 l1.length c1,.func (.func 22) #[] #[]] w fun e w'=>e = .returned (.bool r)∧Below w.heap.size w w':=by
 have hu34:=Try.underlying34
 have HR0:=ak hr0
 have HC0:=ak hc0
 clear hr0 hc0
 have HR1:=ak hr1
 have HC1:=ak hc1
 clear hr1 hc1
 have HB:=z52_
 have H:=h;clear h;unfold impl_Feature_55.f at H
 by_cases c3:(l0.length:Int)=(l1.length:Int);rotate_left
 ·
  rw [if_neg c3] at H
  have c3b0:=beq_eq_false_iff_ne.mpr c3
  have c3b1:=bne_iff_ne.mpr c3
  have c3b2:(l0.length==l1.length)=false:=by first|simpa using c3|(simp at c3 ⊢;omega)
  obtain rfl:=Option.some.inj H
  go_enter Try.func55,Try.ntmps55
  go_wp2
  go_ret
  exact⟨Hd.e_,Hd.b_⟩
 rw [if_pos c3] at H
 have c3b0:=beq_iff_eq.mpr c3
 have c3b1:=bne_eq_false_iff_eq.mpr c3
 have c3b2:(l0.length==l1.length)=true:=by first|simpa using c3|(simp at c3 ⊢;omega)
 clear c3
 have H':=ak H
 clear H
 go_enter Try.func55,Try.ntmps55
 go_wp2
 go_loopg [17] k (fun kq v17 w'=>∃ (x17_1:Int),v17 = .int .i64 x17_1∧Aside0 (impl_Feature_55.l0 kq l1 l0 (l0.length:Int) x17_1=some r)∧Aside0 (kq≤k)∧Aside0 (Below w.heap.size w w'))
 case atStart=>exact⟨(0),z14_,H',⟨Nat.le_refl _⟩,⟨Hd.b_⟩⟩
 case round =>
  clear H'
  try clear c1;try clear c3;try clear c3b0;try clear c3b1;try clear c3b2
  obtain⟨x17_1,rfl,HA,HK1,HB⟩:=hrel
  cases gk with
  | zero=>exact absurd HA.out (by simp [impl_Feature_55.l0])
  | succ k1 =>
   have H:=HA.out
   clear HA
   simp only[impl_Feature_55.l0] at H
   by_cases c4:x17_1<(l0.length:Int);rotate_left
   ·
    rw [if_neg c4] at H
    have c4b0:=z198_
    clear c4
    obtain rfl:=Option.some.inj H
    go_wp2
    go_ret
    exact⟨Hd.e_,Hd.b_⟩
   rw [if_pos c4] at H
   have c4b0:=decide_eq_true c4
   clear c4
   by_cases c5:0≤x17_1;rotate_left
   ·
    rw [if_neg c5] at H
    exact absurd H (by simp)
   rw [if_pos c5] at H
   have c5b0:=decide_eq_true c5
   clear c5
   by_cases c6:x17_1<(l0.length:Int);rotate_left
   ·
    rw [if_neg c6] at H
    exact absurd H (by simp)
   rw [if_pos c6] at H
   have c6b0:=decide_eq_true c6
   clear c6
   by_cases c7:x17_1<(l1.length:Int);rotate_left
   ·
    rw [if_neg c7] at H
    exact absurd H (by simp)
   rw [if_pos c7] at H
   have c7b0:=decide_eq_true c7
   clear c7
   replace H:=Hd.bd_ H;obtain⟨t783,A8,H⟩:=H
   by_cases c9:t783=true;rotate_left
   ·
    replace c9:=Bool.eq_false_iff.mpr c9
    subst c9
    rw [if_neg (show ¬ (false=true) by decide)] at H
    obtain rfl:=Option.some.inj H
    have p779:0≤(x17_1:Int):=od_
    have q779:x17_1<(l0.length:Int):=od_
    obtain⟨ad779,A779_4,c779_4,e779,hx779_0,hx779_1,hx779_2,hx779_3,hx779_4,hl779_4,hi779_4⟩:=at_T34 HR0.out x17_1 p779 q779
    cases e779
    replace hx779_0:=(HB.out.cell (bl_ w _ hx779_0)).trans hx779_0
    replace hx779_1:=(HB.out.cell (bl_ w _ hx779_1)).trans hx779_1
    replace hx779_2:=(HB.out.cell (bl_ w _ hx779_2)).trans hx779_2
    replace hx779_3:=(HB.out.cell (bl_ w _ hx779_3)).trans hx779_3
    replace hx779_4:=(HB.out.cell (bl_ w _ hx779_4)).trans hx779_4
    have HR779_4:=ak hi779_4
    have HC779_4:=ak hl779_4
    clear hi779_4 hl779_4
    replace p779:=eq_true p779
    replace q779:=eq_true q779
    go_wp2_with (first|((with_reducible refine gate_dst (N:=8) rfl ?_);refine Hd.box_ 8 (#[.int .i64 0,.int .i64 0,.int .i64 0,.string (⟨#[]⟩:ByteArray),.slice none 0 0]) 34 ?_;intro gb780 hg w17 hbox hb;have BK780:=ak (hbox);have GW780:=z206_;have GE780:=z206_;replace HB:=z17_;clear hb hbox hg;obtain⟨hcz18_0,hcz18_1,hcz18_2,hcz18_3,hcz18_4⟩:=Hd.c5_ BK780.out;obtain⟨hfz18_0,hfz18_1,hfz18_2,hfz18_3,hfz18_4⟩:=Hd.f5_ BK780.out;have p781:0≤(x17_1:Int):=od_;have q781:x17_1<(l1.length:Int):=od_;obtain⟨ad781,A781_4,c781_4,e781,hx781_0,hx781_1,hx781_2,hx781_3,hx781_4,hl781_4,hi781_4⟩:=at_T34 HR1.out x17_1 p781 q781;cases e781;have hn781_0:ad781.block≠gb780:=Nat.ne_of_lt (Nat.lt_of_lt_of_le z76_ GW780.out);have hn781_1:ad781.block≠gb780:=Nat.ne_of_lt (Nat.lt_of_lt_of_le z76_ GW780.out);have hn781_2:ad781.block≠gb780:=Nat.ne_of_lt (Nat.lt_of_lt_of_le z76_ GW780.out);have hn781_3:ad781.block≠gb780:=Nat.ne_of_lt (Nat.lt_of_lt_of_le z76_ GW780.out);have hn781_4:ad781.block≠gb780:=Nat.ne_of_lt (Nat.lt_of_lt_of_le z76_ GW780.out);replace hx781_0:=(HB.out.cell (bl_ w _ hx781_0)).trans hx781_0;replace hx781_1:=(HB.out.cell (bl_ w _ hx781_1)).trans hx781_1;replace hx781_2:=(HB.out.cell (bl_ w _ hx781_2)).trans hx781_2;replace hx781_3:=(HB.out.cell (bl_ w _ hx781_3)).trans hx781_3;replace hx781_4:=(HB.out.cell (bl_ w _ hx781_4)).trans hx781_4;have HR781_4:=ak hi781_4;have HC781_4:=ak hl781_4;clear hi781_4 hl781_4;replace hx781_0:=(cell_far (p:=⟨gb780,0,none⟩) z53_ (.int .i64 ((rd_T34 l0 x17_1).f0))).trans hx781_0;replace hx781_1:=(cell_far (p:=⟨gb780,0,none⟩) z53_ (.int .i64 ((rd_T34 l0 x17_1).f0))).trans hx781_1;replace hx781_2:=(cell_far (p:=⟨gb780,0,none⟩) z53_ (.int .i64 ((rd_T34 l0 x17_1).f0))).trans hx781_2;replace hx781_3:=(cell_far (p:=⟨gb780,0,none⟩) z53_ (.int .i64 ((rd_T34 l0 x17_1).f0))).trans hx781_3;replace hx781_4:=(cell_far (p:=⟨gb780,0,none⟩) z53_ (.int .i64 ((rd_T34 l0 x17_1).f0))).trans hx781_4;replace hx781_0:=(cell_far (p:=⟨gb780,1,none⟩) z54_ (.int .i64 ((rd_T34 l0 x17_1).f1))).trans hx781_0;replace hx781_1:=(cell_far (p:=⟨gb780,1,none⟩) z54_ (.int .i64 ((rd_T34 l0 x17_1).f1))).trans hx781_1;replace hx781_2:=(cell_far (p:=⟨gb780,1,none⟩) z54_ (.int .i64 ((rd_T34 l0 x17_1).f1))).trans hx781_2;replace hx781_3:=(cell_far (p:=⟨gb780,1,none⟩) z54_ (.int .i64 ((rd_T34 l0 x17_1).f1))).trans hx781_3;replace hx781_4:=(cell_far (p:=⟨gb780,1,none⟩) z54_ (.int .i64 ((rd_T34 l0 x17_1).f1))).trans hx781_4;replace hx781_0:=(cell_far (p:=⟨gb780,2,none⟩) z55_ (.int .i64 ((rd_T34 l0 x17_1).f2))).trans hx781_0;replace hx781_1:=(cell_far (p:=⟨gb780,2,none⟩) z55_ (.int .i64 ((rd_T34 l0 x17_1).f2))).trans hx781_1;replace hx781_2:=(cell_far (p:=⟨gb780,2,none⟩) z55_ (.int .i64 ((rd_T34 l0 x17_1).f2))).trans hx781_2;replace hx781_3:=(cell_far (p:=⟨gb780,2,none⟩) z55_ (.int .i64 ((rd_T34 l0 x17_1).f2))).trans hx781_3;replace hx781_4:=(cell_far (p:=⟨gb780,2,none⟩) z55_ (.int .i64 ((rd_T34 l0 x17_1).f2))).trans hx781_4;replace hx781_0:=(cell_far (p:=⟨gb780,3,none⟩) z56_ (.string ((rd_T34 l0 x17_1).f3))).trans hx781_0;replace hx781_1:=(cell_far (p:=⟨gb780,3,none⟩) z56_ (.string ((rd_T34 l0 x17_1).f3))).trans hx781_1;replace hx781_2:=(cell_far (p:=⟨gb780,3,none⟩) z56_ (.string ((rd_T34 l0 x17_1).f3))).trans hx781_2;replace hx781_3:=(cell_far (p:=⟨gb780,3,none⟩) z56_ (.string ((rd_T34 l0 x17_1).f3))).trans hx781_3;replace hx781_4:=(cell_far (p:=⟨gb780,3,none⟩) z56_ (.string ((rd_T34 l0 x17_1).f3))).trans hx781_4;replace hx781_0:=(cell_far (p:=⟨gb780,4,none⟩) z57_ (.slice A779_4 ((rd_T34 l0 x17_1).f4).length c779_4)).trans hx781_0;replace hx781_1:=(cell_far (p:=⟨gb780,4,none⟩) z57_ (.slice A779_4 ((rd_T34 l0 x17_1).f4).length c779_4)).trans hx781_1;replace hx781_2:=(cell_far (p:=⟨gb780,4,none⟩) z57_ (.slice A779_4 ((rd_T34 l0 x17_1).f4).length c779_4)).trans hx781_2;replace hx781_3:=(cell_far (p:=⟨gb780,4,none⟩) z57_ (.slice A779_4 ((rd_T34 l0 x17_1).f4).length c779_4)).trans hx781_3;replace hx781_4:=(cell_far (p:=⟨gb780,4,none⟩) z57_ (.slice A779_4 ((rd_T34 l0 x17_1).f4).length c779_4)).trans hx781_4;clear hn781_0;clear hn781_1;clear hn781_2;clear hn781_3;clear hn781_4;replace p781:=eq_true p781;replace q781:=eq_true q781)|((with_reducible refine gate_dst (N:=9) rfl ?_);refine Hd.box_ 9 (#[.int .i64 0,.int .i64 0,.int .i64 0,.string (⟨#[]⟩:ByteArray),.slice none 0 0]) 34 ?_;intro gb782 hg w19 hbox hb;have BK782:=ak (hbox);have GW782:=z207_;have GE782:=z207_;replace HB:=z17_;have NB780_782:=z249_;have NB782_780:=z250_;replace BK780:=z252_;clear hb hbox hg;have hnb20:=NB782_780.out;have hnc20:=NB780_782.out;obtain⟨hcz21_0,hcz21_1,hcz21_2,hcz21_3,hcz21_4⟩:=Hd.c5_ BK782.out;obtain⟨hfz21_0,hfz21_1,hfz21_2,hfz21_3,hfz21_4⟩:=Hd.f5_ BK782.out;obtain⟨hcz22_0,hcz22_1,hcz22_2,hcz22_3,hcz22_4⟩:=Hd.c5_ BK780.out;obtain⟨hfz22_0,hfz22_1,hfz22_2,hfz22_3,hfz22_4⟩:=Hd.f5_ BK780.out)|(go_at_call 22;(with_reducible refine(impl_EqualFeatures.calls k1 ((rd_T34 l0 x17_1).f0) ((rd_T34 l0 x17_1).f1) ((rd_T34 l0 x17_1).f2) ((rd_T34 l0 x17_1).f3) _ _ ((rd_T34 l0 x17_1).f4) ((rd_T34 l1 x17_1).f0) ((rd_T34 l1 x17_1).f1) ((rd_T34 l1 x17_1).f2) ((rd_T34 l1 x17_1).f3) _ _ ((rd_T34 l1 x17_1).f4) false _ ?side1 ?side2 ?side3 ?side4 A8.out).mono ?_);(case side1=>exact Kd.C_below HR779_4.out Hd.b_);(case side2=>exact HC779_4.out);(case side3=>exact Kd.C_below HR781_4.out Hd.b_);(case side4=>exact HC781_4.out);rintro e w23 ⟨rfl,hb⟩;replace BK780:=z251_;replace BK782:=z253_;replace HB:=z17_;(try clear hb);(try clear hi)))
    go_ret
    exact⟨Hd.e_,Hd.b_⟩
   subst c9
   rw [if_pos rfl] at H
   have H':=ak H
   clear H
   have p779:0≤(x17_1:Int):=od_
   have q779:x17_1<(l0.length:Int):=od_
   obtain⟨ad779,A779_4,c779_4,e779,hx779_0,hx779_1,hx779_2,hx779_3,hx779_4,hl779_4,hi779_4⟩:=at_T34 HR0.out x17_1 p779 q779
   cases e779
   replace hx779_0:=(HB.out.cell (bl_ w _ hx779_0)).trans hx779_0
   replace hx779_1:=(HB.out.cell (bl_ w _ hx779_1)).trans hx779_1
   replace hx779_2:=(HB.out.cell (bl_ w _ hx779_2)).trans hx779_2
   replace hx779_3:=(HB.out.cell (bl_ w _ hx779_3)).trans hx779_3
   replace hx779_4:=(HB.out.cell (bl_ w _ hx779_4)).trans hx779_4
   have HR779_4:=ak hi779_4
   have HC779_4:=ak hl779_4
   clear hi779_4 hl779_4
   replace p779:=eq_true p779
   replace q779:=eq_true q779
   go_wp2_with (first|((with_reducible refine gate_dst (N:=8) rfl ?_);refine Hd.box_ 8 (#[.int .i64 0,.int .i64 0,.int .i64 0,.string (⟨#[]⟩:ByteArray),.slice none 0 0]) 34 ?_;intro gb780 hg w10 hbox hb;have BK780:=ak (hbox);have GW780:=z206_;have GE780:=z206_;replace HB:=z17_;clear hb hbox hg;obtain⟨hcz11_0,hcz11_1,hcz11_2,hcz11_3,hcz11_4⟩:=Hd.c5_ BK780.out;obtain⟨hfz11_0,hfz11_1,hfz11_2,hfz11_3,hfz11_4⟩:=Hd.f5_ BK780.out;have p781:0≤(x17_1:Int):=od_;have q781:x17_1<(l1.length:Int):=od_;obtain⟨ad781,A781_4,c781_4,e781,hx781_0,hx781_1,hx781_2,hx781_3,hx781_4,hl781_4,hi781_4⟩:=at_T34 HR1.out x17_1 p781 q781;cases e781;have hn781_0:ad781.block≠gb780:=Nat.ne_of_lt (Nat.lt_of_lt_of_le z76_ GW780.out);have hn781_1:ad781.block≠gb780:=Nat.ne_of_lt (Nat.lt_of_lt_of_le z76_ GW780.out);have hn781_2:ad781.block≠gb780:=Nat.ne_of_lt (Nat.lt_of_lt_of_le z76_ GW780.out);have hn781_3:ad781.block≠gb780:=Nat.ne_of_lt (Nat.lt_of_lt_of_le z76_ GW780.out);have hn781_4:ad781.block≠gb780:=Nat.ne_of_lt (Nat.lt_of_lt_of_le z76_ GW780.out);replace hx781_0:=(HB.out.cell (bl_ w _ hx781_0)).trans hx781_0;replace hx781_1:=(HB.out.cell (bl_ w _ hx781_1)).trans hx781_1;replace hx781_2:=(HB.out.cell (bl_ w _ hx781_2)).trans hx781_2;replace hx781_3:=(HB.out.cell (bl_ w _ hx781_3)).trans hx781_3;replace hx781_4:=(HB.out.cell (bl_ w _ hx781_4)).trans hx781_4;have HR781_4:=ak hi781_4;have HC781_4:=ak hl781_4;clear hi781_4 hl781_4;replace hx781_0:=(cell_far (p:=⟨gb780,0,none⟩) z53_ (.int .i64 ((rd_T34 l0 x17_1).f0))).trans hx781_0;replace hx781_1:=(cell_far (p:=⟨gb780,0,none⟩) z53_ (.int .i64 ((rd_T34 l0 x17_1).f0))).trans hx781_1;replace hx781_2:=(cell_far (p:=⟨gb780,0,none⟩) z53_ (.int .i64 ((rd_T34 l0 x17_1).f0))).trans hx781_2;replace hx781_3:=(cell_far (p:=⟨gb780,0,none⟩) z53_ (.int .i64 ((rd_T34 l0 x17_1).f0))).trans hx781_3;replace hx781_4:=(cell_far (p:=⟨gb780,0,none⟩) z53_ (.int .i64 ((rd_T34 l0 x17_1).f0))).trans hx781_4;replace hx781_0:=(cell_far (p:=⟨gb780,1,none⟩) z54_ (.int .i64 ((rd_T34 l0 x17_1).f1))).trans hx781_0;replace hx781_1:=(cell_far (p:=⟨gb780,1,none⟩) z54_ (.int .i64 ((rd_T34 l0 x17_1).f1))).trans hx781_1;replace hx781_2:=(cell_far (p:=⟨gb780,1,none⟩) z54_ (.int .i64 ((rd_T34 l0 x17_1).f1))).trans hx781_2;replace hx781_3:=(cell_far (p:=⟨gb780,1,none⟩) z54_ (.int .i64 ((rd_T34 l0 x17_1).f1))).trans hx781_3;replace hx781_4:=(cell_far (p:=⟨gb780,1,none⟩) z54_ (.int .i64 ((rd_T34 l0 x17_1).f1))).trans hx781_4;replace hx781_0:=(cell_far (p:=⟨gb780,2,none⟩) z55_ (.int .i64 ((rd_T34 l0 x17_1).f2))).trans hx781_0;replace hx781_1:=(cell_far (p:=⟨gb780,2,none⟩) z55_ (.int .i64 ((rd_T34 l0 x17_1).f2))).trans hx781_1;replace hx781_2:=(cell_far (p:=⟨gb780,2,none⟩) z55_ (.int .i64 ((rd_T34 l0 x17_1).f2))).trans hx781_2;replace hx781_3:=(cell_far (p:=⟨gb780,2,none⟩) z55_ (.int .i64 ((rd_T34 l0 x17_1).f2))).trans hx781_3;replace hx781_4:=(cell_far (p:=⟨gb780,2,none⟩) z55_ (.int .i64 ((rd_T34 l0 x17_1).f2))).trans hx781_4;replace hx781_0:=(cell_far (p:=⟨gb780,3,none⟩) z56_ (.string ((rd_T34 l0 x17_1).f3))).trans hx781_0;replace hx781_1:=(cell_far (p:=⟨gb780,3,none⟩) z56_ (.string ((rd_T34 l0 x17_1).f3))).trans hx781_1;replace hx781_2:=(cell_far (p:=⟨gb780,3,none⟩) z56_ (.string ((rd_T34 l0 x17_1).f3))).trans hx781_2;replace hx781_3:=(cell_far (p:=⟨gb780,3,none⟩) z56_ (.string ((rd_T34 l0 x17_1).f3))).trans hx781_3;replace hx781_4:=(cell_far (p:=⟨gb780,3,none⟩) z56_ (.string ((rd_T34 l0 x17_1).f3))).trans hx781_4;replace hx781_0:=(cell_far (p:=⟨gb780,4,none⟩) z57_ (.slice A779_4 ((rd_T34 l0 x17_1).f4).length c779_4)).trans hx781_0;replace hx781_1:=(cell_far (p:=⟨gb780,4,none⟩) z57_ (.slice A779_4 ((rd_T34 l0 x17_1).f4).length c779_4)).trans hx781_1;replace hx781_2:=(cell_far (p:=⟨gb780,4,none⟩) z57_ (.slice A779_4 ((rd_T34 l0 x17_1).f4).length c779_4)).trans hx781_2;replace hx781_3:=(cell_far (p:=⟨gb780,4,none⟩) z57_ (.slice A779_4 ((rd_T34 l0 x17_1).f4).length c779_4)).trans hx781_3;replace hx781_4:=(cell_far (p:=⟨gb780,4,none⟩) z57_ (.slice A779_4 ((rd_T34 l0 x17_1).f4).length c779_4)).trans hx781_4;clear hn781_0;clear hn781_1;clear hn781_2;clear hn781_3;clear hn781_4;replace p781:=eq_true p781;replace q781:=eq_true q781)|((with_reducible refine gate_dst (N:=9) rfl ?_);refine Hd.box_ 9 (#[.int .i64 0,.int .i64 0,.int .i64 0,.string (⟨#[]⟩:ByteArray),.slice none 0 0]) 34 ?_;intro gb782 hg w12 hbox hb;have BK782:=ak (hbox);have GW782:=z207_;have GE782:=z207_;replace HB:=z17_;have NB780_782:=z249_;have NB782_780:=z250_;replace BK780:=z252_;clear hb hbox hg;have hnb13:=NB782_780.out;have hnc13:=NB780_782.out;obtain⟨hcz14_0,hcz14_1,hcz14_2,hcz14_3,hcz14_4⟩:=Hd.c5_ BK782.out;obtain⟨hfz14_0,hfz14_1,hfz14_2,hfz14_3,hfz14_4⟩:=Hd.f5_ BK782.out;obtain⟨hcz15_0,hcz15_1,hcz15_2,hcz15_3,hcz15_4⟩:=Hd.c5_ BK780.out;obtain⟨hfz15_0,hfz15_1,hfz15_2,hfz15_3,hfz15_4⟩:=Hd.f5_ BK780.out)|(go_at_call 22;(with_reducible refine(impl_EqualFeatures.calls k1 ((rd_T34 l0 x17_1).f0) ((rd_T34 l0 x17_1).f1) ((rd_T34 l0 x17_1).f2) ((rd_T34 l0 x17_1).f3) _ _ ((rd_T34 l0 x17_1).f4) ((rd_T34 l1 x17_1).f0) ((rd_T34 l1 x17_1).f1) ((rd_T34 l1 x17_1).f2) ((rd_T34 l1 x17_1).f3) _ _ ((rd_T34 l1 x17_1).f4) true _ ?side1 ?side2 ?side3 ?side4 A8.out).mono ?_);(case side1=>exact Kd.C_below HR779_4.out Hd.b_);(case side2=>exact HC779_4.out);(case side3=>exact Kd.C_below HR781_4.out Hd.b_);(case side4=>exact HC781_4.out);rintro e w16 ⟨rfl,hb⟩;replace BK780:=z251_;replace BK782:=z253_;replace HB:=z17_;(try clear hb);(try clear hi)))
   go_roundg k1
   case measure=>have:=HK1.out;omega
   case rel=>exact⟨(wrap64 (x17_1+1)),z14_,H',⟨z101_⟩,⟨Hd.b_⟩⟩
theorem impl_TakeFeature.clr {α:Type} (d:Kd α) {W:World} {g m c e base:Nat} {ok:Nat→Prop} {xs:List α} (HO:d.R e W base ok (.slice (some ⟨g,0,none⟩) m c) xs) (zs:List Value) (o:Nat) (ho:m*d.sz≤o) (hfit:o+zs.length≤c*d.sz) :
    d.R e (W.setCells g o zs) base ok (.slice (some ⟨g,0,none⟩) m c) xs∧W.grownBy (W.setCells g o zs) (some g):=by
  obtain⟨hn,hnc,_⟩:=Kd.R_reads' HO
  obtain⟨hok,inner,hown,hr⟩:=HO
  subst hn
  have hin:inner.length=xs.length*d.sz:=hr.1
  rcases hown.2 with ⟨hv,_⟩|⟨g',cap',cur,hv,hb,hh,hnn,hcm,hcs,htake⟩
  · cases hv
  injection hv with ha hl hc
  injection ha with ha
  injection ha with hg
  subst hg;subst hc
  obtain⟨cur',h3,h4,h5⟩:=setCells_row zs o W cur hh (by omega)
  obtain⟨s1,s2,s3,s4⟩:=setCells_same g zs o W
  have hfar:∀ k',k'≠g→(W.setCells g o zs).heap[k']?=W.heap[k']?:=fun k' hk'=>setCells_far zs _ k' hk'
  have hgo:∀ m,some g=(Value.slice (some ⟨g,0,none⟩) m c).ownBlock:=fun m=>by simp [Value.ownBlock]
  have hle:xs.length*d.sz≤cur.toList.length:=by
    exact Nat.le_trans (Nat.mul_le_mul_right _ hnc) (Nat.le_of_eq (hcs.symm.trans Array.length_toList.symm))
  refine⟨⟨hok,inner,⟨hown.1,.inr ⟨g,c,cur',rfl,hb,h3,hnn,hcm,by rw [h4,hcs],?_⟩⟩,hr.imp_ fun p q hp=>d.M_move (fun k' hk'=>hfar k' (fun he=>hk'.2 (by rw [← hgo,he]))) hp⟩,⟨s1,s2,s3,by rw [s4];exact Nat.le_refl _,fun k' _ hk'=>hfar k' (fun he=>hk' (by rw [he]))⟩⟩
  rw [h5,List.append_assoc,List.take_append_of_le_length (by rw [List.length_take];omega),List.take_take,Nat.min_eq_left (by omega)]
  exact htake
theorem impl_TakeFeature.runclr (ty:TypeId) (W:World) (g o c:Nat) (cur:Array Value) (hh:W.heap[g]?=some (.cells cur 34 (0,0))) (hfit:o+5≤cur.size) :
    (Builtin.clear_ #[28] ty #[.slice (some ⟨g,o,none⟩) 1 c]).run Try.prog W = .ok (.tuple #[]) (W.setCells g o [.int .i64 0,.int .i64 0,.int .i64 0,.string ⟨#[]⟩,.slice none 0 0]):=by
  have hst:=run_storeCells_cells (P:=Try.prog) g o [.int .i64 0,.int .i64 0,.int .i64 0,.string ⟨#[]⟩,.slice none 0 0] 0 W (fun j hj=>by
    have hj:j<5:=hj
    rw [Nat.add_zero,blk_cell hh,Array.getElem?_eq_getElem (by omega)];rfl) (fun j _=>blk_frozen hh _) (by intro v hv;simp at hv;rcases hv with rfl|rfl|rfl|rfl|rfl <;> rfl)
  simp only[Nat.add_zero] at hst
  have hz:(Builtin.zeroCells (#[.int .i64 0,.int .i64 0,.int .i64 0,.string ⟨#[]⟩,.slice none 0 0]:Array Value) 1).toList=[.int .i64 0,.int .i64 0,.int .i64 0,.string ⟨#[]⟩,.slice none 0 0]:=by kernel_rfl
  simp [Builtin.clear_,run_underlying Try.underlying28,Try.zeroValue34,Value.cells,hz,hst]
theorem impl_TakeFeature.cur {α:Type} {d:Kd α} {W:World} {g m c e base:Nat} {ok:Nat→Prop} {xs:List α} (HO:d.R e W base ok (.slice (some ⟨g,0,none⟩) m c) xs):∃ cur,W.heap[g]?=some (.cells cur e (0,0))∧cur.size=c*d.sz∧base≤g:=by
  obtain⟨hok,inner,hown,hr⟩:=HO
  rcases hown.2 with ⟨hv,_⟩|⟨g',cap',cur,hv,hb,hh,hnn,hcm,hcs,htake⟩
  · cases hv
  injection hv with ha hl hc
  injection ha with ha
  injection ha with hg
  subst hg;subst hc
  exact⟨cur,hh,hcs,hb⟩
theorem impl_TakeFeature.max {α:Type} {d:Kd α} {W:World} {g m c e base:Nat} {ok:Nat→Prop} {xs:List α} (HO:d.R e W base ok (.slice (some ⟨g,0,none⟩) m c) xs):m≤9223372036854775807:=by
  have h1:=(Kd.R_reads' HO).2.1
  obtain⟨hok,inner,hown,hr⟩:=HO
  rcases hown.2 with ⟨hv,_⟩|⟨g',cap',cur,hv,hb,hh,hnn,hcm,hcs,htake⟩
  · cases hv
  injection hv with ha hl hc
  subst hc
  unfold maxLen at hcm
  omega
theorem impl_TakeFeature.del (g n c i base:Nat) (ok:Nat→Prop) (xs:List S34) (w0 w:World) (HO:Kd.S k34 34 w base ok (.slice (some ⟨g,0,none⟩) n c) xs) (hi:i<n) (HB:Below base w0 w) (hbs:base≤w.heap.size) :
    Calls Try.prog 54 #[.slice (some ⟨g,0,none⟩) n c,.int .i64 i,.int .i64 ((i:Int)+1)] w fun e w'=>e = .returned (.slice (some ⟨g,0,none⟩) (n-1) c)∧Kd.S k34 34 w' base ok (.slice (some ⟨g,0,none⟩) (n-1) c) (xs.eraseIdx i)∧Below base w0 w':=by
  have hu28:=Try.underlying28
  obtain⟨i0,hi0,hz0,hz1,hz2⟩:=info_parts info34
  have hnc:=(Kd.R_reads' (Kd.S_R HO)).2.1
  have hel:Try.prog.elem 28=34:=by simp [Program.elem,hu28]
  have hcut13:∀ W:World,(Instr.slice 28 (.slice (some ⟨g,0,none⟩) n c) (some (.int .i64 i)) (some (.int .i64 ((i:Int)+1))) (some (.int .i64 n))).run Try.prog W = .ok (sliced (some ⟨g,0,none⟩) (i:Int).toNat ((i:Int)+1).toNat (n:Int).toNat i0.size) W:=fun W=>by
    rw [run_slice_lhm W 28 (some ⟨g,0,none⟩) n c (by rw [hel];exact hu28) .i64 .i64 .i64 i ((i:Int)+1) n (by omega) (by omega) (by omega) (by omega),hel]
    simp [sizeOf,typeInfo,hi0,Result.andThen]
  obtain⟨X13,hX13⟩:∃ X,X=sliced (some ⟨g,0,none⟩) (i:Int).toNat ((i:Int)+1).toNat (n:Int).toNat i0.size:=⟨_,rfl⟩
  rw [← hX13] at hcut13
  clear hX13
  have hcut22:=cut_to (P:=Try.prog) 28 34 .i64 hu28 hi0 (some ⟨g,0,none⟩) n c (i:Int) (by omega) (by omega) hnc
  have hcut25:=cut_from (P:=Try.prog) 28 34 .i64 hu28 hi0 5 hz1 (some ⟨g,0,none⟩) n c ((i:Int)+1) (by omega) (by omega)
  have hcut31:∀ W:World,(Instr.slice 28 (.slice (some ⟨g,0,none⟩) (n-1) c) (some (.int .i64 ((n-1:Nat):Int))) (some (.int .i64 (n:Int))) none).run Try.prog W = .ok (.slice (some ⟨g,(n-1)*5,none⟩) 1 (c-(n-1))) W:=fun W=>by
    rw [run_slice_lh W 28 (some ⟨g,0,none⟩) (n-1) c (by rw [hel];exact hu28) .i64 .i64 ((n-1:Nat):Int) n (by omega) (by omega) (by omega),hel]
    have hne:¬ c=n-1:=by omega
    simp [sizeOf,typeInfo,hi0,hz1,Result.andThen,sliced,Addr.add,hne]
    omega
  have HO':=ak HO
  have HB':=ak HB
  have heq:((i:Int)==(i:Int)+1)=false:=beq_eq_false_iff_ne.2 (by omega)
  clear HO HB
  have e1:((i:Int)).toNat=i:=by omega
  have e2:((i:Int)+1).toNat=i+1:=by omega
  rw [e1] at hcut22
  rw [e2] at hcut25
  clear e1 e2
  obtain⟨A25,hA25⟩:∃ A,A=(if c=i+1 then (some ⟨g,0,none⟩:Option Addr) else (some (⟨g,0,none⟩:Addr)).map (·.add ((i+1)*5))):=⟨_,rfl⟩
  rw [← hA25] at hcut25
  have HA25:=ak hA25
  clear hA25
  go_enter Try.func54,Try.ntmps54
  go_wp2_with fail
  go_region_law (refine Kd.S_delete_step k34 (w0:=w0) base (by rfl) (.tmp 22) (.tmp 25) 28 34 rfl Try.underlying28 (by kernel_rfl) (n:=n) (k:=i) (c:=c) (g:=g) (m:=n-(i+1)) (c2:=c-(i+1)) (A:=A25) z183_ z183_ HA25.out rfl (Kd.S_drew HO'.out) hi (below_drew1 HB'.out) hbs ?_;intro w1 hS1 hB1 hG1)
  obtain⟨cur,hcur,hcs,hgb⟩:=impl_TakeFeature.cur (Kd.S_R hS1)
  have hz5:k34.sz=5:=rfl
  rw [hz5] at hcs
  have hcl:=fun ty=>impl_TakeFeature.runclr ty w1 g ((n-1)*5) (c-(n-1)) cur hcur (by omega)
  have HG1:=ak (Array.getElem?_eq_some_iff.1 hcur).1
  have HS1:=ak hS1
  have HB1:=ak hB1
  have HCS:=ak hcs
  have HGB:=ak hgb
  clear hS1 hB1 hG1 hcur hcs hgb hz5
  go_wp2
  go_ret
  obtain⟨f,HR⟩:=HS1.out
  obtain⟨h1,h2⟩:=impl_TakeFeature.clr _ HR [.int .i64 0,.int .i64 0,.int .i64 0,.string ⟨#[]⟩,.slice none 0 0] ((n-1)*5) (Nat.le_refl _) (by show (n-1)*5+5≤c*5;omega)
  refine⟨rfl,⟨f,h1⟩,?_⟩
  have hb1:=HB1.out
  exact⟨h2.os.trans hb1.os,h2.tape.trans hb1.tape,h2.output.trans hb1.output,Nat.le_trans hb1.size h2.size,fun k hk=>(h2.block k (by have:=HG1.out;have:=HGB.out;omega) (by intro e;cases e;have:=HGB.out;omega)).trans (hb1.block k hk)⟩
def impl_TakeFeature.f (k:Nat) (l0:List S34) (a1:Int):Option (List S34 × Bool):=(impl_cloneSource.f k l0).bind fun t=>(impl_FindFeature.f k l0 a1).bind fun i=>(impl_IsSource.f k l0).bind fun b=>if b=true then (if i<0 then some (t,false) else if i<(t.length:Int) then some (t.eraseIdx i.toNat,true) else none) else some (t,false)
theorem impl_TakeFeature.calls (k:Nat) (A0:Option Addr) (c0:Nat) (l0:List S34) (a1:Int) (r1:List S34) (r2:Bool) (w:World) (hr0:Kd.C k34 w A0 l0.length l0) (hc0:l0.length≤c0) (h:impl_TakeFeature.f k l0 a1=some (r1,r2)) :
    Calls Try.prog 23 #[.slice A0 l0.length c0,.int .i64 a1] w fun e w'=>∃ v0_:Value,e = .returned (.tuple #[v0_,.bool r2])∧Kd.S k34 34 w' w.heap.size (fun _=>True) v0_ r1∧Below w.heap.size w w':=by
  unfold impl_TakeFeature.f at h
  obtain⟨t,ht,h⟩:=Option.bind_eq_some_iff.1 h
  obtain⟨i,hi,h⟩:=Option.bind_eq_some_iff.1 h
  obtain⟨b,hb,h⟩:=Option.bind_eq_some_iff.1 h
  have HT:=ak ht
  have HI:=ak hi
  have HBB:=ak hb
  have HR:=ak hr0
  have HC:=ak hc0
  clear ht hi hb hr0 hc0
  by_cases hbt:b=true
  case neg =>
    rw [if_neg hbt] at h
    obtain⟨rfl,rfl⟩:=Prod.mk.inj (Option.some.inj h)
    obtain rfl:=Bool.eq_false_iff.2 hbt
    clear h hbt
    go_enter Try.func23,Try.ntmps23
    go_wp2_with (first|(go_at_call 38;(with_reducible refine(impl_cloneSource.calls k A0 c0 l0 t w HR.out HC.out HT.out).mono ?_);rintro e w1 ⟨v0,rfl,hS,hb⟩;have HS:=ak hS;have HB:=ak hb;clear hS hb)|(go_at_call 20;(with_reducible refine(impl_FindFeature.calls k A0 c0 l0 a1 _ w1 (Kd.C_below HR.out HB.out) HC.out HI.out).mono ?_);rintro e w2 ⟨rfl,hb⟩;have HS2:=ak (Kd.S_below HS.out hb);have HB2:=ak (below_step HB.out hb);clear hb)|(go_at_call 21;(with_reducible refine(impl_IsSource.calls k A0 c0 l0 _ w2 (Kd.C_below HR.out HB2.out) HC.out HBB.out).mono ?_);rintro e w3 ⟨rfl,hb⟩;have HS3:=ak (Kd.S_below HS2.out hb);have HB3:=ak (below_step HB2.out hb);clear hb))
    go_ret2
    exact⟨_,rfl,HS3.out,HB3.out⟩
  subst hbt
  rw [if_pos rfl] at h
  by_cases c:i<0
  · rw [if_pos c] at h
    obtain⟨rfl,rfl⟩:=Prod.mk.inj (Option.some.inj h)
    have b1:decide (i<0)=true:=decide_eq_true c
    clear h
    go_enter Try.func23,Try.ntmps23
    go_wp2_with (first|(go_at_call 38;(with_reducible refine(impl_cloneSource.calls k A0 c0 l0 t w HR.out HC.out HT.out).mono ?_);rintro e w1 ⟨v0,rfl,hS,hb⟩;have HS:=ak hS;have HB:=ak hb;clear hS hb)|(go_at_call 20;(with_reducible refine(impl_FindFeature.calls k A0 c0 l0 a1 _ w1 (Kd.C_below HR.out HB.out) HC.out HI.out).mono ?_);rintro e w2 ⟨rfl,hb⟩;have HS2:=ak (Kd.S_below HS.out hb);have HB2:=ak (below_step HB.out hb);clear hb)|(go_at_call 21;(with_reducible refine(impl_IsSource.calls k A0 c0 l0 _ w2 (Kd.C_below HR.out HB2.out) HC.out HBB.out).mono ?_);rintro e w3 ⟨rfl,hb⟩;have HS3:=ak (Kd.S_below HS2.out hb);have HB3:=ak (below_step HB2.out hb);clear hb))
    go_ret2
    exact⟨_,rfl,HS3.out,HB3.out⟩
  rw [if_neg c] at h
  by_cases c2:i<(t.length:Int)
  case neg=>rw [if_neg c2] at h;cases h
  rw [if_pos c2] at h
  obtain⟨rfl,rfl⟩:=Prod.mk.inj (Option.some.inj h)
  obtain⟨j,rfl⟩:∃ j:Nat,i=(j:Int):=⟨i.toNat,by omega⟩
  have hj:j<t.length:=by omega
  have HJ:=ak hj
  have b1:decide ((j:Int)<0)=false:=decide_eq_false c
  have ej:((j:Int)).toNat=j:=by omega
  rw [ej]
  clear h c c2 hj ej
  go_enter Try.func23,Try.ntmps23
  go_wp2_with (first|(go_at_call 38;(with_reducible refine(impl_cloneSource.calls k A0 c0 l0 t w HR.out HC.out HT.out).mono ?_);rintro e w1 ⟨v0,rfl,hS,hb⟩;obtain⟨g,c1,he,hg,hgl,_⟩:=Kd.R_form (Kd.S_R hS) (by have:=HJ.out;omega);subst he;have hwp:IntKind.i64.wrap ((j:Int)+1)=(j:Int)+1:=(by have h1:=HJ.out;have h2:=impl_TakeFeature.max (Kd.S_R hS);rw [IntKind.wrap_i64];omega);have HS:=ak hS;have HB:=ak hb;clear hS hb hg hgl)|(go_at_call 20;(with_reducible refine(impl_FindFeature.calls k A0 c0 l0 a1 _ w1 (Kd.C_below HR.out HB.out) HC.out HI.out).mono ?_);rintro e w2 ⟨rfl,hb⟩;have HS2:=ak (Kd.S_below HS.out hb);have HB2:=ak (below_step HB.out hb);clear hb)|(go_at_call 21;(with_reducible refine(impl_IsSource.calls k A0 c0 l0 _ w2 (Kd.C_below HR.out HB2.out) HC.out HBB.out).mono ?_);rintro e w3 ⟨rfl,hb⟩;have HS3:=ak (Kd.S_below HS2.out hb);have HB3:=ak (below_step HB2.out hb);clear hb)|(go_at_call 54;(with_reducible refine(impl_TakeFeature.del g t.length c1 j w.heap.size _ t w _ HS3.out HJ.out HB3.out HB3.out.size).mono ?_);rintro e w4 ⟨rfl,hS4,hb4⟩;have HS4:=ak hS4;have HB4:=ak hb4;clear hS4 hb4))
  go_ret2
  exact⟨_,rfl,HS4.out,HB4.out⟩
def impl_EqualSources.f (k:Nat) (l0:List (S34)) (l1:List (S34)):Option (Bool):=(impl_Feature_55.f k l0 l1).bind fun t784=>(some t784)
theorem impl_EqualSources.calls (k:Nat) (A0:Option Addr) (c0:Nat) (l0:List (S34)) (A1:Option Addr) (c1:Nat) (l1:List (S34)) (r:Bool) (w:World) (hr0:Kd.C k34 w A0 l0.length l0) (hc0:l0.length≤c0) (hr1:Kd.C k34 w A1 l1.length l1) (hc1:l1.length≤c1) (h:impl_EqualSources.f k l0 l1=some r) :
  Calls Try.prog 24 #[.slice A0 l0.length c0,.slice A1 l1.length c1] w fun e w'=>e = .returned (.bool r)∧Below w.heap.size w w':=by
 have HR0:=ak hr0
 have HC0:=ak hc0
 clear hr0 hc0
 have HR1:=ak hr1
 have HC1:=ak hc1
 clear hr1 hc1
 have HB:=z52_
 have H:=h;clear h;unfold impl_EqualSources.f at H
 replace H:=Hd.bd_ H;obtain⟨t784,A3,H⟩:=H
 obtain rfl:=Option.some.inj H
 go_enter Try.func24,Try.ntmps24
 go_wp2_with (first|((with_reducible refine gate_callee (f:=55) rfl ?_);refine Hd.gl_ 7 Try.func55 #[.slice A0 l0.length c0,.slice A1 l1.length c1,.func (.func 22) #[] #[]] ?_;(with_reducible refine(impl_Feature_55.calls k _ _ l0 _ _ l1 t784 _ ?side1 ?side2 ?side3 ?side4 A3.out).mono ?_);(case side1=>exact z37_ HR0);(case side2=>exact HC0.out);(case side3=>exact z37_ HR1);(case side4=>exact HC1.out);rintro e w4 ⟨rfl,hb⟩;refine⟨_,rfl,?_⟩;replace HB:=z17_;(try clear hb)))
 go_ret
 exact⟨Hd.e_,Hd.b_⟩
def spec_DrawEqualSources.f (k:Nat) (l0:List Int):Option ((List (S34)) × (List (S34))):=(spec_l1New.f k l0).bind fun bt785=>((spec_l9Any.f k bt785.1 bt785.2.1 bt785.2.2).bind fun bt789=>((spec_l1Once.f bt785.1 bt789.2.1 bt789.2.2 2).bind fun bt794=>(if bt794.1=true then ((spec_l9Copy.f k bt789.1).bind fun t797=>(some (bt789.1,t797))) else ((spec_l9Any.f k bt785.1 bt794.2.1 bt794.2.2).bind fun bt800=>(some (bt789.1,bt800.1))))))
theorem spec_DrawEqualSources.calls (k:Nat) (A0:Option Addr) (c0:Nat) (l0:List Int) (r1:List (S34)) (r2:List (S34)) (w:World) (hr0:Kd.C (Kd.int .u8) w A0 l0.length l0) (hc0:l0.length≤c0) (h:spec_DrawEqualSources.f k l0=some (r1,r2)) :
  Calls Try.prog 25 #[.slice A0 l0.length c0] w fun e w'=>∃ v0_ v1_:Value,e = .returned (.tuple #[v0_,v1_])∧Kd.N k34 34 w' w.heap.size (fun k_=>(w.heap.size≤k_)∧some k_≠(v1_:Value).ownBlock) v0_ r1∧Kd.N k34 34 w' w.heap.size (fun k_=>(w.heap.size≤k_)∧some k_≠(v0_:Value).ownBlock) v1_ r2∧Below w.heap.size w w':=by
 have HR0:=ak hr0
 have HC0:=ak hc0
 clear hr0 hc0
 have HB:=z52_
 have H:=h;clear h;unfold spec_DrawEqualSources.f at H
 replace H:=Hd.bd_ H;obtain⟨⟨t785,t786,t787⟩,A2,H⟩:=H;dsimp only at H
 replace H:=Hd.bd_ H;obtain⟨⟨t789,t792,t793⟩,A3,H⟩:=H;dsimp only at H
 replace H:=Hd.bd_ H;obtain⟨⟨t794,t795,t796⟩,A4,H⟩:=H;dsimp only at H
 by_cases c5:t794=true
 ·
  subst c5
  rw [if_pos rfl] at H
  replace H:=Hd.bd_ H;obtain⟨t797,A6,H⟩:=H
  simp only[Option.some.injEq,Prod.mk.injEq] at H
  obtain⟨rfl,rfl⟩:=H
  go_enter Try.func25,Try.ntmps25
  go_wp2_with (first|((with_reducible refine gate_callee (f:=45) rfl ?_);refine Hd.gl_ 7 Try.func45 #[.slice A0 l0.length c0] ?_;(with_reducible refine(spec_l1New.calls k _ _ l0 t785 t786 t787 w _ ?side1 ?side2 ?side3 A2.out).mono ?_);(case side1=>exact z68_);(case side2=>exact HR0.out);(case side3=>exact HC0.out);rintro e w7 ⟨g788,rfl,hi,hb,hb2⟩;refine⟨_,rfl,?_⟩;replace HB:=ak (hb);have HI788:=ak (hi);(try clear hb);(try clear hb2);(try clear hi))|((with_reducible refine gate_callee (f:=46) rfl ?_);refine Hd.gl_ 9 Try.func46 #[.pointer (some ⟨g788,0,none⟩)] ?_;(with_reducible refine(spec_l9Any.calls k g788 t785 t786 t787 t789 t792 t793 w _ ?side1 ?side2 A3.out).mono ?_);(case side1=>exact z38_);(case side2=>exact z27_);rintro e w8 ⟨v790,rfl,ho0,hi,hb,hk⟩;refine⟨_,rfl,?_⟩;have HO791:=z273_;replace HB:=ak (hb);replace HI788:=ak (hi);(try clear hb);(try clear hk);(try clear hi);(try clear ho0))|((with_reducible refine gate_callee (f:=48) rfl ?_);refine Hd.gl_ 11 Try.func48 #[.pointer (some ⟨g788,0,none⟩),.int .i64 2] ?_;(with_reducible refine(spec_l1Once.calls g788 t785 t792 t793 2 true t795 t796 w _ ?side1 ?side2 A4.out).mono ?_);(case side1=>exact z38_);(case side2=>exact z27_);rintro e w9 ⟨rfl,hi,hb,hk⟩;refine⟨_,rfl,?_⟩;replace HO791:=z271_;replace HB:=ak (hb);replace HI788:=ak (hi);clear hb hk hi;obtain⟨Ao10,co10,eo10⟩:=Kd.N_slice HO791.out;subst eo10)|((with_reducible refine gate_callee (f:=34) rfl ?_);refine Hd.gl_ 14 Try.func34 #[.slice Ao10 t789.length co10] ?_;(with_reducible refine(spec_l9Copy.calls k _ _ t789 t797 _ ?side1 ?side2 A6.out).mono ?_);(case side1=>exact z16_ HO791);(case side2=>exact z81_ HO791);rintro e w11 ⟨v798,rfl,ho0,hb⟩;refine⟨_,rfl,?_⟩;have HO799:=ak (Kd.N_lower (Kd.N_mono (ok':=fun k_=>(w.heap.size≤k_)∧some k_≠(.slice Ao10 t789.length co10:Value).ownBlock∧k_≠g788) (Kd.S_N (Kd.S_bound ho0)) (fun k_ hk_=>⟨(Nat.le_trans (below_size z27_) hk_.2.1),(Kd.fresh' (Kd.N_lt (z3_ HO791)) k_ hk_.2.1),(IsS89.fresh z38_ k_ hk_.2.1)⟩)) (below_size z27_));replace HO791:=ak (Kd.N_elder' (z3_ HO791) (Kd.S_base ho0) hb);replace HB:=ak (below_step z27_ hb);replace HI788:=ak (IsS89.below z38_ hb);clear hb ho0))
  go_ret2
  exact⟨_,_,Hd.e_,z215_ HO791,z216_ HO799,z27_⟩
 replace c5:=z171_
 subst c5
 rw [if_neg (show ¬ (false=true) by decide)] at H
 replace H:=Hd.bd_ H;obtain⟨⟨t800,t803,t804⟩,A12,H⟩:=H;dsimp only at H
 simp only[Option.some.injEq,Prod.mk.injEq] at H
 obtain⟨rfl,rfl⟩:=H
 go_enter Try.func25,Try.ntmps25
 go_wp2_with (first|((with_reducible refine gate_callee (f:=45) rfl ?_);refine Hd.gl_ 7 Try.func45 #[.slice A0 l0.length c0] ?_;(with_reducible refine(spec_l1New.calls k _ _ l0 t785 t786 t787 w _ ?side1 ?side2 ?side3 A2.out).mono ?_);(case side1=>exact z68_);(case side2=>exact HR0.out);(case side3=>exact HC0.out);rintro e w13 ⟨g788,rfl,hi,hb,hb2⟩;refine⟨_,rfl,?_⟩;replace HB:=ak (hb);have HI788:=ak (hi);clear hb hi)|((with_reducible refine gate_callee (f:=46) rfl ?_);refine Hd.gl_ 9 Try.func46 #[.pointer (some ⟨g788,0,none⟩)] ?_;(with_reducible refine(spec_l9Any.calls k g788 t785 t786 t787 t789 t792 t793 w _ ?side1 ?side2 A3.out).mono ?_);(case side1=>exact z38_);(case side2=>exact z27_);rintro e w14 ⟨v790,rfl,ho0,hi,hb,hk⟩;refine⟨_,rfl,?_⟩;have HO791:=z273_;replace HB:=ak (hb);replace HI788:=ak (hi);clear hb hk hi ho0)|((with_reducible refine gate_callee (f:=48) rfl ?_);refine Hd.gl_ 11 Try.func48 #[.pointer (some ⟨g788,0,none⟩),.int .i64 2] ?_;(with_reducible refine(spec_l1Once.calls g788 t785 t792 t793 2 false t795 t796 w _ ?side1 ?side2 A4.out).mono ?_);(case side1=>exact z38_);(case side2=>exact z27_);rintro e w15 ⟨rfl,hi,hb,hk⟩;refine⟨_,rfl,?_⟩;replace HO791:=z271_;replace HB:=ak (hb);replace HI788:=ak (hi);clear hb hk hi)|((with_reducible refine gate_callee (f:=46) rfl ?_);refine Hd.gl_ 17 Try.func46 #[.pointer (some ⟨g788,0,none⟩)] ?_;(with_reducible refine(spec_l9Any.calls k g788 t785 t795 t796 t800 t803 t804 w _ ?side1 ?side2 A12.out).mono ?_);(case side1=>exact z38_);(case side2=>exact z27_);rintro e w16 ⟨v801,rfl,ho0,hi,hb,hk⟩;refine⟨_,rfl,?_⟩;have HO802:=ak (Kd.N_lower (Kd.N_mono (ok':=fun k_=>(w.heap.size≤k_)∧some k_≠(v790:Value).ownBlock∧k_≠g788) ho0 (fun k_ hk_=>⟨(Nat.le_trans (below_size z27_) hk_),(Kd.fresh' (Kd.N_lt (z3_ HO791)) k_ hk_),(IsS89.fresh z38_ k_ hk_)⟩)) (below_size z27_));replace HO791:=ak (Kd.N_mono (Kd.N_told (Kd.N_oldK (Kd.N_mono (ok:=fun k_=>(((w.heap.size≤k_))∧k_≠g788)) (z3_ HO791) (fun k_ hk_=>(⟨hk_,hk_.2⟩:_∧k_≠g788))) hk) (Kd.N_base ho0)) (fun _ h_=>h_.1));replace HB:=ak (hb);replace HI788:=ak (hi);clear hb hk hi ho0))
 go_ret2
 exact⟨_,_,Hd.e_,z215_ HO791,z216_ HO802,z27_⟩
end Go.Proofs.Ytbbdhlggnglfgaa.MFnFeatures
