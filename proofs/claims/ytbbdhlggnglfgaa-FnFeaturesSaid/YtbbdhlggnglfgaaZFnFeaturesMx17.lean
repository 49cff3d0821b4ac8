-- Laid by this session's program pp.py, after the kit's print and texts of the session's own. Not trusted: Lean checks it.
import Derived.Test.YtbbdhlggnglfgaaZFnFeaturesMx0
import Derived.Test.YtbbdhlggnglfgaaZFnFeaturesMx11
import Derived.Test.YtbbdhlggnglfgaaZFnFeaturesMx16
namespace Go.Proofs.Ytbbdhlggnglfgaa.MFnFeatures
open Go.RowKit Go.Proofs.YtbbdhlggnglfgaaW.PrintWords Go.Proofs.YtbbdhlggnglfgaaW.PrintLast Go.Proofs.YtbbdhlggnglfgaaW.PrintMore
attribute [local go_sem] max2_int min2_int max_two min_two max_three min_three max_four min_four
set_option linter.unusedVariables false
set_option maxHeartbeats 8000000
set_option maxRecDepth 100000
set_option linter.unusedSimpArgs false
mutual
def spec_PutFeature.j1:Nat→List (S34)→Int→Int→Int→Int→ByteArray→List (S75)→Option ((List (S34)) × Bool)
 | 0,_,_,_,_,_,_,_=>none
 | k+1,x0,x6,x453000,x453001,x453002,x453003,x453004=>if 0≤x6 then (if x6≤(x0.length:Int) then ((some (x0.drop (x6:Int).toNat:List (S34))).bind fun y454=>(if (y454.length:Int)>0 then (if 0<(y454.length:Int) then (spec_PutFeature.j2 k x0 x6 y454 (((rd_T34 y454 0).f0)==x453000) x453000 x453001 x453002 x453003 x453004) else (none)) else (spec_PutFeature.j2 k x0 x6 y454 false x453000 x453001 x453002 x453003 x453004))) else (none)) else (none)
def spec_PutFeature.j2:Nat→List (S34)→Int→List (S34)→Bool→Int→Int→Int→ByteArray→List (S75)→Option ((List (S34)) × Bool)
 | 0,_,_,_,_,_,_,_,_,_=>none
 | k+1,x0,x6,x7,x39,x453000,x453001,x453002,x453003,x453004=>if x39=true then (if 1≤(x7.length:Int) then (spec_PutFeature.j3 k x0 x6 (x7.drop 1) x453000 x453001 x453002 x453003 x453004) else (none)) else (spec_PutFeature.j3 k x0 x6 x7 x453000 x453001 x453002 x453003 x453004)
def spec_PutFeature.j3:Nat→List (S34)→Int→List (S34)→Int→Int→Int→ByteArray→List (S75)→Option ((List (S34)) × Bool)
 | 0,_,_,_,_,_,_,_,_=>none
 | k+1,x0,x6,x7,x453000,x453001,x453002,x453003,x453004=>if 0≤x6 then (if x6≤(x0.length:Int) then ((spec_l9Copy.f k (x0.take (x6:Int).toNat)).bind fun t470=>((spec_l9Feature.f x453000 x453001 x453002 x453003 x453004).bind fun bt473=>(if t470.length<2199023255552 then ((some (t470++[(⟨bt473.1,bt473.2.1,bt473.2.2.1,bt473.2.2.2.1,bt473.2.2.2.2⟩:S34)]:List (S34))).bind fun y480=>((spec_l9Copy.f k x7).bind fun t483=>(if y480.length+t483.length<2199023255552 then ((some (y480++t483:List (S34))).bind fun y486=>((spec_IsSource.f k y486).bind fun t489=>(if t489=true then (some (y486,true)) else ((spec_l9Copy.f k x0).bind fun t490=>(some (t490,false)))))) else (none)))) else (none)))) else (none)) else (none)
def spec_PutFeature.l0:Nat→List (S34)→Int→Int→Int→Int→ByteArray→List (S75)→Option ((List (S34)) × Bool)
 | 0,_,_,_,_,_,_,_=>none
 | k+1,x0,x6,x453000,x453001,x453002,x453003,x453004=>if x6<(x0.length:Int) then (if 0≤x6 then (if ((rd_T34 x0 x6).f0)<x453000 then (spec_PutFeature.l0 k x0 (wrap64 (x6+1)) x453000 x453001 x453002 x453003 x453004) else (spec_PutFeature.j1 k x0 x6 x453000 x453001 x453002 x453003 x453004)) else (none)) else (spec_PutFeature.j1 k x0 x6 x453000 x453001 x453002 x453003 x453004)
end
def spec_PutFeature.f (k:Nat) (l0:List (S34)) (a1_0:Int) (a1_1:Int) (a1_2:Int) (a1_3:ByteArray) (l1_4:List (S75)):Option ((List (S34)) × Bool):=spec_PutFeature.l0 k l0 0 a1_0 a1_1 a1_2 a1_3 l1_4
def spec_PutFeature.T2:Bool × List (List Nat × List Nat):=(true,[([],[]),([],[]),([1],[1]),([0,2],[0,2]),([3],[3]),([4],[4]),([4],[4]),([5,6,4],[4,5,6]),([7,4],[4,7]),([8,4],[4,8]),([4],[4]),([10,4],[4,10]),([9,11,4],[4,9,11]),([4,12],[4,12])])
def spec_PutFeature.B2:List Nat:=[0,0,2,7,15,31,31,127,255,511,31,1055,4095,8191]
theorem spec_PutFeature.tab2:rtab .any (opsOf Try.f9 2)=spec_PutFeature.T2:=by kernel_rfl
theorem spec_PutFeature.bits2:waitsOk spec_PutFeature.T2.2 spec_PutFeature.B2=true:=by kernel_rfl
def spec_PutFeature.T5:Bool × List (List Nat × List Nat):=(true,[([],[]),([0],[0]),([1],[1]),([2],[2]),([3],[3]),([4,3],[3,4]),([5,3],[3,5]),([6,3],[3,6]),([3],[3]),([8,3],[3,8]),([7,9,3],[3,7,9]),([3,10],[3,10])])
def spec_PutFeature.B5:List Nat:=[0,1,3,7,15,31,63,127,15,271,1023,2047]
theorem spec_PutFeature.tab5:rtab .any (opsOf Try.f9 5)=spec_PutFeature.T5:=by kernel_rfl
theorem spec_PutFeature.bits5:waitsOk spec_PutFeature.T5.2 spec_PutFeature.B5=true:=by kernel_rfl
def spec_PutFeature.T7:Bool × List (List Nat × List Nat):=(true,[([],[]),([],[]),([0,1],[0,1]),([2],[2]),([],[]),([4,3],[4]),([5],[5]),([3,6,5],[3,6]),([],[]),([8,7],[8]),([7,9,9],[7,9]),([10,10,0,1,2,3,4,5,6,7,8,9,10],[10])])
def spec_PutFeature.B7:List Nat:=[0,0,3,7,0,31,63,127,0,511,1023,2047]
theorem spec_PutFeature.tab7:rtab .any (opsOf Try.f9 7)=spec_PutFeature.T7:=by kernel_rfl
theorem spec_PutFeature.bits7:waitsOk spec_PutFeature.T7.2 spec_PutFeature.B7=true:=by kernel_rfl
theorem spec_PutFeature.calls (k:Nat) (P0_:Nat→Prop) (A0:Option Addr) (c0:Nat) (l0:List (S34)) (a1_0:Int) (a1_1:Int) (a1_2:Int) (a1_3:ByteArray) (A1_4:Option Addr) (c1_4:Nat) (l1_4:List (S75)) (r1:List (S34)) (r2:Bool) (w:World) (hs0:Kd.V k34 34 w w.heap.size (fun k_=>P0_ k_) (.slice A0 l0.length c0) l0) (hr1_4:Kd.C k75 w A1_4 l1_4.length l1_4) (hc1_4:l1_4.length≤c1_4) (h:spec_PutFeature.f k l0 a1_0 a1_1 a1_2 a1_3 l1_4=some (r1,r2)) :
  Calls Try.prog 9 #[.slice A0 l0.length c0,.agg #[.int .i64 a1_0,.int .i64 a1_1,.int .i64 a1_2,.string a1_3,.slice A1_4 l1_4.length c1_4]] w fun e w'=>∃ v0_:Value,e = .returned (.tuple #[v0_,.bool r2])∧Kd.N k34 34 w' w.heap.size (fun k_=>(P0_ k_∨w.heap.size≤k_)) v0_ r1∧Below w.heap.size w w':=by
 have hu34:=Try.underlying34
 have HO0:=z168_
 have HR1_4:=ak hr1_4
 have HC1_4:=ak hc1_4
 clear hr1_4 hc1_4
 have HB:=z52_
 have H:=h;clear h;unfold spec_PutFeature.f at H
 have HC3:=ak H
 clear H
 go_enter Try.func9,Try.ntmps9
 go_upto_block 0 with (first|((with_reducible refine gate_dst (N:=3) rfl ?_);refine Hd.box_ 3 (#[.int .i64 a1_0,.int .i64 a1_1,.int .i64 a1_2,.string a1_3,.slice A1_4 l1_4.length c1_4]) 34 ?_;intro gb452 hg w4 hbox hb;replace HO0:=ak (Kd.V_below (Kd.V_elderB (z5_ HO0) gb452 (Nat.le_of_eq hg.symm)) hb);have BK452:=ak (hbox);have GW452:=ak ((Hd.g_ hg Hd.b_:w.heap.size≤gb452));have GE452:=ak ((Hd.g_ hg Hd.b_:w.heap.size≤gb452));replace HB:=z17_;clear hb hbox hg))
 (try simp only[Act.put,List.setIfInBounds_toArray,List.set_cons_zero,List.set_cons_succ])
 go_cut [6] (fun v6 wc=>∃ (kq:Nat) (x6_2:Int),v6 = .int .i64 x6_2∧Aside0 (spec_PutFeature.j1 kq l0 x6_2 a1_0 a1_1 a1_2 a1_3 l1_4=some (r1,r2))∧Aside0 (kq≤k)∧Aside0 (Kd.V k34 34 wc w.heap.size (fun k_=>(P0_ k_∨w.heap.size≤k_)∧k_≠gb452) (.slice A0 l0.length c0) l0)∧Aside0 (wc.heap[gb452]?=some (.cells #[.int .i64 a1_0,.int .i64 a1_1,.int .i64 a1_2,.string a1_3,(.slice A1_4 l1_4.length c1_4)] 34 (0,0)))∧Aside0 (Below w.heap.size w wc))
 case first =>
  have H:=HC3.out
  clear HC3
  have H':=ak H
  clear H
  go_wp2
  go_loopg [6] k (fun kq v6 w'=>∃ (x6_1:Int),v6 = .int .i64 x6_1∧Aside0 (spec_PutFeature.l0 kq l0 x6_1 a1_0 a1_1 a1_2 a1_3 l1_4=some (r1,r2))∧Aside0 (kq≤k)∧Aside0 (Kd.V k34 34 w' w.heap.size (fun k_=>(P0_ k_∨w.heap.size≤k_)∧k_≠gb452) (.slice A0 l0.length c0) l0)∧Aside0 (w'.heap[gb452]?=some (.cells #[.int .i64 a1_0,.int .i64 a1_1,.int .i64 a1_2,.string a1_3,(.slice A1_4 l1_4.length c1_4)] 34 (0,0)))∧Aside0 (Below w.heap.size w w'))
  case atStart=>exact⟨(0),z14_,H',⟨Nat.le_refl _⟩,⟨z5_ HO0⟩,⟨z6_ BK452⟩,⟨Hd.b_⟩⟩
  case round =>
   clear H'
   obtain⟨x6_1,rfl,HA,HK1,HO_0,BK452,HB⟩:=hrel
   cases gk with
   | zero=>exact absurd HA.out (by simp [spec_PutFeature.l0])
   | succ k1 =>
    have H:=HA.out
    clear HA
    simp only[spec_PutFeature.l0] at H
    by_cases c5:x6_1<(l0.length:Int);rotate_left
    ·
     rw [if_neg c5] at H
     have c5b0:=decide_eq_false c5
     clear c5
     (first|rw [c5b0]|(simp only[i64_w,i32_w];rw [c5b0])|skip)
     have H':=ak H
     clear H
     try go_wp2
     replace HO_0:=z165_ HO_0
     replace BK452:=z65_ BK452
     replace HB:=z42_
     refine Hd.HW.region (by kernel_rfl) (by kernel_rfl) ?_
     repeat (go_big_quiet_step (fail))
     refine wpQuiet_nil ?_
     intro _ hq_
     obtain⟨q_,rfl⟩:=hq_
     replace HO_0:=ak (Kd.V_below HO_0.out q_.b)
     replace BK452:=z63_ BK452
     replace HB:=z58_
     generalize q_.W=w10 at HO_0 BK452 HB ⊢
     try simp only[i64_w,i32_w]
     try go_wp2
     go_meet
     case rel=>exact⟨_,(x6_1),z14_,H',⟨z103_⟩,⟨z5_ HO_0⟩,⟨z6_ BK452⟩,⟨Hd.b_⟩⟩
    rw [if_pos c5] at H
    have c5b0:=decide_eq_true c5
    clear c5
    (first|rw [c5b0]|(simp only[i64_w,i32_w];rw [c5b0])|skip)
    by_cases c6:0≤x6_1;rotate_left
    ·
     rw [if_neg c6] at H
     exact absurd H (by simp)
    rw [if_pos c6] at H
    have c6b0:=decide_eq_true c6
    clear c6
    by_cases c7:((rd_T34 l0 x6_1).f0)<a1_0;rotate_left
    ·
     rw [if_neg c7] at H
     have c7b0:=decide_eq_false c7
     clear c7
     have H':=ak H
     clear H
     try go_wp2
     replace HO_0:=z165_ HO_0
     replace BK452:=z65_ BK452
     replace HB:=z42_
     have p453:0≤(x6_1:Int):=od_
     have q453:x6_1<(l0.length:Int):=od_
     obtain⟨ad453,A453_4,c453_4,e453,hx453_0,hx453_1,hx453_2,hx453_3,hx453_4,hl453_4,hi453_4⟩:=at_T34 (Kd.V_reads' HO_0.out).2.2 x6_1 p453 q453
     cases e453
     obtain⟨ce453,hce453,hMe453,hcc453⟩:=Kd.V_get HO_0.out z34 x6_1 p453 (by first|exact q453|exact od_|(have e_:=(Kd.V_reads' HO_0.out).1;omega))
     obtain⟨ua453_4,uc453_4,rfl,ul453_4,ge453_4⟩:=k34_openF hMe453
     have hv453_4:=hcc453 4 _ rfl
     rw [add_field _ _ 4 (by omega)] at hv453_4
     replace hv453_4:=Option.some.inj (hv453_4.symm.trans hx453_4)
     injection hv453_4 with hva_ hvn_ hvc_
     rw [hva_] at ge453_4
     rw [hvc_] at ul453_4
     have HL453_4:=ak (show Kd.V k75 75 _ w.heap.size _ _ ((rd_T34 l0 x6_1).f4) from Kd.V_mk ul453_4 ge453_4)
     clear hva_ hvn_ hvc_ ge453_4 ul453_4
     clear hcc453 hce453
     have HR453_4:=ak hi453_4
     have HC453_4:=ak hl453_4
     clear hi453_4 hl453_4
     replace p453:=eq_true p453
     replace q453:=eq_true q453
     refine start_ (n:=14) (S:=fun w'=>w'.cell? ⟨gb452,0,none⟩=some (.int .i64 a1_0)∧w'.cell? ⟨gb452,1,none⟩=some (.int .i64 a1_1)∧w'.cell? ⟨gb452,2,none⟩=some (.int .i64 a1_2)∧w'.cell? ⟨gb452,3,none⟩=some (.string a1_3)∧w'.cell? ⟨gb452,4,none⟩=some (.slice A1_4 l1_4.length c1_4)∧w'.cell? (ad453.add ((x6_1).toNat*5))=some (.int .i64 ((rd_T34 l0 x6_1).f0))∧w'.cell? ⟨(ad453.add ((x6_1).toNat*5)).block,(ad453.add ((x6_1).toNat*5)).off+1,none⟩=some (.int .i64 ((rd_T34 l0 x6_1).f1))∧w'.cell? ⟨(ad453.add ((x6_1).toNat*5)).block,(ad453.add ((x6_1).toNat*5)).off+2,none⟩=some (.int .i64 ((rd_T34 l0 x6_1).f2))∧w'.cell? ⟨(ad453.add ((x6_1).toNat*5)).block,(ad453.add ((x6_1).toNat*5)).off+3,none⟩=some (.string ((rd_T34 l0 x6_1).f3))∧w'.cell? ⟨(ad453.add ((x6_1).toNat*5)).block,(ad453.add ((x6_1).toNat*5)).off+4,none⟩=some (.slice A453_4 ((rd_T34 l0 x6_1).f4).length c453_4)) (ds:=[]) #[Z,Z,Z,Z,Z,Z,Z,Z,Z,Z,Z,Z,Z,Z] (by kernel_rfl) rfl rfl ⟨(blk_cell BK452.out 0).trans rfl,(blk_cell BK452.out 1).trans rfl,(blk_cell BK452.out 2).trans rfl,(blk_cell BK452.out 3).trans rfl,(blk_cell BK452.out 4).trans rfl,hx453_0,hx453_1,hx453_2,hx453_3,hx453_4⟩ (fun hHeld=>?_);refine with_tabW spec_PutFeature.tab2 spec_PutFeature.bits2 (fun HT_ HW_=>?_)
     generalize wr.drew=w9 at HO_0 BK452 HB HL453_4 HR453_4 hx453_0 hx453_1 hx453_2 hx453_3 hx453_4 hHeld ⊢
     refine Hd.p_ HT_ 0 (some 9) #[Y,Z,Z,Z,Z,Z,Z,Z,Z,Z,Z,Z,Z,Z] ?_
     refine Hd.p_ HT_ 1 (some 10) #[Y,Y,Z,Z,Z,Z,Z,Z,Z,Z,Z,Z,Z,Z] ?_
     refine Hd.p_ HT_ 2 (some 11) #[Y,Y,Y,Z,Z,Z,Z,Z,Z,Z,Z,Z,Z,Z] ?_
     refine Hd.p_ HT_ 3 (some 12) #[Y,Y,Y,Y,Z,Z,Z,Z,Z,Z,Z,Z,Z,Z] ?_
     refine Hd.p_ HT_ 4 (some 13) #[Y,Y,Y,Y,Y,Z,Z,Z,Z,Z,Z,Z,Z,Z] ?_
     refine Hd.p_ HT_ 5 (some 14) #[Y,Y,Y,Y,Y,Y,Z,Z,Z,Z,Z,Z,Z,Z] ?_
     refine Hd.p_ HT_ 6 (some 15) #[Y,Y,Y,Y,Y,Y,Y,Z,Z,Z,Z,Z,Z,Z] ?_
     refine Hd.p_ HT_ 7 (some 16) #[Y,Y,Y,Y,Y,Y,Y,Y,Z,Z,Z,Z,Z,Z] ?_
     refine Hd.p_ HT_ 8 (some 17) #[Y,Y,Y,Y,Y,Y,Y,Y,Y,Z,Z,Z,Z,Z] ?_
     refine Hd.p_ HT_ 10 (some 19) #[Y,Y,Y,Y,Y,Y,Y,Y,Y,Z,Y,Z,Z,Z] ?_
     refine Hd.t_ HT_ HW_ hHeld 9 (some 18) #[Y,Y,Y,Y,Y,Y,Y,Y,Y,Y,Y,Z,Z,Z] ?_
     refine Hd.t_ HT_ HW_ hHeld 11 (some 20) #[Y,Y,Y,Y,Y,Y,Y,Y,Y,Y,Y,Y,Z,Z] ?_
     refine Hd.p_ HT_ 12 (some 21) #[Y,Y,Y,Y,Y,Y,Y,Y,Y,Y,Y,Y,Y,Z] ?_
     refine Hd.p_ HT_ 13 (some 22) #[Y,Y,Y,Y,Y,Y,Y,Y,Y,Y,Y,Y,Y,Y] ?_
     refine done_ (done_of HT_.out (by kernel_rfl)) ?_
     try go_wp2
     go_meet
     case rel=>exact⟨_,(x6_1),z14_,H',⟨z103_⟩,⟨z5_ HO_0⟩,⟨z6_ BK452⟩,⟨Hd.b_⟩⟩
    rw [if_pos c7] at H
    have c7b0:=decide_eq_true c7
    clear c7
    have H':=ak H
    clear H
    try go_wp2
    replace HO_0:=z165_ HO_0
    replace BK452:=z65_ BK452
    replace HB:=z42_
    have p453:0≤(x6_1:Int):=od_
    have q453:x6_1<(l0.length:Int):=od_
    obtain⟨ad453,A453_4,c453_4,e453,hx453_0,hx453_1,hx453_2,hx453_3,hx453_4,hl453_4,hi453_4⟩:=at_T34 (Kd.V_reads' HO_0.out).2.2 x6_1 p453 q453
    cases e453
    obtain⟨ce453,hce453,hMe453,hcc453⟩:=Kd.V_get HO_0.out z34 x6_1 p453 (by first|exact q453|exact od_|(have e_:=(Kd.V_reads' HO_0.out).1;omega))
    obtain⟨ua453_4,uc453_4,rfl,ul453_4,ge453_4⟩:=k34_openF hMe453
    have hv453_4:=hcc453 4 _ rfl
    rw [add_field _ _ 4 (by omega)] at hv453_4
    replace hv453_4:=Option.some.inj (hv453_4.symm.trans hx453_4)
    injection hv453_4 with hva_ hvn_ hvc_
    rw [hva_] at ge453_4
    rw [hvc_] at ul453_4
    have HL453_4:=ak (show Kd.V k75 75 _ w.heap.size _ _ ((rd_T34 l0 x6_1).f4) from Kd.V_mk ul453_4 ge453_4)
    clear hva_ hvn_ hvc_ ge453_4 ul453_4
    clear hcc453 hce453
    have HR453_4:=ak hi453_4
    have HC453_4:=ak hl453_4
    clear hi453_4 hl453_4
    replace p453:=eq_true p453
    replace q453:=eq_true q453
    refine start_ (n:=14) (S:=fun w'=>w'.cell? ⟨gb452,0,none⟩=some (.int .i64 a1_0)∧w'.cell? ⟨gb452,1,none⟩=some (.int .i64 a1_1)∧w'.cell? ⟨gb452,2,none⟩=some (.int .i64 a1_2)∧w'.cell? ⟨gb452,3,none⟩=some (.string a1_3)∧w'.cell? ⟨gb452,4,none⟩=some (.slice A1_4 l1_4.length c1_4)∧w'.cell? (ad453.add ((x6_1).toNat*5))=some (.int .i64 ((rd_T34 l0 x6_1).f0))∧w'.cell? ⟨(ad453.add ((x6_1).toNat*5)).block,(ad453.add ((x6_1).toNat*5)).off+1,none⟩=some (.int .i64 ((rd_T34 l0 x6_1).f1))∧w'.cell? ⟨(ad453.add ((x6_1).toNat*5)).block,(ad453.add ((x6_1).toNat*5)).off+2,none⟩=some (.int .i64 ((rd_T34 l0 x6_1).f2))∧w'.cell? ⟨(ad453.add ((x6_1).toNat*5)).block,(ad453.add ((x6_1).toNat*5)).off+3,none⟩=some (.string ((rd_T34 l0 x6_1).f3))∧w'.cell? ⟨(ad453.add ((x6_1).toNat*5)).block,(ad453.add ((x6_1).toNat*5)).off+4,none⟩=some (.slice A453_4 ((rd_T34 l0 x6_1).f4).length c453_4)) (ds:=[]) #[Z,Z,Z,Z,Z,Z,Z,Z,Z,Z,Z,Z,Z,Z] (by kernel_rfl) rfl rfl ⟨(blk_cell BK452.out 0).trans rfl,(blk_cell BK452.out 1).trans rfl,(blk_cell BK452.out 2).trans rfl,(blk_cell BK452.out 3).trans rfl,(blk_cell BK452.out 4).trans rfl,hx453_0,hx453_1,hx453_2,hx453_3,hx453_4⟩ (fun hHeld=>?_);refine with_tabW spec_PutFeature.tab2 spec_PutFeature.bits2 (fun HT_ HW_=>?_)
    generalize wr.drew=w8 at HO_0 BK452 HB HL453_4 HR453_4 hx453_0 hx453_1 hx453_2 hx453_3 hx453_4 hHeld ⊢
    refine Hd.p_ HT_ 0 (some 9) #[Y,Z,Z,Z,Z,Z,Z,Z,Z,Z,Z,Z,Z,Z] ?_
    refine Hd.p_ HT_ 1 (some 10) #[Y,Y,Z,Z,Z,Z,Z,Z,Z,Z,Z,Z,Z,Z] ?_
    refine Hd.p_ HT_ 2 (some 11) #[Y,Y,Y,Z,Z,Z,Z,Z,Z,Z,Z,Z,Z,Z] ?_
    refine Hd.p_ HT_ 3 (some 12) #[Y,Y,Y,Y,Z,Z,Z,Z,Z,Z,Z,Z,Z,Z] ?_
    refine Hd.p_ HT_ 4 (some 13) #[Y,Y,Y,Y,Y,Z,Z,Z,Z,Z,Z,Z,Z,Z] ?_
    refine Hd.p_ HT_ 5 (some 14) #[Y,Y,Y,Y,Y,Y,Z,Z,Z,Z,Z,Z,Z,Z] ?_
    refine Hd.p_ HT_ 6 (some 15) #[Y,Y,Y,Y,Y,Y,Y,Z,Z,Z,Z,Z,Z,Z] ?_
    refine Hd.p_ HT_ 7 (some 16) #[Y,Y,Y,Y,Y,Y,Y,Y,Z,Z,Z,Z,Z,Z] ?_
    refine Hd.p_ HT_ 8 (some 17) #[Y,Y,Y,Y,Y,Y,Y,Y,Y,Z,Z,Z,Z,Z] ?_
    refine Hd.p_ HT_ 10 (some 19) #[Y,Y,Y,Y,Y,Y,Y,Y,Y,Z,Y,Z,Z,Z] ?_
    refine Hd.t_ HT_ HW_ hHeld 9 (some 18) #[Y,Y,Y,Y,Y,Y,Y,Y,Y,Y,Y,Z,Z,Z] ?_
    refine Hd.t_ HT_ HW_ hHeld 11 (some 20) #[Y,Y,Y,Y,Y,Y,Y,Y,Y,Y,Y,Y,Z,Z] ?_
    refine Hd.p_ HT_ 12 (some 21) #[Y,Y,Y,Y,Y,Y,Y,Y,Y,Y,Y,Y,Y,Z] ?_
    refine Hd.p_ HT_ 13 (some 22) #[Y,Y,Y,Y,Y,Y,Y,Y,Y,Y,Y,Y,Y,Y] ?_
    refine done_ (done_of HT_.out (by kernel_rfl)) ?_
    try go_wp2
    go_roundg k1
    case measure=>have:=HK1.out;omega
    case rel=>exact⟨(wrap64 (x6_1+1)),z14_,H',⟨z101_⟩,⟨z5_ HO_0⟩,⟨z6_ BK452⟩,⟨Hd.b_⟩⟩
 case rest =>
  clear HC3
  try clear c5;try clear c5b0;try clear c6;try clear c6b0;try clear c7;try clear c7b0;try clear hx453_0;try clear hx453_1;try clear hx453_2;try clear hx453_3;try clear hx453_4;try clear p453;try clear q453
  obtain⟨kq,x6_2,rfl,HA,HJ2,HO_0,BK452,HB⟩:=hcut
  cases kq with
  | zero=>exact absurd HA.out (by simp [spec_PutFeature.j1])
  | succ kj2 =>
   have H:=HA.out
   clear HA
   simp only[spec_PutFeature.j1] at H
   by_cases c11:0≤x6_2;rotate_left
   ·
    rw [if_neg c11] at H
    exact absurd H (by simp)
   rw [if_pos c11] at H
   have c11b0:=eq_true c11
   have c11b1:=decide_eq_true c11
   clear c11
   by_cases c12:x6_2≤(l0.length:Int);rotate_left
   ·
    rw [if_neg c12] at H
    exact absurd H (by simp)
   rw [if_pos c12] at H
   have c12b0:=eq_true c12
   have c12b1:=decide_eq_true c12
   clear c12
   generalize hy454:(l0.drop (x6_2:Int).toNat)=y454 at H;have Ny454:=ak hy454.symm;clear hy454;try rw [Option.bind_some] at H
   have HC13:=ak H
   clear H
   have q14:(x6_2:Int)≤((l0.length:Int):Int):=od_
   obtain⟨i014,hi014,_,hsz14,_⟩:=info_parts info34
   have hroom14:l0.length≤c0:=(Kd.V_reads' HO_0.out).2.1
   have hC14:Kd.F k34 _ _ A0 l0.length l0:=(Kd.V_at (base:=w.heap.size) HO_0.out).2.2
   have q014:(0:Int)≤(x6_2:Int):=od_
   have hcut14:=cut_from (P:=Try.prog) 28 34 .i64 Try.underlying28 hi014 5 hsz14 A0 l0.length c0 x6_2 q014 q14
   have hr14:=Kd.F_cut (m:=(x6_2:Int).toNat) (c:=c0) hC14 (by omega) hroom14
   obtain⟨A14,hA14⟩:∃ A1,A1=(if c0=(x6_2:Int).toNat then A0 else (A0:Option Addr).map (·.add ((x6_2:Int).toNat*5))):=⟨_,rfl⟩
   obtain⟨c14,hc14⟩:∃ c1,c1=c0-(x6_2:Int).toNat:=⟨_,rfl⟩
   have hy14:y454.length=l0.length-(x6_2:Int).toNat:=(by rw [Ny454.out,List.length_drop] <;> omega)
   rw [show (l0).drop (x6_2:Int).toNat=y454 from Ny454.out.symm] at hr14
   replace hr14:Kd.F k34 _ _ A14 y454.length y454:=(by rw [hA14];exact hr14)
   rw [← hy14,← hA14,← hc14] at hcut14
   have HO458:=ak (show Kd.V k34 34 _ w.heap.size _ (.slice A14 y454.length c14) y454 from Kd.V_mk (by rw [hy14,hc14];exact Nat.sub_le_sub_right hroom14 _) hr14)
   have HC458:=ak (show y454.length≤c14 from by rw [hy14,hc14];exact Nat.sub_le_sub_right hroom14 _)
   clear hr14 hC14 hroom14 hi014 hsz14 hc14
   have KY14:=ak hy14
   have KA14:=ak hA14
   clear hy14 hA14
   replace q14:=eq_true q14
   go_upto_region 5 with (fail)
   go_cut [39] (fun v39 wc=>∃ (kq:Nat) (x39_12:Bool),v39 = .bool x39_12∧Aside0 (spec_PutFeature.j2 kq l0 x6_2 y454 x39_12 a1_0 a1_1 a1_2 a1_3 l1_4=some (r1,r2))∧Aside0 (kq≤kj2)∧Aside0 (Kd.V k34 34 wc w.heap.size (fun k_=>(P0_ k_∨w.heap.size≤k_)∧k_≠gb452) (.slice A0 l0.length c0) l0)∧Aside0 (Kd.V k34 34 wc w.heap.size (fun k_=>(P0_ k_∨w.heap.size≤k_)∧k_≠gb452) (.slice A14 y454.length c14) y454)∧Aside0 (wc.heap[gb452]?=some (.cells #[.int .i64 a1_0,.int .i64 a1_1,.int .i64 a1_2,.string a1_3,(.slice A1_4 l1_4.length c1_4)] 34 (0,0)))∧Aside0 (Below w.heap.size w wc))
   case first =>
    have H:=HC13.out
    clear HC13
    by_cases c15:(y454.length:Int)>0;rotate_left
    ·
     rw [if_neg c15] at H
     have c15b0:decide (0<(y454.length:Int))=false:=decide_eq_false c15
     have c15b1:decide (0<y454.length)=false:=decide_eq_false (by omega)
     clear c15
     (first|rw [c15b0]|(simp only[i64_w,i32_w];rw [c15b0])|skip)
     have H':=ak H
     clear H
     try go_wp2
     replace HO_0:=z165_ HO_0
     replace HO458:=z165_ HO458
     replace BK452:=z65_ BK452
     replace HB:=z42_
     refine Hd.HW.region (by kernel_rfl) (by kernel_rfl) ?_
     repeat (go_big_quiet_step (fail))
     refine wpQuiet_nil ?_
     intro _ hq_
     obtain⟨q_,rfl⟩:=hq_
     replace HO_0:=ak (Kd.V_below HO_0.out q_.b)
     replace HO458:=ak (Kd.V_below HO458.out q_.b)
     replace BK452:=z63_ BK452
     replace HB:=z58_
     generalize q_.W=w18 at HO_0 HO458 BK452 HB ⊢
     try simp only[i64_w,i32_w]
     try go_wp2
     go_meet
     case rel=>exact⟨_,(false),z14_,H',⟨z114_⟩,⟨z5_ HO_0⟩,⟨z5_ HO458⟩,⟨z6_ BK452⟩,⟨Hd.b_⟩⟩
    rw [if_pos c15] at H
    have c15b0:decide (0<(y454.length:Int))=true:=decide_eq_true c15
    have c15b1:decide (0<y454.length)=true:=decide_eq_true (by omega)
    clear c15
    (first|rw [c15b0]|(simp only[i64_w,i32_w];rw [c15b0])|skip)
    by_cases c16:0<(y454.length:Int);rotate_left
    ·
     rw [if_neg c16] at H
     exact absurd H (by simp)
    rw [if_pos c16] at H
    have c16b0:=decide_eq_true c16
    have c16b1:decide (0<y454.length)=true:=decide_eq_true (by omega)
    clear c16
    have H':=ak H
    clear H
    try go_wp2
    replace HO_0:=z165_ HO_0
    replace HO458:=z165_ HO458
    replace BK452:=z65_ BK452
    replace HB:=z42_
    have p459:0≤(0:Int):=(by omega)
    have q459:0<(y454.length:Int):=od_
    obtain⟨ad459,A459_4,c459_4,e459,hx459_0,hx459_1,hx459_2,hx459_3,hx459_4,hl459_4,hi459_4⟩:=at_T34 (Kd.V_reads' HO458.out).2.2 0 p459 q459
    cases e459
    obtain⟨ce459,hce459,hMe459,hcc459⟩:=Kd.V_get HO458.out z34 0 p459 (by first|exact q459|exact od_|(have e_:=(Kd.V_reads' HO458.out).1;omega))
    obtain⟨ua459_4,uc459_4,rfl,ul459_4,ge459_4⟩:=k34_openF hMe459
    have hv459_4:=hcc459 4 _ rfl
    rw [add_field _ _ 4 (by omega)] at hv459_4
    replace hv459_4:=Option.some.inj (hv459_4.symm.trans hx459_4)
    injection hv459_4 with hva_ hvn_ hvc_
    rw [hva_] at ge459_4
    rw [hvc_] at ul459_4
    have HL459_4:=ak (show Kd.V k75 75 _ w.heap.size _ _ ((rd_T34 y454 0).f4) from Kd.V_mk ul459_4 ge459_4)
    clear hva_ hvn_ hvc_ ge459_4 ul459_4
    clear hcc459 hce459
    have qi459:(0<y454.length)=True:=eq_true (by omega)
    (try rw [show ((0:Int)).toNat=0 from rfl] at hx459_0)
    (try rw [show 0*5=0 from rfl] at hx459_0)
    (try rw [Addr.add_zero'] at hx459_0)
    (try rw [show ((0:Int)).toNat=0 from rfl] at hx459_1)
    (try rw [show 0*5=0 from rfl] at hx459_1)
    (try rw [Addr.add_zero'] at hx459_1)
    (try rw [show ((0:Int)).toNat=0 from rfl] at hx459_2)
    (try rw [show 0*5=0 from rfl] at hx459_2)
    (try rw [Addr.add_zero'] at hx459_2)
    (try rw [show ((0:Int)).toNat=0 from rfl] at hx459_3)
    (try rw [show 0*5=0 from rfl] at hx459_3)
    (try rw [Addr.add_zero'] at hx459_3)
    (try rw [show ((0:Int)).toNat=0 from rfl] at hx459_4)
    (try rw [show 0*5=0 from rfl] at hx459_4)
    (try rw [Addr.add_zero'] at hx459_4)
    have HR459_4:=ak hi459_4
    have HC459_4:=ak hl459_4
    clear hi459_4 hl459_4
    replace p459:=eq_true p459
    replace q459:=eq_true q459
    refine start_ (n:=12) (S:=fun w'=>w'.cell? ⟨gb452,0,none⟩=some (.int .i64 a1_0)∧w'.cell? ⟨gb452,1,none⟩=some (.int .i64 a1_1)∧w'.cell? ⟨gb452,2,none⟩=some (.int .i64 a1_2)∧w'.cell? ⟨gb452,3,none⟩=some (.string a1_3)∧w'.cell? ⟨gb452,4,none⟩=some (.slice A1_4 l1_4.length c1_4)∧w'.cell? ad459=some (.int .i64 ((rd_T34 y454 0).f0))∧w'.cell? ⟨ad459.block,ad459.off+1,none⟩=some (.int .i64 ((rd_T34 y454 0).f1))∧w'.cell? ⟨ad459.block,ad459.off+2,none⟩=some (.int .i64 ((rd_T34 y454 0).f2))∧w'.cell? ⟨ad459.block,ad459.off+3,none⟩=some (.string ((rd_T34 y454 0).f3))∧w'.cell? ⟨ad459.block,ad459.off+4,none⟩=some (.slice A459_4 ((rd_T34 y454 0).f4).length c459_4)) (ds:=[]) #[Z,Z,Z,Z,Z,Z,Z,Z,Z,Z,Z,Z] (by kernel_rfl) rfl rfl ⟨(blk_cell BK452.out 0).trans rfl,(blk_cell BK452.out 1).trans rfl,(blk_cell BK452.out 2).trans rfl,(blk_cell BK452.out 3).trans rfl,(blk_cell BK452.out 4).trans rfl,hx459_0,hx459_1,hx459_2,hx459_3,hx459_4⟩ (fun hHeld=>?_);refine with_tabW spec_PutFeature.tab5 spec_PutFeature.bits5 (fun HT_ HW_=>?_)
    generalize wc.drew=w17 at HO_0 HO458 BK452 HB HL459_4 HR459_4 hx459_0 hx459_1 hx459_2 hx459_3 hx459_4 hHeld ⊢
    refine Hd.p_ HT_ 0 (some 28) #[Y,Z,Z,Z,Z,Z,Z,Z,Z,Z,Z,Z] ?_
    refine Hd.p_ HT_ 1 (some 29) #[Y,Y,Z,Z,Z,Z,Z,Z,Z,Z,Z,Z] ?_
    refine Hd.p_ HT_ 2 (some 30) #[Y,Y,Y,Z,Z,Z,Z,Z,Z,Z,Z,Z] ?_
    refine Hd.p_ HT_ 3 (some 31) #[Y,Y,Y,Y,Z,Z,Z,Z,Z,Z,Z,Z] ?_
    refine Hd.p_ HT_ 4 (some 32) #[Y,Y,Y,Y,Y,Z,Z,Z,Z,Z,Z,Z] ?_
    refine Hd.p_ HT_ 5 (some 33) #[Y,Y,Y,Y,Y,Y,Z,Z,Z,Z,Z,Z] ?_
    refine Hd.p_ HT_ 6 (some 34) #[Y,Y,Y,Y,Y,Y,Y,Z,Z,Z,Z,Z] ?_
    refine Hd.p_ HT_ 8 (some 36) #[Y,Y,Y,Y,Y,Y,Y,Z,Y,Z,Z,Z] ?_
    refine Hd.t_ HT_ HW_ hHeld 7 (some 35) #[Y,Y,Y,Y,Y,Y,Y,Y,Y,Z,Z,Z] ?_
    refine Hd.t_ HT_ HW_ hHeld 9 (some 37) #[Y,Y,Y,Y,Y,Y,Y,Y,Y,Y,Z,Z] ?_
    refine Hd.p_ HT_ 10 (some 38) #[Y,Y,Y,Y,Y,Y,Y,Y,Y,Y,Y,Z] ?_
    refine Hd.p_ HT_ 11 (some 39) #[Y,Y,Y,Y,Y,Y,Y,Y,Y,Y,Y,Y] ?_
    refine done_ (done_of HT_.out (by kernel_rfl)) ?_
    try go_wp2
    go_meet
    case rel=>exact⟨_,((((rd_T34 y454 0).f0)==a1_0)),z14_,H',⟨z114_⟩,⟨z5_ HO_0⟩,⟨z5_ HO458⟩,⟨z6_ BK452⟩,⟨Hd.b_⟩⟩
   case rest =>
    clear HC13
    try clear c1;try clear c5;try clear c5b0;try clear c6;try clear c6b0;try clear c7;try clear c7b0;try clear c11;try clear c11b0;try clear c11b1;try clear c12;try clear c12b0;try clear c12b1;try clear c14;try clear q14;try clear c15;try clear c15b0;try clear c15b1;try clear c16;try clear c16b0;try clear c16b1;try clear hx453_0;try clear hx453_1;try clear hx453_2;try clear hx453_3;try clear hx453_4;try clear hx459_0;try clear hx459_1;try clear hx459_2;try clear hx459_3;try clear hx459_4;try clear p453;try clear p459;try clear q014;try clear q14;try clear q453;try clear q459
    obtain⟨kq,x39_12,rfl,HA,HJ12,HO_0,HO_7,BK452,HB⟩:=hcut
    cases kq with
    | zero=>exact absurd HA.out (by simp [spec_PutFeature.j2])
    | succ kj12 =>
     have H:=HA.out
     clear HA
     simp only[spec_PutFeature.j2] at H
     have HC19:=ak H
     clear H
     go_upto_if 39 with (fail)
     go_cut [7] (fun v7 wc=>∃ (kq:Nat) (x7_18:List (S34)),Aside0 (spec_PutFeature.j3 kq l0 x6_2 x7_18 a1_0 a1_1 a1_2 a1_3 l1_4=some (r1,r2))∧Aside0 (kq≤kj12)∧Aside0 (Kd.V k34 34 wc w.heap.size (fun k_=>(P0_ k_∨w.heap.size≤k_)∧k_≠gb452) (.slice A0 l0.length c0) l0)∧Aside0 (Kd.V k34 34 wc w.heap.size (fun k_=>(P0_ k_∨w.heap.size≤k_)∧k_≠gb452) v7 x7_18)∧Aside0 (wc.heap[gb452]?=some (.cells #[.int .i64 a1_0,.int .i64 a1_1,.int .i64 a1_2,.string a1_3,(.slice A1_4 l1_4.length c1_4)] 34 (0,0)))∧Aside0 (Below w.heap.size w wc))
     case first =>
      have H:=HC19.out
      clear HC19
      by_cases c20:x39_12=true;rotate_left
      ·
       replace c20:=Bool.eq_false_iff.mpr c20
       subst c20
       rw [if_neg (show ¬ (false=true) by decide)] at H
       have H':=ak H
       clear H
       go_wp2
       go_meet
       case rel=>exact⟨_,(y454),H',⟨by have:=HJ2.out;have:=HJ12.out;first|omega|exact Nat.le_refl _⟩,⟨z5_ HO_0⟩,⟨z5_ HO_7⟩,⟨z6_ BK452⟩,⟨Hd.b_⟩⟩
      subst c20
      rw [if_pos rfl] at H
      by_cases c21:1≤(y454.length:Int);rotate_left
      ·
       rw [if_neg c21] at H
       exact absurd H (by simp)
      rw [if_pos c21] at H
      have c21b0:=eq_true c21
      have c21b1:=decide_eq_true c21
      clear c21
      generalize hy460:(y454.drop 1)=y460 at H;have Ny460:=ak hy460.symm;clear hy460;try rw [Option.bind_some] at H
      have H':=ak H
      clear H
      have q22:(1:Int)≤((y454.length:Int):Int):=od_
      obtain⟨i022,hi022,_,hsz22,_⟩:=info_parts info34
      have hroom22:y454.length≤c14:=(Kd.V_reads' HO_7.out).2.1
      have hC22:Kd.F k34 _ _ A14 y454.length y454:=(Kd.V_at (base:=w.heap.size) HO_7.out).2.2
      have hcut22:=cut_from (P:=Try.prog) 28 34 .i64 Try.underlying28 hi022 5 hsz22 A14 y454.length c14 1 (by omega) q22
      have hr22:=Kd.F_cut (m:=(1:Int).toNat) (c:=c14) hC22 (by omega) hroom22
      obtain⟨A22,hA22⟩:∃ A1,A1=(if c14=(1:Int).toNat then A14 else (A14:Option Addr).map (·.add ((1:Int).toNat*5))):=⟨_,rfl⟩
      obtain⟨c22,hc22⟩:∃ c1,c1=c14-(1:Int).toNat:=⟨_,rfl⟩
      have hy22:y460.length=y454.length-(1:Int).toNat:=(by rw [Ny460.out,List.length_drop] <;> omega)
      rw [show (y454).drop (1:Int).toNat=y460 from Ny460.out.symm] at hr22
      replace hr22:Kd.F k34 _ _ A22 y460.length y460:=(by rw [hA22];exact hr22)
      rw [← hy22,← hA22,← hc22] at hcut22
      have HO464:=ak (show Kd.V k34 34 _ w.heap.size _ (.slice A22 y460.length c22) y460 from Kd.V_mk (by rw [hy22,hc22];exact Nat.sub_le_sub_right hroom22 _) hr22)
      have HC464:=ak (show y460.length≤c22 from by rw [hy22,hc22];exact Nat.sub_le_sub_right hroom22 _)
      clear hr22 hC22 hroom22 hi022 hsz22 hc22
      have KY22:=ak hy22
      have KA22:=ak hA22
      clear hy22 hA22
      replace q22:=eq_true q22
      go_wp2
      go_meet
      case rel=>exact⟨_,(y460),H',⟨by have:=HJ2.out;have:=HJ12.out;first|omega|exact Nat.le_refl _⟩,⟨z5_ HO_0⟩,⟨z5_ HO464⟩,⟨z6_ BK452⟩,⟨Hd.b_⟩⟩
     case rest =>
      clear HC19
      try clear c1;try clear c5;try clear c5b0;try clear c6;try clear c6b0;try clear c7;try clear c7b0;try clear c11;try clear c11b0;try clear c11b1;try clear c12;try clear c12b0;try clear c12b1;try clear c14;try clear q14;try clear c15;try clear c15b0;try clear c15b1;try clear c16;try clear c16b0;try clear c16b1;try clear c20;try clear c21;try clear c21b0;try clear c21b1;try clear c22;try clear q22;try clear hx453_0;try clear hx453_1;try clear hx453_2;try clear hx453_3;try clear hx453_4;try clear hx459_0;try clear hx459_1;try clear hx459_2;try clear hx459_3;try clear hx459_4;try clear p453;try clear p459;try clear q014;try clear q14;try clear q22;try clear q453;try clear q459
      obtain⟨kq,x7_18,HA,HJ18,HO_0,HO_7,BK452,HB⟩:=hcut
      cases kq with
      | zero=>exact absurd HA.out (by simp [spec_PutFeature.j3])
      | succ kj18 =>
       have H:=HA.out
       clear HA
       simp only[spec_PutFeature.j3] at H
       by_cases c23:0≤x6_2;rotate_left
       ·
        rw [if_neg c23] at H
        exact absurd H (by simp)
       rw [if_pos c23] at H
       have c23b0:=eq_true c23
       have c23b1:=decide_eq_true c23
       clear c23
       by_cases c24:x6_2≤(l0.length:Int);rotate_left
       ·
        rw [if_neg c24] at H
        exact absurd H (by simp)
       rw [if_pos c24] at H
       have c24b0:=eq_true c24
       have c24b1:=decide_eq_true c24
       clear c24
       generalize hy465:(l0.take (x6_2:Int).toNat)=y465 at H;have Ny465:=ak hy465.symm;clear hy465;try rw [Option.bind_some] at H
       replace H:=Hd.bd_ H;obtain⟨t470,A25,H⟩:=H
       replace H:=Hd.bd_ H;obtain⟨⟨t473,t474,t475,t476,t477⟩,A26,H⟩:=H;dsimp only at H
       by_cases c27:t470.length<2199023255552;rotate_left
       ·
        rw [if_neg c27] at H
        exact absurd H (by simp)
       rw [if_pos c27] at H
       have LMc27:=ak c27
       clear c27
       generalize hy480:(t470++[(⟨t473,t474,t475,t476,t477⟩:S34)])=y480 at H;have Ny480:=ak hy480.symm;clear hy480;try rw [Option.bind_some] at H
       replace H:=Hd.bd_ H;obtain⟨t483,A28,H⟩:=H
       by_cases c29:y480.length+t483.length<2199023255552;rotate_left
       ·
        rw [if_neg c29] at H
        exact absurd H (by simp)
       rw [if_pos c29] at H
       have LMc29:=ak c29
       clear c29
       generalize hy486:(y480++t483)=y486 at H;have Ny486:=ak hy486.symm;clear hy486;try rw [Option.bind_some] at H
       replace H:=Hd.bd_ H;obtain⟨t489,A30,H⟩:=H
       by_cases c31:t489=true
       ·
        subst c31
        rw [if_pos rfl] at H
        simp only[Option.some.injEq,Prod.mk.injEq] at H
        obtain⟨rfl,rfl⟩:=H
        try go_wp2
        replace HO_0:=z165_ HO_0
        replace HO_7:=z165_ HO_7
        replace BK452:=z65_ BK452
        replace HB:=z42_
        have q33:(x6_2:Int)≤((l0.length:Int):Int):=od_
        obtain⟨i033,hi033,_,hsz33,_⟩:=info_parts info34
        have hroom33:l0.length≤c0:=(Kd.V_reads' HO_0.out).2.1
        have hC33:Kd.F k34 _ _ A0 l0.length l0:=(Kd.V_at (base:=w.heap.size) HO_0.out).2.2
        have hcut33:=cut_to (P:=Try.prog) 28 34 .i64 Try.underlying28 hi033 A0 l0.length c0 x6_2 (od_) q33 hroom33
        have hr33:=Kd.F_take (m:=(x6_2:Int).toNat) hC33 (by omega)
        have hy33:y465.length=(x6_2:Int).toNat:=(by rw [Ny465.out,List.length_take];omega)
        rw [← Ny465.out] at hr33
        rw [← hy33] at hcut33
        have HO469:=ak (show Kd.V k34 34 _ w.heap.size _ (.slice A0 y465.length c0) y465 from Kd.V_mk (by omega) hr33)
        have HC469:=ak (show y465.length≤c0 from by omega)
        clear hr33 hC33 hroom33 hi033 hsz33
        have KY33:=ak hy33
        clear hy33
        replace q33:=eq_true q33
        refine start_ (n:=12) (S:=fun w'=>w'.cell? ⟨gb452,0,none⟩=some (.int .i64 a1_0)∧w'.cell? ⟨gb452,1,none⟩=some (.int .i64 a1_1)∧w'.cell? ⟨gb452,2,none⟩=some (.int .i64 a1_2)∧w'.cell? ⟨gb452,3,none⟩=some (.string a1_3)∧w'.cell? ⟨gb452,4,none⟩=some (.slice A1_4 l1_4.length c1_4)) (ds:=[]) #[Z,Z,Z,Z,Z,Z,Z,Z,Z,Z,Z,Z] (by kernel_rfl) rfl rfl ⟨(blk_cell BK452.out 0).trans rfl,(blk_cell BK452.out 1).trans rfl,(blk_cell BK452.out 2).trans rfl,(blk_cell BK452.out 3).trans rfl,(blk_cell BK452.out 4).trans rfl⟩ (fun hHeld=>?_);refine with_tabW spec_PutFeature.tab7 spec_PutFeature.bits7 (fun HT_ HW_=>?_)
        generalize wc.drew=w32 at HO_0 HO_7 BK452 HB HO469 hHeld ⊢
        refine Hd.p_ HT_ 0 (some 42) #[Y,Z,Z,Z,Z,Z,Z,Z,Z,Z,Z,Z] ?_
        refine Hd.p_ HT_ 1 (some 43) #[Y,Y,Z,Z,Z,Z,Z,Z,Z,Z,Z,Z] ?_
        refine Hd.p_ HT_ 2 (some 44) #[Y,Y,Y,Z,Z,Z,Z,Z,Z,Z,Z,Z] ?_
        refine Hd.p_ HT_ 8 (some 50) #[Y,Y,Y,Z,Z,Z,Z,Z,Y,Z,Z,Z] ?_
        refine Hd.t_ HT_ HW_ hHeld 4 (some 46) #[Y,Y,Y,Z,Y,Z,Z,Z,Y,Z,Z,Z] ?_
        refine Hd.o_ HT_ 3 (some 45) #[Y,Y,Y,Y,Y,Z,Z,Z,Y,Z,Z,Z] (fun K hK=>?_)
        refine goes_ Try.func34 (by kernel_rfl) rfl #[.slice A0 y465.length c0] (by rfl) rfl rfl Hd.m_ ?_
        with_reducible refine(spec_l9Copy.calls kj18 _ _ y465 t470 _ ?side1 ?side2 A25.out).mono ?_
        (case side1=>exact z25_ HO469)
        (case side2=>exact z123_ HO469)
        rintro e w34 ⟨v471,rfl,ho0,hb⟩
        refine⟨_,rfl,?_⟩
        replace HO_0:=z246_
        replace HO_7:=z272_
        replace HO469:=z270_
        have HO472:=z112_
        replace BK452:=z193_
        replace HB:=z17_
        try clear hb;try clear hk;try clear ho0
        refine hK.out _ _ ⟨(blk_cell BK452.out 0).trans rfl,(blk_cell BK452.out 1).trans rfl,(blk_cell BK452.out 2).trans rfl,(blk_cell BK452.out 3).trans rfl,(blk_cell BK452.out 4).trans rfl⟩ (fun hHeld=>?_)
        clear hK K
        refine Hd.n_ (some 45) ?_
        refine Hd.o_ HT_ 5 (some 47) #[Y,Y,Y,Y,Y,Y,Z,Z,Y,Z,Z,Z] (fun K hK=>?_)
        refine goes_ Try.func35 (by kernel_rfl) rfl #[.agg #[.int .i64 a1_0,.int .i64 a1_1,.int .i64 a1_2,.string a1_3,.slice A1_4 l1_4.length c1_4]] (by rfl) rfl rfl Hd.m_ ?_
        with_reducible refine(spec_l9Feature.calls a1_0 a1_1 a1_2 a1_3 _ _ l1_4 t473 t474 t475 t476 t477 _ ?side1 ?side2 A26.out).mono ?_
        (case side1=>exact z15_ HR1_4)
        (case side2=>exact HC1_4.out)
        rintro e w35 ⟨v478,rfl,ho0,hb⟩
        refine⟨_,rfl,?_⟩
        replace HO_0:=z245_
        replace HO_7:=ak (Kd.V_elder' (z5_ HO_7) (Kd.R_base ho0) hb)
        replace HO469:=ak (Kd.V_elder' (z5_ HO469) (Kd.R_base ho0) hb)
        replace HO472:=ak (Kd.N_elder' (z3_ HO472) (Kd.R_base ho0) hb)
        have HO479:=z49_
        replace BK452:=z193_
        replace HB:=z17_
        try clear hb;try clear hk;try clear ho0
        obtain⟨Ao37,co37,eo37⟩:=Kd.R_slice HO479.out
        (first|subst eo37|(injection eo37 with f1_ f2_ f3_;have f4_:=f1_.symm;have f5_:=f3_.symm;clear f1_ f2_ f3_;subst f4_;subst f5_))
        refine hK.out _ _ ⟨(blk_cell BK452.out 0).trans rfl,(blk_cell BK452.out 1).trans rfl,(blk_cell BK452.out 2).trans rfl,(blk_cell BK452.out 3).trans rfl,(blk_cell BK452.out 4).trans rfl⟩ (fun hHeld=>?_)
        clear hK K
        refine Hd.n_ (some 47) ?_
        refine Hd.o_ HT_ 6 (some 48) #[Y,Y,Y,Y,Y,Y,Y,Z,Y,Z,Z,Z] (fun K hK=>?_)
        refine value_ (w1:=?_) (v:=?_) (by rfl) rfl ?_ ?_
        rotate_left 2
        ·
         go_simp
         constructor
         ·
          rfl
         ·
          rfl
        refine hK.out _ _ ⟨(blk_cell (blk_alloc BK452.out _) 0).trans rfl,(blk_cell (blk_alloc BK452.out _) 1).trans rfl,(blk_cell (blk_alloc BK452.out _) 2).trans rfl,(blk_cell (blk_alloc BK452.out _) 3).trans rfl,(blk_cell (blk_alloc BK452.out _) 4).trans rfl⟩ (fun hHeld=>?_)
        clear hK K
        refine Hd.n_ (some 48) ?_
        refine Hd.o_ HT_ 7 (some 49) #[Y,Y,Y,Y,Y,Y,Y,Y,Y,Z,Z,Z] (fun K hK=>?_)
        refine Kd.N_append_step k34 (w0:=w) w.heap.size (by rfl) (.tmp 45) (.tmp 48) 28 34 (.agg #[(.int .i64 0),(.int .i64 0),(.int .i64 0),(.string ⟨#[]⟩),(.slice none 0 0)]) 64 rfl Try.underlying28 info34 rfl (by decide) (by omega) v471 t470 (⟨t473,t474,t475,t476,t477⟩:S34) [.int .i64 t473,.int .i64 t474,.int .i64 t475,.string t476,.slice Ao37 t477.length co37] (fun k_=>(P0_ k_∨w.heap.size≤k_)∧k_≠gb452) (fun k_=>((fun k_=>(P0_ k_∨w.heap.size≤k_)∧k_≠gb452)) k_∧some k_≠(v471:Value).ownBlock) rfl rfl ?aP (fun _ hk=>hk) ?aF ?aO ?aB ?aS ?aL ?_
        (case aP=>exact z96_ HO479 HO472 BK452)
        (case aB=>exact Hd.b_)
        (case aF=>exact z75_)
        (case aO=>exact(z104_ HO472))
        (case aS=>exact z133_)
        (case aL=>have:=LMc27.out;omega)
        intro v481 w36 ho hb hg hat
        rw [← Ny480.out] at ho
        have n0_:=ak (Kd.V_afterv (ok:=(fun k_=>(P0_ k_∨w.heap.size≤k_)∧some k_≠(.slice Ao37 t477.length co37:Value).ownBlock∧k_≠gb452)) (z48_ HO_0) hg hat)
        have n1_:=ak (Kd.V_afterv (ok:=(fun k_=>(P0_ k_∨w.heap.size≤k_)∧some k_≠(.slice Ao37 t477.length co37:Value).ownBlock∧k_≠gb452)) (z48_ HO_7) hg hat)
        have n2_:=z88_ HO472
        have n3_:=ak (Kd.V_afterv (ok:=(fun k_=>(P0_ k_∨w.heap.size≤k_)∧some k_≠(.slice Ao37 t477.length co37:Value).ownBlock∧k_≠gb452)) (z48_ HO469) hg hat)
        have n4_:=ak (hb)
        have n5_:=ak (ho)
        clear HO_0
        clear HO_7
        clear BK452
        clear HO469
        clear HB
        clear HO472
        clear HO479
        have HO_0:=n0_
        have HO_7:=n1_
        have BK452:=n2_
        have HO469:=n3_
        have HB:=n4_
        have HO482:=n5_
        clear n0_ n1_ n2_ n3_ n4_ n5_
        clear ho hb hg hat
        obtain⟨Ao38,co38,eo38⟩:=Kd.V_slice HO_7.out
        (first|subst eo38|(injection eo38 with f1_ f2_ f3_;have f4_:=f1_.symm;have f5_:=f3_.symm;clear f1_ f2_ f3_;subst f4_;subst f5_))
        refine hK.out _ _ ⟨(blk_cell BK452.out 0).trans rfl,(blk_cell BK452.out 1).trans rfl,(blk_cell BK452.out 2).trans rfl,(blk_cell BK452.out 3).trans rfl,(blk_cell BK452.out 4).trans rfl⟩ (fun hHeld=>?_)
        clear hK K
        refine Hd.n_ (some 49) ?_
        refine Hd.o_ HT_ 9 (some 51) #[Y,Y,Y,Y,Y,Y,Y,Y,Y,Y,Z,Z] (fun K hK=>?_)
        refine goes_ Try.func34 (by kernel_rfl) rfl #[.slice Ao38 x7_18.length co38] (by rfl) rfl rfl Hd.m_ ?_
        with_reducible refine(spec_l9Copy.calls kj18 _ _ x7_18 t483 _ ?side1 ?side2 A28.out).mono ?_
        (case side1=>exact z25_ HO_7)
        (case side2=>exact z123_ HO_7)
        rintro e w39 ⟨v484,rfl,ho0,hb⟩
        refine⟨_,rfl,?_⟩
        replace HO_0:=z246_
        replace HO_7:=z272_
        replace HO469:=z270_
        have HO485:=z233_
        replace HO482:=ak (Kd.N_elder' (z3_ HO482) (Kd.S_base ho0) hb)
        replace BK452:=z193_
        replace HB:=z17_
        try clear hb;try clear hk;try clear ho0
        obtain⟨Ao41,co41,eo41⟩:=Kd.N_slice HO485.out
        (first|subst eo41|(injection eo41 with f1_ f2_ f3_;have f4_:=f1_.symm;have f5_:=f3_.symm;clear f1_ f2_ f3_;subst f4_;subst f5_))
        refine hK.out _ _ ⟨(blk_cell BK452.out 0).trans rfl,(blk_cell BK452.out 1).trans rfl,(blk_cell BK452.out 2).trans rfl,(blk_cell BK452.out 3).trans rfl,(blk_cell BK452.out 4).trans rfl⟩ (fun hHeld=>?_)
        clear hK K
        refine Hd.n_ (some 51) ?_
        refine Hd.o_ HT_ 10 (some 52) #[Y,Y,Y,Y,Y,Y,Y,Y,Y,Y,Y,Z] (fun K hK=>?_)
        refine Kd.N_append_rows_step k34 (w0:=w) w.heap.size (by rfl) (.tmp 49) (.tmp 51) 28 34 (.agg #[(.int .i64 0),(.int .i64 0),(.int .i64 0),(.string ⟨#[]⟩),(.slice none 0 0)]) 64 rfl Try.underlying28 info34 rfl (by decide) (by omega) v481 y480 t483 _ _ _ (fun k_=>(P0_ k_∨w.heap.size≤k_)∧k_≠gb452) (fun k_=>((fun k_=>(P0_ k_∨w.heap.size≤k_)∧k_≠gb452)) k_∧some k_≠(v481:Value).ownBlock) rfl rfl ?aO ?aR (fun _ hk=>hk) ?aF ?aB ?aS ?aL ?_
        (case aR=>exact(z170_ HO485))
        (case aB=>exact Hd.b_)
        (case aF=>exact z75_)
        (case aO=>exact(z104_ HO482))
        (case aS=>exact z133_)
        (case aL=>have:=LMc29.out;omega)
        intro v487 w40 ho hb hg hat
        rw [← Ny486.out] at ho
        have n0_:=ak (Kd.V_afterv (ok:=(fun k_=>(P0_ k_∨w.heap.size≤k_)∧some k_≠(.slice Ao41 t483.length co41:Value).ownBlock∧k_≠gb452)) (z69_ HO_0) hg hat)
        have n1_:=ak (Kd.V_afterv (ok:=(fun k_=>(P0_ k_∨w.heap.size≤k_)∧some k_≠(.slice Ao41 t483.length co41:Value).ownBlock∧k_≠gb452)) (z69_ HO_7) hg hat)
        have n2_:=z88_ HO482
        have n3_:=ak (Kd.V_afterv (ok:=(fun k_=>(P0_ k_∨w.heap.size≤k_)∧some k_≠(.slice Ao41 t483.length co41:Value).ownBlock∧k_≠gb452)) (z69_ HO469) hg hat)
        have n4_:=z157_ HO485
        have n5_:=ak (hb)
        have n6_:=ak (ho)
        clear HO_0
        clear HO_7
        clear BK452
        clear HO469
        clear HO485
        clear HB
        clear HO482
        have HO_0:=n0_
        have HO_7:=n1_
        have BK452:=n2_
        have HO469:=n3_
        have HO485:=n4_
        have HB:=n5_
        have HO488:=n6_
        clear n0_ n1_ n2_ n3_ n4_ n5_ n6_
        clear ho hb hg hat
        refine hK.out _ _ ⟨(blk_cell BK452.out 0).trans rfl,(blk_cell BK452.out 1).trans rfl,(blk_cell BK452.out 2).trans rfl,(blk_cell BK452.out 3).trans rfl,(blk_cell BK452.out 4).trans rfl⟩ (fun hHeld=>?_)
        clear hK K
        refine Hd.n_ (some 52) ?_
        refine Hd.p_ HT_ 11 (some 8) #[Y,Y,Y,Y,Y,Y,Y,Y,Y,Y,Y,Y] ?_
        refine done_ (done_of HT_.out (by kernel_rfl)) ?_
        obtain⟨Ao42,co42,eo42⟩:=Kd.N_slice HO488.out
        subst eo42
        try go_wp2_with (first|((with_reducible refine gate_callee (f:=36) rfl ?_);refine Hd.gl_ 54 Try.func36 #[.slice Ao42 y486.length co42] ?_;(with_reducible refine(spec_IsSource.calls kj18 _ _ y486 true _ ?side1 ?side2 A30.out).mono ?_);(case side1=>exact z16_ HO488);(case side2=>exact z81_ HO488);rintro e w43 ⟨rfl,hb⟩;refine⟨_,rfl,?_⟩;replace HO_0:=z269_;replace HO_7:=ak (Kd.V_below (z5_ HO_7) hb);replace HO469:=ak (Kd.V_below (z5_ HO469) hb);replace HO485:=ak (Kd.N_below (z3_ HO485) hb);replace HO488:=ak (Kd.N_below (z3_ HO488) hb);replace BK452:=z193_;replace HB:=z17_;(try clear hb);(try clear hk)))
        go_ret2
        exact⟨_,Hd.e_,z51_ HO488,Hd.b_⟩
       replace c31:=Bool.eq_false_iff.mpr c31
       subst c31
       rw [if_neg (show ¬ (false=true) by decide)] at H
       replace H:=Hd.bd_ H;obtain⟨t490,A44,H⟩:=H
       simp only[Option.some.injEq,Prod.mk.injEq] at H
       obtain⟨rfl,rfl⟩:=H
       try go_wp2
       replace HO_0:=z165_ HO_0
       replace HO_7:=z165_ HO_7
       replace BK452:=z65_ BK452
       replace HB:=z42_
       have q46:(x6_2:Int)≤((l0.length:Int):Int):=od_
       obtain⟨i046,hi046,_,hsz46,_⟩:=info_parts info34
       have hroom46:l0.length≤c0:=(Kd.V_reads' HO_0.out).2.1
       have hC46:Kd.F k34 _ _ A0 l0.length l0:=(Kd.V_at (base:=w.heap.size) HO_0.out).2.2
       have hcut46:=cut_to (P:=Try.prog) 28 34 .i64 Try.underlying28 hi046 A0 l0.length c0 x6_2 (od_) q46 hroom46
       have hr46:=Kd.F_take (m:=(x6_2:Int).toNat) hC46 (by omega)
       have hy46:y465.length=(x6_2:Int).toNat:=(by rw [Ny465.out,List.length_take];omega)
       rw [← Ny465.out] at hr46
       rw [← hy46] at hcut46
       have HO469:=ak (show Kd.V k34 34 _ w.heap.size _ (.slice A0 y465.length c0) y465 from Kd.V_mk (by omega) hr46)
       have HC469:=ak (show y465.length≤c0 from by omega)
       clear hr46 hC46 hroom46 hi046 hsz46
       have KY46:=ak hy46
       clear hy46
       replace q46:=eq_true q46
       refine start_ (n:=12) (S:=fun w'=>w'.cell? ⟨gb452,0,none⟩=some (.int .i64 a1_0)∧w'.cell? ⟨gb452,1,none⟩=some (.int .i64 a1_1)∧w'.cell? ⟨gb452,2,none⟩=some (.int .i64 a1_2)∧w'.cell? ⟨gb452,3,none⟩=some (.string a1_3)∧w'.cell? ⟨gb452,4,none⟩=some (.slice A1_4 l1_4.length c1_4)) (ds:=[]) #[Z,Z,Z,Z,Z,Z,Z,Z,Z,Z,Z,Z] (by kernel_rfl) rfl rfl ⟨(blk_cell BK452.out 0).trans rfl,(blk_cell BK452.out 1).trans rfl,(blk_cell BK452.out 2).trans rfl,(blk_cell BK452.out 3).trans rfl,(blk_cell BK452.out 4).trans rfl⟩ (fun hHeld=>?_);refine with_tabW spec_PutFeature.tab7 spec_PutFeature.bits7 (fun HT_ HW_=>?_)
       generalize wc.drew=w45 at HO_0 HO_7 BK452 HB HO469 hHeld ⊢
       refine Hd.p_ HT_ 0 (some 42) #[Y,Z,Z,Z,Z,Z,Z,Z,Z,Z,Z,Z] ?_
       refine Hd.p_ HT_ 1 (some 43) #[Y,Y,Z,Z,Z,Z,Z,Z,Z,Z,Z,Z] ?_
       refine Hd.p_ HT_ 2 (some 44) #[Y,Y,Y,Z,Z,Z,Z,Z,Z,Z,Z,Z] ?_
       refine Hd.p_ HT_ 8 (some 50) #[Y,Y,Y,Z,Z,Z,Z,Z,Y,Z,Z,Z] ?_
       refine Hd.t_ HT_ HW_ hHeld 4 (some 46) #[Y,Y,Y,Z,Y,Z,Z,Z,Y,Z,Z,Z] ?_
       refine Hd.o_ HT_ 3 (some 45) #[Y,Y,Y,Y,Y,Z,Z,Z,Y,Z,Z,Z] (fun K hK=>?_)
       refine goes_ Try.func34 (by kernel_rfl) rfl #[.slice A0 y465.length c0] (by rfl) rfl rfl Hd.m_ ?_
       with_reducible refine(spec_l9Copy.calls kj18 _ _ y465 t470 _ ?side1 ?side2 A25.out).mono ?_
       (case side1=>exact z25_ HO469)
       (case side2=>exact z123_ HO469)
       rintro e w47 ⟨v471,rfl,ho0,hb⟩
       refine⟨_,rfl,?_⟩
       replace HO_0:=z246_
       replace HO_7:=z272_
       replace HO469:=z270_
       have HO472:=z112_
       replace BK452:=z193_
       replace HB:=z17_
       try clear hb;try clear hk;try clear ho0
       refine hK.out _ _ ⟨(blk_cell BK452.out 0).trans rfl,(blk_cell BK452.out 1).trans rfl,(blk_cell BK452.out 2).trans rfl,(blk_cell BK452.out 3).trans rfl,(blk_cell BK452.out 4).trans rfl⟩ (fun hHeld=>?_)
       clear hK K
       refine Hd.n_ (some 45) ?_
       refine Hd.o_ HT_ 5 (some 47) #[Y,Y,Y,Y,Y,Y,Z,Z,Y,Z,Z,Z] (fun K hK=>?_)
       refine goes_ Try.func35 (by kernel_rfl) rfl #[.agg #[.int .i64 a1_0,.int .i64 a1_1,.int .i64 a1_2,.string a1_3,.slice A1_4 l1_4.length c1_4]] (by rfl) rfl rfl Hd.m_ ?_
       with_reducible refine(spec_l9Feature.calls a1_0 a1_1 a1_2 a1_3 _ _ l1_4 t473 t474 t475 t476 t477 _ ?side1 ?side2 A26.out).mono ?_
       (case side1=>exact z15_ HR1_4)
       (case side2=>exact HC1_4.out)
       rintro e w48 ⟨v478,rfl,ho0,hb⟩
       refine⟨_,rfl,?_⟩
       replace HO_0:=z245_
       replace HO_7:=ak (Kd.V_elder' (z5_ HO_7) (Kd.R_base ho0) hb)
       replace HO469:=ak (Kd.V_elder' (z5_ HO469) (Kd.R_base ho0) hb)
       replace HO472:=ak (Kd.N_elder' (z3_ HO472) (Kd.R_base ho0) hb)
       have HO479:=z49_
       replace BK452:=z193_
       replace HB:=z17_
       try clear hb;try clear hk;try clear ho0
       obtain⟨Ao50,co50,eo50⟩:=Kd.R_slice HO479.out
       (first|subst eo50|(injection eo50 with f1_ f2_ f3_;have f4_:=f1_.symm;have f5_:=f3_.symm;clear f1_ f2_ f3_;subst f4_;subst f5_))
       refine hK.out _ _ ⟨(blk_cell BK452.out 0).trans rfl,(blk_cell BK452.out 1).trans rfl,(blk_cell BK452.out 2).trans rfl,(blk_cell BK452.out 3).trans rfl,(blk_cell BK452.out 4).trans rfl⟩ (fun hHeld=>?_)
       clear hK K
       refine Hd.n_ (some 47) ?_
       refine Hd.o_ HT_ 6 (some 48) #[Y,Y,Y,Y,Y,Y,Y,Z,Y,Z,Z,Z] (fun K hK=>?_)
       refine value_ (w1:=?_) (v:=?_) (by rfl) rfl ?_ ?_
       rotate_left 2
       ·
        go_simp
        constructor
        ·
         rfl
        ·
         rfl
       refine hK.out _ _ ⟨(blk_cell (blk_alloc BK452.out _) 0).trans rfl,(blk_cell (blk_alloc BK452.out _) 1).trans rfl,(blk_cell (blk_alloc BK452.out _) 2).trans rfl,(blk_cell (blk_alloc BK452.out _) 3).trans rfl,(blk_cell (blk_alloc BK452.out _) 4).trans rfl⟩ (fun hHeld=>?_)
       clear hK K
       refine Hd.n_ (some 48) ?_
       refine Hd.o_ HT_ 7 (some 49) #[Y,Y,Y,Y,Y,Y,Y,Y,Y,Z,Z,Z] (fun K hK=>?_)
       refine Kd.N_append_step k34 (w0:=w) w.heap.size (by rfl) (.tmp 45) (.tmp 48) 28 34 (.agg #[(.int .i64 0),(.int .i64 0),(.int .i64 0),(.string ⟨#[]⟩),(.slice none 0 0)]) 64 rfl Try.underlying28 info34 rfl (by decide) (by omega) v471 t470 (⟨t473,t474,t475,t476,t477⟩:S34) [.int .i64 t473,.int .i64 t474,.int .i64 t475,.string t476,.slice Ao50 t477.length co50] (fun k_=>(P0_ k_∨w.heap.size≤k_)∧k_≠gb452) (fun k_=>((fun k_=>(P0_ k_∨w.heap.size≤k_)∧k_≠gb452)) k_∧some k_≠(v471:Value).ownBlock) rfl rfl ?aP (fun _ hk=>hk) ?aF ?aO ?aB ?aS ?aL ?_
       (case aP=>exact z96_ HO479 HO472 BK452)
       (case aB=>exact Hd.b_)
       (case aF=>exact z75_)
       (case aO=>exact(z104_ HO472))
       (case aS=>exact z133_)
       (case aL=>have:=LMc27.out;omega)
       intro v481 w49 ho hb hg hat
       rw [← Ny480.out] at ho
       have n0_:=ak (Kd.V_afterv (ok:=(fun k_=>(P0_ k_∨w.heap.size≤k_)∧some k_≠(.slice Ao50 t477.length co50:Value).ownBlock∧k_≠gb452)) (z48_ HO_0) hg hat)
       have n1_:=ak (Kd.V_afterv (ok:=(fun k_=>(P0_ k_∨w.heap.size≤k_)∧some k_≠(.slice Ao50 t477.length co50:Value).ownBlock∧k_≠gb452)) (z48_ HO_7) hg hat)
       have n2_:=z88_ HO472
       have n3_:=ak (Kd.V_afterv (ok:=(fun k_=>(P0_ k_∨w.heap.size≤k_)∧some k_≠(.slice Ao50 t477.length co50:Value).ownBlock∧k_≠gb452)) (z48_ HO469) hg hat)
       have n4_:=ak (hb)
       have n5_:=ak (ho)
       clear HO_0
       clear HO_7
       clear BK452
       clear HO469
       clear HB
       clear HO472
       clear HO479
       have HO_0:=n0_
       have HO_7:=n1_
       have BK452:=n2_
       have HO469:=n3_
       have HB:=n4_
       have HO482:=n5_
       clear n0_ n1_ n2_ n3_ n4_ n5_
       clear ho hb hg hat
       obtain⟨Ao51,co51,eo51⟩:=Kd.V_slice HO_7.out
       (first|subst eo51|(injection eo51 with f1_ f2_ f3_;have f4_:=f1_.symm;have f5_:=f3_.symm;clear f1_ f2_ f3_;subst f4_;subst f5_))
       refine hK.out _ _ ⟨(blk_cell BK452.out 0).trans rfl,(blk_cell BK452.out 1).trans rfl,(blk_cell BK452.out 2).trans rfl,(blk_cell BK452.out 3).trans rfl,(blk_cell BK452.out 4).trans rfl⟩ (fun hHeld=>?_)
       clear hK K
       refine Hd.n_ (some 49) ?_
       refine Hd.o_ HT_ 9 (some 51) #[Y,Y,Y,Y,Y,Y,Y,Y,Y,Y,Z,Z] (fun K hK=>?_)
       refine goes_ Try.func34 (by kernel_rfl) rfl #[.slice Ao51 x7_18.length co51] (by rfl) rfl rfl Hd.m_ ?_
       with_reducible refine(spec_l9Copy.calls kj18 _ _ x7_18 t483 _ ?side1 ?side2 A28.out).mono ?_
       (case side1=>exact z25_ HO_7)
       (case side2=>exact z123_ HO_7)
       rintro e w52 ⟨v484,rfl,ho0,hb⟩
       refine⟨_,rfl,?_⟩
       replace HO_0:=z246_
       replace HO_7:=z272_
       replace HO469:=z270_
       have HO485:=z233_
       replace HO482:=ak (Kd.N_elder' (z3_ HO482) (Kd.S_base ho0) hb)
       replace BK452:=z193_
       replace HB:=z17_
       try clear hb;try clear hk;try clear ho0
       obtain⟨Ao54,co54,eo54⟩:=Kd.N_slice HO485.out
       (first|subst eo54|(injection eo54 with f1_ f2_ f3_;have f4_:=f1_.symm;have f5_:=f3_.symm;clear f1_ f2_ f3_;subst f4_;subst f5_))
       refine hK.out _ _ ⟨(blk_cell BK452.out 0).trans rfl,(blk_cell BK452.out 1).trans rfl,(blk_cell BK452.out 2).trans rfl,(blk_cell BK452.out 3).trans rfl,(blk_cell BK452.out 4).trans rfl⟩ (fun hHeld=>?_)
       clear hK K
       refine Hd.n_ (some 51) ?_
       refine Hd.o_ HT_ 10 (some 52) #[Y,Y,Y,Y,Y,Y,Y,Y,Y,Y,Y,Z] (fun K hK=>?_)
       refine Kd.N_append_rows_step k34 (w0:=w) w.heap.size (by rfl) (.tmp 49) (.tmp 51) 28 34 (.agg #[(.int .i64 0),(.int .i64 0),(.int .i64 0),(.string ⟨#[]⟩),(.slice none 0 0)]) 64 rfl Try.underlying28 info34 rfl (by decide) (by omega) v481 y480 t483 _ _ _ (fun k_=>(P0_ k_∨w.heap.size≤k_)∧k_≠gb452) (fun k_=>((fun k_=>(P0_ k_∨w.heap.size≤k_)∧k_≠gb452)) k_∧some k_≠(v481:Value).ownBlock) rfl rfl ?aO ?aR (fun _ hk=>hk) ?aF ?aB ?aS ?aL ?_
       (case aR=>exact(z170_ HO485))
       (case aB=>exact Hd.b_)
       (case aF=>exact z75_)
       (case aO=>exact(z104_ HO482))
       (case aS=>exact z133_)
       (case aL=>have:=LMc29.out;omega)
       intro v487 w53 ho hb hg hat
       rw [← Ny486.out] at ho
       have n0_:=ak (Kd.V_afterv (ok:=(fun k_=>(P0_ k_∨w.heap.size≤k_)∧some k_≠(.slice Ao54 t483.length co54:Value).ownBlock∧k_≠gb452)) (z69_ HO_0) hg hat)
       have n1_:=ak (Kd.V_afterv (ok:=(fun k_=>(P0_ k_∨w.heap.size≤k_)∧some k_≠(.slice Ao54 t483.length co54:Value).ownBlock∧k_≠gb452)) (z69_ HO_7) hg hat)
       have n2_:=z88_ HO482
       have n3_:=ak (Kd.V_afterv (ok:=(fun k_=>(P0_ k_∨w.heap.size≤k_)∧some k_≠(.slice Ao54 t483.length co54:Value).ownBlock∧k_≠gb452)) (z69_ HO469) hg hat)
       have n4_:=z157_ HO485
       have n5_:=ak (hb)
       have n6_:=ak (ho)
       clear HO_0
       clear HO_7
       clear BK452
       clear HO469
       clear HO485
       clear HB
       clear HO482
       have HO_0:=n0_
       have HO_7:=n1_
       have BK452:=n2_
       have HO469:=n3_
       have HO485:=n4_
       have HB:=n5_
       have HO488:=n6_
       clear n0_ n1_ n2_ n3_ n4_ n5_ n6_
       clear ho hb hg hat
       refine hK.out _ _ ⟨(blk_cell BK452.out 0).trans rfl,(blk_cell BK452.out 1).trans rfl,(blk_cell BK452.out 2).trans rfl,(blk_cell BK452.out 3).trans rfl,(blk_cell BK452.out 4).trans rfl⟩ (fun hHeld=>?_)
       clear hK K
       refine Hd.n_ (some 52) ?_
       refine Hd.p_ HT_ 11 (some 8) #[Y,Y,Y,Y,Y,Y,Y,Y,Y,Y,Y,Y] ?_
       refine done_ (done_of HT_.out (by kernel_rfl)) ?_
       obtain⟨Ao55,co55,eo55⟩:=Kd.N_slice HO488.out
       subst eo55
       try go_wp2_with (first|((with_reducible refine gate_callee (f:=36) rfl ?_);refine Hd.gl_ 54 Try.func36 #[.slice Ao55 y486.length co55] ?_;(with_reducible refine(spec_IsSource.calls kj18 _ _ y486 false _ ?side1 ?side2 A30.out).mono ?_);(case side1=>exact z16_ HO488);(case side2=>exact z81_ HO488);rintro e w56 ⟨rfl,hb⟩;refine⟨_,rfl,?_⟩;replace HO_0:=z269_;replace HO_7:=ak (Kd.V_below (z5_ HO_7) hb);replace HO469:=ak (Kd.V_below (z5_ HO469) hb);replace HO485:=ak (Kd.N_below (z3_ HO485) hb);replace HO488:=ak (Kd.N_below (z3_ HO488) hb);replace BK452:=z193_;replace HB:=z17_;(try clear hb);(try clear hk))|((with_reducible refine gate_callee (f:=34) rfl ?_);refine Hd.gl_ 57 Try.func34 #[.slice A0 l0.length c0] ?_;(with_reducible refine(spec_l9Copy.calls kj18 _ _ l0 t490 _ ?side1 ?side2 A44.out).mono ?_);(case side1=>exact z25_ HO_0);(case side2=>exact z123_ HO_0);rintro e w57 ⟨v491,rfl,ho0,hb⟩;refine⟨_,rfl,?_⟩;replace HO_0:=z246_;replace HO_7:=z272_;replace HO469:=z270_;have HO492:=ak (Kd.N_lower (Kd.N_mono (ok':=fun k_=>(P0_ k_∨w.heap.size≤k_)∧some k_≠(.slice Ao54 t483.length co54:Value).ownBlock∧some k_≠(.slice Ao55 y486.length co55:Value).ownBlock∧k_≠gb452) (Kd.S_N (Kd.S_bound ho0)) (fun k_ hk_=>⟨(.inr (Nat.le_trans (below_size Hd.b_) hk_.2.1)),(Kd.fresh' (Kd.N_lt (z3_ HO485)) k_ hk_.2.1),(Kd.fresh' (Kd.N_lt (z3_ HO488)) k_ hk_.2.1),(Kd.freshB (g:=gb452) (o:=.cells #[.int .i64 a1_0,.int .i64 a1_1,.int .i64 a1_2,.string a1_3,.slice A1_4 l1_4.length c1_4] 34 (0,0)) (Hd.k_ BK452) k_ hk_.2.1)⟩)) (below_size Hd.b_));replace HO485:=ak (Kd.N_elder' (z3_ HO485) (Kd.S_base ho0) hb);replace HO488:=ak (Kd.N_elder' (z3_ HO488) (Kd.S_base ho0) hb);replace BK452:=z193_;replace HB:=z17_;(try clear hb);(try clear hk);(try clear hi);(try clear ho0)))
       go_ret2
       exact⟨_,Hd.e_,z51_ HO492,Hd.b_⟩
end Go.Proofs.Ytbbdhlggnglfgaa.MFnFeatures
