-- Laid by this session's program pp.py, after the kit's print and texts of the session's own. Not trusted: Lean checks it.
import Derived.Test.YtbbdhlggnglfgaaZFnFeaturesMx0
import Derived.Test.YtbbdhlggnglfgaaZFnFeaturesMx1
namespace Go.Proofs.Ytbbdhlggnglfgaa.MFnFeatures
open Go.RowKit Go.Proofs.YtbbdhlggnglfgaaW.PrintWords Go.Proofs.YtbbdhlggnglfgaaW.PrintLast Go.Proofs.YtbbdhlggnglfgaaW.PrintMore
attribute [local go_sem] max2_int min2_int max_two min_two max_three min_three max_four min_four
set_option linter.unusedVariables false
set_option maxHeartbeats 8000000
set_option maxRecDepth 100000
set_option linter.unusedSimpArgs false
attribute [local go_sem high] eqA75
def impl_FindFeature.l0:Nat→List S34→Int→Int→Option Int
  | 0,_,_,_=>none
  | k+1,x0,x1,x8=>if x8<(x0.length:Int) then (if 0≤x8 then (if (rd_T34 x0 x8).f0=x1 then some x8 else impl_FindFeature.l0 k x0 x1 (wrap64 (x8+1))) else none) else some (-1)
def impl_FindFeature.f (k:Nat) (l0:List S34) (a1:Int):Option Int:=impl_FindFeature.l0 k l0 a1 0
theorem impl_FindFeature.lit (x0 x1 x2:Int) (x3:ByteArray) (x4:Value) (id:Int) (g:Nat) (w:World) (h1:x4.oneCell'=true) (hc:w.cell? ⟨g,0,none⟩=some (.int .i64 id)) :
    Calls Try.prog 51 #[.agg #[.int .i64 x0,.int .i64 x1,.int .i64 x2,.string x3,x4],.pointer (some ⟨g,0,none⟩)] w fun e w'=>e = .returned (.bool (decide (x0=id)))∧Below w.heap.size w w':=by
  have hu34:=Try.underlying34
  have hc2:∀ o,(w.alloc o).cell? ⟨g,0,none⟩=some (.int .i64 id):=fun o=>(World.cell?_alloc_lt _ _ _ (bl_ _ _ hc)).trans hc
  go_enter Try.func51,Try.ntmps51
  go_wp2
  go_ret
  exact⟨by first|rfl|(simp;done)|(simp [beq_eq_decide];done),below_alloc (Below.refl _ _) _⟩
theorem impl_FindFeature.idx (k:Nat) (A:Option Addr) (c:Nat) (l0:List S34) (id r:Int) (g:Nat) (w:World) (hr0:Kd.C k34 w A l0.length l0) (hc:w.cell? ⟨g,0,none⟩=some (.int .i64 id)) (h:impl_FindFeature.l0 k l0 id 0=some r) :
    Calls Try.prog 50 #[.slice A l0.length c,.func (.func 51) #[] #[.pointer (some ⟨g,0,none⟩)]] w fun e w'=>e = .returned (.int .i64 r)∧Below w.heap.size w w':=by
  have hu34:=Try.underlying34
  have HR:=ak hr0
  have HC:=ak hc
  have HB:=z52_
  have H':=ak h
  clear h hr0 hc
  go_enter Try.func50,Try.ntmps50
  go_wp2
  go_loopg [8] k (fun kq v8 w'=>∃ (x8_1:Int),v8 = .int .i64 x8_1∧Aside0 (impl_FindFeature.l0 kq l0 id x8_1=some r)∧Aside0 (kq≤k)∧Aside0 (Below w.heap.size w w'))
  case atStart=>exact⟨0,rfl,H',⟨Nat.le_refl _⟩,HB⟩
  case round =>
    clear H' HB
    obtain⟨x8_1,rfl,HA,HK1,HB⟩:=hrel
    cases gk with
    | zero=>exact absurd HA.out (by simp [impl_FindFeature.l0])
    | succ k1 =>
      have H:=HA.out
      clear HA
      simp only[impl_FindFeature.l0] at H
      by_cases c3:x8_1<(l0.length:Int)
      · rw [if_pos c3] at H
        by_cases c4:0≤x8_1
        · rw [if_pos c4] at H
          obtain⟨ad,A4,c4_,e1,hx0,hx1,hx2,hx3,hx4,_,_⟩:=at_T34 HR.out x8_1 c4 c3
          subst e1
          replace hx0:=(HB.out.cell (bl_ w _ hx0)).trans hx0
          replace hx1:=(HB.out.cell (bl_ w _ hx1)).trans hx1
          replace hx2:=(HB.out.cell (bl_ w _ hx2)).trans hx2
          replace hx3:=(HB.out.cell (bl_ w _ hx3)).trans hx3
          replace hx4:=(HB.out.cell (bl_ w _ hx4)).trans hx4
          have hcw:=(HB.out.cell (bl_ w _ HC.out)).trans HC.out
          have b3:decide (x8_1<(l0.length:Int))=true:=decide_eq_true c3
          have b4:decide (0≤x8_1)=true:=decide_eq_true c4
          have b3':=eq_true c3
          have b4':=eq_true c4
          clear c3 c4
          by_cases c5:(rd_T34 l0 x8_1).f0=id
          · rw [if_pos c5] at H
            obtain rfl:=Option.some.inj H
            have HD:=ak (decide_eq_true c5)
            clear c5 H
            go_wp2_with (first|(go_at_call 51;(with_reducible refine(impl_FindFeature.lit _ _ _ _ _ id g _ rfl hcw).mono ?_);rintro e w2 ⟨rfl,hb⟩;rw [HD.out]))
            go_ret
            exact⟨rfl,below_step HB.out hb⟩
          · rw [if_neg c5] at H
            have HD:=ak (decide_eq_false c5)
            have H':=ak H
            clear c5 H
            go_wp2_with (first|(go_at_call 51;(with_reducible refine(impl_FindFeature.lit _ _ _ _ _ id g _ rfl hcw).mono ?_);rintro e w2 ⟨rfl,hb⟩;rw [HD.out]))
            go_roundg k1
            case measure=>have:=HK1.out;omega
            case rel=>exact⟨_,rfl,H',⟨z101_⟩,⟨below_step HB.out hb⟩⟩
        · rw [if_neg c4] at H;cases H
      · rw [if_neg c3] at H
        obtain rfl:=Option.some.inj H
        have b3:decide (x8_1<(l0.length:Int))=false:=decide_eq_false c3
        go_wp2
        go_ret
        exact⟨rfl,HB.out⟩
theorem impl_FindFeature.calls (k:Nat) (A0:Option Addr) (c0:Nat) (l0:List S34) (a1:Int) (r:Int) (w:World) (hr0:Kd.C k34 w A0 l0.length l0) (hc0:l0.length≤c0) (h:impl_FindFeature.f k l0 a1=some r) :
    Calls Try.prog 20 #[.slice A0 l0.length c0,.int .i64 a1] w fun e w'=>e = .returned (.int .i64 r)∧Below w.heap.size w w':=by
  have hmf:∀ (fn:Fn) (first cap:Array Value) (w:World),(Instr.makeFunc fn first cap).run Try.prog w = .ok (.func fn first cap) w:=fun _ _ _ _=>rfl
  have HR:=ak hr0
  have H':=ak (show impl_FindFeature.l0 k l0 a1 0=some r from h)
  clear h hr0 hc0
  go_enter Try.func20,Try.ntmps20
  go_wp2_with (first|(go_at_call 50;(with_reducible refine(impl_FindFeature.idx k A0 c0 l0 a1 r _ _ (Kd.C_below HR.out (below_alloc (Below.refl _ _) _)) ?hc H'.out).mono ?_);(case hc=>exact(blk_cell (blk_new w _) 0).trans rfl);rintro e w2 ⟨rfl,hb⟩))
  go_ret
  exact⟨rfl,below_step (below_alloc (Below.refl _ _) _) hb⟩
def impl_InRange.f (a0:Int) (a1:Int) (a2:Int):Option (Bool):=if a1≤a0 then (some (decide (a0≤a2))) else (some false)
theorem impl_InRange.calls (a0:Int) (a1:Int) (a2:Int) (r:Bool) (w:World) (h:impl_InRange.f a0 a1 a2=some r) :
  Calls Try.prog 71 #[.int .i64 a0,.int .i64 a1,.int .i64 a2] w fun e w'=>e = .returned (.bool r)∧Drawn0 w w':=by
 have H:=h;clear h;unfold impl_InRange.f at H
 by_cases c4:a1≤a0
 ·
  rw [if_pos c4] at H
  have c4b0:=decide_eq_true c4
  clear c4
  obtain rfl:=Option.some.inj H
  go_enter Try.func71,Try.ntmps71
  go_wp2
  go_ret
  exact⟨z14_,z36_⟩
 rw [if_neg c4] at H
 have c4b0:=z198_
 clear c4
 obtain rfl:=Option.some.inj H
 go_enter Try.func71,Try.ntmps71
 go_wp2
 go_ret
 exact⟨z14_,z36_⟩
def impl_IsName.l0:Nat→ByteArray→Int→Int→Option (Bool)
 | 0,_,_,_=>none
 | k+1,x0,x5,x6=>if x6<x5 then (if 0≤x6 then (if x6<(x0.size:Int) then (if (bt x0 x6)<97 then (some false) else (if (bt x0 x6)>122 then (some false) else (impl_IsName.l0 k x0 x5 (wrap64 (x6+1))))) else (none)) else (none)) else ((impl_InRange.f (x0.size:Int) 1 8).bind fun t101=>(some t101))
def impl_IsName.f (k:Nat) (a0:ByteArray):Option (Bool):=impl_IsName.l0 k a0 (a0.size:Int) 0
theorem impl_IsName.calls (k:Nat) (a0:ByteArray) (r:Bool) (w:World) (h:impl_IsName.f k a0=some r) :
  Calls Try.prog 72 #[.string a0] w fun e w'=>e = .returned (.bool r)∧Drawn0 w w':=by
 have H:=h;clear h;unfold impl_IsName.f at H
 have H':=ak H
 clear H
 go_enter Try.func72,Try.ntmps72
 go_wp2
 go_loopg [6] k (fun kq v6 w'=>∃ (x6_1:Int),v6 = .int .i64 x6_1∧Aside0 (impl_IsName.l0 kq a0 (a0.size:Int) x6_1=some r)∧Aside0 (kq≤k)∧Drawn0 w w')
 case atStart=>exact⟨(0),z14_,H',⟨Nat.le_refl _⟩,z36_⟩
 case round =>
  clear H'
  obtain⟨x6_1,rfl,HA,HK1,⟨m1,rfl⟩⟩:=hrel
  cases gk with
  | zero=>exact absurd HA.out (by simp [impl_IsName.l0])
  | succ k1 =>
   have H:=HA.out
   clear HA
   simp only[impl_IsName.l0] at H
   by_cases c2:x6_1<(a0.size:Int);rotate_left
   ·
    rw [if_neg c2] at H
    have c2b0:=decide_eq_false c2
    clear c2
    replace H:=Hd.bd_ H;obtain⟨t101,A9,H⟩:=H
    obtain rfl:=Option.some.inj H
    go_wp2_with (first|((with_reducible refine gate_callee (f:=71) rfl ?_);refine Hd.gl_ 22 Try.func71 #[.int .i64 (a0.size:Int),.int .i64 1,.int .i64 8] ?_;(with_reducible refine(impl_InRange.calls (a0.size:Int) 1 8 t101 _ A9.out).mono ?_);rintro e w' ⟨rfl,⟨nd,rfl⟩⟩;refine⟨_,rfl,?_⟩))
    go_ret
    exact⟨z14_,z36_⟩
   rw [if_pos c2] at H
   have c2b0:=decide_eq_true c2
   clear c2
   by_cases c3:0≤x6_1;rotate_left
   ·
    rw [if_neg c3] at H
    exact absurd H (by simp)
   rw [if_pos c3] at H
   have c3b0:=decide_eq_true c3
   clear c3
   by_cases c4:x6_1<(a0.size:Int);rotate_left
   ·
    rw [if_neg c4] at H
    exact absurd H (by simp)
   rw [if_pos c4] at H
   have c4b0:=decide_eq_true c4
   clear c4
   by_cases c6:(bt a0 x6_1)<97
   ·
    rw [if_pos c6] at H
    have c6b0:=decide_eq_true c6
    clear c6
    obtain rfl:=Option.some.inj H
    have p5:0≤(x6_1:Int):=od_
    have q5:x6_1<(a0.size:Int):=od_
    have hx5:=bt_at a0 x6_1
    replace p5:=eq_true p5
    replace q5:=eq_true q5
    go_wp2
    go_ret
    exact⟨z14_,z36_⟩
   rw [if_neg c6] at H
   have c6b0:=decide_eq_false c6
   clear c6
   by_cases c8:(bt a0 x6_1)>122
   ·
    rw [if_pos c8] at H
    have c8b0:decide (122<(bt a0 x6_1))=true:=decide_eq_true c8
    clear c8
    obtain rfl:=Option.some.inj H
    have p5:0≤(x6_1:Int):=od_
    have q5:x6_1<(a0.size:Int):=od_
    have hx5:=bt_at a0 x6_1
    replace p5:=eq_true p5
    replace q5:=eq_true q5
    have p7:0≤(x6_1:Int):=od_
    have q7:x6_1<(a0.size:Int):=od_
    have hx7:=bt_at a0 x6_1
    replace p7:=eq_true p7
    replace q7:=eq_true q7
    go_wp2
    go_ret
    exact⟨z14_,z36_⟩
   rw [if_neg c8] at H
   have c8b0:decide (122<(bt a0 x6_1))=false:=decide_eq_false c8
   clear c8
   have H':=ak H
   clear H
   have p5:0≤(x6_1:Int):=od_
   have q5:x6_1<(a0.size:Int):=od_
   have hx5:=bt_at a0 x6_1
   replace p5:=eq_true p5
   replace q5:=eq_true q5
   have p7:0≤(x6_1:Int):=od_
   have q7:x6_1<(a0.size:Int):=od_
   have hx7:=bt_at a0 x6_1
   replace p7:=eq_true p7
   replace q7:=eq_true q7
   go_wp2
   go_roundg k1
   case measure=>have:=HK1.out;omega
   case rel=>exact⟨(wrap64 (x6_1+1)),z14_,H',⟨z101_⟩,z36_⟩
def impl_IsPoint.f (a0_0:Int) (a0_1:Int):Option (Bool):=(impl_InRange.f a0_0 0 200).bind fun t103=>(if t103=true then ((impl_InRange.f a0_1 0 200).bind fun t104=>(some t104)) else (some false))
theorem impl_IsPoint.calls (a0_0:Int) (a0_1:Int) (r:Bool) (w:World) (h:impl_IsPoint.f a0_0 a0_1=some r) :
  Calls Try.prog 73 #[.agg #[.int .i64 a0_0,.int .i64 a0_1]] w fun e w'=>e = .returned (.bool r)∧Below w.heap.size w w':=by
 have hu75:=Try.underlying75
 have HB:=z52_
 have H:=h;clear h;unfold impl_IsPoint.f at H
 replace H:=Hd.bd_ H;obtain⟨t103,A2,H⟩:=H
 by_cases c3:t103=true
 ·
  subst c3
  rw [if_pos rfl] at H
  replace H:=Hd.bd_ H;obtain⟨t104,A4,H⟩:=H
  obtain rfl:=Option.some.inj H
  go_enter Try.func73,Try.ntmps73
  go_wp2_with (first|((with_reducible refine gate_dst (N:=1) rfl ?_);refine Hd.box_ 1 (#[.int .i64 a0_0,.int .i64 a0_1]) 75 ?_;intro gb102 hg w5 hbox hb;have BK102:=ak (hbox);have GW102:=z199_;have GE102:=z199_;replace HB:=z17_;clear hb hbox hg;obtain⟨hcz6_0,hcz6_1⟩:=Hd.c2_ BK102.out;obtain⟨hfz6_0,hfz6_1⟩:=Hd.f2_ BK102.out)|((with_reducible refine gate_callee (f:=71) rfl ?_);refine Hd.gl_ 5 Try.func71 #[.int .i64 a0_0,.int .i64 0,.int .i64 200] ?_;(with_reducible refine(impl_InRange.calls a0_0 0 200 true _ A2.out).mono ?_);rintro e w' ⟨rfl,⟨nd,rfl⟩⟩;refine⟨_,rfl,?_⟩)|(go_at_call 71;(with_reducible refine(impl_InRange.calls a0_1 0 200 t104 _ A4.out).mono ?_);rintro e w' ⟨rfl,⟨nd,rfl⟩⟩))
  go_ret
  exact⟨Hd.e_,Hd.b_⟩
 replace c3:=z163_
 subst c3
 rw [if_neg (show ¬ (false=true) by decide)] at H
 obtain rfl:=Option.some.inj H
 go_enter Try.func73,Try.ntmps73
 go_wp2_with (first|((with_reducible refine gate_dst (N:=1) rfl ?_);refine Hd.box_ 1 (#[.int .i64 a0_0,.int .i64 a0_1]) 75 ?_;intro gb102 hg w7 hbox hb;have BK102:=ak (hbox);have GW102:=z199_;have GE102:=z199_;replace HB:=z17_;clear hb hbox hg;obtain⟨hcz8_0,hcz8_1⟩:=Hd.c2_ BK102.out;obtain⟨hfz8_0,hfz8_1⟩:=Hd.f2_ BK102.out)|((with_reducible refine gate_callee (f:=71) rfl ?_);refine Hd.gl_ 5 Try.func71 #[.int .i64 a0_0,.int .i64 0,.int .i64 200] ?_;(with_reducible refine(impl_InRange.calls a0_0 0 200 false _ A2.out).mono ?_);rintro e w' ⟨rfl,⟨nd,rfl⟩⟩;refine⟨_,rfl,?_⟩))
 go_ret
 exact⟨Hd.e_,Hd.b_⟩
def impl_IsSegment.f (a0_0:Int) (a0_1:Int) (a0_2:Int) (a0_3:Int):Option (Bool):=(impl_IsPoint.f a0_0 a0_1).bind fun t106=>(if t106=true then ((impl_IsPoint.f a0_2 a0_3).bind fun t107=>(if t107=true then (some (!(a0_0==a0_2)||(!(a0_1==a0_3)))) else (some false))) else (some false))
theorem impl_IsSegment.calls (a0_0:Int) (a0_1:Int) (a0_2:Int) (a0_3:Int) (r:Bool) (w:World) (h:impl_IsSegment.f a0_0 a0_1 a0_2 a0_3=some r) :
  Calls Try.prog 90 #[.agg #[.int .i64 a0_0,.int .i64 a0_1,.int .i64 a0_2,.int .i64 a0_3]] w fun e w'=>e = .returned (.bool r)∧Below w.heap.size w w':=by
 have hu101:=Try.underlying101
 have hu75:=Try.underlying75
 have HB:=z52_
 have H:=h;clear h;unfold impl_IsSegment.f at H
 replace H:=Hd.bd_ H;obtain⟨t106,A2,H⟩:=H
 by_cases c3:t106=true;rotate_left
 ·
  replace c3:=z163_
  subst c3
  rw [if_neg (show ¬ (false=true) by decide)] at H
  obtain rfl:=Option.some.inj H
  go_enter Try.func90,Try.ntmps90
  go_wp2_with (first|((with_reducible refine gate_dst (N:=1) rfl ?_);refine Hd.box_ 1 (#[.int .i64 a0_0,.int .i64 a0_1,.int .i64 a0_2,.int .i64 a0_3]) 101 ?_;intro gb105 hg w17 hbox hb;have BK105:=ak (hbox);have GW105:=z146_;have GE105:=z146_;replace HB:=z17_;clear hb hbox hg;obtain⟨hcz18_0,hcz18_1,hcz18_2,hcz18_3⟩:=Hd.c4_ BK105.out;obtain⟨hfz18_0,hfz18_1,hfz18_2,hfz18_3⟩:=Hd.f4_ BK105.out)|((with_reducible refine gate_callee (f:=73) rfl ?_);refine Hd.gl_ 5 Try.func73 #[.agg #[.int .i64 a0_0,.int .i64 a0_1]] ?_;(with_reducible refine(impl_IsPoint.calls a0_0 a0_1 false _ A2.out).mono ?_);rintro e w19 ⟨rfl,hb⟩;refine⟨_,rfl,?_⟩;replace BK105:=ak (Hd.kb_ BK105 hb);replace HB:=z17_;(try clear hb)))
  go_ret
  exact⟨Hd.e_,Hd.b_⟩
 subst c3
 rw [if_pos rfl] at H
 replace H:=Hd.bd_ H;obtain⟨t107,A4,H⟩:=H
 by_cases c5:t107=true
 ·
  subst c5
  rw [if_pos rfl] at H
  obtain rfl:=Option.some.inj H
  go_enter Try.func90,Try.ntmps90
  go_wp2_with (first|((with_reducible refine gate_dst (N:=1) rfl ?_);refine Hd.box_ 1 (#[.int .i64 a0_0,.int .i64 a0_1,.int .i64 a0_2,.int .i64 a0_3]) 101 ?_;intro gb105 hg w6 hbox hb;have BK105:=ak (hbox);have GW105:=z146_;have GE105:=z146_;replace HB:=z17_;clear hb hbox hg;obtain⟨hcz7_0,hcz7_1,hcz7_2,hcz7_3⟩:=Hd.c4_ BK105.out;obtain⟨hfz7_0,hfz7_1,hfz7_2,hfz7_3⟩:=Hd.f4_ BK105.out)|((with_reducible refine gate_callee (f:=73) rfl ?_);refine Hd.gl_ 5 Try.func73 #[.agg #[.int .i64 a0_0,.int .i64 a0_1]] ?_;(with_reducible refine(impl_IsPoint.calls a0_0 a0_1 true _ A2.out).mono ?_);rintro e w8 ⟨rfl,hb⟩;refine⟨_,rfl,?_⟩;replace BK105:=ak (Hd.kb_ BK105 hb);replace HB:=z17_;(try clear hb);obtain⟨hcz9_0,hcz9_1,hcz9_2,hcz9_3⟩:=Hd.c4_ BK105.out;obtain⟨hfz9_0,hfz9_1,hfz9_2,hfz9_3⟩:=Hd.f4_ BK105.out)|(go_at_call 73;(with_reducible refine(impl_IsPoint.calls a0_2 a0_3 true _ A4.out).mono ?_);rintro e w10 ⟨rfl,hb⟩;replace BK105:=ak (Hd.kb_ BK105 hb);replace HB:=z17_;(try clear hb);(try clear hk);(try clear hi);obtain⟨hcz11_0,hcz11_1,hcz11_2,hcz11_3⟩:=Hd.c4_ BK105.out;obtain⟨hfz11_0,hfz11_1,hfz11_2,hfz11_3⟩:=Hd.f4_ BK105.out))
  go_ret
  exact⟨Hd.e_,Hd.b_⟩
 replace c5:=z171_
 subst c5
 rw [if_neg (show ¬ (false=true) by decide)] at H
 obtain rfl:=Option.some.inj H
 go_enter Try.func90,Try.ntmps90
 go_wp2_with (first|((with_reducible refine gate_dst (N:=1) rfl ?_);refine Hd.box_ 1 (#[.int .i64 a0_0,.int .i64 a0_1,.int .i64 a0_2,.int .i64 a0_3]) 101 ?_;intro gb105 hg w12 hbox hb;have BK105:=ak (hbox);have GW105:=z146_;have GE105:=z146_;replace HB:=z17_;clear hb hbox hg;obtain⟨hcz13_0,hcz13_1,hcz13_2,hcz13_3⟩:=Hd.c4_ BK105.out;obtain⟨hfz13_0,hfz13_1,hfz13_2,hfz13_3⟩:=Hd.f4_ BK105.out)|((with_reducible refine gate_callee (f:=73) rfl ?_);refine Hd.gl_ 5 Try.func73 #[.agg #[.int .i64 a0_0,.int .i64 a0_1]] ?_;(with_reducible refine(impl_IsPoint.calls a0_0 a0_1 true _ A2.out).mono ?_);rintro e w14 ⟨rfl,hb⟩;refine⟨_,rfl,?_⟩;replace BK105:=ak (Hd.kb_ BK105 hb);replace HB:=z17_;(try clear hb);obtain⟨hcz15_0,hcz15_1,hcz15_2,hcz15_3⟩:=Hd.c4_ BK105.out;obtain⟨hfz15_0,hfz15_1,hfz15_2,hfz15_3⟩:=Hd.f4_ BK105.out)|(go_at_call 73;(with_reducible refine(impl_IsPoint.calls a0_2 a0_3 false _ A4.out).mono ?_);rintro e w16 ⟨rfl,hb⟩;replace BK105:=ak (Hd.kb_ BK105 hb);replace HB:=z17_;(try clear hb);(try clear hk);(try clear hi)))
 go_ret
 exact⟨Hd.e_,Hd.b_⟩
def cmp_isNaN_int.f (a0:Int):Option (Bool):=some (a0 != a0)
theorem cmp_isNaN_int.calls (a0:Int) (r:Bool) (w:World) (h:cmp_isNaN_int.f a0=some r) :
  Calls Try.prog 113 #[.int .i64 a0] w fun e w'=>e = .returned (.bool r)∧Drawn0 w w':=by
 have H:(some (a0 != a0))=some r:=h
 clear h
 obtain rfl:=Option.some.inj H
 go_enter Try.func113,Try.ntmps113
 go_wp2
 go_ret
 exact⟨z14_,z36_⟩
def cmp_Compare_int.f (a0:Int) (a1:Int):Option (Int):=(cmp_isNaN_int.f a0).bind fun t108=>((cmp_isNaN_int.f a1).bind fun t109=>(if t108=true then (if t109=true then (some 0) else (some (-1))) else (if t109=true then (some 1) else (if a0<a1 then (some (-1)) else (if a0>a1 then (some 1) else (some 0))))))
theorem cmp_Compare_int.calls (a0:Int) (a1:Int) (r:Int) (w:World) (h:cmp_Compare_int.f a0 a1=some r) :
  Calls Try.prog 106 #[.int .i64 a0,.int .i64 a1] w fun e w'=>e = .returned (.int .i64 r)∧Drawn0 w w':=by
 have H:=h;clear h;unfold cmp_Compare_int.f at H
 replace H:=Hd.bd_ H;obtain⟨t108,A3,H⟩:=H
 replace H:=Hd.bd_ H;obtain⟨t109,A4,H⟩:=H
 by_cases c5:t108=true
 ·
  subst c5
  rw [if_pos rfl] at H
  by_cases c6:t109=true
  ·
   subst c6
   rw [if_pos rfl] at H
   obtain rfl:=Option.some.inj H
   go_enter Try.func106,Try.ntmps106
   go_wp2_with (first|((with_reducible refine gate_callee (f:=113) rfl ?_);refine Hd.gl_ 8 Try.func113 #[.int .i64 a0] ?_;(with_reducible refine(cmp_isNaN_int.calls a0 true _ A3.out).mono ?_);rintro e w' ⟨rfl,⟨nd,rfl⟩⟩;refine⟨_,rfl,?_⟩)|((with_reducible refine gate_callee (f:=113) rfl ?_);refine Hd.gl_ 10 Try.func113 #[.int .i64 a1] ?_;(with_reducible refine(cmp_isNaN_int.calls a1 true _ A4.out).mono ?_);rintro e w' ⟨rfl,⟨nd,rfl⟩⟩;refine⟨_,rfl,?_⟩))
   go_ret
   exact⟨z14_,z36_⟩
  replace c6:=Bool.eq_false_iff.mpr c6
  subst c6
  rw [if_neg (show ¬ (false=true) by decide)] at H
  obtain rfl:=Option.some.inj H
  go_enter Try.func106,Try.ntmps106
  go_wp2_with (first|((with_reducible refine gate_callee (f:=113) rfl ?_);refine Hd.gl_ 8 Try.func113 #[.int .i64 a0] ?_;(with_reducible refine(cmp_isNaN_int.calls a0 true _ A3.out).mono ?_);rintro e w' ⟨rfl,⟨nd,rfl⟩⟩;refine⟨_,rfl,?_⟩)|((with_reducible refine gate_callee (f:=113) rfl ?_);refine Hd.gl_ 10 Try.func113 #[.int .i64 a1] ?_;(with_reducible refine(cmp_isNaN_int.calls a1 false _ A4.out).mono ?_);rintro e w' ⟨rfl,⟨nd,rfl⟩⟩;refine⟨_,rfl,?_⟩))
  go_ret
  exact⟨z14_,z36_⟩
 replace c5:=z171_
 subst c5
 rw [if_neg (show ¬ (false=true) by decide)] at H
 by_cases c7:t109=true
 ·
  subst c7
  rw [if_pos rfl] at H
  obtain rfl:=Option.some.inj H
  go_enter Try.func106,Try.ntmps106
  go_wp2_with (first|((with_reducible refine gate_callee (f:=113) rfl ?_);refine Hd.gl_ 8 Try.func113 #[.int .i64 a0] ?_;(with_reducible refine(cmp_isNaN_int.calls a0 false _ A3.out).mono ?_);rintro e w' ⟨rfl,⟨nd,rfl⟩⟩;refine⟨_,rfl,?_⟩)|((with_reducible refine gate_callee (f:=113) rfl ?_);refine Hd.gl_ 10 Try.func113 #[.int .i64 a1] ?_;(with_reducible refine(cmp_isNaN_int.calls a1 true _ A4.out).mono ?_);rintro e w' ⟨rfl,⟨nd,rfl⟩⟩;refine⟨_,rfl,?_⟩))
  go_ret
  exact⟨z14_,z36_⟩
 replace c7:=Bool.eq_false_iff.mpr c7
 subst c7
 rw [if_neg (show ¬ (false=true) by decide)] at H
 by_cases c8:a0<a1
 ·
  rw [if_pos c8] at H
  have c8b0:=decide_eq_true c8
  clear c8
  obtain rfl:=Option.some.inj H
  go_enter Try.func106,Try.ntmps106
  go_wp2_with (first|((with_reducible refine gate_callee (f:=113) rfl ?_);refine Hd.gl_ 8 Try.func113 #[.int .i64 a0] ?_;(with_reducible refine(cmp_isNaN_int.calls a0 false _ A3.out).mono ?_);rintro e w' ⟨rfl,⟨nd,rfl⟩⟩;refine⟨_,rfl,?_⟩)|((with_reducible refine gate_callee (f:=113) rfl ?_);refine Hd.gl_ 10 Try.func113 #[.int .i64 a1] ?_;(with_reducible refine(cmp_isNaN_int.calls a1 false _ A4.out).mono ?_);rintro e w' ⟨rfl,⟨nd,rfl⟩⟩;refine⟨_,rfl,?_⟩))
  go_ret
  exact⟨z14_,z36_⟩
 rw [if_neg c8] at H
 have c8b0:=decide_eq_false c8
 clear c8
 by_cases c9:a0>a1
 ·
  rw [if_pos c9] at H
  have c9b0:decide (a1<a0)=true:=decide_eq_true c9
  clear c9
  obtain rfl:=Option.some.inj H
  go_enter Try.func106,Try.ntmps106
  go_wp2_with (first|((with_reducible refine gate_callee (f:=113) rfl ?_);refine Hd.gl_ 8 Try.func113 #[.int .i64 a0] ?_;(with_reducible refine(cmp_isNaN_int.calls a0 false _ A3.out).mono ?_);rintro e w' ⟨rfl,⟨nd,rfl⟩⟩;refine⟨_,rfl,?_⟩)|((with_reducible refine gate_callee (f:=113) rfl ?_);refine Hd.gl_ 10 Try.func113 #[.int .i64 a1] ?_;(with_reducible refine(cmp_isNaN_int.calls a1 false _ A4.out).mono ?_);rintro e w' ⟨rfl,⟨nd,rfl⟩⟩;refine⟨_,rfl,?_⟩))
  go_ret
  exact⟨z14_,z36_⟩
 rw [if_neg c9] at H
 have c9b0:decide (a1<a0)=false:=decide_eq_false c9
 clear c9
 obtain rfl:=Option.some.inj H
 go_enter Try.func106,Try.ntmps106
 go_wp2_with (first|((with_reducible refine gate_callee (f:=113) rfl ?_);refine Hd.gl_ 8 Try.func113 #[.int .i64 a0] ?_;(with_reducible refine(cmp_isNaN_int.calls a0 false _ A3.out).mono ?_);rintro e w' ⟨rfl,⟨nd,rfl⟩⟩;refine⟨_,rfl,?_⟩)|((with_reducible refine gate_callee (f:=113) rfl ?_);refine Hd.gl_ 10 Try.func113 #[.int .i64 a1] ?_;(with_reducible refine(cmp_isNaN_int.calls a1 false _ A4.out).mono ?_);rintro e w' ⟨rfl,⟨nd,rfl⟩⟩;refine⟨_,rfl,?_⟩))
 go_ret
 exact⟨z14_,z36_⟩
def impl_cross.f (a0_0:Int) (a0_1:Int) (a1_0:Int) (a1_1:Int) (a2_0:Int) (a2_1:Int):Option (Int):=some (wrap64 ((wrap64 ((wrap64 (a1_0-a0_0))*(wrap64 (a2_1-a0_1))))-(wrap64 ((wrap64 (a1_1-a0_1))*(wrap64 (a2_0-a0_0))))))
theorem impl_cross.calls (a0_0:Int) (a0_1:Int) (a1_0:Int) (a1_1:Int) (a2_0:Int) (a2_1:Int) (r:Int) (w:World) (h:impl_cross.f a0_0 a0_1 a1_0 a1_1 a2_0 a2_1=some r) :
  Calls Try.prog 107 #[.agg #[.int .i64 a0_0,.int .i64 a0_1],.agg #[.int .i64 a1_0,.int .i64 a1_1],.agg #[.int .i64 a2_0,.int .i64 a2_1]] w fun e w'=>e = .returned (.int .i64 r)∧Below w.heap.size w w':=by
 have hu75:=Try.underlying75
 have HB:=z52_
 have H:(some (wrap64 ((wrap64 ((wrap64 (a1_0-a0_0))*(wrap64 (a2_1-a0_1))))-(wrap64 ((wrap64 (a1_1-a0_1))*(wrap64 (a2_0-a0_0)))))))=some r:=h
 clear h
 obtain rfl:=Option.some.inj H
 go_enter Try.func107,Try.ntmps107
 go_wp2_with (first|((with_reducible refine gate_dst (N:=3) rfl ?_);refine Hd.box_ 3 (#[.int .i64 a0_0,.int .i64 a0_1]) 75 ?_;intro gb110 hg w4 hbox hb;have BK110:=ak (hbox);have GW110:=ak ((Hd.g_ hg Hd.b_:w.heap.size≤gb110));have GE110:=ak ((Hd.g_ hg Hd.b_:w.heap.size≤gb110));replace HB:=z17_;clear hb hbox hg)|((with_reducible refine gate_dst (N:=4) rfl ?_);refine Hd.box_ 4 (#[.int .i64 a1_0,.int .i64 a1_1]) 75 ?_;intro gb111 hg w5 hbox hb;have BK111:=ak (hbox);have GW111:=ak ((Hd.g_ hg Hd.b_:w.heap.size≤gb111));have GE111:=ak ((Hd.g_ hg Hd.b_:w.heap.size≤gb111));replace HB:=z17_;have NB110_111:=ak ((Hd.lt_ BK110 hg));have NB111_110:=ak ((Hd.gt_ BK110 hg));replace BK110:=ak (Hd.kb_ BK110 hb);clear hb hbox hg)|((with_reducible refine gate_dst (N:=5) rfl ?_);refine Hd.box_ 5 (#[.int .i64 a2_0,.int .i64 a2_1]) 75 ?_;intro gb112 hg w6 hbox hb;have BK112:=ak (hbox);have GW112:=ak ((Hd.g_ hg Hd.b_:w.heap.size≤gb112));have GE112:=ak ((Hd.g_ hg Hd.b_:w.heap.size≤gb112));replace HB:=z17_;have NB110_112:=ak ((Hd.lt_ BK110 hg));have NB112_110:=ak ((Hd.gt_ BK110 hg));replace BK110:=ak (Hd.kb_ BK110 hb);have NB111_112:=ak ((Hd.lt_ BK111 hg));have NB112_111:=ak ((Hd.gt_ BK111 hg));replace BK111:=ak (Hd.kb_ BK111 hb);clear hb hbox hg;have hnb7:=NB111_110.out;have hnc7:=NB110_111.out;have hnb8:=NB111_112.out;have hnc8:=NB112_111.out;obtain⟨hcz9_0,hcz9_1⟩:=Hd.c2_ BK111.out;obtain⟨hfz9_0,hfz9_1⟩:=Hd.f2_ BK111.out;have hnb10:=NB110_112.out;have hnc10:=NB112_110.out;obtain⟨hcz11_0,hcz11_1⟩:=Hd.c2_ BK110.out;obtain⟨hfz11_0,hfz11_1⟩:=Hd.f2_ BK110.out;obtain⟨hcz12_0,hcz12_1⟩:=Hd.c2_ BK112.out;obtain⟨hfz12_0,hfz12_1⟩:=Hd.f2_ BK112.out))
 go_ret
 exact⟨Hd.e_,Hd.b_⟩
def impl_SideOf.j0:Nat→Bool→Int→Int→Int→Int→Int→Int→Option (Int)
 | 0,_,_,_,_,_,_,_=>none
 | k+1,x19,x114000,x114001,x115000,x115001,x116000,x116001=>if x19=true then (some 0) else ((impl_cross.f x114000 x114001 x115000 x115001 x116000 x116001).bind fun t119=>((cmp_Compare_int.f t119 0).bind fun t120=>(some t120)))
def impl_SideOf.f (k:Nat) (a0_0:Int) (a0_1:Int) (a1_0:Int) (a1_1:Int) (a2_0:Int) (a2_1:Int):Option (Int):=(impl_IsPoint.f a0_0 a0_1).bind fun t116=>(if t116=true then ((impl_IsPoint.f a1_0 a1_1).bind fun t117=>(if t117=true then ((impl_IsPoint.f a2_0 a2_1).bind fun t118=>(impl_SideOf.j0 k (!t118) a0_0 a0_1 a1_0 a1_1 a2_0 a2_1)) else (impl_SideOf.j0 k true a0_0 a0_1 a1_0 a1_1 a2_0 a2_1))) else (impl_SideOf.j0 k true a0_0 a0_1 a1_0 a1_1 a2_0 a2_1))
theorem impl_SideOf.calls (k:Nat) (a0_0:Int) (a0_1:Int) (a1_0:Int) (a1_1:Int) (a2_0:Int) (a2_1:Int) (r:Int) (w:World) (h:impl_SideOf.f k a0_0 a0_1 a1_0 a1_1 a2_0 a2_1=some r) :
  Calls Try.prog 91 #[.agg #[.int .i64 a0_0,.int .i64 a0_1],.agg #[.int .i64 a1_0,.int .i64 a1_1],.agg #[.int .i64 a2_0,.int .i64 a2_1]] w fun e w'=>e = .returned (.int .i64 r)∧Below w.heap.size w w':=by
 have hu75:=Try.underlying75
 have HB:=z52_
 have H:=h;clear h;unfold impl_SideOf.f at H
 have HC4:=ak H
 clear H
 go_enter Try.func91,Try.ntmps91
 go_upto_region 1 with (first|((with_reducible refine gate_dst (N:=3) rfl ?_);refine Hd.box_ 3 (#[.int .i64 a0_0,.int .i64 a0_1]) 75 ?_;intro gb113 hg w5 hbox hb;have BK113:=ak (hbox);have GW113:=ak ((Hd.g_ hg Hd.b_:w.heap.size≤gb113));have GE113:=ak ((Hd.g_ hg Hd.b_:w.heap.size≤gb113));replace HB:=z17_;clear hb hbox hg)|((with_reducible refine gate_dst (N:=4) rfl ?_);refine Hd.box_ 4 (#[.int .i64 a1_0,.int .i64 a1_1]) 75 ?_;intro gb114 hg w6 hbox hb;have BK114:=ak (hbox);have GW114:=ak ((Hd.g_ hg Hd.b_:w.heap.size≤gb114));have GE114:=ak ((Hd.g_ hg Hd.b_:w.heap.size≤gb114));replace HB:=z17_;have NB113_114:=ak ((Hd.lt_ BK113 hg));have NB114_113:=ak ((Hd.gt_ BK113 hg));replace BK113:=z174_;clear hb hbox hg)|((with_reducible refine gate_dst (N:=5) rfl ?_);refine Hd.box_ 5 (#[.int .i64 a2_0,.int .i64 a2_1]) 75 ?_;intro gb115 hg w7 hbox hb;have BK115:=ak (hbox);have GW115:=ak ((Hd.g_ hg Hd.b_:w.heap.size≤gb115));have GE115:=ak ((Hd.g_ hg Hd.b_:w.heap.size≤gb115));replace HB:=z17_;have NB113_115:=ak ((Hd.lt_ BK113 hg));have NB115_113:=ak ((Hd.gt_ BK113 hg));replace BK113:=z174_;have NB114_115:=ak ((Hd.lt_ BK114 hg));have NB115_114:=ak ((Hd.gt_ BK114 hg));replace BK114:=z208_;clear hb hbox hg))
 (try simp only[Act.put,List.setIfInBounds_toArray,List.set_cons_zero,List.set_cons_succ])
 go_cut [19] (fun v19 wc=>∃ (kq:Nat) (x19_3:Bool),v19 = .bool x19_3∧Aside0 (impl_SideOf.j0 kq x19_3 a0_0 a0_1 a1_0 a1_1 a2_0 a2_1=some r)∧Aside0 (kq≤k)∧Aside0 (wc.heap[gb113]?=some (.cells #[.int .i64 a0_0,.int .i64 a0_1] 75 (0,0)))∧Aside0 (wc.heap[gb114]?=some (.cells #[.int .i64 a1_0,.int .i64 a1_1] 75 (0,0)))∧Aside0 (wc.heap[gb115]?=some (.cells #[.int .i64 a2_0,.int .i64 a2_1] 75 (0,0)))∧Aside0 (Below w.heap.size w wc))
 case first =>
  have H:=HC4.out
  clear HC4
  replace H:=Hd.bd_ H;obtain⟨t116,A8,H⟩:=H
  by_cases c9:t116=true;rotate_left
  ·
   replace c9:=Bool.eq_false_iff.mpr c9
   subst c9
   rw [if_neg (show ¬ (false=true) by decide)] at H
   have H':=ak H
   clear H
   have hnb29:=NB113_114.out
   have hnc29:=NB114_113.out
   have hnb30:=NB113_115.out
   have hnc30:=NB115_113.out
   obtain⟨hcz31_0,hcz31_1⟩:=Hd.c2_ BK113.out
   obtain⟨hfz31_0,hfz31_1⟩:=Hd.f2_ BK113.out
   go_wp2_with (first|((with_reducible refine gate_callee (f:=73) rfl ?_);refine Hd.gl_ 8 Try.func73 #[.agg #[.int .i64 a0_0,.int .i64 a0_1]] ?_;(with_reducible refine(impl_IsPoint.calls a0_0 a0_1 false _ A8.out).mono ?_);rintro e w32 ⟨rfl,hb⟩;refine⟨_,rfl,?_⟩;replace BK113:=z174_;replace BK114:=z208_;replace BK115:=ak (Hd.kb_ BK115 hb);replace HB:=z17_;(try clear hb)))
   go_meet
   case rel=>exact⟨_,(true),z14_,H',⟨z73_⟩,⟨z6_ BK113⟩,⟨z6_ BK114⟩,⟨z6_ BK115⟩,⟨Hd.b_⟩⟩
  subst c9
  rw [if_pos rfl] at H
  replace H:=Hd.bd_ H;obtain⟨t117,A10,H⟩:=H
  by_cases c11:t117=true
  ·
   subst c11
   rw [if_pos rfl] at H
   replace H:=Hd.bd_ H;obtain⟨t118,A12,H⟩:=H
   have H':=ak H
   clear H
   have hnb13:=NB113_114.out
   have hnc13:=NB114_113.out
   have hnb14:=NB113_115.out
   have hnc14:=NB115_113.out
   obtain⟨hcz15_0,hcz15_1⟩:=Hd.c2_ BK113.out
   obtain⟨hfz15_0,hfz15_1⟩:=Hd.f2_ BK113.out
   go_wp2_with (first|((with_reducible refine gate_callee (f:=73) rfl ?_);refine Hd.gl_ 8 Try.func73 #[.agg #[.int .i64 a0_0,.int .i64 a0_1]] ?_;(with_reducible refine(impl_IsPoint.calls a0_0 a0_1 true _ A8.out).mono ?_);rintro e w16 ⟨rfl,hb⟩;refine⟨_,rfl,?_⟩;replace BK113:=z174_;replace BK114:=z208_;replace BK115:=ak (Hd.kb_ BK115 hb);replace HB:=z17_;(try clear hb);have hnb17:=NB114_115.out;have hnc17:=NB115_114.out;obtain⟨hcz18_0,hcz18_1⟩:=Hd.c2_ BK114.out;obtain⟨hfz18_0,hfz18_1⟩:=Hd.f2_ BK114.out)|(go_at_call 73;(with_reducible refine(impl_IsPoint.calls a1_0 a1_1 true _ A10.out).mono ?_);rintro e w19 ⟨rfl,hb⟩;replace BK113:=z174_;replace BK114:=z208_;replace BK115:=ak (Hd.kb_ BK115 hb);replace HB:=z17_;(try clear hb);(try clear hk);(try clear hi);obtain⟨hcz20_0,hcz20_1⟩:=Hd.c2_ BK115.out;obtain⟨hfz20_0,hfz20_1⟩:=Hd.f2_ BK115.out)|(go_at_call 73;(with_reducible refine(impl_IsPoint.calls a2_0 a2_1 t118 _ A12.out).mono ?_);rintro e w21 ⟨rfl,hb⟩;replace BK113:=z174_;replace BK114:=z208_;replace BK115:=ak (Hd.kb_ BK115 hb);replace HB:=z17_;clear hb))
   go_meet
   case rel=>exact⟨_,(!t118),z14_,H',⟨z73_⟩,⟨z6_ BK113⟩,⟨z6_ BK114⟩,⟨z6_ BK115⟩,⟨Hd.b_⟩⟩
  replace c11:=Bool.eq_false_iff.mpr c11
  subst c11
  rw [if_neg (show ¬ (false=true) by decide)] at H
  have H':=ak H
  clear H
  have hnb22:=NB113_114.out
  have hnc22:=NB114_113.out
  have hnb23:=NB113_115.out
  have hnc23:=NB115_113.out
  obtain⟨hcz24_0,hcz24_1⟩:=Hd.c2_ BK113.out
  obtain⟨hfz24_0,hfz24_1⟩:=Hd.f2_ BK113.out
  go_wp2_with (first|((with_reducible refine gate_callee (f:=73) rfl ?_);refine Hd.gl_ 8 Try.func73 #[.agg #[.int .i64 a0_0,.int .i64 a0_1]] ?_;(with_reducible refine(impl_IsPoint.calls a0_0 a0_1 true _ A8.out).mono ?_);rintro e w25 ⟨rfl,hb⟩;refine⟨_,rfl,?_⟩;replace BK113:=z174_;replace BK114:=z208_;replace BK115:=ak (Hd.kb_ BK115 hb);replace HB:=z17_;(try clear hb);have hnb26:=NB114_115.out;have hnc26:=NB115_114.out;obtain⟨hcz27_0,hcz27_1⟩:=Hd.c2_ BK114.out;obtain⟨hfz27_0,hfz27_1⟩:=Hd.f2_ BK114.out)|(go_at_call 73;(with_reducible refine(impl_IsPoint.calls a1_0 a1_1 false _ A10.out).mono ?_);rintro e w28 ⟨rfl,hb⟩;replace BK113:=z174_;replace BK114:=z208_;replace BK115:=ak (Hd.kb_ BK115 hb);replace HB:=z17_;(try clear hb);(try clear hk);(try clear hi)))
  go_meet
  case rel=>exact⟨_,(true),z14_,H',⟨z73_⟩,⟨z6_ BK113⟩,⟨z6_ BK114⟩,⟨z6_ BK115⟩,⟨Hd.b_⟩⟩
 case rest =>
  clear HC4
  try clear c9;try clear c11;try clear hcz15_0;try clear hcz15_1;try clear hcz18_0;try clear hcz18_1;try clear hcz20_0;try clear hcz20_1;try clear hcz24_0;try clear hcz24_1;try clear hcz27_0;try clear hcz27_1;try clear hcz31_0;try clear hcz31_1;try clear hfz15_0;try clear hfz15_1;try clear hfz18_0;try clear hfz18_1;try clear hfz20_0;try clear hfz20_1;try clear hfz24_0;try clear hfz24_1;try clear hfz27_0;try clear hfz27_1;try clear hfz31_0;try clear hfz31_1
  obtain⟨kq,x19_3,rfl,HA,HJ3,BK113,BK114,BK115,HB⟩:=hcut
  cases kq with
  | zero=>exact absurd HA.out (by simp [impl_SideOf.j0])
  | succ kj3 =>
   have H:=HA.out
   clear HA
   simp only[impl_SideOf.j0] at H
   by_cases c33:x19_3=true
   ·
    subst c33
    rw [if_pos rfl] at H
    obtain rfl:=Option.some.inj H
    go_wp2
    go_ret
    exact⟨Hd.e_,Hd.b_⟩
   replace c33:=Bool.eq_false_iff.mpr c33
   subst c33
   rw [if_neg (show ¬ (false=true) by decide)] at H
   replace H:=Hd.bd_ H;obtain⟨t119,A34,H⟩:=H
   replace H:=Hd.bd_ H;obtain⟨t120,A35,H⟩:=H
   obtain rfl:=Option.some.inj H
   have hnb36:=NB113_114.out
   have hnc36:=NB114_113.out
   have hnb37:=NB113_115.out
   have hnc37:=NB115_113.out
   obtain⟨hcz38_0,hcz38_1⟩:=Hd.c2_ BK113.out
   obtain⟨hfz38_0,hfz38_1⟩:=Hd.f2_ BK113.out
   have hnb39:=NB114_115.out
   have hnc39:=NB115_114.out
   obtain⟨hcz40_0,hcz40_1⟩:=Hd.c2_ BK114.out
   obtain⟨hfz40_0,hfz40_1⟩:=Hd.f2_ BK114.out
   obtain⟨hcz41_0,hcz41_1⟩:=Hd.c2_ BK115.out
   obtain⟨hfz41_0,hfz41_1⟩:=Hd.f2_ BK115.out
   go_wp2_with (first|((with_reducible refine gate_callee (f:=107) rfl ?_);refine Hd.gl_ 23 Try.func107 #[.agg #[.int .i64 a0_0,.int .i64 a0_1],.agg #[.int .i64 a1_0,.int .i64 a1_1],.agg #[.int .i64 a2_0,.int .i64 a2_1]] ?_;(with_reducible refine(impl_cross.calls a0_0 a0_1 a1_0 a1_1 a2_0 a2_1 t119 _ A34.out).mono ?_);rintro e w42 ⟨rfl,hb⟩;refine⟨_,rfl,?_⟩;replace BK113:=z174_;replace BK114:=z208_;replace BK115:=ak (Hd.kb_ BK115 hb);replace HB:=z17_;(try clear hb))|((with_reducible refine gate_callee (f:=106) rfl ?_);refine Hd.gl_ 24 Try.func106 #[.int .i64 t119,.int .i64 0] ?_;(with_reducible refine(cmp_Compare_int.calls t119 0 t120 _ A35.out).mono ?_);rintro e w' ⟨rfl,⟨nd,rfl⟩⟩;refine⟨_,rfl,?_⟩))
   go_ret
   exact⟨Hd.e_,Hd.b_⟩
def impl_BeforePoint.f (a0_0:Int) (a0_1:Int) (a1_0:Int) (a1_1:Int):Option (Bool):=if a0_1<a1_1 then (some true) else (if a0_1=a1_1 then (some (decide (a0_0<a1_0))) else (some false))
theorem impl_BeforePoint.calls (a0_0:Int) (a0_1:Int) (a1_0:Int) (a1_1:Int) (r:Bool) (w:World) (h:impl_BeforePoint.f a0_0 a0_1 a1_0 a1_1=some r) :
  Calls Try.prog 93 #[.agg #[.int .i64 a0_0,.int .i64 a0_1],.agg #[.int .i64 a1_0,.int .i64 a1_1]] w fun e w'=>e = .returned (.bool r)∧Below w.heap.size w w':=by
 have hu75:=Try.underlying75
 have HB:=z52_
 have H:=h;clear h;unfold impl_BeforePoint.f at H
 by_cases c3:a0_1<a1_1
 ·
  rw [if_pos c3] at H
  have c3b0:=decide_eq_true c3
  clear c3
  obtain rfl:=Option.some.inj H
  go_enter Try.func93,Try.ntmps93
  go_wp2_with (first|((with_reducible refine gate_dst (N:=2) rfl ?_);refine Hd.box_ 2 (#[.int .i64 a0_0,.int .i64 a0_1]) 75 ?_;intro gb121 hg w4 hbox hb;have BK121:=ak (hbox);have GW121:=z147_;have GE121:=z147_;replace HB:=z17_;clear hb hbox hg)|((with_reducible refine gate_dst (N:=3) rfl ?_);refine Hd.box_ 3 (#[.int .i64 a1_0,.int .i64 a1_1]) 75 ?_;intro gb122 hg w5 hbox hb;have BK122:=ak (hbox);have GW122:=z148_;have GE122:=z148_;replace HB:=z17_;have NB121_122:=ak ((Hd.lt_ BK121 hg));have NB122_121:=ak ((Hd.gt_ BK121 hg));replace BK121:=ak (Hd.kb_ BK121 hb);clear hb hbox hg;have hnb6:=NB121_122.out;have hnc6:=NB122_121.out;obtain⟨hcz7_0,hcz7_1⟩:=Hd.c2_ BK121.out;obtain⟨hfz7_0,hfz7_1⟩:=Hd.f2_ BK121.out;obtain⟨hcz8_0,hcz8_1⟩:=Hd.c2_ BK122.out;obtain⟨hfz8_0,hfz8_1⟩:=Hd.f2_ BK122.out))
  go_ret
  exact⟨Hd.e_,Hd.b_⟩
 rw [if_neg c3] at H
 have c3b0:=decide_eq_false c3
 clear c3
 by_cases c9:a0_1=a1_1;rotate_left
 ·
  rw [if_neg c9] at H
  have c9b0:=beq_eq_false_iff_ne.mpr c9
  have c9b1:=bne_iff_ne.mpr c9
  obtain rfl:=Option.some.inj H
  go_enter Try.func93,Try.ntmps93
  go_wp2_with (first|((with_reducible refine gate_dst (N:=2) rfl ?_);refine Hd.box_ 2 (#[.int .i64 a0_0,.int .i64 a0_1]) 75 ?_;intro gb121 hg w15 hbox hb;have BK121:=ak (hbox);have GW121:=z147_;have GE121:=z147_;replace HB:=z17_;clear hb hbox hg)|((with_reducible refine gate_dst (N:=3) rfl ?_);refine Hd.box_ 3 (#[.int .i64 a1_0,.int .i64 a1_1]) 75 ?_;intro gb122 hg w16 hbox hb;have BK122:=ak (hbox);have GW122:=z148_;have GE122:=z148_;replace HB:=z17_;have NB121_122:=ak ((Hd.lt_ BK121 hg));have NB122_121:=ak ((Hd.gt_ BK121 hg));replace BK121:=ak (Hd.kb_ BK121 hb);clear hb hbox hg;have hnb17:=NB121_122.out;have hnc17:=NB122_121.out;obtain⟨hcz18_0,hcz18_1⟩:=Hd.c2_ BK121.out;obtain⟨hfz18_0,hfz18_1⟩:=Hd.f2_ BK121.out;obtain⟨hcz19_0,hcz19_1⟩:=Hd.c2_ BK122.out;obtain⟨hfz19_0,hfz19_1⟩:=Hd.f2_ BK122.out))
  go_ret
  exact⟨Hd.e_,Hd.b_⟩
 rw [if_pos c9] at H
 have c9b0:=beq_iff_eq.mpr c9
 have c9b1:=bne_eq_false_iff_eq.mpr c9
 clear c9
 obtain rfl:=Option.some.inj H
 go_enter Try.func93,Try.ntmps93
 go_wp2_with (first|((with_reducible refine gate_dst (N:=2) rfl ?_);refine Hd.box_ 2 (#[.int .i64 a0_0,.int .i64 a0_1]) 75 ?_;intro gb121 hg w10 hbox hb;have BK121:=ak (hbox);have GW121:=z147_;have GE121:=z147_;replace HB:=z17_;clear hb hbox hg)|((with_reducible refine gate_dst (N:=3) rfl ?_);refine Hd.box_ 3 (#[.int .i64 a1_0,.int .i64 a1_1]) 75 ?_;intro gb122 hg w11 hbox hb;have BK122:=ak (hbox);have GW122:=z148_;have GE122:=z148_;replace HB:=z17_;have NB121_122:=ak ((Hd.lt_ BK121 hg));have NB122_121:=ak ((Hd.gt_ BK121 hg));replace BK121:=ak (Hd.kb_ BK121 hb);clear hb hbox hg;have hnb12:=NB121_122.out;have hnc12:=NB122_121.out;obtain⟨hcz13_0,hcz13_1⟩:=Hd.c2_ BK121.out;obtain⟨hfz13_0,hfz13_1⟩:=Hd.f2_ BK121.out;obtain⟨hcz14_0,hcz14_1⟩:=Hd.c2_ BK122.out;obtain⟨hfz14_0,hfz14_1⟩:=Hd.f2_ BK122.out))
 go_ret
 exact⟨Hd.e_,Hd.b_⟩
def impl_TurnSegment.f (a0_0:Int) (a0_1:Int) (a0_2:Int) (a0_3:Int):Option (Int × Int × Int × Int):=some (a0_2,a0_3,a0_0,a0_1)
theorem impl_TurnSegment.calls (a0_0:Int) (a0_1:Int) (a0_2:Int) (a0_3:Int) (r1:Int) (r2:Int) (r3:Int) (r4:Int) (w:World) (h:impl_TurnSegment.f a0_0 a0_1 a0_2 a0_3=some (r1,r2,r3,r4)) :
  Calls Try.prog 108 #[.agg #[.int .i64 a0_0,.int .i64 a0_1,.int .i64 a0_2,.int .i64 a0_3]] w fun e w'=>e = .returned (.agg #[.int .i64 r1,.int .i64 r2,.int .i64 r3,.int .i64 r4])∧Below w.heap.size w w':=by
 have hu101:=Try.underlying101
 have hu75:=Try.underlying75
 have HB:=z52_
 have H:=h;clear h;unfold impl_TurnSegment.f at H
 simp only[Option.some.injEq,Prod.mk.injEq] at H
 obtain⟨rfl,rfl,rfl,rfl⟩:=H
 go_enter Try.func108,Try.ntmps108
 go_wp2_with (first|((with_reducible refine gate_dst (N:=1) rfl ?_);refine Hd.box_ 1 (#[.int .i64 a0_0,.int .i64 a0_1,.int .i64 a0_2,.int .i64 a0_3]) 101 ?_;intro gb123 hg w2 hbox hb;have BK123:=ak (hbox);have GW123:=ak ((Hd.g_ hg Hd.b_:w.heap.size≤gb123));have GE123:=ak ((Hd.g_ hg Hd.b_:w.heap.size≤gb123));replace HB:=z17_;clear hb hbox hg)|((with_reducible refine gate_dst (N:=2) rfl ?_);refine Hd.box_ 2 (#[.int .i64 0,.int .i64 0,.int .i64 0,.int .i64 0]) 101 ?_;intro gb124 hg w3 hbox hb;have BK124:=ak (hbox);have GW124:=ak ((Hd.g_ hg Hd.b_:w.heap.size≤gb124));have GE124:=ak ((Hd.g_ hg Hd.b_:w.heap.size≤gb124));replace HB:=z17_;have NB123_124:=ak ((Hd.lt_ BK123 hg));have NB124_123:=ak ((Hd.gt_ BK123 hg));replace BK123:=ak (Hd.kb_ BK123 hb);clear hb hbox hg;have hnb4:=NB123_124.out;have hnc4:=NB124_123.out;obtain⟨hcz5_0,hcz5_1,hcz5_2,hcz5_3⟩:=Hd.c4_ BK123.out;obtain⟨hfz5_0,hfz5_1,hfz5_2,hfz5_3⟩:=Hd.f4_ BK123.out;obtain⟨hcz6_0,hcz6_1,hcz6_2,hcz6_3⟩:=Hd.c4_ BK124.out;obtain⟨hfz6_0,hfz6_1,hfz6_2,hfz6_3⟩:=Hd.f4_ BK124.out))
 refine bodyPost_ret (results_cell_row rfl _ _ gb124 101 #[.int .i64 a0_2,.int .i64 a0_3,.int .i64 a0_0,.int .i64 a0_1] (0,0) _ rfl (by (with_reducible repeat (first|refine blk_drewN ?_ _|refine blk_drew ?_|refine blk_alloc ?_ _));refine blk_put (cs:=#[.int .i64 a0_2,.int .i64 a0_3,.int .i64 a0_0,.int .i64 0]) ?_ 3 _ rfl;(with_reducible repeat (first|refine blk_drewN ?_ _|refine blk_drew ?_|refine blk_alloc ?_ _));refine blk_put (cs:=#[.int .i64 a0_2,.int .i64 a0_3,.int .i64 0,.int .i64 0]) ?_ 2 _ rfl;(with_reducible repeat (first|refine blk_drewN ?_ _|refine blk_drew ?_|refine blk_alloc ?_ _));refine blk_put (cs:=#[.int .i64 a0_2,.int .i64 0,.int .i64 0,.int .i64 0]) ?_ 1 _ rfl;(with_reducible repeat (first|refine blk_drewN ?_ _|refine blk_drew ?_|refine blk_alloc ?_ _));refine blk_put (cs:=#[.int .i64 0,.int .i64 0,.int .i64 0,.int .i64 0]) ?_ 0 _ rfl;(with_reducible repeat (first|refine blk_drewN ?_ _|refine blk_drew ?_|refine blk_alloc ?_ _));exact BK124.out) Try.underlying101 rfl (by kernel_rfl)) rfl ?_
 exact⟨Hd.e_,Hd.b_⟩
def impl_forward.f (a0_0:Int) (a0_1:Int) (a0_2:Int) (a0_3:Int):Option (Int × Int × Int × Int):=(impl_BeforePoint.f a0_2 a0_3 a0_0 a0_1).bind fun t127=>(if t127=true then ((impl_TurnSegment.f a0_0 a0_1 a0_2 a0_3).bind fun bt128=>(some (bt128.1,bt128.2.1,bt128.2.2.1,bt128.2.2.2))) else (some (a0_0,a0_1,a0_2,a0_3)))
theorem impl_forward.calls (a0_0:Int) (a0_1:Int) (a0_2:Int) (a0_3:Int) (r1:Int) (r2:Int) (r3:Int) (r4:Int) (w:World) (h:impl_forward.f a0_0 a0_1 a0_2 a0_3=some (r1,r2,r3,r4)) :
  Calls Try.prog 92 #[.agg #[.int .i64 a0_0,.int .i64 a0_1,.int .i64 a0_2,.int .i64 a0_3]] w fun e w'=>e = .returned (.agg #[.int .i64 r1,.int .i64 r2,.int .i64 r3,.int .i64 r4])∧Below w.heap.size w w':=by
 have hu101:=Try.underlying101
 have hu75:=Try.underlying75
 have HB:=z52_
 have H:=h;clear h;unfold impl_forward.f at H
 replace H:=Hd.bd_ H;obtain⟨t127,A2,H⟩:=H
 by_cases c3:t127=true
 ·
  subst c3
  rw [if_pos rfl] at H
  replace H:=Hd.bd_ H;obtain⟨⟨t128,t129,t130,t131⟩,A4,H⟩:=H;dsimp only at H
  simp only[Option.some.injEq,Prod.mk.injEq] at H
  obtain⟨rfl,rfl,rfl,rfl⟩:=H
  go_enter Try.func92,Try.ntmps92
  go_wp2_with (first|((with_reducible refine gate_dst (N:=1) rfl ?_);refine Hd.box_ 1 (#[.int .i64 a0_0,.int .i64 a0_1,.int .i64 a0_2,.int .i64 a0_3]) 101 ?_;intro gb125 hg w5 hbox hb;have BK125:=ak (hbox);have GW125:=z200_;have GE125:=z200_;replace HB:=z17_;clear hb hbox hg)|((with_reducible refine gate_dst (N:=2) rfl ?_);refine Hd.box_ 2 (#[.int .i64 0,.int .i64 0,.int .i64 0,.int .i64 0]) 101 ?_;intro gb126 hg w6 hbox hb;have BK126:=ak (hbox);have GW126:=z201_;have GE126:=z201_;replace HB:=z17_;have NB125_126:=ak ((Hd.lt_ BK125 hg));have NB126_125:=ak ((Hd.gt_ BK125 hg));replace BK125:=ak (Hd.kb_ BK125 hb);clear hb hbox hg;have hnb7:=NB125_126.out;have hnc7:=NB126_125.out;obtain⟨hcz8_0,hcz8_1,hcz8_2,hcz8_3⟩:=Hd.c4_ BK125.out;obtain⟨hfz8_0,hfz8_1,hfz8_2,hfz8_3⟩:=Hd.f4_ BK125.out)|((with_reducible refine gate_callee (f:=93) rfl ?_);refine Hd.gl_ 7 Try.func93 #[.agg #[.int .i64 a0_2,.int .i64 a0_3],.agg #[.int .i64 a0_0,.int .i64 a0_1]] ?_;(with_reducible refine(impl_BeforePoint.calls a0_2 a0_3 a0_0 a0_1 true _ A2.out).mono ?_);rintro e w9 ⟨rfl,hb⟩;refine⟨_,rfl,?_⟩;replace BK125:=ak (Hd.kb_ BK125 hb);replace BK126:=ak (Hd.kb_ BK126 hb);replace HB:=z17_;(try clear hb);obtain⟨hcz10_0,hcz10_1,hcz10_2,hcz10_3⟩:=Hd.c4_ BK125.out;obtain⟨hfz10_0,hfz10_1,hfz10_2,hfz10_3⟩:=Hd.f4_ BK125.out)|((with_reducible refine gate_callee (f:=108) rfl ?_);refine Hd.gl_ 9 Try.func108 #[.agg #[.int .i64 a0_0,.int .i64 a0_1,.int .i64 a0_2,.int .i64 a0_3]] ?_;(with_reducible refine(impl_TurnSegment.calls a0_0 a0_1 a0_2 a0_3 t128 t129 t130 t131 _ A4.out).mono ?_);rintro e w11 ⟨rfl,hb⟩;refine⟨_,rfl,?_⟩;replace BK125:=ak (Hd.kb_ BK125 hb);replace BK126:=ak (Hd.kb_ BK126 hb);replace HB:=z17_;(try clear hb);(try clear hk);(try clear hi);obtain⟨hcz12_0,hcz12_1,hcz12_2,hcz12_3⟩:=Hd.c4_ BK126.out;obtain⟨hfz12_0,hfz12_1,hfz12_2,hfz12_3⟩:=Hd.f4_ BK126.out))
  refine bodyPost_ret (results_cell_row rfl _ _ gb126 101 #[.int .i64 t128,.int .i64 t129,.int .i64 t130,.int .i64 t131] (0,0) _ rfl (by (with_reducible repeat (first|refine blk_drewN ?_ _|refine blk_drew ?_|refine blk_alloc ?_ _));refine blk_put (cs:=#[.int .i64 t128,.int .i64 t129,.int .i64 t130,.int .i64 0]) ?_ 3 _ rfl;(with_reducible repeat (first|refine blk_drewN ?_ _|refine blk_drew ?_|refine blk_alloc ?_ _));refine blk_put (cs:=#[.int .i64 t128,.int .i64 t129,.int .i64 0,.int .i64 0]) ?_ 2 _ rfl;(with_reducible repeat (first|refine blk_drewN ?_ _|refine blk_drew ?_|refine blk_alloc ?_ _));refine blk_put (cs:=#[.int .i64 t128,.int .i64 0,.int .i64 0,.int .i64 0]) ?_ 1 _ rfl;(with_reducible repeat (first|refine blk_drewN ?_ _|refine blk_drew ?_|refine blk_alloc ?_ _));refine blk_put (cs:=#[.int .i64 0,.int .i64 0,.int .i64 0,.int .i64 0]) ?_ 0 _ rfl;(with_reducible repeat (first|refine blk_drewN ?_ _|refine blk_drew ?_|refine blk_alloc ?_ _));exact BK126.out) Try.underlying101 rfl (by kernel_rfl)) rfl ?_
  exact⟨Hd.e_,Hd.b_⟩
 replace c3:=z163_
 subst c3
 rw [if_neg (show ¬ (false=true) by decide)] at H
 simp only[Option.some.injEq,Prod.mk.injEq] at H
 obtain⟨rfl,rfl,rfl,rfl⟩:=H
 go_enter Try.func92,Try.ntmps92
 go_wp2_with (first|((with_reducible refine gate_dst (N:=1) rfl ?_);refine Hd.box_ 1 (#[.int .i64 a0_0,.int .i64 a0_1,.int .i64 a0_2,.int .i64 a0_3]) 101 ?_;intro gb125 hg w13 hbox hb;have BK125:=ak (hbox);have GW125:=z200_;have GE125:=z200_;replace HB:=z17_;clear hb hbox hg)|((with_reducible refine gate_dst (N:=2) rfl ?_);refine Hd.box_ 2 (#[.int .i64 0,.int .i64 0,.int .i64 0,.int .i64 0]) 101 ?_;intro gb126 hg w14 hbox hb;have BK126:=ak (hbox);have GW126:=z201_;have GE126:=z201_;replace HB:=z17_;have NB125_126:=ak ((Hd.lt_ BK125 hg));have NB126_125:=ak ((Hd.gt_ BK125 hg));replace BK125:=ak (Hd.kb_ BK125 hb);clear hb hbox hg;have hnb15:=NB125_126.out;have hnc15:=NB126_125.out;obtain⟨hcz16_0,hcz16_1,hcz16_2,hcz16_3⟩:=Hd.c4_ BK125.out;obtain⟨hfz16_0,hfz16_1,hfz16_2,hfz16_3⟩:=Hd.f4_ BK125.out)|((with_reducible refine gate_callee (f:=93) rfl ?_);refine Hd.gl_ 7 Try.func93 #[.agg #[.int .i64 a0_2,.int .i64 a0_3],.agg #[.int .i64 a0_0,.int .i64 a0_1]] ?_;(with_reducible refine(impl_BeforePoint.calls a0_2 a0_3 a0_0 a0_1 false _ A2.out).mono ?_);rintro e w17 ⟨rfl,hb⟩;refine⟨_,rfl,?_⟩;replace BK125:=ak (Hd.kb_ BK125 hb);replace BK126:=ak (Hd.kb_ BK126 hb);replace HB:=z17_;(try clear hb);obtain⟨hcz18_0,hcz18_1,hcz18_2,hcz18_3⟩:=Hd.c4_ BK125.out;obtain⟨hfz18_0,hfz18_1,hfz18_2,hfz18_3⟩:=Hd.f4_ BK125.out;obtain⟨hcz19_0,hcz19_1,hcz19_2,hcz19_3⟩:=Hd.c4_ BK126.out;obtain⟨hfz19_0,hfz19_1,hfz19_2,hfz19_3⟩:=Hd.f4_ BK126.out))
 refine bodyPost_ret (results_cell_row rfl _ _ gb126 101 #[.int .i64 a0_0,.int .i64 a0_1,.int .i64 a0_2,.int .i64 a0_3] (0,0) _ rfl (by (with_reducible repeat (first|refine blk_drewN ?_ _|refine blk_drew ?_|refine blk_alloc ?_ _));refine blk_put (cs:=#[.int .i64 a0_0,.int .i64 a0_1,.int .i64 a0_2,.int .i64 0]) ?_ 3 _ rfl;(with_reducible repeat (first|refine blk_drewN ?_ _|refine blk_drew ?_|refine blk_alloc ?_ _));refine blk_put (cs:=#[.int .i64 a0_0,.int .i64 a0_1,.int .i64 0,.int .i64 0]) ?_ 2 _ rfl;(with_reducible repeat (first|refine blk_drewN ?_ _|refine blk_drew ?_|refine blk_alloc ?_ _));refine blk_put (cs:=#[.int .i64 a0_0,.int .i64 0,.int .i64 0,.int .i64 0]) ?_ 1 _ rfl;(with_reducible repeat (first|refine blk_drewN ?_ _|refine blk_drew ?_|refine blk_alloc ?_ _));refine blk_put (cs:=#[.int .i64 0,.int .i64 0,.int .i64 0,.int .i64 0]) ?_ 0 _ rfl;(with_reducible repeat (first|refine blk_drewN ?_ _|refine blk_drew ?_|refine blk_alloc ?_ _));exact BK126.out) Try.underlying101 rfl (by kernel_rfl)) rfl ?_
 exact⟨Hd.e_,Hd.b_⟩
end Go.Proofs.Ytbbdhlggnglfgaa.MFnFeatures
