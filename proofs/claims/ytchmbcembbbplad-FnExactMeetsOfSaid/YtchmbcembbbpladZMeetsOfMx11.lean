-- Laid by this session's program pp.py, after the kit's print and texts of the session's own. Not trusted: Lean checks it.
import Derived.Test.YtchmbcembbbpladZMeetsOfMx0
import Derived.Test.YtchmbcembbbpladZMeetsOfMx1
import Derived.Test.YtchmbcembbbpladZMeetsOfMx10
namespace Go.Proofs.Ytchmbcembbbplad.MFnExactMeetsOf
open Go.RowKit Go.Proofs.YtchmbcembbbpladW.PrintWords Go.Proofs.YtchmbcembbbpladW.PrintLast Go.Proofs.YtchmbcembbbpladW.PrintMore
attribute [local go_sem] max2_int min2_int max_two min_two max_three min_three max_four min_four   -- for this text's walks alone
set_option linter.unusedVariables false
set_option linter.unusedSimpArgs false
attribute [local go_sem high] eqA63
def spec_IsName.l0 : Nat → ByteArray → Int → Option (Bool)
 | 0,_,_ => none
 | k + 1,x0,x3 => if x3 < (x0.size : Int) then (if 0 ≤ x3 then (if (bt x0 x3) < 97 then (some false) else (if (bt x0 x3) > 122 then (some false) else (spec_IsName.l0 k x0 (wrap64 (x3 + 1))))) else (none)) else ((spec_l1In.f (x0.size : Int) 1 8).bind fun t321 => (some t321))
def spec_IsName.f (k : Nat) (a0 : ByteArray) : Option (Bool):=spec_IsName.l0 k a0 0
set_option maxHeartbeats 8000000 in
set_option maxRecDepth 100000 in
theorem spec_IsName.calls (k : Nat) (a0 : ByteArray) (r : Bool) (w : World) (h : spec_IsName.f k a0 = some r) :
  Calls Try.prog 97 #[.string a0] w fun e w' => e = .returned (.bool r) ∧ Drawn0 w w':=by
 have H : (spec_IsName.l0 k a0 0) = some r:=h
 clear h
 have H':=Aside0.mk H
 clear H
 go_enter Try.func97,Try.ntmps97
 go_wp2
 go_loopg [3] k (fun kq v3 w' => ∃ (x3_1 : Int),v3 = .int .i64 x3_1 ∧ Aside0 (spec_IsName.l0 kq a0 x3_1 = some r) ∧ Aside0 (kq ≤ k) ∧ Drawn0 w w')
 case atStart => exact ⟨(0),(by first | rfl | (simp;done) | (simp [*];done)),H',⟨Nat.le_refl _⟩,by repeat (first | exact Drawn0.refl _ | apply Drawn0.step)⟩
 case round =>
  clear H'
  obtain ⟨x3_1,rfl,HA,HK1,⟨m1,rfl⟩⟩:=hrel
  cases gk with
  | zero => exact absurd HA.out (by simp [spec_IsName.l0])
  | succ k1 =>
   have H:=HA.out
   clear HA
   simp only [spec_IsName.l0] at H
   by_cases c2 : x3_1 < (a0.size : Int)
   ·
    rw [if_pos c2] at H
    have c2b0 : decide (x3_1 < (a0.size : Int)) = true:=decide_eq_true c2
    clear c2
    by_cases c3 : 0 ≤ x3_1
    ·
     rw [if_pos c3] at H
     have c3b0 : decide (0 ≤ x3_1) = true:=decide_eq_true c3
     clear c3
     by_cases c5 : (bt a0 x3_1) < 97
     ·
      rw [if_pos c5] at H
      have c5b0 : decide ((bt a0 x3_1) < 97) = true:=decide_eq_true c5
      clear c5
      obtain rfl:=Option.some.inj H
      have p4 : 0 ≤ (x3_1 : Int):=of_decide_eq_true Hd.a_
      have q4 : x3_1 < (a0.size : Int):=of_decide_eq_true Hd.a_
      have hx4:=bt_at a0 x3_1
      replace p4:=eq_true p4
      replace q4:=eq_true q4
      go_wp2
      go_ret
      exact ⟨by first | rfl | (simp;done) | (simp [*];done),by repeat (first | exact Drawn0.refl _ | apply Drawn0.step)⟩
     ·
      rw [if_neg c5] at H
      have c5b0 : decide ((bt a0 x3_1) < 97) = false:=decide_eq_false c5
      clear c5
      by_cases c7 : (bt a0 x3_1) > 122
      ·
       rw [if_pos c7] at H
       have c7b0 : decide (122 < (bt a0 x3_1)) = true:=decide_eq_true c7
       clear c7
       obtain rfl:=Option.some.inj H
       have p4 : 0 ≤ (x3_1 : Int):=of_decide_eq_true Hd.a_
       have q4 : x3_1 < (a0.size : Int):=of_decide_eq_true Hd.a_
       have hx4:=bt_at a0 x3_1
       replace p4:=eq_true p4
       replace q4:=eq_true q4
       have p6 : 0 ≤ (x3_1 : Int):=of_decide_eq_true Hd.a_
       have q6 : x3_1 < (a0.size : Int):=of_decide_eq_true Hd.a_
       have hx6:=bt_at a0 x3_1
       replace p6:=eq_true p6
       replace q6:=eq_true q6
       go_wp2
       go_ret
       exact ⟨by first | rfl | (simp;done) | (simp [*];done),by repeat (first | exact Drawn0.refl _ | apply Drawn0.step)⟩
      ·
       rw [if_neg c7] at H
       have c7b0 : decide (122 < (bt a0 x3_1)) = false:=decide_eq_false c7
       clear c7
       have H':=Aside0.mk H
       clear H
       have p4 : 0 ≤ (x3_1 : Int):=of_decide_eq_true Hd.a_
       have q4 : x3_1 < (a0.size : Int):=of_decide_eq_true Hd.a_
       have hx4:=bt_at a0 x3_1
       replace p4:=eq_true p4
       replace q4:=eq_true q4
       have p6 : 0 ≤ (x3_1 : Int):=of_decide_eq_true Hd.a_
       have q6 : x3_1 < (a0.size : Int):=of_decide_eq_true Hd.a_
       have hx6:=bt_at a0 x3_1
       replace p6:=eq_true p6
       replace q6:=eq_true q6
       go_wp2
       go_roundg k1
       case measure => have:=HK1.out;omega
       case rel => exact ⟨(wrap64 (x3_1 + 1)),(by first | rfl | (simp;done) | (simp [*];done)),H',⟨by have:=HK1.out;omega⟩,by repeat (first | exact Drawn0.refl _ | apply Drawn0.step)⟩
    ·
     rw [if_neg c3] at H
     exact absurd H (by simp)
   ·
    rw [if_neg c2] at H
    have c2b0 : decide (x3_1 < (a0.size : Int)) = false:=decide_eq_false c2
    clear c2
    replace H:=Option.bind_eq_some_iff.mp H
    obtain ⟨t321,A80,H⟩:=H
    replace H : (some t321) = some r:=H
    have A8:=Aside0.mk A80
    clear A80
    obtain rfl:=Option.some.inj H
    go_wp2_with (first | ((with_reducible refine gate_callee (f:=61) rfl ?_);refine goesL_ (some 22) rfl rfl Try.func61 (by kernel_rfl) rfl #[.int .i64 (a0.size : Int),.int .i64 1,.int .i64 8] rfl Hd.m_ ?_;(with_reducible refine (spec_l1In.calls (a0.size : Int) 1 8 t321 _ A8.out).mono ?_);rintro e w' ⟨rfl,⟨nd,rfl⟩⟩;refine ⟨_,rfl,?_⟩))
    go_ret
    exact ⟨by first | rfl | (simp;done) | (simp [*];done),by repeat (first | exact Drawn0.refl _ | apply Drawn0.step)⟩
def spec_Max.f (a0 : Int) (a1 : Int) : Option (Int):=if a1 > a0 then (some a1) else (some a0)
set_option maxHeartbeats 8000000 in
set_option maxRecDepth 100000 in
theorem spec_Max.calls (a0 : Int) (a1 : Int) (r : Int) (w : World) (h : spec_Max.f a0 a1 = some r) :
  Calls Try.prog 86 #[.int .i64 a0,.int .i64 a1] w fun e w' => e = .returned (.int .i64 r) ∧ Drawn0 w w':=by
 have H : (if a1 > a0 then (some a1) else (some a0)) = some r:=h
 clear h
 by_cases c3 : a1 > a0
 ·
  rw [if_pos c3] at H
  have c3b0 : decide (a0 < a1) = true:=decide_eq_true c3
  clear c3
  obtain rfl:=Option.some.inj H
  go_enter Try.func86,Try.ntmps86
  go_wp2
  go_ret
  exact ⟨by first | rfl | (simp;done) | (simp [*];done),by repeat (first | exact Drawn0.refl _ | apply Drawn0.step)⟩
 ·
  rw [if_neg c3] at H
  have c3b0 : decide (a0 < a1) = false:=decide_eq_false c3
  clear c3
  obtain rfl:=Option.some.inj H
  go_enter Try.func86,Try.ntmps86
  go_wp2
  go_ret
  exact ⟨by first | rfl | (simp;done) | (simp [*];done),by repeat (first | exact Drawn0.refl _ | apply Drawn0.step)⟩
def spec_IsSegment.f (a0_0 : Int) (a0_1 : Int) (a0_2 : Int) (a0_3 : Int) : Option (Bool):=(spec_IsPoint.f a0_0 a0_1).bind fun t323 => (if t323 = true then ((spec_IsPoint.f a0_2 a0_3).bind fun t324 => (if t324 = true then (some (!(a0_0 == a0_2) || (!(a0_1 == a0_3)))) else (some false))) else (some false))
set_option maxHeartbeats 8000000 in
set_option maxRecDepth 100000 in
theorem spec_IsSegment.calls (a0_0 : Int) (a0_1 : Int) (a0_2 : Int) (a0_3 : Int) (r : Bool) (w : World) (h : spec_IsSegment.f a0_0 a0_1 a0_2 a0_3 = some r) :
  Calls Try.prog 115 #[.agg #[.int .i64 a0_0,.int .i64 a0_1,.int .i64 a0_2,.int .i64 a0_3]] w fun e w' => e = .returned (.bool r) ∧ Below w.heap.size w w':=by
 have hu100:=Try.underlying100
 have hu63:=Try.underlying63
 have HB:=Aside0.mk (Below.refl w.heap.size w)
 have H : ((spec_IsPoint.f a0_0 a0_1).bind fun t323 => (if t323 = true then ((spec_IsPoint.f a0_2 a0_3).bind fun t324 => (if t324 = true then (some (!(a0_0 == a0_2) || (!(a0_1 == a0_3)))) else (some false))) else (some false))) = some r:=h
 clear h
 replace H:=Option.bind_eq_some_iff.mp H
 obtain ⟨t323,A20,H⟩:=H
 replace H : (if t323 = true then ((spec_IsPoint.f a0_2 a0_3).bind fun t324 => (if t324 = true then (some (!(a0_0 == a0_2) || (!(a0_1 == a0_3)))) else (some false))) else (some false)) = some r:=H
 have A2:=Aside0.mk A20
 clear A20
 by_cases c3 : t323 = true
 ·
  subst c3
  have H1 : ((spec_IsPoint.f a0_2 a0_3).bind fun t324 => (if t324 = true then (some (!(a0_0 == a0_2) || (!(a0_1 == a0_3)))) else (some false))) = some r:=by rw [if_pos rfl] at H;exact H
  clear H
  have H:=H1
  clear H1
  replace H:=Option.bind_eq_some_iff.mp H
  obtain ⟨t324,A40,H⟩:=H
  replace H : (if t324 = true then (some (!(a0_0 == a0_2) || (!(a0_1 == a0_3)))) else (some false)) = some r:=H
  have A4:=Aside0.mk A40
  clear A40
  by_cases c5 : t324 = true
  ·
   subst c5
   have H1 : (some (!(a0_0 == a0_2) || (!(a0_1 == a0_3)))) = some r:=by rw [if_pos rfl] at H;exact H
   clear H
   have H:=H1
   clear H1
   obtain rfl:=Option.some.inj H
   go_enter Try.func115,Try.ntmps115
   go_wp2_with (first | ((with_reducible refine gate_dst (N:=1) rfl ?_);refine Hd.box_ 1 (#[.int .i64 a0_0,.int .i64 a0_1,.int .i64 a0_2,.int .i64 a0_3]) 100 ?_;intro gb322 hg w6 hbox hb;have BK322:=Aside0.mk (hbox);have GW322:=Aside0.mk ((Hd.g_ hg Hd.b_ : w.heap.size ≤ gb322));have GE322:=Aside0.mk ((Hd.g_ hg Hd.b_ : w.heap.size ≤ gb322));replace HB:=Aside0.mk (below_step Hd.b_ hb);clear hb hbox hg;obtain ⟨hcz7_0,hcz7_1,hcz7_2,hcz7_3⟩:=Hd.c4_ BK322.out;obtain ⟨hfz7_0,hfz7_1,hfz7_2,hfz7_3⟩:=Hd.f4_ BK322.out) | ((with_reducible refine gate_callee (f:=88) rfl ?_);refine goesL_ (some 5) rfl rfl Try.func88 (by kernel_rfl) rfl #[.agg #[.int .i64 a0_0,.int .i64 a0_1]] rfl Hd.m_ ?_;(with_reducible refine (spec_IsPoint.calls a0_0 a0_1 true _ A2.out).mono ?_);rintro e w8 ⟨rfl,hb⟩;refine ⟨_,rfl,?_⟩;replace BK322:=Aside0.mk (Hd.kb_ BK322 hb);replace HB:=Aside0.mk (below_step Hd.b_ hb);(try clear hb);(try clear hb2);(try clear hk);(try clear hi);obtain ⟨hcz9_0,hcz9_1,hcz9_2,hcz9_3⟩:=Hd.c4_ BK322.out;obtain ⟨hfz9_0,hfz9_1,hfz9_2,hfz9_3⟩:=Hd.f4_ BK322.out) | (go_at_call 88;(with_reducible refine (spec_IsPoint.calls a0_2 a0_3 true _ A4.out).mono ?_);rintro e w10 ⟨rfl,hb⟩;replace BK322:=Aside0.mk (Hd.kb_ BK322 hb);replace HB:=Aside0.mk (below_step Hd.b_ hb);(try clear hb);(try clear hb2);(try clear hk);(try clear hi);obtain ⟨hcz11_0,hcz11_1,hcz11_2,hcz11_3⟩:=Hd.c4_ BK322.out;obtain ⟨hfz11_0,hfz11_1,hfz11_2,hfz11_3⟩:=Hd.f4_ BK322.out))
   go_ret
   exact ⟨Hd.e_,Hd.b_⟩
  ·
   replace c5:=Bool.eq_false_iff.mpr c5
   subst c5
   have H1 : (some false) = some r:=by rw [if_neg (show ¬ (false = true) by decide)] at H;exact H
   clear H
   have H:=H1
   clear H1
   obtain rfl:=Option.some.inj H
   go_enter Try.func115,Try.ntmps115
   go_wp2_with (first | ((with_reducible refine gate_dst (N:=1) rfl ?_);refine Hd.box_ 1 (#[.int .i64 a0_0,.int .i64 a0_1,.int .i64 a0_2,.int .i64 a0_3]) 100 ?_;intro gb322 hg w12 hbox hb;have BK322:=Aside0.mk (hbox);have GW322:=Aside0.mk ((Hd.g_ hg Hd.b_ : w.heap.size ≤ gb322));have GE322:=Aside0.mk ((Hd.g_ hg Hd.b_ : w.heap.size ≤ gb322));replace HB:=Aside0.mk (below_step Hd.b_ hb);clear hb hbox hg;obtain ⟨hcz13_0,hcz13_1,hcz13_2,hcz13_3⟩:=Hd.c4_ BK322.out;obtain ⟨hfz13_0,hfz13_1,hfz13_2,hfz13_3⟩:=Hd.f4_ BK322.out) | ((with_reducible refine gate_callee (f:=88) rfl ?_);refine goesL_ (some 5) rfl rfl Try.func88 (by kernel_rfl) rfl #[.agg #[.int .i64 a0_0,.int .i64 a0_1]] rfl Hd.m_ ?_;(with_reducible refine (spec_IsPoint.calls a0_0 a0_1 true _ A2.out).mono ?_);rintro e w14 ⟨rfl,hb⟩;refine ⟨_,rfl,?_⟩;replace BK322:=Aside0.mk (Hd.kb_ BK322 hb);replace HB:=Aside0.mk (below_step Hd.b_ hb);(try clear hb);(try clear hb2);(try clear hk);(try clear hi);obtain ⟨hcz15_0,hcz15_1,hcz15_2,hcz15_3⟩:=Hd.c4_ BK322.out;obtain ⟨hfz15_0,hfz15_1,hfz15_2,hfz15_3⟩:=Hd.f4_ BK322.out) | (go_at_call 88;(with_reducible refine (spec_IsPoint.calls a0_2 a0_3 false _ A4.out).mono ?_);rintro e w16 ⟨rfl,hb⟩;replace BK322:=Aside0.mk (Hd.kb_ BK322 hb);replace HB:=Aside0.mk (below_step Hd.b_ hb);(try clear hb);(try clear hb2);(try clear hk);(try clear hi)))
   go_ret
   exact ⟨Hd.e_,Hd.b_⟩
 ·
  replace c3:=Bool.eq_false_iff.mpr c3
  subst c3
  have H1 : (some false) = some r:=by rw [if_neg (show ¬ (false = true) by decide)] at H;exact H
  clear H
  have H:=H1
  clear H1
  obtain rfl:=Option.some.inj H
  go_enter Try.func115,Try.ntmps115
  go_wp2_with (first | ((with_reducible refine gate_dst (N:=1) rfl ?_);refine Hd.box_ 1 (#[.int .i64 a0_0,.int .i64 a0_1,.int .i64 a0_2,.int .i64 a0_3]) 100 ?_;intro gb322 hg w17 hbox hb;have BK322:=Aside0.mk (hbox);have GW322:=Aside0.mk ((Hd.g_ hg Hd.b_ : w.heap.size ≤ gb322));have GE322:=Aside0.mk ((Hd.g_ hg Hd.b_ : w.heap.size ≤ gb322));replace HB:=Aside0.mk (below_step Hd.b_ hb);clear hb hbox hg;obtain ⟨hcz18_0,hcz18_1,hcz18_2,hcz18_3⟩:=Hd.c4_ BK322.out;obtain ⟨hfz18_0,hfz18_1,hfz18_2,hfz18_3⟩:=Hd.f4_ BK322.out) | ((with_reducible refine gate_callee (f:=88) rfl ?_);refine goesL_ (some 5) rfl rfl Try.func88 (by kernel_rfl) rfl #[.agg #[.int .i64 a0_0,.int .i64 a0_1]] rfl Hd.m_ ?_;(with_reducible refine (spec_IsPoint.calls a0_0 a0_1 false _ A2.out).mono ?_);rintro e w19 ⟨rfl,hb⟩;refine ⟨_,rfl,?_⟩;replace BK322:=Aside0.mk (Hd.kb_ BK322 hb);replace HB:=Aside0.mk (below_step Hd.b_ hb);(try clear hb);(try clear hb2);(try clear hk);(try clear hi)))
  go_ret
  exact ⟨Hd.e_,Hd.b_⟩
def spec_Min.f (a0 : Int) (a1 : Int) : Option (Int):=if a1 < a0 then (some a1) else (some a0)
set_option maxHeartbeats 8000000 in
set_option maxRecDepth 100000 in
theorem spec_Min.calls (a0 : Int) (a1 : Int) (r : Int) (w : World) (h : spec_Min.f a0 a1 = some r) :
  Calls Try.prog 116 #[.int .i64 a0,.int .i64 a1] w fun e w' => e = .returned (.int .i64 r) ∧ Drawn0 w w':=by
 have H : (if a1 < a0 then (some a1) else (some a0)) = some r:=h
 clear h
 by_cases c3 : a1 < a0
 ·
  rw [if_pos c3] at H
  have c3b0 : decide (a1 < a0) = true:=decide_eq_true c3
  clear c3
  obtain rfl:=Option.some.inj H
  go_enter Try.func116,Try.ntmps116
  go_wp2
  go_ret
  exact ⟨by first | rfl | (simp;done) | (simp [*];done),by repeat (first | exact Drawn0.refl _ | apply Drawn0.step)⟩
 ·
  rw [if_neg c3] at H
  have c3b0 : decide (a1 < a0) = false:=decide_eq_false c3
  clear c3
  obtain rfl:=Option.some.inj H
  go_enter Try.func116,Try.ntmps116
  go_wp2
  go_ret
  exact ⟨by first | rfl | (simp;done) | (simp [*];done),by repeat (first | exact Drawn0.refl _ | apply Drawn0.step)⟩
def spec_l4Cross.f (a0_0 : Int) (a0_1 : Int) (a1_0 : Int) (a1_1 : Int) (a2_0 : Int) (a2_1 : Int) : Option (Int):=some (wrap64 ((wrap64 ((wrap64 (a1_0 - a0_0)) * (wrap64 (a2_1 - a0_1)))) - (wrap64 ((wrap64 (a1_1 - a0_1)) * (wrap64 (a2_0 - a0_0))))))
set_option maxHeartbeats 8000000 in
set_option maxRecDepth 100000 in
theorem spec_l4Cross.calls (a0_0 : Int) (a0_1 : Int) (a1_0 : Int) (a1_1 : Int) (a2_0 : Int) (a2_1 : Int) (r : Int) (w : World) (h : spec_l4Cross.f a0_0 a0_1 a1_0 a1_1 a2_0 a2_1 = some r) :
  Calls Try.prog 145 #[.agg #[.int .i64 a0_0,.int .i64 a0_1],.agg #[.int .i64 a1_0,.int .i64 a1_1],.agg #[.int .i64 a2_0,.int .i64 a2_1]] w fun e w' => e = .returned (.int .i64 r) ∧ Below w.heap.size w w':=by
 have hu63:=Try.underlying63
 have HB:=Aside0.mk (Below.refl w.heap.size w)
 have H : (some (wrap64 ((wrap64 ((wrap64 (a1_0 - a0_0)) * (wrap64 (a2_1 - a0_1)))) - (wrap64 ((wrap64 (a1_1 - a0_1)) * (wrap64 (a2_0 - a0_0))))))) = some r:=h
 clear h
 obtain rfl:=Option.some.inj H
 go_enter Try.func145,Try.ntmps145
 go_wp2_with (first | ((with_reducible refine gate_dst (N:=3) rfl ?_);refine Hd.box_ 3 (#[.int .i64 a0_0,.int .i64 a0_1]) 63 ?_;intro gb325 hg w4 hbox hb;have BK325:=Aside0.mk (hbox);have GW325:=Aside0.mk ((Hd.g_ hg Hd.b_ : w.heap.size ≤ gb325));have GE325:=Aside0.mk ((Hd.g_ hg Hd.b_ : w.heap.size ≤ gb325));replace HB:=Aside0.mk (below_step Hd.b_ hb);clear hb hbox hg) | ((with_reducible refine gate_dst (N:=4) rfl ?_);refine Hd.box_ 4 (#[.int .i64 a1_0,.int .i64 a1_1]) 63 ?_;intro gb326 hg w5 hbox hb;have BK326:=Aside0.mk (hbox);have GW326:=Aside0.mk ((Hd.g_ hg Hd.b_ : w.heap.size ≤ gb326));have GE326:=Aside0.mk ((Hd.g_ hg Hd.b_ : w.heap.size ≤ gb326));replace HB:=Aside0.mk (below_step Hd.b_ hb);have NB325_326:=Aside0.mk ((Hd.lt_ BK325 hg));have NB326_325:=Aside0.mk ((Hd.gt_ BK325 hg));replace BK325:=Aside0.mk (Hd.kb_ BK325 hb);clear hb hbox hg) | ((with_reducible refine gate_dst (N:=5) rfl ?_);refine Hd.box_ 5 (#[.int .i64 a2_0,.int .i64 a2_1]) 63 ?_;intro gb327 hg w6 hbox hb;have BK327:=Aside0.mk (hbox);have GW327:=Aside0.mk ((Hd.g_ hg Hd.b_ : w.heap.size ≤ gb327));have GE327:=Aside0.mk ((Hd.g_ hg Hd.b_ : w.heap.size ≤ gb327));replace HB:=Aside0.mk (below_step Hd.b_ hb);have NB325_327:=Aside0.mk ((Hd.lt_ BK325 hg));have NB327_325:=Aside0.mk ((Hd.gt_ BK325 hg));replace BK325:=Aside0.mk (Hd.kb_ BK325 hb);have NB326_327:=Aside0.mk ((Hd.lt_ BK326 hg));have NB327_326:=Aside0.mk ((Hd.gt_ BK326 hg));replace BK326:=Aside0.mk (Hd.kb_ BK326 hb);clear hb hbox hg;have hnb7:=NB326_325.out;have hnc7:=NB325_326.out;have hnb8:=NB326_327.out;have hnc8:=NB327_326.out;obtain ⟨hcz9_0,hcz9_1⟩:=Hd.c2_ BK326.out;obtain ⟨hfz9_0,hfz9_1⟩:=Hd.f2_ BK326.out;have hnb10:=NB325_327.out;have hnc10:=NB327_325.out;obtain ⟨hcz11_0,hcz11_1⟩:=Hd.c2_ BK325.out;obtain ⟨hfz11_0,hfz11_1⟩:=Hd.f2_ BK325.out;obtain ⟨hcz12_0,hcz12_1⟩:=Hd.c2_ BK327.out;obtain ⟨hfz12_0,hfz12_1⟩:=Hd.f2_ BK327.out))
 go_ret
 exact ⟨Hd.e_,Hd.b_⟩
def spec_IsOn.f (a0_0 : Int) (a0_1 : Int) (a0_2 : Int) (a0_3 : Int) (a1_0 : Int) (a1_1 : Int) : Option (Bool):=(spec_IsSegment.f a0_0 a0_1 a0_2 a0_3).bind fun t330 => (if t330 = true then ((spec_IsPoint.f a1_0 a1_1).bind fun t331 => (if t331 = true then ((spec_l4Cross.f a0_0 a0_1 a0_2 a0_3 a1_0 a1_1).bind fun t332 => (if t332 = 0 then ((spec_Min.f a0_0 a0_2).bind fun t333 => ((spec_Max.f a0_0 a0_2).bind fun t334 => ((spec_l1In.f a1_0 t333 t334).bind fun t335 => (if t335 = true then ((spec_Min.f a0_1 a0_3).bind fun t336 => ((spec_Max.f a0_1 a0_3).bind fun t337 => ((spec_l1In.f a1_1 t336 t337).bind fun t338 => (some t338)))) else (some false))))) else (some false))) else (some false))) else (some false))
set_option maxHeartbeats 8000000 in
set_option maxRecDepth 100000 in
theorem spec_IsOn.calls (a0_0 : Int) (a0_1 : Int) (a0_2 : Int) (a0_3 : Int) (a1_0 : Int) (a1_1 : Int) (r : Bool) (w : World) (h : spec_IsOn.f a0_0 a0_1 a0_2 a0_3 a1_0 a1_1 = some r) :
  Calls Try.prog 144 #[.agg #[.int .i64 a0_0,.int .i64 a0_1,.int .i64 a0_2,.int .i64 a0_3],.agg #[.int .i64 a1_0,.int .i64 a1_1]] w fun e w' => e = .returned (.bool r) ∧ Below w.heap.size w w':=by
 have hu100:=Try.underlying100
 have hu63:=Try.underlying63
 have HB:=Aside0.mk (Below.refl w.heap.size w)
 have H : ((spec_IsSegment.f a0_0 a0_1 a0_2 a0_3).bind fun t330 => (if t330 = true then ((spec_IsPoint.f a1_0 a1_1).bind fun t331 => (if t331 = true then ((spec_l4Cross.f a0_0 a0_1 a0_2 a0_3 a1_0 a1_1).bind fun t332 => (if t332 = 0 then ((spec_Min.f a0_0 a0_2).bind fun t333 => ((spec_Max.f a0_0 a0_2).bind fun t334 => ((spec_l1In.f a1_0 t333 t334).bind fun t335 => (if t335 = true then ((spec_Min.f a0_1 a0_3).bind fun t336 => ((spec_Max.f a0_1 a0_3).bind fun t337 => ((spec_l1In.f a1_1 t336 t337).bind fun t338 => (some t338)))) else (some false))))) else (some false))) else (some false))) else (some false))) = some r:=h
 clear h
 replace H:=Option.bind_eq_some_iff.mp H
 obtain ⟨t330,A30,H⟩:=H
 replace H : (if t330 = true then ((spec_IsPoint.f a1_0 a1_1).bind fun t331 => (if t331 = true then ((spec_l4Cross.f a0_0 a0_1 a0_2 a0_3 a1_0 a1_1).bind fun t332 => (if t332 = 0 then ((spec_Min.f a0_0 a0_2).bind fun t333 => ((spec_Max.f a0_0 a0_2).bind fun t334 => ((spec_l1In.f a1_0 t333 t334).bind fun t335 => (if t335 = true then ((spec_Min.f a0_1 a0_3).bind fun t336 => ((spec_Max.f a0_1 a0_3).bind fun t337 => ((spec_l1In.f a1_1 t336 t337).bind fun t338 => (some t338)))) else (some false))))) else (some false))) else (some false))) else (some false)) = some r:=H
 have A3:=Aside0.mk A30
 clear A30
 by_cases c4 : t330 = true
 ·
  subst c4
  have H1 : ((spec_IsPoint.f a1_0 a1_1).bind fun t331 => (if t331 = true then ((spec_l4Cross.f a0_0 a0_1 a0_2 a0_3 a1_0 a1_1).bind fun t332 => (if t332 = 0 then ((spec_Min.f a0_0 a0_2).bind fun t333 => ((spec_Max.f a0_0 a0_2).bind fun t334 => ((spec_l1In.f a1_0 t333 t334).bind fun t335 => (if t335 = true then ((spec_Min.f a0_1 a0_3).bind fun t336 => ((spec_Max.f a0_1 a0_3).bind fun t337 => ((spec_l1In.f a1_1 t336 t337).bind fun t338 => (some t338)))) else (some false))))) else (some false))) else (some false))) = some r:=by rw [if_pos rfl] at H;exact H
  clear H
  have H:=H1
  clear H1
  replace H:=Option.bind_eq_some_iff.mp H
  obtain ⟨t331,A50,H⟩:=H
  replace H : (if t331 = true then ((spec_l4Cross.f a0_0 a0_1 a0_2 a0_3 a1_0 a1_1).bind fun t332 => (if t332 = 0 then ((spec_Min.f a0_0 a0_2).bind fun t333 => ((spec_Max.f a0_0 a0_2).bind fun t334 => ((spec_l1In.f a1_0 t333 t334).bind fun t335 => (if t335 = true then ((spec_Min.f a0_1 a0_3).bind fun t336 => ((spec_Max.f a0_1 a0_3).bind fun t337 => ((spec_l1In.f a1_1 t336 t337).bind fun t338 => (some t338)))) else (some false))))) else (some false))) else (some false)) = some r:=H
  have A5:=Aside0.mk A50
  clear A50
  by_cases c6 : t331 = true
  ·
   subst c6
   have H1 : ((spec_l4Cross.f a0_0 a0_1 a0_2 a0_3 a1_0 a1_1).bind fun t332 => (if t332 = 0 then ((spec_Min.f a0_0 a0_2).bind fun t333 => ((spec_Max.f a0_0 a0_2).bind fun t334 => ((spec_l1In.f a1_0 t333 t334).bind fun t335 => (if t335 = true then ((spec_Min.f a0_1 a0_3).bind fun t336 => ((spec_Max.f a0_1 a0_3).bind fun t337 => ((spec_l1In.f a1_1 t336 t337).bind fun t338 => (some t338)))) else (some false))))) else (some false))) = some r:=by rw [if_pos rfl] at H;exact H
   clear H
   have H:=H1
   clear H1
   replace H:=Option.bind_eq_some_iff.mp H
   obtain ⟨t332,A70,H⟩:=H
   replace H : (if t332 = 0 then ((spec_Min.f a0_0 a0_2).bind fun t333 => ((spec_Max.f a0_0 a0_2).bind fun t334 => ((spec_l1In.f a1_0 t333 t334).bind fun t335 => (if t335 = true then ((spec_Min.f a0_1 a0_3).bind fun t336 => ((spec_Max.f a0_1 a0_3).bind fun t337 => ((spec_l1In.f a1_1 t336 t337).bind fun t338 => (some t338)))) else (some false))))) else (some false)) = some r:=H
   have A7:=Aside0.mk A70
   clear A70
   by_cases c8 : t332 = 0
   ·
    rw [if_pos c8] at H
    have c8b0 : (t332 == 0) = true:=beq_iff_eq.mpr c8
    have c8b1 : (t332 != 0) = false:=bne_eq_false_iff_eq.mpr c8
    clear c8
    replace H:=Option.bind_eq_some_iff.mp H
    obtain ⟨t333,A90,H⟩:=H
    replace H : ((spec_Max.f a0_0 a0_2).bind fun t334 => ((spec_l1In.f a1_0 t333 t334).bind fun t335 => (if t335 = true then ((spec_Min.f a0_1 a0_3).bind fun t336 => ((spec_Max.f a0_1 a0_3).bind fun t337 => ((spec_l1In.f a1_1 t336 t337).bind fun t338 => (some t338)))) else (some false)))) = some r:=H
    have A9:=Aside0.mk A90
    clear A90
    replace H:=Option.bind_eq_some_iff.mp H
    obtain ⟨t334,A100,H⟩:=H
    replace H : ((spec_l1In.f a1_0 t333 t334).bind fun t335 => (if t335 = true then ((spec_Min.f a0_1 a0_3).bind fun t336 => ((spec_Max.f a0_1 a0_3).bind fun t337 => ((spec_l1In.f a1_1 t336 t337).bind fun t338 => (some t338)))) else (some false))) = some r:=H
    have A10:=Aside0.mk A100
    clear A100
    replace H:=Option.bind_eq_some_iff.mp H
    obtain ⟨t335,A110,H⟩:=H
    replace H : (if t335 = true then ((spec_Min.f a0_1 a0_3).bind fun t336 => ((spec_Max.f a0_1 a0_3).bind fun t337 => ((spec_l1In.f a1_1 t336 t337).bind fun t338 => (some t338)))) else (some false)) = some r:=H
    have A11:=Aside0.mk A110
    clear A110
    by_cases c12 : t335 = true
    ·
     subst c12
     have H1 : ((spec_Min.f a0_1 a0_3).bind fun t336 => ((spec_Max.f a0_1 a0_3).bind fun t337 => ((spec_l1In.f a1_1 t336 t337).bind fun t338 => (some t338)))) = some r:=by rw [if_pos rfl] at H;exact H
     clear H
     have H:=H1
     clear H1
     replace H:=Option.bind_eq_some_iff.mp H
     obtain ⟨t336,A130,H⟩:=H
     replace H : ((spec_Max.f a0_1 a0_3).bind fun t337 => ((spec_l1In.f a1_1 t336 t337).bind fun t338 => (some t338))) = some r:=H
     have A13:=Aside0.mk A130
     clear A130
     replace H:=Option.bind_eq_some_iff.mp H
     obtain ⟨t337,A140,H⟩:=H
     replace H : ((spec_l1In.f a1_1 t336 t337).bind fun t338 => (some t338)) = some r:=H
     have A14:=Aside0.mk A140
     clear A140
     replace H:=Option.bind_eq_some_iff.mp H
     obtain ⟨t338,A150,H⟩:=H
     replace H : (some t338) = some r:=H
     have A15:=Aside0.mk A150
     clear A150
     obtain rfl:=Option.some.inj H
     go_enter Try.func144,Try.ntmps144
     try go_wp2_with (first | ((with_reducible refine gate_dst (N:=2) rfl ?_);refine Hd.box_ 2 (#[.int .i64 a0_0,.int .i64 a0_1,.int .i64 a0_2,.int .i64 a0_3]) 100 ?_;intro gb328 hg w16 hbox hb;have BK328:=Aside0.mk (hbox);have GW328:=Aside0.mk ((Hd.g_ hg Hd.b_ : w.heap.size ≤ gb328));have GE328:=Aside0.mk ((Hd.g_ hg Hd.b_ : w.heap.size ≤ gb328));replace HB:=Aside0.mk (below_step Hd.b_ hb);clear hb hbox hg) | ((with_reducible refine gate_dst (N:=3) rfl ?_);refine Hd.box_ 3 (#[.int .i64 a1_0,.int .i64 a1_1]) 63 ?_;intro gb329 hg w17 hbox hb;have BK329:=Aside0.mk (hbox);have GW329:=Aside0.mk ((Hd.g_ hg Hd.b_ : w.heap.size ≤ gb329));have GE329:=Aside0.mk ((Hd.g_ hg Hd.b_ : w.heap.size ≤ gb329));replace HB:=Aside0.mk (below_step Hd.b_ hb);have NB328_329:=Aside0.mk ((Hd.lt_ BK328 hg));have NB329_328:=Aside0.mk ((Hd.gt_ BK328 hg));replace BK328:=Aside0.mk (Hd.kb_ BK328 hb);clear hb hbox hg))
     replace BK328:=Aside0.mk (blk_drew BK328.out)
     replace BK329:=Aside0.mk (blk_drew BK329.out)
     replace HB:=Aside0.mk (below_drew1 HB.out)
     obtain ⟨s0_,s1_,s2_,s3_⟩:=Hd.HW.k4 (W0:=w17.drew) BK328
     obtain ⟨s4_,s5_⟩:=Hd.HW.k2 (W0:=w17.drew) BK329
     refine Hd.HW.region (by kernel_rfl) (by kernel_rfl) ?_
     try dsimp only [List.append]
     repeat (go_big_quiet_step ((first | (go_at_call 115;with_reducible exact Hd.HW.c (spec_IsSegment.calls a0_0 a0_1 a0_2 a0_3 true _ A3.out)) | (go_at_call 88;with_reducible exact Hd.HW.c (spec_IsPoint.calls a1_0 a1_1 true _ A5.out)) | (go_at_call 145;with_reducible exact Hd.HW.c (spec_l4Cross.calls a0_0 a0_1 a0_2 a0_3 a1_0 a1_1 t332 _ A7.out)) | (go_at_call 116;with_reducible exact Hd.HW.d (spec_Min.calls a0_0 a0_2 t333 _ A9.out)) | (go_at_call 86;with_reducible exact Hd.HW.d (spec_Max.calls a0_0 a0_2 t334 _ A10.out)) | (go_at_call 61;with_reducible exact Hd.HW.d (spec_l1In.calls a1_0 t333 t334 true _ A11.out)) | (go_at_call 116;with_reducible exact Hd.HW.d (spec_Min.calls a0_1 a0_3 t336 _ A13.out)) | (go_at_call 86;with_reducible exact Hd.HW.d (spec_Max.calls a0_1 a0_3 t337 _ A14.out)) | (go_at_call 61;with_reducible exact Hd.HW.d (spec_l1In.calls a1_1 t336 t337 t338 _ A15.out)))))
     refine wpQuiet_nil ?_
     intro _ hq_
     obtain ⟨q_,rfl⟩:=hq_
     clear s0_ s1_ s2_ s3_ s4_ s5_
     replace BK328:=Aside0.mk (blk_below BK328.out q_.b)
     replace BK329:=Aside0.mk (blk_below BK329.out q_.b)
     replace HB:=Aside0.mk (below_step HB.out q_.b)
     generalize q_.W = w21 at BK328 BK329 HB ⊢
     try simp only [i64_w,i32_w]
     try go_wp2
     go_ret
     exact ⟨Hd.e_,Hd.b_⟩
    ·
     replace c12:=Bool.eq_false_iff.mpr c12
     subst c12
     have H1 : (some false) = some r:=by rw [if_neg (show ¬ (false = true) by decide)] at H;exact H
     clear H
     have H:=H1
     clear H1
     obtain rfl:=Option.some.inj H
     go_enter Try.func144,Try.ntmps144
     try go_wp2_with (first | ((with_reducible refine gate_dst (N:=2) rfl ?_);refine Hd.box_ 2 (#[.int .i64 a0_0,.int .i64 a0_1,.int .i64 a0_2,.int .i64 a0_3]) 100 ?_;intro gb328 hg w22 hbox hb;have BK328:=Aside0.mk (hbox);have GW328:=Aside0.mk ((Hd.g_ hg Hd.b_ : w.heap.size ≤ gb328));have GE328:=Aside0.mk ((Hd.g_ hg Hd.b_ : w.heap.size ≤ gb328));replace HB:=Aside0.mk (below_step Hd.b_ hb);clear hb hbox hg) | ((with_reducible refine gate_dst (N:=3) rfl ?_);refine Hd.box_ 3 (#[.int .i64 a1_0,.int .i64 a1_1]) 63 ?_;intro gb329 hg w23 hbox hb;have BK329:=Aside0.mk (hbox);have GW329:=Aside0.mk ((Hd.g_ hg Hd.b_ : w.heap.size ≤ gb329));have GE329:=Aside0.mk ((Hd.g_ hg Hd.b_ : w.heap.size ≤ gb329));replace HB:=Aside0.mk (below_step Hd.b_ hb);have NB328_329:=Aside0.mk ((Hd.lt_ BK328 hg));have NB329_328:=Aside0.mk ((Hd.gt_ BK328 hg));replace BK328:=Aside0.mk (Hd.kb_ BK328 hb);clear hb hbox hg))
     replace BK328:=Aside0.mk (blk_drew BK328.out)
     replace BK329:=Aside0.mk (blk_drew BK329.out)
     replace HB:=Aside0.mk (below_drew1 HB.out)
     obtain ⟨s0_,s1_,s2_,s3_⟩:=Hd.HW.k4 (W0:=w23.drew) BK328
     obtain ⟨s4_,s5_⟩:=Hd.HW.k2 (W0:=w23.drew) BK329
     refine Hd.HW.region (by kernel_rfl) (by kernel_rfl) ?_
     try dsimp only [List.append]
     repeat (go_big_quiet_step ((first | (go_at_call 115;with_reducible exact Hd.HW.c (spec_IsSegment.calls a0_0 a0_1 a0_2 a0_3 true _ A3.out)) | (go_at_call 88;with_reducible exact Hd.HW.c (spec_IsPoint.calls a1_0 a1_1 true _ A5.out)) | (go_at_call 145;with_reducible exact Hd.HW.c (spec_l4Cross.calls a0_0 a0_1 a0_2 a0_3 a1_0 a1_1 t332 _ A7.out)) | (go_at_call 116;with_reducible exact Hd.HW.d (spec_Min.calls a0_0 a0_2 t333 _ A9.out)) | (go_at_call 86;with_reducible exact Hd.HW.d (spec_Max.calls a0_0 a0_2 t334 _ A10.out)) | (go_at_call 61;with_reducible exact Hd.HW.d (spec_l1In.calls a1_0 t333 t334 false _ A11.out)))))
     refine wpQuiet_nil ?_
     intro _ hq_
     obtain ⟨q_,rfl⟩:=hq_
     clear s0_ s1_ s2_ s3_ s4_ s5_
     replace BK328:=Aside0.mk (blk_below BK328.out q_.b)
     replace BK329:=Aside0.mk (blk_below BK329.out q_.b)
     replace HB:=Aside0.mk (below_step HB.out q_.b)
     generalize q_.W = w27 at BK328 BK329 HB ⊢
     try simp only [i64_w,i32_w]
     try go_wp2
     go_ret
     exact ⟨Hd.e_,Hd.b_⟩
   ·
    rw [if_neg c8] at H
    have c8b0 : (t332 == 0) = false:=beq_eq_false_iff_ne.mpr c8
    have c8b1 : (t332 != 0) = true:=bne_iff_ne.mpr c8
    obtain rfl:=Option.some.inj H
    go_enter Try.func144,Try.ntmps144
    try go_wp2_with (first | ((with_reducible refine gate_dst (N:=2) rfl ?_);refine Hd.box_ 2 (#[.int .i64 a0_0,.int .i64 a0_1,.int .i64 a0_2,.int .i64 a0_3]) 100 ?_;intro gb328 hg w28 hbox hb;have BK328:=Aside0.mk (hbox);have GW328:=Aside0.mk ((Hd.g_ hg Hd.b_ : w.heap.size ≤ gb328));have GE328:=Aside0.mk ((Hd.g_ hg Hd.b_ : w.heap.size ≤ gb328));replace HB:=Aside0.mk (below_step Hd.b_ hb);clear hb hbox hg) | ((with_reducible refine gate_dst (N:=3) rfl ?_);refine Hd.box_ 3 (#[.int .i64 a1_0,.int .i64 a1_1]) 63 ?_;intro gb329 hg w29 hbox hb;have BK329:=Aside0.mk (hbox);have GW329:=Aside0.mk ((Hd.g_ hg Hd.b_ : w.heap.size ≤ gb329));have GE329:=Aside0.mk ((Hd.g_ hg Hd.b_ : w.heap.size ≤ gb329));replace HB:=Aside0.mk (below_step Hd.b_ hb);have NB328_329:=Aside0.mk ((Hd.lt_ BK328 hg));have NB329_328:=Aside0.mk ((Hd.gt_ BK328 hg));replace BK328:=Aside0.mk (Hd.kb_ BK328 hb);clear hb hbox hg))
    replace BK328:=Aside0.mk (blk_drew BK328.out)
    replace BK329:=Aside0.mk (blk_drew BK329.out)
    replace HB:=Aside0.mk (below_drew1 HB.out)
    obtain ⟨s0_,s1_,s2_,s3_⟩:=Hd.HW.k4 (W0:=w29.drew) BK328
    obtain ⟨s4_,s5_⟩:=Hd.HW.k2 (W0:=w29.drew) BK329
    refine Hd.HW.region (by kernel_rfl) (by kernel_rfl) ?_
    try dsimp only [List.append]
    repeat (go_big_quiet_step ((first | (go_at_call 115;with_reducible exact Hd.HW.c (spec_IsSegment.calls a0_0 a0_1 a0_2 a0_3 true _ A3.out)) | (go_at_call 88;with_reducible exact Hd.HW.c (spec_IsPoint.calls a1_0 a1_1 true _ A5.out)) | (go_at_call 145;with_reducible exact Hd.HW.c (spec_l4Cross.calls a0_0 a0_1 a0_2 a0_3 a1_0 a1_1 t332 _ A7.out)))))
    refine wpQuiet_nil ?_
    intro _ hq_
    obtain ⟨q_,rfl⟩:=hq_
    clear s0_ s1_ s2_ s3_ s4_ s5_
    replace BK328:=Aside0.mk (blk_below BK328.out q_.b)
    replace BK329:=Aside0.mk (blk_below BK329.out q_.b)
    replace HB:=Aside0.mk (below_step HB.out q_.b)
    generalize q_.W = w33 at BK328 BK329 HB ⊢
    try simp only [i64_w,i32_w]
    try go_wp2
    go_ret
    exact ⟨Hd.e_,Hd.b_⟩
  ·
   replace c6:=Bool.eq_false_iff.mpr c6
   subst c6
   have H1 : (some false) = some r:=by rw [if_neg (show ¬ (false = true) by decide)] at H;exact H
   clear H
   have H:=H1
   clear H1
   obtain rfl:=Option.some.inj H
   go_enter Try.func144,Try.ntmps144
   try go_wp2_with (first | ((with_reducible refine gate_dst (N:=2) rfl ?_);refine Hd.box_ 2 (#[.int .i64 a0_0,.int .i64 a0_1,.int .i64 a0_2,.int .i64 a0_3]) 100 ?_;intro gb328 hg w34 hbox hb;have BK328:=Aside0.mk (hbox);have GW328:=Aside0.mk ((Hd.g_ hg Hd.b_ : w.heap.size ≤ gb328));have GE328:=Aside0.mk ((Hd.g_ hg Hd.b_ : w.heap.size ≤ gb328));replace HB:=Aside0.mk (below_step Hd.b_ hb);clear hb hbox hg) | ((with_reducible refine gate_dst (N:=3) rfl ?_);refine Hd.box_ 3 (#[.int .i64 a1_0,.int .i64 a1_1]) 63 ?_;intro gb329 hg w35 hbox hb;have BK329:=Aside0.mk (hbox);have GW329:=Aside0.mk ((Hd.g_ hg Hd.b_ : w.heap.size ≤ gb329));have GE329:=Aside0.mk ((Hd.g_ hg Hd.b_ : w.heap.size ≤ gb329));replace HB:=Aside0.mk (below_step Hd.b_ hb);have NB328_329:=Aside0.mk ((Hd.lt_ BK328 hg));have NB329_328:=Aside0.mk ((Hd.gt_ BK328 hg));replace BK328:=Aside0.mk (Hd.kb_ BK328 hb);clear hb hbox hg))
   replace BK328:=Aside0.mk (blk_drew BK328.out)
   replace BK329:=Aside0.mk (blk_drew BK329.out)
   replace HB:=Aside0.mk (below_drew1 HB.out)
   obtain ⟨s0_,s1_,s2_,s3_⟩:=Hd.HW.k4 (W0:=w35.drew) BK328
   obtain ⟨s4_,s5_⟩:=Hd.HW.k2 (W0:=w35.drew) BK329
   refine Hd.HW.region (by kernel_rfl) (by kernel_rfl) ?_
   try dsimp only [List.append]
   repeat (go_big_quiet_step ((first | (go_at_call 115;with_reducible exact Hd.HW.c (spec_IsSegment.calls a0_0 a0_1 a0_2 a0_3 true _ A3.out)) | (go_at_call 88;with_reducible exact Hd.HW.c (spec_IsPoint.calls a1_0 a1_1 false _ A5.out)))))
   refine wpQuiet_nil ?_
   intro _ hq_
   obtain ⟨q_,rfl⟩:=hq_
   clear s0_ s1_ s2_ s3_ s4_ s5_
   replace BK328:=Aside0.mk (blk_below BK328.out q_.b)
   replace BK329:=Aside0.mk (blk_below BK329.out q_.b)
   replace HB:=Aside0.mk (below_step HB.out q_.b)
   generalize q_.W = w38 at BK328 BK329 HB ⊢
   try simp only [i64_w,i32_w]
   try go_wp2
   go_ret
   exact ⟨Hd.e_,Hd.b_⟩
 ·
  replace c4:=Bool.eq_false_iff.mpr c4
  subst c4
  have H1 : (some false) = some r:=by rw [if_neg (show ¬ (false = true) by decide)] at H;exact H
  clear H
  have H:=H1
  clear H1
  obtain rfl:=Option.some.inj H
  go_enter Try.func144,Try.ntmps144
  try go_wp2_with (first | ((with_reducible refine gate_dst (N:=2) rfl ?_);refine Hd.box_ 2 (#[.int .i64 a0_0,.int .i64 a0_1,.int .i64 a0_2,.int .i64 a0_3]) 100 ?_;intro gb328 hg w39 hbox hb;have BK328:=Aside0.mk (hbox);have GW328:=Aside0.mk ((Hd.g_ hg Hd.b_ : w.heap.size ≤ gb328));have GE328:=Aside0.mk ((Hd.g_ hg Hd.b_ : w.heap.size ≤ gb328));replace HB:=Aside0.mk (below_step Hd.b_ hb);clear hb hbox hg) | ((with_reducible refine gate_dst (N:=3) rfl ?_);refine Hd.box_ 3 (#[.int .i64 a1_0,.int .i64 a1_1]) 63 ?_;intro gb329 hg w40 hbox hb;have BK329:=Aside0.mk (hbox);have GW329:=Aside0.mk ((Hd.g_ hg Hd.b_ : w.heap.size ≤ gb329));have GE329:=Aside0.mk ((Hd.g_ hg Hd.b_ : w.heap.size ≤ gb329));replace HB:=Aside0.mk (below_step Hd.b_ hb);have NB328_329:=Aside0.mk ((Hd.lt_ BK328 hg));have NB329_328:=Aside0.mk ((Hd.gt_ BK328 hg));replace BK328:=Aside0.mk (Hd.kb_ BK328 hb);clear hb hbox hg))
  replace BK328:=Aside0.mk (blk_drew BK328.out)
  replace BK329:=Aside0.mk (blk_drew BK329.out)
  replace HB:=Aside0.mk (below_drew1 HB.out)
  obtain ⟨s0_,s1_,s2_,s3_⟩:=Hd.HW.k4 (W0:=w40.drew) BK328
  refine Hd.HW.region (by kernel_rfl) (by kernel_rfl) ?_
  try dsimp only [List.append]
  repeat (go_big_quiet_step ((first | (go_at_call 115;with_reducible exact Hd.HW.c (spec_IsSegment.calls a0_0 a0_1 a0_2 a0_3 false _ A3.out)))))
  refine wpQuiet_nil ?_
  intro _ hq_
  obtain ⟨q_,rfl⟩:=hq_
  clear s0_ s1_ s2_ s3_
  replace BK328:=Aside0.mk (blk_below BK328.out q_.b)
  replace BK329:=Aside0.mk (blk_below BK329.out q_.b)
  replace HB:=Aside0.mk (below_step HB.out q_.b)
  generalize q_.W = w42 at BK328 BK329 HB ⊢
  try simp only [i64_w,i32_w]
  try go_wp2
  go_ret
  exact ⟨Hd.e_,Hd.b_⟩
end Go.Proofs.Ytchmbcembbbplad.MFnExactMeetsOf
