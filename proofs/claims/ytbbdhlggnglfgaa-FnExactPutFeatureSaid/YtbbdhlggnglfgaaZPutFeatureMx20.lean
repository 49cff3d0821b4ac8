-- Laid by this session's program pp.py, after the kit's print and texts of the session's own. Not trusted: Lean checks it.
import Derived.Test.YtbbdhlggnglfgaaZPutFeatureMx0
import Derived.Test.YtbbdhlggnglfgaaZPutFeatureMx2
import Derived.Test.YtbbdhlggnglfgaaZPutFeatureMx8
import Derived.Test.YtbbdhlggnglfgaaZPutFeatureMx9
import Derived.Test.YtbbdhlggnglfgaaZPutFeatureMx17
import Derived.Test.YtbbdhlggnglfgaaZPutFeatureMx18
import Derived.Test.YtbbdhlggnglfgaaZPutFeatureMx19
namespace Go.Proofs.Ytbbdhlggnglfgaa.MFnExactPutFeature
open Go.RowKit Go.Proofs.YtbbdhlggnglfgaaW.PrintWords Go.Proofs.YtbbdhlggnglfgaaW.PrintLast Go.Proofs.YtbbdhlggnglfgaaW.PrintMore
attribute [local go_sem] max2_int min2_int max_two min_two max_three min_three max_four min_four   -- for this text's walks alone
set_option linter.unusedVariables false
set_option linter.unusedSimpArgs false
def laws_FnExactPutFeature.f (k : Nat) (l0 : List S25) (a1_0 : Int) (a1_1 : Int) (a1_2 : Int) (a1_3 : ByteArray) (l1_4 : List S84) : Option Bool:=(laws_szFeatureS.f k l0 1048576).bind fun t0 => if t0 < 0 then some true else
  (laws_szFeature.f a1_0 a1_1 a1_2 a1_3 l1_4 t0).bind fun t1 => if t1 < 0 then some true else
  (laws_toFeatureS.f k l0).bind fun x => (laws_toFeature.f k a1_0 a1_1 a1_2 a1_3 l1_4).bind fun p => (spec_PutFeature.f k x p.1 p.2.1 p.2.2.1 p.2.2.2.1 p.2.2.2.2).bind fun s => (impl_PutFeature.f k x p.1 p.2.1 p.2.2.1 p.2.2.2.1 p.2.2.2.2).bind fun g =>
  (laws_eqFeatureS.f k g.1 s.1).bind fun e1 => (laws_eqFeatureS.f k x x).bind fun e2 => (laws_eqFeature.f k p.1 p.2.1 p.2.2.1 p.2.2.2.1 p.2.2.2.2 p.1 p.2.1 p.2.2.1 p.2.2.2.1 p.2.2.2.2).bind fun e3 => (laws_markFeatureS.f k x 1).bind fun my => (laws_markFeature.f k p.1 p.2.1 p.2.2.1 p.2.2.2.1 p.2.2.2.2 my.1).bind fun mf => (laws_markFeatureS.f k g.1 1).bind fun mg => (laws_heldFeatureS.f k mg.2 1).bind fun q =>
  if e1 = true ∧ e2 = true ∧ e3 = true ∧ g.2 = s.2 ∧ 0 ≤ mf.1 ∧ q = mg.1 ∧ 0 ≤ q then some true else none
def laws_FnExactPutFeature.T8 : Bool × List (List Nat × List Nat):=(true,[([],[]),([0],[0]),([],[]),([2,1],[2]),([1,3,3],[1,3]),([4],[4]),([5],[5]),([5],[5]),([6,4,0,1,2,3,4,5,6],[6]),([7,8,0,1,2,3,4,5,6,7,8],[7])])
def laws_FnExactPutFeature.B8 : List Nat:=[0,1,0,7,15,31,63,63,127,511]
theorem laws_FnExactPutFeature.tab8 : rtab .any (opsOf Try.f3 8) = laws_FnExactPutFeature.T8:=by kernel_rfl
theorem laws_FnExactPutFeature.bits8 : waitsOk laws_FnExactPutFeature.T8.2 laws_FnExactPutFeature.B8 = true:=by kernel_rfl
def laws_FnExactPutFeature.T16 : Bool × List (List Nat × List Nat):=(true,[([],[]),([],[]),([1],[1]),([0,2,2],[0,2]),([3],[3])])
def laws_FnExactPutFeature.B16 : List Nat:=[0,0,2,7,15]
theorem laws_FnExactPutFeature.tab16 : rtab .any (opsOf Try.f3 16) = laws_FnExactPutFeature.T16:=by kernel_rfl
theorem laws_FnExactPutFeature.bits16 : waitsOk laws_FnExactPutFeature.T16.2 laws_FnExactPutFeature.B16 = true:=by kernel_rfl
def laws_FnExactPutFeature.T31 : Bool × List (List Nat × List Nat):=(true,[([],[]),([0],[0]),([],[]),([2,1],[2]),([1,3,3],[1,3]),([4],[4]),([5],[5]),([5],[5]),([6,4,0,1,2,3,4,5,6],[6]),([7,8,0,1,2,3,4,5,6,7,8],[7])])
def laws_FnExactPutFeature.B31 : List Nat:=[0,1,0,7,15,31,63,63,127,511]
theorem laws_FnExactPutFeature.tab31 : rtab .any (opsOf Try.f3 31) = laws_FnExactPutFeature.T31:=by kernel_rfl
theorem laws_FnExactPutFeature.bits31 : waitsOk laws_FnExactPutFeature.T31.2 laws_FnExactPutFeature.B31 = true:=by kernel_rfl
section
variable {α : Type} {d : Kd α} {e b0 n c : Nat} {w W w' : World} {A : Option Addr} {v u z : Value} {xs ys zs : List α} {PY PS PG PR : Nat → Prop}
theorem laws_FnExactPutFeature.s_ {P Q : Prop} (a : Aside0 P) (h : P → Q:=by intro h_;(with_reducible repeat (first | apply Kd.S_alloc | apply Kd.S_drewN | apply Kd.S_drew));exact h_) : Q:=h a.out
theorem laws_FnExactPutFeature.n_ {P Q : Prop} (a : Aside0 P) (h : P → Q:=by intro h_;(with_reducible repeat (first | apply Kd.N_alloc | apply Kd.N_drewN | apply Kd.N_drew));exact h_) : Q:=h a.out
theorem laws_FnExactPutFeature.own4 (hs : Kd.N d e W b0 PS u ys) (ho : Kd.S d e w' W.heap.size (fun _ => True) v xs) (hB : Below w.heap.size w W) (hb : Below W.heap.size W w') {g : Nat} {o : Obj} (h3 : W.heap[g]? = some o) : ∃ a,g < a ∧ Kd.S d e w' w.heap.size (fun k => a ≤ k) v xs ∧ Kd.N d e w' 0 (fun k => k < a) u ys :=
  ⟨W.heap.size,blk_lt h3,Kd.S_lower (Kd.S_mono (Kd.S_bound ho) (fun _ hk => hk.2.1)) hB.size,Kd.N_lower (Kd.N_mono (Kd.N_old hs hb) (fun _ hk => hk.2)) (Nat.zero_le _)⟩
theorem laws_FnExactPutFeature.ownz {α' : Type} {d' : Kd α'} {e' : Nat} {xs' : List α'} {a : Nat} (hs : Kd.N d e W b0 (fun k => k < a) u ys) (hy : Kd.S d e W w.heap.size (fun k => a ≤ k) z zs) (ho : Kd.R d' e' w' W.heap.size (fun _ => True) v xs') (hB : Below w.heap.size w W) (hb : Below W.heap.size W w') {g : Nat} {o : Obj} (h3 : W.heap[g]? = some o) :
    ∃ b,g < b ∧ b ≤ w'.heap.size ∧ Kd.R d' e' w' w.heap.size (fun k => b ≤ k) v xs' ∧ Kd.S d e w' w.heap.size (fun k => a ≤ k ∧ k < b) z zs ∧ Kd.N d e w' b0 (fun k => k < a ∧ k < b) u ys :=
  ⟨W.heap.size,blk_lt h3,hb.size,Kd.R_lower (Kd.R_mono (Kd.R_bound ho) (fun _ hk => hk.2.1)) hB.size,Kd.S_mono (Kd.S_below (Kd.S_bound hy) hb) (fun _ hk => ⟨hk.1,hk.2.2.1⟩),Kd.N_old hs hb⟩
theorem laws_FnExactPutFeature.owng (ho : Kd.S d e w' W.heap.size (fun k => W.heap.size ≤ k) v xs) (hB : Below w.heap.size w W) {g : Nat} {o : Obj} (h3 : W.heap[g]? = some o) : ∃ cc,g < cc ∧ Kd.S d e w' w.heap.size (fun k => cc ≤ k) v xs:=⟨W.heap.size,blk_lt h3,Kd.S_lower ho hB.size⟩
theorem laws_FnExactPutFeature.five {w6 : World} {gz t : Nat} {cs : Array Value} (h5 : cs.size = 5) (h : w6.heap[gz]? = some (.cells cs t (0,0))) (v0 v1 v2 v3 v4 : Value) : (w6.setCells gz 0 [v0,v1,v2,v3,v4]).heap[gz]? = some (.cells #[v0,v1,v2,v3,v4] t (0,0)) ∧ w6.grownBy (w6.setCells gz 0 [v0,v1,v2,v3,v4]) (some gz):=by
  obtain ⟨cur',h3,h4,h6⟩:=setCells_row [v0,v1,v2,v3,v4] 0 w6 cs h (by simp [h5])
  obtain ⟨s1,s2,s3,s4⟩:=setCells_same gz [v0,v1,v2,v3,v4] 0 w6
  have e : cur' = #[v0,v1,v2,v3,v4]:=by
    apply Array.toList_inj.1
    rw [h6,List.take_zero,List.nil_append,List.drop_of_length_le (by simp [h5]),List.append_nil]
  rw [e] at h3
  exact ⟨h3,s1,s2,s3,by rw [s4];exact Nat.le_refl _,fun k _ hk => setCells_far _ _ k (fun e => hk (by rw [e]))⟩
end
theorem laws_FnExactPutFeature.held (k : Nat) (A : Option Addr) (n c : Nat) (l : List S34) (a r : Int) (w : World) (hn : n = l.length) (hr : Kd.C k34 w A l.length l) (hc : n ≤ c) (h : laws_heldFeatureS.f k l a = some r) :
    Calls Try.prog 17 #[.slice A n c,.int .i64 a] w fun e w' => e = .returned (.int .i64 r) ∧ Below w.heap.size w w':=by
  subst hn;exact laws_heldFeatureS.calls k A c l a r w hr hc h
set_option maxHeartbeats 16000000 in
set_option maxRecDepth 100000 in
theorem laws_FnExactPutFeature.calls (k : Nat) (A0 : Option Addr) (c0 : Nat) (l0 : List S25) (a1_0 : Int) (a1_1 : Int) (a1_2 : Int) (a1_3 : ByteArray) (A1_4 : Option Addr) (c1_4 : Nat) (l1_4 : List S84) (r : Bool) (w : World) (hr0 : Kd.C k25 w A0 l0.length l0) (hc0 : l0.length ≤ c0) (hr1_4 : Kd.C k84 w A1_4 l1_4.length l1_4) (hc1_4 : l1_4.length ≤ c1_4) (h : laws_FnExactPutFeature.f k l0 a1_0 a1_1 a1_2 a1_3 l1_4 = some r) :
    Calls Try.prog 3 #[.slice A0 l0.length c0,.agg #[.int .i64 a1_0,.int .i64 a1_1,.int .i64 a1_2,.string a1_3,.slice A1_4 l1_4.length c1_4]] w fun e w' => e = .returned (.bool r) ∧ Below w.heap.size w w':=by
  unfold laws_FnExactPutFeature.f at h
  replace h:=Option.bind_eq_some_iff.1 h;obtain ⟨t0,h0,h⟩:=h
  have HR:=ak hr0
  have HC:=ak hc0
  have HR1:=ak hr1_4
  have HC1:=ak hc1_4
  have H0:=ak h0
  have HB:=ak (Below.refl w.heap.size w)
  clear hr0 hc0 h0 hr1_4 hc1_4
  by_cases c : t0 < 0
  · rw [if_pos c] at h
    obtain rfl:=Option.some.inj h
    have b0:=decide_eq_true c
    clear h c
    go_enter Try.func3,Try.ntmps3
    go_wp2_with (first | ((with_reducible refine gate_dst (N:=3) rfl ?_);refine Hd.box_ 3 (#[.int .i64 a1_0,.int .i64 a1_1,.int .i64 a1_2,.string a1_3,.slice A1_4 l1_4.length c1_4]) 25 ?_;intro gb3 hg wb hbox hb;have BK3:=ak hbox;replace HB:=ak (below_step Hd.b_ hb);clear hb hbox hg;obtain ⟨hcb0,hcb1,hcb2,hcb3,hcb4⟩:=Hd.c5_ BK3.out;obtain ⟨hfb0,hfb1,hfb2,hfb3,hfb4⟩:=Hd.f5_ BK3.out) | (go_at_call 7;(with_reducible refine (laws_szFeatureS.calls k A0 c0 l0 1048576 t0 _ (Kd.C_below HR.out Hd.b_) HC.out H0.out).mono ?_);rintro e w1 ⟨rfl,hb⟩;replace BK3:=ak (Hd.kb_ BK3 hb);replace HB:=ak (below_step Hd.b_ hb);clear hb;obtain ⟨hca0,hca1,hca2,hca3,hca4⟩:=Hd.c5_ BK3.out;obtain ⟨hfa0,hfa1,hfa2,hfa3,hfa4⟩:=Hd.f5_ BK3.out))
    go_ret
    exact ⟨rfl,Hd.b_⟩
  rw [if_neg c] at h
  have b0:=decide_eq_false c
  clear c
  replace h:=Option.bind_eq_some_iff.1 h;obtain ⟨t1,h1,h⟩:=h
  have H1:=ak h1
  clear h1
  by_cases c : t1 < 0
  · rw [if_pos c] at h
    obtain rfl:=Option.some.inj h
    have b1:=decide_eq_true c
    clear h c
    go_enter Try.func3,Try.ntmps3
    go_wp2_with (first | ((with_reducible refine gate_dst (N:=3) rfl ?_);refine Hd.box_ 3 (#[.int .i64 a1_0,.int .i64 a1_1,.int .i64 a1_2,.string a1_3,.slice A1_4 l1_4.length c1_4]) 25 ?_;intro gb3 hg wb hbox hb;have BK3:=ak hbox;replace HB:=ak (below_step Hd.b_ hb);clear hb hbox hg;obtain ⟨hcb0,hcb1,hcb2,hcb3,hcb4⟩:=Hd.c5_ BK3.out;obtain ⟨hfb0,hfb1,hfb2,hfb3,hfb4⟩:=Hd.f5_ BK3.out) | (go_at_call 7;(with_reducible refine (laws_szFeatureS.calls k A0 c0 l0 1048576 t0 _ (Kd.C_below HR.out Hd.b_) HC.out H0.out).mono ?_);rintro e w1 ⟨rfl,hb⟩;replace BK3:=ak (Hd.kb_ BK3 hb);replace HB:=ak (below_step Hd.b_ hb);clear hb;obtain ⟨hca0,hca1,hca2,hca3,hca4⟩:=Hd.c5_ BK3.out;obtain ⟨hfa0,hfa1,hfa2,hfa3,hfa4⟩:=Hd.f5_ BK3.out) | (go_at_call 8;(with_reducible refine (laws_szFeature.calls a1_0 a1_1 a1_2 a1_3 A1_4 c1_4 l1_4 t0 t1 _ (Kd.C_below HR1.out Hd.b_) HC1.out H1.out).mono ?_);rintro e w2 ⟨rfl,hb⟩;replace BK3:=ak (Hd.kb_ BK3 hb);replace HB:=ak (below_step Hd.b_ hb);clear hb))
    go_ret
    exact ⟨rfl,Hd.b_⟩
  rw [if_neg c] at h
  have b1:=decide_eq_false c
  clear c
  replace h:=Option.bind_eq_some_iff.1 h;obtain ⟨x,hx,h⟩:=h
  replace h:=Option.bind_eq_some_iff.1 h;obtain ⟨⟨p1,p2,p3,p4,p5⟩,hp,h⟩:=h
  replace h:=Option.bind_eq_some_iff.1 h;obtain ⟨⟨s1,s2⟩,hs,h⟩:=h
  replace h:=Option.bind_eq_some_iff.1 h;obtain ⟨⟨g1,g2⟩,hg,h⟩:=h
  replace h:=Option.bind_eq_some_iff.1 h;obtain ⟨e1,he1,h⟩:=h
  replace h:=Option.bind_eq_some_iff.1 h;obtain ⟨e2,he2,h⟩:=h
  replace h:=Option.bind_eq_some_iff.1 h;obtain ⟨e3,he3,h⟩:=h
  replace h:=Option.bind_eq_some_iff.1 h;obtain ⟨⟨y1,y2⟩,hy,h⟩:=h
  replace h:=Option.bind_eq_some_iff.1 h;obtain ⟨⟨z1,z2⟩,hz,h⟩:=h
  replace h:=Option.bind_eq_some_iff.1 h;obtain ⟨⟨m1,m2⟩,hm,h⟩:=h
  replace h:=Option.bind_eq_some_iff.1 h;obtain ⟨q,hq,h⟩:=h
  dsimp only at h hs hg he1 he2 he3 hz hm hq
  by_cases hc : e1 = true ∧ e2 = true ∧ e3 = true ∧ g2 = s2 ∧ 0 ≤ z1 ∧ q = m1 ∧ 0 ≤ q
  case neg => rw [if_neg hc] at h;cases h
  rw [if_pos hc] at h
  obtain rfl:=Option.some.inj h
  obtain ⟨rfl,rfl,rfl,rfl,q1,rfl,q2⟩:=hc
  have d1 : decide (z1 < 0) = false:=decide_eq_false (by omega)
  have d2 : decide (q < 0) = false:=decide_eq_false (by omega)
  have d3 : (q != q) = false:=by simp
  have d4 : (q == q) = true:=by simp
  clear h q1 q2
  have HX:=ak hx
  have HP:=ak hp
  have HSP:=ak hs
  have HIM:=ak hg
  have HE1:=ak he1
  have HE2:=ak he2
  have HE3:=ak he3
  have HMY:=ak hy
  have HMZ:=ak hz
  have HMG:=ak hm
  have HQ:=ak hq
  clear hx hp hs hg he1 he2 he3 hy hz hm hq
  have K1:=ak trivial
  have K2:=ak trivial
  have K3:=ak trivial
  have K4:=ak trivial
  have K5:=ak trivial
  have K6:=ak trivial
  have K7:=ak trivial
  have K8:=ak trivial
  have K9:=ak trivial
  have K10:=ak trivial
  have K11:=ak trivial
  cases g2 <;> (
    go_enter Try.func3,Try.ntmps3
    try go_wp2_with (first | ((with_reducible refine gate_dst (N:=3) rfl ?_);refine Hd.box_ 3 (#[.int .i64 a1_0,.int .i64 a1_1,.int .i64 a1_2,.string a1_3,.slice A1_4 l1_4.length c1_4]) 25 ?_;intro gb3 hg wb hbox hb;have BK3:=ak hbox;replace HB:=ak (below_step Hd.b_ hb);clear hb hbox hg;obtain ⟨hcb0,hcb1,hcb2,hcb3,hcb4⟩:=Hd.c5_ BK3.out;obtain ⟨hfb0,hfb1,hfb2,hfb3,hfb4⟩:=Hd.f5_ BK3.out) | (go_at_call 7;(with_reducible refine (laws_szFeatureS.calls k A0 c0 l0 1048576 t0 _ (Kd.C_below HR.out Hd.b_) HC.out H0.out).mono ?_);rintro e w1 ⟨rfl,hb⟩;replace BK3:=ak (Hd.kb_ BK3 hb);replace HB:=ak (below_step Hd.b_ hb);clear hb;obtain ⟨hca0,hca1,hca2,hca3,hca4⟩:=Hd.c5_ BK3.out;obtain ⟨hfa0,hfa1,hfa2,hfa3,hfa4⟩:=Hd.f5_ BK3.out) | (go_at_call 8;(with_reducible refine (laws_szFeature.calls a1_0 a1_1 a1_2 a1_3 A1_4 c1_4 l1_4 t0 t1 _ (Kd.C_below HR1.out Hd.b_) HC1.out H1.out).mono ?_);rintro e w2 ⟨rfl,hb⟩;replace BK3:=ak (Hd.kb_ BK3 hb);replace HB:=ak (below_step Hd.b_ hb);clear hb))
    replace BK3:=ak (blk_drew BK3.out)
    replace HB:=ak (below_drew1 HB.out)
    refine start_ (n:=10) (S:=fun w' => w'.cell? ⟨gb3,0,none⟩ = some (.int .i64 a1_0) ∧ w'.cell? ⟨gb3,1,none⟩ = some (.int .i64 a1_1) ∧ w'.cell? ⟨gb3,2,none⟩ = some (.int .i64 a1_2) ∧ w'.cell? ⟨gb3,3,none⟩ = some (.string a1_3) ∧ w'.cell? ⟨gb3,4,none⟩ = some (.slice A1_4 l1_4.length c1_4)) (ds:=[]) #[N_,N_,N_,N_,N_,N_,N_,N_,N_,N_] (by kernel_rfl) rfl rfl ⟨(blk_cell BK3.out 0).trans rfl,(blk_cell BK3.out 1).trans rfl,(blk_cell BK3.out 2).trans rfl,(blk_cell BK3.out 3).trans rfl,(blk_cell BK3.out 4).trans rfl⟩ (fun hHeld => ?_);refine with_tabW laws_FnExactPutFeature.tab8 laws_FnExactPutFeature.bits8 (fun HT_ HW_ => ?_)
    generalize w2.drew = w3 at BK3 HB hHeld ⊢
    refine Hd.p_ HT_ 0 (some 28) #[Y_,N_,N_,N_,N_,N_,N_,N_,N_,N_] ?_
    refine Hd.t_ HT_ HW_ hHeld 2 (some 30) #[Y_,N_,Y_,N_,N_,N_,N_,N_,N_,N_] ?_
    refine Hd.o_ HT_ 1 (some 29) #[Y_,Y_,Y_,N_,N_,N_,N_,N_,N_,N_] (fun K hK => ?_)
    refine goes_ Try.func10 (by kernel_rfl) rfl #[.slice A0 l0.length c0] (by rfl) rfl rfl Hd.m_ ?_
    (with_reducible refine (laws_toFeatureS.calls k A0 c0 l0 x _ (Kd.C_below HR.out Hd.b_) HC.out HX.out).mono ?_)
    rintro e wx ⟨vx,rfl,ho,hb⟩
    refine ⟨_,rfl,?_⟩
    obtain ⟨Ax,cx,rfl⟩:=Kd.S_slice ho
    have HS:=ak ho
    replace BK3:=ak (Hd.kb_ BK3 hb);replace HB:=ak (below_step Hd.b_ hb)
    clear hb ho
    refine hK.out _ _ ⟨(blk_cell BK3.out 0).trans rfl,(blk_cell BK3.out 1).trans rfl,(blk_cell BK3.out 2).trans rfl,(blk_cell BK3.out 3).trans rfl,(blk_cell BK3.out 4).trans rfl⟩ (fun hHeld => ?_)
    clear hK K
    refine Hd.n_ (some 29) ?_
    refine Hd.o_ HT_ 3 (some 31) #[Y_,Y_,Y_,Y_,N_,N_,N_,N_,N_,N_] (fun K hK => ?_)
    refine goes_ Try.func11 (by kernel_rfl) rfl #[.agg #[.int .i64 a1_0,.int .i64 a1_1,.int .i64 a1_2,.string a1_3,.slice A1_4 l1_4.length c1_4]] (by rfl) rfl rfl Hd.m_ ?_
    (with_reducible refine (laws_toFeature.calls k a1_0 a1_1 a1_2 a1_3 A1_4 c1_4 l1_4 p1 p2 p3 p4 p5 _ (Kd.C_below HR1.out Hd.b_) HC1.out HP.out).mono ?_)
    rintro e wp ⟨vp,rfl,ho,hb⟩
    refine ⟨_,rfl,?_⟩
    obtain ⟨Ap,cp,rfl⟩:=Kd.R_slice ho
    have HPR:=ak ho
    replace HS:=ak (Kd.S_below (laws_FnExactPutFeature.s_ HS) hb)
    replace BK3:=ak (Hd.kb_ BK3 hb);replace HB:=ak (below_step Hd.b_ hb)
    clear hb ho
    refine hK.out _ _ ⟨(blk_cell BK3.out 0).trans rfl,(blk_cell BK3.out 1).trans rfl,(blk_cell BK3.out 2).trans rfl,(blk_cell BK3.out 3).trans rfl,(blk_cell BK3.out 4).trans rfl⟩ (fun hHeld => ?_)
    clear hK K
    refine Hd.n_ (some 31) ?_
    refine Hd.o_ HT_ 4 (some 32) #[Y_,Y_,Y_,Y_,Y_,N_,N_,N_,N_,N_] (fun K hK => ?_)
    refine goes_ Try.func9 (by kernel_rfl) rfl #[.slice Ax x.length cx,.agg #[.int .i64 p1,.int .i64 p2,.int .i64 p3,.string p4,.slice Ap p5.length cp]] (by rfl) rfl rfl Hd.m_ ?_
    (with_reducible refine (spec_PutFeature.calls k (fun _ => True) Ax cx x p1 p2 p3 p4 Ap cp p5 s1 _ _ ?side1 ?side2 ?side3 HSP.out).mono ?_)
    (case side1 => exact Kd.V_mono (Kd.S_V (laws_FnExactPutFeature.s_ HS)) (fun _ _ => trivial))
    (case side2 => exact (Kd.R_reads' (Hd.r_ HPR)).2.2)
    (case side3 => exact (Kd.R_reads' HPR.out).2.1)
    rintro e ws ⟨vs,rfl,ho,hb⟩
    refine ⟨_,rfl,?_⟩
    obtain ⟨As,cs,rfl⟩:=Kd.N_slice ho
    clear HS HPR
    have HS:=ak ho
    replace BK3:=ak (Hd.kb_ BK3 hb);replace HB:=ak (below_step Hd.b_ hb)
    clear hb ho
    refine hK.out _ _ ⟨(blk_cell BK3.out 0).trans rfl,(blk_cell BK3.out 1).trans rfl,(blk_cell BK3.out 2).trans rfl,(blk_cell BK3.out 3).trans rfl,(blk_cell BK3.out 4).trans rfl⟩ (fun hHeld => ?_)
    clear hK K
    refine Hd.n_ (some 32) ?_
    refine Hd.p_ HT_ 5 (some 27) #[Y_,Y_,Y_,Y_,Y_,Y_,N_,N_,N_,N_] ?_
    refine Hd.p_ HT_ 6 (some 33) #[Y_,Y_,Y_,Y_,Y_,Y_,Y_,N_,N_,N_] ?_
    refine Hd.p_ HT_ 7 (some 34) #[Y_,Y_,Y_,Y_,Y_,Y_,Y_,Y_,N_,N_] ?_
    refine Hd.p_ HT_ 8 (some 6) #[Y_,Y_,Y_,Y_,Y_,Y_,Y_,Y_,Y_,N_] ?_
    refine Hd.p_ HT_ 9 (some 7) #[Y_,Y_,Y_,Y_,Y_,Y_,Y_,Y_,Y_,Y_] ?_
    refine done_ (done_of HT_.out (by kernel_rfl)) ?_
    clear hHeld HT_ HW_
    try go_wp2_with (first | (clear K1;go_at_call 10;(with_reducible refine (laws_toFeatureS.calls k A0 c0 l0 x _ (Kd.C_below HR.out Hd.b_) HC.out HX.out).mono ?_);rintro e w4 ⟨vy,rfl,ho,hb⟩;obtain ⟨a,ha,hy,hs⟩:=laws_FnExactPutFeature.own4 (laws_FnExactPutFeature.n_ HS) ho Hd.b_ hb (Hd.k_ BK3);obtain ⟨Ay,cy,rfl⟩:=Kd.S_slice ho;clear HS;have HA:=ak ha;have HY:=ak hy;have HS:=ak hs;replace BK3:=ak (Hd.kb_ BK3 hb);replace HB:=ak (below_step Hd.b_ hb);clear hb ho ha hy hs;obtain ⟨hcc0,hcc1,hcc2,hcc3,hcc4⟩:=Hd.c5_ BK3.out;obtain ⟨hfc0,hfc1,hfc2,hfc3,hfc4⟩:=Hd.f5_ BK3.out) | (clear K2;go_at_call 11;(with_reducible refine (laws_toFeature.calls k a1_0 a1_1 a1_2 a1_3 A1_4 c1_4 l1_4 p1 p2 p3 p4 p5 _ (Kd.C_below HR1.out Hd.b_) HC1.out HP.out).mono ?_);rintro e w5 ⟨vz,rfl,ho,hb⟩;obtain ⟨bb,hb3,hbz,hz,hy,hs⟩:=laws_FnExactPutFeature.ownz (laws_FnExactPutFeature.n_ HS) (laws_FnExactPutFeature.s_ HY) ho Hd.b_ hb (Hd.k_ BK3);obtain ⟨Az,cz,rfl⟩:=Kd.R_slice ho;clear HS HY;have HF:=ak (And.intro hb3 hbz);have HZ:=ak hz;have HY:=ak hy;have HS:=ak hs;replace BK3:=ak (Hd.kb_ BK3 hb);replace HB:=ak (below_step Hd.b_ hb);clear hb ho hb3 hbz hz hy hs) | ((with_reducible refine gate_dst (N:=9) rfl ?_);refine Hd.box_ 9 (#[.int .i64 0,.int .i64 0,.int .i64 0,.string (⟨#[]⟩ : ByteArray),.slice none 0 0]) 34 ?_;intro gz hg w6 hbox hb;have BZ:=ak hbox;have GZ:=ak (show w.heap.size ≤ gz ∧ gb3 < bb ∧ bb ≤ gz by rw [hg];exact ⟨below_size Hd.b_,HF.out⟩);replace HZ:=ak (show Kd.R k75 75 w6 w.heap.size (fun k => bb ≤ k ∧ k < gz) (.slice Az p5.length cz) p5 from by rw [hg];exact Kd.R_mono (Kd.R_below (Kd.R_bound (Hd.r_ HZ)) hb) (fun _ hk => ⟨hk.1,hk.2.2.1⟩));replace HY:=z62_;replace HS:=z34_;replace BK3:=ak (Hd.kb_ BK3 hb);replace HB:=ak (below_step Hd.b_ hb);clear hb hbox hg HF;obtain ⟨hcd0,hcd1,hcd2,hcd3,hcd4⟩:=Hd.c5_ BZ.out;obtain ⟨hfd0,hfd1,hfd2,hfd3,hfd4⟩:=Hd.f5_ BZ.out) | ((with_reducible refine gate_store (t:=34) (p:=9) rfl ?_);refine store_event (t:=34) (p:=9) (v:=?vo_1) (w1:=(((((w6.setCell ⟨gz,0,none⟩ (.int .i64 p1)).setCell ⟨gz,1,none⟩ (.int .i64 p2)).setCell ⟨gz,2,none⟩ (.int .i64 p3)).setCell ⟨gz,3,none⟩ (.string p4)).setCell ⟨gz,4,none⟩ (.slice Az p5.length cz))) ?hg ?ho ?hn ?hr ?_;(case ho => rfl);(case hg => rfl);(case hn => rfl);(case hr => exact z24_);intro w7 hw;obtain ⟨hbz,hgr⟩ : w7.heap[gz]? = some (.cells #[.int .i64 p1,.int .i64 p2,.int .i64 p3,.string p4,.slice Az p5.length cz] 34 (0,0)) ∧ w6.grownBy w7 (some gz):=(by rw [hw];exact laws_FnExactPutFeature.five rfl BZ.out _ _ _ _ _);replace BZ:=ak hbz;replace HZ:=ak (Kd.R_grown HZ.out hgr (fun k (hk : bb ≤ k ∧ k < gz) e_ => by injection e_ with e_;omega));replace HY:=ak (Kd.S_grown HY.out hgr (fun k (hk : a ≤ k ∧ k < bb) e_ => by injection e_ with e_;have:=GZ.out;omega));replace HS:=ak (Kd.N_grown HS.out hgr (fun k (hk : k < a ∧ k < bb) e_ => by injection e_ with e_;have:=GZ.out;omega));replace BK3:=ak (show w7.heap[gb3]? = _ from (hgr.block gb3 (blk_lt BK3.out) (fun e_ => by injection e_ with e_;have:=GZ.out;omega)).trans BK3.out);replace HB:=ak (HB.out.grown hgr HB.out.size (fun k hk => by injection hk with hk;have:=GZ.out;omega));clear hw hbz hgr;clear hcd0 hcd1 hcd2 hcd3 hcd4 hfd0 hfd1 hfd2 hfd3 hfd4;obtain ⟨hce0,hce1,hce2,hce3,hce4⟩:=Hd.c5_ BZ.out;obtain ⟨hfe0,hfe1,hfe2,hfe3,hfe4⟩:=Hd.f5_ BZ.out) | (clear K3;go_at_call 12;(with_reducible refine (impl_PutFeature.calls k (fun _ => True) Ay cy x p1 p2 p3 p4 Az cz p5 g1 _ _ (Kd.V_mono (Kd.S_V (laws_FnExactPutFeature.s_ HY)) (fun _ _ => trivial)) (Kd.R_reads' (Hd.r_ HZ)).2.2 (Kd.R_reads' HZ.out).2.1 HIM.out).mono ?_);rintro e w8 ⟨vg,rfl,ho,hb⟩;obtain ⟨cc,hcc,hg⟩:=laws_FnExactPutFeature.owng ho Hd.b_ (Hd.k_ BZ);obtain ⟨Ag,cg,rfl⟩:=Kd.S_slice ho;have HG:=ak hg;replace GZ:=ak (And.intro hcc GZ.out.2);replace HY:=z62_;replace HS:=z34_;replace HZ:=ak (Kd.R_below (Hd.r_ HZ) hb);replace BK3:=ak (Hd.kb_ BK3 hb);replace BZ:=ak (Hd.kb_ BZ hb);replace HB:=ak (below_step Hd.b_ hb);clear hb ho hcc hg) | (clear K4;go_at_call 13;(with_reducible refine (laws_eqFeatureS.calls k _ _ g1 _ _ s1 _ _ (Kd.S_reads' (laws_FnExactPutFeature.s_ HG)).2.2 (Kd.S_reads' HG.out).2.1 (Kd.N_reads' (laws_FnExactPutFeature.n_ HS)).2.2 (Kd.N_reads' HS.out).2.1 HE1.out).mono ?_);rintro e w9 ⟨rfl,hb⟩;replace HG:=z37_;replace HY:=z62_;replace HS:=z34_;replace HZ:=ak (Kd.R_below (Hd.r_ HZ) hb);replace BK3:=ak (Hd.kb_ BK3 hb);replace BZ:=ak (Hd.kb_ BZ hb);replace HB:=ak (below_step Hd.b_ hb);clear hb) | (clear K5;go_at_call 10;(with_reducible refine (laws_toFeatureS.calls k A0 c0 l0 x _ (Kd.C_below HR.out Hd.b_) HC.out HX.out).mono ?_);rintro e wu ⟨vu,rfl,ho,hb⟩;obtain ⟨Au,cu,rfl⟩:=Kd.S_slice ho;have HU:=ak ho;replace HG:=z37_;replace HY:=z62_;replace HS:=z34_;replace HZ:=ak (Kd.R_below (Hd.r_ HZ) hb);replace BK3:=ak (Hd.kb_ BK3 hb);replace BZ:=ak (Hd.kb_ BZ hb);replace HB:=ak (below_step Hd.b_ hb);clear hb ho) | (clear K6;go_at_call 13;(with_reducible refine (laws_eqFeatureS.calls k _ _ x _ _ x _ _ (Kd.S_reads' (laws_FnExactPutFeature.s_ HY)).2.2 (Kd.S_reads' HY.out).2.1 (Kd.S_reads' (laws_FnExactPutFeature.s_ HU)).2.2 (Kd.S_reads' HU.out).2.1 HE2.out).mono ?_);rintro e wv ⟨rfl,hb⟩;clear HU;replace HG:=z37_;replace HY:=z62_;replace HS:=z34_;replace HZ:=ak (Kd.R_below (Hd.r_ HZ) hb);replace BK3:=ak (Hd.kb_ BK3 hb);replace BZ:=ak (Hd.kb_ BZ hb);replace HB:=ak (below_step Hd.b_ hb);clear hb))
    replace HG:=ak (Kd.S_drew HG.out)
    replace HY:=ak (Kd.S_drew HY.out)
    replace HS:=ak (Kd.N_drew HS.out)
    replace HZ:=ak (Kd.R_drew HZ.out)
    replace BK3:=ak (blk_drew BK3.out)
    replace BZ:=ak (blk_drew BZ.out)
    replace HB:=ak (below_drew1 HB.out)
    refine start_ (n:=5) (S:=fun w' => w'.cell? ⟨gz,0,none⟩ = some (.int .i64 p1) ∧ w'.cell? ⟨gz,1,none⟩ = some (.int .i64 p2) ∧ w'.cell? ⟨gz,2,none⟩ = some (.int .i64 p3) ∧ w'.cell? ⟨gz,3,none⟩ = some (.string p4) ∧ w'.cell? ⟨gz,4,none⟩ = some (.slice Az p5.length cz) ∧ w'.cell? ⟨gb3,0,none⟩ = some (.int .i64 a1_0) ∧ w'.cell? ⟨gb3,1,none⟩ = some (.int .i64 a1_1) ∧ w'.cell? ⟨gb3,2,none⟩ = some (.int .i64 a1_2) ∧ w'.cell? ⟨gb3,3,none⟩ = some (.string a1_3) ∧ w'.cell? ⟨gb3,4,none⟩ = some (.slice A1_4 l1_4.length c1_4)) (ds:=[]) #[N_,N_,N_,N_,N_] (by kernel_rfl) rfl rfl ⟨(blk_cell BZ.out 0).trans rfl,(blk_cell BZ.out 1).trans rfl,(blk_cell BZ.out 2).trans rfl,(blk_cell BZ.out 3).trans rfl,(blk_cell BZ.out 4).trans rfl,(blk_cell BK3.out 0).trans rfl,(blk_cell BK3.out 1).trans rfl,(blk_cell BK3.out 2).trans rfl,(blk_cell BK3.out 3).trans rfl,(blk_cell BK3.out 4).trans rfl⟩ (fun hHeld => ?_);refine with_tabW laws_FnExactPutFeature.tab16 laws_FnExactPutFeature.bits16 (fun HT_ HW_ => ?_)
    generalize wv.drew = wm at HG HY HS HZ BK3 BZ HB hHeld ⊢
    refine Hd.t_ HT_ HW_ hHeld 0 (some 59) #[Y_,N_,N_,N_,N_] ?_
    refine Hd.t_ HT_ HW_ hHeld 1 (some 60) #[Y_,Y_,N_,N_,N_] ?_
    refine Hd.o_ HT_ 2 (some 61) #[Y_,Y_,Y_,N_,N_] (fun K hK => ?_)
    refine goes_ Try.func11 (by kernel_rfl) rfl #[.agg #[.int .i64 a1_0,.int .i64 a1_1,.int .i64 a1_2,.string a1_3,.slice A1_4 l1_4.length c1_4]] (by rfl) rfl rfl Hd.m_ ?_
    (with_reducible refine (laws_toFeature.calls k a1_0 a1_1 a1_2 a1_3 A1_4 c1_4 l1_4 p1 p2 p3 p4 p5 _ (Kd.C_below HR1.out Hd.b_) HC1.out HP.out).mono ?_)
    rintro e wn ⟨vq,rfl,ho,hb⟩
    refine ⟨_,rfl,?_⟩
    obtain ⟨Aq,cq,rfl⟩:=Kd.R_slice ho
    have HQR:=ak ho
    replace HG:=z37_;replace HY:=z62_;replace HS:=z34_;replace HZ:=ak (Kd.R_below (Hd.r_ HZ) hb);replace BK3:=ak (Hd.kb_ BK3 hb);replace BZ:=ak (Hd.kb_ BZ hb);replace HB:=ak (below_step Hd.b_ hb)
    clear hb ho
    refine hK.out _ _ ⟨(blk_cell BZ.out 0).trans rfl,(blk_cell BZ.out 1).trans rfl,(blk_cell BZ.out 2).trans rfl,(blk_cell BZ.out 3).trans rfl,(blk_cell BZ.out 4).trans rfl,(blk_cell BK3.out 0).trans rfl,(blk_cell BK3.out 1).trans rfl,(blk_cell BK3.out 2).trans rfl,(blk_cell BK3.out 3).trans rfl,(blk_cell BK3.out 4).trans rfl⟩ (fun hHeld => ?_)
    clear hK K
    refine Hd.n_ (some 61) ?_
    refine Hd.o_ HT_ 3 (some 62) #[Y_,Y_,Y_,Y_,N_] (fun K hK => ?_)
    refine goes_ Try.func14 (by kernel_rfl) rfl #[.agg #[.int .i64 p1,.int .i64 p2,.int .i64 p3,.string p4,.slice Az p5.length cz],.agg #[.int .i64 p1,.int .i64 p2,.int .i64 p3,.string p4,.slice Aq p5.length cq]] (by rfl) rfl rfl Hd.m_ ?_
    (with_reducible refine (laws_eqFeature.calls k p1 p2 p3 p4 Az cz p5 p1 p2 p3 p4 Aq cq p5 _ _ (Kd.R_reads' (Hd.r_ HZ)).2.2 (Kd.R_reads' HZ.out).2.1 (Kd.R_reads' (Hd.r_ HQR)).2.2 (Kd.R_reads' HQR.out).2.1 HE3.out).mono ?_)
    rintro e wo ⟨rfl,hb⟩
    refine ⟨_,rfl,?_⟩
    clear HQR
    replace HG:=z37_;replace HY:=z62_;replace HS:=z34_;replace HZ:=ak (Kd.R_below (Hd.r_ HZ) hb);replace BK3:=ak (Hd.kb_ BK3 hb);replace BZ:=ak (Hd.kb_ BZ hb);replace HB:=ak (below_step Hd.b_ hb)
    clear hb
    refine hK.out _ _ ⟨(blk_cell BZ.out 0).trans rfl,(blk_cell BZ.out 1).trans rfl,(blk_cell BZ.out 2).trans rfl,(blk_cell BZ.out 3).trans rfl,(blk_cell BZ.out 4).trans rfl,(blk_cell BK3.out 0).trans rfl,(blk_cell BK3.out 1).trans rfl,(blk_cell BK3.out 2).trans rfl,(blk_cell BK3.out 3).trans rfl,(blk_cell BK3.out 4).trans rfl⟩ (fun hHeld => ?_)
    clear hK K
    refine Hd.n_ (some 62) ?_
    refine Hd.p_ HT_ 4 (some 63) #[Y_,Y_,Y_,Y_,Y_] ?_
    refine done_ (done_of HT_.out (by kernel_rfl)) ?_
    clear hHeld HT_ HW_
    try go_wp2_with (first | (clear K7;go_at_call 15;(with_reducible refine (laws_markFeatureS.calls k (fun k => a ≤ k ∧ k < bb) _ x _ y1 y2 w _ Hd.b_ (laws_FnExactPutFeature.s_ HY) HMY.out).mono ?_);rintro e wq ⟨rfl,hb,hkp,_⟩;replace HG:=ak (Kd.S_kept (laws_FnExactPutFeature.s_ HG) hkp (fun k (h1 : cc ≤ k) (h2 : a ≤ k ∧ k < bb) => by have:=GZ.out;omega));replace HS:=ak (Kd.N_kept (laws_FnExactPutFeature.n_ HS) hkp (fun k (h1 : k < a ∧ k < bb) (h2 : a ≤ k ∧ k < bb) => by omega));replace HZ:=ak (Kd.R_kept (Hd.r_ HZ) hkp (fun k (h1 : bb ≤ k ∧ k < gz) (h2 : a ≤ k ∧ k < bb) => by omega));replace BK3:=ak (blk_kept (Hd.k_ BK3) hkp (fun (h2 : a ≤ gb3 ∧ gb3 < bb) => by have:=HA.out;omega));replace BZ:=ak (blk_kept (Hd.k_ BZ) hkp (fun (h2 : a ≤ gz ∧ gz < bb) => by have:=GZ.out;omega));replace HB:=ak hb;clear hb hkp HY;obtain ⟨hcf0,hcf1,hcf2,hcf3,hcf4⟩:=Hd.c5_ BZ.out;obtain ⟨hff0,hff1,hff2,hff3,hff4⟩:=Hd.f5_ BZ.out) | (clear K8;go_at_call 16;(with_reducible refine (laws_markFeature.calls k p1 p2 p3 p4 (fun k => bb ≤ k ∧ k < gz) _ p5 y1 z1 z2 w _ Hd.b_ (Hd.r_ HZ) HMZ.out).mono ?_);rintro e wr ⟨rfl,_,hb,hkp⟩;replace HG:=ak (Kd.S_kept (laws_FnExactPutFeature.s_ HG) hkp (fun k (h1 : cc ≤ k) (h2 : bb ≤ k ∧ k < gz) => by have:=GZ.out;omega));replace HS:=ak (Kd.N_kept (laws_FnExactPutFeature.n_ HS) hkp (fun k (h1 : k < a ∧ k < bb) (h2 : bb ≤ k ∧ k < gz) => by omega));replace BK3:=ak (blk_kept (Hd.k_ BK3) hkp (fun (h2 : bb ≤ gb3 ∧ gb3 < gz) => by have:=GZ.out;omega));replace HB:=ak hb;clear hb hkp HZ BZ) | (clear K9;go_at_call 13;(with_reducible refine (laws_eqFeatureS.calls k _ _ g1 _ _ s1 _ _ (Kd.S_reads' (laws_FnExactPutFeature.s_ HG)).2.2 (Kd.S_reads' HG.out).2.1 (Kd.N_reads' (laws_FnExactPutFeature.n_ HS)).2.2 (Kd.N_reads' HS.out).2.1 HE1.out).mono ?_);rintro e wt ⟨rfl,hb⟩;replace HG:=z37_;replace HS:=z34_;replace BK3:=ak (Hd.kb_ BK3 hb);replace HB:=ak (below_step Hd.b_ hb);clear hb) | (clear K10;go_at_call 15;(with_reducible refine (laws_markFeatureS.calls k (fun k => cc ≤ k) _ g1 _ q m2 w _ Hd.b_ (laws_FnExactPutFeature.s_ HG) HMG.out).mono ?_);rintro e wz ⟨rfl,hb,hkp,hg⟩;replace HS:=ak (Kd.N_kept (laws_FnExactPutFeature.n_ HS) hkp (fun k (h1 : k < a ∧ k < bb) (h2 : cc ≤ k) => by have:=GZ.out;omega));replace BK3:=ak (blk_kept (Hd.k_ BK3) hkp (fun (h2 : cc ≤ gb3) => by have:=GZ.out;omega));clear HG;have HG:=ak hg;replace HB:=ak hb;clear hb hkp hg) | (clear K11;go_at_call 17;(with_reducible refine (laws_FnExactPutFeature.held k _ _ _ m2 _ q _ (Kd.S_reads' HG.out).1 (Kd.S_reads' (laws_FnExactPutFeature.s_ HG)).2.2 (Kd.S_reads' HG.out).2.1 HQ.out).mono ?_);rintro e wA ⟨rfl,hb⟩;replace HG:=z37_;replace HS:=z34_;replace BK3:=ak (Hd.kb_ BK3 hb);replace HB:=ak (below_step Hd.b_ hb);clear hb))
    replace HG:=ak (Kd.S_drew HG.out)
    replace HS:=ak (Kd.N_drew HS.out)
    replace BK3:=ak (blk_drew BK3.out)
    replace HB:=ak (below_drew1 HB.out)
    refine start_ (n:=10) (S:=fun w' => w'.cell? ⟨gb3,0,none⟩ = some (.int .i64 a1_0) ∧ w'.cell? ⟨gb3,1,none⟩ = some (.int .i64 a1_1) ∧ w'.cell? ⟨gb3,2,none⟩ = some (.int .i64 a1_2) ∧ w'.cell? ⟨gb3,3,none⟩ = some (.string a1_3) ∧ w'.cell? ⟨gb3,4,none⟩ = some (.slice A1_4 l1_4.length c1_4)) (ds:=[]) #[N_,N_,N_,N_,N_,N_,N_,N_,N_,N_] (by kernel_rfl) rfl rfl ⟨(blk_cell BK3.out 0).trans rfl,(blk_cell BK3.out 1).trans rfl,(blk_cell BK3.out 2).trans rfl,(blk_cell BK3.out 3).trans rfl,(blk_cell BK3.out 4).trans rfl⟩ (fun hHeld => ?_);refine with_tabW laws_FnExactPutFeature.tab31 laws_FnExactPutFeature.bits31 (fun HT_ HW_ => ?_)
    generalize wA.drew = wB at HG HS BK3 HB hHeld ⊢
    refine Hd.p_ HT_ 0 (some 95) #[Y_,N_,N_,N_,N_,N_,N_,N_,N_,N_] ?_
    refine Hd.t_ HT_ HW_ hHeld 2 (some 97) #[Y_,N_,Y_,N_,N_,N_,N_,N_,N_,N_] ?_
    refine Hd.o_ HT_ 1 (some 96) #[Y_,Y_,Y_,N_,N_,N_,N_,N_,N_,N_] (fun K hK => ?_)
    refine goes_ Try.func10 (by kernel_rfl) rfl #[.slice A0 l0.length c0] (by rfl) rfl rfl Hd.m_ ?_
    (with_reducible refine (laws_toFeatureS.calls k A0 c0 l0 x _ (Kd.C_below HR.out Hd.b_) HC.out HX.out).mono ?_)
    rintro e wC ⟨vu,rfl,ho,hb⟩
    refine ⟨_,rfl,?_⟩
    obtain ⟨Au,cu,rfl⟩:=Kd.S_slice ho
    have HU:=ak ho
    replace HG:=z37_;replace HS:=z34_;replace BK3:=ak (Hd.kb_ BK3 hb);replace HB:=ak (below_step Hd.b_ hb)
    clear hb ho
    refine hK.out _ _ ⟨(blk_cell BK3.out 0).trans rfl,(blk_cell BK3.out 1).trans rfl,(blk_cell BK3.out 2).trans rfl,(blk_cell BK3.out 3).trans rfl,(blk_cell BK3.out 4).trans rfl⟩ (fun hHeld => ?_)
    clear hK K
    refine Hd.n_ (some 96) ?_
    refine Hd.o_ HT_ 3 (some 98) #[Y_,Y_,Y_,Y_,N_,N_,N_,N_,N_,N_] (fun K hK => ?_)
    refine goes_ Try.func11 (by kernel_rfl) rfl #[.agg #[.int .i64 a1_0,.int .i64 a1_1,.int .i64 a1_2,.string a1_3,.slice A1_4 l1_4.length c1_4]] (by rfl) rfl rfl Hd.m_ ?_
    (with_reducible refine (laws_toFeature.calls k a1_0 a1_1 a1_2 a1_3 A1_4 c1_4 l1_4 p1 p2 p3 p4 p5 _ (Kd.C_below HR1.out Hd.b_) HC1.out HP.out).mono ?_)
    rintro e wD ⟨vp,rfl,ho,hb⟩
    refine ⟨_,rfl,?_⟩
    obtain ⟨Ap,cp,rfl⟩:=Kd.R_slice ho
    have HPR:=ak ho
    replace HU:=ak (Kd.S_below (laws_FnExactPutFeature.s_ HU) hb);replace HG:=z37_;replace HS:=z34_;replace BK3:=ak (Hd.kb_ BK3 hb);replace HB:=ak (below_step Hd.b_ hb)
    clear hb ho
    refine hK.out _ _ ⟨(blk_cell BK3.out 0).trans rfl,(blk_cell BK3.out 1).trans rfl,(blk_cell BK3.out 2).trans rfl,(blk_cell BK3.out 3).trans rfl,(blk_cell BK3.out 4).trans rfl⟩ (fun hHeld => ?_)
    clear hK K
    refine Hd.n_ (some 98) ?_
    refine Hd.o_ HT_ 4 (some 99) #[Y_,Y_,Y_,Y_,Y_,N_,N_,N_,N_,N_] (fun K hK => ?_)
    refine goes_ Try.func12 (by kernel_rfl) rfl #[.slice Au x.length cu,.agg #[.int .i64 p1,.int .i64 p2,.int .i64 p3,.string p4,.slice Ap p5.length cp]] (by rfl) rfl rfl Hd.m_ ?_
    (with_reducible refine (impl_PutFeature.calls k (fun _ => True) Au cu x p1 p2 p3 p4 Ap cp p5 g1 _ _ (Kd.V_mono (Kd.S_V (laws_FnExactPutFeature.s_ HU)) (fun _ _ => trivial)) (Kd.R_reads' (Hd.r_ HPR)).2.2 (Kd.R_reads' HPR.out).2.1 HIM.out).mono ?_)
    rintro e wE ⟨vh,rfl,ho,hb⟩
    refine ⟨_,rfl,?_⟩
    obtain ⟨Ah,ch,rfl⟩:=Kd.S_slice ho
    clear HU HPR
    have HU:=ak ho
    replace HG:=z37_;replace HS:=z34_;replace BK3:=ak (Hd.kb_ BK3 hb);replace HB:=ak (below_step Hd.b_ hb)
    clear hb ho
    refine hK.out _ _ ⟨(blk_cell BK3.out 0).trans rfl,(blk_cell BK3.out 1).trans rfl,(blk_cell BK3.out 2).trans rfl,(blk_cell BK3.out 3).trans rfl,(blk_cell BK3.out 4).trans rfl⟩ (fun hHeld => ?_)
    clear hK K
    refine Hd.n_ (some 99) ?_
    refine Hd.p_ HT_ 5 (some 94) #[Y_,Y_,Y_,Y_,Y_,Y_,N_,N_,N_,N_] ?_
    refine Hd.p_ HT_ 6 (some 100) #[Y_,Y_,Y_,Y_,Y_,Y_,Y_,N_,N_,N_] ?_
    refine Hd.p_ HT_ 7 (some 101) #[Y_,Y_,Y_,Y_,Y_,Y_,Y_,Y_,N_,N_] ?_
    refine Hd.p_ HT_ 8 (some 15) #[Y_,Y_,Y_,Y_,Y_,Y_,Y_,Y_,Y_,N_] ?_
    refine Hd.p_ HT_ 9 (some 16) #[Y_,Y_,Y_,Y_,Y_,Y_,Y_,Y_,Y_,Y_] ?_
    refine done_ (done_of HT_.out (by kernel_rfl)) ?_
    clear hHeld HT_ HW_
    go_wp2_with (first | (go_at_call 13;(with_reducible refine (laws_eqFeatureS.calls k _ _ g1 _ _ s1 _ _ (Kd.S_reads' (laws_FnExactPutFeature.s_ HU)).2.2 (Kd.S_reads' HU.out).2.1 (Kd.N_reads' (laws_FnExactPutFeature.n_ HS)).2.2 (Kd.N_reads' HS.out).2.1 HE1.out).mono ?_);rintro e wF ⟨rfl,hb⟩;replace HG:=z37_;replace HB:=ak (below_step Hd.b_ hb);clear hb HU HS) | (go_at_call 17;(with_reducible refine (laws_FnExactPutFeature.held k _ _ _ m2 _ q _ (Kd.S_reads' HG.out).1 (Kd.S_reads' (laws_FnExactPutFeature.s_ HG)).2.2 (Kd.S_reads' HG.out).2.1 HQ.out).mono ?_);rintro e wH ⟨rfl,hb⟩;replace HB:=ak (below_step Hd.b_ hb);clear hb HG))
    go_ret
    exact ⟨rfl,Hd.b_⟩)
end Go.Proofs.Ytbbdhlggnglfgaa.MFnExactPutFeature
