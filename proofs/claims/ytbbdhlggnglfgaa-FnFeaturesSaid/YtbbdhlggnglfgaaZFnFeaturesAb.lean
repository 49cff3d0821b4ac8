/- Words for steps that the walks of this claim repeat: each lemma's last premise is found by the very steps that its name stands for. No condition beyond each lemma's own. -/
import Derived.Test.YtbbdhlggnglfgaaZFnFeaturesSh
namespace Go.Proofs.Ytbbdhlggnglfgaa
open Go Go.RowKit Go.Proofs.YtbbdhlggnglfgaaW.PrintWords Go.Proofs.YtbbdhlggnglfgaaW.PrintLast Go.Proofs.YtbbdhlggnglfgaaW.PrintMore
theorem ak {p:Prop} (h:p):Aside0 p := ⟨h⟩
abbrev Y:Bool := true
abbrev Z:Bool := false
abbrev bl_ := @World.block_lt_of_cell?
theorem od_ {p:Prop} [Decidable p] (h:decide p=true := by first|(with_reducible assumption)|assumption):p := of_decide_eq_true h
variable {Q P0 P1 P2 P3:Prop}
theorem Hd.bd_ {α β:Type} {o:Option α} {f:α→Option β} {r:β} (h:o.bind f=some r):∃ t, Aside0 (o=some t)∧f t=some r :=
  (Option.bind_eq_some_iff.mp h).elim fun t h=>⟨t, ⟨h.1⟩, h.2⟩
theorem Hd.gl_ {P:Program} {ops:Array Oper} {Q:Exit→Act→World→Prop} {rest:List Oper} {oi:Oper} {a:Act} {w:World} (N:Tmp) {f:FuncId} {fn:Func} {os_:Array Operand} {ts:Array TypeId} (hf:P.funcs[f]?=some fn) (args:Array Value)
    (h:Calls P f args w fun e w'=>∃ v, e = .returned v∧wpList P ops Q rest (a.put (some N) v) w')
    (hd : oi.dst = some N := by rfl) (hg : oi.guard = none := by rfl) (hname : (fn.name == "runtime.NumGoroutine") = false := by kernel_rfl) (hb : fn.body.isSome = true := by rfl)
    (hop:oi.op = .call { callee := .value (.func f), args := os_, argTypes := ts } := by rfl) (hargs:os_.map a.eval=args := by (try simp only[List.map_toArray, List.map_cons, List.map_nil]); first|done|rfl|(simp only[List.length_drop, List.length_take]; rfl)):wpList P ops Q (oi::rest) a w :=
  goesL_ (some N) hd hg hf hname hb args hop hargs h
theorem z0_ (h:Q:=by repeat (first|(with_reducible first|exact HK.out|apply KeepBut.set_|apply keep_drewN|apply keep_drew|apply keep_alloc)|exact HK.out)):Q:=h
theorem z1_ (h:Q:=by repeat (first|(with_reducible first|exact HI0.out|apply IsS89.alloc|apply IsS89.drewN|apply IsS89.drew|apply IsS89.set_1|apply IsS89.set_2)|exact HI0.out)):Q:=h
theorem z2_ (h:Q:=by repeat (first|(with_reducible first|exact HB.out|apply below_alloc|apply pw_below_drewN|apply below_drew1|refine below_set ?_ (IsS89.ge HI0.out))|exact HB.out)):Q:=h
theorem z3_ (a0:Aside0 P0) (h:Aside0 P0→Q:=by intro h0_;(with_reducible repeat (first|apply Kd.N_alloc|apply Kd.N_drewN|apply Kd.N_drew));exact h0_.out):Q:=h a0
theorem z4_ (a0:Aside0 P0) (h:Aside0 P0→Q:=by intro h0_;repeat (first|(with_reducible first|exact HK.out|apply KeepBut.set_|apply keep_drewN|apply keep_drew|apply keep_alloc|refine keep_far ?_ h0_.out _)|exact HK.out)):Q:=h a0
theorem z5_ (a0:Aside0 P0) (h:Aside0 P0→Q:=by intro h0_;(with_reducible repeat (first|apply Kd.V_alloc|apply Kd.V_drewN|apply Kd.V_drew));exact h0_.out):Q:=h a0
theorem z6_ (a0:Aside0 P0) (h:Aside0 P0→Q:=by intro h0_;(with_reducible repeat (first|refine blk_drewN ?_ _|refine blk_drew ?_|refine blk_alloc ?_ _));exact h0_.out):Q:=h a0
theorem z7_ (a0:Aside0 P0) (h:Aside0 P0→Q:=by intro h0_;repeat (first|(with_reducible first|exact HI0.out|apply IsS89.alloc|apply IsS89.drewN|apply IsS89.drew|apply IsS89.set_1|apply IsS89.set_2|refine IsS89.far ?_ h0_.out _)|exact HI0.out)):Q:=h a0
theorem z8_ (a0:Aside0 P0) (a1:Aside0 P1) (h:Aside0 P0→Aside0 P1→Q:=by intro h0_ h1_;repeat (first|(with_reducible first|exact HK.out|apply KeepBut.set_|apply keep_drewN|apply keep_drew|apply keep_alloc|refine keep_far ?_ h0_.out _|refine keep_far ?_ h1_.out _)|exact HK.out)):Q:=h a0 a1
theorem z9_ (a0:Aside0 P0) (h:Aside0 P0→Q:=by intro h0_;repeat (first|(with_reducible first|exact HB.out|apply below_alloc|apply pw_below_drewN|apply below_drew1|refine below_set ?_ (IsS89.ge HI0.out)|refine below_set ?_ h0_.out)|exact HB.out)):Q:=h a0
theorem z10_ (a0:Aside0 P0) (a1:Aside0 P1) (h:Aside0 P0→Aside0 P1→Q:=by intro h0_ h1_;repeat (first|(with_reducible first|exact HI0.out|apply IsS89.alloc|apply IsS89.drewN|apply IsS89.drew|apply IsS89.set_1|apply IsS89.set_2|refine IsS89.far ?_ h0_.out _|refine IsS89.far ?_ h1_.out _)|exact HI0.out)):Q:=h a0 a1
theorem z11_ (a0:Aside0 P0) (a1:Aside0 P1) (h:Aside0 P0→Aside0 P1→Q:=by intro h0_ h1_;repeat (first|(with_reducible first|exact HB.out|apply below_alloc|apply pw_below_drewN|apply below_drew1|refine below_set ?_ (IsS89.ge HI0.out)|refine below_set ?_ h0_.out|refine below_set ?_ h1_.out)|exact HB.out)):Q:=h a0 a1
theorem z12_ (a0:Aside0 P0) (h:Aside0 P0→Q:=by intro h0_;(with_reducible repeat (first|apply Kd.R_alloc|apply Kd.R_drewN|apply Kd.R_drew));exact h0_.out):Q:=h a0
theorem z13_ (a0:Aside0 P0) (h:Aside0 P0→Q:=by intro h0_;(with_reducible repeat (first|refine blk_drewN ?_ _|refine blk_drew ?_|refine blk_alloc ?_ _));refine blk_put (cs:=#[.int .i64 ((rd_T34 l0 x17_1).f0),.int .i64 ((rd_T34 l0 x17_1).f1),.int .i64 ((rd_T34 l0 x17_1).f2),.string ((rd_T34 l0 x17_1).f3),.slice none 0 0]) ?_ 4 _ rfl;(with_reducible repeat (first|refine blk_drewN ?_ _|refine blk_drew ?_|refine blk_alloc ?_ _));refine blk_put (cs:=#[.int .i64 ((rd_T34 l0 x17_1).f0),.int .i64 ((rd_T34 l0 x17_1).f1),.int .i64 ((rd_T34 l0 x17_1).f2),.string (⟨#[]⟩:ByteArray),.slice none 0 0]) ?_ 3 _ rfl;(with_reducible repeat (first|refine blk_drewN ?_ _|refine blk_drew ?_|refine blk_alloc ?_ _));refine blk_put (cs:=#[.int .i64 ((rd_T34 l0 x17_1).f0),.int .i64 ((rd_T34 l0 x17_1).f1),.int .i64 0,.string (⟨#[]⟩:ByteArray),.slice none 0 0]) ?_ 2 _ rfl;(with_reducible repeat (first|refine blk_drewN ?_ _|refine blk_drew ?_|refine blk_alloc ?_ _));refine blk_put (cs:=#[.int .i64 ((rd_T34 l0 x17_1).f0),.int .i64 0,.int .i64 0,.string (⟨#[]⟩:ByteArray),.slice none 0 0]) ?_ 1 _ rfl;(with_reducible repeat (first|refine blk_drewN ?_ _|refine blk_drew ?_|refine blk_alloc ?_ _));refine blk_put (cs:=#[.int .i64 0,.int .i64 0,.int .i64 0,.string (⟨#[]⟩:ByteArray),.slice none 0 0]) ?_ 0 _ rfl;(with_reducible repeat (first|refine blk_drewN ?_ _|refine blk_drew ?_|refine blk_alloc ?_ _));exact h0_.out):Q:=h a0
theorem z14_ (h:Q:=by first|rfl|(simp;done)|(simp [*];done)):Q:=h
theorem z15_ (a0:Aside0 P0) (h:Aside0 P0→Q:=by intro h0_;repeat (first|exact(Kd.C_below h0_.out HB.out)|(with_reducible refine Kd.C_alloc ?_ _)|(with_reducible refine Kd.C_drewN ?_ _)|(with_reducible refine Kd.C_drew ?_))):Q:=h a0
theorem z16_ (a0:Aside0 P0) (h:Aside0 P0→Q:=by intro h0_;repeat (first|exact(Kd.N_reads' h0_.out).2.2|(with_reducible refine Kd.C_alloc ?_ _)|(with_reducible refine Kd.C_drewN ?_ _)|(with_reducible refine Kd.C_drew ?_))):Q:=h a0
theorem z17_ (h:Q:=by exact ak (below_step Hd.b_ hb)):Q:=h
theorem z18_ (a0:Aside0 P0) (a1:Aside0 P1) (a2:Aside0 P2) (h:Aside0 P0→Aside0 P1→Aside0 P2→Q:=by intro h0_ h1_ h2_;exact Kd.S_seg hH17 (od_) (by have h_:(t259:Int)<((t256.length:Int):Int):=od_;first|exact h_|(have e_:=(Kd.S_reads' h0_.out).1;omega)|simpa using h_) (seg:=[.int .i64 t260,.int .i64 t261,.int .i64 t262,.string t263,v265]) (j:=0) (show 5≤5 from by decide) (x':=(⟨t260,t261,t262,t263,t264⟩:S34)) (k34_mkM _ _ _ (⟨t260,t261,t262,t263,t264⟩:S34) (Kd.R_mono (Kd.R_tight rfl (Kd.R_mono (ok':=fun k_=>((fun k_=>(w.heap.size≤k_)∧k_≠gb255)) k_∧k_≠go14) (Kd.R_types (Kd.R_apart' (h1_.out) (Kd.S_typed h0_.out) (by decide)) h2_.out (by decide)) (fun k_ hk=>⟨⟨hk.1.1.1,hk.2⟩,fun e_=>(hk.1.2) (by rw [e_];rfl)⟩))) (fun _ h_=>Or.inr (h_)))) (fun _ hk=>hk) (fun k_ hk_=>((Kd.R_mono (ok':=fun k_=>((fun k_=>(w.heap.size≤k_)∧k_≠gb255)) k_∧k_≠go14) (Kd.R_types (Kd.R_apart' (h1_.out) (Kd.S_typed h0_.out) (by decide)) h2_.out (by decide)) (fun k_ hk=>⟨⟨hk.1.1.1,hk.2⟩,fun e_=>(hk.1.2) (by rw [e_];rfl)⟩))).1 k_ hk_.symm)):Q:=h a0 a1 a2
theorem z19_ (a0:Aside0 P0) (a1:Aside0 P1) (h:Aside0 P0→Aside0 P1→Q:=by intro h0_ h1_;(with_reducible repeat (first|refine blk_drewN ?_ _|refine blk_drew ?_|refine blk_alloc ?_ _));refine blk_far ?_ h0_.out _;(with_reducible repeat (first|refine blk_drewN ?_ _|refine blk_drew ?_|refine blk_alloc ?_ _));refine blk_far ?_ h0_.out _;(with_reducible repeat (first|refine blk_drewN ?_ _|refine blk_drew ?_|refine blk_alloc ?_ _));refine blk_far ?_ h0_.out _;(with_reducible repeat (first|refine blk_drewN ?_ _|refine blk_drew ?_|refine blk_alloc ?_ _));refine blk_far ?_ h0_.out _;(with_reducible repeat (first|refine blk_drewN ?_ _|refine blk_drew ?_|refine blk_alloc ?_ _));refine blk_far ?_ h0_.out _;(with_reducible repeat (first|refine blk_drewN ?_ _|refine blk_drew ?_|refine blk_alloc ?_ _));exact h1_.out):Q:=h a0 a1
theorem z20_ (a0:Aside0 P0) (h:Aside0 P0→Q:=by intro h0_;repeat (first|(with_reducible exact h0_.out)|(with_reducible refine Kd.C_alloc ?_ _)|(with_reducible refine Kd.C_drewN ?_ _)|(with_reducible refine Kd.C_drew ?_)|exact h0_.out)):Q:=h a0
theorem z21_ (a0:Aside0 P0) (h:Aside0 P0→Q:=by intro h0_;(with_reducible repeat (first|refine blk_drewN ?_ _|refine blk_drew ?_|refine blk_alloc ?_ _));refine blk_put (cs:=#[.int .i64 ((rd_T34 l0 x10_1).f0),.int .i64 ((rd_T34 l0 x10_1).f1),.int .i64 ((rd_T34 l0 x10_1).f2),.string ((rd_T34 l0 x10_1).f3),.slice none 0 0]) ?_ 4 _ rfl;(with_reducible repeat (first|refine blk_drewN ?_ _|refine blk_drew ?_|refine blk_alloc ?_ _));refine blk_put (cs:=#[.int .i64 ((rd_T34 l0 x10_1).f0),.int .i64 ((rd_T34 l0 x10_1).f1),.int .i64 ((rd_T34 l0 x10_1).f2),.string (⟨#[]⟩:ByteArray),.slice none 0 0]) ?_ 3 _ rfl;(with_reducible repeat (first|refine blk_drewN ?_ _|refine blk_drew ?_|refine blk_alloc ?_ _));refine blk_put (cs:=#[.int .i64 ((rd_T34 l0 x10_1).f0),.int .i64 ((rd_T34 l0 x10_1).f1),.int .i64 0,.string (⟨#[]⟩:ByteArray),.slice none 0 0]) ?_ 2 _ rfl;(with_reducible repeat (first|refine blk_drewN ?_ _|refine blk_drew ?_|refine blk_alloc ?_ _));refine blk_put (cs:=#[.int .i64 ((rd_T34 l0 x10_1).f0),.int .i64 0,.int .i64 0,.string (⟨#[]⟩:ByteArray),.slice none 0 0]) ?_ 1 _ rfl;(with_reducible repeat (first|refine blk_drewN ?_ _|refine blk_drew ?_|refine blk_alloc ?_ _));refine blk_put (cs:=#[.int .i64 0,.int .i64 0,.int .i64 0,.string (⟨#[]⟩:ByteArray),.slice none 0 0]) ?_ 0 _ rfl;(with_reducible repeat (first|refine blk_drewN ?_ _|refine blk_drew ?_|refine blk_alloc ?_ _));exact h0_.out):Q:=h a0
theorem z22_ (a0:Aside0 P0) (a1:Aside0 P1) (h:Aside0 P0→Aside0 P1→Q:=by intro h0_ h1_;(with_reducible repeat (first|refine blk_drewN ?_ _|refine blk_drew ?_|refine blk_alloc ?_ _));refine blk_far ?_ h0_.out _;(with_reducible repeat (first|refine blk_drewN ?_ _|refine blk_drew ?_|refine blk_alloc ?_ _));refine blk_far ?_ h0_.out _;(with_reducible repeat (first|refine blk_drewN ?_ _|refine blk_drew ?_|refine blk_alloc ?_ _));exact h1_.out):Q:=h a0 a1
theorem z23_ (a0:Aside0 P0) (h:Aside0 P0→Q:=by intro h0_;repeat (first|(with_reducible first|exact HB.out|apply below_alloc|apply pw_below_drewN|apply below_drew1|refine below_set ?_ (IsS89.ge HI752.out)|refine below_set ?_ h0_.out)|exact HB.out)):Q:=h a0
theorem z24_ (a0:Aside0 P0) (h:Aside0 P0→Q:=by intro h0_;(with_reducible repeat (first|apply Kd.S_alloc|apply Kd.S_drewN|apply Kd.S_drew));exact h0_.out):Q:=h a0
theorem z25_ (a0:Aside0 P0) (h:Aside0 P0→Q:=by intro h0_;repeat (first|exact(Kd.V_reads' h0_.out).2.2|(with_reducible refine Kd.C_alloc ?_ _)|(with_reducible refine Kd.C_drewN ?_ _)|(with_reducible refine Kd.C_drew ?_))):Q:=h a0
theorem z26_ (a0:Aside0 P0) (a1:Aside0 P1) (h:Aside0 P0→Aside0 P1→Q:=by intro h0_ h1_;(with_reducible repeat (first|refine blk_drewN ?_ _|refine blk_drew ?_|refine blk_alloc ?_ _));refine blk_put (cs:=#[.int .i64 a1,.int .i64 (wrap64 (1+t599)),.int .i64 t602,.string t605,.slice none 0 0]) ?_ 4 _ rfl;(with_reducible repeat (first|refine blk_drewN ?_ _|refine blk_drew ?_|refine blk_alloc ?_ _));refine blk_put (cs:=#[.int .i64 a1,.int .i64 (wrap64 (1+t599)),.int .i64 t602,.string (⟨#[]⟩:ByteArray),.slice none 0 0]) ?_ 3 _ rfl;(with_reducible repeat (first|refine blk_drewN ?_ _|refine blk_drew ?_|refine blk_alloc ?_ _));refine blk_put (cs:=#[.int .i64 a1,.int .i64 (wrap64 (1+t599)),.int .i64 0,.string (⟨#[]⟩:ByteArray),.slice none 0 0]) ?_ 2 _ rfl;(with_reducible repeat (first|refine blk_drewN ?_ _|refine blk_drew ?_|refine blk_alloc ?_ _));refine blk_put (cs:=#[.int .i64 a1,.int .i64 0,.int .i64 0,.string (⟨#[]⟩:ByteArray),.slice none 0 0]) ?_ 1 _ rfl;(with_reducible repeat (first|refine blk_drewN ?_ _|refine blk_drew ?_|refine blk_alloc ?_ _));refine blk_put (cs:=#[.int .i64 0,.int .i64 0,.int .i64 0,.string (⟨#[]⟩:ByteArray),.slice none 0 0]) ?_ 0 _ rfl;(with_reducible repeat (first|refine blk_drewN ?_ _|refine blk_drew ?_|refine blk_alloc ?_ _));refine blk_far ?_ h0_.out _;(with_reducible repeat (first|refine blk_drewN ?_ _|refine blk_drew ?_|refine blk_alloc ?_ _));exact h1_.out):Q:=h a0 a1
theorem z27_ (h:Q:=by repeat (first|(with_reducible first|exact HB.out|apply below_alloc|apply pw_below_drewN|apply below_drew1|refine below_set ?_ (IsS89.ge HI788.out))|exact HB.out)):Q:=h
theorem z28_ (a0:Aside0 P0) (h:Aside0 P0→Q:=by intro h0_;(with_reducible repeat (first|refine blk_drewN ?_ _|refine blk_drew ?_|refine blk_alloc ?_ _));refine blk_put (cs:=#[.int .i64 a1,.int .i64 (wrap64 (1+t599)),.int .i64 t602,.string t605,.slice none 0 0]) ?_ 4 _ rfl;(with_reducible repeat (first|refine blk_drewN ?_ _|refine blk_drew ?_|refine blk_alloc ?_ _));refine blk_put (cs:=#[.int .i64 a1,.int .i64 (wrap64 (1+t599)),.int .i64 t602,.string (⟨#[]⟩:ByteArray),.slice none 0 0]) ?_ 3 _ rfl;(with_reducible repeat (first|refine blk_drewN ?_ _|refine blk_drew ?_|refine blk_alloc ?_ _));refine blk_put (cs:=#[.int .i64 a1,.int .i64 (wrap64 (1+t599)),.int .i64 0,.string (⟨#[]⟩:ByteArray),.slice none 0 0]) ?_ 2 _ rfl;(with_reducible repeat (first|refine blk_drewN ?_ _|refine blk_drew ?_|refine blk_alloc ?_ _));refine blk_put (cs:=#[.int .i64 a1,.int .i64 0,.int .i64 0,.string (⟨#[]⟩:ByteArray),.slice none 0 0]) ?_ 1 _ rfl;(with_reducible repeat (first|refine blk_drewN ?_ _|refine blk_drew ?_|refine blk_alloc ?_ _));refine blk_put (cs:=#[.int .i64 0,.int .i64 0,.int .i64 0,.string (⟨#[]⟩:ByteArray),.slice none 0 0]) ?_ 0 _ rfl;(with_reducible repeat (first|refine blk_drewN ?_ _|refine blk_drew ?_|refine blk_alloc ?_ _));exact h0_.out):Q:=h a0
theorem z29_ (a0:Aside0 P0) (h:Aside0 P0→Q:=by intro h0_;rw [hw];exact(by (with_reducible repeat (first|refine blk_drewN ?_ _|refine blk_drew ?_|refine blk_alloc ?_ _));refine blk_put (cs:=#[.int .i64 t809,.int .i64 t810,.int .i64 t811,.string t812,.slice none 0 0]) ?_ 4 _ rfl;(with_reducible repeat (first|refine blk_drewN ?_ _|refine blk_drew ?_|refine blk_alloc ?_ _));refine blk_put (cs:=#[.int .i64 t809,.int .i64 t810,.int .i64 t811,.string (⟨#[]⟩:ByteArray),.slice none 0 0]) ?_ 3 _ rfl;(with_reducible repeat (first|refine blk_drewN ?_ _|refine blk_drew ?_|refine blk_alloc ?_ _));refine blk_put (cs:=#[.int .i64 t809,.int .i64 t810,.int .i64 0,.string (⟨#[]⟩:ByteArray),.slice none 0 0]) ?_ 2 _ rfl;(with_reducible repeat (first|refine blk_drewN ?_ _|refine blk_drew ?_|refine blk_alloc ?_ _));refine blk_put (cs:=#[.int .i64 t809,.int .i64 0,.int .i64 0,.string (⟨#[]⟩:ByteArray),.slice none 0 0]) ?_ 1 _ rfl;(with_reducible repeat (first|refine blk_drewN ?_ _|refine blk_drew ?_|refine blk_alloc ?_ _));refine blk_put (cs:=#[.int .i64 0,.int .i64 0,.int .i64 0,.string (⟨#[]⟩:ByteArray),.slice none 0 0]) ?_ 0 _ rfl;(with_reducible repeat (first|refine blk_drewN ?_ _|refine blk_drew ?_|refine blk_alloc ?_ _));exact h0_.out)):Q:=h a0
theorem z30_ (a0:Aside0 P0) (h:Aside0 P0→Q:=by intro h0_;(with_reducible repeat (first|refine blk_drewN ?_ _|refine blk_drew ?_|refine blk_alloc ?_ _));refine blk_put (cs:=#[.int .i64 t758,.int .i64 t759,.int .i64 t760,.string t761,.slice none 0 0]) ?_ 4 _ rfl;(with_reducible repeat (first|refine blk_drewN ?_ _|refine blk_drew ?_|refine blk_alloc ?_ _));refine blk_put (cs:=#[.int .i64 t758,.int .i64 t759,.int .i64 t760,.string (⟨#[]⟩:ByteArray),.slice none 0 0]) ?_ 3 _ rfl;(with_reducible repeat (first|refine blk_drewN ?_ _|refine blk_drew ?_|refine blk_alloc ?_ _));refine blk_put (cs:=#[.int .i64 t758,.int .i64 t759,.int .i64 0,.string (⟨#[]⟩:ByteArray),.slice none 0 0]) ?_ 2 _ rfl;(with_reducible repeat (first|refine blk_drewN ?_ _|refine blk_drew ?_|refine blk_alloc ?_ _));refine blk_put (cs:=#[.int .i64 t758,.int .i64 0,.int .i64 0,.string (⟨#[]⟩:ByteArray),.slice none 0 0]) ?_ 1 _ rfl;(with_reducible repeat (first|refine blk_drewN ?_ _|refine blk_drew ?_|refine blk_alloc ?_ _));refine blk_put (cs:=#[.int .i64 0,.int .i64 0,.int .i64 0,.string (⟨#[]⟩:ByteArray),.slice none 0 0]) ?_ 0 _ rfl;(with_reducible repeat (first|refine blk_drewN ?_ _|refine blk_drew ?_|refine blk_alloc ?_ _));exact h0_.out):Q:=h a0
theorem z31_ (h:Q:=by (with_reducible repeat (first|apply Kd.V_alloc|apply Kd.V_drewN|apply Kd.V_drew));exact HL823_4.out):Q:=h
theorem z32_ (h:Q:=by rw [hg];exact Nat.ne_of_lt (IsS89.lt (show IsS89 w0 _ g s0_0 s0_1 s0_2 from by repeat (first|(with_reducible first|exact HI0.out|apply IsS89.alloc|apply IsS89.drewN|apply IsS89.drew|apply IsS89.set_1|apply IsS89.set_2)|exact HI0.out)))):Q:=h
theorem z33_ (h:Q:=by rw [hg];exact Nat.ne_of_gt (IsS89.lt (show IsS89 w0 _ g s0_0 s0_1 s0_2 from by repeat (first|(with_reducible first|exact HI0.out|apply IsS89.alloc|apply IsS89.drewN|apply IsS89.drew|apply IsS89.set_1|apply IsS89.set_2)|exact HI0.out)))):Q:=h
theorem z34_ (a0:Aside0 P0) (h:Aside0 P0→Q:=by intro h0_;exact ak (show Kd.S k34 34 w16 w.heap.size (fun k_=>((fun k_=>(w.heap.size≤k_)∧k_≠gb255)) k_∧¬ ((fun k_=>some k_=(v265:Value).ownBlock)) k_) (.slice (some ⟨go14,0,none⟩) t256.length co14) t256 from (by (with_reducible repeat (first|apply Kd.S_alloc|apply Kd.S_drewN|apply Kd.S_drew));exact Kd.S_mono h0_.out (fun k_ hk=>⟨⟨hk.1,hk.2.2⟩,fun e_=>hk.2.1 e_⟩)))):Q:=h a0
theorem z35_ (a0:Aside0 P0) (h:Aside0 P0→Q:=by intro h0_;repeat (first|(with_reducible first|exact HI752.out|apply IsS89.alloc|apply IsS89.drewN|apply IsS89.drew|apply IsS89.set_1|apply IsS89.set_2|refine IsS89.far ?_ h0_.out _)|exact HI752.out)):Q:=h a0
theorem z36_ (h:Q:=by repeat (first|exact Drawn0.refl _|apply Drawn0.step)):Q:=h
theorem z37_ (a0:Aside0 P0) (h:Aside0 P0→Q:=by intro h0_;repeat (first|exact h0_.out|(with_reducible refine Kd.C_alloc ?_ _)|(with_reducible refine Kd.C_drewN ?_ _)|(with_reducible refine Kd.C_drew ?_))):Q:=h a0
theorem z38_ (h:Q:=by repeat (first|(with_reducible first|exact HI788.out|apply IsS89.alloc|apply IsS89.drewN|apply IsS89.drew|apply IsS89.set_1|apply IsS89.set_2)|exact HI788.out)):Q:=h
theorem z39_ (h:Q:=by first|(go_simp;done)|(go_simp;rfl)):Q:=h
theorem z40_ (a0:Aside0 P0) (h:Aside0 P0→Q:=by intro h0_;(with_reducible repeat (first|refine blk_drewN ?_ _|refine blk_drew ?_|refine blk_alloc ?_ _));refine blk_put (cs:=#[.int .i64 ((rd_T34 l1 x17_1).f0),.int .i64 ((rd_T34 l1 x17_1).f1),.int .i64 ((rd_T34 l1 x17_1).f2),.string ((rd_T34 l1 x17_1).f3),.slice none 0 0]) ?_ 4 _ rfl;(with_reducible repeat (first|refine blk_drewN ?_ _|refine blk_drew ?_|refine blk_alloc ?_ _));refine blk_put (cs:=#[.int .i64 ((rd_T34 l1 x17_1).f0),.int .i64 ((rd_T34 l1 x17_1).f1),.int .i64 ((rd_T34 l1 x17_1).f2),.string (⟨#[]⟩:ByteArray),.slice none 0 0]) ?_ 3 _ rfl;(with_reducible repeat (first|refine blk_drewN ?_ _|refine blk_drew ?_|refine blk_alloc ?_ _));refine blk_put (cs:=#[.int .i64 ((rd_T34 l1 x17_1).f0),.int .i64 ((rd_T34 l1 x17_1).f1),.int .i64 0,.string (⟨#[]⟩:ByteArray),.slice none 0 0]) ?_ 2 _ rfl;(with_reducible repeat (first|refine blk_drewN ?_ _|refine blk_drew ?_|refine blk_alloc ?_ _));refine blk_put (cs:=#[.int .i64 ((rd_T34 l1 x17_1).f0),.int .i64 0,.int .i64 0,.string (⟨#[]⟩:ByteArray),.slice none 0 0]) ?_ 1 _ rfl;(with_reducible repeat (first|refine blk_drewN ?_ _|refine blk_drew ?_|refine blk_alloc ?_ _));refine blk_put (cs:=#[.int .i64 0,.int .i64 0,.int .i64 0,.string (⟨#[]⟩:ByteArray),.slice none 0 0]) ?_ 0 _ rfl;(with_reducible repeat (first|refine blk_drewN ?_ _|refine blk_drew ?_|refine blk_alloc ?_ _));exact h0_.out):Q:=h a0
theorem z41_ (a0:Aside0 P0) (h:Aside0 P0→Q:=by intro h0_;(with_reducible repeat (first|refine blk_drewN ?_ _|refine blk_drew ?_|refine blk_alloc ?_ _));refine blk_put (cs:=#[.int .i64 ((rd_T75 l0 x15_2).f0),.int .i64 0]) ?_ 1 _ rfl;(with_reducible repeat (first|refine blk_drewN ?_ _|refine blk_drew ?_|refine blk_alloc ?_ _));refine blk_put (cs:=#[.int .i64 0,.int .i64 0]) ?_ 0 _ rfl;(with_reducible repeat (first|refine blk_drewN ?_ _|refine blk_drew ?_|refine blk_alloc ?_ _));exact h0_.out):Q:=h a0
theorem z42_ (h:Q:=by exact ak (below_drew1 HB.out)):Q:=h
theorem z43_ (a0:Aside0 P0) (h:Aside0 P0→Q:=by intro h0_;exact ak (KeepBut.blk hk (g':=gb511) (o:=.cells #[.int .i64 ((rd_T75 x3_1 (ji9)).f0),.int .i64 ((rd_T75 x3_1 (ji9)).f1)] 75 (0,0)) (Hd.k_ BK511) h0_.out (by simp))):Q:=h a0
theorem z44_ (a0:Aside0 P0) (h:Aside0 P0→Q:=by intro h0_;(with_reducible repeat (first|refine blk_drewN ?_ _|refine blk_drew ?_|refine blk_alloc ?_ _));refine blk_put (cs:=#[.int .i64 t656,.int .i64 0]) ?_ 1 _ rfl;(with_reducible repeat (first|refine blk_drewN ?_ _|refine blk_drew ?_|refine blk_alloc ?_ _));refine blk_put (cs:=#[.int .i64 0,.int .i64 0]) ?_ 0 _ rfl;(with_reducible repeat (first|refine blk_drewN ?_ _|refine blk_drew ?_|refine blk_alloc ?_ _));exact h0_.out):Q:=h a0
theorem z45_ (h:Q:=by exact ak (Kd.R_mono (Kd.R_keep (IsS89.apart (show IsS89 w0 _ g s0_0 t673 t674 from by repeat (first|(with_reducible first|exact HI0.out|apply IsS89.alloc|apply IsS89.drewN|apply IsS89.drew|apply IsS89.set_1|apply IsS89.set_2)|exact HI0.out)) (Hd.r_ HO672) (by decide)) hk (fun _ h=>h.2)) (fun _ h=>h.1))):Q:=h
theorem z46_ (a0:Aside0 P0) (a1:Aside0 P1) (h:Aside0 P0→Aside0 P1→Q:=by intro h0_ h1_;(with_reducible repeat (first|refine blk_drewN ?_ _|refine blk_drew ?_|refine blk_alloc ?_ _));refine blk_put (cs:=#[.int .i64 a0_0,.int .i64 a0_1,.int .i64 a0_2,.string a0_3,.slice none 0 0]) ?_ 4 _ rfl;(with_reducible repeat (first|refine blk_drewN ?_ _|refine blk_drew ?_|refine blk_alloc ?_ _));refine blk_put (cs:=#[.int .i64 a0_0,.int .i64 a0_1,.int .i64 a0_2,.string (⟨#[]⟩:ByteArray),.slice none 0 0]) ?_ 3 _ rfl;(with_reducible repeat (first|refine blk_drewN ?_ _|refine blk_drew ?_|refine blk_alloc ?_ _));refine blk_put (cs:=#[.int .i64 a0_0,.int .i64 a0_1,.int .i64 0,.string (⟨#[]⟩:ByteArray),.slice none 0 0]) ?_ 2 _ rfl;(with_reducible repeat (first|refine blk_drewN ?_ _|refine blk_drew ?_|refine blk_alloc ?_ _));refine blk_put (cs:=#[.int .i64 a0_0,.int .i64 0,.int .i64 0,.string (⟨#[]⟩:ByteArray),.slice none 0 0]) ?_ 1 _ rfl;(with_reducible repeat (first|refine blk_drewN ?_ _|refine blk_drew ?_|refine blk_alloc ?_ _));refine blk_put (cs:=#[.int .i64 0,.int .i64 0,.int .i64 0,.string (⟨#[]⟩:ByteArray),.slice none 0 0]) ?_ 0 _ rfl;(with_reducible repeat (first|refine blk_drewN ?_ _|refine blk_drew ?_|refine blk_alloc ?_ _));refine blk_far ?_ h0_.out _;(with_reducible repeat (first|refine blk_drewN ?_ _|refine blk_drew ?_|refine blk_alloc ?_ _));exact h1_.out):Q:=h a0 a1
theorem z47_ (a0:Aside0 P0) (h:Aside0 P0→Q:=by intro h0_;exact ak (KeepBut.blk hk (g':=gb598) (o:=.cells #[.int .i64 0,.int .i64 0,.int .i64 0,.string (⟨#[]⟩:ByteArray),.slice none 0 0] 34 (0,0)) (Hd.k_ BK598) h0_.out (by simp))):Q:=h a0
theorem z48_ (a0:Aside0 P0) (h:Aside0 P0→Q:=by intro h0_;(with_reducible repeat (first|apply Kd.V_alloc|apply Kd.V_drewN|apply Kd.V_drew));exact Kd.V_mono h0_.out (fun _ hk=>⟨⟨hk.1.1.1,⟨hk.2,hk.1.1.2⟩⟩,hk.1.2⟩)):Q:=h a0
theorem z49_ (h:Q:=by exact ak (Kd.R_lower (Kd.R_newM (M:=fun k_=>(w.heap.size≤k_)) ho0 (below_size Hd.b_) (fun k_ h_=>h_)) (below_size Hd.b_))):Q:=h
theorem z50_ (h:Q:=by (try simp only[List.map_toArray,List.map_cons,List.map_nil]);first|done|(simp only[hji9];rfl)|rfl|(simp only[List.length_drop,List.length_take];rfl)):Q:=h
theorem z51_ (a0:Aside0 P0) (h:Aside0 P0→Q:=by intro h0_;(with_reducible repeat (first|apply Kd.N_alloc|apply Kd.N_drewN|apply Kd.N_drew));exact Kd.N_mono h0_.out (fun _ hk=>hk.1)):Q:=h a0
theorem z52_ (h:Q:=by exact ak (Below.refl w.heap.size w)):Q:=h
theorem z53_ (h:Q:=by first|(rw [add_block];exact hn781_0)|(show (Addr.add _ _).block≠_;rw [add_block];exact hn781_0)|exact hn781_0):Q:=h
theorem z54_ (h:Q:=by first|(rw [add_block];exact hn781_1)|(show (Addr.add _ _).block≠_;rw [add_block];exact hn781_1)|exact hn781_1):Q:=h
theorem z55_ (h:Q:=by first|(rw [add_block];exact hn781_2)|(show (Addr.add _ _).block≠_;rw [add_block];exact hn781_2)|exact hn781_2):Q:=h
theorem z56_ (h:Q:=by first|(rw [add_block];exact hn781_3)|(show (Addr.add _ _).block≠_;rw [add_block];exact hn781_3)|exact hn781_3):Q:=h
theorem z57_ (h:Q:=by first|(rw [add_block];exact hn781_4)|(show (Addr.add _ _).block≠_;rw [add_block];exact hn781_4)|exact hn781_4):Q:=h
theorem z58_ (h:Q:=by exact ak (below_step HB.out q_.b)):Q:=h
theorem z59_ (a0:Aside0 P0) (a1:Aside0 P1) (h:Aside0 P0→Aside0 P1→Q:=by intro h0_ h1_;repeat (first|(with_reducible first|exact HB.out|apply below_alloc|apply pw_below_drewN|apply below_drew1|refine below_set ?_ (IsS89.ge HI752.out)|refine below_set ?_ h0_.out|refine below_set ?_ h1_.out)|exact HB.out)):Q:=h a0 a1
theorem z60_ (h:Q:=by exact(fun k_ hk=>⟨(Nat.le_trans (below_size Hd.b_) hk),Kd.freshB (g:=gb255) (o:=.cells #[.int .i64 a1_0,.int .i64 a1_1,.int .i64 a1_2,.string a1_3,.slice A1_4 l1_4.length c1_4] 34 (0,0)) (Hd.k_ BK255) k_ hk⟩)):Q:=h
theorem z61_ (a0:Aside0 P0) (h:Aside0 P0→Q:=by intro h0_;repeat (first|exact(Kd.R_reads' h0_.out).2.2|(with_reducible refine Kd.C_alloc ?_ _)|(with_reducible refine Kd.C_drewN ?_ _)|(with_reducible refine Kd.C_drew ?_))):Q:=h a0
theorem z62_ (a0:Aside0 P0) (h:Aside0 P0→Q:=by intro h0_;exact ak (blk_grown (g:=gb255) (o:=.cells #[.int .i64 a1_0,.int .i64 a1_1,.int .i64 a1_2,.string a1_3,.slice A1_4 l1_4.length c1_4] 34 (0,0)) (Hd.k_ BK255) hg (Kd.S_away h0_.out (fun _ hk=>hk.1.2)))):Q:=h a0
theorem z63_ (a0:Aside0 P0) (h:Aside0 P0→Q:=by intro h0_;exact ak (blk_below h0_.out q_.b)):Q:=h a0
theorem z64_ (h:Q:=by simp only[putAll,Act.put,List.setIfInBounds_toArray,List.set_cons_zero,List.set_cons_succ]):Q:=h
theorem z65_ (a0:Aside0 P0) (h:Aside0 P0→Q:=by intro h0_;exact ak (blk_drew h0_.out)):Q:=h a0
theorem z66_ (a0:Aside0 P0) (h:Aside0 P0→Q:=by intro h0_;rw [hg];exact Nat.ne_of_lt (IsS89.lt (show IsS89 w0 _ g s0_0 t516 t517 from by repeat (first|(with_reducible first|exact HI0.out|apply IsS89.alloc|apply IsS89.drewN|apply IsS89.drew|apply IsS89.set_1|apply IsS89.set_2|refine IsS89.far ?_ h0_.out _)|exact HI0.out)))):Q:=h a0
theorem z67_ (a0:Aside0 P0) (h:Aside0 P0→Q:=by intro h0_;rw [hg];exact Nat.ne_of_gt (IsS89.lt (show IsS89 w0 _ g s0_0 t516 t517 from by repeat (first|(with_reducible first|exact HI0.out|apply IsS89.alloc|apply IsS89.drewN|apply IsS89.drew|apply IsS89.set_1|apply IsS89.set_2|refine IsS89.far ?_ h0_.out _)|exact HI0.out)))):Q:=h a0
theorem z68_ (h:Q:=by repeat (first|(with_reducible first|exact HB.out|apply below_alloc|apply pw_below_drewN|apply below_drew1)|exact HB.out)):Q:=h
theorem z69_ (a0:Aside0 P0) (h:Aside0 P0→Q:=by intro h0_;(with_reducible repeat (first|apply Kd.V_alloc|apply Kd.V_drewN|apply Kd.V_drew));exact Kd.V_mono h0_.out (fun _ hk=>⟨⟨hk.1.1.1,⟨hk.2,hk.1.1.2.2⟩⟩,hk.1.2⟩)):Q:=h a0
theorem z70_ (a0:Aside0 P0) (h:Aside0 P0→Q:=by intro h0_;(with_reducible repeat (first|apply Kd.S_alloc|apply Kd.S_drewN|apply Kd.S_drew));exact Kd.S_mono h0_.out (fun k_ hk=>⟨⟨hk.1.1,hk.1.2⟩,fun e_=>hk.2 e_⟩)):Q:=h a0
theorem z71_ (a0:Aside0 P0) (h:Aside0 P0→Q:=by intro h0_;(with_reducible repeat (first|apply Kd.V_alloc|apply Kd.V_drewN|apply Kd.V_drew));exact Kd.V_mono h0_.out (fun _ hk=>⟨⟨hk.1.1,⟨hk.2,hk.1.2.2⟩⟩,hk.1.2.1⟩)):Q:=h a0
theorem z72_ (a0:Aside0 P0) (h:Aside0 P0→Q:=by intro h0_;repeat (first|exact(Kd.S_reads' h0_.out).2.2|(with_reducible refine Kd.C_alloc ?_ _)|(with_reducible refine Kd.C_drewN ?_ _)|(with_reducible refine Kd.C_drew ?_))):Q:=h a0
theorem z73_ (h:Q:=by first|omega|exact Nat.le_refl _):Q:=h
theorem z74_ (a0:Aside0 P0) (h:Aside0 P0→Q:=by intro h0_;exact ak (Kd.S_mono (ok':=(fun k_=>(w.heap.size≤k_)∧some k_≠(v265:Value).ownBlock∧k_≠gb255)) h0_.out (fun k_ hk=>⟨hk.1.1.1,⟨hk.2,hk.1.2⟩⟩))):Q:=h a0
theorem z75_ (h:Q:=by exact(fun k_ hk=>⟨(.inr (Nat.le_trans (below_size Hd.b_) hk)),Kd.freshB (g:=gb452) (o:=.cells #[.int .i64 a1_0,.int .i64 a1_1,.int .i64 a1_2,.string a1_3,.slice A1_4 l1_4.length c1_4] 34 (0,0)) (Hd.k_ BK452) k_ hk⟩)):Q:=h
theorem z76_ (h:Q:=by have:=bl_ _ _ hx781_0;first|rwa [add_block] at this|exact this):Q:=h
theorem z77_ (h:Q:=by exact ak (Kd.V_afterv (ok:=(fun k_=>(P0_ k_∨w.heap.size≤k_)∧some k_≠(.slice Ao28 t273.length co28:Value).ownBlock∧k_≠gb255)) (by (with_reducible repeat (first|apply Kd.V_alloc|apply Kd.V_drewN|apply Kd.V_drew));exact Kd.V_mono HL268_4.out (fun _ hk=>⟨⟨hk.1.1,⟨hk.2,hk.1.2.2⟩⟩,hk.1.2.1⟩)) hg hat)):Q:=h
theorem z78_ (a0:Aside0 P0) (h:Aside0 P0→Q:=by intro h0_;exact ak (KeepBut.blk hk (g':=gb748) (o:=.cells #[.int .i64 0,.int .i64 0,.int .i64 0,.string (⟨#[]⟩:ByteArray),.slice none 0 0] 34 (0,0)) (Hd.k_ BK748) h0_.out (by simp))):Q:=h a0
theorem z79_ (a0:Aside0 P0) (a1:Aside0 P1) (h:Aside0 P0→Aside0 P1→Q:=by intro h0_ h1_;repeat (first|(with_reducible first|exact HI752.out|apply IsS89.alloc|apply IsS89.drewN|apply IsS89.drew|apply IsS89.set_1|apply IsS89.set_2|refine IsS89.far ?_ h0_.out _|refine IsS89.far ?_ h1_.out _)|exact HI752.out)):Q:=h a0 a1
theorem z80_ (a0:Aside0 P0) (h:Aside0 P0→Q:=by intro h0_;(with_reducible repeat (first|refine blk_drewN ?_ _|refine blk_drew ?_|refine blk_alloc ?_ _));refine blk_put (cs:=#[.int .i64 t512,.int .i64 t518]) ?_ 0 _ rfl;(with_reducible repeat (first|refine blk_drewN ?_ _|refine blk_drew ?_|refine blk_alloc ?_ _));refine blk_put (cs:=#[.int .i64 t512,.int .i64 0]) ?_ 1 _ rfl;(with_reducible repeat (first|refine blk_drewN ?_ _|refine blk_drew ?_|refine blk_alloc ?_ _));refine blk_put (cs:=#[.int .i64 0,.int .i64 0]) ?_ 0 _ rfl;(with_reducible repeat (first|refine blk_drewN ?_ _|refine blk_drew ?_|refine blk_alloc ?_ _));exact h0_.out):Q:=h a0
theorem z81_ (a0:Aside0 P0) (h:Aside0 P0→Q:=by intro h0_;exact(Kd.N_reads' h0_.out).2.1):Q:=h a0
theorem z82_ (a0:Aside0 P0) (a1:Aside0 P1) (a2:Aside0 P2) (h:Aside0 P0→Aside0 P1→Aside0 P2→Q:=by intro h0_ h1_ h2_;(with_reducible repeat (first|refine blk_drewN ?_ _|refine blk_drew ?_|refine blk_alloc ?_ _));refine blk_far ?_ h0_.out _;(with_reducible repeat (first|refine blk_drewN ?_ _|refine blk_drew ?_|refine blk_alloc ?_ _));refine blk_far ?_ h0_.out _;(with_reducible repeat (first|refine blk_drewN ?_ _|refine blk_drew ?_|refine blk_alloc ?_ _));refine blk_far ?_ h1_.out _;(with_reducible repeat (first|refine blk_drewN ?_ _|refine blk_drew ?_|refine blk_alloc ?_ _));refine blk_far ?_ h1_.out _;(with_reducible repeat (first|refine blk_drewN ?_ _|refine blk_drew ?_|refine blk_alloc ?_ _));exact h2_.out):Q:=h a0 a1 a2
theorem z83_ (h:Q:=by exact ak (Kd.S_lower (Kd.S_newB (Kd.S_newM (M:=fun k_=>(w.heap.size≤k_)) ho0 (below_size Hd.b_) (fun k_ h_=>h_)) (g:=gb255) (o:=.cells #[.int .i64 a1_0,.int .i64 a1_1,.int .i64 a1_2,.string a1_3,.slice A1_4 l1_4.length c1_4] 34 (0,0)) (Hd.k_ BK255)) (below_size Hd.b_))):Q:=h
theorem z84_ (a0:Aside0 P0) (h:Aside0 P0→Q:=by intro h0_;rw [hg];exact Nat.ne_of_lt (IsS89.lt (show IsS89 w0 _ g s0_0 t606 t607 from by repeat (first|(with_reducible first|exact HI0.out|apply IsS89.alloc|apply IsS89.drewN|apply IsS89.drew|apply IsS89.set_1|apply IsS89.set_2|refine IsS89.far ?_ h0_.out _)|exact HI0.out)))):Q:=h a0
theorem z85_ (a0:Aside0 P0) (h:Aside0 P0→Q:=by intro h0_;rw [hg];exact Nat.ne_of_gt (IsS89.lt (show IsS89 w0 _ g s0_0 t606 t607 from by repeat (first|(with_reducible first|exact HI0.out|apply IsS89.alloc|apply IsS89.drewN|apply IsS89.drew|apply IsS89.set_1|apply IsS89.set_2|refine IsS89.far ?_ h0_.out _)|exact HI0.out)))):Q:=h a0
theorem z86_ (a0:Aside0 P0) (h:Aside0 P0→Q:=by intro h0_;rw [hg];exact Nat.ne_of_lt (IsS89.lt (show IsS89 w0 _ g s0_0 t658 t659 from by repeat (first|(with_reducible first|exact HI0.out|apply IsS89.alloc|apply IsS89.drewN|apply IsS89.drew|apply IsS89.set_1|apply IsS89.set_2|refine IsS89.far ?_ h0_.out _)|exact HI0.out)))):Q:=h a0
theorem z87_ (a0:Aside0 P0) (h:Aside0 P0→Q:=by intro h0_;rw [hg];exact Nat.ne_of_gt (IsS89.lt (show IsS89 w0 _ g s0_0 t658 t659 from by repeat (first|(with_reducible first|exact HI0.out|apply IsS89.alloc|apply IsS89.drewN|apply IsS89.drew|apply IsS89.set_1|apply IsS89.set_2|refine IsS89.far ?_ h0_.out _)|exact HI0.out)))):Q:=h a0
theorem z88_ (a0:Aside0 P0) (h:Aside0 P0→Q:=by intro h0_;exact ak (blk_grown (g:=gb452) (o:=.cells #[.int .i64 a1_0,.int .i64 a1_1,.int .i64 a1_2,.string a1_3,.slice A1_4 l1_4.length c1_4] 34 (0,0)) (Hd.k_ BK452) hg (Kd.N_away h0_.out (fun _ hk=>hk.1.2)))):Q:=h a0
theorem z89_ (a0:Aside0 P0) (h:Aside0 P0→Q:=by intro h0_;exact ak (Kd.R_below h0_.out q_.b)):Q:=h a0
theorem z90_ (a0:Aside0 P0) (a1:Aside0 P1) (a2:Aside0 P2) (h:Aside0 P0→Aside0 P1→Aside0 P2→Q:=by intro h0_ h1_ h2_;exact k34_mkM _ _ _ (⟨t279,t280,t281,t282,t283⟩:S34) (Kd.R_mono (Kd.R_tight rfl (Kd.R_mono (ok':=fun k_=>((fun k_=>(w.heap.size≤k_)∧k_≠gb255)) k_∧some k_≠(v257:Value).ownBlock) (Kd.R_types (Kd.R_apart' (h0_.out) (Kd.S_typed h1_.out) (by decide)) h2_.out (by decide)) (fun k_ hk=>⟨⟨hk.1.1.1,hk.2⟩,hk.1.2⟩))) (fun _ h_=>h_))):Q:=h a0 a1 a2
theorem z91_ (a0:Aside0 P0) (a1:Aside0 P1) (a2:Aside0 P2) (h:Aside0 P0→Aside0 P1→Aside0 P2→Q:=by intro h0_ h1_ h2_;exact k34_mkM _ _ _ (⟨t269,t270,t271,t272,t273⟩:S34) (Kd.R_mono (Kd.R_tight rfl (Kd.R_mono (ok':=fun k_=>((fun k_=>(w.heap.size≤k_)∧k_≠gb255)) k_∧some k_≠(v257:Value).ownBlock) (Kd.R_types (Kd.R_apart' (h0_.out) (Kd.S_typed h1_.out) (by decide)) h2_.out (by decide)) (fun k_ hk=>⟨⟨hk.1.1.1,hk.2⟩,hk.1.2⟩))) (fun _ h_=>h_))):Q:=h a0 a1 a2
theorem z92_ (h:Q:=by exact ak (Kd.R_below (Kd.R_elderB (Hd.r_ HO_3) gb519 (Nat.le_of_eq hg.symm)) hb)):Q:=h
theorem z93_ (a0:Aside0 P0) (h:Aside0 P0→Q:=by intro h0_;exact ak (KeepBut.blk hk (g':=gb519) (o:=.cells #[.int .i64 0,.int .i64 0] 75 (0,0)) (Hd.k_ BK519) h0_.out (by simp))):Q:=h a0
theorem z94_ (a0:Aside0 P0) (a1:Aside0 P1) (h:Aside0 P0→Aside0 P1→Q:=by intro h0_ h1_;(with_reducible repeat (first|refine blk_drewN ?_ _|refine blk_drew ?_|refine blk_alloc ?_ _));refine blk_far ?_ h0_.out _;(with_reducible repeat (first|refine blk_drewN ?_ _|refine blk_drew ?_|refine blk_alloc ?_ _));refine blk_far ?_ h0_.out _;(with_reducible repeat (first|refine blk_drewN ?_ _|refine blk_drew ?_|refine blk_alloc ?_ _));refine blk_far ?_ h0_.out _;(with_reducible repeat (first|refine blk_drewN ?_ _|refine blk_drew ?_|refine blk_alloc ?_ _));exact h1_.out):Q:=h a0 a1
theorem z95_ (h:Q:=by exact ak (Hd.kb_ BK816 hb)):Q:=h
theorem z96_ (a0:Aside0 P0) (a1:Aside0 P1) (a2:Aside0 P2) (h:Aside0 P0→Aside0 P1→Aside0 P2→Q:=by intro h0_ h1_ h2_;exact(k34_mkF _ _ (⟨t473,t474,t475,t476,t477⟩:S34) (Kd.R_reads' (Kd.R_mono (ok':=(fun k_=>((fun k_=>(P0_ k_∨w.heap.size≤k_)∧k_≠gb452)) k_∧some k_≠(v471:Value).ownBlock)) (Kd.R_types (Kd.R_apart' (h0_.out) (Kd.N_typed h1_.out) (by decide)) h2_.out (by decide)) (fun k_ hk=>⟨⟨(.inr (hk.1.1.1)),hk.2⟩,hk.1.2⟩))).2.1 (Kd.R_F (Kd.R_mono (ok':=(fun k_=>((fun k_=>(P0_ k_∨w.heap.size≤k_)∧k_≠gb452)) k_∧some k_≠(v471:Value).ownBlock)) (Kd.R_types (Kd.R_apart' (h0_.out) (Kd.N_typed h1_.out) (by decide)) h2_.out (by decide)) (fun k_ hk=>⟨⟨(.inr (hk.1.1.1)),hk.2⟩,hk.1.2⟩))))):Q:=h a0 a1 a2
theorem z97_ (a0:Aside0 P0) (h:Aside0 P0→Q:=by intro h0_;exact ak (Kd.R_drew h0_.out)):Q:=h a0
theorem z98_ (a0:Aside0 P0) (h:Aside0 P0→Q:=by intro h0_;(with_reducible repeat (first|refine blk_drewN ?_ _|refine blk_drew ?_|refine blk_alloc ?_ _));refine blk_put (cs:=#[.int .i64 ((rd_T75 x3_1 (ji9)).f0),.int .i64 0]) ?_ 1 _ rfl;(with_reducible repeat (first|refine blk_drewN ?_ _|refine blk_drew ?_|refine blk_alloc ?_ _));refine blk_put (cs:=#[.int .i64 0,.int .i64 0]) ?_ 0 _ rfl;(with_reducible repeat (first|refine blk_drewN ?_ _|refine blk_drew ?_|refine blk_alloc ?_ _));exact h0_.out):Q:=h a0
theorem z99_ (h:Q:=by exact ak (Hd.kb_ BK139 hb)):Q:=h
theorem z100_ (a0:Aside0 P0) (h:Aside0 P0→Q:=by intro h0_;(with_reducible repeat (first|refine blk_drewN ?_ _|refine blk_drew ?_|refine blk_alloc ?_ _));refine blk_put (cs:=#[.int .i64 t512,.int .i64 0]) ?_ 1 _ rfl;(with_reducible repeat (first|refine blk_drewN ?_ _|refine blk_drew ?_|refine blk_alloc ?_ _));refine blk_put (cs:=#[.int .i64 0,.int .i64 0]) ?_ 0 _ rfl;(with_reducible repeat (first|refine blk_drewN ?_ _|refine blk_drew ?_|refine blk_alloc ?_ _));exact h0_.out):Q:=h a0
theorem z101_ (h:Q:=by have:=HK1.out;omega):Q:=h
theorem z102_ (h:Q:=by exact ak (Hd.kb_ BK140 hb)):Q:=h
theorem z103_ (h:Q:=by have:=HK1.out;first|omega|exact Nat.le_refl _):Q:=h
theorem z104_ (a0:Aside0 P0) (h:Aside0 P0→Q:=by intro h0_;(with_reducible repeat (first|apply Kd.N_alloc|apply Kd.N_drewN|apply Kd.N_drew));exact Kd.N_mono h0_.out (fun _ hk=>⟨hk.1.1,hk.1.2⟩)):Q:=h a0
theorem z105_ (a0:Aside0 P0) (h:Aside0 P0→Q:=by intro h0_;exact ak (KeepBut.blk hk (g':=gb655) (o:=.cells #[.int .i64 0,.int .i64 0] 75 (0,0)) (Hd.k_ BK655) h0_.out (by simp))):Q:=h a0
theorem z106_ (h:Q:=by exact ak ((Hd.g_ hg Hd.b_:w.heap.size≤gb132))):Q:=h
theorem z107_ (h:Q:=by exact ak ((Hd.g_ hg Hd.b_:w.heap.size≤gb133))):Q:=h
theorem z108_ (h:Q:=by exact ak ((Hd.g_ hg Hd.b_:w.heap.size≤gb355))):Q:=h
theorem z109_ (h:Q:=by exact ak ((Hd.g_ hg Hd.b_:w.heap.size≤gb356))):Q:=h
theorem z110_ (h:Q:=by exact ak ((Hd.g_ hg Hd.b_:w.heap.size≤gb776))):Q:=h
theorem z111_ (h:Q:=by exact ak ((Hd.g_ hg Hd.b_:w.heap.size≤gb777))):Q:=h
theorem z112_ (h:Q:=by exact ak (Kd.N_lower (Kd.N_mono (ok':=fun k_=>(P0_ k_∨w.heap.size≤k_)∧k_≠gb452) (Kd.S_N (Kd.S_bound ho0)) (fun k_ hk_=>⟨(.inr (Nat.le_trans (below_size Hd.b_) hk_.2.1)),(Kd.freshB (g:=gb452) (o:=.cells #[.int .i64 a1_0,.int .i64 a1_1,.int .i64 a1_2,.string a1_3,.slice A1_4 l1_4.length c1_4] 34 (0,0)) (Hd.k_ BK452) k_ hk_.2.1)⟩)) (below_size Hd.b_))):Q:=h
theorem z113_ (a0:Aside0 P0) (h:Aside0 P0→Q:=by intro h0_;exact ak (blk_grown (g:=gb255) (o:=.cells #[.int .i64 a1_0,.int .i64 a1_1,.int .i64 a1_2,.string a1_3,.slice A1_4 l1_4.length c1_4] 34 (0,0)) (Hd.k_ BK255) hg (Kd.S_away h0_.out (fun _ hk=>hk.2.2)))):Q:=h a0
theorem z114_ (h:Q:=by have:=HJ2.out;first|omega|exact Nat.le_refl _):Q:=h
theorem z115_ (h:Q:=by exact ak (KeepBut.refl w g none)):Q:=h
theorem z116_ (h:Q:=by exact ak ((by rw [hw];exact below_set (below_set (below_set (below_set (below_set (HB.out) GB14.out) GB14.out) GB14.out) GB14.out) GB14.out:Below w.heap.size w w18))):Q:=h
theorem z117_ (a0:Aside0 P0) (h:Aside0 P0→Q:=by intro h0_;(with_reducible repeat (first|apply Kd.R_alloc|apply Kd.R_drewN|apply Kd.R_drew));exact Kd.R_mono (Kd.R_far (p:=⟨gb511,1,none⟩) (Kd.R_far (p:=⟨gb511,0,none⟩) (Kd.R_mono h0_.out (fun k_ hk=>(⟨hk,hk.2⟩:_∧k_≠gb511))) (fun _ hk=>hk.2) (.int .i64 ((rd_T75 x3_1 (ji9)).f0))) (fun _ hk=>hk.2) (.int .i64 ((rd_T75 x3_1 (ji9)).f1))) (fun _ hk=>hk.1.2)):Q:=h a0
theorem z118_ (h:Q:=by exact ak (Kd.V_elder' (by (with_reducible repeat (first|apply Kd.V_alloc|apply Kd.V_drewN|apply Kd.V_drew));exact HL268_4.out) (Kd.R_base ho0) hb)):Q:=h
theorem z119_ (h:Q:=by exact ak ((by rw [hg];exact Nat.ne_of_lt (IsS89.lt (show IsS89 w0 _ g s0_0 x1001_1 x1002_1 from by repeat (first|(with_reducible first|exact HI0.out|apply IsS89.alloc|apply IsS89.drewN|apply IsS89.drew|apply IsS89.set_1|apply IsS89.set_2)|exact HI0.out))):g≠gb511))):Q:=h
theorem z120_ (h:Q:=by exact ak ((by rw [hg];exact Nat.ne_of_gt (IsS89.lt (show IsS89 w0 _ g s0_0 x1001_1 x1002_1 from by repeat (first|(with_reducible first|exact HI0.out|apply IsS89.alloc|apply IsS89.drewN|apply IsS89.drew|apply IsS89.set_1|apply IsS89.set_2)|exact HI0.out))):gb511≠g))):Q:=h
theorem z121_ (h:Q:=by exact ak ((Hd.g_ hg Hd.b_:w.heap.size≤gb165))):Q:=h
theorem z122_ (h:Q:=by exact ak ((Hd.g_ hg Hd.b_:w.heap.size≤gb216))):Q:=h
theorem z123_ (a0:Aside0 P0) (h:Aside0 P0→Q:=by intro h0_;exact(Kd.V_reads' h0_.out).2.1):Q:=h a0
theorem z124_ (a0:Aside0 P0) (h:Aside0 P0→Q:=by intro h0_;rw [hg];exact Nat.ne_of_lt (IsS89.lt (show IsS89 w0 _ g s0_0 x1001_1 x1002_1 from by repeat (first|(with_reducible first|exact HI0.out|apply IsS89.alloc|apply IsS89.drewN|apply IsS89.drew|apply IsS89.set_1|apply IsS89.set_2|refine IsS89.far ?_ h0_.out _)|exact HI0.out)))):Q:=h a0
theorem z125_ (a0:Aside0 P0) (h:Aside0 P0→Q:=by intro h0_;rw [hg];exact Nat.ne_of_gt (IsS89.lt (show IsS89 w0 _ g s0_0 x1001_1 x1002_1 from by repeat (first|(with_reducible first|exact HI0.out|apply IsS89.alloc|apply IsS89.drewN|apply IsS89.drew|apply IsS89.set_1|apply IsS89.set_2|refine IsS89.far ?_ h0_.out _)|exact HI0.out)))):Q:=h a0
theorem z126_ (a0:Aside0 P0) (h:Aside0 P0→Q:=by intro h0_;rw [hg];exact Nat.ne_of_lt (IsS89.lt (show IsS89 w _ g752 t749 t765 t766 from by repeat (first|(with_reducible first|exact HI752.out|apply IsS89.alloc|apply IsS89.drewN|apply IsS89.drew|apply IsS89.set_1|apply IsS89.set_2|refine IsS89.far ?_ h0_.out _)|exact HI752.out)))):Q:=h a0
theorem z127_ (a0:Aside0 P0) (h:Aside0 P0→Q:=by intro h0_;rw [hg];exact Nat.ne_of_gt (IsS89.lt (show IsS89 w _ g752 t749 t765 t766 from by repeat (first|(with_reducible first|exact HI752.out|apply IsS89.alloc|apply IsS89.drewN|apply IsS89.drew|apply IsS89.set_1|apply IsS89.set_2|refine IsS89.far ?_ h0_.out _)|exact HI752.out)))):Q:=h a0
theorem z128_ (a0:Aside0 P0) (h:Aside0 P0→Q:=by intro h0_;rw [hg];exact Nat.ne_of_lt (IsS89.lt (show IsS89 w0 _ g s0_0 t513 t514 from by repeat (first|(with_reducible first|exact HI0.out|apply IsS89.alloc|apply IsS89.drewN|apply IsS89.drew|apply IsS89.set_1|apply IsS89.set_2|refine IsS89.far ?_ h0_.out _)|exact HI0.out)))):Q:=h a0
theorem z129_ (a0:Aside0 P0) (h:Aside0 P0→Q:=by intro h0_;rw [hg];exact Nat.ne_of_gt (IsS89.lt (show IsS89 w0 _ g s0_0 t513 t514 from by repeat (first|(with_reducible first|exact HI0.out|apply IsS89.alloc|apply IsS89.drewN|apply IsS89.drew|apply IsS89.set_1|apply IsS89.set_2|refine IsS89.far ?_ h0_.out _)|exact HI0.out)))):Q:=h a0
theorem z130_ (h:Q:=by exact ak (Hd.kb_ BK132 hb)):Q:=h
theorem z131_ (h:Q:=by exact ak (Kd.V_lower (Kd.V_mono (ok':=fun k_=>some k_≠(v807:Value).ownBlock) ho1 (fun k_ hk_=>hk_.2)) (below_size Hd.b_))):Q:=h
theorem z132_ (a0:Aside0 P0) (h:Aside0 P0→Q:=by intro h0_;(with_reducible repeat (first|apply Kd.V_alloc|apply Kd.V_drewN|apply Kd.V_drew));exact Kd.V_mono h0_.out (fun _ hk=>⟨hk.1.1,hk.2⟩)):Q:=h a0
theorem z133_ (h:Q:=by exact(below_size Hd.b_)):Q:=h
theorem z134_ (h:Q:=by exact(hb.cell (bl_ _ _ (hHeld.2.2.2.2.2.2.2.2.1))).trans (hHeld.2.2.2.2.2.2.2.2.1)):Q:=h
theorem z135_ (h:Q:=by exact(hb.cell (bl_ _ _ (hHeld.2.2.2.2.2.2.2.2.2))).trans (hHeld.2.2.2.2.2.2.2.2.2)):Q:=h
theorem z136_ (a0:Aside0 P0) (h:Aside0 P0→Q:=by intro h0_;(with_reducible repeat (first|apply Kd.S_alloc|apply Kd.S_drewN|apply Kd.S_drew));exact Kd.S_mono h0_.out (fun _ hk=>hk.1)):Q:=h a0
theorem z137_ (a0:Aside0 P0) (h:Aside0 P0→Q:=by intro h0_;(with_reducible repeat (first|apply Kd.R_alloc|apply Kd.R_drewN|apply Kd.R_drew));exact Kd.R_mono h0_.out (fun _ hk=>hk.2)):Q:=h a0
theorem z138_ (h:Q:=by exact ak (Hd.kb_ BK255 hb)):Q:=h
theorem z139_ (h:Q:=by exact(hb.cell (bl_ _ _ (hHeld.2.2.2.2.2.2.2.1))).trans (hHeld.2.2.2.2.2.2.2.1)):Q:=h
theorem z140_ (h:Q:=by exact ak (Kd.R_lower ho0 (below_size Hd.b_))):Q:=h
theorem z141_ (h:Q:=by exact Hd.HW.x (W0:=wr.drew) ((HB.out.cell (bl_ w _ hw335_0)).trans hw335_0)):Q:=h
theorem z142_ (h:Q:=by exact Hd.HW.x (W0:=wr.drew) ((HB.out.cell (bl_ w _ hw335_1)).trans hw335_1)):Q:=h
theorem z143_ (h:Q:=by exact(hb.cell (bl_ _ _ (hHeld.2.2.2.2.2.2.1))).trans (hHeld.2.2.2.2.2.2.1)):Q:=h
theorem z144_ (h:Q:=by have:=HJ2.out;have:=HJ19.out;first|omega|exact Nat.le_refl _):Q:=h
theorem z145_ (h:Q:=by have:=HK1.out;have:=HK2.out;omega):Q:=h
theorem z146_ (h:Q:=by exact ak ((Hd.g_ hg Hd.b_:w.heap.size≤gb105))):Q:=h
theorem z147_ (h:Q:=by exact ak ((Hd.g_ hg Hd.b_:w.heap.size≤gb121))):Q:=h
theorem z148_ (h:Q:=by exact ak ((Hd.g_ hg Hd.b_:w.heap.size≤gb122))):Q:=h
theorem z149_ (h:Q:=by exact ak ((Hd.g_ hg Hd.b_:w.heap.size≤gb255))):Q:=h
theorem z150_ (h:Q:=by exact ak ((Hd.g_ hg Hd.b_:w.heap.size≤gb349))):Q:=h
theorem z151_ (h:Q:=by exact ak ((Hd.g_ hg Hd.b_:w.heap.size≤gb816))):Q:=h
theorem z152_ (h:Q:=by exact ak (Kd.R_below (Hd.r_ HO_3) hb)):Q:=h
theorem z153_ (h:Q:=by exact ak (Kd.N_lower (Kd.N_mono (ok':=fun k_=>True) ho0 (fun k_ hk_=>trivial)) (below_size Hd.b_))):Q:=h
theorem z154_ (h:Q:=by exact(hb.cell (bl_ _ _ (hHeld.2.2.2.2.2.1))).trans (hHeld.2.2.2.2.2.1)):Q:=h
theorem z155_ (a0:Aside0 P0) (h:Aside0 P0→Q:=by intro h0_;exact far_slice (IsS89.own_ne HI0.out h0_.out (by decide))):Q:=h a0
theorem z156_ (h:Q:=by exact ak (Ne.symm (IsS89.ne_blk hi (blk_below (g:=gb748) (o:=.cells #[.int .i64 0,.int .i64 0,.int .i64 0,.string (⟨#[]⟩:ByteArray),.slice none 0 0] 34 (0,0)) (Hd.k_ BK748) hb2) (by decide)))):Q:=h
theorem z157_ (a0:Aside0 P0) (h:Aside0 P0→Q:=by intro h0_;exact ak (Kd.N_afterv (ok:=(fun k_=>(P0_ k_∨w.heap.size≤k_)∧k_≠gb452)) (by (with_reducible repeat (first|apply Kd.N_alloc|apply Kd.N_drewN|apply Kd.N_drew));exact Kd.N_mono h0_.out (fun _ hk=>⟨⟨hk.1,hk.2.2⟩,hk.2.1⟩)) hg hat)):Q:=h a0
theorem z158_ (h:Q:=by exact ak (pw_below_drewN HB.out nd)):Q:=h
theorem z159_ (h:Q:=by exact ak (IsS89.ne_blk hi (blk_below (g:=gb748) (o:=.cells #[.int .i64 0,.int .i64 0,.int .i64 0,.string (⟨#[]⟩:ByteArray),.slice none 0 0] 34 (0,0)) (Hd.k_ BK748) hb2) (by decide))):Q:=h
theorem z160_ (h:Q:=by exact ak (Hd.kb_ BK133 hb)):Q:=h
theorem z161_ (h:Q:=by first|rfl|(simp [errW_none,errW_some] <;> rfl)|(simp only[← hji7];first|rfl|(simp [errW_none,errW_some] <;> rfl))|(simp [*,errW_none,errW_some] <;> rfl)):Q:=h
theorem z162_ (h:Q:=by have:=HJ1.out;have:=HK2.out;have:=HK3.out;first|omega|exact Nat.le_refl _):Q:=h
theorem z163_ (h:Q:=by exact Bool.eq_false_iff.mpr c3):Q:=h
theorem z164_ (h:Q:=by exact ak (Hd.kb_ BK386 hb)):Q:=h
theorem z165_ (a0:Aside0 P0) (h:Aside0 P0→Q:=by intro h0_;exact ak (Kd.V_drew h0_.out)):Q:=h a0
theorem z166_ (h:Q:=by have:=HK1.out;have:=HJ12.out;have:=HK3.out;omega):Q:=h
theorem z167_ (h:Q:=by exact ak (blk_below (g:=gb748) (o:=.cells #[.int .i64 0,.int .i64 0,.int .i64 0,.string (⟨#[]⟩:ByteArray),.slice none 0 0] 34 (0,0)) (Hd.k_ BK748) hb2)):Q:=h
theorem z168_ (h:Q:=by exact ak (show Kd.V k34 34 w w.heap.size (fun k_=>(P0_ k_∨w.heap.size≤k_)) (.slice A0 l0.length c0) l0 from Kd.V_mono hs0 (fun k_ hk => .inl hk))):Q:=h
theorem z169_ (h:Q:=by exact ak (Hd.kb_ BK387 hb)):Q:=h
theorem z170_ (a0:Aside0 P0) (h:Aside0 P0→Q:=by intro h0_;skip;exact Kd.N_F (Kd.N_mono (ok':=(fun k_=>((fun k_=>(P0_ k_∨w.heap.size≤k_)∧k_≠gb452)) k_∧some k_≠(v481:Value).ownBlock)) (h0_.out) (fun k_ hk=>⟨⟨hk.1,hk.2.2⟩,hk.2.1⟩))):Q:=h a0
theorem z171_ (h:Q:=by exact Bool.eq_false_iff.mpr c5):Q:=h
theorem z172_ (a0:Aside0 P0) (h:Aside0 P0→Q:=by intro h0_;exact(Kd.N_reads' h0_.out).1):Q:=h a0
theorem z173_ (h:Q:=by have:=HK1.out;have:=HK2.out;first|omega|exact Nat.le_refl _):Q:=h
theorem z174_ (h:Q:=by exact ak (Hd.kb_ BK113 hb)):Q:=h
theorem z175_ (h:Q:=by exact(HB.out.cell (bl_ w _ hx164_0)).trans hx164_0):Q:=h
theorem z176_ (h:Q:=by exact(HB.out.cell (bl_ w _ hx164_1)).trans hx164_1):Q:=h
theorem z177_ (h:Q:=by exact(fun _ _=>trivial)):Q:=h
theorem z178_ (h:Q:=by exact(HB.out.cell (bl_ w _ hx215_0)).trans hx215_0):Q:=h
theorem z179_ (h:Q:=by exact(HB.out.cell (bl_ w _ hx215_1)).trans hx215_1):Q:=h
theorem z180_ (h:Q:=by exact(HB.out.cell (bl_ w _ hx215_2)).trans hx215_2):Q:=h
theorem z181_ (h:Q:=by exact(HB.out.cell (bl_ w _ hx215_3)).trans hx215_3):Q:=h
theorem z182_ (h:Q:=by exact(HB.out.cell (bl_ w _ hx215_4)).trans hx215_4):Q:=h
theorem z183_ (h:Q:=by simp [Act.eval,Act.put]):Q:=h
theorem z184_ (h:Q:=by exact(HB.out.cell (bl_ w _ hx335_0)).trans hx335_0):Q:=h
theorem z185_ (h:Q:=by exact(HB.out.cell (bl_ w _ hx335_1)).trans hx335_1):Q:=h
theorem z186_ (h:Q:=by exact ak (Hd.kb_ BK388 hb)):Q:=h
theorem z187_ (h:Q:=by exact ak (Hd.kb_ BK393 hb)):Q:=h
theorem z188_ (h:Q:=by exact(HB.out.cell (bl_ w _ hx448_0)).trans hx448_0):Q:=h
theorem z189_ (h:Q:=by exact(HB.out.cell (bl_ w _ hx448_1)).trans hx448_1):Q:=h
theorem z190_ (h:Q:=by exact(HB.out.cell (bl_ w _ hx448_2)).trans hx448_2):Q:=h
theorem z191_ (h:Q:=by exact(HB.out.cell (bl_ w _ hx448_3)).trans hx448_3):Q:=h
theorem z192_ (h:Q:=by exact(HB.out.cell (bl_ w _ hx448_4)).trans hx448_4):Q:=h
theorem z193_ (h:Q:=by exact ak (Hd.kb_ BK452 hb)):Q:=h
theorem z194_ (h:Q:=by exact Kd.N_mono (Kd.S_N hs0_) (fun k_ h_=>(Or.inr h_:k_≠gb816∨_))):Q:=h
theorem z195_ (h:Q:=by exact ak ((Hd.lt_ BK511 hg))):Q:=h
theorem z196_ (h:Q:=by exact ak ((Hd.gt_ BK511 hg))):Q:=h
theorem z197_ (a0:Aside0 P0) (h:Aside0 P0→Q:=by intro h0_;exact ak (KeepBut.blk hk (g':=gb738) (o:=.cells #[.int .i64 0,.int .i64 0,.int .i64 0,.string (⟨#[]⟩:ByteArray),.slice none 0 0] 34 (0,0)) (Hd.k_ BK738) h0_.out (by simp))):Q:=h a0
theorem z198_ (h:Q:=by exact decide_eq_false c4):Q:=h
theorem z199_ (h:Q:=by exact ak ((Hd.g_ hg Hd.b_:w.heap.size≤gb102))):Q:=h
theorem z200_ (h:Q:=by exact ak ((Hd.g_ hg Hd.b_:w.heap.size≤gb125))):Q:=h
theorem z201_ (h:Q:=by exact ak ((Hd.g_ hg Hd.b_:w.heap.size≤gb126))):Q:=h
theorem z202_ (h:Q:=by exact ak ((Hd.g_ hg Hd.b_:w.heap.size≤gb153))):Q:=h
theorem z203_ (h:Q:=by exact ak ((Hd.g_ hg Hd.b_:w.heap.size≤gb154))):Q:=h
theorem z204_ (h:Q:=by exact ak ((Hd.g_ hg Hd.b_:w.heap.size≤gb332))):Q:=h
theorem z205_ (h:Q:=by exact ak ((Hd.g_ hg Hd.b_:w.heap.size≤gb748))):Q:=h
theorem z206_ (h:Q:=by exact ak ((Hd.g_ hg Hd.b_:w.heap.size≤gb780))):Q:=h
theorem z207_ (h:Q:=by exact ak ((Hd.g_ hg Hd.b_:w.heap.size≤gb782))):Q:=h
theorem z208_ (h:Q:=by exact ak (Hd.kb_ BK114 hb)):Q:=h
theorem z209_ (h:Q:=by exact ak (Hd.kb_ BK394 hb)):Q:=h
theorem z210_ (h:Q:=by exact ak (Hd.kb_ BK511 hb)):Q:=h
theorem z211_ (a0:Aside0 P0) (h:Aside0 P0→Q:=by intro h0_;repeat (first|(with_reducible first|exact HB.out|apply below_alloc|apply pw_below_drewN|apply below_drew1|refine below_set ?_ h0_.out)|exact HB.out)):Q:=h a0
theorem z212_ (h:Q:=by exact decide_eq_true c10):Q:=h
theorem z213_ (h:Q:=by exact(Reps.none _ _)):Q:=h
theorem z214_ (h:Q:=by rw [← add_field _ _ 1 (by omega)];exact hc 1 _ rfl):Q:=h
theorem z215_ (a0:Aside0 P0) (h:Aside0 P0→Q:=by intro h0_;(with_reducible repeat (first|apply Kd.N_alloc|apply Kd.N_drewN|apply Kd.N_drew));exact Kd.N_mono h0_.out (fun _ hk=>⟨hk.1.1,hk.2⟩)):Q:=h a0
theorem z216_ (a0:Aside0 P0) (h:Aside0 P0→Q:=by intro h0_;(with_reducible repeat (first|apply Kd.N_alloc|apply Kd.N_drewN|apply Kd.N_drew));exact Kd.N_mono h0_.out (fun _ hk=>⟨hk.1,hk.2.1⟩)):Q:=h a0
theorem z217_ (h:Q:=by exact ak (KeepBut.trans z0_ (KeepBut.of_below hb g none) (.inl rfl))):Q:=h
theorem z218_ (h:Q:=by exact ak (KeepBut.trans z0_ hk (.inl rfl))):Q:=h
theorem z219_ (h:Q:=by exact ak (Kd.N_mono (Kd.N_keep (Kd.N_mono (ok:=fun k_=>(((w.heap.size≤k_))∧k_≠g)) (z3_ HO695) (fun k_ hk_=>(⟨hk_,hk_.2⟩:_∧k_≠g))) hk (fun _ h=>h.2)) (fun _ h=>h.1))):Q:=h
theorem z220_ (h:Q:=by exact ak (Kd.N_lower (Kd.N_mono (ok':=fun k_=>(w.heap.size≤k_)∧k_≠g) ho0 (fun k_ hk_=>⟨(Nat.le_trans (keep_size (w:=w) (g:=g) (row:=none) z0_) hk_),(IsS89.fresh z1_ k_ hk_)⟩)) (keep_size (w:=w) (g:=g) (row:=none) z0_))):Q:=h
theorem z221_ (h:Q:=by rw [hg];exact(keep_size (w:=w) (g:=g) (row:=none) z0_)):Q:=h
theorem z222_ (h:Q:=by exact ak ((Nat.le_trans HW0.out (by rw [hg];exact(keep_size (w:=w) (g:=g) (row:=none) (z4_ GW511)):w.heap.size≤gb519):w0.heap.size≤gb519))):Q:=h
theorem z223_ (h:Q:=by rw [hg];exact(keep_size (w:=w) (g:=g) (row:=none) (z4_ GW511))):Q:=h
theorem z224_ (h:Q:=by exact ak (IsS89.below z1_ hb)):Q:=h
theorem z225_ (h:Q:=by exact ak (below_step z2_ hb)):Q:=h
theorem z226_ (h:Q:=by exact ak (Kd.N_below (z3_ HO808) hb)):Q:=h
theorem z227_ (h:Q:=by exact ak (Kd.V_below (z5_ HO815) hb)):Q:=h
theorem z228_ (h:Q:=by exact ak (Kd.N_below (z3_ HO819) hb)):Q:=h
theorem z229_ (h:Q:=by exact ak (Kd.C_below (z20_ HR823_4) hb)):Q:=h
theorem z230_ (h:Q:=by exact ak (KeepBut.trans (z4_ GW511) (KeepBut.of_below hb g none) (.inl rfl))):Q:=h
theorem z231_ (h:Q:=by exact ak (Kd.V_afterv (v:=(.slice (some ⟨go14,0,none⟩) t256.length co14)) (v1:=(.slice (some ⟨go14,0,none⟩) t256.length co14)) (ok:=(fun k_=>(P0_ k_∨w.heap.size≤k_)∧some k_≠(v265:Value).ownBlock∧k_≠gb255)) (z48_ HO0) hg (.inl rfl))):Q:=h
theorem z232_ (h:Q:=by exact ak (Kd.V_lower (Kd.V_mono (ok':=fun k_=>(w.heap.size≤k_)∧some k_≠(v754:Value).ownBlock∧k_≠gb748∧k_≠g752) ho0 (fun k_ hk_=>⟨(Nat.le_trans (below_size (z23_ GE748)) hk_),(Kd.fresh' (Kd.N_lt (z3_ HO755)) k_ hk_),(Kd.freshB (g:=gb748) (o:=.cells #[.int .i64 0,.int .i64 0,.int .i64 0,.string (⟨#[]⟩:ByteArray),.slice none 0 0] 34 (0,0)) (Hd.k_ BK748) k_ hk_),(IsS89.fresh (z35_ NB752_748) k_ hk_)⟩)) (below_size (z23_ GE748)))):Q:=h
theorem z233_ (h:Q:=by exact ak (Kd.N_lower (Kd.N_mono (ok':=fun k_=>(P0_ k_∨w.heap.size≤k_)∧some k_≠(v481:Value).ownBlock∧k_≠gb452) (Kd.S_N (Kd.S_bound ho0)) (fun k_ hk_=>⟨(.inr (Nat.le_trans (below_size Hd.b_) hk_.2.1)),(Kd.fresh' (Kd.N_lt (z3_ HO482)) k_ hk_.2.1),(Kd.freshB (g:=gb452) (o:=.cells #[.int .i64 a1_0,.int .i64 a1_1,.int .i64 a1_2,.string a1_3,.slice A1_4 l1_4.length c1_4] 34 (0,0)) (Hd.k_ BK452) k_ hk_.2.1)⟩)) (below_size Hd.b_))):Q:=h
theorem z234_ (a0:Aside0 P0) (h:Aside0 P0→Q:=by intro h0_;exact ak (IsS89.grown (Hd.as_ (fun W_=>IsS89 _ W_ _ _ _ _) HI0.out z1_) hg (IsS89.own_neN HI0.out h0_.out (by decide)))):Q:=h a0
theorem z235_ (h:Q:=by exact ak (Kd.N_lower (Kd.N_mono (ok':=fun k_=>(w.heap.size≤k_)∧k_≠gb738∧k_≠g) ho0 (fun k_ hk_=>⟨(Nat.le_trans (keep_size (w:=w) (g:=g) (row:=none) (z4_ GW738)) hk_),(Kd.freshB (g:=gb738) (o:=.cells #[.int .i64 0,.int .i64 0,.int .i64 0,.string (⟨#[]⟩:ByteArray),.slice none 0 0] 34 (0,0)) (Hd.k_ BK738) k_ hk_),(IsS89.fresh (z7_ NB0_738) k_ hk_)⟩)) (keep_size (w:=w) (g:=g) (row:=none) (z4_ GW738)))):Q:=h
theorem z236_ (h:Q:=by exact ak (Kd.N_lower (Kd.N_mono (ok':=fun k_=>(w.heap.size≤k_)∧k_≠gb748∧k_≠g752) ho0 (fun k_ hk_=>⟨(Nat.le_trans (below_size (z23_ GE748)) hk_),(Kd.freshB (g:=gb748) (o:=.cells #[.int .i64 0,.int .i64 0,.int .i64 0,.string (⟨#[]⟩:ByteArray),.slice none 0 0] 34 (0,0)) (Hd.k_ BK748) k_ hk_),(IsS89.fresh (z35_ NB752_748) k_ hk_)⟩)) (below_size (z23_ GE748)))):Q:=h
theorem z237_ (h:Q:=by exact ak (KeepBut.trans (z4_ GW598) hk (.inl rfl))):Q:=h
theorem z238_ (h:Q:=by rw [hg];exact(keep_size (w:=w) (g:=g) (row:=none) (z4_ GW598))):Q:=h
theorem z239_ (h:Q:=by rw [hg];exact(keep_size (w:=w) (g:=g) (row:=none) (z4_ GW655))):Q:=h
theorem z240_ (h:Q:=by exact ak (Kd.N_below (z3_ HO828) hb)):Q:=h
theorem z241_ (h:Q:=by exact ak (Kd.S_lower (Kd.S_new' (Kd.S_newM (M:=fun k_=>(w.heap.size≤k_)) ho0 (below_size Hd.b_) (fun k_ h_=>h_)) (Kd.S_lt (z24_ HO_6))) (below_size Hd.b_))):Q:=h
theorem z242_ (a0:Aside0 P0) (h:Aside0 P0→Q:=by intro h0_;exact ak (KeepBut.blk hk (g':=gb598) (o:=.cells #[.int .i64 0,.int .i64 0,.int .i64 0,.string (⟨#[]⟩:ByteArray),.slice none 0 0] 34 (0,0)) (z19_ NB598_608 BK598) h0_.out (by simp))):Q:=h a0
theorem z243_ (a0:Aside0 P0) (h:Aside0 P0→Q:=by intro h0_;exact ak (KeepBut.blk hk (g':=gb608) (o:=.cells #[.int .i64 a1,.int .i64 (wrap64 (1+t599)),.int .i64 t602,.string t605,.slice none 0 0] 34 (0,0)) (z28_ BK608) h0_.out (by simp))):Q:=h a0
theorem z244_ (h:Q:=by exact ak (Kd.V_below z31_ hb)):Q:=h
theorem z245_ (h:Q:=by exact ak (Kd.V_elder' (z5_ HO_0) (Kd.R_base ho0) hb)):Q:=h
theorem z246_ (h:Q:=by exact ak (Kd.V_elder' (z5_ HO_0) (Kd.S_base ho0) hb)):Q:=h
theorem z247_ (h:Q:=by exact ak (Kd.V_afterv (ok:=(fun k_=>(P0_ k_∨w.heap.size≤k_)∧some k_≠(.slice Ao34 t283.length co34:Value).ownBlock∧k_≠gb255)) (z71_ HO_0) hg hat)):Q:=h
theorem z248_ (h:Q:=by exact ak (Kd.V_afterv (ok:=(fun k_=>(P0_ k_∨w.heap.size≤k_)∧some k_≠(.slice Ao28 t273.length co28:Value).ownBlock∧k_≠gb255)) (z71_ HO_0) hg hat)):Q:=h
theorem z249_ (h:Q:=by exact ak ((by rw [hg];exact Nat.ne_of_lt (blk_lt (g:=gb780) (o:=.cells #[.int .i64 ((rd_T34 l0 x17_1).f0),.int .i64 ((rd_T34 l0 x17_1).f1),.int .i64 ((rd_T34 l0 x17_1).f2),.string ((rd_T34 l0 x17_1).f3),.slice A779_4 ((rd_T34 l0 x17_1).f4).length c779_4] 34 (0,0)) (z13_ BK780)):gb780≠gb782))):Q:=h
theorem z250_ (h:Q:=by exact ak ((by rw [hg];exact Nat.ne_of_gt (blk_lt (g:=gb780) (o:=.cells #[.int .i64 ((rd_T34 l0 x17_1).f0),.int .i64 ((rd_T34 l0 x17_1).f1),.int .i64 ((rd_T34 l0 x17_1).f2),.string ((rd_T34 l0 x17_1).f3),.slice A779_4 ((rd_T34 l0 x17_1).f4).length c779_4] 34 (0,0)) (z13_ BK780)):gb782≠gb780))):Q:=h
theorem z251_ (h:Q:=by exact ak (blk_below (g:=gb780) (o:=.cells #[.int .i64 ((rd_T34 l0 x17_1).f0),.int .i64 ((rd_T34 l0 x17_1).f1),.int .i64 ((rd_T34 l0 x17_1).f2),.string ((rd_T34 l0 x17_1).f3),.slice A779_4 ((rd_T34 l0 x17_1).f4).length c779_4] 34 (0,0)) (z19_ NB780_782 BK780) hb)):Q:=h
theorem z252_ (h:Q:=by exact ak (blk_below (g:=gb780) (o:=.cells #[.int .i64 ((rd_T34 l0 x17_1).f0),.int .i64 ((rd_T34 l0 x17_1).f1),.int .i64 ((rd_T34 l0 x17_1).f2),.string ((rd_T34 l0 x17_1).f3),.slice A779_4 ((rd_T34 l0 x17_1).f4).length c779_4] 34 (0,0)) (z13_ BK780) hb)):Q:=h
theorem z253_ (h:Q:=by exact ak (blk_below (g:=gb782) (o:=.cells #[.int .i64 ((rd_T34 l1 x17_1).f0),.int .i64 ((rd_T34 l1 x17_1).f1),.int .i64 ((rd_T34 l1 x17_1).f2),.string ((rd_T34 l1 x17_1).f3),.slice A781_4 ((rd_T34 l1 x17_1).f4).length c781_4] 34 (0,0)) (z40_ BK782) hb)):Q:=h
theorem z254_ (h:Q:=by exact ak (KeepBut.trans (z8_ GW511 GW519) hk (.inl rfl))):Q:=h
theorem z255_ (h:Q:=by exact ak (Kd.R_lower ho0 (keep_size (w:=w) (g:=g) (row:=none) z0_))):Q:=h
theorem z256_ (h:Q:=by exact ak (Kd.V_mono (Kd.V_told (Kd.V_told (Kd.V_old (z5_ HO815) hb) (Kd.N_base ho0)) (Kd.N_base ho1)) (fun _ h_=>h_.1))):Q:=h
theorem z257_ (h:Q:=by exact ak (Kd.N_mono (Kd.N_told (Kd.N_told (Kd.N_old (z3_ HO808) hb) (Kd.N_base ho0)) (Kd.N_base ho1)) (fun _ h_=>h_.1))):Q:=h
theorem z258_ (h:Q:=by exact ak (Kd.N_mono (Kd.N_told (Kd.N_told (Kd.N_old (z3_ HO819) hb) (Kd.N_base ho0)) (Kd.N_base ho1)) (fun _ h_=>h_.1))):Q:=h
theorem z259_ (h:Q:=by exact ak (Kd.S_elder' (z24_ HO_6) (Kd.R_base ho0) hb)):Q:=h
theorem z260_ (h:Q:=by exact ak (IsS89.below (z7_ NB0_511) hb)):Q:=h
theorem z261_ (a0:Aside0 P0) (h:Aside0 P0→Q:=by intro h0_;exact ak (KeepBut.trans z0_ (KeepBut.of_grown hg g) (Kd.N_base2 h0_.out))):Q:=h a0
theorem z262_ (h:Q:=by exact ak ((by rw [hg];exact(below_size (z23_ GE748)):w.heap.size≤gb767))):Q:=h
theorem z263_ (a0:Aside0 P0) (h:Aside0 P0→Q:=by intro h0_;exact ak (KeepBut.blk hk (g':=gb655) (o:=.cells #[.int .i64 0,.int .i64 0] 75 (0,0)) (z22_ NB655_660 BK655) h0_.out (by simp))):Q:=h a0
theorem z264_ (h:Q:=by exact ak (KeepBut.trans (z8_ GW655 GW660) hk (.inl rfl))):Q:=h
theorem z265_ (a0:Aside0 P0) (h:Aside0 P0→Q:=by intro h0_;exact ak (KeepBut.blk hk (g':=gb660) (o:=.cells #[.int .i64 t656,.int .i64 t657] 75 (0,0)) (z44_ BK660) h0_.out (by simp))):Q:=h a0
theorem z266_ (h:Q:=by exact ak (Kd.N_mono (Kd.N_keep (Kd.N_mono (ok:=fun k_=>(((w.heap.size≤k_))∧(k_≠gb748∧k_≠g752))) (z3_ HO755) (fun k_ hk_=>(⟨hk_,hk_.2.2⟩:_∧k_≠g752))) hk (fun _ h=>h.2)) (fun _ h=>h.1))):Q:=h
theorem z267_ (h:Q:=by exact ak (below_step (z9_ GE511) hb)):Q:=h
theorem z268_ (a0:Aside0 P0) (h:Aside0 P0→Q:=by intro h0_;exact ak (IsS89.grown (Hd.as_ (fun W_=>IsS89 _ W_ _ _ _ _) HI0.out z1_) hg (IsS89.own_ne HI0.out h0_.out (by decide)))):Q:=h a0
theorem z269_ (h:Q:=by exact ak (Kd.V_below (z5_ HO_0) hb)):Q:=h
theorem z270_ (h:Q:=by exact ak (Kd.V_elder' (z5_ HO469) (Kd.S_base ho0) hb)):Q:=h
theorem z271_ (h:Q:=by exact ak (Kd.N_mono (Kd.N_keep (Kd.N_mono (ok:=fun k_=>(((w.heap.size≤k_))∧k_≠g788)) (z3_ HO791) (fun k_ hk_=>(⟨hk_,hk_.2⟩:_∧k_≠g788))) hk (fun _ h=>h.2)) (fun _ h=>h.1))):Q:=h
theorem z272_ (h:Q:=by exact ak (Kd.V_elder' (z5_ HO_7) (Kd.S_base ho0) hb)):Q:=h
theorem z273_ (h:Q:=by exact ak (Kd.N_lower (Kd.N_mono (ok':=fun k_=>(w.heap.size≤k_)∧k_≠g788) ho0 (fun k_ hk_=>⟨(Nat.le_trans (below_size z27_) hk_),(IsS89.fresh z38_ k_ hk_)⟩)) (below_size z27_))):Q:=h
theorem z274_ (h:Q:=by exact ak (Kd.R_lower (Kd.R_newM (M:=fun k_=>(w.heap.size≤k_)) ho0 (keep_size (w:=w) (g:=g) (row:=none) z0_) (fun k_ h_=>h_)) (keep_size (w:=w) (g:=g) (row:=none) z0_))):Q:=h
theorem z275_ (h:Q:=by exact ak (Kd.N_mono (Kd.N_keep (Kd.N_mono (ok:=fun k_=>(((w.heap.size≤k_))∧k_≠g)) (z3_ HO_3) (fun k_ hk_=>(⟨hk_,hk_.2⟩:_∧k_≠g))) hk (fun _ h=>h.2)) (fun _ h=>h.1))):Q:=h
theorem z276_ (h:Q:=by repeat (first|exact(z20_ HR823_4)|(with_reducible refine Kd.C_alloc ?_ _)|(with_reducible refine Kd.C_drewN ?_ _)|(with_reducible refine Kd.C_drew ?_))):Q:=h
theorem z277_ (h:Q:=by exact ak (Kd.N_below (Kd.N_elderB (z3_ HO808) gb816 (Nat.le_of_eq hg.symm)) hb)):Q:=h
theorem z278_ (h:Q:=by exact ak (Kd.V_below (Kd.V_elderB (z5_ HO815) gb816 (Nat.le_of_eq hg.symm)) hb)):Q:=h
theorem z279_ (h:Q:=by exact ak (Kd.V_below (Kd.V_elderB (z5_ HO0) gb255 (Nat.le_of_eq hg.symm)) hb)):Q:=h
theorem z280_ (h:Q:=by exact ak (KeepBut.trans (z4_ GW598) (KeepBut.of_below hb g none) (.inl rfl))):Q:=h
theorem z281_ (h:Q:=by exact ak (KeepBut.trans (z4_ GW655) (KeepBut.of_below hb g none) (.inl rfl))):Q:=h
theorem z282_ (a0:Aside0 P0) (h:Aside0 P0→Q:=by intro h0_;exact ak (KeepBut.blk hk (g':=gb748) (o:=.cells #[.int .i64 0,.int .i64 0,.int .i64 0,.string (⟨#[]⟩:ByteArray),.slice none 0 0] 34 (0,0)) (z19_ NB748_767 BK748) h0_.out (by simp))):Q:=h a0
theorem z283_ (h:Q:=by exact ak (Kd.S_below (z24_ HO_6) hb)):Q:=h
theorem z284_ (h:Q:=by exact ak (KeepBut.trans (z4_ GW511) hk (.inl rfl))):Q:=h
theorem z285_ (h:Q:=by exact ak (Kd.N_mono (Kd.N_told (Kd.N_told (Kd.N_old (z3_ HO828) hb) (Kd.N_base ho0)) (Kd.N_base ho1)) (fun _ h_=>h_.1))):Q:=h
theorem z286_ (h:Q:=by exact ak (Kd.V_mono (Kd.V_told (Kd.V_told (Kd.V_old z31_ hb) (Kd.N_base ho0)) (Kd.N_base ho1)) (fun _ h_=>h_.1))):Q:=h
theorem z287_ (h:Q:=by exact ak ((z223_:w.heap.size≤gb519))):Q:=h
theorem z288_ (h:Q:=by exact ak ((Nat.le_trans HW0.out (z221_:w.heap.size≤gb598):w0.heap.size≤gb598))):Q:=h
theorem z289_ (h:Q:=by exact ak ((Nat.le_trans HW0.out (z238_:w.heap.size≤gb608):w0.heap.size≤gb608))):Q:=h
theorem z290_ (h:Q:=by exact ak ((Nat.le_trans HW0.out (z221_:w.heap.size≤gb655):w0.heap.size≤gb655))):Q:=h
theorem z291_ (h:Q:=by exact ak ((Nat.le_trans HW0.out (z239_:w.heap.size≤gb660):w0.heap.size≤gb660))):Q:=h
end Go.Proofs.Ytbbdhlggnglfgaa
