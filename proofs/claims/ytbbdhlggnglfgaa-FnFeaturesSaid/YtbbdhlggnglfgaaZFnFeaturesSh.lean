/- Shorter words for what the print writes at length: each law's last premise is found by the same few steps that the print spells out. No condition beyond each lemma's own. -/
import Derived.Test.YtbbdhlggnglfgaaZFnFeaturesWWords
import Derived.Test.YtbbdhlggnglfgaaZFnFeaturesWLast
import Derived.Test.YtbbdhlggnglfgaaZFnFeaturesWMore
import Derived.Test.YtbbdhlggnglfgaaZFnFeaturesWTab
import Derived.Test.YtbbdhlggnglfgaaZFnFeaturesHd
namespace Go.Proofs.Ytbbdhlggnglfgaa.Hd
open Go Go.RowKit Go.Proofs.YtbbdhlggnglfgaaW.PrintWords Go.Proofs.YtbbdhlggnglfgaaW.PrintLast Go.Proofs.YtbbdhlggnglfgaaW.PrintMore
theorem b_ {n:Nat} {w W:World} (h:Below n w W:=by repeat (first|(with_reducible first|exact HB.out|apply below_alloc|apply pw_below_drewN|apply below_drew1|refine below_set ?_ (Aside0.out (by assumption)))|exact HB.out)):Below n w W:=h
theorem k_ {P Q:Prop} (a:Aside0 P) (h:P→Q:=by intro h_;(with_reducible repeat (first|refine blk_drewN ?_ _|refine blk_drew ?_|refine blk_alloc ?_ _));exact h_):Q:=h a.out
theorem r_ {P Q:Prop} (a:Aside0 P) (h:P→Q:=by intro h_;(with_reducible repeat (first|apply Kd.R_alloc|apply Kd.R_drewN|apply Kd.R_drew));exact h_):Q:=h a.out
theorem kb_ {w0 W W':World} {g:Nat} {o:Obj} (a:Aside0 (w0.heap[g]?=some o)) (hb:Below W.heap.size W W') (h:w0.heap[g]?=some o→W.heap[g]?=some o:=by intro h_;(with_reducible repeat (first|refine blk_drewN ?_ _|refine blk_drew ?_|refine blk_alloc ?_ _));exact h_):W'.heap[g]?=some o:=blk_below (h a.out) hb
theorem lt_ {w0 W:World} {g gb:Nat} {o:Obj} (a:Aside0 (w0.heap[g]?=some o)) (hg:gb=W.heap.size) (h:w0.heap[g]?=some o→W.heap[g]?=some o:=by intro h_;(with_reducible repeat (first|refine blk_drewN ?_ _|refine blk_drew ?_|refine blk_alloc ?_ _));exact h_):g≠gb:=by rw [hg];exact Nat.ne_of_lt (blk_lt (h a.out))
theorem gt_ {w0 W:World} {g gb:Nat} {o:Obj} (a:Aside0 (w0.heap[g]?=some o)) (hg:gb=W.heap.size) (h:w0.heap[g]?=some o→W.heap[g]?=some o:=by intro h_;(with_reducible repeat (first|refine blk_drewN ?_ _|refine blk_drew ?_|refine blk_alloc ?_ _));exact h_):gb≠g:=by rw [hg];exact Nat.ne_of_gt (blk_lt (h a.out))
theorem g_ {w W:World} {gb:Nat} (hg:gb=W.heap.size) (h:Below w.heap.size w W):w.heap.size≤gb:=by rw [hg];exact below_size h
theorem m_ {P:Prop} (h:P:=by (try simp only[List.map_toArray,List.map_cons,List.map_nil]);first|done|rfl|(simp only[List.length_drop,List.length_take];rfl)):P:=h
theorem a_ {P:Prop} (h:P:=by first|(with_reducible assumption)|assumption):P:=h
theorem e_ {P:Prop} (h:P:=by first|rfl|(simp [errW_none,errW_some] <;> rfl)|(simp [*,errW_none,errW_some] <;> rfl)):P:=h
section
variable {P:Program} {ops:Array Oper} {rest:List Oper} {o:Oper} {a:Act} {Q:Exit→Act→World→Prop}
theorem box_ {W:World} (N:Tmp) (cs:Array Value) (t:TypeId)
    (h:∀ g,g=W.heap.size→∀ w1,w1.heap[g]?=some (.cells cs t (0,0))→Below W.heap.size W w1→wpList P ops Q rest (a.put o.dst (.pointer (some ⟨g,0,none⟩))) w1)
    (hd:o.dst=some N:=by rfl) (hgd:o.guard=none:=by rfl)
    (hrun:(execOp a.eval o).run P W = .ok (.value (.pointer (some ⟨W.heap.size,0,none⟩))) (W.alloc (.cells cs t (0,0))):=by first|(go_simp;done)|(go_simp;rfl)):wpList P ops Q (o::rest) a W :=
  box_event hgd hd hrun h
end
theorem f1_ {w:World} {g:Nat} {t:TypeId} {cs:Array Value} (h:w.heap[g]?=some (.cells cs t (0,0))):w.frozen? ⟨g,0,none⟩=false:=blk_frozen h 0
theorem c2_ {w:World} {g:Nat} {t:TypeId} {v0 v1:Value} (h:w.heap[g]?=some (.cells #[v0,v1] t (0,0))):w.cell? ⟨g,0,none⟩=some v0∧w.cell? ⟨g,1,none⟩=some v1:=⟨(blk_cell h 0).trans rfl,(blk_cell h 1).trans rfl⟩
theorem f2_ {w:World} {g:Nat} {t:TypeId} {cs:Array Value} (h:w.heap[g]?=some (.cells cs t (0,0))):w.frozen? ⟨g,0,none⟩=false∧w.frozen? ⟨g,1,none⟩=false:=⟨blk_frozen h 0,blk_frozen h 1⟩
theorem f3_ {w:World} {g:Nat} {t:TypeId} {cs:Array Value} (h:w.heap[g]?=some (.cells cs t (0,0))):w.frozen? ⟨g,0,none⟩=false∧w.frozen? ⟨g,1,none⟩=false∧w.frozen? ⟨g,2,none⟩=false:=⟨blk_frozen h 0,blk_frozen h 1,blk_frozen h 2⟩
theorem c4_ {w:World} {g:Nat} {t:TypeId} {v0 v1 v2 v3:Value} (h:w.heap[g]?=some (.cells #[v0,v1,v2,v3] t (0,0))):w.cell? ⟨g,0,none⟩=some v0∧w.cell? ⟨g,1,none⟩=some v1∧w.cell? ⟨g,2,none⟩=some v2∧w.cell? ⟨g,3,none⟩=some v3:=⟨(blk_cell h 0).trans rfl,(blk_cell h 1).trans rfl,(blk_cell h 2).trans rfl,(blk_cell h 3).trans rfl⟩
theorem f4_ {w:World} {g:Nat} {t:TypeId} {cs:Array Value} (h:w.heap[g]?=some (.cells cs t (0,0))):w.frozen? ⟨g,0,none⟩=false∧w.frozen? ⟨g,1,none⟩=false∧w.frozen? ⟨g,2,none⟩=false∧w.frozen? ⟨g,3,none⟩=false:=⟨blk_frozen h 0,blk_frozen h 1,blk_frozen h 2,blk_frozen h 3⟩
theorem c5_ {w:World} {g:Nat} {t:TypeId} {v0 v1 v2 v3 v4:Value} (h:w.heap[g]?=some (.cells #[v0,v1,v2,v3,v4] t (0,0))):w.cell? ⟨g,0,none⟩=some v0∧w.cell? ⟨g,1,none⟩=some v1∧w.cell? ⟨g,2,none⟩=some v2∧w.cell? ⟨g,3,none⟩=some v3∧w.cell? ⟨g,4,none⟩=some v4:=⟨(blk_cell h 0).trans rfl,(blk_cell h 1).trans rfl,(blk_cell h 2).trans rfl,(blk_cell h 3).trans rfl,(blk_cell h 4).trans rfl⟩
theorem f5_ {w:World} {g:Nat} {t:TypeId} {cs:Array Value} (h:w.heap[g]?=some (.cells cs t (0,0))):w.frozen? ⟨g,0,none⟩=false∧w.frozen? ⟨g,1,none⟩=false∧w.frozen? ⟨g,2,none⟩=false∧w.frozen? ⟨g,3,none⟩=false∧w.frozen? ⟨g,4,none⟩=false:=⟨blk_frozen h 0,blk_frozen h 1,blk_frozen h 2,blk_frozen h 3,blk_frozen h 4⟩
section
variable {P:Program} {md:Region.Mode} {ops:Array Oper} {Q:Exit→Act→World→Prop} {S:World→Prop} {ds:List Nat} {T:Bool × List (List Nat × List Nat)} {i:Nat} {fuel:Nat} {a a':Act} {w:World} {oi:Oper} {v:Value}
theorem p_ {l:Array Bool} (HT:Aside0 (rtab md ops=T)) (i:Nat) (N:Option Tmp) (l':Array Bool) (h:wpAnyLast P md ops Q S ds fuel l' a' w)
    (hi:ops[i]?=some oi:=by rfl) (hN:oi.dst=N:=by rfl) (hc:anyT T l.toList l'.toList i=true:=by kernel_rfl) (hQ:∀ c a w,Q (.panic c) (a.put oi.dst v) w→Q (.panic c) a w:=by exact fun _ _ _ h=>h)
    (hy:Yields P ops oi v a:=by exact Or.inl ⟨by rfl,by intro w';go_simp;with_reducible rfl⟩)
    (ha:a.put N v=a':=by simp only[Act.put,List.setIfInBounds_toArray,List.set_cons_zero,List.set_cons_succ,i64_w,i32_w];rfl):wpAnyLast P md ops Q S ds (fuel+1) l a w :=
  pure_ l' hi hN (any_of HT.out hc) hQ hy ha h
theorem t_ {l:Array Bool} {B:List Nat} (HT:Aside0 (rtab md ops=T)) (HW:Aside0 (waitsOk T.2 B=true)) (hS:S w) (i:Nat) (N:Option Tmp) (l':Array Bool) (h:wpAnyLast P md ops Q S ds fuel l' a' w)
    (hi:ops[i]?=some oi:=by rfl) (hN:oi.dst=N:=by rfl) (hc:takeW T B ds l.toList l'.toList i=true:=by kernel_rfl) (hQ:∀ c a w,Q (.panic c) (a.put oi.dst v) w→Q (.panic c) a w:=by exact fun _ _ _ h=>h)
    (hy:YieldsIf P ops S oi v a:=by exact Or.inl ⟨by rfl,by intro w' hs_;(repeat (have s_:=hs_.1;replace hs_:=hs_.2));go_simp;with_reducible rfl⟩)
    (ha:a.put N v=a':=by simp only[Act.put,List.setIfInBounds_toArray,List.set_cons_zero,List.set_cons_succ,i64_w,i32_w];rfl):wpAnyLast P md ops Q S ds (fuel+1) l a w :=
  take_ l' hi hN (take_ofW HT.out HW.out hc) hQ hy hS ha h
theorem o_ {l:Array Bool} (HT:Aside0 (rtab md ops=T)) (i:Nat) (N:Option Tmp) (l':Array Bool)
    (h:∀ K:Act→World→Prop,Shut (∀ a' w',S w'→(S w'→wpAnyLast P md ops Q S ds fuel l' a' w')→K a' w')→if Region.wanted oi (yielded ops a.tmps)=true then Oper.wp P oi a w K Q else K (a.put N undef) w)
    (hi:ops[i]?=some oi:=by rfl) (hN:oi.dst=N:=by rfl) (hc:(readyT T.2 l.toList==[i]&&l.toList.set i true==l'.toList)=true:=by kernel_rfl) (hd:i ∉ ds:=by decide):wpAnyLast P md ops Q S ds (fuel+1) l a w :=
  one_ l' hi hN (one_of HT.out hc) hd h
theorem n_ {l:Array Bool} (N:Option Tmp) {a0:Act} (h:wpAnyLast P md ops Q S ds fuel l a' w) (ha:Act.put a0 N v=a':=by simp only[Act.put,List.setIfInBounds_toArray,List.set_cons_zero,List.set_cons_succ,i64_w,i32_w];rfl):wpAnyLast P md ops Q S ds fuel l (Act.put a0 N v) w:=norm_ ha h
end
theorem HW.x {W0:World} {a:Addr} {v:Value} (h:W0.cell? a=some v):∀ q:HW W0,q.W.cell? a=some v:=fun q=>q.cell h
theorem HW.k1 {W0:World} {g:Nat} {t:TypeId} {v0:Value} (b:Aside0 (W0.heap[g]?=some (.cells #[v0] t (0,0)))):(∀ q:HW W0,q.W.cell? ⟨g,0,none⟩=some v0):=fun q=>q.cell ((blk_cell b.out 0).trans rfl)
theorem HW.k2 {W0:World} {g:Nat} {t:TypeId} {v0 v1:Value} (b:Aside0 (W0.heap[g]?=some (.cells #[v0,v1] t (0,0)))):(∀ q:HW W0,q.W.cell? ⟨g,0,none⟩=some v0)∧(∀ q:HW W0,q.W.cell? ⟨g,1,none⟩=some v1):=⟨fun q=>q.cell ((blk_cell b.out 0).trans rfl),fun q=>q.cell ((blk_cell b.out 1).trans rfl)⟩
theorem HW.k3 {W0:World} {g:Nat} {t:TypeId} {v0 v1 v2:Value} (b:Aside0 (W0.heap[g]?=some (.cells #[v0,v1,v2] t (0,0)))):(∀ q:HW W0,q.W.cell? ⟨g,0,none⟩=some v0)∧(∀ q:HW W0,q.W.cell? ⟨g,1,none⟩=some v1)∧(∀ q:HW W0,q.W.cell? ⟨g,2,none⟩=some v2):=⟨fun q=>q.cell ((blk_cell b.out 0).trans rfl),fun q=>q.cell ((blk_cell b.out 1).trans rfl),fun q=>q.cell ((blk_cell b.out 2).trans rfl)⟩
theorem HW.k4 {W0:World} {g:Nat} {t:TypeId} {v0 v1 v2 v3:Value} (b:Aside0 (W0.heap[g]?=some (.cells #[v0,v1,v2,v3] t (0,0)))):(∀ q:HW W0,q.W.cell? ⟨g,0,none⟩=some v0)∧(∀ q:HW W0,q.W.cell? ⟨g,1,none⟩=some v1)∧(∀ q:HW W0,q.W.cell? ⟨g,2,none⟩=some v2)∧(∀ q:HW W0,q.W.cell? ⟨g,3,none⟩=some v3):=⟨fun q=>q.cell ((blk_cell b.out 0).trans rfl),fun q=>q.cell ((blk_cell b.out 1).trans rfl),fun q=>q.cell ((blk_cell b.out 2).trans rfl),fun q=>q.cell ((blk_cell b.out 3).trans rfl)⟩
end Go.Proofs.Ytbbdhlggnglfgaa.Hd
