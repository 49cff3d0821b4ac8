/- What was boxed stays while calls make memory: small words for walks by hand. No condition beyond each lemma's own. -/
import Derived.Test.YtbbdhlggnglfgaaZFnFeaturesWWords
import Derived.Test.YtbbdhlggnglfgaaZFnFeaturesWLast
import Derived.Deep.RegionHeld3
import Derived.BigQuiet
import Derived.Handy
namespace Go.Proofs.Ytbbdhlggnglfgaa.Hd
open Go Go.RowKit Go.Proofs.YtbbdhlggnglfgaaW.PrintWords Go.Proofs.YtbbdhlggnglfgaaW.PrintLast
structure Held (w:World) (bs:List (Nat × Obj)) (W:World):Prop where
  bel:Below w.heap.size w W
  blk:∀ p∈bs,W.heap[p.1]?=some p.2
theorem Held.step {w W W':World} {bs:List (Nat × Obj)} (h:Held w bs W) (hb:Below W.heap.size W W'):Held w bs W':=⟨below_step h.bel hb,fun p hp=>blk_below (h.blk p hp) hb⟩
theorem Held.drew {w W:World} {bs:List (Nat × Obj)} (h:Held w bs W):Held w bs W.drew:=⟨below_drew1 h.bel,fun p hp=>blk_drew (h.blk p hp)⟩
theorem Held.drewN {w W:World} {bs:List (Nat × Obj)} (h:Held w bs W) (n:Nat):Held w bs (W.drewN n):=⟨pw_below_drewN h.bel n,fun p hp=>blk_drewN (h.blk p hp) n⟩
theorem Held.drawn {w W W':World} {bs:List (Nat × Obj)} (h:Held w bs W) (hd:Drawn0 W W'):Held w bs W':=h.step hd.below
theorem Held.nil (w:World):Held w [] w:=⟨Below.refl _ _,fun _ h=>by cases h⟩
theorem Held.cell {w W:World} {bs:List (Nat × Obj)} (h:Held w bs W) {g:Nat} {t:TypeId} {cs:Array Value} (hm:(g,Obj.cells cs t (0,0))∈bs) (i:Nat):W.cell? ⟨g,i,none⟩=cs[i]?:=blk_cell (h.blk _ hm) i
theorem as_ (F:World→Prop) {W0 W:World} (_:F W0) (h:F W):F W:=h
structure HW (W0:World) where
  W:World
  b:Below W0.heap.size W0 W
instance HW.inh (W0:World):Nonempty (HW W0):=⟨⟨W0,Below.refl _ _⟩⟩
theorem HW.cell {W0:World} (q:HW W0) {a:Addr} {v:Value} (h:W0.cell? a=some v):q.W.cell? a=some v:=(q.b.cell (World.block_lt_of_cell? W0 _ h)).trans h
theorem HW.bel {w W0:World} {q:HW W0} (h:Below w.heap.size w W0):Below w.heap.size w q.W:=below_step h q.b
theorem HW.region {P:Program} {id:Nat} {Q:Exit→Act→World→Prop} {a:Act} {w:World} {l:List Oper} (hm:P.follows .mixedOrders=true) (hB:Region.lexB .any l.toArray=true)
    (h:wpQuiet P l.toArray (fun W'=>∃ q:HW w.drew,W'=q.W) (fun a'=>∀ W',(∃ q:HW w.drew,W'=q.W)→Q .normal a' W') l a):(Code.region id l.toArray true).wp P Q a w :=
  wp_region_quiet (C:=fun W'=>∃ q:HW w.drew,W'=q.W) hm hB ⟨⟨w.drew,Below.refl _ _⟩,rfl⟩ (by simpa using h)
theorem HW.c {P:Program} {f:FuncId} {args:Array Value} {W0:World} {q:HW W0} {v:Value} (h:Calls P f args q.W fun e w'=>e = .returned v∧Below q.W.heap.size q.W w'):Calls P f args q.W fun e w''=>e = .returned v∧∃ q':HW W0,w''=q'.W :=
  h.mono fun _ w' ⟨he,hb⟩=>⟨he,⟨w',below_step q.b hb⟩,rfl⟩
theorem HW.d {P:Program} {f:FuncId} {args:Array Value} {W0:World} {q:HW W0} {v:Value} (h:Calls P f args q.W fun e w'=>e = .returned v∧Drawn0 q.W w'):Calls P f args q.W fun e w''=>e = .returned v∧∃ q':HW W0,w''=q'.W :=
  HW.c (h.mono fun _ _ ⟨he,hb⟩=>⟨he,hb.below⟩)
end Go.Proofs.Ytbbdhlggnglfgaa.Hd
