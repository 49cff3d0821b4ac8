-- Laid by this session's program pp.py, after the kit's print and texts of the session's own. Not trusted: Lean checks it.
import Derived.Test.YtbackoeakepngabZFnThinnedMx0
import Derived.Test.YtbackoeakepngabZFnThinnedMx1
import Derived.Test.YtbackoeakepngabZFnThinnedMx2
namespace Go.Proofs.Ytbackoeakepngab.MFnThinned
open Go.RowKit Go.Proofs.YtbackoeakepngabW.PrintWords Go.Proofs.YtbackoeakepngabW.PrintLast Go.Proofs.YtbackoeakepngabW.PrintMore
attribute [local go_sem] max2_int min2_int max_two min_two max_three min_three max_four min_four   -- for this text's walks alone
set_option linter.unusedVariables false
set_option linter.unusedSimpArgs false
attribute [local go_sem high] eqA77
def impl_fromAbove.enc (x : S77) : List Value := [.int .i64 x.f0, .int .i64 x.f1.f0, .int .i64 x.f1.f1, .int .i64 x.f2]
def impl_fromAbove.up (x y : S77) : Bool := if x.f2 > y.f2 then true else if x.f2 = y.f2 then decide (x.f0 < y.f0) else false
def impl_fromAbove.cf (x y : S77) : Int := if impl_fromAbove.up x y = true then -1 else if impl_fromAbove.up y x = true then 1 else 0
theorem impl_fromAbove.abv (x y : S77) (W : World) : Calls Try.prog 50 #[.agg #[.int .i64 x.f0, .int .i64 x.f1.f0, .int .i64 x.f1.f1, .int .i64 x.f2], .agg #[.int .i64 y.f0, .int .i64 y.f1.f0, .int .i64 y.f1.f1, .int .i64 y.f2]] W fun e w' => e = .returned (.bool (impl_fromAbove.up x y)) ∧ ∃ q os', w' = Go.Sort.grow (W.drewN q) os' := by
  obtain ⟨x0, ⟨x1, x2⟩, x3⟩ := x
  obtain ⟨y0, ⟨y1, y2⟩, y3⟩ := y
  unfold impl_fromAbove.up
  dsimp only
  by_cases c3 : x3 > y3
  · rw [if_pos c3]
    have c3b0 : decide (y3 < x3) = true := decide_eq_true c3
    clear c3
    go_enter Try.func50, Try.ntmps50
    go_wp2
    go_ret
    exact ⟨rfl, 0, _, by rw [Go.Sort.alloc_eq_grow, Go.Sort.alloc_eq_grow, Go.Sort.grow_grow]; rfl⟩
  · rw [if_neg c3]
    have c3b0 : decide (y3 < x3) = false := decide_eq_false c3
    clear c3
    by_cases c9 : x3 = y3
    · rw [if_pos c9]
      have c9b0 : (x3 == y3) = true := beq_iff_eq.mpr c9
      clear c9
      go_enter Try.func50, Try.ntmps50
      go_wp2
      go_ret
      exact ⟨rfl, 0, _, by rw [Go.Sort.alloc_eq_grow, Go.Sort.alloc_eq_grow, Go.Sort.grow_grow]; rfl⟩
    · rw [if_neg c9]
      have c9b0 : (x3 == y3) = false := beq_eq_false_iff_ne.mpr c9
      clear c9
      go_enter Try.func50, Try.ntmps50
      go_wp2
      go_ret
      exact ⟨rfl, 0, _, by rw [Go.Sort.alloc_eq_grow, Go.Sort.alloc_eq_grow, Go.Sort.grow_grow]; rfl⟩
theorem impl_fromAbove.gg (W : World) (q : Nat) (os os' : Array Obj) : Go.Sort.grow ((Go.Sort.grow W os).drewN q) os' = Go.Sort.grow (W.drewN q) (os ++ os') := by
  show Go.Sort.grow (Go.Sort.grow (W.drewN q) os) os' = _
  rw [Go.Sort.grow_grow]
theorem impl_fromAbove.cel (x0 x1 x2 x3 y0 y1 y2 y3 : Value) (W : World) (q : Nat) (os : Array Obj) (W' : World) (hW : W' = Go.Sort.grow (((W.alloc (.cells #[x0, x1, x2, x3] 77)).alloc (.cells #[y0, y1, y2, y3] 77)).drewN q) os) :
    W'.cell? ⟨W.heap.size, 0, none⟩ = some x0 ∧ W'.cell? ⟨W.heap.size, 1, none⟩ = some x1 ∧ W'.cell? ⟨W.heap.size, 2, none⟩ = some x2 ∧ W'.cell? ⟨W.heap.size, 3, none⟩ = some x3 ∧ W'.cell? ⟨W.heap.size + 1, 0, none⟩ = some y0 ∧ W'.cell? ⟨W.heap.size + 1, 1, none⟩ = some y1 ∧ W'.cell? ⟨W.heap.size + 1, 2, none⟩ = some y2 ∧ W'.cell? ⟨W.heap.size + 1, 3, none⟩ = some y3 := by
  subst hW
  rw [Go.Sort.alloc_eq_grow, Go.Sort.alloc_eq_grow, Go.Sort.grow_grow, impl_fromAbove.gg]
  have h1 : (Go.Sort.grow (W.drewN q) (#[Obj.cells #[x0, x1, x2, x3] 77] ++ #[Obj.cells #[y0, y1, y2, y3] 77] ++ os)).heap[W.heap.size]? = some (.cells #[x0, x1, x2, x3] 77) := by
    show (W.heap ++ _)[_]? = _
    rw [Array.getElem?_append_right (by omega), Array.getElem?_append_left (by simp)]
    simp
  have h2 : (Go.Sort.grow (W.drewN q) (#[Obj.cells #[x0, x1, x2, x3] 77] ++ #[Obj.cells #[y0, y1, y2, y3] 77] ++ os)).heap[W.heap.size + 1]? = some (.cells #[y0, y1, y2, y3] 77) := by
    show (W.heap ++ _)[_]? = _
    rw [Array.getElem?_append_right (by omega), Array.getElem?_append_left (by simp)]
    simp
  exact ⟨blk_cell h1 0, blk_cell h1 1, blk_cell h1 2, blk_cell h1 3, blk_cell h2 0, blk_cell h2 1, blk_cell h2 2, blk_cell h2 3⟩
set_option maxHeartbeats 400000 in
set_option maxRecDepth 100000 in
theorem impl_fromAbove.clo (x y : S77) (W : World) : Calls Try.prog 137 #[.agg #[.int .i64 x.f0, .int .i64 x.f1.f0, .int .i64 x.f1.f1, .int .i64 x.f2], .agg #[.int .i64 y.f0, .int .i64 y.f1.f0, .int .i64 y.f1.f1, .int .i64 y.f2]] W fun e w' => e = .returned (.int .i64 (impl_fromAbove.cf x y)) ∧ ∃ q os', w' = Go.Sort.grow (W.drewN q) os' := by
  have h1 := impl_fromAbove.abv x y
  have h2 := impl_fromAbove.abv y x
  unfold impl_fromAbove.cf
  generalize impl_fromAbove.up x y = b1 at h1 ⊢
  generalize impl_fromAbove.up y x = b2 at h2 ⊢
  obtain ⟨x0, ⟨x1, x2⟩, x3⟩ := x
  obtain ⟨y0, ⟨y1, y2⟩, y3⟩ := y
  dsimp only at h1 h2 ⊢
  cases b1
  · cases b2
    · go_enter Try.func137, Try.ntmps137
      go_wp2_with (first | (go_at_call 50; with_reducible refine (h1 _).mono ?_; rintro e w1 ⟨rfl, q1, os1, hw1⟩; obtain ⟨d0, d1, d2, d3, d4, d5, d6, d7⟩ := impl_fromAbove.cel _ _ _ _ _ _ _ _ _ _ _ _ hw1; have HW1 := Aside0.mk hw1; clear hw1) | (go_at_call 50; with_reducible refine (h2 _).mono ?_; rintro e w2 ⟨rfl, q2, os2, hw2⟩; have HW2 := Aside0.mk hw2; clear hw2))
      go_ret
      exact ⟨rfl, q1 + q2, _, by rw [HW2.out, HW1.out, Go.Sort.alloc_eq_grow, Go.Sort.alloc_eq_grow, Go.Sort.grow_grow, impl_fromAbove.gg, World.drewN_drewN, impl_fromAbove.gg]⟩
    · go_enter Try.func137, Try.ntmps137
      go_wp2_with (first | (go_at_call 50; with_reducible refine (h1 _).mono ?_; rintro e w1 ⟨rfl, q1, os1, hw1⟩; obtain ⟨d0, d1, d2, d3, d4, d5, d6, d7⟩ := impl_fromAbove.cel _ _ _ _ _ _ _ _ _ _ _ _ hw1; have HW1 := Aside0.mk hw1; clear hw1) | (go_at_call 50; with_reducible refine (h2 _).mono ?_; rintro e w2 ⟨rfl, q2, os2, hw2⟩; have HW2 := Aside0.mk hw2; clear hw2))
      go_ret
      exact ⟨rfl, q1 + q2, _, by rw [HW2.out, HW1.out, Go.Sort.alloc_eq_grow, Go.Sort.alloc_eq_grow, Go.Sort.grow_grow, impl_fromAbove.gg, World.drewN_drewN, impl_fromAbove.gg]⟩
  · go_enter Try.func137, Try.ntmps137
    go_wp2_with (go_at_call 50; with_reducible refine (h1 _).mono ?_; rintro e w1 ⟨rfl, q1, os1, rfl⟩)
    go_ret
    exact ⟨rfl, q1, _, by rw [Go.Sort.alloc_eq_grow, Go.Sort.alloc_eq_grow, Go.Sort.grow_grow, impl_fromAbove.gg]⟩
def impl_fromAbove.ren : Go.Shelf.Ren := ⟨fun | 20 => 174 | n => n, fun | 24 => 77 | 22 => 61 | 3 => 3 | 25 => 149 | 4 => 4 | 0 => 0 | n => n, fun | n => n⟩
theorem impl_fromAbove.lay : Go.Proofs.SlLaysF0.n20 Try.prog impl_fromAbove.ren := {
  mixed := by kernel_rfl
  f20 := ⟨Try.f174.name, by decide, Try.func174.trans (congrArg some (by kernel_rfl))⟩
  t0 := Try.underlying0
  a0 := Try.isAgg0
  z0 := Try.sizeOf0
  v0 := Try.zeroValue0
  t3 := Try.underlying3
  a3 := Try.isAgg3
  z3 := Try.sizeOf3
  v3 := Try.zeroValue3
  t4 := Try.underlying4
  a4 := Try.isAgg4
  z4 := Try.sizeOf4
  v4 := Try.zeroValue4
  t22 := Try.underlying61
  a22 := Try.isAgg61
  z22 := Try.sizeOf61
  v22 := Try.zeroValue61
  t25 := Try.underlying149
  a25 := Try.isAgg149
  z25 := Try.sizeOf149
  v25 := Try.zeroValue149 }
theorem impl_fromAbove.stab (A : Option Addr) (n c : Nat) (W : World) (Q : World → Prop) (hn : n ≤ 16)
    (h : Calls Try.prog 174 #[.slice A n c, .int .i64 0, .int .i64 n, .func (.func 137) #[] #[]] W fun e w' => e = .returned (.tuple #[]) ∧ Q w') :
    Calls Try.prog 163 #[.slice A n c, .int .i64 n, .func (.func 137) #[] #[]] W fun e w' => e = .returned (.tuple #[]) ∧ Q w' := by
  have H := Aside0.mk h
  clear h
  go_enter Try.func163, Try.ntmps163
  go_wp2
  go_loopg [7, 8] 1 (fun g v7 v8 wr => v7 = .int .i64 0 ∧ v8 = .int .i64 20 ∧ wr = W)
  case atStart => exact ⟨rfl, rfl, rfl⟩
  case round =>
    obtain ⟨rfl, rfl, rfl⟩ := hrel
    have z1 : ¬ (20 : Int) ≤ (n : Int) := by omega
    go_wp2_with (go_at_call 174; (with_reducible refine H.out.mono ?_); rintro e w1 ⟨rfl, hq⟩; have HQ := Aside0.mk hq; clear hq)
    go_loopg [6] 1 (fun g v6 wr => v6 = .int .i64 20 ∧ wr = w1)
    case atStart => exact ⟨rfl, rfl⟩
    case round =>
      obtain ⟨rfl, rfl⟩ := hrel
      have z2 : ¬ (20 : Int) < (n : Int) := by omega
      go_wp2
      go_end0
      exact ⟨rfl, HQ.out⟩
theorem impl_fromAbove.sort (A : Option Addr) (n c : Nat) (W : World) (Q : World → Prop) (hn : n ≤ 16)
    (h : Calls Try.prog 174 #[.slice A n c, .int .i64 0, .int .i64 n, .func (.func 137) #[] #[]] W fun e w' => e = .returned (.tuple #[]) ∧ Q w') :
    Calls Try.prog 136 #[.slice A n c, .func (.func 137) #[] #[]] W fun e w' => e = .returned (.tuple #[]) ∧ Q w' := by
  have H := impl_fromAbove.stab A n c W Q hn h
  clear h
  go_enter Try.func136, Try.ntmps136
  go_wp2_with (go_at_call 163; (with_reducible refine H.mono ?_); rintro e w1 ⟨rfl, hq⟩; have HQ := Aside0.mk hq; clear hq)
  go_end0
  exact ⟨rfl, HQ.out⟩
theorem impl_fromAbove.ins0 (A : Option Addr) (c : Nat) (W : World) : Calls Try.prog 174 #[.slice A 0 c, .int .i64 0, .int .i64 (0 : Nat), .func (.func 137) #[] #[]] W fun e w' => e = .returned (.tuple #[]) ∧ w' = W := by
  go_enter Try.func174, Try.ntmps174
  go_wp2
  go_loopg [8] 1 (fun g v8 wr => v8 = .int .i64 1 ∧ wr = W)
  case atStart => exact ⟨rfl, rfl⟩
  case round =>
    obtain ⟨rfl, rfl⟩ := hrel
    go_wp2
    go_end0
    exact ⟨rfl, rfl⟩
instance impl_fromAbove.inh : Inhabited S77 := ⟨z77⟩
def impl_fromAbove.f (l0 : List S77) : Option (List S77) := (impl_Place_135.f l0).bind fun l => if l.length ≤ 16 then some (Go.Sort.insertionSort (Go.Proofs.ltOf impl_fromAbove.cf) l.toArray 0 l.length).toList else none
theorem impl_fromAbove.sz1 (lt : S77 → S77 → Bool) (a : Nat) : ∀ (j : Nat) (d : Array S77), (Go.Sort.insInner lt a j d).size = d.size
  | 0, _ => rfl
  | j + 1, d => by
    unfold Go.Sort.insInner
    by_cases h : (decide (j + 1 > a) && lt d[j + 1]! d[j]!) = true
    · rw [if_pos h, impl_fromAbove.sz1 lt a j, Go.Sort.size_swp]
    · rw [if_neg h]
theorem impl_fromAbove.sz2 (lt : S77 → S77 → Bool) (a b : Nat) : ∀ (n i : Nat) (d : Array S77), b - i = n → (Go.Sort.insOuter lt a b i d).size = d.size := fun n => by
  induction n with
  | zero => intro i d h; rw [Go.Sort.insOuter, if_neg (by omega)]
  | succ n ih => intro i d h; rw [Go.Sort.insOuter, if_pos (by omega), ih _ _ (by omega), impl_fromAbove.sz1]
theorem impl_fromAbove.blw {B : Nat} {w0 w : World} (h : Below B w0 w) (hB : B ≤ w.heap.size) (os : Array Obj) : Below B w0 (Go.Sort.grow w os) :=
  ⟨h.os, h.tape, h.output, Nat.le_trans h.size (by simp [Go.Sort.grow]), fun i hi => (Go.Sort.heap_grow_old w os (by omega)).trans (h.block i hi)⟩
theorem impl_fromAbove.insN (g n c : Nat) (l : List S77) (base : Nat) (w1 : World) (hn : l.length ≤ 16) (hR : Kd.R k77 77 w1 base (fun _ => True) (.slice (some ⟨g, 0, none⟩) n c) l) :
    Calls Try.prog 174 #[.slice (some ⟨g, 0, none⟩) n c, .int .i64 0, .int .i64 n, .func (.func 137) #[] #[]] w1 fun e w' => e = .returned (.tuple #[]) ∧ (Kd.R k77 77 w' base (fun _ => True) (.slice (some ⟨g, 0, none⟩) n c) (Go.Sort.insertionSort (Go.Proofs.ltOf impl_fromAbove.cf) l.toArray 0 l.length).toList ∧ ∀ B w0, Below B w0 w1 → B ≤ g → Below B w0 w') := by
  have hk : ∀ x, (impl_fromAbove.enc x).length = k77.sz := fun _ => rfl
  have hM : ∀ {w base ok x cs}, k77.M w base ok x cs → cs = impl_fromAbove.enc x := fun h => k77_openM h
  have hH := Rw.holds hk hM hR 0 (Nat.zero_le _)
  obtain ⟨cur, hh, rfl, _, _, _, _, _⟩ := Rw.cells hM hR
  have hg : g < w1.heap.size := (Array.getElem?_eq_some_iff.1 hh).1
  have eg : ∀ args w, (callFunc 137 args).run Try.prog w = .ok (.enter 137 args) w := enters_of Try.func137 (by kernel_rfl) rfl
  have hcl : CmpLays Try.prog 137 #[] impl_fromAbove.enc k77.sz impl_fromAbove.cf g (0 * k77.sz) l.toArray.size w1 := fun _ _ _ _ x y => impl_fromAbove.clo x y _
  rw [List.drop_zero] at hH
  have hcon := AnyQ.insertionSortCmpFunc impl_fromAbove.lay k77.sz Try.isAgg77 Try.sizeOf77 impl_fromAbove.enc hk (fun x v hv => by simp [impl_fromAbove.enc] at hv; rcases hv with rfl | rfl | rfl | rfl <;> rfl) impl_fromAbove.cf 137 #[] g (0 * k77.sz) c 0 l.length l.toArray w1 eg hcl hH hg (Nat.zero_le _) (by simp) (by simp; omega)
  refine Calls.mono (show Calls Try.prog 174 #[.slice (some ⟨g, 0, none⟩) l.length c, .int .i64 0, .int .i64 l.length, .func (.func 137) #[] #[]] w1 _ from hcon) ?_
  rintro e w2 ⟨rfl, m, os, rfl⟩
  have hl : (Go.Sort.insertionSort (Go.Proofs.ltOf impl_fromAbove.cf) l.toArray 0 l.length).size = l.length := by unfold Go.Sort.insertionSort; rw [impl_fromAbove.sz2 _ _ _ _ _ _ rfl]; simp
  generalize Go.Sort.insertionSort (Go.Proofs.ltOf impl_fromAbove.cf) l.toArray 0 l.length = r at hl ⊢
  have hs : (Go.Sort.putRowK impl_fromAbove.enc k77.sz (Go.Sort.ahead w1 m) g (0 * k77.sz) r).heap.size = w1.heap.size := by simp [Go.Sort.putRowK, Go.Sort.putRow, Go.Sort.mapBlock, Go.Sort.ahead]
  have hp := Rw.put hk hM (fun {w base ok x} => k77_mkM w base ok x) hR 0 r.toList (by simp; omega) m
  rw [List.take_zero, List.nil_append, Array.toArray_toList] at hp
  unfold sortWorldK
  exact ⟨rfl, Kd.R_below hp (impl_fromAbove.blw (Below.refl _ _) (Nat.le_refl _) os), fun B w0 hb hB => impl_fromAbove.blw (Rw.below_put hb hB m _ _ _) (by rw [hs]; omega) os⟩
theorem impl_fromAbove.step (A1 : Option Addr) (c1 : Nat) (l : List S77) (w w1 : World) (hn : l.length ≤ 16) (hR : Kd.R k77 77 w1 w.heap.size (fun _ => True) (.slice A1 l.length c1) l) (hb : Below w.heap.size w w1) :
    Calls Try.prog 136 #[.slice A1 l.length c1, .func (.func 137) #[] #[]] w1 fun e w' => e = .returned (.tuple #[]) ∧ (Kd.R k77 77 w' w.heap.size (fun _ => True) (.slice A1 l.length c1) (Go.Sort.insertionSort (Go.Proofs.ltOf impl_fromAbove.cf) l.toArray 0 l.length).toList ∧ Below w.heap.size w w') := by
  refine impl_fromAbove.sort A1 l.length c1 w1 _ hn ?_
  by_cases h0 : l.length = 0
  · have : l = [] := List.length_eq_zero_iff.1 h0
    subst this
    have e1 : (Go.Sort.insertionSort (Go.Proofs.ltOf impl_fromAbove.cf) ([] : List S77).toArray 0 ([] : List S77).length).toList = [] := by
      unfold Go.Sort.insertionSort; rw [Go.Sort.insOuter, if_neg (by simp)]
    rw [e1]
    exact (impl_fromAbove.ins0 A1 c1 w1).mono fun e w2 ⟨h1, h2⟩ => ⟨h1, by rw [h2]; exact ⟨hR, hb⟩⟩
  · obtain ⟨g, c2, he, hg, _, _⟩ := Kd.R_form hR (by omega)
    injection he with he _ he2
    subst he; subst he2
    exact (impl_fromAbove.insN g l.length c1 l w.heap.size w1 hn hR).mono fun e w2 ⟨h1, h2, h3⟩ => ⟨h1, h2, h3 _ _ hb hg⟩
set_option maxHeartbeats 8000000 in
set_option maxRecDepth 100000 in
theorem impl_fromAbove.calls (A0 : Option Addr) (c0 : Nat) (l0 : List S77) (r : List S77) (w : World) (hr0 : Kd.C k77 w A0 l0.length l0) (hc0 : l0.length ≤ c0) (h : impl_fromAbove.f l0 = some r) :
    Calls Try.prog 116 #[.slice A0 l0.length c0] w fun e w' => ∃ v0_ : Value, e = .returned (v0_) ∧ Kd.R k77 77 w' w.heap.size (fun _ => True) v0_ r ∧ Below w.heap.size w w' := by
  unfold impl_fromAbove.f at h
  obtain ⟨l, hl, h⟩ := Option.bind_eq_some_iff.1 h
  by_cases h16 : l.length ≤ 16
  case neg => rw [if_neg h16] at h; cases h
  rw [if_pos h16] at h
  obtain rfl := Option.some.inj h
  have HL := Aside0.mk hl
  have HR := Aside0.mk hr0
  have HC := Aside0.mk hc0
  have H16 := Aside0.mk h16
  clear h hl hr0 hc0 h16
  go_enter Try.func116, Try.ntmps116
  go_wp2_with (first | (go_at_call 135; (with_reducible refine (impl_Place_135.calls A0 c0 l0 l w HR.out HC.out HL.out).mono ?_); rintro e w1 ⟨v0, rfl, hR, hb⟩; obtain ⟨A1, c1, rfl⟩ := Kd.R_slice hR; have hst := impl_fromAbove.step A1 c1 l w w1 H16.out hR hb; clear hR hb) | (go_at_call 136; (with_reducible refine hst.mono ?_); rintro e w2 ⟨rfl, hR2, hb2⟩; have HR2 := Aside0.mk hR2; have HB2 := Aside0.mk hb2; clear hR2 hb2))
  go_ret
  exact ⟨_, rfl, HR2.out, HB2.out⟩
mutual
def impl_keptPlaces.j0 : Nat → List (S77) → Int → List (S77) → Bool → Option ((List (S77)))
 | 0, _, _, _, _ => none
 | k + 1, x0, x1, x5, x19 => if x19 = true then (some x5) else ((impl_fromAbove.f x0).bind fun t127 => (impl_keptPlaces.l0 k x1 x5 t127 (t127.length : Int) 0))
def impl_keptPlaces.l0 : Nat → Int → List (S77) → List (S77) → Int → Int → Option ((List (S77)))
 | 0, _, _, _, _, _ => none
 | k + 1, x1, x5, x22, x23, x24 => if x24 < x23 then (if 0 ≤ x24 then (if x24 < (x22.length : Int) then (impl_keptPlaces.l1 k x1 x5 true x22 x23 x24 (x5.length : Int) 0 ((rd_T77 x22 x24).f0) ((rd_T77 x22 x24).f1.f0) ((rd_T77 x22 x24).f1.f1) ((rd_T77 x22 x24).f2)) else (none)) else (none)) else (some x5)
def impl_keptPlaces.l1 : Nat → Int → List (S77) → Bool → List (S77) → Int → Int → Int → Int → Int → Int → Int → Int → Option ((List (S77)))
 | 0, _, _, _, _, _, _, _, _, _, _, _, _ => none
 | k + 1, x1, x5, x8, x22, x23, x24, x29, x30, x132000, x132001, x132002, x132003 => if x30 < x29 then (if 0 ≤ x30 then (if x30 < (x5.length : Int) then (if x8 = true then ((impl_FarSquared.f x132001 x132002 ((rd_T77 x5 x30).f1.f0) ((rd_T77 x5 x30).f1.f1)).bind fun t134 => (impl_keptPlaces.l1 k x1 x5 (decide (t134 ≥ (wrap64 (x1 * x1)))) x22 x23 x24 x29 (wrap64 (x30 + 1)) x132000 x132001 x132002 x132003)) else (impl_keptPlaces.l1 k x1 x5 false x22 x23 x24 x29 (wrap64 (x30 + 1)) x132000 x132001 x132002 x132003)) else (none)) else (none)) else (if x8 = true then (if x5.length < 4398046511104 then (impl_keptPlaces.l0 k x1 (x5 ++ [(⟨x132000, (⟨x132001, x132002⟩ : S75), x132003⟩ : S77)]) x22 x23 (wrap64 (x24 + 1))) else (none)) else (impl_keptPlaces.l0 k x1 x5 x22 x23 (wrap64 (x24 + 1))))
end
def impl_keptPlaces.f (k : Nat) (l0 : List (S77)) (a1 : Int) : Option ((List (S77))) := (some (([] : List (S77)) : List (S77))).bind fun y122 => ((impl_ArePlaces.f k l0).bind fun t125 => (if t125 = true then ((impl_InRange.f a1 0 200).bind fun t126 => (impl_keptPlaces.j0 k l0 a1 y122 (!t126))) else (impl_keptPlaces.j0 k l0 a1 y122 true)))
set_option maxHeartbeats 8000000 in
set_option maxRecDepth 100000 in
theorem impl_keptPlaces.calls (k : Nat) (A0 : Option Addr) (c0 : Nat) (l0 : List (S77)) (a1 : Int) (r : List (S77)) (w : World) (hr0 : Kd.C k77 w A0 l0.length l0) (hc0 : l0.length ≤ c0) (h : impl_keptPlaces.f k l0 a1 = some r) :
  Calls Try.prog 88 #[.slice A0 l0.length c0, .int .i64 a1] w fun e w' => ∃ v0_ : Value, e = .returned (v0_) ∧ Kd.R k77 77 w' w.heap.size (fun _ => True) v0_ r ∧ Below w.heap.size w w' := by
 have hu77 := Try.underlying77
 have hu75 := Try.underlying75
 have HR0 := Aside0.mk hr0
 have HC0 := Aside0.mk hc0
 clear hr0 hc0
 have HB := Aside0.mk (Below.refl w.heap.size w)
 have H : ((some (([] : List (S77)) : List (S77))).bind fun y122 => ((impl_ArePlaces.f k l0).bind fun t125 => (if t125 = true then ((impl_InRange.f a1 0 200).bind fun t126 => (impl_keptPlaces.j0 k l0 a1 y122 (!t126))) else (impl_keptPlaces.j0 k l0 a1 y122 true)))) = some r := h
 clear h
 obtain ⟨y122, hy122⟩ : ∃ y_ : List (S77), y_ = (([] : List (S77))) := ⟨_, rfl⟩
 replace H : ((impl_ArePlaces.f k l0).bind fun t125 => (if t125 = true then ((impl_InRange.f a1 0 200).bind fun t126 => (impl_keptPlaces.j0 k l0 a1 y122 (!t126))) else (impl_keptPlaces.j0 k l0 a1 y122 true))) = some r := by first | (rw [hy122]; with_reducible exact H) | (have H2_ := (Option.bind_some _ _).symm.trans H; rw [hy122]; with_reducible exact H2_) | (have H2_ := (Option.bind_some _ _).symm.trans H; with_reducible exact H2_) | with_reducible exact H | (rw [hy122]; exact H) | exact H
 have Ny122 := Aside0.mk hy122
 clear hy122
 have HC3 := Aside0.mk H
 clear H
 go_enter Try.func88, Try.ntmps88
 go_upto_region 2 with (first | ((with_reducible refine gate_dst (N := 11) rfl ?_); refine Kd.R_lit k77 _ 77 ?hg (N := 11) ?hd (xs := ([] : List (S77))) (inner := []) (ok := fun _ => True) (okp := fun _ => True) ?hr ?hp (fun _ hk => hk) trivial (Below.refl _ _) (Nat.le_refl _) (by simp) ?_; (case hd => rfl); (case hg => rfl); (case hr => first | (go_simp; done) | (go_simp; rfl)); (case hp => exact (Reps.none _ _)); intro v123 w4 ho5 hb hg_ hnew_; clear hg_ hnew_; (first | rw [← Ny122.out] at ho5 | (simp only [Int.reduceToNat] at ho5; rw [← Ny122.out] at ho5)); have HO124 := Aside0.mk (Kd.R_lower ho5 (below_size Hd.b_)); replace HB := Aside0.mk (below_step Hd.b_ hb); clear hb ho5))
 (try simp only [Act.put, List.setIfInBounds_toArray, List.set_cons_zero, List.set_cons_succ])
 go_cut [19] (fun v19 wc => ∃ (kq : Nat) (x19_2 : Bool), v19 = .bool x19_2 ∧ Aside0 (impl_keptPlaces.j0 kq l0 a1 y122 x19_2 = some r) ∧ Aside0 (kq ≤ k) ∧ Aside0 (Kd.R k77 77 wc w.heap.size (fun _ => True) v123 y122) ∧ Aside0 (Below w.heap.size w wc))
 case first =>
  have H := HC3.out
  clear HC3
  replace H := Option.bind_eq_some_iff.mp H
  obtain ⟨t125, A60, H⟩ := H
  replace H : (if t125 = true then ((impl_InRange.f a1 0 200).bind fun t126 => (impl_keptPlaces.j0 k l0 a1 y122 (!t126))) else (impl_keptPlaces.j0 k l0 a1 y122 true)) = some r := H
  have A6 := Aside0.mk A60
  clear A60
  by_cases c7 : t125 = true
  ·
   subst c7
   have H1 : ((impl_InRange.f a1 0 200).bind fun t126 => (impl_keptPlaces.j0 k l0 a1 y122 (!t126))) = some r := by rw [if_pos rfl] at H; exact H
   clear H
   have H := H1
   clear H1
   replace H := Option.bind_eq_some_iff.mp H
   obtain ⟨t126, A80, H⟩ := H
   replace H : (impl_keptPlaces.j0 k l0 a1 y122 (!t126)) = some r := H
   have A8 := Aside0.mk A80
   clear A80
   have H' := Aside0.mk H
   clear H
   go_wp2_with (first | ((with_reducible refine gate_callee (f := 53) rfl ?_); refine goesL_ (some 13) rfl rfl Try.func53 (by kernel_rfl) rfl #[.slice A0 l0.length c0] rfl Hd.m_ ?_; (with_reducible refine (impl_ArePlaces.calls k _ _ l0 true _ ?side1 ?side2 A6.out).mono ?_); (case side1 => repeat (first | exact (Kd.C_below HR0.out HB.out) | (with_reducible refine Kd.C_alloc ?_ _) | (with_reducible refine Kd.C_drewN ?_ _) | (with_reducible refine Kd.C_drew ?_))); (case side2 => exact HC0.out); rintro e w9 ⟨rfl, hb⟩; refine ⟨_, rfl, ?_⟩; replace HO124 := Aside0.mk (Kd.R_below (Hd.r_ HO124) hb); replace HB := Aside0.mk (below_step Hd.b_ hb); (try clear hb); (try clear hb2); (try clear hk); (try clear hi)) | (go_at_call 98; (with_reducible refine (impl_InRange.calls a1 0 200 t126 _ A8.out).mono ?_); rintro e w' ⟨rfl, ⟨nd, rfl⟩⟩))
   go_meet
   case rel => exact ⟨_, (!t126), (by first | rfl | (simp; done) | (simp [*]; done)), H', ⟨by first | omega | exact Nat.le_refl _⟩, ⟨by (with_reducible repeat (first | apply Kd.R_alloc | apply Kd.R_drewN | apply Kd.R_drew)); exact HO124.out⟩, ⟨Hd.b_⟩⟩
  ·
   replace c7 := Bool.eq_false_iff.mpr c7
   subst c7
   have H1 : (impl_keptPlaces.j0 k l0 a1 y122 true) = some r := by rw [if_neg (show ¬ (false = true) by decide)] at H; exact H
   clear H
   have H := H1
   clear H1
   have H' := Aside0.mk H
   clear H
   go_wp2_with (first | ((with_reducible refine gate_callee (f := 53) rfl ?_); refine goesL_ (some 13) rfl rfl Try.func53 (by kernel_rfl) rfl #[.slice A0 l0.length c0] rfl Hd.m_ ?_; (with_reducible refine (impl_ArePlaces.calls k _ _ l0 false _ ?side1 ?side2 A6.out).mono ?_); (case side1 => repeat (first | exact (Kd.C_below HR0.out HB.out) | (with_reducible refine Kd.C_alloc ?_ _) | (with_reducible refine Kd.C_drewN ?_ _) | (with_reducible refine Kd.C_drew ?_))); (case side2 => exact HC0.out); rintro e w10 ⟨rfl, hb⟩; refine ⟨_, rfl, ?_⟩; replace HO124 := Aside0.mk (Kd.R_below (Hd.r_ HO124) hb); replace HB := Aside0.mk (below_step Hd.b_ hb); (try clear hb); (try clear hb2); (try clear hk); (try clear hi)))
   go_meet
   case rel => exact ⟨_, (true), (by first | rfl | (simp; done) | (simp [*]; done)), H', ⟨by first | omega | exact Nat.le_refl _⟩, ⟨by (with_reducible repeat (first | apply Kd.R_alloc | apply Kd.R_drewN | apply Kd.R_drew)); exact HO124.out⟩, ⟨Hd.b_⟩⟩
 case rest =>
  clear HC3
  try clear p2
  try clear c5
  try clear c7
  try clear c8
  obtain ⟨kq, x19_2, rfl, HA, HJ2, HO_5, HB⟩ := hcut
  cases kq with
  | zero => exact absurd HA.out (by simp [impl_keptPlaces.j0])
  | succ kj2 =>
   have H := HA.out
   clear HA
   simp only [impl_keptPlaces.j0] at H
   by_cases c11 : x19_2 = true
   ·
    subst c11
    have H1 : (some y122) = some r := by rw [if_pos rfl] at H; exact H
    clear H
    have H := H1
    clear H1
    obtain rfl := Option.some.inj H
    go_wp2
    go_ret
    exact ⟨_, Hd.e_, by (with_reducible repeat (first | apply Kd.R_alloc | apply Kd.R_drewN | apply Kd.R_drew)); exact HO_5.out, Hd.b_⟩
   ·
    replace c11 := Bool.eq_false_iff.mpr c11
    subst c11
    have H1 : ((impl_fromAbove.f l0).bind fun t127 => (impl_keptPlaces.l0 kj2 a1 y122 t127 (t127.length : Int) 0)) = some r := by rw [if_neg (show ¬ (false = true) by decide)] at H; exact H
    clear H
    have H := H1
    clear H1
    replace H := Option.bind_eq_some_iff.mp H
    obtain ⟨t127, A120, H⟩ := H
    replace H : (impl_keptPlaces.l0 kj2 a1 y122 t127 (t127.length : Int) 0) = some r := H
    have A12 := Aside0.mk A120
    clear A120
    have H' := Aside0.mk H
    clear H
    go_wp2_with (first | ((with_reducible refine gate_callee (f := 116) rfl ?_); refine goesL_ (some 22) rfl rfl Try.func116 (by kernel_rfl) rfl #[.slice A0 l0.length c0] rfl Hd.m_ ?_; (with_reducible refine (impl_fromAbove.calls _ _ l0 t127 _ ?side1 ?side2 A12.out).mono ?_); (case side1 => repeat (first | exact (Kd.C_below HR0.out HB.out) | (with_reducible refine Kd.C_alloc ?_ _) | (with_reducible refine Kd.C_drewN ?_ _) | (with_reducible refine Kd.C_drew ?_))); (case side2 => exact HC0.out); rintro e w13 ⟨v128, rfl, ho0, hb⟩; refine ⟨_, rfl, ?_⟩; have HO129 := Aside0.mk (Kd.R_lower (Kd.R_new' ho0 (Kd.R_lt (Hd.r_ HO_5))) (below_size Hd.b_)); replace HO_5 := Aside0.mk (Kd.R_elder' (Hd.r_ HO_5) (Kd.R_base ho0) hb); replace HB := Aside0.mk (below_step Hd.b_ hb); (try clear hb); (try clear hb2); (try clear hk); (try clear hi); (try clear ho0); obtain ⟨Ao14, co14, eo14⟩ := Kd.R_slice HO129.out; subst eo14))
    go_loopg [5, 24] kj2 (fun kq v5 v24 w' => ∃ (x5_2 : List (S77)) (x24_2 : Int), v24 = .int .i64 x24_2 ∧ Aside0 (impl_keptPlaces.l0 kq a1 x5_2 t127 (t127.length : Int) x24_2 = some r) ∧ Aside0 (kq ≤ kj2) ∧ Aside0 (Kd.R k77 77 w' w.heap.size (fun k_ => some k_ ≠ ((.slice Ao14 t127.length co14) : Value).ownBlock) v5 x5_2) ∧ Aside0 (Kd.R k77 77 w' w.heap.size (fun k_ => some k_ ≠ (v5 : Value).ownBlock) (.slice Ao14 t127.length co14) t127) ∧ Aside0 (Below w.heap.size w w'))
    case atStart => exact ⟨(y122), (0), (by first | rfl | (simp; done) | (simp [*]; done)), H', ⟨Nat.le_refl _⟩, ⟨by (with_reducible repeat (first | apply Kd.R_alloc | apply Kd.R_drewN | apply Kd.R_drew)); exact Kd.R_mono HO_5.out (fun _ hk => hk.2)⟩, ⟨by (with_reducible repeat (first | apply Kd.R_alloc | apply Kd.R_drewN | apply Kd.R_drew)); exact Kd.R_mono HO129.out (fun _ hk => hk.2)⟩, ⟨Hd.b_⟩⟩
    case round =>
     clear H'
     try clear c1
     try clear p2
     try clear c5
     try clear c7
     try clear c8
     try clear c11
     try clear p2
     obtain ⟨x5_2, x24_2, rfl, HA, HK2, HO_5, HO_22, HB⟩ := hrel
     cases gk with
     | zero => exact absurd HA.out (by simp [impl_keptPlaces.l0])
     | succ k2 =>
      have H := HA.out
      clear HA
      simp only [impl_keptPlaces.l0] at H
      by_cases c15 : x24_2 < (t127.length : Int)
      ·
       rw [if_pos c15] at H
       have c15b0 : decide (x24_2 < (t127.length : Int)) = true := decide_eq_true c15
       clear c15
       by_cases c16 : 0 ≤ x24_2
       ·
        rw [if_pos c16] at H
        have c16b0 : decide (0 ≤ x24_2) = true := decide_eq_true c16
        clear c16
        by_cases c17 : x24_2 < (t127.length : Int)
        ·
         rw [if_pos c17] at H
         have c17b0 : decide (x24_2 < (t127.length : Int)) = true := decide_eq_true c17
         clear c17
         have H' := Aside0.mk H
         clear H
         have p130 : 0 ≤ (x24_2 : Int) := of_decide_eq_true Hd.a_
         have q130 : x24_2 < (t127.length : Int) := of_decide_eq_true Hd.a_
         obtain ⟨ad130, e130, hx130_0, hx130_1, hx130_2, hx130_3⟩ := at_T77 (Kd.R_reads' HO_22.out).2.2 x24_2 p130 q130
         cases e130
         replace p130 := eq_true p130
         replace q130 := eq_true q130
         go_wp2_with (first | ((with_reducible refine gate_dst (N := 7) rfl ?_); refine Hd.box_ 7 (#[.int .i64 0, .int .i64 0, .int .i64 0, .int .i64 0]) 77 ?_; intro gb131 hg w18 hbox hb; replace HO_5 := Aside0.mk (Kd.R_below (Kd.R_elderB (Hd.r_ HO_5) gb131 (Nat.le_of_eq hg.symm)) hb); replace HO_22 := Aside0.mk (Kd.R_below (Kd.R_elderB (Hd.r_ HO_22) gb131 (Nat.le_of_eq hg.symm)) hb); have BK131 := Aside0.mk (hbox); have GW131 := Aside0.mk ((Hd.g_ hg Hd.b_ : w.heap.size ≤ gb131)); have GE131 := Aside0.mk ((Hd.g_ hg Hd.b_ : w.heap.size ≤ gb131)); replace HB := Aside0.mk (below_step Hd.b_ hb); clear hb hbox hg; obtain ⟨hcz19_0, hcz19_1, hcz19_2, hcz19_3⟩ := Hd.c4_ BK131.out; obtain ⟨hfz19_0, hfz19_1, hfz19_2, hfz19_3⟩ := Hd.f4_ BK131.out; obtain ⟨Ao20, co20, eo20⟩ := Kd.R_slice HO_5.out; subst eo20))
         go_loopg [8, 30] k2 (fun kq v8 v30 w' => ∃ (x8_3 : Bool) (x30_3 : Int), v8 = .bool x8_3 ∧ v30 = .int .i64 x30_3 ∧ Aside0 (impl_keptPlaces.l1 kq a1 x5_2 x8_3 t127 (t127.length : Int) x24_2 (x5_2.length : Int) x30_3 ((rd_T77 t127 x24_2).f0) ((rd_T77 t127 x24_2).f1.f0) ((rd_T77 t127 x24_2).f1.f1) ((rd_T77 t127 x24_2).f2) = some r) ∧ Aside0 (kq ≤ k2) ∧ Aside0 (Kd.R k77 77 w' w.heap.size (fun k_ => some k_ ≠ ((.slice (some ad130) t127.length co14) : Value).ownBlock ∧ k_ ≠ gb131) (.slice Ao20 x5_2.length co20) x5_2) ∧ Aside0 (Kd.R k77 77 w' w.heap.size (fun k_ => some k_ ≠ ((.slice Ao20 x5_2.length co20) : Value).ownBlock ∧ k_ ≠ gb131) (.slice (some ad130) t127.length co14) t127) ∧ Aside0 (w'.heap[gb131]? = some (.cells #[.int .i64 ((rd_T77 t127 x24_2).f0), .int .i64 ((rd_T77 t127 x24_2).f1.f0), .int .i64 ((rd_T77 t127 x24_2).f1.f1), .int .i64 ((rd_T77 t127 x24_2).f2)] 77 (0, 0))) ∧ Aside0 (Below w.heap.size w w'))
         case atStart => exact ⟨(true), (0), (by first | rfl | (simp; done) | (simp [*]; done)), (by first | rfl | (simp; done) | (simp [*]; done)), H', ⟨Nat.le_refl _⟩, ⟨by (with_reducible repeat (first | apply Kd.R_alloc | apply Kd.R_drewN | apply Kd.R_drew)); exact Kd.R_mono (Kd.R_far (p := ⟨gb131, 3, none⟩) (Kd.R_far (p := ⟨gb131, 2, none⟩) (Kd.R_far (p := ⟨gb131, 1, none⟩) (Kd.R_far (p := ⟨gb131, 0, none⟩) (Kd.R_mono HO_5.out (fun k_ hk => (⟨hk, hk.2⟩ : _ ∧ k_ ≠ gb131))) (fun _ hk => hk.2) (.int .i64 ((rd_T77 t127 x24_2).f0))) (fun _ hk => hk.2) (.int .i64 ((rd_T77 t127 x24_2).f1.f0))) (fun _ hk => hk.2) (.int .i64 ((rd_T77 t127 x24_2).f1.f1))) (fun _ hk => hk.2) (.int .i64 ((rd_T77 t127 x24_2).f2))) (fun _ hk => ⟨hk.1.1, hk.1.2⟩)⟩, ⟨by (with_reducible repeat (first | apply Kd.R_alloc | apply Kd.R_drewN | apply Kd.R_drew)); exact Kd.R_mono (Kd.R_far (p := ⟨gb131, 3, none⟩) (Kd.R_far (p := ⟨gb131, 2, none⟩) (Kd.R_far (p := ⟨gb131, 1, none⟩) (Kd.R_far (p := ⟨gb131, 0, none⟩) (Kd.R_mono HO_22.out (fun k_ hk => (⟨hk, hk.2⟩ : _ ∧ k_ ≠ gb131))) (fun _ hk => hk.2) (.int .i64 ((rd_T77 t127 x24_2).f0))) (fun _ hk => hk.2) (.int .i64 ((rd_T77 t127 x24_2).f1.f0))) (fun _ hk => hk.2) (.int .i64 ((rd_T77 t127 x24_2).f1.f1))) (fun _ hk => hk.2) (.int .i64 ((rd_T77 t127 x24_2).f2))) (fun _ hk => ⟨hk.1.1, hk.1.2⟩)⟩, ⟨by (with_reducible repeat (first | refine blk_drewN ?_ _ | refine blk_drew ?_ | refine blk_alloc ?_ _)); refine blk_put (cs := #[.int .i64 ((rd_T77 t127 x24_2).f0), .int .i64 ((rd_T77 t127 x24_2).f1.f0), .int .i64 ((rd_T77 t127 x24_2).f1.f1), .int .i64 0]) ?_ 3 _ rfl; (with_reducible repeat (first | refine blk_drewN ?_ _ | refine blk_drew ?_ | refine blk_alloc ?_ _)); refine blk_put (cs := #[.int .i64 ((rd_T77 t127 x24_2).f0), .int .i64 ((rd_T77 t127 x24_2).f1.f0), .int .i64 0, .int .i64 0]) ?_ 2 _ rfl; (with_reducible repeat (first | refine blk_drewN ?_ _ | refine blk_drew ?_ | refine blk_alloc ?_ _)); refine blk_put (cs := #[.int .i64 ((rd_T77 t127 x24_2).f0), .int .i64 0, .int .i64 0, .int .i64 0]) ?_ 1 _ rfl; (with_reducible repeat (first | refine blk_drewN ?_ _ | refine blk_drew ?_ | refine blk_alloc ?_ _)); refine blk_put (cs := #[.int .i64 0, .int .i64 0, .int .i64 0, .int .i64 0]) ?_ 0 _ rfl; (with_reducible repeat (first | refine blk_drewN ?_ _ | refine blk_drew ?_ | refine blk_alloc ?_ _)); exact BK131.out⟩, ⟨Hd.b_⟩⟩
         case round =>
          clear H'
          try clear c1
          try clear p1
          try clear q1
          try clear hx1
          try clear p2
          try clear c5
          try clear c7
          try clear c8
          try clear c11
          try clear p13
          try clear q13
          try clear hx13
          try clear c15
          try clear c15b0
          try clear c16
          try clear c16b0
          try clear c17
          try clear c17b0
          try clear hcz19_0
          try clear hcz19_1
          try clear hcz19_2
          try clear hcz19_3
          try clear hfz19_0
          try clear hfz19_1
          try clear hfz19_2
          try clear hfz19_3
          try clear hx130_0
          try clear hx130_1
          try clear hx130_2
          try clear hx130_3
          try clear p130
          try clear p2
          try clear q130
          obtain ⟨x8_3, x30_3, rfl, rfl, HA, HK3, HO_5, HO_22, BK131, HB⟩ := hrel
          cases gk with
          | zero => exact absurd HA.out (by simp [impl_keptPlaces.l1])
          | succ k3 =>
           have H := HA.out
           clear HA
           simp only [impl_keptPlaces.l1] at H
           by_cases c21 : x30_3 < (x5_2.length : Int)
           ·
            rw [if_pos c21] at H
            have c21b0 : decide (x30_3 < (x5_2.length : Int)) = true := decide_eq_true c21
            clear c21
            by_cases c22 : 0 ≤ x30_3
            ·
             rw [if_pos c22] at H
             have c22b0 : decide (0 ≤ x30_3) = true := decide_eq_true c22
             clear c22
             by_cases c23 : x30_3 < (x5_2.length : Int)
             ·
              rw [if_pos c23] at H
              have c23b0 : decide (x30_3 < (x5_2.length : Int)) = true := decide_eq_true c23
              clear c23
              by_cases c24 : x8_3 = true
              ·
               subst c24
               have H1 : ((impl_FarSquared.f ((rd_T77 t127 x24_2).f1.f0) ((rd_T77 t127 x24_2).f1.f1) ((rd_T77 x5_2 x30_3).f1.f0) ((rd_T77 x5_2 x30_3).f1.f1)).bind fun t134 => (impl_keptPlaces.l1 k3 a1 x5_2 (decide (t134 ≥ (wrap64 (a1 * a1)))) t127 (t127.length : Int) x24_2 (x5_2.length : Int) (wrap64 (x30_3 + 1)) ((rd_T77 t127 x24_2).f0) ((rd_T77 t127 x24_2).f1.f0) ((rd_T77 t127 x24_2).f1.f1) ((rd_T77 t127 x24_2).f2))) = some r := by rw [if_pos rfl] at H; exact H
               clear H
               have H := H1
               clear H1
               replace H := Option.bind_eq_some_iff.mp H
               obtain ⟨t134, A250, H⟩ := H
               replace H : (impl_keptPlaces.l1 k3 a1 x5_2 (decide (t134 ≥ (wrap64 (a1 * a1)))) t127 (t127.length : Int) x24_2 (x5_2.length : Int) (wrap64 (x30_3 + 1)) ((rd_T77 t127 x24_2).f0) ((rd_T77 t127 x24_2).f1.f0) ((rd_T77 t127 x24_2).f1.f1) ((rd_T77 t127 x24_2).f2)) = some r := H
               have A25 := Aside0.mk A250
               clear A250
               have H' := Aside0.mk H
               clear H
               have p132 : 0 ≤ (x30_3 : Int) := of_decide_eq_true Hd.a_
               have q132 : x30_3 < (x5_2.length : Int) := of_decide_eq_true Hd.a_
               obtain ⟨ad132, e132, hx132_0, hx132_1, hx132_2, hx132_3⟩ := at_T77 (Kd.R_reads' HO_5.out).2.2 x30_3 p132 q132
               cases e132
               replace p132 := eq_true p132
               replace q132 := eq_true q132
               go_wp2_with (first | ((with_reducible refine gate_dst (N := 10) rfl ?_); refine Hd.box_ 10 (#[.int .i64 0, .int .i64 0, .int .i64 0, .int .i64 0]) 77 ?_; intro gb133 hg w26 hbox hb; replace HO_5 := Aside0.mk (Kd.R_below (Kd.R_elderB (Hd.r_ HO_5) gb133 (Nat.le_of_eq hg.symm)) hb); replace HO_22 := Aside0.mk (Kd.R_below (Kd.R_elderB (Hd.r_ HO_22) gb133 (Nat.le_of_eq hg.symm)) hb); have BK133 := Aside0.mk (hbox); have GW133 := Aside0.mk ((Hd.g_ hg Hd.b_ : w.heap.size ≤ gb133)); have GE133 := Aside0.mk ((Hd.g_ hg Hd.b_ : w.heap.size ≤ gb133)); replace HB := Aside0.mk (below_step Hd.b_ hb); have NB131_133 := Aside0.mk ((Hd.lt_ BK131 hg)); have NB133_131 := Aside0.mk ((Hd.gt_ BK131 hg)); replace BK131 := Aside0.mk (Hd.kb_ BK131 hb); clear hb hbox hg; have hnb27 := NB133_131.out; have hnc27 := NB131_133.out; obtain ⟨hcz28_0, hcz28_1, hcz28_2, hcz28_3⟩ := Hd.c4_ BK133.out; obtain ⟨hfz28_0, hfz28_1, hfz28_2, hfz28_3⟩ := Hd.f4_ BK133.out; obtain ⟨hcz29_0, hcz29_1, hcz29_2, hcz29_3⟩ := Hd.c4_ BK131.out; obtain ⟨hfz29_0, hfz29_1, hfz29_2, hfz29_3⟩ := Hd.f4_ BK131.out) | (go_at_call 51; (with_reducible refine (impl_FarSquared.calls ((rd_T77 t127 x24_2).f1.f0) ((rd_T77 t127 x24_2).f1.f1) ((rd_T77 x5_2 x30_3).f1.f0) ((rd_T77 x5_2 x30_3).f1.f1) t134 _ A25.out).mono ?_); rintro e w30 ⟨rfl, hb⟩; replace HO_5 := Aside0.mk (Kd.R_below (by (with_reducible repeat (first | apply Kd.R_alloc | apply Kd.R_drewN | apply Kd.R_drew)); exact (Kd.R_mono (Kd.R_far (p := ⟨gb133, 3, none⟩) (Kd.R_far (p := ⟨gb133, 2, none⟩) (Kd.R_far (p := ⟨gb133, 1, none⟩) (Kd.R_far (p := ⟨gb133, 0, none⟩) (Kd.R_mono HO_5.out (fun k_ hk => (⟨hk, hk.2⟩ : _ ∧ k_ ≠ gb133))) (fun _ hk => hk.2) (.int .i64 ((rd_T77 x5_2 x30_3).f0))) (fun _ hk => hk.2) (.int .i64 ((rd_T77 x5_2 x30_3).f1.f0))) (fun _ hk => hk.2) (.int .i64 ((rd_T77 x5_2 x30_3).f1.f1))) (fun _ hk => hk.2) (.int .i64 ((rd_T77 x5_2 x30_3).f2))) (fun _ h_ => h_.1))) hb); replace HO_22 := Aside0.mk (Kd.R_below (by (with_reducible repeat (first | apply Kd.R_alloc | apply Kd.R_drewN | apply Kd.R_drew)); exact (Kd.R_mono (Kd.R_far (p := ⟨gb133, 3, none⟩) (Kd.R_far (p := ⟨gb133, 2, none⟩) (Kd.R_far (p := ⟨gb133, 1, none⟩) (Kd.R_far (p := ⟨gb133, 0, none⟩) (Kd.R_mono HO_22.out (fun k_ hk => (⟨hk, hk.2⟩ : _ ∧ k_ ≠ gb133))) (fun _ hk => hk.2) (.int .i64 ((rd_T77 x5_2 x30_3).f0))) (fun _ hk => hk.2) (.int .i64 ((rd_T77 x5_2 x30_3).f1.f0))) (fun _ hk => hk.2) (.int .i64 ((rd_T77 x5_2 x30_3).f1.f1))) (fun _ hk => hk.2) (.int .i64 ((rd_T77 x5_2 x30_3).f2))) (fun _ h_ => h_.1))) hb); replace BK131 := Aside0.mk (blk_below (g := gb131) (o := .cells #[.int .i64 ((rd_T77 t127 x24_2).f0), .int .i64 ((rd_T77 t127 x24_2).f1.f0), .int .i64 ((rd_T77 t127 x24_2).f1.f1), .int .i64 ((rd_T77 t127 x24_2).f2)] 77 (0, 0)) (by (with_reducible repeat (first | refine blk_drewN ?_ _ | refine blk_drew ?_ | refine blk_alloc ?_ _)); refine blk_far ?_ NB131_133.out _; (with_reducible repeat (first | refine blk_drewN ?_ _ | refine blk_drew ?_ | refine blk_alloc ?_ _)); refine blk_far ?_ NB131_133.out _; (with_reducible repeat (first | refine blk_drewN ?_ _ | refine blk_drew ?_ | refine blk_alloc ?_ _)); refine blk_far ?_ NB131_133.out _; (with_reducible repeat (first | refine blk_drewN ?_ _ | refine blk_drew ?_ | refine blk_alloc ?_ _)); refine blk_far ?_ NB131_133.out _; (with_reducible repeat (first | refine blk_drewN ?_ _ | refine blk_drew ?_ | refine blk_alloc ?_ _)); exact BK131.out) hb); replace BK133 := Aside0.mk (blk_below (g := gb133) (o := .cells #[.int .i64 ((rd_T77 x5_2 x30_3).f0), .int .i64 ((rd_T77 x5_2 x30_3).f1.f0), .int .i64 ((rd_T77 x5_2 x30_3).f1.f1), .int .i64 ((rd_T77 x5_2 x30_3).f2)] 77 (0, 0)) (by (with_reducible repeat (first | refine blk_drewN ?_ _ | refine blk_drew ?_ | refine blk_alloc ?_ _)); refine blk_put (cs := #[.int .i64 ((rd_T77 x5_2 x30_3).f0), .int .i64 ((rd_T77 x5_2 x30_3).f1.f0), .int .i64 ((rd_T77 x5_2 x30_3).f1.f1), .int .i64 0]) ?_ 3 _ rfl; (with_reducible repeat (first | refine blk_drewN ?_ _ | refine blk_drew ?_ | refine blk_alloc ?_ _)); refine blk_put (cs := #[.int .i64 ((rd_T77 x5_2 x30_3).f0), .int .i64 ((rd_T77 x5_2 x30_3).f1.f0), .int .i64 0, .int .i64 0]) ?_ 2 _ rfl; (with_reducible repeat (first | refine blk_drewN ?_ _ | refine blk_drew ?_ | refine blk_alloc ?_ _)); refine blk_put (cs := #[.int .i64 ((rd_T77 x5_2 x30_3).f0), .int .i64 0, .int .i64 0, .int .i64 0]) ?_ 1 _ rfl; (with_reducible repeat (first | refine blk_drewN ?_ _ | refine blk_drew ?_ | refine blk_alloc ?_ _)); refine blk_put (cs := #[.int .i64 0, .int .i64 0, .int .i64 0, .int .i64 0]) ?_ 0 _ rfl; (with_reducible repeat (first | refine blk_drewN ?_ _ | refine blk_drew ?_ | refine blk_alloc ?_ _)); exact BK133.out) hb); replace HB := Aside0.mk (below_step Hd.b_ hb); (try clear hb); (try clear hb2); (try clear hk); (try clear hi)))
               go_roundg k3
               case measure => have := HJ2.out; have := HK2.out; have := HK3.out; omega
               case rel => exact ⟨(decide (t134 ≥ (wrap64 (a1 * a1)))), (wrap64 (x30_3 + 1)), (by first | rfl | (simp; done) | (simp [*]; done)), (by first | rfl | (simp; done) | (simp [*]; done)), H', ⟨by have := HJ2.out; have := HK2.out; have := HK3.out; omega⟩, ⟨by (with_reducible repeat (first | apply Kd.R_alloc | apply Kd.R_drewN | apply Kd.R_drew)); exact Kd.R_mono HO_5.out (fun _ hk => ⟨hk.1.1, hk.1.2⟩)⟩, ⟨by (with_reducible repeat (first | apply Kd.R_alloc | apply Kd.R_drewN | apply Kd.R_drew)); exact Kd.R_mono HO_22.out (fun _ hk => ⟨hk.1.1, hk.1.2⟩)⟩, ⟨by (with_reducible repeat (first | refine blk_drewN ?_ _ | refine blk_drew ?_ | refine blk_alloc ?_ _)); exact BK131.out⟩, ⟨Hd.b_⟩⟩
              ·
               replace c24 := Bool.eq_false_iff.mpr c24
               subst c24
               have H1 : (impl_keptPlaces.l1 k3 a1 x5_2 false t127 (t127.length : Int) x24_2 (x5_2.length : Int) (wrap64 (x30_3 + 1)) ((rd_T77 t127 x24_2).f0) ((rd_T77 t127 x24_2).f1.f0) ((rd_T77 t127 x24_2).f1.f1) ((rd_T77 t127 x24_2).f2)) = some r := by rw [if_neg (show ¬ (false = true) by decide)] at H; exact H
               clear H
               have H := H1
               clear H1
               have H' := Aside0.mk H
               clear H
               have p132 : 0 ≤ (x30_3 : Int) := of_decide_eq_true Hd.a_
               have q132 : x30_3 < (x5_2.length : Int) := of_decide_eq_true Hd.a_
               obtain ⟨ad132, e132, hx132_0, hx132_1, hx132_2, hx132_3⟩ := at_T77 (Kd.R_reads' HO_5.out).2.2 x30_3 p132 q132
               cases e132
               replace p132 := eq_true p132
               replace q132 := eq_true q132
               go_wp2_with (first | ((with_reducible refine gate_dst (N := 10) rfl ?_); refine Hd.box_ 10 (#[.int .i64 0, .int .i64 0, .int .i64 0, .int .i64 0]) 77 ?_; intro gb133 hg w31 hbox hb; replace HO_5 := Aside0.mk (Kd.R_below (Kd.R_elderB (Hd.r_ HO_5) gb133 (Nat.le_of_eq hg.symm)) hb); replace HO_22 := Aside0.mk (Kd.R_below (Kd.R_elderB (Hd.r_ HO_22) gb133 (Nat.le_of_eq hg.symm)) hb); have BK133 := Aside0.mk (hbox); have GW133 := Aside0.mk ((Hd.g_ hg Hd.b_ : w.heap.size ≤ gb133)); have GE133 := Aside0.mk ((Hd.g_ hg Hd.b_ : w.heap.size ≤ gb133)); replace HB := Aside0.mk (below_step Hd.b_ hb); have NB131_133 := Aside0.mk ((Hd.lt_ BK131 hg)); have NB133_131 := Aside0.mk ((Hd.gt_ BK131 hg)); replace BK131 := Aside0.mk (Hd.kb_ BK131 hb); clear hb hbox hg; have hnb32 := NB133_131.out; have hnc32 := NB131_133.out; obtain ⟨hcz33_0, hcz33_1, hcz33_2, hcz33_3⟩ := Hd.c4_ BK133.out; obtain ⟨hfz33_0, hfz33_1, hfz33_2, hfz33_3⟩ := Hd.f4_ BK133.out))
               go_roundg k3
               case measure => have := HJ2.out; have := HK2.out; have := HK3.out; omega
               case rel => exact ⟨(false), (wrap64 (x30_3 + 1)), (by first | rfl | (simp; done) | (simp [*]; done)), (by first | rfl | (simp; done) | (simp [*]; done)), H', ⟨by have := HJ2.out; have := HK2.out; have := HK3.out; omega⟩, ⟨by (with_reducible repeat (first | apply Kd.R_alloc | apply Kd.R_drewN | apply Kd.R_drew)); exact Kd.R_mono (Kd.R_far (p := ⟨gb133, 3, none⟩) (Kd.R_far (p := ⟨gb133, 2, none⟩) (Kd.R_far (p := ⟨gb133, 1, none⟩) (Kd.R_far (p := ⟨gb133, 0, none⟩) (Kd.R_mono HO_5.out (fun k_ hk => (⟨hk, hk.2⟩ : _ ∧ k_ ≠ gb133))) (fun _ hk => hk.2) (.int .i64 ((rd_T77 x5_2 x30_3).f0))) (fun _ hk => hk.2) (.int .i64 ((rd_T77 x5_2 x30_3).f1.f0))) (fun _ hk => hk.2) (.int .i64 ((rd_T77 x5_2 x30_3).f1.f1))) (fun _ hk => hk.2) (.int .i64 ((rd_T77 x5_2 x30_3).f2))) (fun _ hk => ⟨hk.1.1.1, hk.1.1.2⟩)⟩, ⟨by (with_reducible repeat (first | apply Kd.R_alloc | apply Kd.R_drewN | apply Kd.R_drew)); exact Kd.R_mono (Kd.R_far (p := ⟨gb133, 3, none⟩) (Kd.R_far (p := ⟨gb133, 2, none⟩) (Kd.R_far (p := ⟨gb133, 1, none⟩) (Kd.R_far (p := ⟨gb133, 0, none⟩) (Kd.R_mono HO_22.out (fun k_ hk => (⟨hk, hk.2⟩ : _ ∧ k_ ≠ gb133))) (fun _ hk => hk.2) (.int .i64 ((rd_T77 x5_2 x30_3).f0))) (fun _ hk => hk.2) (.int .i64 ((rd_T77 x5_2 x30_3).f1.f0))) (fun _ hk => hk.2) (.int .i64 ((rd_T77 x5_2 x30_3).f1.f1))) (fun _ hk => hk.2) (.int .i64 ((rd_T77 x5_2 x30_3).f2))) (fun _ hk => ⟨hk.1.1.1, hk.1.1.2⟩)⟩, ⟨by (with_reducible repeat (first | refine blk_drewN ?_ _ | refine blk_drew ?_ | refine blk_alloc ?_ _)); refine blk_far ?_ NB131_133.out _; (with_reducible repeat (first | refine blk_drewN ?_ _ | refine blk_drew ?_ | refine blk_alloc ?_ _)); refine blk_far ?_ NB131_133.out _; (with_reducible repeat (first | refine blk_drewN ?_ _ | refine blk_drew ?_ | refine blk_alloc ?_ _)); refine blk_far ?_ NB131_133.out _; (with_reducible repeat (first | refine blk_drewN ?_ _ | refine blk_drew ?_ | refine blk_alloc ?_ _)); refine blk_far ?_ NB131_133.out _; (with_reducible repeat (first | refine blk_drewN ?_ _ | refine blk_drew ?_ | refine blk_alloc ?_ _)); exact BK131.out⟩, ⟨Hd.b_⟩⟩
             ·
              rw [if_neg c23] at H
              exact absurd H (by simp)
            ·
             rw [if_neg c22] at H
             exact absurd H (by simp)
           ·
            rw [if_neg c21] at H
            have c21b0 : decide (x30_3 < (x5_2.length : Int)) = false := decide_eq_false c21
            clear c21
            by_cases c34 : x8_3 = true
            ·
             subst c34
             have H1 : (if x5_2.length < 4398046511104 then (impl_keptPlaces.l0 k3 a1 (x5_2 ++ [(⟨((rd_T77 t127 x24_2).f0), (⟨((rd_T77 t127 x24_2).f1.f0), ((rd_T77 t127 x24_2).f1.f1)⟩ : S75), ((rd_T77 t127 x24_2).f2)⟩ : S77)]) t127 (t127.length : Int) (wrap64 (x24_2 + 1))) else (none)) = some r := by rw [if_pos rfl] at H; exact H
             clear H
             have H := H1
             clear H1
             by_cases c35 : x5_2.length < 4398046511104
             ·
              rw [if_pos c35] at H
              have LMc35 := Aside0.mk c35
              clear c35
              obtain ⟨y135, hy135⟩ : ∃ y_ : List (S77), y_ = (x5_2 ++ [(⟨((rd_T77 t127 x24_2).f0), (⟨((rd_T77 t127 x24_2).f1.f0), ((rd_T77 t127 x24_2).f1.f1)⟩ : S75), ((rd_T77 t127 x24_2).f2)⟩ : S77)]) := ⟨_, rfl⟩
              replace H : (impl_keptPlaces.l0 k3 a1 y135 t127 (t127.length : Int) (wrap64 (x24_2 + 1))) = some r := by first | (rw [hy135]; with_reducible exact H) | (have H2_ := (Option.bind_some _ _).symm.trans H; rw [hy135]; with_reducible exact H2_) | (have H2_ := (Option.bind_some _ _).symm.trans H; with_reducible exact H2_) | with_reducible exact H | (rw [hy135]; exact H) | exact H
              have Ny135 := Aside0.mk hy135
              clear hy135
              have H' := Aside0.mk H
              clear H
              obtain ⟨hcz36_0, hcz36_1, hcz36_2, hcz36_3⟩ := Hd.c4_ BK131.out
              obtain ⟨hfz36_0, hfz36_1, hfz36_2, hfz36_3⟩ := Hd.f4_ BK131.out
              go_wp2_with (first | ((with_reducible refine gate_builtin (b := .append) (xs := #[.tmp 48, .tmp 50]) rfl ?_); at_builtin; refine Kd.R_append k77 (w0 := w) w.heap.size rfl (.tmp 48) (.tmp 50) 61 77 (.agg #[(.int .i64 0), (.int .i64 0), (.int .i64 0), (.int .i64 0)]) 32 rfl Try.underlying61 info77 rfl (by decide) (by omega) (.slice Ao20 x5_2.length co20) x5_2 (⟨((rd_T77 t127 x24_2).f0), (⟨((rd_T77 t127 x24_2).f1.f0), ((rd_T77 t127 x24_2).f1.f1)⟩ : S75), ((rd_T77 t127 x24_2).f2)⟩ : S77) [.int .i64 ((rd_T77 t127 x24_2).f0), .int .i64 ((rd_T77 t127 x24_2).f1.f0), .int .i64 ((rd_T77 t127 x24_2).f1.f1), .int .i64 ((rd_T77 t127 x24_2).f2)] (fun k_ => some k_ ≠ (.slice (some ad130) t127.length co14 : Value).ownBlock ∧ k_ ≠ gb131) (fun _ => False) rfl rfl ?aP (fun _ hk => hk.elim) ?aF ?aO ?aB ?aS ?aL ?_; (case aP => exact k77_mkM _ _ _ (⟨((rd_T77 t127 x24_2).f0), (⟨((rd_T77 t127 x24_2).f1.f0), ((rd_T77 t127 x24_2).f1.f1)⟩ : S75), ((rd_T77 t127 x24_2).f2)⟩ : S77)); (case aB => exact Hd.b_); (case aF => exact (fun k_ hk => ⟨Kd.fresh' (Kd.R_lt (Hd.r_ HO_22)) k_ hk, Kd.freshB (g := gb131) (o := .cells #[.int .i64 ((rd_T77 t127 x24_2).f0), .int .i64 ((rd_T77 t127 x24_2).f1.f0), .int .i64 ((rd_T77 t127 x24_2).f1.f1), .int .i64 ((rd_T77 t127 x24_2).f2)] 77 (0, 0)) (Hd.k_ BK131) k_ hk⟩)); (case aO => exact (Hd.r_ HO_5)); (case aS => exact (below_size Hd.b_)); (case aL => have := LMc35.out; omega); intro v136 w37 ho hb hg hat; rw [← Ny135.out] at ho; have n0_ := Aside0.mk (Kd.R_after (ok := (fun k_ => k_ ≠ gb131)) (by (with_reducible repeat (first | apply Kd.R_alloc | apply Kd.R_drewN | apply Kd.R_drew)); exact Kd.R_mono HO_22.out (fun _ hk => ⟨hk.2, hk.1⟩)) hg hat); have n1_ := Aside0.mk (blk_grown (g := gb131) (o := .cells #[.int .i64 ((rd_T77 t127 x24_2).f0), .int .i64 ((rd_T77 t127 x24_2).f1.f0), .int .i64 ((rd_T77 t127 x24_2).f1.f1), .int .i64 ((rd_T77 t127 x24_2).f2)] 77 (0, 0)) (Hd.k_ BK131) hg (Kd.R_away HO_5.out (fun _ hk => hk.2))); have n2_ := Aside0.mk (hb); have n3_ := Aside0.mk (ho); clear HO_22; clear BK131; clear HB; clear HO_5; have HO_22 := n0_; have BK131 := n1_; have HB := n2_; have HO137 := n3_; clear n0_ n1_ n2_ n3_; clear ho hb hg hat))
              go_roundg k3
              case measure => have := HJ2.out; have := HK2.out; have := HK3.out; omega
              case rel => exact ⟨(y135), (wrap64 (x24_2 + 1)), (by first | rfl | (simp; done) | (simp [*]; done)), H', ⟨by have := HJ2.out; have := HK2.out; have := HK3.out; omega⟩, ⟨by (with_reducible repeat (first | apply Kd.R_alloc | apply Kd.R_drewN | apply Kd.R_drew)); exact Kd.R_mono HO137.out (fun _ hk => hk.1)⟩, ⟨by (with_reducible repeat (first | apply Kd.R_alloc | apply Kd.R_drewN | apply Kd.R_drew)); exact Kd.R_mono HO_22.out (fun _ hk => hk.2)⟩, ⟨Hd.b_⟩⟩
             ·
              rw [if_neg c35] at H
              exact absurd H (by simp)
            ·
             replace c34 := Bool.eq_false_iff.mpr c34
             subst c34
             have H1 : (impl_keptPlaces.l0 k3 a1 x5_2 t127 (t127.length : Int) (wrap64 (x24_2 + 1))) = some r := by rw [if_neg (show ¬ (false = true) by decide)] at H; exact H
             clear H
             have H := H1
             clear H1
             have H' := Aside0.mk H
             clear H
             go_wp2
             go_roundg k3
             case measure => have := HJ2.out; have := HK2.out; have := HK3.out; omega
             case rel => exact ⟨(x5_2), (wrap64 (x24_2 + 1)), (by first | rfl | (simp; done) | (simp [*]; done)), H', ⟨by have := HJ2.out; have := HK2.out; have := HK3.out; omega⟩, ⟨by (with_reducible repeat (first | apply Kd.R_alloc | apply Kd.R_drewN | apply Kd.R_drew)); exact Kd.R_mono HO_5.out (fun _ hk => hk.1)⟩, ⟨by (with_reducible repeat (first | apply Kd.R_alloc | apply Kd.R_drewN | apply Kd.R_drew)); exact Kd.R_mono HO_22.out (fun _ hk => hk.1)⟩, ⟨Hd.b_⟩⟩
        ·
         rw [if_neg c17] at H
         exact absurd H (by simp)
       ·
        rw [if_neg c16] at H
        exact absurd H (by simp)
      ·
       rw [if_neg c15] at H
       have c15b0 : decide (x24_2 < (t127.length : Int)) = false := decide_eq_false c15
       clear c15
       obtain rfl := Option.some.inj H
       go_wp2
       go_ret
       exact ⟨_, Hd.e_, by (with_reducible repeat (first | apply Kd.R_alloc | apply Kd.R_drewN | apply Kd.R_drew)); exact Kd.R_mono HO_5.out (fun _ hk => trivial), Hd.b_⟩
def impl_Place_89.l0 : Nat → List S77 → Int → Int → Option Int
  | 0, _, _, _ => none
  | k + 1, x0, x1, x8 => if x8 < (x0.length : Int) then (if 0 ≤ x8 then (if (rd_T77 x0 x8).f0 = x1 then some x8 else impl_Place_89.l0 k x0 x1 (wrap64 (x8 + 1))) else none) else some (-1)
def impl_Place_89.f (k : Nat) (l0 : List S77) (a1 : Int) : Option Int := impl_Place_89.l0 k l0 a1 0
set_option maxHeartbeats 8000000 in
set_option maxRecDepth 100000 in
theorem impl_Place_89.lit (x0 x1 x2 x3 : Int) (id : Int) (g : Nat) (w : World) (hc : w.cell? ⟨g, 0, none⟩ = some (.int .i64 id)) :
    Calls Try.prog 90 #[.agg #[.int .i64 x0, .int .i64 x1, .int .i64 x2, .int .i64 x3], .pointer (some ⟨g, 0, none⟩)] w fun e w' => e = .returned (.bool (decide (x0 = id))) ∧ Below w.heap.size w w' := by
  have hu77 := Try.underlying77
  have hc2 : ∀ o, (w.alloc o).cell? ⟨g, 0, none⟩ = some (.int .i64 id) := fun o => (World.cell?_alloc_lt _ _ _ (World.block_lt_of_cell? _ _ hc)).trans hc
  go_enter Try.func90, Try.ntmps90
  go_wp2
  go_ret
  exact ⟨by first | rfl | (simp; done) | (simp [beq_eq_decide]; done), below_alloc (Below.refl _ _) _⟩
set_option maxHeartbeats 8000000 in
set_option maxRecDepth 100000 in
theorem impl_Place_89.idx (k : Nat) (A : Option Addr) (c : Nat) (l0 : List S77) (id r : Int) (g : Nat) (w : World) (hr0 : Kd.C k77 w A l0.length l0) (hc : w.cell? ⟨g, 0, none⟩ = some (.int .i64 id)) (h : impl_Place_89.f k l0 id = some r) :
    Calls Try.prog 89 #[.slice A l0.length c, .func (.func 90) #[] #[.pointer (some ⟨g, 0, none⟩)]] w fun e w' => e = .returned (.int .i64 r) ∧ Below w.heap.size w w' := by
  have hu77 := Try.underlying77
  have HR := Aside0.mk hr0
  have HC := Aside0.mk hc
  have HB := Aside0.mk (Below.refl w.heap.size w)
  have H' := Aside0.mk h
  clear h hr0 hc
  go_enter Try.func89, Try.ntmps89
  go_wp2
  go_loopg [8] k (fun kq v8 w' => ∃ (x8_1 : Int), v8 = .int .i64 x8_1 ∧ Aside0 (impl_Place_89.l0 kq l0 id x8_1 = some r) ∧ Aside0 (kq ≤ k) ∧ Aside0 (Below w.heap.size w w'))
  case atStart => exact ⟨0, rfl, H', ⟨Nat.le_refl _⟩, HB⟩
  case round =>
    clear H' HB
    obtain ⟨x8_1, rfl, HA, HK1, HB⟩ := hrel
    cases gk with
    | zero => exact absurd HA.out (by simp [impl_Place_89.l0])
    | succ k1 =>
      have H := HA.out
      clear HA
      simp only [impl_Place_89.l0] at H
      by_cases c3 : x8_1 < (l0.length : Int)
      · rw [if_pos c3] at H
        by_cases c4 : 0 ≤ x8_1
        · rw [if_pos c4] at H
          obtain ⟨ad, e1, hx0, hx1, hx2, hx3⟩ := at_T77 HR.out x8_1 c4 c3
          subst e1
          replace hx0 := (HB.out.cell (World.block_lt_of_cell? w _ hx0)).trans hx0
          replace hx1 := (HB.out.cell (World.block_lt_of_cell? w _ hx1)).trans hx1
          replace hx2 := (HB.out.cell (World.block_lt_of_cell? w _ hx2)).trans hx2
          replace hx3 := (HB.out.cell (World.block_lt_of_cell? w _ hx3)).trans hx3
          have hcw := (HB.out.cell (World.block_lt_of_cell? w _ HC.out)).trans HC.out
          have b3 : decide (x8_1 < (l0.length : Int)) = true := decide_eq_true c3
          have b4 : decide (0 ≤ x8_1) = true := decide_eq_true c4
          have b3' := eq_true c3
          have b4' := eq_true c4
          clear c3 c4
          by_cases c5 : (rd_T77 l0 x8_1).f0 = id
          · rw [if_pos c5] at H
            obtain rfl := Option.some.inj H
            have HD := Aside0.mk (decide_eq_true c5)
            clear c5 H
            go_wp2_with (first | (go_at_call 90; (with_reducible refine (impl_Place_89.lit _ _ _ _ id g _ hcw).mono ?_); rintro e w2 ⟨rfl, hb⟩; rw [HD.out]))
            go_ret
            exact ⟨rfl, below_step HB.out hb⟩
          · rw [if_neg c5] at H
            have HD := Aside0.mk (decide_eq_false c5)
            have H' := Aside0.mk H
            clear c5 H
            go_wp2_with (first | (go_at_call 90; (with_reducible refine (impl_Place_89.lit _ _ _ _ id g _ hcw).mono ?_); rintro e w2 ⟨rfl, hb⟩; rw [HD.out]))
            go_roundg k1
            case measure => have := HK1.out; omega
            case rel => exact ⟨_, rfl, H', ⟨by have := HK1.out; omega⟩, ⟨below_step HB.out hb⟩⟩
        · rw [if_neg c4] at H; cases H
      · rw [if_neg c3] at H
        obtain rfl := Option.some.inj H
        have b3 : decide (x8_1 < (l0.length : Int)) = false := decide_eq_false c3
        go_wp2
        go_ret
        exact ⟨rfl, HB.out⟩
theorem impl_Place_89.celb {w W : World} {v : Value} {t : TypeId} (hb : Below (w.alloc (.cells #[v] t)).heap.size (w.alloc (.cells #[v] t)) W) : W.cell? ⟨w.heap.size, 0, none⟩ = some v :=
  (hb.cell (World.block_lt_of_cell? _ ⟨w.heap.size, 0, none⟩ ((blk_cell (blk_new w _) 0).trans rfl))).trans ((blk_cell (blk_new w _) 0).trans rfl)
def impl_Place_117.l0 : Nat → List (S77) → Int → Int → Int → Int → Int → Int → Option (Int)
 | 0, _, _, _, _, _, _, _ => none
 | k + 1, x0, x7, x8, x139000, x139001, x139002, x139003 => if x8 < x7 then (if 0 ≤ x8 then (if x8 < (x0.length : Int) then (if (x139000 == ((rd_T77 x0 x8).f0) && ((x139001 == ((rd_T77 x0 x8).f1.f0) && (x139002 == ((rd_T77 x0 x8).f1.f1))) && (x139003 == ((rd_T77 x0 x8).f2)))) = true then (some x8) else (impl_Place_117.l0 k x0 x7 (wrap64 (x8 + 1)) x139000 x139001 x139002 x139003)) else (none)) else (none)) else (some (-1))
def impl_Place_117.f (k : Nat) (l0 : List (S77)) (a1_0 : Int) (a1_1 : Int) (a1_2 : Int) (a1_3 : Int) : Option (Int) := impl_Place_117.l0 k l0 (l0.length : Int) 0 a1_0 a1_1 a1_2 a1_3
set_option maxHeartbeats 8000000 in
set_option maxRecDepth 100000 in
theorem impl_Place_117.calls (k : Nat) (A0 : Option Addr) (c0 : Nat) (l0 : List (S77)) (a1_0 : Int) (a1_1 : Int) (a1_2 : Int) (a1_3 : Int) (r : Int) (w : World) (hr0 : Kd.C k77 w A0 l0.length l0) (hc0 : l0.length ≤ c0) (h : impl_Place_117.f k l0 a1_0 a1_1 a1_2 a1_3 = some r) :
  Calls Try.prog 117 #[.slice A0 l0.length c0, .agg #[.int .i64 a1_0, .int .i64 a1_1, .int .i64 a1_2, .int .i64 a1_3]] w fun e w' => e = .returned (.int .i64 r) ∧ Below w.heap.size w w' := by
 have hu77 := Try.underlying77
 have HR0 := Aside0.mk hr0
 have HC0 := Aside0.mk hc0
 clear hr0 hc0
 have HB := Aside0.mk (Below.refl w.heap.size w)
 have H : (impl_Place_117.l0 k l0 (l0.length : Int) 0 a1_0 a1_1 a1_2 a1_3) = some r := h
 clear h
 have H' := Aside0.mk H
 clear H
 go_enter Try.func117, Try.ntmps117
 go_wp2_with (first | ((with_reducible refine gate_dst (N := 3) rfl ?_); refine Hd.box_ 3 (#[.int .i64 a1_0, .int .i64 a1_1, .int .i64 a1_2, .int .i64 a1_3]) 77 ?_; intro gb138 hg w3 hbox hb; have BK138 := Aside0.mk (hbox); have GW138 := Aside0.mk ((Hd.g_ hg Hd.b_ : w.heap.size ≤ gb138)); have GE138 := Aside0.mk ((Hd.g_ hg Hd.b_ : w.heap.size ≤ gb138)); replace HB := Aside0.mk (below_step Hd.b_ hb); clear hb hbox hg))
 repeat (go_quiet (first | ((with_reducible refine gate_dst (N := 3) rfl ?_); refine Hd.box_ 3 (#[.int .i64 a1_0, .int .i64 a1_1, .int .i64 a1_2, .int .i64 a1_3]) 77 ?_; intro gb138 hg w3 hbox hb; have BK138 := Aside0.mk (hbox); have GW138 := Aside0.mk ((Hd.g_ hg Hd.b_ : w.heap.size ≤ gb138)); have GE138 := Aside0.mk ((Hd.g_ hg Hd.b_ : w.heap.size ≤ gb138)); replace HB := Aside0.mk (below_step Hd.b_ hb); clear hb hbox hg)); try go_wp2_with (first | ((with_reducible refine gate_dst (N := 3) rfl ?_); refine Hd.box_ 3 (#[.int .i64 a1_0, .int .i64 a1_1, .int .i64 a1_2, .int .i64 a1_3]) 77 ?_; intro gb138 hg w3 hbox hb; have BK138 := Aside0.mk (hbox); have GW138 := Aside0.mk ((Hd.g_ hg Hd.b_ : w.heap.size ≤ gb138)); have GE138 := Aside0.mk ((Hd.g_ hg Hd.b_ : w.heap.size ≤ gb138)); replace HB := Aside0.mk (below_step Hd.b_ hb); clear hb hbox hg)))
 go_loopg [8] k (fun kq v8 w' => ∃ (x8_1 : Int), v8 = .int .i64 x8_1 ∧ Aside0 (impl_Place_117.l0 kq l0 (l0.length : Int) x8_1 a1_0 a1_1 a1_2 a1_3 = some r) ∧ Aside0 (kq ≤ k) ∧ Aside0 (w'.heap[gb138]? = some (.cells #[.int .i64 a1_0, .int .i64 a1_1, .int .i64 a1_2, .int .i64 a1_3] 77 (0, 0))) ∧ Aside0 (Below w.heap.size w w'))
 case atStart => exact ⟨(0), (by first | rfl | (simp; done) | (simp [*]; done)), H', ⟨Nat.le_refl _⟩, ⟨by (with_reducible repeat (first | refine blk_drewN ?_ _ | refine blk_drew ?_ | refine blk_alloc ?_ _)); exact BK138.out⟩, ⟨Hd.b_⟩⟩
 case round =>
  clear H'
  try clear c1
  try clear p2
  obtain ⟨x8_1, rfl, HA, HK1, BK138, HB⟩ := hrel
  cases gk with
  | zero => exact absurd HA.out (by simp [impl_Place_117.l0])
  | succ k1 =>
   have H := HA.out
   clear HA
   simp only [impl_Place_117.l0] at H
   by_cases c4 : x8_1 < (l0.length : Int)
   ·
    rw [if_pos c4] at H
    have c4b0 : decide (x8_1 < (l0.length : Int)) = true := decide_eq_true c4
    clear c4
    by_cases c5 : 0 ≤ x8_1
    ·
     rw [if_pos c5] at H
     have c5b0 : decide (0 ≤ x8_1) = true := decide_eq_true c5
     clear c5
     by_cases c6 : x8_1 < (l0.length : Int)
     ·
      rw [if_pos c6] at H
      have c6b0 : decide (x8_1 < (l0.length : Int)) = true := decide_eq_true c6
      clear c6
      by_cases c7 : (a1_0 == ((rd_T77 l0 x8_1).f0) && ((a1_1 == ((rd_T77 l0 x8_1).f1.f0) && (a1_2 == ((rd_T77 l0 x8_1).f1.f1))) && (a1_3 == ((rd_T77 l0 x8_1).f2)))) = true
      ·
       rw [if_pos c7] at H
       have c7b0 : (a1_0 == ((rd_T77 l0 x8_1).f0) && ((a1_1 == ((rd_T77 l0 x8_1).f1.f0) && (a1_2 == ((rd_T77 l0 x8_1).f1.f1))) && (a1_3 == ((rd_T77 l0 x8_1).f2)))) = true := c7
       (try (have c7b1 : decide (a1_0 = ((rd_T77 l0 x8_1).f0) && ((a1_1 == ((rd_T77 l0 x8_1).f1.f0) && (a1_2 == ((rd_T77 l0 x8_1).f1.f1))) && (a1_3 == ((rd_T77 l0 x8_1).f2)))) = true := by simpa using c7))
       (try (have c7b2 : (a1_0 == ((rd_T77 l0 x8_1).f0) && ((a1_1 == ((rd_T77 l0 x8_1).f1.f0) && (a1_2 == ((rd_T77 l0 x8_1).f1.f1))) && (a1_3 == ((rd_T77 l0 x8_1).f2)))) = true := by simpa using c7))
       clear c7
       obtain rfl := Option.some.inj H
       obtain ⟨hcz8_0, hcz8_1, hcz8_2, hcz8_3⟩ := Hd.c4_ BK138.out
       obtain ⟨hfz8_0, hfz8_1, hfz8_2, hfz8_3⟩ := Hd.f4_ BK138.out
       have p139 : 0 ≤ (x8_1 : Int) := of_decide_eq_true Hd.a_
       have q139 : x8_1 < (l0.length : Int) := of_decide_eq_true Hd.a_
       obtain ⟨ad139, e139, hx139_0, hx139_1, hx139_2, hx139_3⟩ := at_T77 HR0.out x8_1 p139 q139
       cases e139
       replace hx139_0 := (HB.out.cell (World.block_lt_of_cell? w _ hx139_0)).trans hx139_0
       replace hx139_1 := (HB.out.cell (World.block_lt_of_cell? w _ hx139_1)).trans hx139_1
       replace hx139_2 := (HB.out.cell (World.block_lt_of_cell? w _ hx139_2)).trans hx139_2
       replace hx139_3 := (HB.out.cell (World.block_lt_of_cell? w _ hx139_3)).trans hx139_3
       replace p139 := eq_true p139
       replace q139 := eq_true q139
       go_wp2
       repeat (go_quiet (fail); try go_wp2)
       go_ret
       exact ⟨Hd.e_, Hd.b_⟩
      ·
       rw [if_neg c7] at H
       have c7b0 : (a1_0 == ((rd_T77 l0 x8_1).f0) && ((a1_1 == ((rd_T77 l0 x8_1).f1.f0) && (a1_2 == ((rd_T77 l0 x8_1).f1.f1))) && (a1_3 == ((rd_T77 l0 x8_1).f2)))) = false := by simpa using c7
       (try (have c7b1 : decide (a1_0 = ((rd_T77 l0 x8_1).f0) && ((a1_1 == ((rd_T77 l0 x8_1).f1.f0) && (a1_2 == ((rd_T77 l0 x8_1).f1.f1))) && (a1_3 == ((rd_T77 l0 x8_1).f2)))) = false := by simpa using c7))
       (try (have c7b2 : (a1_0 == ((rd_T77 l0 x8_1).f0) && ((a1_1 == ((rd_T77 l0 x8_1).f1.f0) && (a1_2 == ((rd_T77 l0 x8_1).f1.f1))) && (a1_3 == ((rd_T77 l0 x8_1).f2)))) = false := by simpa using c7))
       (try (have c7b3 : ¬ (a1_0 = ((rd_T77 l0 x8_1).f0) && ((a1_1 == ((rd_T77 l0 x8_1).f1.f0) && (a1_2 == ((rd_T77 l0 x8_1).f1.f1))) && (a1_3 == ((rd_T77 l0 x8_1).f2)))) := by simpa using c7))
       clear c7
       have H' := Aside0.mk H
       clear H
       obtain ⟨hcz9_0, hcz9_1, hcz9_2, hcz9_3⟩ := Hd.c4_ BK138.out
       obtain ⟨hfz9_0, hfz9_1, hfz9_2, hfz9_3⟩ := Hd.f4_ BK138.out
       have p139 : 0 ≤ (x8_1 : Int) := of_decide_eq_true Hd.a_
       have q139 : x8_1 < (l0.length : Int) := of_decide_eq_true Hd.a_
       obtain ⟨ad139, e139, hx139_0, hx139_1, hx139_2, hx139_3⟩ := at_T77 HR0.out x8_1 p139 q139
       cases e139
       replace hx139_0 := (HB.out.cell (World.block_lt_of_cell? w _ hx139_0)).trans hx139_0
       replace hx139_1 := (HB.out.cell (World.block_lt_of_cell? w _ hx139_1)).trans hx139_1
       replace hx139_2 := (HB.out.cell (World.block_lt_of_cell? w _ hx139_2)).trans hx139_2
       replace hx139_3 := (HB.out.cell (World.block_lt_of_cell? w _ hx139_3)).trans hx139_3
       replace p139 := eq_true p139
       replace q139 := eq_true q139
       go_wp2
       repeat (go_quiet (fail); try go_wp2)
       go_roundg k1
       case measure => have := HK1.out; omega
       case rel => exact ⟨(wrap64 (x8_1 + 1)), (by first | rfl | (simp; done) | (simp [*]; done)), H', ⟨by have := HK1.out; omega⟩, ⟨by (with_reducible repeat (first | refine blk_drewN ?_ _ | refine blk_drew ?_ | refine blk_alloc ?_ _)); exact BK138.out⟩, ⟨Hd.b_⟩⟩
     ·
      rw [if_neg c6] at H
      exact absurd H (by simp)
    ·
     rw [if_neg c5] at H
     exact absurd H (by simp)
   ·
    rw [if_neg c4] at H
    have c4b0 : decide (x8_1 < (l0.length : Int)) = false := decide_eq_false c4
    clear c4
    obtain rfl := Option.some.inj H
    go_wp2
    repeat (go_quiet (fail); try go_wp2)
    go_ret
    exact ⟨Hd.e_, Hd.b_⟩
def impl_Place_91.f (k : Nat) (l0 : List (S77)) (a1_0 : Int) (a1_1 : Int) (a1_2 : Int) (a1_3 : Int) : Option (Bool) := (impl_Place_117.f k l0 a1_0 a1_1 a1_2 a1_3).bind fun t141 => (some (decide (t141 ≥ 0)))
set_option maxHeartbeats 8000000 in
set_option maxRecDepth 100000 in
theorem impl_Place_91.calls (k : Nat) (A0 : Option Addr) (c0 : Nat) (l0 : List (S77)) (a1_0 : Int) (a1_1 : Int) (a1_2 : Int) (a1_3 : Int) (r : Bool) (w : World) (hr0 : Kd.C k77 w A0 l0.length l0) (hc0 : l0.length ≤ c0) (h : impl_Place_91.f k l0 a1_0 a1_1 a1_2 a1_3 = some r) :
  Calls Try.prog 91 #[.slice A0 l0.length c0, .agg #[.int .i64 a1_0, .int .i64 a1_1, .int .i64 a1_2, .int .i64 a1_3]] w fun e w' => e = .returned (.bool r) ∧ Below w.heap.size w w' := by
 have hu77 := Try.underlying77
 have HR0 := Aside0.mk hr0
 have HC0 := Aside0.mk hc0
 clear hr0 hc0
 have HB := Aside0.mk (Below.refl w.heap.size w)
 have H : ((impl_Place_117.f k l0 a1_0 a1_1 a1_2 a1_3).bind fun t141 => (some (decide (t141 ≥ 0)))) = some r := h
 clear h
 replace H := Option.bind_eq_some_iff.mp H
 obtain ⟨t141, A30, H⟩ := H
 replace H : (some (decide (t141 ≥ 0))) = some r := H
 have A3 := Aside0.mk A30
 clear A30
 obtain rfl := Option.some.inj H
 go_enter Try.func91, Try.ntmps91
 go_wp2_with (first | ((with_reducible refine gate_dst (N := 3) rfl ?_); refine Hd.box_ 3 (#[.int .i64 a1_0, .int .i64 a1_1, .int .i64 a1_2, .int .i64 a1_3]) 77 ?_; intro gb140 hg w4 hbox hb; have BK140 := Aside0.mk (hbox); have GW140 := Aside0.mk ((Hd.g_ hg Hd.b_ : w.heap.size ≤ gb140)); have GE140 := Aside0.mk ((Hd.g_ hg Hd.b_ : w.heap.size ≤ gb140)); replace HB := Aside0.mk (below_step Hd.b_ hb); clear hb hbox hg; obtain ⟨hcz5_0, hcz5_1, hcz5_2, hcz5_3⟩ := Hd.c4_ BK140.out; obtain ⟨hfz5_0, hfz5_1, hfz5_2, hfz5_3⟩ := Hd.f4_ BK140.out) | ((with_reducible refine gate_callee (f := 117) rfl ?_); refine goesL_ (some 7) rfl rfl Try.func117 (by kernel_rfl) rfl #[.slice A0 l0.length c0, .agg #[.int .i64 a1_0, .int .i64 a1_1, .int .i64 a1_2, .int .i64 a1_3]] rfl Hd.m_ ?_; (with_reducible refine (impl_Place_117.calls k _ _ l0 a1_0 a1_1 a1_2 a1_3 t141 _ ?side1 ?side2 A3.out).mono ?_); (case side1 => repeat (first | exact (Kd.C_below HR0.out HB.out) | (with_reducible refine Kd.C_alloc ?_ _) | (with_reducible refine Kd.C_drewN ?_ _) | (with_reducible refine Kd.C_drew ?_))); (case side2 => exact HC0.out); rintro e w6 ⟨rfl, hb⟩; refine ⟨_, rfl, ?_⟩; replace BK140 := Aside0.mk (Hd.kb_ BK140 hb); replace HB := Aside0.mk (below_step Hd.b_ hb); (try clear hb); (try clear hb2); (try clear hk); (try clear hi)))
 go_ret
 exact ⟨Hd.e_, Hd.b_⟩
end Go.Proofs.Ytbackoeakepngab.MFnThinned
