/- A row of plain structs, cell by cell; and a part of it laid anew. No condition beyond each lemma's own. -/
import Derived.Test.YtbackoeakepngabZFnThinnedWWords
import Derived.Test.YtbackoeakepngabZFnThinnedWApart
import Derived.Shelf.GgSortFunc.RowK
namespace Go.Proofs.Ytbackoeakepngab.Rw
open Go Go.RowKit Go.Proofs.YtbackoeakepngabW.PrintWords
variable {α : Type} {d : Kd α} {e : Nat} {w w1 : World} {base g n c : Nat} {ok : Nat → Prop} {l : List α} {enc : α → List Value}
theorem cells (hM : ∀ {w base ok x cs}, d.M w base ok x cs → cs = enc x) (h : d.R e w base ok (.slice (some ⟨g, 0, none⟩) n c) l) :
    ∃ cur, w.heap[g]? = some (.cells cur e (0, 0)) ∧ n = l.length ∧ base ≤ g ∧ n ≤ c ∧ c ≤ maxLen ∧ cur.size = c * d.sz ∧ ∀ j x, l[j]? = some x → ∀ q, q < d.sz → cur[j * d.sz + q]? = (enc x)[q]? := by
  obtain ⟨_, inner, ⟨h1, h2⟩, hr⟩ := h
  rcases h2 with ⟨h2, _⟩ | ⟨g', cap, cur, he, hg, hh, hn, hcap, hs, ht⟩
  · cases h2
  injection he with e1 e2 e3
  injection e1 with e1
  injection e1 with e1 _ _
  subst e1; subst e2; subst e3
  refine ⟨cur, hh, rfl, hg, hn, hcap, hs, fun j x hj q hq => ?_⟩
  have hx := hM (hr.2 j x hj)
  have hj' : j < l.length := (List.getElem?_eq_some_iff.1 hj).1
  have hb : j * d.sz + q < l.length * d.sz := by
    have := Nat.mul_le_mul_right d.sz (show j + 1 ≤ l.length from hj')
    rw [Nat.add_mul, Nat.one_mul] at this; omega
  rw [← hx, List.getElem?_take_of_lt hq, List.getElem?_drop, ← ht, List.getElem?_take_of_lt hb, Array.getElem?_toList]
theorem ofCells (hk : ∀ x, (enc x).length = d.sz) (hM : ∀ {w base ok x}, d.M w base ok x (enc x)) (hok : ok g) {cur : Array Value} (hh : w.heap[g]? = some (.cells cur e (0, 0))) (hg : base ≤ g) (hn : l.length ≤ c) (hc : c ≤ maxLen) (hs : cur.size = c * d.sz)
    (hcell : ∀ j x, l[j]? = some x → ∀ q, q < d.sz → cur[j * d.sz + q]? = (enc x)[q]?) : d.R e w base ok (.slice (some ⟨g, 0, none⟩) l.length c) l := by
  have hlen : l.length * d.sz ≤ cur.size := by rw [hs]; exact Nat.mul_le_mul_right _ hn
  have hb : ∀ j, j < l.length → j * d.sz + d.sz ≤ l.length * d.sz := fun j hj => by
    have := Nat.mul_le_mul_right d.sz (show j + 1 ≤ l.length from hj)
    rwa [Nat.add_mul, Nat.one_mul] at this
  refine ⟨fun k hk => by simp [Value.ownBlock] at hk; subst hk; exact hok, cur.toList.take (l.length * d.sz), ⟨by simp; omega, .inr ⟨g, c, cur, rfl, hg, hh, hn, hc, hs, rfl⟩⟩, by simp; omega, fun j x hj => ?_⟩
  have hj' : j < l.length := (List.getElem?_eq_some_iff.1 hj).1
  have eq : ((cur.toList.take (l.length * d.sz)).drop (j * d.sz)).take d.sz = enc x := by
    apply List.ext_getElem?
    intro q
    by_cases hq : q < d.sz
    · rw [List.getElem?_take_of_lt hq, List.getElem?_drop, List.getElem?_take_of_lt (by have := hb j hj'; omega), Array.getElem?_toList]
      exact hcell j x hj q hq
    · rw [List.getElem?_eq_none (by simp; omega), List.getElem?_eq_none (by rw [hk]; omega)]
  rw [eq]; exact hM
variable [Inhabited α]
theorem div_at {k j q : Nat} (hq : q < k) : (j * k + q) / k = j ∧ (j * k + q) % k = q := by
  constructor
  · rw [Nat.add_comm, Nat.add_mul_div_right _ _ (by omega), Nat.div_eq_of_lt hq, Nat.zero_add]
  · rw [Nat.add_comm, Nat.add_mul_mod_self_right, Nat.mod_eq_of_lt hq]
theorem holds (hk : ∀ x, (enc x).length = d.sz) (hM : ∀ {w base ok x cs}, d.M w base ok x cs → cs = enc x) (h : d.R e w base ok (.slice (some ⟨g, 0, none⟩) n c) l) (s : Nat) (hs : s ≤ l.length) : Sort.HoldsK enc d.sz w g (s * d.sz) (l.drop s).toArray := by
  obtain ⟨cur, hh, _, _, _, _, _, hc⟩ := cells hM h
  intro t ht
  rw [Sort.size_flatK] at ht
  have ht' : t < (l.length - s) * d.sz := by simpa using ht
  have hz : 0 < d.sz := by rcases Nat.eq_zero_or_pos d.sz with h | h
                           · rw [h] at ht'; simp at ht'
                           · exact h
  have hj : t / d.sz < l.length - s := (Nat.div_lt_iff_lt_mul hz).2 ht'
  have hq : t % d.sz < d.sz := Nat.mod_lt _ hz
  have et : t = t / d.sz * d.sz + t % d.sz := by rw [Nat.mul_comm]; exact (Nat.div_add_mod t d.sz).symm
  have hx : l[s + t / d.sz]? = some l[s + t / d.sz] := List.getElem?_eq_getElem (by omega)
  have h1 := hc (s + t / d.sz) _ hx (t % d.sz) hq
  have e1 : (s + t / d.sz) * d.sz + t % d.sz = s * d.sz + t := by rw [Nat.add_mul, Nat.add_assoc, ← et]
  rw [e1] at h1
  refine ⟨?_, blk_frozen hh _⟩
  rw [blk_cell hh, h1, Sort.get_flatK _ _ _ _ ht]
  have e2 : (l.drop s).toArray[t / d.sz]! = l[s + t / d.sz] := by
    rw [getElem!_pos _ _ (by simpa using hj)]; simp
  rw [e2, List.getElem?_eq_getElem (by rw [hk]; exact hq), getElem!_pos _ _ (by rw [hk]; exact hq)]
  rfl
theorem heap_put (m off : Nat) (k : Nat) (ar : Array α) {cur : Array Value} {t : Nat} {fr : Nat × Nat} (hb : w.heap[g]? = some (.cells cur t fr)) : (Sort.putRowK enc k (Sort.ahead w m) g off ar).heap[g]? = some (.cells (Sort.putCells id off (Sort.flatK enc k ar) cur) t fr) := by
  simp [Sort.putRowK, Sort.putRow, Sort.mapBlock, Sort.ahead, Array.getElem?_modify, hb, Sort.onCells]
theorem heap_put_ne (m off : Nat) (k : Nat) (ar : Array α) (i : Nat) (hi : g ≠ i) : (Sort.putRowK enc k (Sort.ahead w m) g off ar).heap[i]? = w.heap[i]? := by
  simp [Sort.putRowK, Sort.putRow, Sort.mapBlock, Sort.ahead, Array.getElem?_modify, hi]
theorem below_put {B : Nat} {w0 : World} (h : Below B w0 w) (hg : B ≤ g) (m off : Nat) (k : Nat) (ar : Array α) : Below B w0 (Sort.putRowK enc k (Sort.ahead w m) g off ar) :=
  ⟨h.os, h.tape, h.output, by have := h.size; simpa [Sort.putRowK, Sort.putRow, Sort.mapBlock, Sort.ahead] using this, fun i hi => (heap_put_ne m off k ar i (by omega)).trans (h.block i hi)⟩
theorem put (hk : ∀ x, (enc x).length = d.sz) (hM1 : ∀ {w base ok x cs}, d.M w base ok x cs → cs = enc x) (hM2 : ∀ {w base ok x}, d.M w base ok x (enc x)) (h : d.R e w base ok (.slice (some ⟨g, 0, none⟩) n c) l) (s : Nat) (l2 : List α) (hl : s + l2.length = l.length) (m : Nat) :
    d.R e (Sort.putRowK enc d.sz (Sort.ahead w m) g (s * d.sz) l2.toArray) base ok (.slice (some ⟨g, 0, none⟩) n c) (l.take s ++ l2) := by
  have hok : ok g := h.1 g rfl
  obtain ⟨cur, hh, hn, hg, hnc, hcm, hs, hc⟩ := cells hM1 h
  have e0 : n = (l.take s ++ l2).length := by simp; omega
  rw [e0]
  refine ofCells hk hM2 hok (heap_put m _ _ _ hh) hg (by omega) hcm (by simp [Sort.putCells, hs]) (fun j x hj q hq => ?_)
  have hj' : j < (l.take s ++ l2).length := (List.getElem?_eq_some_iff.1 hj).1
  have hb : j * d.sz + q < cur.size := by
    have h1 := Nat.mul_le_mul_right d.sz (show j + 1 ≤ c by omega)
    rw [Nat.add_mul, Nat.one_mul] at h1; omega
  have ep : (Sort.putCells id (s * d.sz) (Sort.flatK enc d.sz l2.toArray) cur)[j * d.sz + q]? = some (if s * d.sz ≤ j * d.sz + q ∧ j * d.sz + q < s * d.sz + (Sort.flatK enc d.sz l2.toArray).size then (Sort.flatK enc d.sz l2.toArray)[j * d.sz + q - s * d.sz]! else cur[j * d.sz + q]) := by
    rw [Array.getElem?_eq_getElem (by simpa [Sort.putCells] using hb)]
    simp [Sort.putCells]
  rw [ep]
  by_cases hjs : j < s
  · have h1 := Nat.mul_le_mul_right d.sz (show j + 1 ≤ s from hjs)
    rw [Nat.add_mul, Nat.one_mul] at h1
    rw [if_neg (by omega)]
    rw [List.getElem?_append_left (by simp; omega), List.getElem?_take_of_lt hjs] at hj
    have := hc j x hj q hq
    rw [Array.getElem?_eq_getElem hb] at this
    exact this
  · obtain ⟨i, rfl⟩ : ∃ i, j = s + i := ⟨j - s, by omega⟩
    rw [List.getElem?_append_right (by simp; omega)] at hj
    have hls : (l.take s).length = s := by simp; omega
    rw [hls, Nat.add_sub_cancel_left] at hj
    have hi : i < l2.length := (List.getElem?_eq_some_iff.1 hj).1
    have h1 := Nat.mul_le_mul_right d.sz (show i + 1 ≤ l2.length from hi)
    rw [Nat.add_mul, Nat.one_mul] at h1
    have e1 : (s + i) * d.sz + q - s * d.sz = i * d.sz + q := by rw [Nat.add_mul]; omega
    have e2 : (Sort.flatK enc d.sz l2.toArray).size = l2.length * d.sz := by simp
    rw [if_pos (by rw [e2, Nat.add_mul]; omega), e1, Sort.get_flatK _ _ _ _ (by simp; omega), (div_at hq).1, (div_at hq).2]
    have e3 : l2.toArray[i]! = x := by
      rw [getElem!_pos _ _ (by simpa using hi)]
      have := List.getElem?_eq_getElem hi
      rw [this] at hj
      simpa using hj
    rw [e3, List.getElem?_eq_getElem (by rw [hk]; exact hq), getElem!_pos _ _ (by rw [hk]; exact hq)]
end Go.Proofs.Ytbackoeakepngab.Rw
