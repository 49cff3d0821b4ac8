/- Plain lemmas on loops that the printed functions share: filling a list, comparing two lists, counting on; no program in sight. No condition beyond each lemma's own. -/
import Derived.Test.YtbackoeakepngaaZFnAreasWWords
import Derived.Test.YtbackoeakepngaaZFnAreasWMore
namespace Go.Proofs.Ytbackoeakepngaa.Gen
open Go Go.RowKit Go.Proofs.YtbackoeakepngaaW.PrintWords Go.Proofs.YtbackoeakepngaaW.PrintMore
theorem w64 {n : Int} (h0 : -9223372036854775808 ≤ n) (h1 : n ≤ 9223372036854775807) : wrap64 n = n := by unfold wrap64; omega
theorem w64s {i : Nat} (h : i < 9223372036854775807) : wrap64 ((i : Int) + 1) = ((i + 1 : Nat) : Int) := by unfold wrap64; omega
theorem mx_eq (a b : Int) : mx a b = max a b := by unfold mx; split <;> omega
theorem mn_eq (a b : Int) : mn a b = min a b := by unfold mn; split <;> omega
theorem take_set {α : Type} (out : List α) (i : Nat) (v : α) : List.take i (out.set i v) = List.take i out := by
  apply List.ext_getElem?
  intro j
  rw [List.getElem?_take, List.getElem?_take]
  by_cases h : j < i
  · rw [if_pos h, if_pos h, List.getElem?_set_ne (by omega)]
  · rw [if_neg h, if_neg h]
theorem mul_bd {x y m n : Int} (hx : -m ≤ x ∧ x ≤ m) (hy : -n ≤ y ∧ y ≤ n) : -(m * n) ≤ x * y ∧ x * y ≤ m * n := by
  have a1 : 0 ≤ (m - x) * (n + y) := Int.mul_nonneg (by omega) (by omega)
  have a2 : 0 ≤ (m + x) * (n - y) := Int.mul_nonneg (by omega) (by omega)
  have b1 : 0 ≤ (m - x) * (n - y) := Int.mul_nonneg (by omega) (by omega)
  have b2 : 0 ≤ (m + x) * (n + y) := Int.mul_nonneg (by omega) (by omega)
  have c1 : (m - x) * (n + y) + (m + x) * (n - y) = 2 * (m * n) - 2 * (x * y) := by grind
  have c2 : (m - x) * (n - y) + (m + x) * (n + y) = 2 * (m * n) + 2 * (x * y) := by grind
  omega
end Go.Proofs.Ytbackoeakepngaa.Gen
