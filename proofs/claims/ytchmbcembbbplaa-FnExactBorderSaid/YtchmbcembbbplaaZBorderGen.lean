/- Plain lemmas on loops that the printed functions share: filling a list, comparing two lists, counting on; no program in sight. No condition beyond each lemma's own. -/
import Derived.Test.YtchmbcembbbplaaZBorderWWords
import Derived.Test.YtchmbcembbbplaaZBorderWMore
namespace Go.Proofs.Ytchmbcembbbplaa.Gen
open Go Go.RowKit Go.Proofs.YtchmbcembbbplaaW.PrintWords Go.Proofs.YtchmbcembbbplaaW.PrintMore
theorem w64 {n : Int} (h0 : -9223372036854775808 ≤ n) (h1 : n ≤ 9223372036854775807) : wrap64 n = n := by unfold wrap64; omega
theorem w64s {i : Nat} (h : i < 9223372036854775807) : wrap64 ((i : Int) + 1) = ((i + 1 : Nat) : Int) := by unfold wrap64; omega
theorem mul_bd {x y m n : Int} (hx : -m ≤ x ∧ x ≤ m) (hy : -n ≤ y ∧ y ≤ n) : -(m * n) ≤ x * y ∧ x * y ≤ m * n := by
  have a1 : 0 ≤ (m - x) * (n + y) := Int.mul_nonneg (by omega) (by omega)
  have a2 : 0 ≤ (m + x) * (n - y) := Int.mul_nonneg (by omega) (by omega)
  have b1 : 0 ≤ (m - x) * (n - y) := Int.mul_nonneg (by omega) (by omega)
  have b2 : 0 ≤ (m + x) * (n + y) := Int.mul_nonneg (by omega) (by omega)
  have c1 : (m - x) * (n + y) + (m + x) * (n - y) = 2 * (m * n) - 2 * (x * y) := by grind
  have c2 : (m - x) * (n - y) + (m + x) * (n + y) = 2 * (m * n) + 2 * (x * y) := by grind
  omega
end Go.Proofs.Ytchmbcembbbplaa.Gen
