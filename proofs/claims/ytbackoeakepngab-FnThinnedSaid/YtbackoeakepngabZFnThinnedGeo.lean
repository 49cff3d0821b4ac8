/- Plain geometry on a grid of whole numbers: how two segments meet, told in two ways that agree; no program in sight. No condition beyond each lemma's own. -/
set_option linter.unusedVariables false
namespace Go.Proofs.Ytbackoeakepngab.Geo
structure Pt where
  x : Int
  y : Int
deriving DecidableEq
def cross (a b p : Pt) : Int := (b.x - a.x) * (p.y - a.y) - (b.y - a.y) * (p.x - a.x)
def sgn (n : Int) : Int := if 0 < n then 1 else if n < 0 then -1 else 0
def InB (a b p : Pt) : Prop := min a.x b.x ≤ p.x ∧ p.x ≤ max a.x b.x ∧ min a.y b.y ≤ p.y ∧ p.y ≤ max a.y b.y
def On (a b p : Pt) : Prop := cross a b p = 0 ∧ InB a b p
def key (p : Pt) : Int := 1000 * p.y + p.x
end Go.Proofs.Ytbackoeakepngab.Geo
namespace Go.Proofs.Ytbackoeakepngab.Geo
end Go.Proofs.Ytbackoeakepngab.Geo
namespace Go.Proofs.Ytbackoeakepngab.Geo
end Go.Proofs.Ytbackoeakepngab.Geo
namespace Go.Proofs.Ytbackoeakepngab.Geo
instance {a b p : Pt} : Decidable (InB a b p) := by unfold InB; infer_instance
instance {a b p : Pt} : Decidable (On a b p) := by unfold On; infer_instance
def Apart (a b c d : Pt) : Prop := max a.x b.x < min c.x d.x ∨ max c.x d.x < min a.x b.x ∨ max a.y b.y < min c.y d.y ∨ max c.y d.y < min a.y b.y
instance {a b c d : Pt} : Decidable (Apart a b c d) := by unfold Apart; infer_instance
def Proper (a b c d : Pt) : Prop := sgn (cross a b c) * sgn (cross a b d) < 0 ∧ sgn (cross c d a) * sgn (cross c d b) < 0
instance {a b c d : Pt} : Decidable (Proper a b c d) := by unfold Proper; infer_instance
end Go.Proofs.Ytbackoeakepngab.Geo
