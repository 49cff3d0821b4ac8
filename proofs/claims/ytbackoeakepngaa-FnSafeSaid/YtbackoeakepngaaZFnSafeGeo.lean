/- Plain geometry on a grid of whole numbers: how two segments meet, told in two ways that agree; no program in sight. No condition beyond each lemma's own. -/
set_option linter.unusedVariables false
namespace Go.Proofs.Ytbackoeakepngaa.Geo
structure Pt where
  x : Int
  y : Int
deriving DecidableEq
def cross (a b p : Pt) : Int := (b.x - a.x) * (p.y - a.y) - (b.y - a.y) * (p.x - a.x)
def sgn (n : Int) : Int := if 0 < n then 1 else if n < 0 then -1 else 0
def InB (a b p : Pt) : Prop := min a.x b.x ≤ p.x ∧ p.x ≤ max a.x b.x ∧ min a.y b.y ≤ p.y ∧ p.y ≤ max a.y b.y
def On (a b p : Pt) : Prop := cross a b p = 0 ∧ InB a b p
def key (p : Pt) : Int := 1000 * p.y + p.x
end Go.Proofs.Ytbackoeakepngaa.Geo
namespace Go.Proofs.Ytbackoeakepngaa.Geo
theorem sgn_eq_zero {n : Int} : sgn n = 0 ↔ n = 0 := by unfold sgn; split <;> (try split) <;> omega
end Go.Proofs.Ytbackoeakepngaa.Geo
namespace Go.Proofs.Ytbackoeakepngaa.Geo
end Go.Proofs.Ytbackoeakepngaa.Geo
namespace Go.Proofs.Ytbackoeakepngaa.Geo
instance {a b p : Pt} : Decidable (InB a b p) := by unfold InB; infer_instance
instance {a b p : Pt} : Decidable (On a b p) := by unfold On; infer_instance
def Apart (a b c d : Pt) : Prop := max a.x b.x < min c.x d.x ∨ max c.x d.x < min a.x b.x ∨ max a.y b.y < min c.y d.y ∨ max c.y d.y < min a.y b.y
instance {a b c d : Pt} : Decidable (Apart a b c d) := by unfold Apart; infer_instance
def Proper (a b c d : Pt) : Prop := sgn (cross a b c) * sgn (cross a b d) < 0 ∧ sgn (cross c d a) * sgn (cross c d b) < 0
instance {a b c d : Pt} : Decidable (Proper a b c d) := by unfold Proper; infer_instance
def lowK (a b : Pt) : Pt := if key b < key a then b else a
def highK (a b : Pt) : Pt := if key b < key a then a else b
def lo2 (a b c d : Pt) : Pt := if key (lowK a b) < key (lowK c d) then lowK c d else lowK a b
def hi2 (a b c d : Pt) : Pt := if key (highK c d) < key (highK a b) then highK c d else highK a b
def howI (a b c d : Pt) : Int :=
  if cross a b c = 0 ∧ cross a b d = 0 then (if key (hi2 a b c d) < key (lo2 a b c d) then 0 else if lo2 a b c d = hi2 a b c d then 1 else 3)
  else if Proper a b c d then 2 else if On a b c ∨ On a b d ∨ On c d a ∨ On c d b then 1 else 0
end Go.Proofs.Ytbackoeakepngaa.Geo
