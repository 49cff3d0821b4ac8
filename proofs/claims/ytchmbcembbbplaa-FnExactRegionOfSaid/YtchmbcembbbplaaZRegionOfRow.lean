/- The law FnExactRegionOf returns true for every input; no condition. -/
import Derived.Test.YtchmbcembbbplaaZRegionOfOpen
import Derived.Test.YtchmbcembbbplaaZRegionOfOpn
import Derived.Test.YtchmbcembbbplaaZRegionOfMx5
import Derived.Test.YtchmbcembbbplaaZRegionOfPure
namespace Go.Proofs.Ytchmbcembbbplaa.RowFnExactRegionOf
open Go Go.ChangeShapes Go.WideShapes Go.ChangeAt Go.RowKit Go.Proofs.YtchmbcembbbplaaW.PrintWords Go.Proofs.Ytchmbcembbbplaa.Open Go.Proofs.Ytchmbcembbbplaa.MFnExactRegionOf
set_option linter.unusedVariables false
set_option maxRecDepth 100000 in
theorem lifted (os : Os) (started : os.Started) (H : Type) (enc : TypeId × Value → H) :
    ReturnsInHanded {} Try.checked os 11 .any (Rows.fnExactRegionOfSpec.pre6 enc Try.prog Try.f11 Rows.fnExactRegionOfRow.domain false) (Rows.fnExactRegionOfSpec.post enc Try.prog Try.f11 false true false false) := by
  refine returnsInHanded_of_change_sized (C := Try.checked) own started (by kernel_rfl) Try.func11
    (ChangeSpec.witness6 (enc := enc) (C := Try.checked) false ⟨#[], #[.agg #[.int .i64 0, .int .i64 0, .string ByteArray.empty], .int .i64 0], []⟩ 8 (by kernel_rfl) (by kernel_rfl) (by kernel_rfl) (by kernel_rfl)) ?_
  intro W base args ds gs before hval0 hW hcnd hsz0 _
  have hval : ∀ (j : Nat) t v, Try.f11.params[j]? = some t → args[j]? = some v → Value.okWide Try.prog W .any base t v := hval0
  have hW' := hW
  obtain ⟨p, q, hA0, hV, rfl, hfz, hnd⟩ := hW
  have hA : DataW.TrodAll enc Try.prog W 0 (fun _ => true) true Try.f11.params.toList args.toList ds p := hA0
  rw [Try.params11] at hA hval
  have hstay : ∀ W', Below W.heap.size W W' → DataW.TrodAll enc Try.prog W' 0 (fun b => decide (b < W.heap.size)) true Try.f11.params.toList args.toList ds p := fun W' bel => args_stay kids full bel (fun b hb => decide_eq_true hb) (by rw [Try.params11]; exact of_decide_eq_true (by kernel_rfl)) hA0
  obtain ⟨v0, vs0, d0, ds0, p0, q0, hargs, rfl, rfl, h0, r0⟩ := trodAll_cons hA
  obtain ⟨v1, vs1, d1, ds1, p1, q1, rfl, rfl, rfl, h1, r1⟩ := trodAll_cons r0
  obtain ⟨rfl, rfl, rfl⟩ := trodAll_nil r1
  obtain rfl : args = #[v0, v1] := by cases args; simp_all
  obtain ⟨rfl, rfl⟩ := trodVars_none hV
  obtain ⟨x0, cs0, rfl, K0, g0⟩ := arg_struct (k := (Kd.pair (Kd.int .i64) (Kd.pair (Kd.int .i64) Kd.string))) (G := fun x => (I64 x.1) ∧ (I64 x.2.1) ∧ (ByteArray.size x.2.2 ≤ maxLen)) Try.underlying93 (opens_weaken (opens_struct Try.underlying93 (by kernel_rfl) (fields_cons rfl (by kernel_rfl) (opens_int Try.underlying3) (fields_cons rfl (by kernel_rfl) (opens_int Try.underlying3) (fields_one rfl (by kernel_rfl) (opens_string Try.underlying9))))) (fun x h => h)) (hval 0 93 v0 rfl rfl) h0
  obtain ⟨_, _, rfl, rfl, ⟨_, _, rfl, rfl, rfl⟩⟩ := K0
  obtain ⟨a1, rfl, g1⟩ := arg_int Try.underlying3 (hval 1 3 v1 rfl rfl) h1
  clear hA0 hval0 hsz0
  obtain ⟨k, hp⟩ := pure_FnExactRegionOf (x0.1) (x0.2.1) (x0.2.2) a1 g0 g1
  refine (laws_FnExactRegionOf.calls k _ _ _ _ true W hp).mono fun e W' ⟨he, bel0⟩ => ?_
  have bel : Below W.heap.size W W' := bel0
  subst he
  exact ⟨_, rfl, _, _, _, [], _, [], hW', trodAll_mk1 (shut_bool Try.underlying4 _), hstay W' bel, rfl, bel.frame _, fun h => by cases h⟩
theorem over : Rows.fnExactRegionOfRow.holds Try.pinned (OpenSpec.ofChange Rows.fnExactRegionOfSpec) :=
  OpenClaim.holds_of_wide 11 Try.f11 rfl rfl rfl rfl rfl rfl rfl ⟨rfl, rfl, rfl, rfl, rfl⟩ rfl rfl rfl rfl rfl (by kernel_rfl) Try.func11 (by kernel_rfl)
    (of_decide_eq_true (by kernel_rfl)) (by unfold Func.isWrapper; first | (rw [if_pos (by decide +kernel)]; kernel_rfl) | (rw [if_neg (by decide +kernel)]; exact ⟨rfl, rfl⟩))
    (fun os started H enc _ => lifted os started H enc)
end Go.Proofs.Ytchmbcembbbplaa.RowFnExactRegionOf
namespace Go.Proofs.Ytchmbcembbbplaa
theorem fnExactRegionOf_holds : Rows.FnExactRegionOfSaid := RowFnExactRegionOf.over
#print axioms fnExactRegionOf_holds
end Go.Proofs.Ytchmbcembbbplaa
