/- The law FnExactPartsOf returns true for every input; no condition. -/
import Derived.Test.YtchmbcembbbplacZPartsOfOpen
import Derived.Test.YtchmbcembbbplacZPartsOfOpn
import Derived.Test.YtchmbcembbbplacZPartsOfMx14
import Derived.Test.YtchmbcembbbplacZPartsOfPure
namespace Go.Proofs.Ytchmbcembbbplac.RowFnExactPartsOf
open Go Go.ChangeShapes Go.WideShapes Go.ChangeAt Go.RowKit Go.Proofs.YtchmbcembbbplacW.PrintWords Go.Proofs.Ytchmbcembbbplac.Open Go.Proofs.Ytchmbcembbbplac.MFnExactPartsOf
set_option linter.unusedVariables false
set_option maxRecDepth 100000 in
theorem lifted (os : Os) (started : os.Started) (H : Type) (enc : TypeId × Value → H) :
    ReturnsInHanded {} Try.checked os 14 .any (Rows.fnExactPartsOfSpec.pre6 enc Try.prog Try.f14 Rows.fnExactPartsOfRow.domain false) (Rows.fnExactPartsOfSpec.post enc Try.prog Try.f14 false true false false) := by
  refine returnsInHanded_of_change_sized (C := Try.checked) own started (by kernel_rfl) Try.func14
    (ChangeSpec.witness6 (enc := enc) (C := Try.checked) false ⟨#[], #[.agg #[.int .i64 0, .int .i64 0, .int .i64 0, .string ByteArray.empty, .slice none 0 0]], []⟩ 8 (by kernel_rfl) (by kernel_rfl) (by kernel_rfl) (by kernel_rfl)) ?_
  intro W base args ds gs before hval0 hW hcnd hsz0 _
  have hval : ∀ (j : Nat) t v, Try.f14.params[j]? = some t → args[j]? = some v → Value.okWide Try.prog W .any base t v := hval0
  have hW' := hW
  obtain ⟨p, q, hA0, hV, rfl, hfz, hnd⟩ := hW
  have hA : DataW.TrodAll enc Try.prog W 0 (fun _ => true) true Try.f14.params.toList args.toList ds p := hA0
  rw [Try.params14] at hA hval
  have hstay : ∀ W', Below W.heap.size W W' → DataW.TrodAll enc Try.prog W' 0 (fun b => decide (b < W.heap.size)) true Try.f14.params.toList args.toList ds p := fun W' bel => args_stay kids full bel (fun b hb => decide_eq_true hb) (by rw [Try.params14]; exact of_decide_eq_true (by kernel_rfl)) hA0
  obtain ⟨v0, vs0, d0, ds0, p0, q0, hargs, rfl, rfl, h0, r0⟩ := trodAll_cons hA
  obtain ⟨rfl, rfl, rfl⟩ := trodAll_nil r0
  obtain rfl : args = #[v0] := by cases args; simp_all
  obtain ⟨rfl, rfl⟩ := trodVars_none hV
  obtain ⟨x0, cs0, rfl, K0, g0⟩ := arg_struct (k := (Kd.pair (Kd.int .i64) (Kd.pair (Kd.int .i64) (Kd.pair (Kd.int .i64) (Kd.pair Kd.string (Kd.slice 98 k98)))))) (G := fun x => (I64 x.1) ∧ (I64 x.2.1) ∧ (I64 x.2.2.1) ∧ (ByteArray.size x.2.2.2.1 ≤ maxLen) ∧ ((List.length x.2.2.2.2 ≤ maxLen ∧ ∀ y ∈ x.2.2.2.2, G98 y))) Try.underlying73 (opens_weaken (opens_struct Try.underlying73 (by kernel_rfl) (fields_cons rfl (by kernel_rfl) (opens_int Try.underlying3) (fields_cons rfl (by kernel_rfl) (opens_int Try.underlying3) (fields_cons rfl (by kernel_rfl) (opens_int Try.underlying3) (fields_cons rfl (by kernel_rfl) (opens_string Try.underlying9) (fields_one rfl (by kernel_rfl) (opens_slice Try.underlying22 (by kernel_rfl) opens98))))))) (fun x h => h)) (hval 0 73 v0 rfl rfl) h0
  obtain ⟨_, _, rfl, rfl, ⟨_, _, rfl, rfl, ⟨_, _, rfl, rfl, ⟨_, _, rfl, rfl, ⟨A0_4, c0_4, rfl, hc0_4, hr0_4⟩⟩⟩⟩⟩ := K0
  clear hA0 hval0 hsz0
  obtain ⟨k, hp⟩ := pure_FnExactPartsOf (x0.1) (x0.2.1) (x0.2.2.1) (x0.2.2.2.1) (x0.2.2.2.2) g0
  refine (laws_FnExactPartsOf.calls k _ _ _ _ _ _ _ true W hr0_4 hc0_4 hp).mono fun e W' ⟨he, bel0⟩ => ?_
  have bel : Below W.heap.size W W' := bel0
  subst he
  exact ⟨_, rfl, _, _, _, [], _, [], hW', trodAll_mk1 (shut_bool Try.underlying4 _), hstay W' bel, rfl, bel.frame _, fun h => by cases h⟩
theorem over : Rows.fnExactPartsOfRow.holds Try.pinned (OpenSpec.ofChange Rows.fnExactPartsOfSpec) :=
  OpenClaim.holds_of_wide 14 Try.f14 rfl rfl rfl rfl rfl rfl rfl ⟨rfl, rfl, rfl, rfl, rfl⟩ rfl rfl rfl rfl rfl (by kernel_rfl) Try.func14 (by kernel_rfl)
    (of_decide_eq_true (by kernel_rfl)) (by unfold Func.isWrapper; first | (rw [if_pos (by decide +kernel)]; kernel_rfl) | (rw [if_neg (by decide +kernel)]; exact ⟨rfl, rfl⟩))
    (fun os started H enc _ => lifted os started H enc)
end Go.Proofs.Ytchmbcembbbplac.RowFnExactPartsOf
namespace Go.Proofs.Ytchmbcembbbplac
theorem fnExactPartsOf_holds : Rows.FnExactPartsOfSaid := RowFnExactPartsOf.over
#print axioms fnExactPartsOf_holds
end Go.Proofs.Ytchmbcembbbplac
