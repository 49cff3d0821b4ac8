/- The law FnExactPutFeature returns true for every input; no condition. -/
import Derived.Test.YtbbdhlggnglfgaaZPutFeatureOpen
import Derived.Test.YtbbdhlggnglfgaaZPutFeatureOpn
import Derived.Test.YtbbdhlggnglfgaaZPutFeatureMx20
import Derived.Test.YtbbdhlggnglfgaaZPutFeaturePure
namespace Go.Proofs.Ytbbdhlggnglfgaa.RowFnExactPutFeature
open Go Go.ChangeShapes Go.WideShapes Go.ChangeAt Go.RowKit Go.Proofs.YtbbdhlggnglfgaaW.PrintWords Go.Proofs.Ytbbdhlggnglfgaa.Open Go.Proofs.Ytbbdhlggnglfgaa.MFnExactPutFeature
set_option linter.unusedVariables false
set_option maxRecDepth 100000 in
theorem lifted (os : Os) (started : os.Started) (H : Type) (enc : TypeId × Value → H) :
    ReturnsInHanded {} Try.checked os 3 .any (Rows.fnExactPutFeatureSpec.pre6 enc Try.prog Try.f3 Rows.fnExactPutFeatureRow.domain false) (Rows.fnExactPutFeatureSpec.post enc Try.prog Try.f3 false true false false):=by
  refine returnsInHanded_of_change_sized (C:=Try.checked) own started (by kernel_rfl) Try.func3
    (ChangeSpec.witness6 (enc:=enc) (C:=Try.checked) false ⟨#[],#[.slice none 0 0,.agg #[.int .i64 0,.int .i64 0,.int .i64 0,.string ByteArray.empty,.slice none 0 0]],[]⟩ 8 (by kernel_rfl) (by kernel_rfl) (by kernel_rfl) (by kernel_rfl)) ?_
  intro W base args ds gs before hval0 hW hcnd hsz0 _
  have hval : ∀ (j : Nat) t v,Try.f3.params[j]? = some t → args[j]? = some v → Value.okWide Try.prog W .any base t v:=hval0
  have hW':=hW
  obtain ⟨p,q,hA0,hV,rfl,hfz,hnd⟩:=hW
  have hA : DataW.TrodAll enc Try.prog W 0 (fun _ => true) true Try.f3.params.toList args.toList ds p:=hA0
  rw [Try.params3] at hA hval
  have hstay : ∀ W',Below W.heap.size W W' → DataW.TrodAll enc Try.prog W' 0 (fun b => decide (b < W.heap.size)) true Try.f3.params.toList args.toList ds p:=fun W' bel => args_stay kids full bel (fun b hb => decide_eq_true hb) (by rw [Try.params3];exact of_decide_eq_true (by kernel_rfl)) hA0
  obtain ⟨v0,vs0,d0,ds0,p0,q0,hargs,rfl,rfl,h0,r0⟩:=trodAll_cons hA
  obtain ⟨v1,vs1,d1,ds1,p1,q1,rfl,rfl,rfl,h1,r1⟩:=trodAll_cons r0
  obtain ⟨rfl,rfl,rfl⟩:=trodAll_nil r1
  obtain rfl : args = #[v0,v1]:=by cases args;simp_all
  obtain ⟨rfl,rfl⟩:=trodVars_none hV
  obtain ⟨A0,l0,c0,rfl,hc0,hr0,g0⟩:=arg_slice Try.underlying22 (opens_slice Try.underlying22 (by kernel_rfl) opens25) (hval 0 22 v0 rfl rfl) h0
  obtain ⟨x1,cs1,rfl,K1,g1⟩:=arg_struct (k:=(Kd.pair (Kd.int .i64) (Kd.pair (Kd.int .i64) (Kd.pair (Kd.int .i64) (Kd.pair Kd.string (Kd.slice 84 k84)))))) (G:=fun x => (I64 x.1) ∧ (I64 x.2.1) ∧ (I64 x.2.2.1) ∧ (ByteArray.size x.2.2.2.1 ≤ maxLen) ∧ ((List.length x.2.2.2.2 ≤ maxLen ∧ ∀ y ∈ x.2.2.2.2,G84 y))) Try.underlying25 (opens_weaken (opens_struct Try.underlying25 (by kernel_rfl) (fields_cons rfl (by kernel_rfl) (opens_int Try.underlying3) (fields_cons rfl (by kernel_rfl) (opens_int Try.underlying3) (fields_cons rfl (by kernel_rfl) (opens_int Try.underlying3) (fields_cons rfl (by kernel_rfl) (opens_string Try.underlying9) (fields_one rfl (by kernel_rfl) (opens_slice Try.underlying23 (by kernel_rfl) opens84))))))) (fun x h => h)) (hval 1 25 v1 rfl rfl) h1
  obtain ⟨_,_,rfl,rfl,⟨_,_,rfl,rfl,⟨_,_,rfl,rfl,⟨_,_,rfl,rfl,⟨A1_4,c1_4,rfl,hc1_4,hr1_4⟩⟩⟩⟩⟩:=K1
  clear hA0 hval0 hsz0
  obtain ⟨k,hp⟩:=pure_FnExactPutFeature l0 (x1.1) (x1.2.1) (x1.2.2.1) (x1.2.2.2.1) (x1.2.2.2.2) g0 g1
  refine (laws_FnExactPutFeature.calls k _ _ _ _ _ _ _ _ _ _ true W hr0 hc0 hr1_4 hc1_4 hp).mono fun e W' ⟨he,bel0⟩ => ?_
  have bel : Below W.heap.size W W':=bel0
  subst he
  exact ⟨_,rfl,_,_,_,[],_,[],hW',trodAll_mk1 (shut_bool Try.underlying4 _),hstay W' bel,rfl,bel.frame _,fun h => by cases h⟩
theorem over : Rows.fnExactPutFeatureRow.holds Try.pinned (OpenSpec.ofChange Rows.fnExactPutFeatureSpec) :=
  OpenClaim.holds_of_wide 3 Try.f3 rfl rfl rfl rfl rfl rfl rfl ⟨rfl,rfl,rfl,rfl,rfl⟩ rfl rfl rfl rfl rfl (by kernel_rfl) Try.func3 (by kernel_rfl)
    (of_decide_eq_true (by kernel_rfl)) (by unfold Func.isWrapper;first | (rw [if_pos (by decide +kernel)];kernel_rfl) | (rw [if_neg (by decide +kernel)];exact ⟨rfl,rfl⟩))
    (fun os started H enc _ => lifted os started H enc)
end Go.Proofs.Ytbbdhlggnglfgaa.RowFnExactPutFeature
namespace Go.Proofs.Ytbbdhlggnglfgaa
theorem fnExactPutFeature_holds : Rows.FnExactPutFeatureSaid:=RowFnExactPutFeature.over
#print axioms fnExactPutFeature_holds
end Go.Proofs.Ytbbdhlggnglfgaa
