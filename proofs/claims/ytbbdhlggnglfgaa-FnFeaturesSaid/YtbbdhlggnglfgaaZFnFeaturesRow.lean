/- The law FnFeatures returns true for every input; no condition. -/
import Derived.Test.YtbbdhlggnglfgaaZFnFeaturesOpen
import Derived.Test.YtbbdhlggnglfgaaZFnFeaturesOpn
import Derived.Test.YtbbdhlggnglfgaaZFnFeaturesMx22
import Derived.Test.YtbbdhlggnglfgaaZFnFeaturesPure
namespace Go.Proofs.Ytbbdhlggnglfgaa.RowFnFeatures
open Go Go.ChangeShapes Go.WideShapes Go.ChangeAt Go.RowKit Go.Proofs.YtbbdhlggnglfgaaW.PrintWords Go.Proofs.Ytbbdhlggnglfgaa.Open Go.Proofs.Ytbbdhlggnglfgaa.MFnFeatures
set_option linter.unusedVariables false
set_option maxRecDepth 100000 in
theorem lifted (os:Os) (started:os.Started) (H:Type) (enc:TypeId × Value→H) :
    ReturnsInHanded {} Try.checked os 4 .any (Rows.fnFeaturesSpec.pre6 enc Try.prog Try.f4 Rows.fnFeaturesRow.domain false) (Rows.fnFeaturesSpec.post enc Try.prog Try.f4 false true false false):=by
  refine returnsInHanded_of_change_sized (C:=Try.checked) own started (by kernel_rfl) Try.func4
    (ChangeSpec.witness6 (enc:=enc) (C:=Try.checked) false ⟨#[],#[.slice none 0 0],[]⟩ 8 (by kernel_rfl) (by kernel_rfl) (by kernel_rfl) (by kernel_rfl)) ?_
  intro W base args ds gs before hval0 hW hcnd hsz0 _
  have hval:∀ (j:Nat) t v,Try.f4.params[j]?=some t→args[j]?=some v→Value.okWide Try.prog W .any base t v:=hval0
  have hW':=hW
  obtain⟨p,q,hA0,hV,rfl,hfz,hnd⟩:=hW
  have hA:DataW.TrodAll enc Try.prog W 0 (fun _=>true) true Try.f4.params.toList args.toList ds p:=hA0
  rw [Try.params4] at hA hval
  have hstay:∀ W',Below W.heap.size W W'→DataW.TrodAll enc Try.prog W' 0 (fun b=>decide (b<W.heap.size)) true Try.f4.params.toList args.toList ds p:=fun W' bel=>args_stay kids full bel (fun b hb=>decide_eq_true hb) (by rw [Try.params4];exact of_decide_eq_true (by kernel_rfl)) hA0
  obtain⟨v0,vs0,d0,ds0,p0,q0,hargs,rfl,rfl,h0,r0⟩:=trodAll_cons hA
  obtain⟨rfl,rfl,rfl⟩:=trodAll_nil r0
  obtain rfl:args=#[v0]:=by cases args;simp_all
  obtain⟨rfl,rfl⟩:=trodVars_none hV
  obtain⟨A0,l0,c0,rfl,hc0,hr0,g0⟩:=arg_slice Try.underlying41 (opens_slice Try.underlying41 (by kernel_rfl) (opens_u8 Try.underlying5)) (hval 0 41 v0 rfl rfl) h0
  clear hA0 hval0 hsz0
  obtain⟨k,hp⟩:=pure_FnFeatures l0 g0
  refine(laws_FnFeatures.calls k _ _ _ true W hr0 hc0 hp).mono fun e W' ⟨he,bel0⟩=>?_
  have bel:Below W.heap.size W W':=bel0
  subst he
  exact⟨_,rfl,_,_,_,[],_,[],hW',trodAll_mk1 (shut_bool Try.underlying4 _),hstay W' bel,rfl,bel.frame _,fun h=>by cases h⟩
theorem over:Rows.fnFeaturesRow.holds Try.pinned (OpenSpec.ofChange Rows.fnFeaturesSpec) :=
  OpenClaim.holds_of_wide 4 Try.f4 rfl rfl rfl rfl rfl rfl rfl ⟨rfl,rfl,rfl,rfl,rfl⟩ rfl rfl rfl rfl rfl (by kernel_rfl) Try.func4 (by kernel_rfl)
    (of_decide_eq_true (by kernel_rfl)) (by unfold Func.isWrapper;first|(rw [if_pos (by decide +kernel)];kernel_rfl)|(rw [if_neg (by decide +kernel)];exact⟨rfl,rfl⟩))
    (fun os started H enc _=>lifted os started H enc)
end Go.Proofs.Ytbbdhlggnglfgaa.RowFnFeatures
namespace Go.Proofs.Ytbbdhlggnglfgaa
theorem fnFeatures_holds:Rows.FnFeaturesSaid:=RowFnFeatures.over
#print axioms fnFeatures_holds
end Go.Proofs.Ytbbdhlggnglfgaa
