/- The law FnMeets returns true for every input; no condition. -/
import Derived.Test.YtbbdhlggnglfgaaZFnMeetsOpen
import Derived.Test.YtbbdhlggnglfgaaZFnMeetsOpn
import Derived.Test.YtbbdhlggnglfgaaZFnMeetsMx19
import Derived.Test.YtbbdhlggnglfgaaZFnMeetsPure
namespace Go.Proofs.Ytbbdhlggnglfgaa.RowFnMeets
open Go Go.ChangeShapes Go.WideShapes Go.ChangeAt Go.RowKit Go.Proofs.YtbbdhlggnglfgaaW.PrintWords Go.Proofs.Ytbbdhlggnglfgaa.Open Go.Proofs.Ytbbdhlggnglfgaa.MFnMeets
set_option linter.unusedVariables false
set_option maxRecDepth 100000 in
theorem lifted (os : Os) (started : os.Started) (H : Type) (enc : TypeId × Value → H) :
    ReturnsInHanded {} Try.checked os 5 .any (Rows.fnMeetsSpec.pre6 enc Try.prog Try.f5 Rows.fnMeetsRow.domain false) (Rows.fnMeetsSpec.post enc Try.prog Try.f5 false true false false):=by
  refine returnsInHanded_of_change_sized (C:=Try.checked) own started (by kernel_rfl) Try.func5
    (ChangeSpec.witness6 (enc:=enc) (C:=Try.checked) false ⟨#[],#[.slice none 0 0],[]⟩ 8 (by kernel_rfl) (by kernel_rfl) (by kernel_rfl) (by kernel_rfl)) ?_
  intro W base args ds gs before hval0 hW hcnd hsz0 _
  have hval : ∀ (j : Nat) t v,Try.f5.params[j]? = some t → args[j]? = some v → Value.okWide Try.prog W .any base t v:=hval0
  have hW':=hW
  obtain ⟨p,q,hA0,hV,rfl,hfz,hnd⟩:=hW
  have hA : DataW.TrodAll enc Try.prog W 0 (fun _ => true) true Try.f5.params.toList args.toList ds p:=hA0
  rw [Try.params5] at hA hval
  have hstay : ∀ W',Below W.heap.size W W' → DataW.TrodAll enc Try.prog W' 0 (fun b => decide (b < W.heap.size)) true Try.f5.params.toList args.toList ds p:=fun W' bel => args_stay kids full bel (fun b hb => decide_eq_true hb) (by rw [Try.params5];exact of_decide_eq_true (by kernel_rfl)) hA0
  obtain ⟨v0,vs0,d0,ds0,p0,q0,hargs,rfl,rfl,h0,r0⟩:=trodAll_cons hA
  obtain ⟨rfl,rfl,rfl⟩:=trodAll_nil r0
  obtain rfl : args = #[v0]:=by cases args;simp_all
  obtain ⟨rfl,rfl⟩:=trodVars_none hV
  obtain ⟨A0,l0,c0,rfl,hc0,hr0,g0⟩:=arg_slice Try.underlying41 (opens_slice Try.underlying41 (by kernel_rfl) (opens_u8 Try.underlying5)) (hval 0 41 v0 rfl rfl) h0
  clear hA0 hval0 hsz0
  obtain ⟨k,hp⟩:=pure_FnMeets l0 g0
  refine (laws_FnMeets.calls k _ _ _ true W hr0 hc0 hp).mono fun e W' ⟨he,bel0⟩ => ?_
  have bel : Below W.heap.size W W':=bel0
  subst he
  exact ⟨_,rfl,_,_,_,[],_,[],hW',trodAll_mk1 (shut_bool Try.underlying4 _),hstay W' bel,rfl,bel.frame _,fun h => by cases h⟩
theorem over : Rows.fnMeetsRow.holds Try.pinned (OpenSpec.ofChange Rows.fnMeetsSpec) :=
  OpenClaim.holds_of_wide 5 Try.f5 rfl rfl rfl rfl rfl rfl rfl ⟨rfl,rfl,rfl,rfl,rfl⟩ rfl rfl rfl rfl rfl (by kernel_rfl) Try.func5 (by kernel_rfl)
    (of_decide_eq_true (by kernel_rfl)) (by unfold Func.isWrapper;first | (rw [if_pos (by decide +kernel)];kernel_rfl) | (rw [if_neg (by decide +kernel)];exact ⟨rfl,rfl⟩))
    (fun os started H enc _ => lifted os started H enc)
end Go.Proofs.Ytbbdhlggnglfgaa.RowFnMeets
namespace Go.Proofs.Ytbbdhlggnglfgaa
theorem fnMeets_holds : Rows.FnMeetsSaid:=RowFnMeets.over
#print axioms fnMeets_holds
end Go.Proofs.Ytbbdhlggnglfgaa
