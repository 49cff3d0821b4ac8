/- What a printed function tells from some number of rounds on: rules to go through binds, tests and loops without counting rounds. No condition beyond each lemma's own. -/
import Derived.Test.YtbbdhlggnglfgaaZFnFeaturesGen
namespace Go.Proofs.Ytbbdhlggnglfgaa
open Go Go.RowKit Go.Proofs.YtbbdhlggnglfgaaW.PrintWords Go.Proofs.YtbbdhlggnglfgaaW.PrintMore
def Told {R:Type} (L:Nat→Option R) (r:R):Prop:=∃ k0,∀ k,k0≤k→L k=some r
namespace Told
theorem ex {R:Type} {L:Nat→Option R} {r:R} (h:Told L r):∃ k,L k=some r:=by
  obtain⟨k,h⟩:=h;exact⟨k,h k (Nat.le_refl k)⟩
theorem ret {R:Type} (r:R):Told (fun _=>some r) r:=⟨0,fun _ _=>rfl⟩
theorem of {R:Type} {x:Option R} {r:R} (h:x=some r):Told (fun _=>x) r:=⟨0,fun _ _=>h⟩
theorem eq {R:Type} {L M:Nat→Option R} {r:R} (h:∀ k,L k=M k) (hM:Told M r):Told L r:=by
  obtain⟨k,hM⟩:=hM;exact⟨k,fun k' hk=>(h k').trans (hM k' hk)⟩
theorem step {R:Type} {L M:Nat→Option R} {r:R} (h:∀ k,L (k+1)=M k) (hM:Told M r):Told L r:=by
  obtain⟨k,hM⟩:=hM
  refine⟨k+1,fun k' hk=>?_⟩
  obtain⟨m,rfl⟩:∃ m,k'=m+1:=⟨k'-1,by omega⟩
  exact(h m).trans (hM m (by omega))
theorem stepr {R:Type} {L:Nat→Option R} {r:R} (h:∀ k,L (k+1)=some r):Told L r:=step (M:=fun _=>some r) h (ret r)
theorem bind {A R:Type} {L:Nat→Option A} {a:A} {B:Nat→A→Option R} {r:R} (hA:Told L a) (hB:Told (fun k=>B k a) r):Told (fun k=>(L k).bind (B k)) r:=by
  obtain⟨k1,hA⟩:=hA;obtain⟨k2,hB⟩:=hB
  refine⟨k1+k2,fun k hk=>?_⟩
  show (L k).bind (B k)=some r
  rw [hA k (by omega)];exact hB k (by omega)
theorem ite_t {R:Type} {c:Prop} [Decidable c] {L M:Nat→Option R} {r:R} (h:c) (hL:Told L r):Told (fun k=>if c then L k else M k) r:=eq (fun _=>if_pos h) hL
theorem ite_f {R:Type} {c:Prop} [Decidable c] {L M:Nat→Option R} {r:R} (h:¬ c) (hM:Told M r):Told (fun k=>if c then L k else M k) r:=eq (fun _=>if_neg h) hM
theorem up {S R:Type} {n:Nat} {r:R} (next:S→Nat→S) (L:Nat→S→Int→Option R) (Inv:S→Nat→Prop)
    (hs:∀ s (i:Nat),i<n→Inv s i→Inv (next s i) (i+1)∧(Told (fun k=>L k (next s i) ((i+1:Nat):Int)) r→Told (fun k=>L k s (i:Int)) r)) :
    ∀ d s (i:Nat),i+d=n→Inv s i→Told (fun k=>L k ((List.range' i d).foldl next s) (n:Int)) r→Told (fun k=>L k s (i:Int)) r:=by
  intro d
  induction d with
  | zero =>
    intro s i hi _ h;have:i=n:=by omega
    subst this;exact h
  | succ d ih =>
    intro s i hi hv h
    obtain⟨h1,h2⟩:=hs s i (by omega) hv
    exact h2 (ih _ (i+1) (by omega) h1 h)
theorem all {R:Type} {n:Nat} {r q:R} (chk:Nat→Prop) [DecidablePred chk] (L:Nat→Int→Option R)
    (hs:∀ i:Nat,i<n→(chk i→Told (fun k=>L k ((i+1:Nat):Int)) r→Told (fun k=>L k (i:Int)) r)∧(chk i→Told (fun k=>L k ((i+1:Nat):Int)) q→Told (fun k=>L k (i:Int)) q)∧(¬ chk i→Told (fun k=>L k (i:Int)) q))
    (hn:Told (fun k=>L k (n:Int)) r):Told (fun k=>L k 0) (if ∀ i,i<n→chk i then r else q):=by
  have key:∀ d (i:Nat),i+d=n→((∀ j,i≤j→j<n→chk j)→Told (fun k=>L k (i:Int)) r)∧(¬ (∀ j,i≤j→j<n→chk j)→Told (fun k=>L k (i:Int)) q):=by
    intro d
    induction d with
    | zero =>
      intro i hi
      have:i=n:=by omega
      subst this
      exact⟨fun _=>hn,fun h=>absurd (fun j h1 h2=>by omega) h⟩
    | succ d ih =>
      intro i hi
      obtain⟨ih1,ih2⟩:=ih (i+1) (by omega)
      obtain⟨s1,s2,s3⟩:=hs i (by omega)
      constructor
      · intro h
        exact s1 (h i (Nat.le_refl i) (by omega)) (ih1 fun j h1 h2=>h j (by omega) h2)
      · intro h
        by_cases c:chk i
        · exact s2 c (ih2 fun hh=>h fun j h1 h2=>by
            by_cases e:j=i
            · subst e;exact c
            · exact hh j (by omega) h2)
        · exact s3 c
  have h0:=key n 0 (by omega)
  by_cases h:∀ i,i<n→chk i
  · rw [if_pos h];exact h0.1 fun j _ h2=>h j h2
  · rw [if_neg h];exact h0.2 fun hh=>h fun i hi=>hh i (Nat.zero_le i) hi
theorem scan {R:Type} {n:Nat} {r:R} (q:R) (chk:Nat→Prop) (L:Nat→Int→Option R)
    (hs:∀ i:Nat,i<n→(chk i→Told (fun k=>L k ((i+1:Nat):Int)) r)→(¬ chk i→r=q)→Told (fun k=>L k (i:Int)) r)
    (hn:(∀ i,i<n→chk i)→Told (fun k=>L k (n:Int)) r) (hf:¬ (∀ i,i<n→chk i)→r=q):Told (fun k=>L k 0) r:=by
  have key:∀ d (i:Nat),i+d=n→((∀ j,i≤j→j<n→chk j)→Told (fun k=>L k (n:Int)) r)→(¬ (∀ j,i≤j→j<n→chk j)→r=q)→Told (fun k=>L k (i:Int)) r:=by
    intro d
    induction d with
    | zero =>
      intro i hi h1 _
      have:i=n:=by omega
      subst this
      exact h1 fun j a b=>by omega
    | succ d ih =>
      intro i hi h1 h2
      refine hs i (by omega) (fun c=>ih (i+1) (by omega) (fun h=>h1 fun j a b=>?_) (fun h=>h2 fun hh=>h fun j a b=>hh j (by omega) b)) (fun c=>h2 fun hh=>c (hh i (by omega) (by omega)))
      by_cases e:j=i
      · subst e;exact c
      · exact h j (by omega) b
  exact key n 0 (by omega) (fun h=>hn fun i hi=>h i (by omega) hi) (fun h=>hf fun hh=>h fun j _ b=>hh j b)
end Told
end Go.Proofs.Ytbbdhlggnglfgaa
