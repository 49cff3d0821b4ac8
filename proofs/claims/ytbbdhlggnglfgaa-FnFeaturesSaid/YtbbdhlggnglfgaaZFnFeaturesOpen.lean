/- Openers: an argument that is read as data gives the cells that the printed contracts take, for whole numbers, bools, strings, slices and structs. Conditions: the rows of the program's table of types. -/
import Derived.Test.YtbbdhlggnglfgaaRows
import Derived.Test.YtbbdhlggnglfgaaZFnFeaturesWWords
import Derived.Test.YtbbdhlggnglfgaaZFnFeaturesWSized
import Derived.WalkKit
import Derived.ProofKit
import Derived.OpenShut
import Derived.ShutString
import Derived.ChangeOld
import Derived.Below
import Derived.SizedLaws
import Derived.ReadAgain
import Derived.Deep.Slices
namespace Go.Proofs.Ytbbdhlggnglfgaa.Open
open Go Go.RowKit Go.Proofs.YtbbdhlggnglfgaaW.PrintWords Go.ChangeShapes Go.WideShapes Go.ChangeAt
structure Opens (P:Program) {α:Type} (t:TypeId) (k:Kd α) (G:α→Prop):Prop where
  out:∀ {H:Type} (enc:TypeId × Value→H) (w:World) (fuel:Nat) (cs:List Value) (x:DataW H × List MemPlace),
    DataW.trod enc P w 0 (fun _=>true) true fuel t cs=some x→∃ a,k.K w a cs∧G a
theorem opens_u8 {P:Program} {t:TypeId} (h:P.underlying t=some (.int .u8)):Opens P t (Kd.int .u8) (fun n=>0≤n∧n≤255):=by
  constructor
  intro H enc w fuel cs x hx
  obtain⟨n,rfl,_,hw⟩:=DataW.trod_int h hx
  refine⟨n,rfl,?_⟩
  simp [Lit.wf,IntKind.min,IntKind.max,IntKind.signed,IntKind.bits] at hw
  omega
theorem list_of {α:Type} {p:Nat→α→Prop}:∀ n,(∀ i,i<n→∃ a,p i a)→∃ l:List α,l.length=n∧∀ i a,l[i]?=some a→p i a
  | 0,_=>⟨[],rfl,fun i a h=>by simp at h⟩
  | n+1,h=>by
    obtain⟨l,hl,hp⟩:=list_of n (fun i hi=>h i (by omega))
    obtain⟨a,ha⟩:=h n (by omega)
    refine⟨l++[a],by simp [hl],fun i b hb=>?_⟩
    by_cases hi:i<n
    · rw [List.getElem?_append_left (by omega)] at hb
      exact hp i b hb
    · rw [List.getElem?_append_right (by omega)] at hb
      have:i-l.length=0:=by
        by_cases h0:i-l.length=0
        · exact h0
        · rw [List.getElem?_eq_none (by simp;omega)] at hb
          cases hb
      rw [this] at hb
      have hin:i=n:=by omega
      subst hin
      simp at hb
      exact hb ▸ ha
theorem opens_slice {P:Program} {t e:TypeId} {α:Type} {k:Kd α} {G:α→Prop} (ht:P.underlying t=some (.slice e)) (hc:P.cellsOf e=k.sz) (he:Opens P e k G) :
    Opens P t (Kd.slice e k) (fun l=>l.length≤maxLen∧∀ a∈l,G a):=by
  constructor
  intro H enc w fuel cs x hx
  rcases DataW.trod_slice ht hx with ⟨rfl,_⟩|⟨a,len,cap,elems,rest,n,_,rfl,_,_,hlc,hm,hl,hel,_,_⟩
  · exact⟨[],⟨none,0,rfl,Nat.le_refl _,Kd.C_nil _ _⟩,by simp,by simp⟩
  · have hel':∀ i,i<len→∃ a',(∃ cs',w.cells? 0 (a.add (i*P.cellsOf e)) (P.cellsOf e)=some cs'∧k.K w a' cs')∧G a':=by
      intro i hi
      have h1:=hel i hi
      rw [List.getElem?_eq_getElem (by omega)] at h1
      obtain⟨cs',h2,h3⟩:=Option.bind_eq_some_iff.1 h1
      obtain⟨a',h4,h5⟩:=he.out enc w n cs' _ h3
      exact⟨a',⟨cs',h2,h4⟩,h5⟩
    obtain⟨l,hll,hp⟩:=list_of len hel'
    refine⟨l,⟨some a,cap,by rw [hll],by omega,?_⟩,by omega,fun b hb=>?_⟩
    · refine⟨rfl,by rw [hll];unfold maxLen at hm;omega,fun _=>⟨a,rfl,fun j p hj=>?_⟩⟩
      obtain⟨⟨cs',h2,h3⟩,_⟩:=hp j p hj
      obtain⟨_,h4,h5⟩:=World.cells?_some h2
      refine⟨cs',by rw [h4,hc],h3,fun i u hu=>?_⟩
      have hi:i<P.cellsOf e:=by
        rw [← h4]
        exact(List.getElem?_eq_some_iff.1 hu).1
      have h6:=h5 i hi
      rw [Addr.add_add,hc,hu] at h6
      exact h6
    · obtain⟨i,hi⟩:=List.mem_iff_getElem?.1 hb
      exact(hp i b hi).2
structure FieldsOpen (P:Program) {α:Type} (fs:List Field) (off:Nat) (k:Kd α) (G:α→Prop):Prop where
  out:∀ {H:Type} (enc:TypeId × Value→H) (w:World) (fuel:Nat) (cs:List Value),cs.length=off+k.sz →
    (∀ f∈fs,∃ x,DataW.trod enc P w 0 (fun _=>true) true fuel f.type ((cs.drop f.offset).take (P.cellsOf f.type))=some x)→∃ a,k.K w a (cs.drop off)∧G a
theorem arg_slice {P:Program} {w:World} {r:Reach} {b0:Nat} {t e:TypeId} {v:Value} {α:Type} {k:Kd α} {G:List α→Prop} {H:Type} {enc:TypeId × Value→H} {d:DataW H} {p:List MemPlace} (ht:P.underlying t=some (.slice e)) (ho:Opens P t (Kd.slice e k) G)
    (hv:Value.okWide P w r b0 t v) (h:DataW.Trod enc P w 0 (fun _=>true) true t v d p):∃ A l c,v = .slice A (List.length l) c∧l.length≤c∧k.C w A l.length l∧G l:=by
  obtain⟨a,len,cap,rfl⟩:=okWide_slice ht hv
  obtain⟨fuel,hf⟩:=h
  obtain⟨l,⟨A,c,he,hl,hC⟩,hG⟩:=ho.out enc w fuel _ _ hf
  refine⟨A,l,c,?_,hl,hC,hG⟩
  simp [Value.cells] at he
  obtain⟨rfl,rfl,rfl⟩:=he
  rfl
theorem args_stay {P:Program} {T:TypeId→Prop} (K:Kids P T) (hz:∀ t e,T t→P.underlying t=some (.slice e)→0<P.cellsOf e) {H:Type} {enc:TypeId × Value→H} {w w':World} (hb:Below w.heap.size w w') {spare':Nat→Bool} (hsp:∀ b,b<w.heap.size→spare' b=true) :
    ∀ {ts:List TypeId} {vs:List Value} {ds:List (DataW H)} {ps:List MemPlace},(∀ t∈ts,T t)→DataW.TrodAll enc P w 0 (fun _=>true) true ts vs ds ps→DataW.TrodAll enc P w' 0 spare' true ts vs ds ps
  | [],[],[],_,_,h=>h
  | _::_,_::_,_::_,_,hT,⟨p,q,⟨n,h1⟩,h2,e⟩=>⟨p,q,⟨n,DataW.trod_stays K (hz _ _) (fun h=>by cases h) (hT _ List.mem_cons_self) h1 (fun p hp=>hb.same (DataW.trod_lt n _ _ _ h1 p hp)) (fun p hp=>hsp _ (DataW.trod_lt n _ _ _ h1 p hp))⟩,
      args_stay K hz hb hsp (fun t ht=>hT t (List.mem_cons_of_mem _ ht)) h2,e⟩
theorem own:ownKnob Try.prog.godebug=none:=by kernel_rfl
theorem kids:Kids Try.prog (· < Try.prog.types.size):=kids_rows (by kernel_rfl) (by kernel_rfl)
theorem full:∀ t e,t<Try.prog.types.size→Try.prog.underlying t=some (.slice e)→0<Try.prog.cellsOf e:=slices_full_of Try.prog (by kernel_rfl)
end Go.Proofs.Ytbbdhlggnglfgaa.Open
