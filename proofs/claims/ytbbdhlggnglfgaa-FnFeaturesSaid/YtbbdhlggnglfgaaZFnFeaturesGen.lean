/- Plain lemmas on loops that the printed functions share: filling a list, comparing two lists, counting on; no program in sight. No condition beyond each lemma's own. -/
import Derived.Test.YtbbdhlggnglfgaaZFnFeaturesWWords
import Derived.Test.YtbbdhlggnglfgaaZFnFeaturesWMore
namespace Go.Proofs.Ytbbdhlggnglfgaa.Gen
open Go Go.RowKit Go.Proofs.YtbbdhlggnglfgaaW.PrintWords Go.Proofs.YtbbdhlggnglfgaaW.PrintMore
theorem w64 {n:Int} (h0:-9223372036854775808≤n) (h1:n≤9223372036854775807):wrap64 n=n:=by unfold wrap64;omega
theorem w64s {i:Nat} (h:i<9223372036854775807):wrap64 ((i:Int)+1)=((i+1:Nat):Int):=by unfold wrap64;omega
theorem mx_eq (a b:Int):mx a b=max a b:=by unfold mx;split <;> omega
theorem mn_eq (a b:Int):mn a b=min a b:=by unfold mn;split <;> omega
theorem take_set {α:Type} (out:List α) (i:Nat) (v:α):List.take i (out.set i v)=List.take i out:=by
  apply List.ext_getElem?
  intro j
  rw [List.getElem?_take,List.getElem?_take]
  by_cases h:j<i
  · rw [if_pos h,if_pos h,List.getElem?_set_ne (by omega)]
  · rw [if_neg h,if_neg h]
theorem mul_bd {x y m n:Int} (hx:-m≤x∧x≤m) (hy:-n≤y∧y≤n):-(m*n)≤x*y∧x*y≤m*n:=by
  have a1:0≤(m-x)*(n+y):=Int.mul_nonneg (by omega) (by omega)
  have a2:0≤(m+x)*(n-y):=Int.mul_nonneg (by omega) (by omega)
  have b1:0≤(m-x)*(n-y):=Int.mul_nonneg (by omega) (by omega)
  have b2:0≤(m+x)*(n+y):=Int.mul_nonneg (by omega) (by omega)
  have c1:(m-x)*(n+y)+(m+x)*(n-y)=2*(m*n)-2*(x*y):=by grind
  have c2:(m-x)*(n-y)+(m+x)*(n+y)=2*(m*n)+2*(x*y):=by grind
  omega
theorem scan_loop (n K:Nat) (chk:Nat→Bool) (fin:Bool) (L:Nat→Int→Option Bool) (step:∀ k (i:Nat),K≤k→i<n→L (k+1) i=if chk i=true then L k (i+1:Nat) else some false) (stop:∀ k,K≤k→L (k+1) (n:Nat)=some fin) :
    ∀ d k (i:Nat),i+d=n→d+K<k→L k i=some ((List.range' i d).all chk&&fin):=by
  intro d
  induction d with
  | zero =>
    intro k i hi hk
    obtain⟨k,rfl⟩:∃ m,k=m+1:=⟨k-1,by omega⟩
    have:i=n:=by omega
    subst this
    rw [stop k (by omega)];simp
  | succ d ih =>
    intro k i hi hk
    obtain⟨k,rfl⟩:∃ m,k=m+1:=⟨k-1,by omega⟩
    rw [step k i (by omega) (by omega)]
    rw [List.range'_succ,List.all_cons]
    by_cases h:chk i=true
    · rw [if_pos h,ih k (i+1) (by omega) (by omega),h];simp
    · rw [if_neg h];simp [h]
theorem scan_all (n K:Nat) (chk:Nat→Bool) (fin:Bool) (L:Nat→Int→Option Bool) (step:∀ k (i:Nat),K≤k→i<n→L (k+1) i=if chk i=true then L k (i+1:Nat) else some false) (stop:∀ k,K≤k→L (k+1) (n:Nat)=some fin) {k:Nat} (hk:n+K<k) :
    L k 0=some (decide (∀ i,i<n→chk i=true)&&fin):=by
  have h:=scan_loop n K chk fin L step stop n k 0 (by omega) (by omega)
  rw [show (0:Int)=((0:Nat):Int) from rfl,h]
  congr 2
  rw [Bool.eq_iff_iff,List.all_eq_true,decide_eq_true_eq]
  constructor
  · intro hh i hi;exact hh i (by simp [List.mem_range'];omega)
  · intro hh i hi
    simp [List.mem_range'] at hi
    exact hh i (by omega)
end Go.Proofs.Ytbbdhlggnglfgaa.Gen
