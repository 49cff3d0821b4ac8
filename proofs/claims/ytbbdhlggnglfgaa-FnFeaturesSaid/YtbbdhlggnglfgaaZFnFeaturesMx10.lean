-- Laid by this session's program pp.py, after the kit's print and texts of the session's own. Not trusted: Lean checks it.
import Derived.Test.YtbbdhlggnglfgaaZFnFeaturesMx0
import Derived.Test.YtbbdhlggnglfgaaZFnFeaturesMx2
import Derived.Test.YtbbdhlggnglfgaaZFnFeaturesMx8
import Derived.Test.YtbbdhlggnglfgaaZFnFeaturesMx9
namespace Go.Proofs.Ytbbdhlggnglfgaa.MFnFeatures
open Go.RowKit Go.Proofs.YtbbdhlggnglfgaaW.PrintWords Go.Proofs.YtbbdhlggnglfgaaW.PrintLast Go.Proofs.YtbbdhlggnglfgaaW.PrintMore
attribute [local go_sem] max2_int min2_int max_two min_two max_three min_three max_four min_four
set_option linter.unusedVariables false
set_option maxHeartbeats 8000000
set_option maxRecDepth 100000
set_option linter.unusedSimpArgs false
def impl_PutFeature.ins (xs:List S34) (i:Int) (p:S34):List S34:=xs.take i.toNat++[p]++xs.drop i.toNat
theorem impl_PutFeature.copyN {P:Program} (w:World) (dT sT ty elem sz:Nat) (b o dLen dCap:Nat) (a:Addr) (sLen sCap:Nat) (cs:List Value)
    (hu:P.underlying dT=some (.slice elem)) (hs:(P.info? elem).map (·.size)=some sz) (hn:cs.length=Nat.min sLen dLen*sz)
    (hsrc:∀ j v,cs[j]?=some v→w.cell? (a.add j)=some v) (hc:∀ j,j<cs.length→(w.cell? ⟨b,o+j,none⟩).isSome=true) (hf:∀ j,j<cs.length→w.frozen? ⟨b,o+j,none⟩=false) (h1:∀ v∈cs,v.oneCell'=true) :
    (Builtin.copy_ #[dT,sT] ty #[.slice (some ⟨b,o,none⟩) dLen dCap,.slice (some a) sLen sCap]).run P w = .ok (goInt (Nat.min sLen dLen)) (w.setCells b o cs):=by
  have hl:=run_loadCells_list (P:=P) w a cs hsrc
  have hst:=run_storeCells_cells (P:=P) b o cs 0 w (by simpa using hc) (by simpa using hf) h1
  cases hq:P.info? elem with
  | none=>simp [hq] at hs
  | some i =>
    have hi:i.size=sz:=by simpa [hq] using hs
    simp [Builtin.copy_,run_underlying hu,Builtin.lenOf,Builtin.firstCells,sizeOf,typeInfo,hq,hi,← hn,hl,hst]
theorem impl_PutFeature.wpcopy {P:Program} (w:World) {ops:Array Oper} {rest:List Oper} {o:Oper} {a:Act} {Q:Exit→Act→World→Prop} (hgd:o.guard=none) (d s:Operand) (t t':TypeId)
    (ho:o.op = .call { callee:=.builtin .copy,args:=#[d,s],argTypes:=#[t,t'] }) (v u:Value) (hd:a.eval d=v) (hs:a.eval s=u) {v':Value} {w':World}
    (hr:(Builtin.copy_ #[t,t'] o.type #[v,u]).run P w = .ok v' w') (h:wpList P ops Q rest (a.put o.dst v') w'):wpList P ops Q (o::rest) a w :=
  wpList_plain hgd fun _ hK=>by
    unfold Oper.wp execOp
    simp only[ho,resolve,invoke,builtin,Sem.run_bind,Sem.run_pure,Result.andThen_ok,List.map_toArray,List.map_cons,List.map_nil,hd,hs,hr]
    exact hK _ _ h
theorem impl_PutFeature.stepcopy {P:Program} {ops:Array Oper} {o:Oper} {a:Act} {w:World} {K:Act→World→Prop} {Q:Exit→Act→World→Prop} {E:Prop}
    (hg:o.guard=none) (d x:Operand) (dT sT:TypeId) (hop:o.op=Op.call { callee:=Callee.builtin Builtin.copy,args:=#[d,x],argTypes:=#[dT,sT] })
    (v u:Value) (hd:a.eval d=v) (hx:a.eval x=u) {v':Value} {w':World} (hr:(Builtin.copy_ #[dT,sT] o.type #[v,u]).run P w = .ok v' w') (hK:K (a.put o.dst v') w') :
    if Region.wanted o (yielded ops a.tmps)=true then Oper.wp P o a w K Q else E:=by
  have hw:Region.wanted o (yielded ops a.tmps)=true:=by simp [Region.wanted,hg]
  rw [if_pos hw]
  unfold Oper.wp
  simp [execOp,hop,resolve,invoke,builtin,hd,hx,hr,Result.andThen]
  exact hK
theorem impl_PutFeature.someset (b:Nat) (vs:List Value) (o:Nat) (w:World) (h:∀ j,j<vs.length→(w.cell? ⟨b,o+j,none⟩).isSome=true) (k:Nat) (hk:(w.cell? ⟨b,k,none⟩).isSome=true):((w.setCells b o vs).cell? ⟨b,k,none⟩).isSome=true:=by
  by_cases hin:o≤k∧k<o+vs.length
  · have:=World.cell?_setCells_in b vs o w h (k-o) (by omega)
    rw [show o+(k-o)=k by omega] at this
    have hlt:k-o<vs.length:=by omega
    rw [this];rfl
  · rw [World.cell?_setCells_out b vs o w ⟨b,k,none⟩ (fun _ _=>by show k<o∨o+vs.length≤k;omega)]
    exact hk
theorem impl_PutFeature.addat (b o j:Nat):(⟨b,o,none⟩:Addr).add j=⟨b,o+j,none⟩:=by simp [Addr.add]
/-- There is room, i < len: in place. -/
theorem impl_PutFeature.shift (b n c i vb:Nat) (inner vs:List Value) (cur cv:Array Value) (w:World) (hi:i<n) (hroom:n+1≤c) (hc63:c≤9223372036854775807) (hvb:vb≠b)
    (hb:w.heap[b]?=some (.cells cur 34 (0,0))) (hcur:cur.size=c*5) (htk:cur.toList.take (n*5)=inner) (hil:inner.length=n*5)
    (hv:w.heap[vb]?=some (.cells cv 34 (0,0))) (hcv:cv.toList=vs) (hvl:vs.length=5) (h1c:∀ v∈inner,v.oneCell'=true) (h1v:∀ v∈vs,v.oneCell'=true) :
    Calls Try.prog 40 #[.slice (some ⟨b,0,none⟩) n c,.int .i64 i,.slice (some ⟨vb,0,none⟩) 1 1] w fun e w' =>
      e = .returned (.slice (some ⟨b,0,none⟩) (n+1) c)∧w'=(w.drew.setCells b ((i+1)*5) (inner.drop (i*5))).setCells b (i*5) vs:=by
  have hu28:=Try.underlying28
  have hsz:(Try.prog.info? 34).map (·.size)=some 5:=by
    obtain⟨i0,hi0,h0,h1,h2⟩:=info_parts info34
    rw [hi0];simp [h1]
  have hcs:∀ j v,inner[j]?=some v→w.cell? ⟨b,j,none⟩=some v:=fun j v hj=>by
    rw [blk_cell hb,← Array.getElem?_toList]
    rw [← htk,List.getElem?_take] at hj
    split at hj
    · exact hj
    · cases hj
  have hsp:∀ j,j<c*5→(w.cell? ⟨b,j,none⟩).isSome=true:=fun j hj=>by rw [blk_cell hb,Array.getElem?_eq_getElem (by omega)];rfl
  have hfz:∀ j,w.frozen? ⟨b,j,none⟩=false:=fun j=>blk_frozen hb j
  have hvs:∀ j v,vs[j]?=some v→w.cell? ⟨vb,j,none⟩=some v:=fun j v hj=>by rw [blk_cell hv,← Array.getElem?_toList,hcv];exact hj
  have hz1:¬ ((1:Int)=0):=by omega
  have hz2:¬ ((i:Int)=(n:Int)):=by omega
  have hov:∀ lb cb,(callFunc 63 #[.slice (some ⟨vb,0,none⟩) 1 1,.slice (some ⟨b,(i+1)*5,none⟩) lb cb]).run Try.prog w = .ok (.value (.bool false)) w:=fun lb cb=>by
    rw [run_callFunc_extern Try.func63 (by kernel_rfl) (by kernel_rfl) (by kernel_rfl) (e:=Extern.SlicesOverlaps.overlaps #[28,28] #[4]) (by kernel_rfl),
      Lib.run_overlaps_apart w 28 4 34 Try.underlying28 5 (fun w=>by obtain⟨i0,hi0,h0,h1,h2⟩:=info_parts info34;simp [sizeOf,typeInfo,hi0,h1]) ⟨vb,0,none⟩ ⟨b,(i+1)*5,none⟩ 1 1 lb cb hvb 34 34 cv.size cur.size (by simp [World.shape?,hv]) (by simp [World.shape?,hb]) (by omega) (blk_frozen hv 0) (blk_frozen hv _)]
    rfl
  have hdl:(inner.drop (i*5)).length=(n-i)*5:=by rw [List.length_drop,hil,Nat.sub_mul]
  have hw1:IntKind.i64.wrap ((i:Int)+1)=(i:Int)+1:=by rw [IntKind.wrap_i64];omega
  have hw2:IntKind.i64.wrap ((n:Int)+1)=(n:Int)+1:=by rw [IntKind.wrap_i64];omega
  have hg2:¬ ((c:Int)<(n:Int)+1):=by omega
  have hb1:(0:Int)≤(i:Int)+1:=by omega
  have hin:i≤n:=by omega
  have hb2:¬ (c=i+1):=by omega
  have hb3:(i:Int)≤(n:Int)+1:=by omega
  have hb4:¬ (c=i):=by omega
  have hb5:i≤n+1:=by omega
  have hb6:n+1≤c:=hroom
  have hb7:(n:Int)+1≤(c:Int):=by omega
  have htn:((i:Int)+1).toNat=i+1:=by omega
  have hcp1:∀ ty dc sc,(Builtin.copy_ #[28,28] ty #[.slice (some ⟨b,(i+1)*5,none⟩) (n-i) dc,.slice (some ⟨b,i*5,none⟩) (n+1-i) sc]).run Try.prog w.drew = .ok (goInt (Nat.min (n+1-i) (n-i))) (w.drew.setCells b ((i+1)*5) (inner.drop (i*5))):=fun ty dc sc =>
    impl_PutFeature.copyN w.drew _ _ ty 34 5 b ((i+1)*5) (n-i) dc ⟨b,i*5,none⟩ (n+1-i) sc (inner.drop (i*5)) hu28 hsz (by rw [hdl];congr 1;simp only[Nat.min_def];split <;> omega)
      (fun j v hj=>by rw [impl_PutFeature.addat];exact hcs (i*5+j) v (by rwa [List.getElem?_drop] at hj))
      (fun j hj=>hsp _ (by rw [hdl] at hj;omega)) (fun j hj=>hfz _) (fun v hv=>h1c v (List.mem_of_mem_drop hv))
  obtain⟨W1,hW1⟩:∃ W1,W1=w.drew.setCells b ((i+1)*5) (inner.drop (i*5)):=⟨_,rfl⟩
  have hsp1:∀ k,k<c*5→(W1.cell? ⟨b,k,none⟩).isSome=true:=fun k hk=>by
    rw [hW1]
    exact impl_PutFeature.someset b (inner.drop (i*5)) ((i+1)*5) w.drew (fun j hj=>hsp _ (by rw [hdl] at hj;omega)) k (hsp k hk)
  have hcp2:∀ (W:World),(∀ x,W.cell? x=W1.cell? x)→(∀ x,W.frozen? x=W1.frozen? x)→∀ ty dc,(Builtin.copy_ #[28,28] ty #[.slice (some ⟨b,i*5,none⟩) (n+1-i) dc,.slice (some ⟨vb,0,none⟩) 1 1]).run Try.prog W = .ok (goInt (Nat.min 1 (n+1-i))) (W.setCells b (i*5) vs):=fun W hWc hWf ty dc =>
    impl_PutFeature.copyN W _ _ ty 34 5 b (i*5) (n+1-i) dc ⟨vb,0,none⟩ 1 1 vs hu28 hsz (by rw [hvl];simp only[Nat.min_def];split <;> omega)
      (fun j v hj=>by
        rw [impl_PutFeature.addat,Nat.zero_add,hWc,hW1,World.cell?_setCells_out b _ _ _ _ (fun h _=>absurd h hvb)]
        exact hvs j v hj)
      (fun j hj=>by rw [hWc];exact hsp1 _ (by omega)) (fun j hj=>by rw [hWf,hW1,World.frozen?_setCells];exact hfz _) h1v
  rw [← hW1] at hcp1
  clear hb hv htk hcs hsp hvs hsp1 hcur
  go_enter Try.func40,Try.ntmps40
  go_wp2_with (simp only[hov])
  go_region_law (refine impl_PutFeature.stepcopy rfl _ _ 28 28 rfl _ _ z183_ z183_ (hcp1 _ _ _) ?_)
  go_wp2_with (at_builtin;refine impl_PutFeature.wpcopy _ rfl _ _ 28 28 rfl _ _ rfl rfl (hcp2 _ (fun _=>rfl) (fun _=>rfl) _ _) ?_)
  go_ret
  first|exact⟨rfl,rfl⟩|exact⟨rfl,by rw [hW1]⟩
/-- There is no room, i < len: a new row; the elder one's cells are as they were. -/
theorem impl_PutFeature.grow (b n c i vb:Nat) (inner vs:List Value) (cur cv:Array Value) (w:World) (hi:i<n) (hnc:n≤c) (hroom:c<n+1) (hbig:(n+1)*64≤140737488355328)
    (hb:w.heap[b]?=some (.cells cur 34 (0,0))) (hcur:cur.size=c*5) (htk:cur.toList.take (n*5)=inner) (hil:inner.length=n*5)
    (hv:w.heap[vb]?=some (.cells cv 34 (0,0))) (hcv:cv.toList=vs) (hvl:vs.length=5) (h1c:∀ v∈inner,v.oneCell'=true) (h1v:∀ v∈vs,v.oneCell'=true) :
    Calls Try.prog 40 #[.slice (some ⟨b,0,none⟩) n c,.int .i64 i,.slice (some ⟨vb,0,none⟩) 1 1] w fun e w' =>
      ∃ (G:Nat) (ROW:Array Value),n+1≤G∧G≤maxLen∧ROW.size=G*5∧ROW.toList.take (i*5)=inner.take (i*5)∧e = .returned (.slice (some ⟨w.heap.size,0,none⟩) (n+1) G)∧w'=(((w.alloc (.cells ROW 34)).drew.setCells w.heap.size (i*5) vs).drew).setCells w.heap.size ((i+1)*5) (inner.drop (i*5)):=by
  have hu28:=Try.underlying28
  have hu3:=Try.underlying3
  obtain⟨i0,hi0,hz0,hzs,hzb⟩:=info_parts info34
  have hsz:(Try.prog.info? 34).map (·.size)=some 5:=by rw [hi0];simp [hzs]
  have hcs:∀ j v,inner[j]?=some v→w.cell? ⟨b,j,none⟩=some v:=fun j v hj=>by
    rw [blk_cell hb,← Array.getElem?_toList]
    rw [← htk,List.getElem?_take] at hj
    split at hj
    · exact hj
    · cases hj
  have hvs:∀ j v,vs[j]?=some v→w.cell? ⟨vb,j,none⟩=some v:=fun j v hj=>by rw [blk_cell hv,← Array.getElem?_toList,hcv];exact hj
  have hbw:b<w.heap.size:=(Array.getElem?_eq_some_iff.1 hb).1
  have hvw:vb<w.heap.size:=(Array.getElem?_eq_some_iff.1 hv).1
  have hz1:¬ ((1:Int)=0):=by omega
  have hz2:¬ ((i:Int)=(n:Int)):=by omega
  have hz3:(c:Int)<(n:Int)+1:=by omega
  have hkk:(n:Int)+1-(i:Int)=((n+1-i:Nat):Int):=by omega
  have hik:i+(n+1-i)=n+1:=by omega
  have hold:(Builtin.firstCells i0.size i (.slice (some ⟨b,0,none⟩) i c)).run Try.prog w.drew = .ok (inner.take (i*5)).toArray w.drew:=by
    rw [hzs]
    exact run_firstCells_some w.drew 5 i ⟨b,0,none⟩ i c (inner.take (i*5)) (by rw [List.length_take,hil];omega) (fun j v hj=>by
      rw [impl_PutFeature.addat,Nat.zero_add]
      rw [List.getElem?_take] at hj
      split at hj
      · exact hcs j v hj
      · cases hj)
  have hrz:∀ ty,(Builtin.append_ #[28,3] ty #[.slice (some ⟨b,0,none⟩) i c,.int .i64 ((n:Int)+1-(i:Int))]).run Try.prog w =
      .ok (.slice (some ⟨w.heap.size,0,none⟩) (n+1) (grownCap w (n+1) c 34)) (w.drew.alloc (.cells ((inner.take (i*5)).toArray++Builtin.zeroCells (Value.agg #[(.int .i64 0),(.int .i64 0),(.int .i64 0),(.string ⟨#[]⟩),(.slice none 0 0)]).cells (n+1-i)++Builtin.zeroCells (Value.agg #[(.int .i64 0),(.int .i64 0),(.int .i64 0),(.string ⟨#[]⟩),(.slice none 0 0)]).cells (grownCap w (n+1) c 34-(n+1))) 34)):=fun ty=>by
    have h:=Lib.run_append_grow_zeros w 28 3 ty 34 i0 _ .i64 .i64 hu28 hu3 hi0 hz0 (some ⟨b,0,none⟩) i c (inner.take (i*5)) hold (n+1-i) (by omega) (by omega) (by omega) (by omega) (by rw [hzb];omega) (by rw [hzb,hik];exact growslice_fits hroom hbig)
    rw [hik] at h
    rw [hkk]
    exact h
  obtain⟨G,hG⟩:∃ G,G=grownCap w (n+1) c 34:=⟨_,rfl⟩
  obtain⟨ROW,hROW⟩:∃ ROW:Array Value,ROW=(inner.take (i*5)).toArray++Builtin.zeroCells (Value.agg #[(.int .i64 0),(.int .i64 0),(.int .i64 0),(.string ⟨#[]⟩),(.slice none 0 0)]).cells (n+1-i)++Builtin.zeroCells (Value.agg #[(.int .i64 0),(.int .i64 0),(.int .i64 0),(.string ⟨#[]⟩),(.slice none 0 0)]).cells (G-(n+1)):=⟨_,rfl⟩
  rw [← hG] at hrz
  rw [← hROW] at hrz
  have hGn:n+1≤G:=by rw [hG];exact grownCap_ge w _ _ _
  have hGm:G≤maxLen:=by
    have:=grownCap_le_maxLen w (n+1) c 34 (by unfold maxLen;omega)
    rwa [← hG] at this
  have hG63:G≤9223372036854775807:=by unfold maxLen at hGm;omega
  have hlz:∀ m,(Builtin.zeroCells (Value.agg #[(.int .i64 0),(.int .i64 0),(.int .i64 0),(.string ⟨#[]⟩),(.slice none 0 0)]).cells m).size=m*5:=fun m=>by
    simp [Builtin.zeroCells,Value.cells]
  have hRs:ROW.size=G*5:=by
    rw [hROW,Array.size_append,Array.size_append,hlz,hlz,List.size_toArray,List.length_take,hil]
    omega
  have hRt:ROW.toList.take (i*5)=inner.take (i*5):=by
    rw [hROW,Array.toList_append,Array.toList_append,List.append_assoc]
    exact List.take_left' (by simp [hil];omega)
  obtain⟨W1,hW1⟩:∃ W1,W1=w.drew.alloc (.cells ROW 34):=⟨_,rfl⟩
  rw [← hW1] at hrz
  have hN:∀ j,j<G*5→(W1.cell? ⟨w.heap.size,j,none⟩).isSome=true:=fun j hj=>by
    rw [hW1,World.cell?_alloc_at (w:=w.drew) ROW _ w.heap.size j rfl,Array.getElem?_eq_getElem (by omega)];rfl
  have hNf:∀ j,W1.frozen? ⟨w.heap.size,j,none⟩=false:=fun j=>by rw [hW1];exact World.frozen?_alloc_at (w:=w.drew) ROW _ w.heap.size j rfl
  have hOb:∀ j v,w.cell? ⟨b,j,none⟩=some v→W1.cell? ⟨b,j,none⟩=some v:=fun j v h=>by rw [hW1,World.cell?_alloc_past (w:=w.drew) _ b j hbw];exact h
  have hOv:∀ j v,w.cell? ⟨vb,j,none⟩=some v→W1.cell? ⟨vb,j,none⟩=some v:=fun j v h=>by rw [hW1,World.cell?_alloc_past (w:=w.drew) _ vb j hvw];exact h
  have hcpA:∀ (W:World),(∀ x,W.cell? x=W1.cell? x)→(∀ x,W.frozen? x=W1.frozen? x)→∀ ty dc,(Builtin.copy_ #[28,28] ty #[.slice (some ⟨w.heap.size,i*5,none⟩) (n+1-i) dc,.slice (some ⟨vb,0,none⟩) 1 1]).run Try.prog W = .ok (goInt (Nat.min 1 (n+1-i))) (W.setCells w.heap.size (i*5) vs):=fun W hWc hWf ty dc =>
    impl_PutFeature.copyN W _ _ ty 34 5 w.heap.size (i*5) (n+1-i) dc ⟨vb,0,none⟩ 1 1 vs hu28 hsz (by rw [hvl];simp only[Nat.min_def];split <;> omega)
      (fun j v hj=>by rw [impl_PutFeature.addat,Nat.zero_add,hWc];exact hOv _ v (hvs j v hj))
      (fun j hj=>by rw [hWc];exact hN _ (by omega)) (fun j hj=>by rw [hWf];exact hNf _) h1v
  have hGi:¬ (G=i):=by omega
  have hGim:¬ (G=i+1):=by omega
  have hci:¬ (c=i):=by omega
  have hbN:b≠w.heap.size:=by omega
  have hdl:(inner.drop (i*5)).length=(n-i)*5:=by rw [List.length_drop,hil,Nat.sub_mul]
  have hcpB:∀ (W:World),(∀ x,W.cell? x=(W1.setCells w.heap.size (i*5) vs).cell? x)→(∀ x,W.frozen? x=(W1.setCells w.heap.size (i*5) vs).frozen? x)→∀ ty dc sc,(Builtin.copy_ #[28,28] ty #[.slice (some ⟨w.heap.size,(i+1)*5,none⟩) (n-i) dc,.slice (some ⟨b,i*5,none⟩) (n-i) sc]).run Try.prog W = .ok (goInt (Nat.min (n-i) (n-i))) (W.setCells w.heap.size ((i+1)*5) (inner.drop (i*5))):=fun W hWc hWf ty dc sc =>
    impl_PutFeature.copyN W _ _ ty 34 5 w.heap.size ((i+1)*5) (n-i) dc ⟨b,i*5,none⟩ (n-i) sc (inner.drop (i*5)) hu28 hsz (by rw [hdl];congr 1;simp only[Nat.min_def];split <;> omega)
      (fun j v hj=>by
        rw [impl_PutFeature.addat,hWc,World.cell?_setCells_out _ _ _ _ _ (fun h _=>absurd h hbN)]
        exact hOb _ v (hcs (i*5+j) v (by rwa [List.getElem?_drop] at hj)))
      (fun j hj=>by rw [hWc];exact impl_PutFeature.someset w.heap.size vs (i*5) W1 (fun t ht=>hN _ (by omega)) _ (hN _ (by rw [hdl] at hj;omega)))
      (fun j hj=>by rw [hWf,World.frozen?_setCells];exact hNf _) (fun v hv=>h1c v (List.mem_of_mem_drop hv))
  subst hW1
  have hE1:∀ x,((w.alloc (.cells ROW 34)).drew).cell? x=(w.drew.alloc (.cells ROW 34)).cell? x:=fun x=>rfl
  have hE2:∀ x,((w.alloc (.cells ROW 34)).drew).frozen? x=(w.drew.alloc (.cells ROW 34)).frozen? x:=fun x=>rfl
  have hF1:∀ x,(((w.alloc (.cells ROW 34)).drew.setCells w.heap.size (i*5) vs).drew).cell? x=((w.drew.alloc (.cells ROW 34)).setCells w.heap.size (i*5) vs).cell? x:=fun x=>rfl
  have hF2:∀ x,(((w.alloc (.cells ROW 34)).drew.setCells w.heap.size (i*5) vs).drew).frozen? x=((w.drew.alloc (.cells ROW 34)).setCells w.heap.size (i*5) vs).frozen? x:=fun x=>rfl
  have hw1:IntKind.i64.wrap ((i:Int)+1)=(i:Int)+1:=by rw [IntKind.wrap_i64];omega
  have hw2:IntKind.i64.wrap ((n:Int)+1)=(n:Int)+1:=by rw [IntKind.wrap_i64];omega
  have hw3:IntKind.i64.wrap ((n:Int)+1-(i:Int))=(n:Int)+1-(i:Int):=by rw [IntKind.wrap_i64];omega
  have hb1:(0:Int)≤(i:Int)+1:=by omega
  have hin:i≤n:=by omega
  have hb3:(i:Int)≤(n:Int):=by omega
  have hb5:i≤n+1:=by omega
  have hb6:i≤c:=by omega
  have hb8:(i:Int)≤(n:Int)+1:=by omega
  have htn:((i:Int)+1).toNat=i+1:=by omega
  clear hkk hik hold hROW hG hb hv htk hcs hvs hN hNf hOb hOv hlz hcur
  go_enter Try.func40,Try.ntmps40
  go_wp2_with (first
    | (at_builtin;refine Lib.wpList_append_run _ rfl _ _ _ _ rfl _ _ rfl rfl _ _ (hrz _) ?_)
    | (at_builtin;refine impl_PutFeature.wpcopy _ rfl _ _ 28 28 rfl _ _ rfl rfl (hcpA _ hE1 hE2 _ _) ?_)
    | (at_builtin;refine impl_PutFeature.wpcopy _ rfl _ _ 28 28 rfl _ _ rfl rfl (hcpB _ (fun _=>rfl) (fun _=>rfl) _ _ _) ?_))
  go_region_law (refine impl_PutFeature.stepcopy rfl _ _ 28 28 rfl (.slice (some ⟨w.heap.size,(i+1)*5,none⟩) (n-i) (G-(i+1))) (.slice (some ⟨b,i*5,none⟩) (n-i) (c-i)) z183_ z183_ (hcpB _ hF1 hF2 3 (G-(i+1)) (c-i)) ?_)
  go_wp2
  go_ret
  exact⟨G,ROW,hGn,hGm,hRs,hRt,rfl,rfl⟩
/-- i = len: an append. -/
theorem impl_PutFeature.insend (v:Value) (rows:List (List Value)) (vs:List Value) (vb base:Nat) (cv:Array Value) (w:World) (HO:(Kd.raw 5).R 34 w base (fun _=>True) v rows) (hbase:base≤w.heap.size)
    (hv:w.heap[vb]?=some (.cells cv 34 (0,0))) (hcv:cv.toList=vs) (hvl:vs.length=5) (h1v:∀ v∈vs,v.oneCell'=true) (hbig:(rows.length+1)*64≤140737488355328) :
    Calls Try.prog 40 #[v,.int .i64 rows.length,.slice (some ⟨vb,0,none⟩) 1 1] w fun e w' =>
      ∃ v',e = .returned v'∧(Kd.raw 5).R 34 w' base (fun _=>True) v' (rows++[vs])∧Below base w w'∧w.grownBy w' v.ownBlock∧(v'.ownBlock=v.ownBlock ∨ ∃ b,v'.ownBlock=some b∧w.heap.size≤b):=by
  obtain⟨A,c,rfl⟩:=Kd.R_slice HO
  have hnc:=(Kd.R_reads' HO).2.1
  have hu28:=Try.underlying28
  have hz1:¬ ((1:Int)=0):=by omega
  have hvs:∀ j u,vs[j]?=some u→w.cell? ⟨vb,j,none⟩=some u:=fun j u hj=>by rw [blk_cell hv,← Array.getElem?_toList,hcv];exact hj
  have HR:ReadsRow (fun x c=>c=x∧c.length=5∧∀ u∈c,u.oneCell'=true) (Kd.raw 5).sz w (some ⟨vb,0,none⟩) 1 [vs]:=by
    refine⟨rfl,by decide,fun _=>⟨_,rfl,fun j p hj=>?_⟩⟩
    obtain⟨hj0,rfl⟩:j=0∧vs=p:=by
      cases j with
      | zero=>exact⟨rfl,by simpa using hj⟩
      | succ j=>simp at hj
    subst hj0
    refine⟨vs,hvl,⟨rfl,hvl,h1v⟩,fun k u hk=>?_⟩
    rw [Nat.zero_mul,Nat.zero_add,impl_PutFeature.addat,Nat.zero_add]
    exact hvs k u hk
  obtain⟨i0,hi0,hz0,hzs,hzb⟩:=info_parts info34
  have hcut:=cut_from (P:=Try.prog) 28 34 .i64 hu28 hi0 5 hzs A rows.length c (rows.length:Int) (by omega) (by omega)
  generalize (if c=((rows.length:Int)).toNat then A else A.map (·.add (((rows.length:Int)).toNat*5)))=A12 at hcut
  clear hvs hv
  go_enter Try.func40,Try.ntmps40
  go_wp2_with (first|(at_builtin;refine Kd.R_append_rows (Kd.raw 5) (w0:=w) base rfl (.tmp 23) (.tmp 24) 28 34 (.agg #[(.int .i64 0),(.int .i64 0),(.int .i64 0),(.string ⟨#[]⟩),(.slice none 0 0)]) 64 rfl Try.underlying28 info34 rfl (by decide) (by omega) (.slice A rows.length c) rows [vs] (some ⟨vb,0,none⟩) 1 1 (fun _=>True) (fun _=>False) rfl rfl HO HR (fun _ _ h=>h) (fun _ hk=>hk.elim) (fun _ _=>trivial) (Below.refl _ _) hbase hbig ?_;intro v1 w1 h1 h2 h3 h4))
  go_ret
  exact⟨v1,rfl,h1,h2,h3,h4⟩
theorem impl_PutFeature.lst1 (P D R C V:List Value) (p:Nat) (hC:C=P++D++R) (hp:P.length=p+5) (hv:V.length=5):C.take p++V++C.drop (p+V.length)=P.take p++V++D++R:=by
  subst hC
  rw [hv,List.append_assoc P D R,List.take_append_of_le_length (by omega),List.drop_append_of_le_length (by omega),List.drop_of_length_le (by omega)]
  simp
theorem impl_PutFeature.reps1 {vs:List Value} (hvl:vs.length=5) (h1v:∀ v∈vs,v.oneCell'=true) (w:World) (base:Nat) (ok:Nat→Prop):Reps ((Kd.raw 5).M w base ok) 5 [vs] vs:=by
  refine⟨by simp [hvl],fun j p hj=>?_⟩
  obtain⟨hj0,rfl⟩:j=0∧vs=p:=by
    cases j with
    | zero=>exact⟨rfl,by simpa using hj⟩
    | succ j=>simp at hj
  subst hj0
  rw [Nat.zero_mul,List.drop_zero,List.take_of_length_le (by omega)]
  exact⟨rfl,hvl,h1v⟩
/-- slices.Insert of one element, whatever the road. -/
theorem impl_PutFeature.insr (v:Value) (rows:List (List Value)) (i:Nat) (vs:List Value) (vb base:Nat) (cv:Array Value) (w:World) (HO:(Kd.raw 5).R 34 w base (fun _=>True) v rows) (hbase:base≤w.heap.size) (hi:i≤rows.length)
    (hv:w.heap[vb]?=some (.cells cv 34 (0,0))) (hcv:cv.toList=vs) (hvl:vs.length=5) (h1v:∀ v∈vs,v.oneCell'=true) (hne:v.ownBlock≠some vb) (hbig:(rows.length+1)*64≤140737488355328) :
    Calls Try.prog 40 #[v,.int .i64 i,.slice (some ⟨vb,0,none⟩) 1 1] w fun e w' =>
      ∃ v',e = .returned v'∧(Kd.raw 5).R 34 w' base (fun _=>True) v' (rows.take i++[vs]++rows.drop i)∧Below base w w'∧w.grownBy w' v.ownBlock∧(v'.ownBlock=v.ownBlock ∨ ∃ b,v'.ownBlock=some b∧w.heap.size≤b):=by
  by_cases c:i=rows.length
  · subst c
    rw [List.take_length,List.drop_length,List.append_nil]
    exact impl_PutFeature.insend v rows vs vb base cv w HO hbase hv hcv hvl h1v hbig
  have hlt:i<rows.length:=by omega
  obtain⟨_,inner,hown,hr⟩:=id HO
  have hil:inner.length=rows.length*5:=hown.1
  rcases hown.2 with ⟨_,hn⟩|⟨g,cap,cur,rfl,hbg,hh,hnc,hcm,hcs,htk⟩
  · omega
  have hcs':cur.size=cap*5:=hcs
  have htk':cur.toList.take (rows.length*5)=inner:=htk
  have hc63:cap≤9223372036854775807:=by unfold maxLen at hcm;omega
  have h1c:=Kd.reps_one hr (by decide) (fun _ _ h=>h.2.2)
  have hrep:Reps ((Kd.raw 5).M w base (fun _=>True)) 5 (rows.take i++[vs]++rows.drop i) (inner.take (i*5)++vs++inner.drop (i*5)):=Kd.reps_append (Kd.reps_append (Kd.reps_take (m:=i) (hr.imp_ (fun _ _ h=>h)) (by omega)) (impl_PutFeature.reps1 hvl h1v _ _ _)) (Kd.reps_drop (m:=i) (hr.imp_ (fun _ _ h=>h)))
  have hrl:(rows.take i++[vs]++rows.drop i).length=rows.length+1:=by simp;omega
  have hdl:(inner.drop (i*5)).length=(rows.length-i)*5:=by rw [List.length_drop,hil,Nat.sub_mul]
  have hnl:(inner.take (i*5)++vs++inner.drop (i*5)).length=(rows.length+1)*5:=by simp [hil,hvl];omega
  have hcl:cur.toList.length=cap*5:=by rw [Array.length_toList];exact hcs'
  have htk2:cur.toList.take (i*5)=inner.take (i*5):=by rw [← htk',List.take_take,Nat.min_eq_left (by omega)]
  by_cases hroom:rows.length+1≤cap
  · refine(impl_PutFeature.shift g rows.length cap i vb inner vs cur cv w hlt hroom hc63 (fun e=>hne (by rw [e];rfl)) hh hcs' htk' hil hv hcv hvl h1c h1v).mono ?_
    rintro e w' ⟨rfl,rfl⟩
    obtain⟨cur1,a1,a2,a3⟩:=setCells_row (inner.drop (i*5)) ((i+1)*5) w.drew cur hh (by omega)
    obtain⟨cur2,b1,b2,b3⟩:=setCells_row vs (i*5) _ cur1 a1 (by omega)
    rw [impl_PutFeature.lst1 _ _ _ _ vs (i*5) a3 (by rw [List.length_take,hcl];omega) hvl,List.take_take,Nat.min_eq_left (by omega),htk2] at b3
    obtain⟨s1,s2,s3,s4⟩:=setCells_same g (inner.drop (i*5)) ((i+1)*5) w.drew
    obtain⟨t1,t2,t3,t4⟩:=setCells_same g vs (i*5) (w.drew.setCells g ((i+1)*5) (inner.drop (i*5)))
    have hg:w.grownBy ((w.drew.setCells g ((i+1)*5) (inner.drop (i*5))).setCells g (i*5) vs) (Value.slice (some ⟨g,0,none⟩) rows.length cap).ownBlock :=
      ⟨t1.trans s1,t2.trans s2,t3.trans s3,by rw [t4,s4];exact Nat.le_refl _,fun k _ hk=>(setCells_far vs _ k (fun e=>hk (by rw [e];rfl))).trans (setCells_far _ _ k (fun e=>hk (by rw [e];rfl)))⟩
    refine⟨_,rfl,⟨fun _ _=>trivial,_,⟨by rw [hrl];exact hnl,.inr ⟨g,cap,cur2,by rw [hrl],hbg,b1,by rw [hrl];exact hroom,hcm,by rw [b2,a2];exact hcs,?_⟩⟩,hrep⟩,(Below.refl base w).grown hg hbase (Kd.R_base HO),hg,.inl rfl⟩
    rw [hrl,b3]
    exact List.take_left' hnl
  · refine(impl_PutFeature.grow g rows.length cap i vb inner vs cur cv w hlt hnc (by omega) hbig hh hcs' htk' hil hv hcv hvl h1c h1v).mono ?_
    rintro e w' ⟨G,ROW,hG,hGm,hRs,hRt,rfl,rfl⟩
    have hN:((w.alloc (.cells ROW 34)).drew).heap[w.heap.size]?=some (.cells ROW 34 (0,0)):=heap_alloc_new w _
    obtain⟨cur1,a1,a2,a3⟩:=setCells_row vs (i*5) (w.alloc (.cells ROW 34)).drew ROW hN (by omega)
    obtain⟨cur2,b1,b2,b3⟩:=setCells_row (inner.drop (i*5)) ((i+1)*5) ((w.alloc (.cells ROW 34)).drew.setCells w.heap.size (i*5) vs).drew cur1 a1 (by omega)
    have hRl:ROW.toList.length=G*5:=by rw [Array.length_toList];exact hRs
    rw [a3,List.take_left' (by rw [List.length_append,List.length_take,hRl,hvl];omega),hRt] at b3
    obtain⟨s1,s2,s3,s4⟩:=setCells_same w.heap.size vs (i*5) (w.alloc (.cells ROW 34)).drew
    obtain⟨t1,t2,t3,t4⟩:=setCells_same w.heap.size (inner.drop (i*5)) ((i+1)*5) ((w.alloc (.cells ROW 34)).drew.setCells w.heap.size (i*5) vs).drew
    have hsz:(w.alloc (.cells ROW 34)).heap.size=w.heap.size+1:=by show (Array.push _ _).size=_;exact Array.size_push _
    have hg:w.grownBy ((((w.alloc (.cells ROW 34)).drew.setCells w.heap.size (i*5) vs).drew).setCells w.heap.size ((i+1)*5) (inner.drop (i*5))) (Value.slice (some ⟨g,0,none⟩) rows.length cap).ownBlock :=
      ⟨t1.trans s1,t2.trans s2,t3.trans s3,by rw [t4];show _≤((w.alloc (.cells ROW 34)).drew.setCells w.heap.size (i*5) vs).heap.size;rw [s4];show _≤(w.alloc (.cells ROW 34)).heap.size;omega,fun k hk _=>(setCells_far _ _ k (by omega)).trans ((setCells_far _ _ k (by omega)).trans ((World.grownBy_alloc w _ none).block k hk (by simp)))⟩
    refine⟨_,rfl,⟨fun _ _=>trivial,_,⟨by rw [hrl];exact hnl,.inr ⟨w.heap.size,G,cur2,by rw [hrl],hbase,b1,by rw [hrl];exact hG,hGm,by rw [b2,a2];exact hRs,?_⟩⟩,hrep⟩,(Below.refl base w).grown hg hbase (Kd.R_base HO),hg,.inr ⟨_,rfl,Nat.le_refl _⟩⟩
    rw [hrl,b3]
    exact List.take_left' hnl
open Classical in
/-- A row that is held apart, an element put in: of its cells as they stand behind it, and what its elements lead to. -/
theorem impl_PutFeature.sput {α:Type} {d:Kd α} {e base i:Nat} {W:World} {ok okp:Nat→Prop} {v:Value} {xs:List α} {p:α} {cs:List Value} (hi:i≤xs.length) (hp:d.M W base okp p cs) (hokp:∀ k,okp k→ok k∧some k≠v.ownBlock)
    (hfresh:∀ k,W.heap.size≤k→ok k) (HO:Kd.S d e W base (fun k=>ok k∧¬ okp k) v xs) :
    ∃ rows:List (List Value),rows.length=xs.length∧(Kd.raw d.sz).R e W base (fun _=>True) v rows ∧
      ∀ (w':World) (v':Value),((Kd.raw d.sz).R e w' base (fun _=>True) v' (rows.take i++[cs]++rows.drop i)→W.grownBy w' v.ownBlock→(v'.ownBlock=v.ownBlock ∨ ∃ b,v'.ownBlock=some b∧W.heap.size≤b)→Kd.S d e w' base ok v' (xs.take i++[p]++xs.drop i)):=by
  obtain⟨f,h0,inner,hown,hr⟩:=HO
  rw [List.length_zipIdx] at hown
  have hrl:=hr.1
  rw [List.length_zipIdx] at hrl
  refine⟨Kd.chunks d.sz xs.length inner,Kd.chunks_length _ _ _,⟨fun _ _=>trivial,inner,by rw [Kd.chunks_length];exact hown,by rw [Kd.chunks_length];exact hrl,fun j q hj=>?_⟩,fun w' v' hR hg hat=>?_⟩
  · have hjl:j<xs.length:=by have:=(List.getElem?_eq_some_iff.1 hj).1;rwa [Kd.chunks_length] at this
    have hM:=hr.2 j (xs[j],j) (Kd.zip_at (List.getElem?_eq_getElem hjl))
    exact⟨(Kd.chunks_get hj).symm,d.K_len (d.K_of_M hM),d.K_one (d.K_of_M hM)⟩
  · obtain⟨_,inner',hown',hr'⟩:=hR
    have hl':(Kd.chunks d.sz xs.length inner).length=xs.length:=Kd.chunks_length _ _ _
    have hlen:((Kd.chunks d.sz xs.length inner).take i++[cs]++(Kd.chunks d.sz xs.length inner).drop i).length=(xs.take i++[p]++xs.drop i).length:=by simp [hl']
    have hapart:∀ k,k<W.heap.size→some k≠v.ownBlock→some k≠v'.ownBlock:=fun k hk hne=>by
      rcases hat with h|⟨b,h,hle⟩
      · rw [h];exact hne
      · rw [h];intro he;injection he with he;omega
    have hmv:∀ {q:α} {c:List Value} {o o':Nat→Prop},d.M W base o q c→(∀ k,o k→some k≠v.ownBlock)→(∀ k,o k→o' k)→d.M w' base (fun k=>o' k∧some k≠v'.ownBlock) q c:=fun {q c o o'} h h1 h2 =>
      d.M_mono (fun k hk=>⟨h2 k hk.1,hapart k hk.2.2.1 (h1 k hk.1)⟩) (d.M_move (w1:=w') (fun k hk=>hg.block k hk.2.2.1 (h1 k hk.1)) (d.M_bound h))
    refine⟨fun b=>if okp b then i else if i≤f b then f b+1 else f b,fun k hk=>?_,inner',by rw [List.length_zipIdx,← hlen];exact hown',by rw [List.length_zipIdx,← hlen];exact hr'.1,fun j q hj=>?_⟩
    · rcases hat with h|⟨b,h,hle⟩
      · exact(h0 k (h ▸ hk)).1
      · rw [h] at hk;injection hk with hk;exact hfresh k (by omega)
    rw [List.getElem?_zipIdx,Nat.zero_add] at hj
    obtain⟨x,hx,rfl⟩:=Option.map_eq_some_iff.1 hj
    have old:∀ (jj:Nat) (y:α),xs[jj]?=some y→((Kd.chunks d.sz xs.length inner).take i++[cs]++(Kd.chunks d.sz xs.length inner).drop i)[j]?=(Kd.chunks d.sz xs.length inner)[jj]?→(if i≤jj then jj+1 else jj)=j →
        d.M w' base (fun k=>(ok k∧some k≠v'.ownBlock)∧(if okp k then i else if i≤f k then f k+1 else f k)=j) y ((inner'.drop (j*d.sz)).take d.sz):=fun jj y hy hrow hjj=>by
      have hjl:=(List.getElem?_eq_some_iff.1 hy).1
      rw [Kd.chunks_at hjl] at hrow
      have hc:=(hr'.2 j _ hrow).1
      have hc':(inner'.drop (j*d.sz)).take d.sz=(inner.drop (jj*d.sz)).take d.sz:=hc
      rw [hc']
      have hM:d.M W base (fun k=>((ok k∧¬ okp k)∧some k≠v.ownBlock)∧f k=jj) y ((inner.drop (jj*d.sz)).take d.sz):=hr.2 jj (y,jj) (Kd.zip_at hy)
      refine d.M_mono (fun k hk=>⟨⟨hk.1.1.1.1,hk.2⟩,?_⟩) (hmv (o':=fun k=>((ok k∧¬ okp k)∧some k≠v.ownBlock)∧f k=jj) hM (fun k hk=>hk.1.2) (fun k hk=>hk))
      rw [if_neg hk.1.1.1.2,hk.1.2]
      exact hjj
    show d.M w' base (fun k=>(ok k∧some k≠v'.ownBlock)∧(if okp k then i else if i≤f k then f k+1 else f k)=j) x ((inner'.drop (j*d.sz)).take d.sz)
    have htl:∀ {β:Type} (l:List β),l.length=xs.length→(l.take i).length=i:=fun l hl=>by rw [List.length_take,hl];omega
    rcases Nat.lt_trichotomy j i with hji|rfl|hji
    · have e1:∀ {β:Type} (l:List β) (q:β),l.length=xs.length→(l.take i++[q]++l.drop i)[j]?=l[j]?:=fun l q hl=>by
        rw [List.append_assoc,List.getElem?_append_left (by rw [htl l hl];exact hji),List.getElem?_take,if_pos hji]
      rw [e1 xs p rfl] at hx
      exact old j x hx (e1 _ cs hl') (if_neg (by omega))
    · have e1:∀ {β:Type} (l:List β) (q:β),l.length=xs.length→(l.take j++[q]++l.drop j)[j]?=some q:=fun l q hl=>by
        rw [List.append_assoc,List.getElem?_append_right (by rw [htl l hl];exact Nat.le_refl _),htl l hl,Nat.sub_self];rfl
      rw [e1 xs p rfl] at hx
      obtain rfl:=Option.some.inj hx
      have hc':(inner'.drop (j*d.sz)).take d.sz=cs:=(hr'.2 j _ (e1 _ cs hl')).1
      rw [hc']
      exact d.M_mono (fun k hk=>⟨⟨(hokp k hk.1).1,hk.2⟩,if_pos hk.1⟩) (hmv hp (fun k hk=>(hokp k hk).2) (fun k hk=>hk))
    · obtain⟨jj,rfl⟩:∃ jj,j=jj+1:=⟨j-1,by omega⟩
      have e1:∀ {β:Type} (l:List β) (q:β),l.length=xs.length→(l.take i++[q]++l.drop i)[jj+1]?=l[jj]?:=fun l q hl=>by
        rw [List.getElem?_append_right (by rw [List.length_append,htl l hl];simp;omega),List.length_append,htl l hl,List.getElem?_drop]
        congr 1;simp;omega
      rw [e1 xs p rfl] at hx
      exact old jj x hx (e1 _ cs hl') (if_pos (by omega))
/-- slices.Insert(s, i, p), the element lying in a block of its own that was made just ahead of it. -/
theorem impl_PutFeature.insev {ops:Array Oper} {rest:List Oper} {o:Oper} {a:Act} {Q:Exit→Act→World→Prop} {w0 W:World} (base:Nat) (hgd:o.guard=none) (s ix x:Operand)
    (hop:o.op = .call { callee:=.value (.func 40),args:=#[s,ix,x],argTypes:=#[28,3,28] }) {N:Tmp} (hd:o.dst=some N) (i:Int) (h0:0≤i) (v:Value) (xs:List S34) (p:S34) (cs:List Value) (ok okp:Nat→Prop) (h1:i≤(xs.length:Int))
    (hs:a.eval s=v) (hix:a.eval ix = .int .i64 i) (hx:a.eval x = .slice (some ⟨W.heap.size,0,none⟩) 1 1) (hp:k34.M W base okp p cs) (hokp:∀ k,okp k→ok k∧some k≠v.ownBlock) (hfresh:∀ k,W.heap.size≤k→ok k)
    (HO:Kd.S k34 34 W base (fun k=>ok k∧¬ okp k) v xs) (HB:Below base w0 W) (hbase:base≤W.heap.size) (hl:(xs.length+1)*64≤140737488355328)
    (h:∀ v1 w1,Kd.S k34 34 w1 base ok v1 (impl_PutFeature.ins xs i p)→Below base w0 w1→W.grownBy w1 v.ownBlock→(v1.ownBlock=v.ownBlock ∨ ∃ b,v1.ownBlock=some b∧W.heap.size≤b)→wpList Try.prog ops Q rest (a.put o.dst v1) w1) :
    wpList Try.prog ops Q (o::rest) a (W.alloc (.cells cs.toArray 34)):=by
  obtain⟨j,rfl⟩:=Int.eq_ofNat_of_zero_le h0
  simp only[impl_PutFeature.ins,Int.toNat_natCast] at h
  have hb:=below_alloc (Below.refl W.heap.size W) (.cells cs.toArray 34)
  have hp':k34.M (W.alloc (.cells cs.toArray 34)) base (fun k=>okp k∧k<W.heap.size) p cs:=Kd.M_step (k34.M_mono (fun k hk=>⟨hk.1,hk.2.2.1⟩) (k34.M_bound hp)) (fun k _ hk=>hb.block k hk)
  have HO':Kd.S k34 34 (W.alloc (.cells cs.toArray 34)) base (fun k=>ok k∧¬ (okp k∧k<W.heap.size)) v xs:=Kd.S_mono (Kd.S_alloc HO _) (fun k hk=>⟨hk.1,fun q=>hk.2 q.1⟩)
  have hsz:(W.alloc (.cells cs.toArray 34)).heap.size=W.heap.size+1:=by show (Array.push _ _).size=_;exact Array.size_push _
  have hvl:cs.length=5:=k34.K_len (k34.K_of_M hp)
  have h1v:=k34.K_one (k34.K_of_M hp)
  refine goesL_ (some N) hd hgd Try.func40 (by kernel_rfl) rfl #[v,.int .i64 j,.slice (some ⟨W.heap.size,0,none⟩) 1 1] hop (by simp [hs,hix,hx]) ?_
  obtain⟨rows,hrl,hraw,hput⟩:=impl_PutFeature.sput (d:=k34) (e:=34) (i:=j) (by omega) hp' (fun k hk=>hokp k hk.1) (fun k hk=>hfresh k (by omega)) HO'
  refine(impl_PutFeature.insr v rows j cs W.heap.size base cs.toArray _ hraw (by omega) (by omega) (blk_new W _) rfl hvl h1v (fun e=>Nat.lt_irrefl _ (Kd.S_lt HO _ e)) (by rw [hrl];exact hl)).mono ?_
  rintro e w' ⟨v',rfl,hR,hB,hg,hat⟩
  have hg0:=World.grownBy_alloc W (.cells cs.toArray 34) v.ownBlock
  have hat':v'.ownBlock=v.ownBlock ∨ ∃ b,v'.ownBlock=some b∧W.heap.size≤b:=hat.imp (fun h=>h) (fun ⟨b,h2,h3⟩=>⟨b,h2,by omega⟩)
  have hg1:W.grownBy w' v.ownBlock:=⟨hg.os.trans hg0.os,hg.tape.trans hg0.tape,hg.output.trans hg0.output,by have:=hg.size;omega,fun k hk hn=>(hg.block k (by omega) hn).trans (hg0.block k hk hn)⟩
  have h2:=h v' w' (hput w' v' hR hg hat) (HB.grown hg1 hbase (Kd.S_base HO)) hg1 hat'
  rw [hd] at h2
  exact⟨_,rfl,h2⟩
mutual
def impl_PutFeature.j1:Nat→List (S34)→List (S34)→Option ((List (S34)) × Bool)
 | 0,_,_=>none
 | k+1,x0,x6=>(impl_IsSource.f k x6).bind fun t289=>(if t289=true then (some (x6,true)) else ((impl_cloneSource.f k x0).bind fun t290=>(some (t290,false))))
def impl_PutFeature.l0:Nat→List (S34)→List (S34)→Int→Int→Int→Int→ByteArray→List (S75)→Option ((List (S34)) × Bool)
 | 0,_,_,_,_,_,_,_,_=>none
 | k+1,x0,x6,x8,x256000,x256001,x256002,x256003,x256004=>if x8<(x0.length:Int) then (if 0≤x8 then (if ((rd_T34 x0 x8).f0)<x256000 then (impl_PutFeature.l0 k x0 x6 (wrap64 (x8+1)) x256000 x256001 x256002 x256003 x256004) else ((impl_cloneFeature.f x256000 x256001 x256002 x256003 x256004).bind fun bt269=>(if (x6.length<2199023255552∧0≤x8∧x8≤(x6.length:Int)) then (impl_PutFeature.j1 k x0 (impl_PutFeature.ins x6 x8 (⟨bt269.1,bt269.2.1,bt269.2.2.1,bt269.2.2.2.1,bt269.2.2.2.2⟩:S34))) else (none)))) else (none)) else ((impl_cloneFeature.f x256000 x256001 x256002 x256003 x256004).bind fun bt279=>(if (x6.length<2199023255552∧0≤x8∧x8≤(x6.length:Int)) then (impl_PutFeature.j1 k x0 (impl_PutFeature.ins x6 x8 (⟨bt279.1,bt279.2.1,bt279.2.2.1,bt279.2.2.2.1,bt279.2.2.2.2⟩:S34))) else (none)))
end
def impl_PutFeature.f (k:Nat) (l0:List (S34)) (a1_0:Int) (a1_1:Int) (a1_2:Int) (a1_3:ByteArray) (l1_4:List (S75)):Option ((List (S34)) × Bool):=(impl_cloneSource.f k l0).bind fun t256=>((impl_FindFeature.f k l0 a1_0).bind fun t259=>(if t259≥0 then ((impl_cloneFeature.f a1_0 a1_1 a1_2 a1_3 l1_4).bind fun bt260=>(if 0≤t259 then (if t259<(t256.length:Int) then (impl_PutFeature.j1 k l0 (t256.set (t259:Int).toNat (⟨bt260.1,bt260.2.1,bt260.2.2.1,bt260.2.2.2.1,bt260.2.2.2.2⟩:S34))) else (none)) else (none))) else (impl_PutFeature.l0 k l0 t256 0 a1_0 a1_1 a1_2 a1_3 l1_4)))
theorem impl_PutFeature.calls (k:Nat) (P0_:Nat→Prop) (A0:Option Addr) (c0:Nat) (l0:List (S34)) (a1_0:Int) (a1_1:Int) (a1_2:Int) (a1_3:ByteArray) (A1_4:Option Addr) (c1_4:Nat) (l1_4:List (S75)) (r1:List (S34)) (r2:Bool) (w:World) (hs0:Kd.V k34 34 w w.heap.size (fun k_=>P0_ k_) (.slice A0 l0.length c0) l0) (hr1_4:Kd.C k75 w A1_4 l1_4.length l1_4) (hc1_4:l1_4.length≤c1_4) (h:impl_PutFeature.f k l0 a1_0 a1_1 a1_2 a1_3 l1_4=some (r1,r2)) :
  Calls Try.prog 12 #[.slice A0 l0.length c0,.agg #[.int .i64 a1_0,.int .i64 a1_1,.int .i64 a1_2,.string a1_3,.slice A1_4 l1_4.length c1_4]] w fun e w'=>∃ v0_:Value,e = .returned (.tuple #[v0_,.bool r2])∧Kd.S k34 34 w' w.heap.size (fun k_=>(w.heap.size≤k_)) v0_ r1∧Below w.heap.size w w':=by
 have hu34:=Try.underlying34
 have HO0:=z168_
 have HR1_4:=ak hr1_4
 have HC1_4:=ak hc1_4
 clear hr1_4 hc1_4
 have HB:=z52_
 have H:=h;clear h;unfold impl_PutFeature.f at H
 replace H:=Hd.bd_ H;obtain⟨t256,A3,H⟩:=H
 replace H:=Hd.bd_ H;obtain⟨t259,A4,H⟩:=H
 have HC5:=ak H
 clear H
 go_enter Try.func12,Try.ntmps12
 go_upto_if 16 with (first|((with_reducible refine gate_dst (N:=3) rfl ?_);refine Hd.box_ 3 (#[.int .i64 a1_0,.int .i64 a1_1,.int .i64 a1_2,.string a1_3,.slice A1_4 l1_4.length c1_4]) 34 ?_;intro gb255 hg w6 hbox hb;replace HO0:=z279_;have BK255:=ak (hbox);have GW255:=z149_;have GE255:=z149_;replace HB:=z17_;clear hb hbox hg)|(go_at_call 38;(with_reducible refine(impl_cloneSource.calls k _ _ l0 t256 _ ?side1 ?side2 A3.out).mono ?_);(case side1=>exact z25_ HO0);(case side2=>exact z123_ HO0);rintro e w7 ⟨v257,rfl,ho0,hb⟩;replace HO0:=ak (Kd.V_elder' (z5_ HO0) (Kd.S_base ho0) hb);have HO258:=z83_;replace BK255:=z138_;replace HB:=z17_;(try clear hb);(try clear hk);(try clear ho0);obtain⟨hcz8_0,hcz8_1,hcz8_2,hcz8_3,hcz8_4⟩:=Hd.c5_ BK255.out;obtain⟨hfz8_0,hfz8_1,hfz8_2,hfz8_3,hfz8_4⟩:=Hd.f5_ BK255.out)|(go_at_call 20;(with_reducible refine(impl_FindFeature.calls k _ _ l0 a1_0 t259 _ ?side1 ?side2 A4.out).mono ?_);(case side1=>exact z25_ HO0);(case side2=>exact z123_ HO0);rintro e w9 ⟨rfl,hb⟩;replace HO0:=ak (Kd.V_below (z5_ HO0) hb);replace HO258:=ak (Kd.S_below (z24_ HO258) hb);replace BK255:=z138_;replace HB:=z17_;(try clear hb);(try clear hk);(try clear hi)))
 repeat (go_quiet (first|((with_reducible refine gate_dst (N:=3) rfl ?_);refine Hd.box_ 3 (#[.int .i64 a1_0,.int .i64 a1_1,.int .i64 a1_2,.string a1_3,.slice A1_4 l1_4.length c1_4]) 34 ?_;intro gb255 hg w6 hbox hb;replace HO0:=z279_;have BK255:=ak (hbox);have GW255:=z149_;have GE255:=z149_;replace HB:=z17_;clear hb hbox hg)|(go_at_call 38;(with_reducible refine(impl_cloneSource.calls k _ _ l0 t256 _ ?side1 ?side2 A3.out).mono ?_);(case side1=>exact z25_ HO0);(case side2=>exact z123_ HO0);rintro e w7 ⟨v257,rfl,ho0,hb⟩;replace HO0:=ak (Kd.V_elder' (z5_ HO0) (Kd.S_base ho0) hb);have HO258:=z83_;replace BK255:=z138_;replace HB:=z17_;(try clear hb);(try clear hk);(try clear ho0);obtain⟨hcz8_0,hcz8_1,hcz8_2,hcz8_3,hcz8_4⟩:=Hd.c5_ BK255.out;obtain⟨hfz8_0,hfz8_1,hfz8_2,hfz8_3,hfz8_4⟩:=Hd.f5_ BK255.out)|(go_at_call 20;(with_reducible refine(impl_FindFeature.calls k _ _ l0 a1_0 t259 _ ?side1 ?side2 A4.out).mono ?_);(case side1=>exact z25_ HO0);(case side2=>exact z123_ HO0);rintro e w9 ⟨rfl,hb⟩;replace HO0:=ak (Kd.V_below (z5_ HO0) hb);replace HO258:=ak (Kd.S_below (z24_ HO258) hb);replace BK255:=z138_;replace HB:=z17_;(try clear hb);(try clear hk);(try clear hi)));go_upto_if 16 with (first|((with_reducible refine gate_dst (N:=3) rfl ?_);refine Hd.box_ 3 (#[.int .i64 a1_0,.int .i64 a1_1,.int .i64 a1_2,.string a1_3,.slice A1_4 l1_4.length c1_4]) 34 ?_;intro gb255 hg w6 hbox hb;replace HO0:=z279_;have BK255:=ak (hbox);have GW255:=z149_;have GE255:=z149_;replace HB:=z17_;clear hb hbox hg)|(go_at_call 38;(with_reducible refine(impl_cloneSource.calls k _ _ l0 t256 _ ?side1 ?side2 A3.out).mono ?_);(case side1=>exact z25_ HO0);(case side2=>exact z123_ HO0);rintro e w7 ⟨v257,rfl,ho0,hb⟩;replace HO0:=ak (Kd.V_elder' (z5_ HO0) (Kd.S_base ho0) hb);have HO258:=z83_;replace BK255:=z138_;replace HB:=z17_;clear hb ho0;obtain⟨hcz8_0,hcz8_1,hcz8_2,hcz8_3,hcz8_4⟩:=Hd.c5_ BK255.out;obtain⟨hfz8_0,hfz8_1,hfz8_2,hfz8_3,hfz8_4⟩:=Hd.f5_ BK255.out)|(go_at_call 20;(with_reducible refine(impl_FindFeature.calls k _ _ l0 a1_0 t259 _ ?side1 ?side2 A4.out).mono ?_);(case side1=>exact z25_ HO0);(case side2=>exact z123_ HO0);rintro e w9 ⟨rfl,hb⟩;replace HO0:=ak (Kd.V_below (z5_ HO0) hb);replace HO258:=ak (Kd.S_below (z24_ HO258) hb);replace BK255:=z138_;replace HB:=z17_;clear hb)))
 (try simp only[Act.put,List.setIfInBounds_toArray,List.set_cons_zero,List.set_cons_succ])
 go_cut [6] (fun v6 wc=>∃ (kq:Nat) (x0_4:List (S34)) (x6_4:List (S34)),Aside0 (impl_PutFeature.j1 kq x0_4 x6_4=some (r1,r2))∧Aside0 (kq≤k)∧Aside0 (Kd.V k34 34 wc w.heap.size (fun k_=>(P0_ k_∨w.heap.size≤k_)∧some k_≠(v6:Value).ownBlock) (.slice A0 l0.length c0) x0_4)∧Aside0 (Kd.S k34 34 wc w.heap.size (fun k_=>(w.heap.size≤k_)) v6 x6_4)∧Aside0 (Below w.heap.size w wc))
 case first =>
  have H:=HC5.out
  clear HC5
  by_cases c10:t259≥0
  ·
   rw [if_pos c10] at H
   have c10b0:decide (0≤t259)=true:=decide_eq_true c10
   clear c10
   (first|rw [c10b0]|(simp only[i64_w,i32_w];rw [c10b0])|skip)
   replace H:=Hd.bd_ H;obtain⟨⟨t260,t261,t262,t263,t264⟩,A11,H⟩:=H;dsimp only at H
   by_cases c12:0≤t259;rotate_left
   ·
    rw [if_neg c12] at H
    exact absurd H (by simp)
   rw [if_pos c12] at H
   have c12b0:=decide_eq_true c12
   clear c12
   by_cases c13:t259<(t256.length:Int);rotate_left
   ·
    rw [if_neg c13] at H
    exact absurd H (by simp)
   rw [if_pos c13] at H
   have c13b0:=decide_eq_true c13
   clear c13
   generalize hy267:(t256.set (t259:Int).toNat (⟨t260,t261,t262,t263,t264⟩:S34))=y267 at H;have Ny267:=ak hy267.symm;clear hy267;try rw [Option.bind_some] at H
   have H':=ak H
   clear H
   obtain⟨hcz15_0,hcz15_1,hcz15_2,hcz15_3,hcz15_4⟩:=Hd.c5_ BK255.out
   obtain⟨hfz15_0,hfz15_1,hfz15_2,hfz15_3,hfz15_4⟩:=Hd.f5_ BK255.out
   go_wp2_with (first|(go_at_call 39;(with_reducible refine(impl_cloneFeature.calls a1_0 a1_1 a1_2 a1_3 _ _ l1_4 t260 t261 t262 t263 t264 _ ?side1 ?side2 A11.out).mono ?_);(case side1=>exact z15_ HR1_4);(case side2=>exact HC1_4.out);rintro e w16 ⟨v265,rfl,ho0,hb⟩;replace HO0:=ak (Kd.V_elder' (z5_ HO0) (Kd.R_base ho0) hb);replace HO258:=ak (Kd.S_elder' (z24_ HO258) (Kd.R_base ho0) hb);have HO266:=z49_;replace BK255:=z138_;replace HB:=z17_;(try clear hb);(try clear hk);(try clear ho0);have hst_:∀ (a:Addr) (W:World),(store a v265 .plain).run Try.prog W=stored Try.prog W a v265 .plain:=fun a W=>run_store Try.prog W a v265 .plain (by obtain⟨_,_,e_⟩:=Kd.R_slice HO266.out;rw [e_];rfl);have hoc_:v265.cells=#[v265]:=(by obtain⟨_,_,e_⟩:=Kd.R_slice HO266.out;rw [e_];rfl);(try simp only[Value.cells] at hoc_);have p14:0≤(t259:Int):=od_;have q14:(t259:Int)<((t256.length:Int):Int):=od_;obtain⟨go14,co14,eo14,gb14,gl14,cl14,HG14⟩:=Kd.S_form HO258.out (by omega);(first|cases eo14|(injection eo14 with ea_ en_ ec_;(first|subst ea_|(injection ea_ with ea_;subst ea_));subst ec_;clear en_));have GB14:=ak gb14;have GG14:=ak HG14;clear gb14 gl14 HG14;obtain⟨_,ce14,hcl14,hM14,hcc14,hfr14,_,_⟩:=Kd.S_elem HO258.out z34 (t259:Int) p14 q14;obtain⟨ve14_4,rfl,ge14_4⟩:=k34_openM hM14;have hx14_0:w16.cell? ⟨go14,(t259:Int).toNat*5,none⟩=some (.int .i64 ((rd_T34 t256 t259).f0)):=hcc14 0 _ rfl;have hx14_1:w16.cell? ⟨go14,(t259:Int).toNat*5+1,none⟩=some (.int .i64 ((rd_T34 t256 t259).f1)):=hcc14 1 _ rfl;have hx14_2:w16.cell? ⟨go14,(t259:Int).toNat*5+2,none⟩=some (.int .i64 ((rd_T34 t256 t259).f2)):=hcc14 2 _ rfl;have hx14_3:w16.cell? ⟨go14,(t259:Int).toNat*5+3,none⟩=some (.string ((rd_T34 t256 t259).f3)):=hcc14 3 _ rfl;have hx14_4:w16.cell? ⟨go14,(t259:Int).toNat*5+4,none⟩=some (ve14_4):=hcc14 4 _ rfl;have hf14_0:w16.frozen? ⟨go14,(t259:Int).toNat*5,none⟩=false:=hfr14 0;have hf14_1:w16.frozen? ⟨go14,(t259:Int).toNat*5+1,none⟩=false:=hfr14 1;have hf14_2:w16.frozen? ⟨go14,(t259:Int).toNat*5+2,none⟩=false:=hfr14 2;have hf14_3:w16.frozen? ⟨go14,(t259:Int).toNat*5+3,none⟩=false:=hfr14 3;have hf14_4:w16.frozen? ⟨go14,(t259:Int).toNat*5+4,none⟩=false:=hfr14 4;clear hcl14 hcc14 hfr14 hM14;replace p14:=eq_true p14;replace q14:=eq_true q14;have n_:=z74_ HO258;clear HO258;have HO258:=n_;clear n_;have HX17:=z34_ HO258;obtain⟨oki17,ce17,hcl17,hM17,hcc17,hfr17,hoki17,hH17⟩:=Kd.S_elem HX17.out z34 (t259:Int) (od_) (by have h_:(t259:Int)<((t256.length:Int):Int):=od_;first|exact h_|(have e_:=(Kd.S_reads' HO258.out).1;omega)|simpa using h_);obtain⟨ve17_4,rfl,ge17_4⟩:=k34_openM hM17;have HP17:=z18_ HO258 HO266 BK255;have hx17_0:=hcc17 0 _ rfl;(try simp only[show (k34).sz=5 from rfl,Nat.mul_one,Nat.add_zero] at hx17_0);have hf17_0:=hfr17 0;(try simp only[show (k34).sz=5 from rfl,Nat.mul_one,Nat.add_zero] at hf17_0);have hx17_1:=hcc17 1 _ rfl;(try simp only[show (k34).sz=5 from rfl,Nat.mul_one,Nat.add_zero] at hx17_1);have hf17_1:=hfr17 1;(try simp only[show (k34).sz=5 from rfl,Nat.mul_one,Nat.add_zero] at hf17_1);have hx17_2:=hcc17 2 _ rfl;(try simp only[show (k34).sz=5 from rfl,Nat.mul_one,Nat.add_zero] at hx17_2);have hf17_2:=hfr17 2;(try simp only[show (k34).sz=5 from rfl,Nat.mul_one,Nat.add_zero] at hf17_2);have hx17_3:=hcc17 3 _ rfl;(try simp only[show (k34).sz=5 from rfl,Nat.mul_one,Nat.add_zero] at hx17_3);have hf17_3:=hfr17 3;(try simp only[show (k34).sz=5 from rfl,Nat.mul_one,Nat.add_zero] at hf17_3);have hx17_4:=hcc17 4 _ rfl;(try simp only[show (k34).sz=5 from rfl,Nat.mul_one,Nat.add_zero] at hx17_4);have hf17_4:=hfr17 4;(try simp only[show (k34).sz=5 from rfl,Nat.mul_one,Nat.add_zero] at hf17_4);clear hcl17 hcc17 hfr17 hM17 hoki17 hH17)|((with_reducible refine gate_store (t:=34) (p:=21) rfl ?_);(try (rw [drewN_self w16];generalize hq_:World.drewN w16 _=w16;have n0_:=ak (Kd.V_at hq_ HO0.out);have n1_:=ak (Kd.S_at hq_ HO258.out);have n2_:=ak (blk_at hq_ BK255.out);have n3_:=ak (below_at hq_ HB.out);clear hq_ HO0 HO258 BK255 HB;have HO0:=n0_;have HO258:=n1_;have BK255:=n2_;have HB:=n3_;clear n0_ n1_ n2_ n3_;(try (have n_:=z74_ HO258;clear HO258;have HO258:=n_;clear n_));(try (have HX17:=z34_ HO258));(try (obtain⟨oki17,ce17,hcl17,hM17,hcc17,hfr17,hoki17,hH17⟩:=Kd.S_elem HX17.out z34 (t259:Int) (od_) (by have h_:(t259:Int)<((t256.length:Int):Int):=od_;first|exact h_|(have e_:=(Kd.S_reads' HO258.out).1;omega)|simpa using h_)));(try (obtain⟨ve17_4,rfl,ge17_4⟩:=k34_openM hM17));(try (have HP17:=z18_ HO258 HO266 BK255));(try (have hx17_0:=hcc17 0 _ rfl));(try (try simp only[show (k34).sz=5 from rfl,Nat.mul_one,Nat.add_zero] at hx17_0));(try (have hf17_0:=hfr17 0));(try (try simp only[show (k34).sz=5 from rfl,Nat.mul_one,Nat.add_zero] at hf17_0));(try (have hx17_1:=hcc17 1 _ rfl));(try (try simp only[show (k34).sz=5 from rfl,Nat.mul_one,Nat.add_zero] at hx17_1));(try (have hf17_1:=hfr17 1));(try (try simp only[show (k34).sz=5 from rfl,Nat.mul_one,Nat.add_zero] at hf17_1));(try (have hx17_2:=hcc17 2 _ rfl));(try (try simp only[show (k34).sz=5 from rfl,Nat.mul_one,Nat.add_zero] at hx17_2));(try (have hf17_2:=hfr17 2));(try (try simp only[show (k34).sz=5 from rfl,Nat.mul_one,Nat.add_zero] at hf17_2));(try (have hx17_3:=hcc17 3 _ rfl));(try (try simp only[show (k34).sz=5 from rfl,Nat.mul_one,Nat.add_zero] at hx17_3));(try (have hf17_3:=hfr17 3));(try (try simp only[show (k34).sz=5 from rfl,Nat.mul_one,Nat.add_zero] at hf17_3));(try (have hx17_4:=hcc17 4 _ rfl));(try (try simp only[show (k34).sz=5 from rfl,Nat.mul_one,Nat.add_zero] at hx17_4));(try (have hf17_4:=hfr17 4));(try (try simp only[show (k34).sz=5 from rfl,Nat.mul_one,Nat.add_zero] at hf17_4));(try (clear hcl17 hcc17 hfr17 hM17 hoki17 hH17))));refine store_event (t:=34) (p:=21) (v:=?vo_w18) (w1:=(((((w16.setCell ⟨go14,(t259:Int).toNat*5,none⟩ (.int .i64 t260)).setCell ⟨go14,(t259:Int).toNat*5+1,none⟩ (.int .i64 t261)).setCell ⟨go14,(t259:Int).toNat*5+2,none⟩ (.int .i64 t262)).setCell ⟨go14,(t259:Int).toNat*5+3,none⟩ (.string t263)).setCell ⟨go14,(t259:Int).toNat*5+4,none⟩ (v265))) ?hg ?ho ?hn ?hr ?_;(case ho=>rfl);(case hg=>rfl);(case hn=>rfl);(case hr=>exact z39_);intro w18 hw;have hg:w16.grownBy w18 (some go14):=(by rw [hw];exact HP17.2);have hp_:Kd.S k34 34 w18 w.heap.size (fun k_=>(w.heap.size≤k_)∧k_≠gb255) (.slice (some ⟨go14,0,none⟩) t256.length co14) y267:=(by rw [hw,Ny267.out];exact HP17.1);clear HP17;have n0_:=z231_;have n1_:=z113_ HO258;have n2_:=ak (hp_);have n3_:=z116_;clear HO0;clear BK255;clear HO258;clear HB;clear HO266;have HO0:=n0_;have BK255:=n1_;have HO258:=n2_;have HB:=n3_;clear n0_ n1_ n2_ n3_;clear hg hw hp_))
   repeat (go_quiet (first|(go_at_call 39;(with_reducible refine(impl_cloneFeature.calls a1_0 a1_1 a1_2 a1_3 _ _ l1_4 t260 t261 t262 t263 t264 _ ?side1 ?side2 A11.out).mono ?_);(case side1=>exact z15_ HR1_4);(case side2=>exact HC1_4.out);rintro e w16 ⟨v265,rfl,ho0,hb⟩;replace HO0:=ak (Kd.V_elder' (z5_ HO0) (Kd.R_base ho0) hb);replace HO258:=ak (Kd.S_elder' (z24_ HO258) (Kd.R_base ho0) hb);have HO266:=z49_;replace BK255:=z138_;replace HB:=z17_;(try clear hb);(try clear hk);(try clear ho0);have hst_:∀ (a:Addr) (W:World),(store a v265 .plain).run Try.prog W=stored Try.prog W a v265 .plain:=fun a W=>run_store Try.prog W a v265 .plain (by obtain⟨_,_,e_⟩:=Kd.R_slice HO266.out;rw [e_];rfl);have hoc_:v265.cells=#[v265]:=(by obtain⟨_,_,e_⟩:=Kd.R_slice HO266.out;rw [e_];rfl);(try simp only[Value.cells] at hoc_);have p14:0≤(t259:Int):=od_;have q14:(t259:Int)<((t256.length:Int):Int):=od_;obtain⟨go14,co14,eo14,gb14,gl14,cl14,HG14⟩:=Kd.S_form HO258.out (by omega);(first|cases eo14|(injection eo14 with ea_ en_ ec_;(first|subst ea_|(injection ea_ with ea_;subst ea_));subst ec_;clear en_));have GB14:=ak gb14;have GG14:=ak HG14;clear gb14 gl14 HG14;obtain⟨_,ce14,hcl14,hM14,hcc14,hfr14,_,_⟩:=Kd.S_elem HO258.out z34 (t259:Int) p14 q14;obtain⟨ve14_4,rfl,ge14_4⟩:=k34_openM hM14;have hx14_0:w16.cell? ⟨go14,(t259:Int).toNat*5,none⟩=some (.int .i64 ((rd_T34 t256 t259).f0)):=hcc14 0 _ rfl;have hx14_1:w16.cell? ⟨go14,(t259:Int).toNat*5+1,none⟩=some (.int .i64 ((rd_T34 t256 t259).f1)):=hcc14 1 _ rfl;have hx14_2:w16.cell? ⟨go14,(t259:Int).toNat*5+2,none⟩=some (.int .i64 ((rd_T34 t256 t259).f2)):=hcc14 2 _ rfl;have hx14_3:w16.cell? ⟨go14,(t259:Int).toNat*5+3,none⟩=some (.string ((rd_T34 t256 t259).f3)):=hcc14 3 _ rfl;have hx14_4:w16.cell? ⟨go14,(t259:Int).toNat*5+4,none⟩=some (ve14_4):=hcc14 4 _ rfl;have hf14_0:w16.frozen? ⟨go14,(t259:Int).toNat*5,none⟩=false:=hfr14 0;have hf14_1:w16.frozen? ⟨go14,(t259:Int).toNat*5+1,none⟩=false:=hfr14 1;have hf14_2:w16.frozen? ⟨go14,(t259:Int).toNat*5+2,none⟩=false:=hfr14 2;have hf14_3:w16.frozen? ⟨go14,(t259:Int).toNat*5+3,none⟩=false:=hfr14 3;have hf14_4:w16.frozen? ⟨go14,(t259:Int).toNat*5+4,none⟩=false:=hfr14 4;clear hcl14 hcc14 hfr14 hM14;replace p14:=eq_true p14;replace q14:=eq_true q14;have n_:=z74_ HO258;clear HO258;have HO258:=n_;clear n_;have HX17:=z34_ HO258;obtain⟨oki17,ce17,hcl17,hM17,hcc17,hfr17,hoki17,hH17⟩:=Kd.S_elem HX17.out z34 (t259:Int) (od_) (by have h_:(t259:Int)<((t256.length:Int):Int):=od_;first|exact h_|(have e_:=(Kd.S_reads' HO258.out).1;omega)|simpa using h_);obtain⟨ve17_4,rfl,ge17_4⟩:=k34_openM hM17;have HP17:=z18_ HO258 HO266 BK255;have hx17_0:=hcc17 0 _ rfl;(try simp only[show (k34).sz=5 from rfl,Nat.mul_one,Nat.add_zero] at hx17_0);have hf17_0:=hfr17 0;(try simp only[show (k34).sz=5 from rfl,Nat.mul_one,Nat.add_zero] at hf17_0);have hx17_1:=hcc17 1 _ rfl;(try simp only[show (k34).sz=5 from rfl,Nat.mul_one,Nat.add_zero] at hx17_1);have hf17_1:=hfr17 1;(try simp only[show (k34).sz=5 from rfl,Nat.mul_one,Nat.add_zero] at hf17_1);have hx17_2:=hcc17 2 _ rfl;(try simp only[show (k34).sz=5 from rfl,Nat.mul_one,Nat.add_zero] at hx17_2);have hf17_2:=hfr17 2;(try simp only[show (k34).sz=5 from rfl,Nat.mul_one,Nat.add_zero] at hf17_2);have hx17_3:=hcc17 3 _ rfl;(try simp only[show (k34).sz=5 from rfl,Nat.mul_one,Nat.add_zero] at hx17_3);have hf17_3:=hfr17 3;(try simp only[show (k34).sz=5 from rfl,Nat.mul_one,Nat.add_zero] at hf17_3);have hx17_4:=hcc17 4 _ rfl;(try simp only[show (k34).sz=5 from rfl,Nat.mul_one,Nat.add_zero] at hx17_4);have hf17_4:=hfr17 4;(try simp only[show (k34).sz=5 from rfl,Nat.mul_one,Nat.add_zero] at hf17_4);clear hcl17 hcc17 hfr17 hM17 hoki17 hH17)|((with_reducible refine gate_store (t:=34) (p:=21) rfl ?_);(try (rw [drewN_self w16];generalize hq_:World.drewN w16 _=w16;have n0_:=ak (Kd.V_at hq_ HO0.out);have n1_:=ak (Kd.S_at hq_ HO258.out);have n2_:=ak (blk_at hq_ BK255.out);have n3_:=ak (below_at hq_ HB.out);clear hq_ HO0 HO258 BK255 HB;have HO0:=n0_;have HO258:=n1_;have BK255:=n2_;have HB:=n3_;clear n0_ n1_ n2_ n3_;(try (have n_:=z74_ HO258;clear HO258;have HO258:=n_;clear n_));(try (have HX17:=z34_ HO258));(try (obtain⟨oki17,ce17,hcl17,hM17,hcc17,hfr17,hoki17,hH17⟩:=Kd.S_elem HX17.out z34 (t259:Int) (od_) (by have h_:(t259:Int)<((t256.length:Int):Int):=od_;first|exact h_|(have e_:=(Kd.S_reads' HO258.out).1;omega)|simpa using h_)));(try (obtain⟨ve17_4,rfl,ge17_4⟩:=k34_openM hM17));(try (have HP17:=z18_ HO258 HO266 BK255));(try (have hx17_0:=hcc17 0 _ rfl));(try (try simp only[show (k34).sz=5 from rfl,Nat.mul_one,Nat.add_zero] at hx17_0));(try (have hf17_0:=hfr17 0));(try (try simp only[show (k34).sz=5 from rfl,Nat.mul_one,Nat.add_zero] at hf17_0));(try (have hx17_1:=hcc17 1 _ rfl));(try (try simp only[show (k34).sz=5 from rfl,Nat.mul_one,Nat.add_zero] at hx17_1));(try (have hf17_1:=hfr17 1));(try (try simp only[show (k34).sz=5 from rfl,Nat.mul_one,Nat.add_zero] at hf17_1));(try (have hx17_2:=hcc17 2 _ rfl));(try (try simp only[show (k34).sz=5 from rfl,Nat.mul_one,Nat.add_zero] at hx17_2));(try (have hf17_2:=hfr17 2));(try (try simp only[show (k34).sz=5 from rfl,Nat.mul_one,Nat.add_zero] at hf17_2));(try (have hx17_3:=hcc17 3 _ rfl));(try (try simp only[show (k34).sz=5 from rfl,Nat.mul_one,Nat.add_zero] at hx17_3));(try (have hf17_3:=hfr17 3));(try (try simp only[show (k34).sz=5 from rfl,Nat.mul_one,Nat.add_zero] at hf17_3));(try (have hx17_4:=hcc17 4 _ rfl));(try (try simp only[show (k34).sz=5 from rfl,Nat.mul_one,Nat.add_zero] at hx17_4));(try (have hf17_4:=hfr17 4));(try (try simp only[show (k34).sz=5 from rfl,Nat.mul_one,Nat.add_zero] at hf17_4));(try (clear hcl17 hcc17 hfr17 hM17 hoki17 hH17))));refine store_event (t:=34) (p:=21) (v:=?vo_w18) (w1:=(((((w16.setCell ⟨go14,(t259:Int).toNat*5,none⟩ (.int .i64 t260)).setCell ⟨go14,(t259:Int).toNat*5+1,none⟩ (.int .i64 t261)).setCell ⟨go14,(t259:Int).toNat*5+2,none⟩ (.int .i64 t262)).setCell ⟨go14,(t259:Int).toNat*5+3,none⟩ (.string t263)).setCell ⟨go14,(t259:Int).toNat*5+4,none⟩ (v265))) ?hg ?ho ?hn ?hr ?_;(case ho=>rfl);(case hg=>rfl);(case hn=>rfl);(case hr=>exact z39_);intro w18 hw;have hg:w16.grownBy w18 (some go14):=(by rw [hw];exact HP17.2);have hp_:Kd.S k34 34 w18 w.heap.size (fun k_=>(w.heap.size≤k_)∧k_≠gb255) (.slice (some ⟨go14,0,none⟩) t256.length co14) y267:=(by rw [hw,Ny267.out];exact HP17.1);clear HP17;have n0_:=z231_;have n1_:=z113_ HO258;have n2_:=ak (hp_);have n3_:=z116_;clear HO0;clear BK255;clear HO258;clear HB;clear HO266;have HO0:=n0_;have BK255:=n1_;have HO258:=n2_;have HB:=n3_;clear n0_ n1_ n2_ n3_;clear hg hw hp_));try go_wp2_with (first|(go_at_call 39;(with_reducible refine(impl_cloneFeature.calls a1_0 a1_1 a1_2 a1_3 _ _ l1_4 t260 t261 t262 t263 t264 _ ?side1 ?side2 A11.out).mono ?_);(case side1=>exact z15_ HR1_4);(case side2=>exact HC1_4.out);rintro e w16 ⟨v265,rfl,ho0,hb⟩;replace HO0:=ak (Kd.V_elder' (z5_ HO0) (Kd.R_base ho0) hb);replace HO258:=ak (Kd.S_elder' (z24_ HO258) (Kd.R_base ho0) hb);have HO266:=z49_;replace BK255:=z138_;replace HB:=z17_;(try clear hb);(try clear hk);(try clear hi);(try clear ho0);have p14:0≤(t259:Int):=od_;have q14:(t259:Int)<((t256.length:Int):Int):=od_;obtain⟨go14,co14,eo14,gb14,gl14,cl14,HG14⟩:=Kd.S_form HO258.out (by omega);(first|cases eo14|(injection eo14 with ea_ en_ ec_;(first|subst ea_|(injection ea_ with ea_;subst ea_));subst ec_;clear en_));have GB14:=ak gb14;have GG14:=ak HG14;clear gb14 gl14 HG14;obtain⟨_,ce14,hcl14,hM14,hcc14,hfr14,_,_⟩:=Kd.S_elem HO258.out z34 (t259:Int) p14 q14;obtain⟨ve14_4,rfl,ge14_4⟩:=k34_openM hM14;have hx14_0:w16.cell? ⟨go14,(t259:Int).toNat*5,none⟩=some (.int .i64 ((rd_T34 t256 t259).f0)):=hcc14 0 _ rfl;have hx14_1:w16.cell? ⟨go14,(t259:Int).toNat*5+1,none⟩=some (.int .i64 ((rd_T34 t256 t259).f1)):=hcc14 1 _ rfl;have hx14_2:w16.cell? ⟨go14,(t259:Int).toNat*5+2,none⟩=some (.int .i64 ((rd_T34 t256 t259).f2)):=hcc14 2 _ rfl;have hx14_3:w16.cell? ⟨go14,(t259:Int).toNat*5+3,none⟩=some (.string ((rd_T34 t256 t259).f3)):=hcc14 3 _ rfl;have hx14_4:w16.cell? ⟨go14,(t259:Int).toNat*5+4,none⟩=some (ve14_4):=hcc14 4 _ rfl;have hf14_0:w16.frozen? ⟨go14,(t259:Int).toNat*5,none⟩=false:=hfr14 0;have hf14_1:w16.frozen? ⟨go14,(t259:Int).toNat*5+1,none⟩=false:=hfr14 1;have hf14_2:w16.frozen? ⟨go14,(t259:Int).toNat*5+2,none⟩=false:=hfr14 2;have hf14_3:w16.frozen? ⟨go14,(t259:Int).toNat*5+3,none⟩=false:=hfr14 3;have hf14_4:w16.frozen? ⟨go14,(t259:Int).toNat*5+4,none⟩=false:=hfr14 4;clear hcl14 hcc14 hfr14 hM14;replace p14:=eq_true p14;replace q14:=eq_true q14;have n_:=z74_ HO258;clear HO258;have HO258:=n_;clear n_;have HX17:=z34_ HO258;obtain⟨oki17,ce17,hcl17,hM17,hcc17,hfr17,hoki17,hH17⟩:=Kd.S_elem HX17.out z34 (t259:Int) (od_) (by have h_:(t259:Int)<((t256.length:Int):Int):=od_;first|exact h_|(have e_:=(Kd.S_reads' HO258.out).1;omega)|simpa using h_);obtain⟨ve17_4,rfl,ge17_4⟩:=k34_openM hM17;have HP17:=z18_ HO258 HO266 BK255;have hx17_0:=hcc17 0 _ rfl;(try simp only[show (k34).sz=5 from rfl,Nat.mul_one,Nat.add_zero] at hx17_0);have hf17_0:=hfr17 0;(try simp only[show (k34).sz=5 from rfl,Nat.mul_one,Nat.add_zero] at hf17_0);have hx17_1:=hcc17 1 _ rfl;(try simp only[show (k34).sz=5 from rfl,Nat.mul_one,Nat.add_zero] at hx17_1);have hf17_1:=hfr17 1;(try simp only[show (k34).sz=5 from rfl,Nat.mul_one,Nat.add_zero] at hf17_1);have hx17_2:=hcc17 2 _ rfl;(try simp only[show (k34).sz=5 from rfl,Nat.mul_one,Nat.add_zero] at hx17_2);have hf17_2:=hfr17 2;(try simp only[show (k34).sz=5 from rfl,Nat.mul_one,Nat.add_zero] at hf17_2);have hx17_3:=hcc17 3 _ rfl;(try simp only[show (k34).sz=5 from rfl,Nat.mul_one,Nat.add_zero] at hx17_3);have hf17_3:=hfr17 3;(try simp only[show (k34).sz=5 from rfl,Nat.mul_one,Nat.add_zero] at hf17_3);have hx17_4:=hcc17 4 _ rfl;(try simp only[show (k34).sz=5 from rfl,Nat.mul_one,Nat.add_zero] at hx17_4);have hf17_4:=hfr17 4;(try simp only[show (k34).sz=5 from rfl,Nat.mul_one,Nat.add_zero] at hf17_4);clear hcl17 hcc17 hfr17 hM17 hoki17 hH17)|((with_reducible refine gate_store (t:=34) (p:=21) rfl ?_);(try (rw [drewN_self w16];generalize hq_:World.drewN w16 _=w16;have n0_:=ak (Kd.V_at hq_ HO0.out);have n1_:=ak (Kd.S_at hq_ HO258.out);have n2_:=ak (blk_at hq_ BK255.out);have n3_:=ak (below_at hq_ HB.out);clear hq_ HO0 HO258 BK255 HB;have HO0:=n0_;have HO258:=n1_;have BK255:=n2_;have HB:=n3_;clear n0_ n1_ n2_ n3_;(try (have n_:=z74_ HO258;clear HO258;have HO258:=n_;clear n_));(try (have HX17:=z34_ HO258));(try (obtain⟨oki17,ce17,hcl17,hM17,hcc17,hfr17,hoki17,hH17⟩:=Kd.S_elem HX17.out z34 (t259:Int) (od_) (by have h_:(t259:Int)<((t256.length:Int):Int):=od_;first|exact h_|(have e_:=(Kd.S_reads' HO258.out).1;omega)|simpa using h_)));(try (obtain⟨ve17_4,rfl,ge17_4⟩:=k34_openM hM17));(try (have HP17:=z18_ HO258 HO266 BK255));(try (have hx17_0:=hcc17 0 _ rfl));(try (try simp only[show (k34).sz=5 from rfl,Nat.mul_one,Nat.add_zero] at hx17_0));(try (have hf17_0:=hfr17 0));(try (try simp only[show (k34).sz=5 from rfl,Nat.mul_one,Nat.add_zero] at hf17_0));(try (have hx17_1:=hcc17 1 _ rfl));(try (try simp only[show (k34).sz=5 from rfl,Nat.mul_one,Nat.add_zero] at hx17_1));(try (have hf17_1:=hfr17 1));(try (try simp only[show (k34).sz=5 from rfl,Nat.mul_one,Nat.add_zero] at hf17_1));(try (have hx17_2:=hcc17 2 _ rfl));(try (try simp only[show (k34).sz=5 from rfl,Nat.mul_one,Nat.add_zero] at hx17_2));(try (have hf17_2:=hfr17 2));(try (try simp only[show (k34).sz=5 from rfl,Nat.mul_one,Nat.add_zero] at hf17_2));(try (have hx17_3:=hcc17 3 _ rfl));(try (try simp only[show (k34).sz=5 from rfl,Nat.mul_one,Nat.add_zero] at hx17_3));(try (have hf17_3:=hfr17 3));(try (try simp only[show (k34).sz=5 from rfl,Nat.mul_one,Nat.add_zero] at hf17_3));(try (have hx17_4:=hcc17 4 _ rfl));(try (try simp only[show (k34).sz=5 from rfl,Nat.mul_one,Nat.add_zero] at hx17_4));(try (have hf17_4:=hfr17 4));(try (try simp only[show (k34).sz=5 from rfl,Nat.mul_one,Nat.add_zero] at hf17_4));(try (clear hcl17 hcc17 hfr17 hM17 hoki17 hH17))));refine store_event (t:=34) (p:=21) (v:=?vo_w18) (w1:=(((((w16.setCell ⟨go14,(t259:Int).toNat*5,none⟩ (.int .i64 t260)).setCell ⟨go14,(t259:Int).toNat*5+1,none⟩ (.int .i64 t261)).setCell ⟨go14,(t259:Int).toNat*5+2,none⟩ (.int .i64 t262)).setCell ⟨go14,(t259:Int).toNat*5+3,none⟩ (.string t263)).setCell ⟨go14,(t259:Int).toNat*5+4,none⟩ (v265))) ?hg ?ho ?hn ?hr ?_;(case ho=>rfl);(case hg=>rfl);(case hn=>rfl);(case hr=>exact z39_);intro w18 hw;have hg:w16.grownBy w18 (some go14):=(by rw [hw];exact HP17.2);have hp_:Kd.S k34 34 w18 w.heap.size (fun k_=>(w.heap.size≤k_)∧k_≠gb255) (.slice (some ⟨go14,0,none⟩) t256.length co14) y267:=(by rw [hw,Ny267.out];exact HP17.1);clear HP17;have n0_:=z231_;have n1_:=z113_ HO258;have n2_:=ak (hp_);have n3_:=z116_;clear HO0;clear BK255;clear HO258;clear HB;clear HO266;have HO0:=n0_;have BK255:=n1_;have HO258:=n2_;have HB:=n3_;clear n0_ n1_ n2_ n3_;clear hg hw hp_)))
   go_meet
   case rel=>exact⟨_,(l0),(y267),H',⟨z73_⟩,⟨z132_ HO0⟩,⟨z136_ HO258⟩,⟨Hd.b_⟩⟩
  rw [if_neg c10] at H
  have c10b0:decide (0≤t259)=false:=decide_eq_false c10
  clear c10
  (first|rw [c10b0]|(simp only[i64_w,i32_w];rw [c10b0])|skip)
  have H':=ak H
  clear H
  go_wp2
  repeat (go_quiet (fail);try go_wp2)
  go_loopg [8] k (fun kq v8 w'=>∃ (x8_1:Int),v8 = .int .i64 x8_1∧Aside0 (impl_PutFeature.l0 kq l0 t256 x8_1 a1_0 a1_1 a1_2 a1_3 l1_4=some (r1,r2))∧Aside0 (kq≤k)∧Aside0 (Kd.V k34 34 w' w.heap.size (fun k_=>(P0_ k_∨w.heap.size≤k_)∧some k_≠(v257:Value).ownBlock∧k_≠gb255) (.slice A0 l0.length c0) l0)∧Aside0 (Kd.S k34 34 w' w.heap.size (fun k_=>(w.heap.size≤k_)∧k_≠gb255) v257 t256)∧Aside0 (w'.heap[gb255]?=some (.cells #[.int .i64 a1_0,.int .i64 a1_1,.int .i64 a1_2,.string a1_3,(.slice A1_4 l1_4.length c1_4)] 34 (0,0)))∧Aside0 (Below w.heap.size w w'))
  case atStart=>exact⟨(0),z14_,H',⟨Nat.le_refl _⟩,⟨by (with_reducible repeat (first|apply Kd.V_alloc|apply Kd.V_drewN|apply Kd.V_drew));exact Kd.V_mono HO0.out (fun _ hk=>⟨hk.1.1,⟨hk.2,hk.1.2⟩⟩)⟩,⟨by (with_reducible repeat (first|apply Kd.S_alloc|apply Kd.S_drewN|apply Kd.S_drew));exact Kd.S_mono HO258.out (fun _ hk=>⟨hk.1.1,hk.2⟩)⟩,⟨z6_ BK255⟩,⟨Hd.b_⟩⟩
  case round =>
   clear H'
   try clear c10;try clear c10b0;try clear c12;try clear c12b0;try clear c13;try clear c13b0;try clear p14;try clear q14;try clear hcz15_0;try clear hcz15_1;try clear hcz15_2;try clear hcz15_3;try clear hcz15_4;try clear hcz8_0;try clear hcz8_1;try clear hcz8_2;try clear hcz8_3;try clear hcz8_4;try clear hfz15_0;try clear hfz15_1;try clear hfz15_2;try clear hfz15_3;try clear hfz15_4;try clear hfz8_0;try clear hfz8_1;try clear hfz8_2;try clear hfz8_3;try clear hfz8_4;try clear hx14_0;try clear hx14_1;try clear hx14_2;try clear hx14_3;try clear hx14_4;try clear hx17_0;try clear hx17_1;try clear hx17_2;try clear hx17_3;try clear hx17_4;try clear p14;try clear q14
   obtain⟨x8_1,rfl,HA,HK1,HO_0,HO_6,BK255,HB⟩:=hrel
   cases gk with
   | zero=>exact absurd HA.out (by simp [impl_PutFeature.l0])
   | succ k1 =>
    have H:=HA.out
    clear HA
    simp only[impl_PutFeature.l0] at H
    by_cases c19:x8_1<(l0.length:Int);rotate_left
    ·
     rw [if_neg c19] at H
     have c19b0:=decide_eq_false c19
     clear c19
     replace H:=Hd.bd_ H;obtain⟨⟨t279,t280,t281,t282,t283⟩,A29,H⟩:=H;dsimp only at H
     by_cases c30:(t256.length<2199023255552∧0≤x8_1∧x8_1≤(t256.length:Int));rotate_left
     ·
      rw [if_neg c30] at H
      exact absurd H (by simp)
     rw [if_pos c30] at H
     have LMc30:=ak c30
     clear c30
     generalize hy286:(impl_PutFeature.ins t256 x8_1 (⟨t279,t280,t281,t282,t283⟩:S34))=y286 at H;have Ny286:=ak hy286.symm;clear hy286;try rw [Option.bind_some] at H
     have H':=ak H
     clear H
     obtain⟨hcz31_0,hcz31_1,hcz31_2,hcz31_3,hcz31_4⟩:=Hd.c5_ BK255.out
     obtain⟨hfz31_0,hfz31_1,hfz31_2,hfz31_3,hfz31_4⟩:=Hd.f5_ BK255.out
     go_wp2_with (first|(go_at_call 39;(with_reducible refine(impl_cloneFeature.calls a1_0 a1_1 a1_2 a1_3 _ _ l1_4 t279 t280 t281 t282 t283 _ ?side1 ?side2 A29.out).mono ?_);(case side1=>exact z15_ HR1_4);(case side2=>exact HC1_4.out);rintro e w32 ⟨v284,rfl,ho0,hb⟩;replace HO_0:=z245_;replace HO_6:=z259_;have HO285:=z49_;replace BK255:=z138_;replace HB:=z17_;(try clear hb);(try clear hk);(try clear ho0);obtain⟨Ao34,co34,eo34⟩:=Kd.R_slice HO285.out;subst eo34)|((with_reducible refine gate_callee (f:=40) rfl ?_);refine impl_PutFeature.insev (w0:=w) w.heap.size rfl (.tmp 38) (.tmp 39) (.tmp 42) rfl rfl x8_1 LMc30.out.2.1 v257 t256 (⟨t279,t280,t281,t282,t283⟩:S34) [.int .i64 t279,.int .i64 t280,.int .i64 t281,.string t282,.slice Ao34 t283.length co34] (fun k_=>(w.heap.size≤k_)∧k_≠gb255) (fun k_=>some k_=(.slice Ao34 t283.length co34:Value).ownBlock) LMc30.out.2.2 rfl rfl rfl ?aP (fun k_ hk_=>((Kd.R_mono (ok':=fun k_=>((fun k_=>(w.heap.size≤k_)∧k_≠gb255)) k_∧some k_≠(v257:Value).ownBlock) (Kd.R_types (Kd.R_apart' (HO285.out) (Kd.S_typed HO_6.out) (by decide)) BK255.out (by decide)) (fun k_ hk=>⟨⟨hk.1.1.1,hk.2⟩,hk.1.2⟩))).1 k_ hk_.symm) ?aF ?aO ?aB ?aS ?aL ?_;(case aP=>exact z90_ HO285 HO_6 BK255);(case aB=>exact Hd.b_);(case aF=>exact z60_);(case aO=>exact(z70_ HO_6));(case aS=>exact z133_);(case aL=>have:=LMc30.out;omega);intro v287 w33 ho hb hg hat;rw [← Ny286.out] at ho;have n0_:=z247_;have n1_:=z62_ HO_6;have n2_:=ak (hb);have n3_:=ak (ho);clear HO_0;clear BK255;clear HB;clear HO_6;clear HO285;have HO_0:=n0_;have BK255:=n1_;have HB:=n2_;have HO288:=n3_;clear n0_ n1_ n2_ n3_;clear ho hb hg hat))
     repeat (go_quiet (first|(go_at_call 39;(with_reducible refine(impl_cloneFeature.calls a1_0 a1_1 a1_2 a1_3 _ _ l1_4 t279 t280 t281 t282 t283 _ ?side1 ?side2 A29.out).mono ?_);(case side1=>exact z15_ HR1_4);(case side2=>exact HC1_4.out);rintro e w32 ⟨v284,rfl,ho0,hb⟩;replace HO_0:=z245_;replace HO_6:=z259_;have HO285:=z49_;replace BK255:=z138_;replace HB:=z17_;(try clear hb);(try clear hk);(try clear ho0);obtain⟨Ao34,co34,eo34⟩:=Kd.R_slice HO285.out;subst eo34)|((with_reducible refine gate_callee (f:=40) rfl ?_);refine impl_PutFeature.insev (w0:=w) w.heap.size rfl (.tmp 38) (.tmp 39) (.tmp 42) rfl rfl x8_1 LMc30.out.2.1 v257 t256 (⟨t279,t280,t281,t282,t283⟩:S34) [.int .i64 t279,.int .i64 t280,.int .i64 t281,.string t282,.slice Ao34 t283.length co34] (fun k_=>(w.heap.size≤k_)∧k_≠gb255) (fun k_=>some k_=(.slice Ao34 t283.length co34:Value).ownBlock) LMc30.out.2.2 rfl rfl rfl ?aP (fun k_ hk_=>((Kd.R_mono (ok':=fun k_=>((fun k_=>(w.heap.size≤k_)∧k_≠gb255)) k_∧some k_≠(v257:Value).ownBlock) (Kd.R_types (Kd.R_apart' (HO285.out) (Kd.S_typed HO_6.out) (by decide)) BK255.out (by decide)) (fun k_ hk=>⟨⟨hk.1.1.1,hk.2⟩,hk.1.2⟩))).1 k_ hk_.symm) ?aF ?aO ?aB ?aS ?aL ?_;(case aP=>exact z90_ HO285 HO_6 BK255);(case aB=>exact Hd.b_);(case aF=>exact z60_);(case aO=>exact(z70_ HO_6));(case aS=>exact z133_);(case aL=>have:=LMc30.out;omega);intro v287 w33 ho hb hg hat;rw [← Ny286.out] at ho;have n0_:=z247_;have n1_:=z62_ HO_6;have n2_:=ak (hb);have n3_:=ak (ho);clear HO_0;clear BK255;clear HB;clear HO_6;clear HO285;have HO_0:=n0_;have BK255:=n1_;have HB:=n2_;have HO288:=n3_;clear n0_ n1_ n2_ n3_;clear ho hb hg hat));try go_wp2_with (first|(go_at_call 39;(with_reducible refine(impl_cloneFeature.calls a1_0 a1_1 a1_2 a1_3 _ _ l1_4 t279 t280 t281 t282 t283 _ ?side1 ?side2 A29.out).mono ?_);(case side1=>exact z15_ HR1_4);(case side2=>exact HC1_4.out);rintro e w32 ⟨v284,rfl,ho0,hb⟩;replace HO_0:=z245_;replace HO_6:=z259_;have HO285:=z49_;replace BK255:=z138_;replace HB:=z17_;(try clear hb);(try clear hk);(try clear hi);(try clear ho0);obtain⟨Ao34,co34,eo34⟩:=Kd.R_slice HO285.out;subst eo34)|((with_reducible refine gate_callee (f:=40) rfl ?_);refine impl_PutFeature.insev (w0:=w) w.heap.size rfl (.tmp 38) (.tmp 39) (.tmp 42) rfl rfl x8_1 LMc30.out.2.1 v257 t256 (⟨t279,t280,t281,t282,t283⟩:S34) [.int .i64 t279,.int .i64 t280,.int .i64 t281,.string t282,.slice Ao34 t283.length co34] (fun k_=>(w.heap.size≤k_)∧k_≠gb255) (fun k_=>some k_=(.slice Ao34 t283.length co34:Value).ownBlock) LMc30.out.2.2 rfl rfl rfl ?aP (fun k_ hk_=>((Kd.R_mono (ok':=fun k_=>((fun k_=>(w.heap.size≤k_)∧k_≠gb255)) k_∧some k_≠(v257:Value).ownBlock) (Kd.R_types (Kd.R_apart' (HO285.out) (Kd.S_typed HO_6.out) (by decide)) BK255.out (by decide)) (fun k_ hk=>⟨⟨hk.1.1.1,hk.2⟩,hk.1.2⟩))).1 k_ hk_.symm) ?aF ?aO ?aB ?aS ?aL ?_;(case aP=>exact z90_ HO285 HO_6 BK255);(case aB=>exact Hd.b_);(case aF=>exact z60_);(case aO=>exact(z70_ HO_6));(case aS=>exact z133_);(case aL=>have:=LMc30.out;omega);intro v287 w33 ho hb hg hat;rw [← Ny286.out] at ho;have n0_:=z247_;have n1_:=z62_ HO_6;have n2_:=ak (hb);have n3_:=ak (ho);clear HO_0;clear BK255;clear HB;clear HO_6;clear HO285;have HO_0:=n0_;have BK255:=n1_;have HB:=n2_;have HO288:=n3_;clear n0_ n1_ n2_ n3_;clear ho hb hg hat)))
     go_meet
     case rel=>exact⟨_,(l0),(y286),H',⟨z103_⟩,⟨z132_ HO_0⟩,⟨z136_ HO288⟩,⟨Hd.b_⟩⟩
    rw [if_pos c19] at H
    have c19b0:=decide_eq_true c19
    clear c19
    by_cases c20:0≤x8_1;rotate_left
    ·
     rw [if_neg c20] at H
     exact absurd H (by simp)
    rw [if_pos c20] at H
    have c20b0:=decide_eq_true c20
    clear c20
    by_cases c21:((rd_T34 l0 x8_1).f0)<a1_0
    ·
     rw [if_pos c21] at H
     have c21b0:=decide_eq_true c21
     clear c21
     have H':=ak H
     clear H
     have p268:0≤(x8_1:Int):=od_
     have q268:x8_1<(l0.length:Int):=od_
     obtain⟨ad268,A268_4,c268_4,e268,hx268_0,hx268_1,hx268_2,hx268_3,hx268_4,hl268_4,hi268_4⟩:=at_T34 (Kd.V_reads' HO_0.out).2.2 x8_1 p268 q268
     cases e268
     obtain⟨ce268,hce268,hMe268,hcc268⟩:=Kd.V_get HO_0.out z34 x8_1 p268 (by first|exact q268|exact od_|(have e_:=(Kd.V_reads' HO_0.out).1;omega))
     obtain⟨ua268_4,uc268_4,rfl,ul268_4,ge268_4⟩:=k34_openF hMe268
     have hv268_4:=hcc268 4 _ rfl
     rw [add_field _ _ 4 (by omega)] at hv268_4
     replace hv268_4:=Option.some.inj (hv268_4.symm.trans hx268_4)
     injection hv268_4 with hva_ hvn_ hvc_
     rw [hva_] at ge268_4
     rw [hvc_] at ul268_4
     have HL268_4:=ak (show Kd.V k75 75 _ w.heap.size _ _ ((rd_T34 l0 x8_1).f4) from Kd.V_mk ul268_4 ge268_4)
     clear hva_ hvn_ hvc_ ge268_4 ul268_4
     clear hcc268 hce268
     have HR268_4:=ak hi268_4
     have HC268_4:=ak hl268_4
     clear hi268_4 hl268_4
     replace p268:=eq_true p268
     replace q268:=eq_true q268
     obtain⟨hcz22_0,hcz22_1,hcz22_2,hcz22_3,hcz22_4⟩:=Hd.c5_ BK255.out
     obtain⟨hfz22_0,hfz22_1,hfz22_2,hfz22_3,hfz22_4⟩:=Hd.f5_ BK255.out
     go_wp2
     repeat (go_quiet (fail);try go_wp2)
     go_roundg k1
     case measure=>have:=HK1.out;omega
     case rel=>exact⟨(wrap64 (x8_1+1)),z14_,H',⟨z101_⟩,⟨z5_ HO_0⟩,⟨z24_ HO_6⟩,⟨z6_ BK255⟩,⟨Hd.b_⟩⟩
    rw [if_neg c21] at H
    have c21b0:=decide_eq_false c21
    clear c21
    replace H:=Hd.bd_ H;obtain⟨⟨t269,t270,t271,t272,t273⟩,A23,H⟩:=H;dsimp only at H
    by_cases c24:(t256.length<2199023255552∧0≤x8_1∧x8_1≤(t256.length:Int));rotate_left
    ·
     rw [if_neg c24] at H
     exact absurd H (by simp)
    rw [if_pos c24] at H
    have LMc24:=ak c24
    clear c24
    generalize hy276:(impl_PutFeature.ins t256 x8_1 (⟨t269,t270,t271,t272,t273⟩:S34))=y276 at H;have Ny276:=ak hy276.symm;clear hy276;try rw [Option.bind_some] at H
    have H':=ak H
    clear H
    have p268:0≤(x8_1:Int):=od_
    have q268:x8_1<(l0.length:Int):=od_
    obtain⟨ad268,A268_4,c268_4,e268,hx268_0,hx268_1,hx268_2,hx268_3,hx268_4,hl268_4,hi268_4⟩:=at_T34 (Kd.V_reads' HO_0.out).2.2 x8_1 p268 q268
    cases e268
    obtain⟨ce268,hce268,hMe268,hcc268⟩:=Kd.V_get HO_0.out z34 x8_1 p268 (by first|exact q268|exact od_|(have e_:=(Kd.V_reads' HO_0.out).1;omega))
    obtain⟨ua268_4,uc268_4,rfl,ul268_4,ge268_4⟩:=k34_openF hMe268
    have hv268_4:=hcc268 4 _ rfl
    rw [add_field _ _ 4 (by omega)] at hv268_4
    replace hv268_4:=Option.some.inj (hv268_4.symm.trans hx268_4)
    injection hv268_4 with hva_ hvn_ hvc_
    rw [hva_] at ge268_4
    rw [hvc_] at ul268_4
    have HL268_4:=ak (show Kd.V k75 75 _ w.heap.size _ _ ((rd_T34 l0 x8_1).f4) from Kd.V_mk ul268_4 ge268_4)
    clear hva_ hvn_ hvc_ ge268_4 ul268_4
    clear hcc268 hce268
    have HR268_4:=ak hi268_4
    have HC268_4:=ak hl268_4
    clear hi268_4 hl268_4
    replace p268:=eq_true p268
    replace q268:=eq_true q268
    obtain⟨hcz25_0,hcz25_1,hcz25_2,hcz25_3,hcz25_4⟩:=Hd.c5_ BK255.out
    obtain⟨hfz25_0,hfz25_1,hfz25_2,hfz25_3,hfz25_4⟩:=Hd.f5_ BK255.out
    go_wp2_with (first|(go_at_call 39;(with_reducible refine(impl_cloneFeature.calls a1_0 a1_1 a1_2 a1_3 _ _ l1_4 t269 t270 t271 t272 t273 _ ?side1 ?side2 A23.out).mono ?_);(case side1=>exact z15_ HR1_4);(case side2=>exact HC1_4.out);rintro e w26 ⟨v274,rfl,ho0,hb⟩;replace HO_0:=z245_;replace HO_6:=z259_;replace HL268_4:=z118_;have HO275:=z49_;replace BK255:=z138_;replace HR268_4:=ak (Kd.C_below (z20_ HR268_4) hb);replace HB:=z17_;(try clear hb);(try clear hk);(try clear ho0);obtain⟨Ao28,co28,eo28⟩:=Kd.R_slice HO275.out;subst eo28)|((with_reducible refine gate_callee (f:=40) rfl ?_);refine impl_PutFeature.insev (w0:=w) w.heap.size rfl (.tmp 38) (.tmp 39) (.tmp 42) rfl rfl x8_1 LMc24.out.2.1 v257 t256 (⟨t269,t270,t271,t272,t273⟩:S34) [.int .i64 t269,.int .i64 t270,.int .i64 t271,.string t272,.slice Ao28 t273.length co28] (fun k_=>(w.heap.size≤k_)∧k_≠gb255) (fun k_=>some k_=(.slice Ao28 t273.length co28:Value).ownBlock) LMc24.out.2.2 rfl rfl rfl ?aP (fun k_ hk_=>((Kd.R_mono (ok':=fun k_=>((fun k_=>(w.heap.size≤k_)∧k_≠gb255)) k_∧some k_≠(v257:Value).ownBlock) (Kd.R_types (Kd.R_apart' (HO275.out) (Kd.S_typed HO_6.out) (by decide)) BK255.out (by decide)) (fun k_ hk=>⟨⟨hk.1.1.1,hk.2⟩,hk.1.2⟩))).1 k_ hk_.symm) ?aF ?aO ?aB ?aS ?aL ?_;(case aP=>exact z91_ HO275 HO_6 BK255);(case aB=>exact Hd.b_);(case aF=>exact z60_);(case aO=>exact(z70_ HO_6));(case aS=>exact z133_);(case aL=>have:=LMc24.out;omega);intro v277 w27 ho hb hg hat;rw [← Ny276.out] at ho;have n0_:=z248_;have n1_:=z62_ HO_6;have n2_:=z77_;have n3_:=ak (hb);have n4_:=ak (ho);clear HO_0;clear BK255;clear HL268_4;clear HB;clear HO_6;clear HO275;have HO_0:=n0_;have BK255:=n1_;have HL268_4:=n2_;have HB:=n3_;have HO278:=n4_;clear n0_ n1_ n2_ n3_ n4_;clear ho hb hg hat))
    repeat (go_quiet (first|(go_at_call 39;(with_reducible refine(impl_cloneFeature.calls a1_0 a1_1 a1_2 a1_3 _ _ l1_4 t269 t270 t271 t272 t273 _ ?side1 ?side2 A23.out).mono ?_);(case side1=>exact z15_ HR1_4);(case side2=>exact HC1_4.out);rintro e w26 ⟨v274,rfl,ho0,hb⟩;replace HO_0:=z245_;replace HO_6:=z259_;replace HL268_4:=z118_;have HO275:=z49_;replace BK255:=z138_;replace HR268_4:=ak (Kd.C_below (z20_ HR268_4) hb);replace HB:=z17_;(try clear hb);(try clear hk);(try clear ho0);obtain⟨Ao28,co28,eo28⟩:=Kd.R_slice HO275.out;subst eo28)|((with_reducible refine gate_callee (f:=40) rfl ?_);refine impl_PutFeature.insev (w0:=w) w.heap.size rfl (.tmp 38) (.tmp 39) (.tmp 42) rfl rfl x8_1 LMc24.out.2.1 v257 t256 (⟨t269,t270,t271,t272,t273⟩:S34) [.int .i64 t269,.int .i64 t270,.int .i64 t271,.string t272,.slice Ao28 t273.length co28] (fun k_=>(w.heap.size≤k_)∧k_≠gb255) (fun k_=>some k_=(.slice Ao28 t273.length co28:Value).ownBlock) LMc24.out.2.2 rfl rfl rfl ?aP (fun k_ hk_=>((Kd.R_mono (ok':=fun k_=>((fun k_=>(w.heap.size≤k_)∧k_≠gb255)) k_∧some k_≠(v257:Value).ownBlock) (Kd.R_types (Kd.R_apart' (HO275.out) (Kd.S_typed HO_6.out) (by decide)) BK255.out (by decide)) (fun k_ hk=>⟨⟨hk.1.1.1,hk.2⟩,hk.1.2⟩))).1 k_ hk_.symm) ?aF ?aO ?aB ?aS ?aL ?_;(case aP=>exact z91_ HO275 HO_6 BK255);(case aB=>exact Hd.b_);(case aF=>exact z60_);(case aO=>exact(z70_ HO_6));(case aS=>exact z133_);(case aL=>have:=LMc24.out;omega);intro v277 w27 ho hb hg hat;rw [← Ny276.out] at ho;have n0_:=z248_;have n1_:=z62_ HO_6;have n2_:=z77_;have n3_:=ak (hb);have n4_:=ak (ho);clear HO_0;clear BK255;clear HL268_4;clear HB;clear HO_6;clear HO275;have HO_0:=n0_;have BK255:=n1_;have HL268_4:=n2_;have HB:=n3_;have HO278:=n4_;clear n0_ n1_ n2_ n3_ n4_;clear ho hb hg hat));try go_wp2_with (first|(go_at_call 39;(with_reducible refine(impl_cloneFeature.calls a1_0 a1_1 a1_2 a1_3 _ _ l1_4 t269 t270 t271 t272 t273 _ ?side1 ?side2 A23.out).mono ?_);(case side1=>exact z15_ HR1_4);(case side2=>exact HC1_4.out);rintro e w26 ⟨v274,rfl,ho0,hb⟩;replace HO_0:=z245_;replace HO_6:=z259_;replace HL268_4:=z118_;have HO275:=z49_;replace BK255:=z138_;replace HR268_4:=ak (Kd.C_below (z20_ HR268_4) hb);replace HB:=z17_;(try clear hb);(try clear hk);(try clear hi);(try clear ho0);obtain⟨Ao28,co28,eo28⟩:=Kd.R_slice HO275.out;subst eo28)|((with_reducible refine gate_callee (f:=40) rfl ?_);refine impl_PutFeature.insev (w0:=w) w.heap.size rfl (.tmp 38) (.tmp 39) (.tmp 42) rfl rfl x8_1 LMc24.out.2.1 v257 t256 (⟨t269,t270,t271,t272,t273⟩:S34) [.int .i64 t269,.int .i64 t270,.int .i64 t271,.string t272,.slice Ao28 t273.length co28] (fun k_=>(w.heap.size≤k_)∧k_≠gb255) (fun k_=>some k_=(.slice Ao28 t273.length co28:Value).ownBlock) LMc24.out.2.2 rfl rfl rfl ?aP (fun k_ hk_=>((Kd.R_mono (ok':=fun k_=>((fun k_=>(w.heap.size≤k_)∧k_≠gb255)) k_∧some k_≠(v257:Value).ownBlock) (Kd.R_types (Kd.R_apart' (HO275.out) (Kd.S_typed HO_6.out) (by decide)) BK255.out (by decide)) (fun k_ hk=>⟨⟨hk.1.1.1,hk.2⟩,hk.1.2⟩))).1 k_ hk_.symm) ?aF ?aO ?aB ?aS ?aL ?_;(case aP=>exact z91_ HO275 HO_6 BK255);(case aB=>exact Hd.b_);(case aF=>exact z60_);(case aO=>exact(z70_ HO_6));(case aS=>exact z133_);(case aL=>have:=LMc24.out;omega);intro v277 w27 ho hb hg hat;rw [← Ny276.out] at ho;have n0_:=z248_;have n1_:=z62_ HO_6;have n2_:=z77_;have n3_:=ak (hb);have n4_:=ak (ho);clear HO_0;clear BK255;clear HL268_4;clear HB;clear HO_6;clear HO275;have HO_0:=n0_;have BK255:=n1_;have HL268_4:=n2_;have HB:=n3_;have HO278:=n4_;clear n0_ n1_ n2_ n3_ n4_;clear ho hb hg hat)))
    go_meet
    case rel=>exact⟨_,(l0),(y276),H',⟨z103_⟩,⟨z132_ HO_0⟩,⟨z136_ HO278⟩,⟨Hd.b_⟩⟩
 case rest =>
  clear HC5
  try clear c10;try clear c10b0;try clear c12;try clear c12b0;try clear c13;try clear c13b0;try clear p14;try clear q14;try clear c19;try clear c19b0;try clear c20;try clear c20b0;try clear c21;try clear c21b0;try clear c24;try clear c30;try clear hcz15_0;try clear hcz15_1;try clear hcz15_2;try clear hcz15_3;try clear hcz15_4;try clear hcz22_0;try clear hcz22_1;try clear hcz22_2;try clear hcz22_3;try clear hcz22_4;try clear hcz25_0;try clear hcz25_1;try clear hcz25_2;try clear hcz25_3;try clear hcz25_4;try clear hcz31_0;try clear hcz31_1;try clear hcz31_2;try clear hcz31_3;try clear hcz31_4;try clear hcz8_0;try clear hcz8_1;try clear hcz8_2;try clear hcz8_3;try clear hcz8_4;try clear hfz15_0;try clear hfz15_1;try clear hfz15_2;try clear hfz15_3;try clear hfz15_4;try clear hfz22_0;try clear hfz22_1;try clear hfz22_2;try clear hfz22_3;try clear hfz22_4;try clear hfz25_0;try clear hfz25_1;try clear hfz25_2;try clear hfz25_3;try clear hfz25_4;try clear hfz31_0;try clear hfz31_1;try clear hfz31_2;try clear hfz31_3;try clear hfz31_4;try clear hfz8_0;try clear hfz8_1;try clear hfz8_2;try clear hfz8_3;try clear hfz8_4;try clear hx14_0;try clear hx14_1;try clear hx14_2;try clear hx14_3;try clear hx14_4;try clear hx17_0;try clear hx17_1;try clear hx17_2;try clear hx17_3;try clear hx17_4;try clear hx268_0;try clear hx268_1;try clear hx268_2;try clear hx268_3;try clear hx268_4;try clear p14;try clear p268;try clear q14;try clear q268
  obtain⟨kq,x0_4,x6_4,HA,HJ4,HO_0,HO_6,HB⟩:=hcut
  have hl0_4:=(Kd.V_reads' HO_0.out).1
  rw [hl0_4] at HO_0
  (try simp only[hl0_4])
  (try simp only[hl0_4] at HO_6)
  cases kq with
  | zero=>exact absurd HA.out (by simp [impl_PutFeature.j1])
  | succ kj4 =>
   have H:=HA.out
   clear HA
   simp only[impl_PutFeature.j1] at H
   replace H:=Hd.bd_ H;obtain⟨t289,A35,H⟩:=H
   by_cases c36:t289=true
   ·
    subst c36
    rw [if_pos rfl] at H
    simp only[Option.some.injEq,Prod.mk.injEq] at H
    obtain⟨rfl,rfl⟩:=H
    obtain⟨Ao37,co37,eo37⟩:=Kd.S_slice HO_6.out
    subst eo37
    go_wp2_with (first|(go_at_call 21;(with_reducible refine(impl_IsSource.calls kj4 _ _ x6_4 true _ ?side1 ?side2 A35.out).mono ?_);(case side1=>exact z72_ HO_6);(case side2=>exact(Kd.S_reads' HO_6.out).2.1);rintro e w38 ⟨rfl,hb⟩;replace HO_0:=z269_;replace HO_6:=z283_;replace HB:=z17_;(try clear hb);(try clear hk)))
    repeat (go_quiet (first|(go_at_call 21;(with_reducible refine(impl_IsSource.calls kj4 _ _ x6_4 true _ ?side1 ?side2 A35.out).mono ?_);(case side1=>exact z72_ HO_6);(case side2=>exact(Kd.S_reads' HO_6.out).2.1);rintro e w38 ⟨rfl,hb⟩;replace HO_0:=z269_;replace HO_6:=z283_;replace HB:=z17_;(try clear hb);(try clear hk)));try go_wp2_with (first|(go_at_call 21;(with_reducible refine(impl_IsSource.calls kj4 _ _ x6_4 true _ ?side1 ?side2 A35.out).mono ?_);(case side1=>exact z72_ HO_6);(case side2=>exact(Kd.S_reads' HO_6.out).2.1);rintro e w38 ⟨rfl,hb⟩;replace HO_0:=z269_;replace HO_6:=z283_;replace HB:=z17_;(try clear hb);(try clear hk);(try clear hi))))
    go_ret2
    exact⟨_,Hd.e_,z24_ HO_6,Hd.b_⟩
   replace c36:=Bool.eq_false_iff.mpr c36
   subst c36
   rw [if_neg (show ¬ (false=true) by decide)] at H
   replace H:=Hd.bd_ H;obtain⟨t290,A39,H⟩:=H
   simp only[Option.some.injEq,Prod.mk.injEq] at H
   obtain⟨rfl,rfl⟩:=H
   obtain⟨Ao40,co40,eo40⟩:=Kd.S_slice HO_6.out
   subst eo40
   go_wp2_with (first|(go_at_call 21;(with_reducible refine(impl_IsSource.calls kj4 _ _ x6_4 false _ ?side1 ?side2 A35.out).mono ?_);(case side1=>exact z72_ HO_6);(case side2=>exact(Kd.S_reads' HO_6.out).2.1);rintro e w41 ⟨rfl,hb⟩;replace HO_0:=z269_;replace HO_6:=z283_;replace HB:=z17_;(try clear hb);(try clear hk))|(go_at_call 38;(with_reducible refine(impl_cloneSource.calls kj4 _ _ x0_4 t290 _ ?side1 ?side2 A39.out).mono ?_);(case side1=>exact z25_ HO_0);(case side2=>exact z123_ HO_0);rintro e w42 ⟨v291,rfl,ho0,hb⟩;replace HO_0:=z246_;have HO292:=z241_;replace HO_6:=ak (Kd.S_elder' (z24_ HO_6) (Kd.S_base ho0) hb);replace HB:=z17_;(try clear hb);(try clear hk);(try clear hi);(try clear ho0)))
   repeat (go_quiet (first|(go_at_call 21;(with_reducible refine(impl_IsSource.calls kj4 _ _ x6_4 false _ ?side1 ?side2 A35.out).mono ?_);(case side1=>exact z72_ HO_6);(case side2=>exact(Kd.S_reads' HO_6.out).2.1);rintro e w41 ⟨rfl,hb⟩;replace HO_0:=z269_;replace HO_6:=z283_;replace HB:=z17_;(try clear hb);(try clear hk))|(go_at_call 38;(with_reducible refine(impl_cloneSource.calls kj4 _ _ x0_4 t290 _ ?side1 ?side2 A39.out).mono ?_);(case side1=>exact z25_ HO_0);(case side2=>exact z123_ HO_0);rintro e w42 ⟨v291,rfl,ho0,hb⟩;replace HO_0:=z246_;have HO292:=z241_;replace HO_6:=ak (Kd.S_elder' (z24_ HO_6) (Kd.S_base ho0) hb);replace HB:=z17_;(try clear hb);(try clear hk);(try clear hi);(try clear ho0)));try go_wp2_with (first|(go_at_call 21;(with_reducible refine(impl_IsSource.calls kj4 _ _ x6_4 false _ ?side1 ?side2 A35.out).mono ?_);(case side1=>exact z72_ HO_6);(case side2=>exact(Kd.S_reads' HO_6.out).2.1);rintro e w41 ⟨rfl,hb⟩;replace HO_0:=z269_;replace HO_6:=z283_;replace HB:=z17_;clear hb)|(go_at_call 38;(with_reducible refine(impl_cloneSource.calls kj4 _ _ x0_4 t290 _ ?side1 ?side2 A39.out).mono ?_);(case side1=>exact z25_ HO_0);(case side2=>exact z123_ HO_0);rintro e w42 ⟨v291,rfl,ho0,hb⟩;replace HO_0:=z246_;have HO292:=z241_;replace HO_6:=ak (Kd.S_elder' (z24_ HO_6) (Kd.S_base ho0) hb);replace HB:=z17_;clear hb ho0)))
   go_ret2
   exact⟨_,Hd.e_,by (with_reducible repeat (first|apply Kd.S_alloc|apply Kd.S_drewN|apply Kd.S_drew));exact Kd.S_mono HO292.out (fun _ hk=>hk.1.1),Hd.b_⟩
def laws_big.f (l0:List Int):Option (Bool):=some (decide ((l0.length:Int)>1048576))
theorem laws_big.calls (A0:Option Addr) (c0:Nat) (l0:List Int) (r:Bool) (w:World) (hr0:Kd.C (Kd.int .u8) w A0 l0.length l0) (hc0:l0.length≤c0) (h:laws_big.f l0=some r) :
  Calls Try.prog 18 #[.slice A0 l0.length c0] w fun e w'=>e = .returned (.bool r)∧Drawn0 w w':=by
 have HR0:=ak hr0
 have HC0:=ak hc0
 clear hr0 hc0
 have H:(some (decide ((l0.length:Int)>1048576)))=some r:=h
 clear h
 obtain rfl:=Option.some.inj H
 go_enter Try.func18,Try.ntmps18
 go_wp2
 go_ret
 exact⟨z14_,z36_⟩
end Go.Proofs.Ytbbdhlggnglfgaa.MFnFeatures
