/- Plain geometry on a grid of whole numbers: how two segments meet, told in two ways that agree; no program in sight. No condition beyond each lemma's own. -/
set_option linter.unusedVariables false
namespace Go.Proofs.Ytbbdhlggnglfgaa.Geo
structure Pt where
  x:Int
  y:Int
deriving DecidableEq
def cross (a b p:Pt):Int:=(b.x-a.x)*(p.y-a.y)-(b.y-a.y)*(p.x-a.x)
def Ok (p:Pt):Prop:=0≤p.x∧p.x≤200∧0≤p.y∧p.y≤200
def sgn (n:Int):Int:=if 0<n then 1 else if n<0 then -1 else 0
def InB (a b p:Pt):Prop:=min a.x b.x≤p.x∧p.x≤max a.x b.x∧min a.y b.y≤p.y∧p.y≤max a.y b.y
def On (a b p:Pt):Prop:=cross a b p=0∧InB a b p
def key (p:Pt):Int:=1000*p.y+p.x
theorem key_inj {p q:Pt} (hp:Ok p) (hq:Ok q) (h:key p=key q):p=q:=by
  unfold Ok at *;unfold key at h
  cases p;cases q;simp only[Pt.mk.injEq] at *;omega
theorem par {ux uy px py qx qy:Int} (h:¬ (ux=0∧uy=0)) (h1:ux*py-uy*px=0) (h2:ux*qy-uy*qx=0):px*qy-py*qx=0:=by
  have e1:ux*(px*qy-py*qx)=0:=by grind
  have e2:uy*(px*qy-py*qx)=0:=by grind
  rcases Int.mul_eq_zero.1 e1 with h0|h0
  · rcases Int.mul_eq_zero.1 e2 with h3|h3
    · exact absurd ⟨h0,h3⟩ h
    · exact h3
  · exact h0
end Go.Proofs.Ytbbdhlggnglfgaa.Geo
namespace Go.Proofs.Ytbbdhlggnglfgaa.Geo
theorem sgn_eq_zero {n:Int}:sgn n=0↔n=0:=by unfold sgn;split <;> (try split) <;> omega
theorem sgn_mul_neg {m n:Int}:sgn m*sgn n<0↔(0<m∧n<0)∨(m<0∧0<n):=by
  unfold sgn;split <;> split <;> (try split) <;> (try split) <;> omega
theorem weights {w1 w2 v1 v2 a b c d m:Int} (h1:0<w1) (h2:0<w2) (h3:0<v1) (h4:0<v2) (hs:w1+w2=v1+v2) (he:w1*c+w2*d=v1*a+v2*b) (ha:a<m) (hb:b<m) (hc:m≤c) (hd:m≤d):False:=by
  have e1:w1*m≤w1*c:=Int.mul_le_mul_of_nonneg_left hc (by omega)
  have e2:w2*m≤w2*d:=Int.mul_le_mul_of_nonneg_left hd (by omega)
  have e3:v1*a<v1*m:=Int.mul_lt_mul_of_pos_left ha h3
  have e4:v2*b<v2*m:=Int.mul_lt_mul_of_pos_left hb h4
  have e5:w1*m+w2*m=v1*m+v2*m:=by rw [← Int.add_mul,← Int.add_mul,hs]
  omega
theorem proper_box {a b c d:Pt} (h1:sgn (cross a b c)*sgn (cross a b d)<0) (h2:sgn (cross c d a)*sgn (cross c d b)<0) :
    ¬ (max a.x b.x<min c.x d.x)∧¬ (max c.x d.x<min a.x b.x)∧¬ (max a.y b.y<min c.y d.y)∧¬ (max c.y d.y<min a.y b.y):=by
  rw [sgn_mul_neg] at h1 h2
  have s:cross a b c-cross a b d=-(cross c d a-cross c d b):=by unfold cross;grind
  have ex:cross a b c*d.x-cross a b d*c.x=-(cross c d a*b.x-cross c d b*a.x):=by unfold cross;grind
  have ey:cross a b c*d.y-cross a b d*c.y=-(cross c d a*b.y-cross c d b*a.y):=by unfold cross;grind
  generalize cross a b c=α at *
  generalize cross a b d=β at *
  generalize cross c d a=γ at *
  generalize cross c d b=δ at *
  refine⟨fun h=>?_,fun h=>?_,fun h=>?_,fun h=>?_⟩
  · rcases h1 with ⟨p,q⟩|⟨p,q⟩ <;> rcases h2 with ⟨p',q'⟩|⟨p',q'⟩ <;> try omega
    · exact weights (w1:=-β) (w2:=α) (v1:=δ) (v2:=-γ) (a:=a.x) (b:=b.x) (c:=c.x) (d:=d.x) (m:=min c.x d.x) (by omega) (by omega) (by omega) (by omega) (by omega) (by grind) (by omega) (by omega) (by omega) (by omega)
    · exact weights (w1:=β) (w2:=-α) (v1:=-δ) (v2:=γ) (a:=a.x) (b:=b.x) (c:=c.x) (d:=d.x) (m:=min c.x d.x) (by omega) (by omega) (by omega) (by omega) (by omega) (by grind) (by omega) (by omega) (by omega) (by omega)
  · rcases h1 with ⟨p,q⟩|⟨p,q⟩ <;> rcases h2 with ⟨p',q'⟩|⟨p',q'⟩ <;> try omega
    · exact weights (v1:=-β) (v2:=α) (w1:=δ) (w2:=-γ) (c:=a.x) (d:=b.x) (a:=c.x) (b:=d.x) (m:=min a.x b.x) (by omega) (by omega) (by omega) (by omega) (by omega) (by grind) (by omega) (by omega) (by omega) (by omega)
    · exact weights (v1:=β) (v2:=-α) (w1:=-δ) (w2:=γ) (c:=a.x) (d:=b.x) (a:=c.x) (b:=d.x) (m:=min a.x b.x) (by omega) (by omega) (by omega) (by omega) (by omega) (by grind) (by omega) (by omega) (by omega) (by omega)
  · rcases h1 with ⟨p,q⟩|⟨p,q⟩ <;> rcases h2 with ⟨p',q'⟩|⟨p',q'⟩ <;> try omega
    · exact weights (w1:=-β) (w2:=α) (v1:=δ) (v2:=-γ) (a:=a.y) (b:=b.y) (c:=c.y) (d:=d.y) (m:=min c.y d.y) (by omega) (by omega) (by omega) (by omega) (by omega) (by grind) (by omega) (by omega) (by omega) (by omega)
    · exact weights (w1:=β) (w2:=-α) (v1:=-δ) (v2:=γ) (a:=a.y) (b:=b.y) (c:=c.y) (d:=d.y) (m:=min c.y d.y) (by omega) (by omega) (by omega) (by omega) (by omega) (by grind) (by omega) (by omega) (by omega) (by omega)
  · rcases h1 with ⟨p,q⟩|⟨p,q⟩ <;> rcases h2 with ⟨p',q'⟩|⟨p',q'⟩ <;> try omega
    · exact weights (v1:=-β) (v2:=α) (w1:=δ) (w2:=-γ) (c:=a.y) (d:=b.y) (a:=c.y) (b:=d.y) (m:=min a.y b.y) (by omega) (by omega) (by omega) (by omega) (by omega) (by grind) (by omega) (by omega) (by omega) (by omega)
    · exact weights (v1:=β) (v2:=-α) (w1:=-δ) (w2:=γ) (c:=a.y) (d:=b.y) (a:=c.y) (b:=d.y) (m:=min a.y b.y) (by omega) (by omega) (by omega) (by omega) (by omega) (by grind) (by omega) (by omega) (by omega) (by omega)
end Go.Proofs.Ytbbdhlggnglfgaa.Geo
namespace Go.Proofs.Ytbbdhlggnglfgaa.Geo
theorem line_key_up {a b p:Pt} (ha:Ok a) (hb:Ok b) (hp:Ok p) (hc:cross a b p=0) (hk:key a<key b):InB a b p↔key a≤key p∧key p≤key b:=by
  unfold Ok at *;unfold cross at hc;unfold key at *;unfold InB
  obtain⟨ax,ay⟩:=a;obtain⟨bx,bY⟩:=b;obtain⟨px,py⟩:=p
  simp only at *
  -- differences
  obtain⟨ux,hux⟩:∃ ux,ux=bx-ax:=⟨_,rfl⟩
  obtain⟨uy,huy⟩:∃ uy,uy=bY-ay:=⟨_,rfl⟩
  obtain⟨qx,hqx⟩:∃ qx,qx=px-ax:=⟨_,rfl⟩
  obtain⟨qy,hqy⟩:∃ qy,qy=py-ay:=⟨_,rfl⟩
  have hc':ux*qy=uy*qx:=by rw [hux,huy,hqx,hqy];omega
  clear hc
  by_cases h0:uy=0
  · have hx:0<ux:=by omega
    have:ux*qy=0:=by rw [hc',h0,Int.zero_mul]
    have hq:qy=0:=by
      rcases Int.mul_eq_zero.1 this with h|h <;> omega
    omega
  · have hy:0<uy:=by omega
    constructor
    · rintro ⟨h1,h2,h3,h4⟩
      have y0:0≤qy:=by omega
      have y1:qy≤uy:=by omega
      constructor
      · by_cases hq:qy=0
        · rw [hq,Int.mul_zero] at hc'
          have:qx=0:=by rcases Int.mul_eq_zero.1 hc'.symm with h|h <;> omega
          omega
        · omega
      · by_cases hq:qy=uy
        · rw [hq,Int.mul_comm] at hc'
          have:ux=qx:=Int.eq_of_mul_eq_mul_left (by omega) hc'
          omega
        · omega
    · rintro ⟨h1,h2⟩
      have y0:0≤qy:=by omega
      have y1:qy≤uy:=by omega
      have x0:(0≤ux→0≤qx∧qx≤ux)∧(ux≤0→ux≤qx∧qx≤0):=by
        constructor
        · intro h
          have e1:0≤ux*qy:=Int.mul_nonneg h y0
          have e2:ux*qy≤ux*uy:=Int.mul_le_mul_of_nonneg_left y1 h
          constructor
          · have:0≤uy*qx:=by omega
            exact Int.nonneg_of_mul_nonneg_right this hy
          · have:uy*qx≤uy*ux:=by rw [← hc',Int.mul_comm uy ux];exact e2
            exact Int.le_of_mul_le_mul_left this hy
        · intro h
          have e1:ux*qy≤0:=Int.mul_nonpos_of_nonpos_of_nonneg h y0
          have e2:ux*uy≤ux*qy:=Int.mul_le_mul_of_nonpos_left h y1
          constructor
          · have:uy*ux≤uy*qx:=by rw [← hc',Int.mul_comm uy ux];exact e2
            exact Int.le_of_mul_le_mul_left this hy
          · have:uy*qx≤uy*0:=by rw [Int.mul_zero];omega
            exact Int.le_of_mul_le_mul_left this hy
      omega
theorem InB_comm {a b p:Pt}:InB a b p↔InB b a p:=by unfold InB;omega
theorem cross_swap {a b p:Pt}:cross b a p=-cross a b p:=by unfold cross;grind
theorem line_key {a b p:Pt} (ha:Ok a) (hb:Ok b) (hp:Ok p) (hc:cross a b p=0) (hn:a≠b):InB a b p↔min (key a) (key b)≤key p∧key p≤max (key a) (key b):=by
  have:key a≠key b:=fun h=>hn (key_inj ha hb h)
  by_cases h:key a<key b
  · rw [line_key_up ha hb hp hc h];omega
  · rw [InB_comm,line_key_up hb ha hp (by rw [cross_swap];omega) (by omega)];omega
theorem coll_back {a b c d p:Pt} (hn:a≠b) (hc:cross a b c=0) (hd:cross a b d=0) (hp:cross a b p=0):cross c d p=0:=by
  have hn':¬ ((b.x-a.x)=0∧(b.y-a.y)=0):=by
    rintro ⟨h1,h2⟩
    apply hn
    obtain⟨ax,ay⟩:=a;obtain⟨bx,bY⟩:=b
    simp only[Pt.mk.injEq] at *
    omega
  unfold cross at *
  have h1:(b.x-a.x)*(d.y-c.y)-(b.y-a.y)*(d.x-c.x)=0:=by grind
  have h2:(b.x-a.x)*(p.y-c.y)-(b.y-a.y)*(p.x-c.x)=0:=by grind
  exact par hn' h1 h2
theorem cross_a {a b:Pt}:cross a b a=0:=by unfold cross;grind
theorem cross_b {a b:Pt}:cross a b b=0:=by unfold cross;grind
end Go.Proofs.Ytbbdhlggnglfgaa.Geo
namespace Go.Proofs.Ytbbdhlggnglfgaa.Geo
instance {a b p:Pt}:Decidable (InB a b p):=by unfold InB;infer_instance
instance {a b p:Pt}:Decidable (On a b p):=by unfold On;infer_instance
def nShared (a b c d:Pt):Nat :=
  (if On c d a then 1 else 0)+(if On c d b then 1 else 0)
  + (if On a b c∧¬ (On c d a∧a=c)∧¬ (On c d b∧b=c) then 1 else 0)
  + (if On a b d∧¬ (On c d a∧a=d)∧¬ (On c d b∧b=d) then 1 else 0)
def Apart (a b c d:Pt):Prop:=max a.x b.x<min c.x d.x∨max c.x d.x<min a.x b.x∨max a.y b.y<min c.y d.y∨max c.y d.y<min a.y b.y
instance {a b c d:Pt}:Decidable (Apart a b c d):=by unfold Apart;infer_instance
def Proper (a b c d:Pt):Prop:=sgn (cross a b c)*sgn (cross a b d)<0∧sgn (cross c d a)*sgn (cross c d b)<0
instance {a b c d:Pt}:Decidable (Proper a b c d):=by unfold Proper;infer_instance
def howS (a b c d:Pt):Int :=
  if Apart a b c d then 0 else if nShared a b c d=0 then (if Proper a b c d then 2 else 0) else if nShared a b c d=1 then 1 else 3
def lowK (a b:Pt):Pt:=if key b<key a then b else a
def highK (a b:Pt):Pt:=if key b<key a then a else b
def lo2 (a b c d:Pt):Pt:=if key (lowK a b)<key (lowK c d) then lowK c d else lowK a b
def hi2 (a b c d:Pt):Pt:=if key (highK c d)<key (highK a b) then highK c d else highK a b
def howI (a b c d:Pt):Int :=
  if cross a b c=0∧cross a b d=0 then (if key (hi2 a b c d)<key (lo2 a b c d) then 0 else if lo2 a b c d=hi2 a b c d then 1 else 3)
  else if Proper a b c d then 2 else if On a b c∨On a b d∨On c d a∨On c d b then 1 else 0
theorem on_not_apart {a b c d:Pt} (h:On a b c∨On a b d∨On c d a∨On c d b):¬ Apart a b c d:=by
  unfold On InB at h;unfold Apart;omega
theorem proper_not_apart {a b c d:Pt} (h:Proper a b c d):¬ Apart a b c d:=by
  obtain⟨h1,h2,h3,h4⟩:=proper_box h.1 h.2
  unfold Apart;omega
theorem proper_not_on {a b c d:Pt} (h:Proper a b c d):¬ (On a b c∨On a b d∨On c d a∨On c d b):=by
  obtain⟨h1,h2⟩:=h
  rw [sgn_mul_neg] at h1 h2
  unfold On
  omega
theorem nShared_zero {a b c d:Pt}:nShared a b c d=0↔¬ (On a b c∨On a b d∨On c d a∨On c d b):=by
  unfold nShared
  by_cases h1:On c d a <;> by_cases h2:On c d b <;> by_cases h3:On a b c <;> by_cases h4:On a b d <;> simp [h1,h2,h3,h4]
theorem key_eq_iff {p q:Pt} (hp:Ok p) (hq:Ok q):p=q↔key p=key q:=⟨fun h=>by rw [h],key_inj hp hq⟩
theorem ok_lo {a b:Pt} (ha:Ok a) (hb:Ok b):Ok (lowK a b):=by unfold lowK;split <;> assumption
theorem ok_hi {a b:Pt} (ha:Ok a) (hb:Ok b):Ok (highK a b):=by unfold highK;split <;> assumption
theorem ok_lo2 {a b c d:Pt} (ha:Ok a) (hb:Ok b) (hc:Ok c) (hd:Ok d):Ok (lo2 a b c d):=by
  unfold lo2;split
  · exact ok_lo hc hd
  · exact ok_lo ha hb
theorem ok_hi2 {a b c d:Pt} (ha:Ok a) (hb:Ok b) (hc:Ok c) (hd:Ok d):Ok (hi2 a b c d):=by
  unfold hi2;split
  · exact ok_hi hc hd
  · exact ok_hi ha hb
theorem key_lo {a b:Pt}:key (lowK a b)=min (key a) (key b):=by unfold lowK;split <;> omega
theorem key_hi {a b:Pt}:key (highK a b)=max (key a) (key b):=by unfold highK;split <;> omega
theorem key_lo2 {a b c d:Pt}:key (lo2 a b c d)=max (min (key a) (key b)) (min (key c) (key d)):=by
  unfold lo2;have h1:=@key_lo a b;have h2:=@key_lo c d;split <;> omega
theorem key_hi2 {a b c d:Pt}:key (hi2 a b c d)=min (max (key a) (key b)) (max (key c) (key d)):=by
  unfold hi2;have h1:=@key_hi a b;have h2:=@key_hi c d;split <;> omega
theorem count_keys {A B C D:Int} (hn:A≠B) (hm:C≠D) :
    let n:=(if min C D≤A∧A≤max C D then 1 else 0)+(if min C D≤B∧B≤max C D then 1 else 0)
      + (if (min A B≤C∧C≤max A B)∧¬ ((min C D≤A∧A≤max C D)∧A=C)∧¬ ((min C D≤B∧B≤max C D)∧B=C) then 1 else 0)
      + (if (min A B≤D∧D≤max A B)∧¬ ((min C D≤A∧A≤max C D)∧A=D)∧¬ ((min C D≤B∧B≤max C D)∧B=D) then 1 else (0:Nat))
    let lo:=max (min A B) (min C D)
    let hi:=min (max A B) (max C D)
    (hi<lo↔n=0)∧(lo=hi↔n=1):=by
  intro n lo hi
  simp only[n,lo,hi]
  constructor <;> (repeat' split) <;> omega
theorem one_line {a b c d:Pt} (h1:cross a b c=0) (h2:cross c d a=0) (hn:a≠c):cross a b d=0:=by
  have hn':¬ ((c.x-a.x)=0∧(c.y-a.y)=0):=by
    rintro ⟨h1,h2⟩
    apply hn
    obtain⟨ax,ay⟩:=a;obtain⟨cx,cy⟩:=c
    simp only[Pt.mk.injEq] at *
    omega
  unfold cross at *
  have e1:(c.x-a.x)*(b.y-a.y)-(c.y-a.y)*(b.x-a.x)=0:=by grind
  have e2:(c.x-a.x)*(d.y-a.y)-(c.y-a.y)*(d.x-a.x)=0:=by grind
  exact par hn' e1 e2
theorem nShared_le {a b c d:Pt} (hm:c≠d) (h0:¬ (cross a b c=0∧cross a b d=0)) (ho:On a b c∨On a b d∨On c d a∨On c d b):nShared a b c d=1:=by
  have n1:¬ (On a b c∧On a b d):=fun h=>h0 ⟨h.1.1,h.2.1⟩
  have n2:¬ (On c d a∧On c d b):=fun h=>h0 ⟨coll_back hm h.1.1 h.2.1 cross_a,coll_back hm h.1.1 h.2.1 cross_b⟩
  have m1:On a b c→On c d a→a=c:=fun h h'=>Classical.byContradiction fun e=>h0 ⟨h.1,one_line h.1 h'.1 e⟩
  have m2:On a b c→On c d b→b=c:=fun h h'=>Classical.byContradiction fun e=>h0 ⟨h.1,by
    have:=one_line (a:=b) (b:=a) (c:=c) (d:=d) (by rw [cross_swap,h.1];rfl) h'.1 e
    rw [cross_swap] at this;omega⟩
  have m3:On a b d→On c d a→a=d:=fun h h'=>Classical.byContradiction fun e=>h0 ⟨one_line h.1 (by rw [cross_swap,h'.1];rfl) e,h.1⟩
  have m4:On a b d→On c d b→b=d:=fun h h'=>Classical.byContradiction fun e=>h0 ⟨by
    have:=one_line (a:=b) (b:=a) (c:=d) (d:=c) (by rw [cross_swap,h.1];rfl) (by rw [cross_swap,h'.1];rfl) e
    rw [cross_swap] at this;omega,h.1⟩
  unfold nShared
  by_cases h1:On c d a <;> by_cases h2:On c d b <;> by_cases h3:On a b c <;> by_cases h4:On a b d <;> simp_all
theorem how_eq {a b c d:Pt} (ha:Ok a) (hb:Ok b) (hc:Ok c) (hd:Ok d) (hn:a≠b) (hm:c≠d):howI a b c d=howS a b c d:=by
  unfold howI howS
  by_cases h0:cross a b c=0∧cross a b d=0
  · rw [if_pos h0]
    obtain⟨h1,h2⟩:=h0
    have h3:cross c d a=0:=coll_back hn h1 h2 cross_a
    have h4:cross c d b=0:=coll_back hn h1 h2 cross_b
    have o1:On a b c↔min (key a) (key b)≤key c∧key c≤max (key a) (key b):=by unfold On;rw [line_key ha hb hc h1 hn];simp [h1]
    have o2:On a b d↔min (key a) (key b)≤key d∧key d≤max (key a) (key b):=by unfold On;rw [line_key ha hb hd h2 hn];simp [h2]
    have o3:On c d a↔min (key c) (key d)≤key a∧key a≤max (key c) (key d):=by unfold On;rw [line_key hc hd ha h3 hm];simp [h3]
    have o4:On c d b↔min (key c) (key d)≤key b∧key b≤max (key c) (key d):=by unfold On;rw [line_key hc hd hb h4 hm];simp [h4]
    have np:¬ Proper a b c d:=by unfold Proper;rw [sgn_mul_neg];omega
    have hk:=@count_keys (key a) (key b) (key c) (key d) (fun h=>hn (key_inj ha hb h)) (fun h=>hm (key_inj hc hd h))
    have ns:nShared a b c d=(if min (key c) (key d)≤key a∧key a≤max (key c) (key d) then 1 else 0)+(if min (key c) (key d)≤key b∧key b≤max (key c) (key d) then 1 else 0)
      + (if (min (key a) (key b)≤key c∧key c≤max (key a) (key b))∧¬ ((min (key c) (key d)≤key a∧key a≤max (key c) (key d))∧key a=key c)∧¬ ((min (key c) (key d)≤key b∧key b≤max (key c) (key d))∧key b=key c) then 1 else 0)
      + (if (min (key a) (key b)≤key d∧key d≤max (key a) (key b))∧¬ ((min (key c) (key d)≤key a∧key a≤max (key c) (key d))∧key a=key d)∧¬ ((min (key c) (key d)≤key b∧key b≤max (key c) (key d))∧key b=key d) then 1 else (0:Nat)):=by
      unfold nShared
      simp only[o1,o2,o3,o4,key_eq_iff ha hc,key_eq_iff ha hd,key_eq_iff hb hc,key_eq_iff hb hd]
    simp only at hk
    rw [← ns] at hk
    obtain⟨k1,k2⟩:=hk
    have k3:key (hi2 a b c d)<key (lo2 a b c d)↔nShared a b c d=0:=by rw [key_lo2,key_hi2];exact k1
    have k4:lo2 a b c d=hi2 a b c d↔nShared a b c d=1:=by rw [key_eq_iff (ok_lo2 ha hb hc hd) (ok_hi2 ha hb hc hd),key_lo2,key_hi2];exact k2
    clear k1 k2 ns
    by_cases hs:nShared a b c d=0
    · rw [if_pos (k3.2 hs),if_pos hs,if_neg np];simp
    · have hna:¬ Apart a b c d:=by
        rw [nShared_zero] at hs
        exact on_not_apart (Classical.not_not.1 hs)
      rw [if_neg (fun h=>hs (k3.1 h)),if_neg hna,if_neg hs]
      by_cases h1':nShared a b c d=1
      · rw [if_pos (k4.2 h1'),if_pos h1']
      · rw [if_neg (fun h=>h1' (k4.1 h)),if_neg h1']
  · rw [if_neg h0]
    by_cases hp:Proper a b c d
    · rw [if_pos hp,if_neg (proper_not_apart hp),if_pos (nShared_zero.2 (proper_not_on hp)),if_pos hp]
    · rw [if_neg hp]
      by_cases ho:On a b c∨On a b d∨On c d a∨On c d b
      · rw [if_pos ho,if_neg (on_not_apart ho),if_neg (fun h=>nShared_zero.1 h ho)]
        have h1:nShared a b c d=1:=nShared_le hm h0 ho
        rw [if_pos h1]
      · rw [if_neg ho,if_pos (nShared_zero.2 ho),if_neg hp];simp
end Go.Proofs.Ytbbdhlggnglfgaa.Geo
