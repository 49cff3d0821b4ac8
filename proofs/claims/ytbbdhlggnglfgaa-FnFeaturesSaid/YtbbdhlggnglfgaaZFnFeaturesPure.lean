/- The plain law behind FnFeatures: what the printed functions compute answers true; no condition beyond the arguments' ranges. -/
import Derived.Test.YtbbdhlggnglfgaaZFnFeaturesTold
import Derived.Test.YtbbdhlggnglfgaaZFnFeaturesGeo
import Derived.Laws.BitsLemmas
import Derived.Test.YtbbdhlggnglfgaaZFnFeaturesMx22
import Derived.Test.YtbbdhlggnglfgaaZFnFeaturesOpn
namespace Go.Proofs.Ytbbdhlggnglfgaa.MFnFeatures
open Go Go.RowKit Go.Proofs.YtbbdhlggnglfgaaW.PrintWords Go.Proofs.YtbbdhlggnglfgaaW.PrintLast Go.Proofs.YtbbdhlggnglfgaaW.PrintMore Go.Proofs.Ytbbdhlggnglfgaa.Open
set_option linter.unusedVariables false
set_option linter.unusedSimpArgs false
theorem and255 (n:Int):0≤bits .and .i64 n 255∧bits .and .i64 n 255≤255:=by
 have h:(BitVec.ofInt 64 255).toNat=2 ^ 8-1:=by decide
 have key:(BitVec.ofInt 64 n &&& BitVec.ofInt 64 255).toNat=(n % ((2 ^ 64:Nat):Int)).toNat % 2 ^ 8:=by
  rw [BitVec.toNat_and,BitVec.toNat_ofInt,h,Nat.and_two_pow_sub_one_eq_mod]
 show 0≤IntKind.i64.wrap ((BitVec.ofInt 64 n &&& BitVec.ofInt 64 255).toNat:Nat)∧IntKind.i64.wrap ((BitVec.ofInt 64 n &&& BitVec.ofInt 64 255).toNat:Nat)≤255
 rw [key,IntKind.wrap_i64]
 omega
structure CK (xs:List Int) (p:Int):Prop where
 lo:0≤p
 hi:p≤xs.length
 sm:xs.length≤1048576
theorem dByte {xs:List Int} {p:Int} (c:CK xs p) (s:Int):∃ b p' s',spec_l1Byte.f xs p s=some (b,p',s')∧0≤b∧b≤255∧CK xs p':=by
 obtain⟨a,b,d⟩:=c
 unfold spec_l1Byte.f
 by_cases h:p<(xs.length:Int)
 ·rw [if_pos h,if_pos a]
  refine⟨_,_,_,rfl,(and255 _).1,(and255 _).2,?_⟩
  rw [Gen.w64 (by omega) (by omega)]
  exact⟨by omega,by omega,d⟩
 ·rw [if_neg h]
  exact⟨_,_,_,rfl,(and255 _).1,(and255 _).2,a,b,d⟩
theorem tmod_bd {b n:Int} (h:0≤b) (hn:0<n):0≤Int.tmod b n∧Int.tmod b n<n:=by
 rw [Int.tmod_eq_emod_of_nonneg h]
 exact⟨Int.emod_nonneg _ (by omega),Int.emod_lt_of_pos _ hn⟩
theorem dBelow {xs:List Int} {p:Int} (c:CK xs p) (s n:Int):∃ b p' s',spec_l1Below.f xs p s n=some (b,p',s')∧0≤b∧(0<n→b<n)∧(n≤0→b=0)∧CK xs p':=by
 unfold spec_l1Below.f
 by_cases h:n≤0
 ·rw [if_pos h];exact⟨_,_,_,rfl,by omega,by omega,fun _=>rfl,c⟩
 ·rw [if_neg h]
  obtain⟨b,p1,s1,e,b0,b1,c1⟩:=dByte c s
  by_cases h2:n≤256
  ·rw [if_pos h2,e]
   simp only[Option.bind_some]
   rw [if_neg (by omega)]
   exact⟨_,_,_,rfl,(tmod_bd b0 (by omega)).1,fun _=>(tmod_bd b0 (by omega)).2,by omega,c1⟩
  ·rw [if_neg h2,e]
   obtain⟨d,p2,s2,e2,d0,d1,c2⟩:=dByte c1 s1
   obtain⟨g,p3,s3,e3,g0,g1,c3⟩:=dByte c2 s2
   simp only[Option.bind_some,e2,e3]
   rw [if_neg (by omega)]
   have w:wrap64 ((wrap64 ((wrap64 (b*65536))+(wrap64 (d*256))))+g)=b*65536+d*256+g:=by
    rw [Gen.w64 (n:=b*65536) (by omega) (by omega),Gen.w64 (n:=d*256) (by omega) (by omega),Gen.w64 (n:=b*65536+d*256) (by omega) (by omega),Gen.w64 (by omega) (by omega)]
   rw [w]
   exact⟨_,_,_,rfl,(tmod_bd (by omega) (by omega)).1,fun _=>(tmod_bd (by omega) (by omega)).2,by omega,c3⟩
theorem dInt {xs:List Int} {p:Int} (c:CK xs p) (s:Int) (l:List Int) (hl:0<l.length):∃ b p' s',spec_l1Int.f xs p s l=some (b,p',s')∧b∈l∧CK xs p':=by
 unfold spec_l1Int.f
 obtain⟨b,p1,s1,e,b0,b1,_,c1⟩:=dBelow c s (l.length:Int)
 have b1:=b1 (by omega)
 rw [e]
 simp only[Option.bind_some]
 rw [if_pos b0,if_pos b1]
 refine⟨_,_,_,rfl,?_,c1⟩
 unfold rd
 rw [List.getD_eq_getElem?_getD,List.getElem?_eq_getElem (by omega)]
 exact List.getElem_mem _
theorem dNew (xs:List Int) (h:xs.length≤1048576):∃ s,Told (fun k=>spec_l1New.f k xs) (xs,0,s):=by
 have key:∀ d (i:Nat),i+d=xs.length→∀ s,∃ s',Told (fun k=>spec_l1New.l0 k xs s (i:Int)) (xs,0,s'):=by
  intro d
  induction d with
  | zero=>intro i hi s;exact⟨s,Told.stepr fun k=>by simp only[spec_l1New.l0];rw [if_neg (by omega)]⟩
  | succ d ih =>
   intro i hi s
   by_cases h4:(i:Int)<4000
   ·obtain⟨s',hs⟩:=ih (i+1) (by omega) _
    exact⟨s',Told.step (fun k=>by simp only[spec_l1New.l0];rw [if_pos (by omega),if_pos h4,if_pos (by omega),Gen.w64s (by omega)]) hs⟩
   ·exact⟨s,Told.stepr fun k=>by simp only[spec_l1New.l0];rw [if_pos (by omega),if_neg h4]⟩
 exact key xs.length 0 (by omega) _
theorem ck0 {xs:List Int} (h:xs.length≤1048576):CK xs 0:=⟨by omega,by omega,h⟩
theorem d4Draw {xs:List Int} {p:Int} (c:CK xs p) (s:Int):∃ x y p' s',spec_l4Draw.f xs p s=some (x,y,p',s')∧0≤x∧x<12∧0≤y∧y<12∧CK xs p':=by
 unfold spec_l4Draw.f
 obtain⟨x,p1,s1,e1,x0,x1,_,c1⟩:=dBelow c s 12
 obtain⟨y,p2,s2,e2,y0,y1,_,c2⟩:=dBelow c1 s1 12
 simp only[e1,e2,Option.bind_some]
 exact⟨_,_,_,_,rfl,x0,x1 (by omega),y0,y1 (by omega),c2⟩
theorem d4Raw {xs:List Int} {p:Int} (c:CK xs p) (s:Int):∃ x p' s',spec_l4Raw.f xs p s=some (x,p',s')∧CK xs p':=by
 unfold spec_l4Raw.f
 obtain⟨x,p1,s1,e1,x0,c1⟩:=dInt c s [(-1),0,200,201,1000,1001,9223372036854775807,(-9223372036854775808)] (by simp)
 simp only[e1,Option.bind_some]
 exact⟨_,_,_,rfl,c1⟩
theorem d4Any {xs:List Int} {p:Int} (c:CK xs p) (s:Int):∃ x y p' s',spec_l4Any.f xs p s=some (x,y,p',s')∧CK xs p':=by
 unfold spec_l4Any.f
 obtain⟨x,y,p1,s1,e1,_,_,_,_,c1⟩:=d4Draw c s
 obtain⟨b,p2,s2,e2,_,_,_,c2⟩:=dBelow c1 s1 12
 obtain⟨z,p3,s3,e3,c3⟩:=d4Raw c2 s2
 simp only[e1,e2,e3,Option.bind_some]
 by_cases h:b=0
 ·rw [if_pos h];exact⟨_,_,_,_,rfl,c3⟩
 ·rw [if_neg h]
  by_cases h1:b=1
  ·rw [if_pos h1];exact⟨_,_,_,_,rfl,c3⟩
  ·rw [if_neg h1];exact⟨_,_,_,_,rfl,c2⟩
theorem dl_min (a b:Int):∃ v,spec_Min.f a b=some v:=by unfold spec_Min.f;split <;> exact⟨_,rfl⟩
theorem d6DrawL {xs:List Int}:∀ (d:Nat) (p s:Int) (l:List S75),CK xs p→1≤l.length→l.length+d≤100→∃ l' p' s',Told (fun k=>spec_l6Draw.l0 k l (d:Int) xs p s) (l',p',s')∧1≤l'.length∧l'.length≤l.length+d∧CK xs p':=by
 intro d
 induction d with
 | zero=>intro p s l c h1 h2;exact⟨l,p,s,Told.stepr fun k=>by simp only[spec_l6Draw.l0];rw [if_neg (by omega)],h1,by omega,c⟩
 | succ d ih =>
  intro p s l c h1 h2
  obtain⟨x,p1,s1,e1,_,_,_,c1⟩:=dBelow c s 14
  obtain⟨y,p2,s2,e2,_,_,_,c2⟩:=dBelow c1 s1 4
  obtain⟨v,ev⟩:=dl_min 200 (wrap64 (((rd_T75 l (wrap64 ((l.length:Int)-1))).f1)+y))
  have w:wrap64 (((d+1:Nat):Int)-1)=(d:Int):=by rw [Gen.w64 (by omega) (by omega)];omega
  have fit:l.length<8796093022208:=by omega
  by_cases h:(x==((rd_T75 l (wrap64 ((l.length:Int)-1))).f0)&&(v==((rd_T75 l (wrap64 ((l.length:Int)-1))).f1)))=true
  ·obtain⟨l',p',s',t,g1,g2,g3⟩:=ih p2 s2 (l++[⟨wrap64 (x+1),v⟩]) c2 (by simp) (by simp;omega)
   refine⟨l',p',s',Told.step (fun k=>?_) t,g1,by simp at g2;omega,g3⟩
   simp only[spec_l6Draw.l0]
   rw [if_pos (by omega),if_pos (by rw [Gen.w64 (by omega) (by omega)];omega),if_pos (by rw [Gen.w64 (by omega) (by omega)];omega)]
   simp only[e1,e2,ev,Option.bind_some]
   rw [if_pos h,if_pos fit,w]
  ·obtain⟨l',p',s',t,g1,g2,g3⟩:=ih p2 s2 (l++[⟨x,v⟩]) c2 (by simp) (by simp;omega)
   refine⟨l',p',s',Told.step (fun k=>?_) t,g1,by simp at g2;omega,g3⟩
   simp only[spec_l6Draw.l0]
   rw [if_pos (by omega),if_pos (by rw [Gen.w64 (by omega) (by omega)];omega),if_pos (by rw [Gen.w64 (by omega) (by omega)];omega)]
   simp only[e1,e2,ev,Option.bind_some]
   rw [if_neg h,if_pos fit,w]
theorem d6Draw {xs:List Int} {p:Int} (c:CK xs p) (s:Int):∃ l p' s',Told (fun k=>spec_l6Draw.f k xs p s) (l,p',s')∧1≤l.length∧l.length≤10∧CK xs p':=by
 obtain⟨x,y,p1,s1,e1,_,_,_,_,c1⟩:=d4Draw c s
 obtain⟨b,p2,s2,e2,b0,b1,_,c2⟩:=dBelow c1 s1 5
 have b1:=b1 (by omega)
 obtain⟨l,p3,s3,t,g1,g2,g3⟩:=d6DrawL (1+b).toNat p2 s2 [⟨x,y⟩] c2 (by simp) (by simp;omega)
 refine⟨l,p3,s3,Told.bind (Told.of e1) (Told.bind (Told.of e2) (Told.eq (fun k=>?_) t)),g1,by simp at g2;omega,g3⟩
 rw [show (((1+b).toNat:Nat):Int)=wrap64 (1+b) by rw [Gen.w64 (by omega) (by omega)];omega]
theorem d6AnyL {xs:List Int} (p s:Int):∀ (d:Nat) (l:List S75),l.length+d=11→∃ l',Told (fun k=>spec_l6Any.l0 k l xs p s) (l',p,s)∧l'.length=11:=by
 intro d
 induction d with
 | zero=>intro l h;exact⟨l,Told.stepr fun k=>by simp only[spec_l6Any.l0];rw [if_neg (by omega)],by omega⟩
 | succ d ih =>
  intro l h
  obtain⟨l',t,g⟩:=ih (l++[⟨(l.length:Int),wrap64 (50+(l.length:Int))⟩]) (by simp;omega)
  exact⟨l',Told.step (fun k=>by simp only[spec_l6Any.l0];rw [if_pos (by omega),if_pos (by omega)]) t,g⟩
theorem d6Any {xs:List Int} {p:Int} (c:CK xs p) (s:Int):∃ l p' s',Told (fun k=>spec_l6Any.f k xs p s) (l,p',s')∧1≤l.length∧l.length≤11∧CK xs p':=by
 obtain⟨l,p1,s1,t1,g1,g2,c1⟩:=d6Draw c s
 obtain⟨b,p2,s2,e2,b0,_,_,c2⟩:=dBelow c1 s1 12
 by_cases h0:b=0
 ·obtain⟨x,y,p3,s3,e3,c3⟩:=d4Any c2 s2
  exact⟨_,p3,s3,Told.bind t1 (Told.bind (Told.of e2) (Told.ite_t h0 (Told.bind (Told.of e3) (Told.ite_t (by dsimp only;omega) (Told.ret _))))),by simpa using g1,by simp;omega,c3⟩
 by_cases h1:b=1
 ·have w:wrap64 ((l.length:Int)-1)=(l.length:Int)-1:=Gen.w64 (by omega) (by omega)
  exact⟨_,p2,s2,Told.bind t1 (Told.bind (Told.of e2) (Told.ite_f h0 (Told.ite_t h1 (Told.ite_t (by dsimp only;omega) (Told.ite_t (by dsimp only;omega) (Told.ite_t (by dsimp only;omega) (Told.ret _))))))),by simp,by simp;omega,c2⟩
 by_cases h2:b=2
 ·exact⟨_,p2,s2,Told.bind t1 (Told.bind (Told.of e2) (Told.ite_f h0 (Told.ite_f h1 (Told.ite_t h2 (Told.ite_t (by dsimp only;omega) (Told.ret _)))))),by dsimp only;rw [List.length_take];omega,by dsimp only;rw [List.length_take];omega,c2⟩
 by_cases h3:b=3
 ·obtain⟨l',t',g'⟩:=d6AnyL (xs:=xs) p2 s2 (11-l.length) l (by omega)
  exact⟨_,p2,s2,Told.bind t1 (Told.bind (Told.of e2) (Told.ite_f h0 (Told.ite_f h1 (Told.ite_f h2 (Told.ite_t h3 t'))))),by omega,by omega,c2⟩
 ·exact⟨_,p2,s2,Told.bind t1 (Told.bind (Told.of e2) (Told.ite_f h0 (Told.ite_f h1 (Told.ite_f h2 (Told.ite_f h3 (Told.ret _)))))),g1,by dsimp only;omega,c2⟩
theorem implInRange (a b c:Int):impl_InRange.f a b c=some (decide (b≤a∧a≤c)):=by
 unfold impl_InRange.f;by_cases h:b≤a <;> simp [h]
theorem specIn (a b c:Int):spec_l1In.f a b c=some (decide (b≤a∧a≤c)):=by
 unfold spec_l1In.f;by_cases h:b≤a <;> simp [h]
def Pt (x y:Int):Prop:=0≤x∧x≤200∧0≤y∧y≤200
instance (x y:Int):Decidable (Pt x y):=by unfold Pt;infer_instance
theorem implIsPoint (x y:Int):impl_IsPoint.f x y=some (decide (Pt x y)):=by
 unfold impl_IsPoint.f
 rw [implInRange,implInRange]
 simp only[Option.bind_some]
 by_cases h:0≤x∧x≤200
 ·rw [if_pos (by simpa using h)];simp [Pt,h]
 ·rw [if_neg (by simpa using h)];simp only[Option.some.injEq,Bool.false_eq,decide_eq_false_iff_not];unfold Pt;omega
theorem specIsPoint (x y:Int):spec_IsPoint.f x y=some (decide (Pt x y)):=by
 unfold spec_IsPoint.f
 rw [specIn,specIn]
 simp only[Option.bind_some]
 by_cases h:0≤x∧x≤200
 ·rw [if_pos (by simpa using h)];simp [Pt,h]
 ·rw [if_neg (by simpa using h)];simp only[Option.some.injEq,Bool.false_eq,decide_eq_false_iff_not];unfold Pt;omega
def D (n:Int):Prop:=-200≤n∧n≤200
theorem D_of {x y:Int} (hx:0≤x∧x≤200) (hy:0≤y∧y≤200):wrap64 (x-y)=x-y∧D (x-y):=⟨Gen.w64 (by omega) (by omega),by unfold D;omega⟩
theorem D_mul {x y:Int} (hx:D x) (hy:D y):wrap64 (x*y)=x*y∧-40000≤x*y∧x*y≤40000:=by
 have:=Gen.mul_bd (m:=200) (n:=200) hx hy
 exact⟨Gen.w64 (by omega) (by omega),by omega,by omega⟩
def crossZ (ax ay bx bY px py:Int):Int:=(bx-ax)*(py-ay)-(bY-ay)*(px-ax)
theorem crossZ_bd {ax ay bx bY px py:Int} (ha:Pt ax ay) (hb:Pt bx bY) (hp:Pt px py) :
  wrap64 ((wrap64 ((wrap64 (bx-ax))*(wrap64 (py-ay))))-(wrap64 ((wrap64 (bY-ay))*(wrap64 (px-ax)))))=crossZ ax ay bx bY px py∧-80000≤crossZ ax ay bx bY px py∧crossZ ax ay bx bY px py≤80000:=by
 obtain⟨a1,a2,a3,a4⟩:=ha;obtain⟨b1,b2,b3,b4⟩:=hb;obtain⟨p1,p2,p3,p4⟩:=hp
 obtain⟨e1,d1⟩:=D_of ⟨b1,b2⟩ ⟨a1,a2⟩
 obtain⟨e2,d2⟩:=D_of ⟨p3,p4⟩ ⟨a3,a4⟩
 obtain⟨e3,d3⟩:=D_of ⟨b3,b4⟩ ⟨a3,a4⟩
 obtain⟨e4,d4⟩:=D_of ⟨p1,p2⟩ ⟨a1,a2⟩
 obtain⟨m1,n1,o1⟩:=D_mul d1 d2
 obtain⟨m2,n2,o2⟩:=D_mul d3 d4
 rw [e1,e2,e3,e4,m1,m2]
 unfold crossZ
 exact⟨Gen.w64 (by omega) (by omega),by omega,by omega⟩
theorem implCross {ax ay bx bY px py:Int} (ha:Pt ax ay) (hb:Pt bx bY) (hp:Pt px py):impl_cross.f ax ay bx bY px py=some (crossZ ax ay bx bY px py):=by
 unfold impl_cross.f;rw [(crossZ_bd ha hb hp).1]
theorem specCross {ax ay bx bY px py:Int} (ha:Pt ax ay) (hb:Pt bx bY) (hp:Pt px py):spec_l4Cross.f ax ay bx bY px py=some (crossZ ax ay bx bY px py):=by
 unfold spec_l4Cross.f;rw [(crossZ_bd ha hb hp).1]
def Sg (ax ay bx bY:Int):Prop:=Pt ax ay∧Pt bx bY∧¬ (ax=bx∧ay=bY)
instance (a b c d:Int):Decidable (Sg a b c d):=by unfold Sg;infer_instance
theorem implIsSegment (a b c d:Int):impl_IsSegment.f a b c d=some (decide (Sg a b c d)):=by
 unfold impl_IsSegment.f
 rw [implIsPoint,implIsPoint]
 simp only[Option.bind_some,decide_eq_true_eq]
 by_cases h1:Pt a b
 ·rw [if_pos h1]
  by_cases h2:Pt c d
  ·rw [if_pos h2]
   congr 1
   rw [Bool.eq_iff_iff,decide_eq_true_eq]
   simp only[Bool.or_eq_true,Bool.not_eq_true',beq_eq_false_iff_ne,ne_eq,Sg,h1,h2,true_and]
   omega
  ·rw [if_neg h2];simp [Sg,h2]
 ·rw [if_neg h1];simp [Sg,h1]
theorem specIsSegment (a b c d:Int):spec_IsSegment.f a b c d=some (decide (Sg a b c d)):=by
 unfold spec_IsSegment.f
 rw [specIsPoint,specIsPoint]
 simp only[Option.bind_some,decide_eq_true_eq]
 by_cases h1:Pt a b
 ·rw [if_pos h1]
  by_cases h2:Pt c d
  ·rw [if_pos h2]
   congr 1
   rw [Bool.eq_iff_iff,decide_eq_true_eq]
   simp only[Bool.or_eq_true,Bool.not_eq_true',beq_eq_false_iff_ne,ne_eq,Sg,h1,h2,true_and]
   omega
  ·rw [if_neg h2];simp [Sg,h2]
 ·rw [if_neg h1];simp [Sg,h1]
theorem specMin' (a b:Int):spec_Min.f a b=some (min a b):=by unfold spec_Min.f;split <;> (congr 1;omega)
theorem specMax' (a b:Int):spec_Max.f a b=some (max a b):=by unfold spec_Max.f;split <;> (congr 1;omega)
def SgOn (ax ay bx bY px py:Int):Prop:=Sg ax ay bx bY∧Pt px py∧Geo.On ⟨ax,ay⟩ ⟨bx,bY⟩ ⟨px,py⟩
instance (a b c d e f:Int):Decidable (SgOn a b c d e f):=by unfold SgOn;infer_instance
theorem on_iff (ax ay bx bY px py:Int):Geo.On ⟨ax,ay⟩ ⟨bx,bY⟩ ⟨px,py⟩↔crossZ ax ay bx bY px py=0∧(min ax bx≤px∧px≤max ax bx)∧(min ay bY≤py∧py≤max ay bY):=by
 unfold Geo.On Geo.InB
 have e:Geo.cross ⟨ax,ay⟩ ⟨bx,bY⟩ ⟨px,py⟩=crossZ ax ay bx bY px py:=rfl
 rw [e]
 simp only[and_assoc]
theorem specIsOn (ax ay bx bY px py:Int):spec_IsOn.f ax ay bx bY px py=some (decide (SgOn ax ay bx bY px py)):=by
 unfold spec_IsOn.f
 rw [specIsSegment,specIsPoint]
 simp only[Option.bind_some,decide_eq_true_eq]
 by_cases h1:Sg ax ay bx bY
 ·by_cases h2:Pt px py
  ·rw [if_pos h1,if_pos h2,specCross h1.1 h1.2.1 h2]
   simp only[Option.bind_some,specMin',specMax',specIn,decide_eq_true_eq]
   have e:SgOn ax ay bx bY px py↔crossZ ax ay bx bY px py=0∧(min ax bx≤px∧px≤max ax bx)∧(min ay bY≤py∧py≤max ay bY):=by unfold SgOn;rw [on_iff];exact⟨fun h=>h.2.2,fun h=>⟨h1,h2,h⟩⟩
   simp only[e]
   by_cases c1:crossZ ax ay bx bY px py=0
   ·rw [if_pos c1]
    by_cases c2:min ax bx≤px∧px≤max ax bx
    ·rw [if_pos c2];simp only[c1,c2,true_and,and_self]
    ·rw [if_neg c2];simp only[c2,false_and,and_false,decide_false]
   ·rw [if_neg c1];simp only[c1,false_and,decide_false]
  ·rw [if_pos h1,if_neg h2]
   rw [decide_eq_false (fun h:SgOn ax ay bx bY px py=>h2 h.2.1)]
 ·rw [if_neg h1]
  rw [decide_eq_false (fun h:SgOn ax ay bx bY px py=>h1 h.1)]
def sideV (ax ay bx bY px py:Int):Int:=if Pt ax ay∧Pt bx bY∧Pt px py then Geo.sgn (crossZ ax ay bx bY px py) else 0
theorem cmpZ (n:Int):cmp_Compare_int.f n 0=some (Geo.sgn n):=by
 unfold cmp_Compare_int.f cmp_isNaN_int.f
 simp only[Option.bind_some,bne_self_eq_false,Bool.false_eq_true,if_false]
 unfold Geo.sgn
 by_cases h1:n<0
 ·rw [if_pos h1,if_neg (by omega),if_pos h1]
 ·rw [if_neg h1]
  by_cases h2:n>0
  ·rw [if_pos h2,if_pos (by omega)]
  ·rw [if_neg h2,if_neg (by omega),if_neg (by omega)]
theorem tImplSide (ax ay bx bY px py:Int):Told (fun k=>impl_SideOf.f k ax ay bx bY px py) (sideV ax ay bx bY px py):=by
 have no:¬ (Pt ax ay∧Pt bx bY∧Pt px py)→Told (fun k=>impl_SideOf.j0 k true ax ay bx bY px py) (sideV ax ay bx bY px py):=fun h=>Told.stepr fun k=>by simp only[impl_SideOf.j0,if_true];rw [sideV,if_neg h]
 by_cases h1:Pt ax ay
 ·by_cases h2:Pt bx bY
  ·refine Told.bind (Told.of (implIsPoint ax ay)) (Told.ite_t (by simpa using h1) (Told.bind (Told.of (implIsPoint bx bY)) (Told.ite_t (by simpa using h2) (Told.bind (Told.of (implIsPoint px py)) ?_))))
   by_cases h3:Pt px py
   ·refine Told.stepr fun k=>?_
    simp only[impl_SideOf.j0,decide_eq_true h3,Bool.not_true,Bool.false_eq_true,if_false]
    rw [implCross h1 h2 h3]
    simp only[Option.bind_some,cmpZ]
    rw [sideV,if_pos ⟨h1,h2,h3⟩]
   ·rw [decide_eq_false h3];exact no (fun h=>h3 h.2.2)
  ·exact Told.bind (Told.of (implIsPoint ax ay)) (Told.ite_t (by simpa using h1) (Told.bind (Told.of (implIsPoint bx bY)) (Told.ite_f (by simpa using h2) (no (fun h=>h2 h.2.1)))))
 ·exact Told.bind (Told.of (implIsPoint ax ay)) (Told.ite_f (by simpa using h1) (no (fun h=>h1 h.1)))
theorem tImplIsOn (ax ay bx bY px py:Int):Told (fun k=>impl_IsOn.f k ax ay bx bY px py) (decide (SgOn ax ay bx bY px py)):=by
 by_cases h1:Sg ax ay bx bY
 ·by_cases h2:Pt px py
  ·refine Told.bind (Told.of (implIsSegment ax ay bx bY)) (Told.ite_t (by simpa using h1) (Told.bind (Told.of (implIsPoint px py)) (Told.ite_t (by simpa using h2) (Told.bind (tImplSide ax ay bx bY px py) ?_))))
   have e:SgOn ax ay bx bY px py↔crossZ ax ay bx bY px py=0∧(min ax bx≤px∧px≤max ax bx)∧(min ay bY≤py∧py≤max ay bY):=by unfold SgOn;rw [on_iff];exact⟨fun h=>h.2.2,fun h=>⟨h1,h2,h⟩⟩
   refine Told.of ?_
   have es:sideV ax ay bx bY px py=Geo.sgn (crossZ ax ay bx bY px py):=by unfold sideV;exact if_pos ⟨h1.1,h1.2.1,h2⟩
   simp only[es,e,Geo.sgn_eq_zero,Gen.mn_eq,Gen.mx_eq,implInRange,Option.bind_some,decide_eq_true_eq]
   by_cases c1:crossZ ax ay bx bY px py=0
   ·rw [if_pos c1]
    by_cases c2:min ax bx≤px∧px≤max ax bx
    ·rw [if_pos c2];simp only[c1,c2,true_and,and_self]
    ·rw [if_neg c2];simp only[c2,false_and,and_false,decide_false]
   ·rw [if_neg c1];simp only[c1,false_and,decide_false]
  ·rw [decide_eq_false (fun h:SgOn ax ay bx bY px py=>h2 h.2.1)]
   exact Told.bind (Told.of (implIsSegment ax ay bx bY)) (Told.ite_t (by simpa using h1) (Told.bind (Told.of (implIsPoint px py)) (Told.ite_f (by simpa using h2) (Told.ret _))))
 ·rw [decide_eq_false (fun h:SgOn ax ay bx bY px py=>h1 h.1)]
  exact Told.bind (Told.of (implIsSegment ax ay bx bY)) (Told.ite_f (by simpa using h1) (Told.ret _))
def Ln (l:List S75):Prop:=2≤l.length∧l.length≤10∧∀ i,i<l.length→Pt (l.getD i z75).f0 (l.getD i z75).f1∧¬ (0<i∧(l.getD (i-1) z75).f0=(l.getD i z75).f0∧(l.getD (i-1) z75).f1=(l.getD i z75).f1)
def lnChk (l:List S75) (i:Nat):Bool:=decide (Pt (l.getD i z75).f0 (l.getD i z75).f1∧¬ (0<i∧(l.getD (i-1) z75).f0=(l.getD i z75).f0∧(l.getD (i-1) z75).f1=(l.getD i z75).f1))
instance (l:List S75):Decidable (Ln l):=decidable_of_iff ((2≤l.length∧l.length≤10)∧∀ i,i<l.length→lnChk l i=true) (by unfold Ln lnChk;simp only[decide_eq_true_eq,and_assoc])
theorem rdP (l:List S75) (i:Nat):rd_T75 l (i:Int)=l.getD i z75:=rfl
theorem tSpecSide (ax ay bx bY px py:Int) (h1:Pt ax ay) (h2:Pt bx bY) (h3:Pt px py):Told (fun k=>spec_SideOf.f k ax ay bx bY px py) (Geo.sgn (crossZ ax ay bx bY px py)):=by
 refine Told.bind (Told.of (specIsPoint ax ay)) (Told.ite_t (by simpa using h1) (Told.bind (Told.of (specIsPoint bx bY)) (Told.ite_t (by simpa using h2) (Told.bind (Told.of (specIsPoint px py)) (Told.stepr fun k=>?_)))))
 simp only[spec_SideOf.j0,decide_eq_true h3,Bool.not_true,Bool.false_eq_true,if_false]
 rw [specCross h1 h2 h3]
 simp only[Option.bind_some]
 unfold Geo.sgn
 split
 ·rfl
 ·split <;> rfl
def shAt (ax ay bx bY cx cy dx dy:Int) (i:Nat) (q:S75):Bool:=if i<2 then decide (SgOn cx cy dx dy q.f0 q.f1) else decide (SgOn ax ay bx bY q.f0 q.f1)
def pNe (p q:S75):Bool:=!(p.f0==q.f0)||(!(p.f1==q.f1))
theorem fold_all {α:Type} (f:α→Bool) (z:α) (out:List α) (b:Bool):(List.range' 0 out.length).foldl (fun b j=>if b=true then f (out.getD j z) else false) b=(b&&out.all f):=by
 have key:∀ (d i:Nat) (b:Bool),i+d=out.length→(List.range' i d).foldl (fun b j=>if b=true then f (out.getD j z) else false) b=(b&&(out.drop i).all f):=by
  intro d
  induction d with
  | zero=>intro i b h;rw [List.drop_of_length_le (by omega)];simp
  | succ d ih =>
   intro i b h
   rw [List.range'_succ,List.foldl_cons,ih (i+1) _ (by omega),List.drop_eq_getElem_cons (by omega:i<out.length),List.all_cons]
   have e:out.getD i z=out[i]:=by rw [List.getD_eq_getElem?_getD,List.getElem?_eq_getElem (by omega)];rfl
   rw [e]
   cases b <;> simp
 have:=key out.length 0 b (by omega)
 rwa [List.drop_zero] at this
def shNext (ax ay bx bY cx cy dx dy:Int) (out P:List S75) (i:Nat):List S75 :=
 if (shAt ax ay bx bY cx cy dx dy i (P.getD i z75)&&out.all (fun q=>pNe q (P.getD i z75)))=true then out++[P.getD i z75] else out
theorem tShStep (ax ay bx bY cx cy dx dy:Int) (out P:List S75) (i:Nat) (hP:P.length=4) (ho:out.length≤4) (hi:i<4) (r:Int)
  (h:Told (fun k=>spec_l5Shared.l0 k (shNext ax ay bx bY cx cy dx dy out P i) P ((i+1:Nat):Int) ax ay bx bY cx cy dx dy) r):Told (fun k=>spec_l5Shared.l0 k out P (i:Int) ax ay bx bY cx cy dx dy) r:=by
 have inner:∀ b,b=shAt ax ay bx bY cx cy dx dy i (P.getD i z75)→Told (fun k=>spec_l5Shared.l1 k out P (i:Int) b 0 ax ay bx bY cx cy dx dy) r:=by
  intro b hb
  refine Told.up (n:=out.length) (fun b j=>if b=true then pNe (out.getD j z75) (P.getD i z75) else false) (fun k b j=>spec_l5Shared.l1 k out P (i:Int) b j ax ay bx bY cx cy dx dy) (fun _ _=>True) (fun b j hj _=>⟨trivial,fun hh=>?_⟩) out.length b 0 (by omega) trivial ?_
  ·refine Told.step (fun k=>?_) hh
   simp only[spec_l5Shared.l1]
   rw [if_pos (by omega),Gen.w64s (by omega)]
   by_cases c:b=true
   ·rw [if_pos c,if_pos (by omega),if_pos (by omega),if_pos (by omega),if_pos c];rfl
   ·rw [if_neg c,if_neg c]
  ·refine Told.step (fun k=>?_) h
   simp only[spec_l5Shared.l1]
   rw [if_neg (by omega),Gen.w64s (by omega)]
   unfold shNext
   rw [fold_all (fun q=>pNe q (P.getD i z75)),← hb]
   split
   ·rw [if_pos (by omega),if_pos (by omega),if_pos (by omega)];rfl
   ·rfl
 have j1:∀ b,b=shAt ax ay bx bY cx cy dx dy i (P.getD i z75)→Told (fun k=>spec_l5Shared.j1 k out P (i:Int) b ax ay bx bY cx cy dx dy) r:=fun b hb=>Told.step (fun k=>rfl) (inner b hb)
 by_cases c2:i<2
 ·have e:shAt ax ay bx bY cx cy dx dy i (P.getD i z75)=decide (SgOn cx cy dx dy (P.getD i z75).f0 (P.getD i z75).f1):=by unfold shAt;rw [if_pos c2]
  refine Told.step (fun k=>?_) (j1 _ e.symm)
  simp only[spec_l5Shared.l0]
  rw [if_pos (by omega),if_pos (by omega),if_pos (by omega),if_pos (by omega),rdP,specIsOn]
  simp only[Option.bind_some]
  by_cases c:SgOn cx cy dx dy (P.getD i z75).f0 (P.getD i z75).f1
  ·rw [if_pos (by simpa using c),decide_eq_true c]
  ·rw [if_neg (by simpa using c),if_neg (by omega),decide_eq_false c]
 ·have e:shAt ax ay bx bY cx cy dx dy i (P.getD i z75)=decide (SgOn ax ay bx bY (P.getD i z75).f0 (P.getD i z75).f1):=by unfold shAt;rw [if_neg c2]
  refine Told.step (fun k=>?_) (j1 _ e.symm)
  simp only[spec_l5Shared.l0]
  rw [if_pos (by omega),if_neg (by omega),if_pos (by omega),if_pos (by omega),if_pos (by omega),rdP,specIsOn]
  simp only[Option.bind_some]
theorem pt_ok {x y:Int} (h:Pt x y):Geo.Ok ⟨x,y⟩:=h
theorem sg_ne {ax ay bx bY:Int} (h:Sg ax ay bx bY):(⟨ax,ay⟩:Geo.Pt)≠⟨bx,bY⟩:=by intro e;injection e with e1 e2;exact h.2.2 ⟨e1,e2⟩
theorem sgOn_iff {ax ay bx bY px py:Int} (h1:Sg ax ay bx bY) (h2:Pt px py):SgOn ax ay bx bY px py↔Geo.On ⟨ax,ay⟩ ⟨bx,bY⟩ ⟨px,py⟩:=⟨fun h=>h.2.2,fun h=>⟨h1,h2,h⟩⟩
theorem pNe_eq (a b c d:Int):pNe ⟨a,b⟩ ⟨c,d⟩=!decide ((⟨a,b⟩:Geo.Pt)=⟨c,d⟩):=by
 unfold pNe
 rw [Bool.eq_iff_iff]
 simp only[Bool.or_eq_true,Bool.not_eq_true',beq_eq_false_iff_ne,ne_eq,decide_eq_false_iff_not,Geo.Pt.mk.injEq]
 omega
theorem tShared (ax ay bx bY cx cy dx dy:Int) (h1:Sg ax ay bx bY) (h2:Sg cx cy dx dy):Told (fun k=>spec_l5Shared.f k ax ay bx bY cx cy dx dy) (Geo.nShared ⟨ax,ay⟩ ⟨bx,bY⟩ ⟨cx,cy⟩ ⟨dx,dy⟩:Int):=by
 let P:List S75:=[⟨ax,ay⟩,⟨bx,bY⟩,⟨cx,cy⟩,⟨dx,dy⟩]
 have hP:P.length=4:=rfl
 refine Told.eq (M:=fun k=>spec_l5Shared.l0 k [] P ((0:Nat):Int) ax ay bx bY cx cy dx dy) (fun k=>rfl) ?_
 have l1:∀ out i,out.length≤i→(shNext ax ay bx bY cx cy dx dy out P i).length≤i+1:=by intro out i h;unfold shNext;split <;> (try simp) <;> omega
 have a0:=l1 [] 0 (by simp)
 have a1:=l1 _ 1 a0
 have a2:=l1 _ 2 a1
 refine tShStep _ _ _ _ _ _ _ _ _ _ _ hP (by simp) (by omega) _ (tShStep _ _ _ _ _ _ _ _ _ _ 1 hP (by omega) (by omega) _ (tShStep _ _ _ _ _ _ _ _ _ _ 2 hP (by omega) (by omega) _ (tShStep _ _ _ _ _ _ _ _ _ _ 3 hP (by omega) (by omega) _ (Told.stepr fun k=>?_))))
 simp only[spec_l5Shared.l0]
 rw [if_neg (by omega)]
 congr 1
 have o0:=sgOn_iff (px:=ax) (py:=ay) h2 h1.1
 have o1:=sgOn_iff (px:=bx) (py:=bY) h2 h1.2.1
 have o2:=sgOn_iff (px:=cx) (py:=cy) h1 h2.1
 have o3:=sgOn_iff (px:=dx) (py:=dy) h1 h2.2.1
 have n1:=sg_ne h1
 have n2:=sg_ne h2
 unfold Geo.nShared shNext shAt
 simp only[P,List.getD_cons_zero,List.getD_cons_succ,o0,o1,o2,o3,show (0:Nat)<2 from by omega,show (1:Nat)<2 from by omega,show ¬ (2:Nat)<2 from by omega,show ¬ (3:Nat)<2 from by omega,if_true,if_false]
 by_cases c0:Geo.On ⟨cx,cy⟩ ⟨dx,dy⟩ ⟨ax,ay⟩ <;> by_cases c1:Geo.On ⟨cx,cy⟩ ⟨dx,dy⟩ ⟨bx,bY⟩ <;> by_cases c2:Geo.On ⟨ax,ay⟩ ⟨bx,bY⟩ ⟨cx,cy⟩ <;> by_cases c3:Geo.On ⟨ax,ay⟩ ⟨bx,bY⟩ ⟨dx,dy⟩ <;>
  simp only[c0,c1,c2,c3,decide_true,decide_false,Bool.true_and,Bool.false_and,Bool.false_eq_true,List.all_nil,List.all_cons,List.nil_append,List.cons_append,pNe_eq,n1,n2,if_true,if_false,Bool.not_false,Bool.and_true,true_and,false_and,not_false_eq_true,List.length_nil,List.length_cons] <;>
  (repeat' split) <;> simp_all [pNe_eq] <;> grind
def howV (ax ay bx bY cx cy dx dy:Int):Int:=if Sg ax ay bx bY∧Sg cx cy dx dy then Geo.howI ⟨ax,ay⟩ ⟨bx,bY⟩ ⟨cx,cy⟩ ⟨dx,dy⟩ else 0
theorem howV_eq {ax ay bx bY cx cy dx dy:Int} (h1:Sg ax ay bx bY) (h2:Sg cx cy dx dy):howV ax ay bx bY cx cy dx dy=Geo.howS ⟨ax,ay⟩ ⟨bx,bY⟩ ⟨cx,cy⟩ ⟨dx,dy⟩:=by
 rw [howV,if_pos ⟨h1,h2⟩]
 exact Geo.how_eq (pt_ok h1.1) (pt_ok h1.2.1) (pt_ok h2.1) (pt_ok h2.2.1) (sg_ne h1) (sg_ne h2)
theorem sgn_mul_bd (m n:Int):wrap64 (Geo.sgn m*Geo.sgn n)=Geo.sgn m*Geo.sgn n:=by
 have h1:-1≤Geo.sgn m∧Geo.sgn m≤1:=by unfold Geo.sgn;split <;> (try split) <;> omega
 have h2:-1≤Geo.sgn n∧Geo.sgn n≤1:=by unfold Geo.sgn;split <;> (try split) <;> omega
 have:=Gen.mul_bd h1 h2
 exact Gen.w64 (by omega) (by omega)
theorem tSpecHow (ax ay bx bY cx cy dx dy:Int):Told (fun k=>spec_HowMeet.f k ax ay bx bY cx cy dx dy) (howV ax ay bx bY cx cy dx dy):=by
 have no:¬ (Sg ax ay bx bY∧Sg cx cy dx dy)→Told (fun k=>spec_HowMeet.j0 k true ax ay bx bY cx cy dx dy) (howV ax ay bx bY cx cy dx dy):=fun h=>Told.stepr fun k=>by simp only[spec_HowMeet.j0,if_true];rw [howV,if_neg h]
 by_cases h1:Sg ax ay bx bY
 ·refine Told.bind (Told.of (specIsSegment ax ay bx bY)) (Told.ite_t (by simpa using h1) (Told.bind (Told.of (specIsSegment cx cy dx dy)) ?_))
  by_cases h2:Sg cx cy dx dy
  ·have e:=howV_eq h1 h2
   unfold Geo.howS at e
   rw [decide_eq_true h2]
   have ap:∀ b:Bool,(b=true↔Geo.Apart ⟨ax,ay⟩ ⟨bx,bY⟩ ⟨cx,cy⟩ ⟨dx,dy⟩)→Told (fun k=>spec_HowMeet.j1 k b ax ay bx bY cx cy dx dy) (howV ax ay bx bY cx cy dx dy):=by
    intro b hb
    by_cases c:b=true
    ·refine Told.stepr fun k=>?_
     simp only[spec_HowMeet.j1]
     rw [if_pos c,e,if_pos (hb.1 c)]
    ·rw [if_neg (fun h=>c (hb.2 h))] at e
     refine Told.step (fun k=>by simp only[spec_HowMeet.j1];rw [if_neg c]) (Told.bind (tShared ax ay bx bY cx cy dx dy h1 h2) ?_)
     by_cases n0:Geo.nShared ⟨ax,ay⟩ ⟨bx,bY⟩ ⟨cx,cy⟩ ⟨dx,dy⟩=0
     ·rw [if_pos n0] at e
      refine Told.ite_t (by omega) (Told.bind (tSpecSide ax ay bx bY cx cy h1.1 h1.2.1 h2.1) (Told.bind (tSpecSide ax ay bx bY dx dy h1.1 h1.2.1 h2.2.1) ?_))
      rw [sgn_mul_bd]
      by_cases p1:Geo.sgn (crossZ ax ay bx bY cx cy)*Geo.sgn (crossZ ax ay bx bY dx dy)<0
      ·refine Told.ite_t p1 (Told.bind (tSpecSide cx cy dx dy ax ay h2.1 h2.2.1 h1.1) (Told.bind (tSpecSide cx cy dx dy bx bY h2.1 h2.2.1 h1.2.1) ?_))
       rw [sgn_mul_bd]
       by_cases p2:Geo.sgn (crossZ cx cy dx dy ax ay)*Geo.sgn (crossZ cx cy dx dy bx bY)<0
       ·rw [if_pos ⟨p1,p2⟩] at e;rw [e];exact Told.ite_t p2 (Told.ret _)
       ·rw [if_neg (fun h=>p2 h.2)] at e;rw [e];exact Told.ite_f p2 (Told.ret _)
      ·rw [if_neg (fun h=>p1 h.1)] at e;rw [e];exact Told.ite_f p1 (Told.ret _)
     ·rw [if_neg n0] at e
      refine Told.ite_f (by omega) ?_
      by_cases n1:Geo.nShared ⟨ax,ay⟩ ⟨bx,bY⟩ ⟨cx,cy⟩ ⟨dx,dy⟩=1
      ·rw [if_pos n1] at e;rw [e];exact Told.ite_t (by omega) (Told.ret _)
      ·rw [if_neg n1] at e;rw [e];exact Told.ite_f (by omega) (Told.ret _)
   have ad:Geo.Apart ⟨ax,ay⟩ ⟨bx,bY⟩ ⟨cx,cy⟩ ⟨dx,dy⟩↔(max ax bx<min cx dx∨max cx dx<min ax bx∨max ay bY<min cy dy∨max cy dy<min ay bY):=Iff.rfl
   rw [ad] at ap
   refine Told.step (M:=fun k=>if max ax bx<min cx dx then spec_HowMeet.j1 k true ax ay bx bY cx cy dx dy else if max cx dx<min ax bx then spec_HowMeet.j1 k true ax ay bx bY cx cy dx dy else if max ay bY<min cy dy then spec_HowMeet.j1 k true ax ay bx bY cx cy dx dy else spec_HowMeet.j1 k (decide (max cy dy<min ay bY)) ax ay bx bY cx cy dx dy) (fun k=>?_) ?_
   ·simp only[spec_HowMeet.j0,Bool.not_true,Bool.false_eq_true,if_false,specMin',specMax',Option.bind_some]
   by_cases c1:max ax bx<min cx dx
   ·exact Told.ite_t c1 (ap true (by simp [c1]))
   refine Told.ite_f c1 ?_
   by_cases c2:max cx dx<min ax bx
   ·exact Told.ite_t c2 (ap true (by simp [c2]))
   refine Told.ite_f c2 ?_
   by_cases c3:max ay bY<min cy dy
   ·exact Told.ite_t c3 (ap true (by simp [c3]))
   exact Told.ite_f c3 (ap _ (by rw [decide_eq_true_eq];omega))
  ·rw [decide_eq_false h2];exact no (fun h=>h2 h.2)
 ·exact Told.bind (Told.of (specIsSegment ax ay bx bY)) (Told.ite_f (by simpa using h1) (no (fun h=>h1 h.1)))
theorem implBefore {px py qx qy:Int} (hp:Pt px py) (hq:Pt qx qy):impl_BeforePoint.f px py qx qy=some (decide (Geo.key ⟨px,py⟩<Geo.key ⟨qx,qy⟩)):=by
 obtain⟨a1,a2,a3,a4⟩:=hp;obtain⟨b1,b2,b3,b4⟩:=hq
 unfold impl_BeforePoint.f Geo.key
 show _=some (decide (1000*py+px<1000*qy+qx))
 split
 ·rw [decide_eq_true (by omega)]
 ·split
  ·congr 1;rw [decide_eq_decide];omega
  ·rw [decide_eq_false (by omega)]
def gP (p:Geo.Pt):Prop:=Pt p.x p.y
theorem gP_lo {a b:Geo.Pt} (ha:gP a) (hb:gP b):gP (Geo.lowK a b):=by unfold Geo.lowK;split <;> assumption
theorem gP_hi {a b:Geo.Pt} (ha:gP a) (hb:gP b):gP (Geo.highK a b):=by unfold Geo.highK;split <;> assumption
theorem implForward {ax ay bx bY:Int} (ha:Pt ax ay) (hb:Pt bx bY):impl_forward.f ax ay bx bY=some ((Geo.lowK ⟨ax,ay⟩ ⟨bx,bY⟩).x,(Geo.lowK ⟨ax,ay⟩ ⟨bx,bY⟩).y,(Geo.highK ⟨ax,ay⟩ ⟨bx,bY⟩).x,(Geo.highK ⟨ax,ay⟩ ⟨bx,bY⟩).y):=by
 unfold impl_forward.f
 rw [implBefore hb ha]
 simp only[Option.bind_some,decide_eq_true_eq,impl_TurnSegment.f]
 unfold Geo.lowK Geo.highK
 split <;> rfl
theorem tImplHow (ax ay bx bY cx cy dx dy:Int):Told (fun k=>impl_HowMeet.f k ax ay bx bY cx cy dx dy) (howV ax ay bx bY cx cy dx dy):=by
 have no:¬ (Sg ax ay bx bY∧Sg cx cy dx dy)→Told (fun k=>impl_HowMeet.j0 k true ax ay bx bY cx cy dx dy) (howV ax ay bx bY cx cy dx dy):=fun h=>Told.stepr fun k=>by simp only[impl_HowMeet.j0,if_true];rw [howV,if_neg h]
 by_cases h1:Sg ax ay bx bY
 ·refine Told.bind (Told.of (implIsSegment ax ay bx bY)) (Told.ite_t (by simpa using h1) (Told.bind (Told.of (implIsSegment cx cy dx dy)) ?_))
  by_cases h2:Sg cx cy dx dy
  ·have e:howV ax ay bx bY cx cy dx dy=Geo.howI ⟨ax,ay⟩ ⟨bx,bY⟩ ⟨cx,cy⟩ ⟨dx,dy⟩:=by rw [howV,if_pos ⟨h1,h2⟩]
   have ha:=h1.1;have hb:=h1.2.1;have hc:=h2.1;have hd:=h2.2.1
   have sd:∀ {ax ay bx bY px py:Int},Pt ax ay→Pt bx bY→Pt px py→sideV ax ay bx bY px py=Geo.sgn (crossZ ax ay bx bY px py):=fun p q r=>by unfold sideV;exact if_pos ⟨p,q,r⟩
   unfold Geo.howI at e
   rw [decide_eq_true h2]
   refine Told.step (M:=fun k=>(impl_SideOf.f k ax ay bx bY cx cy).bind fun t1=>(impl_SideOf.f k ax ay bx bY dx dy).bind fun t2=>if t1=0 then impl_HowMeet.j1 k t1 t2 (t2==0) ax ay bx bY cx cy dx dy else impl_HowMeet.j1 k t1 t2 false ax ay bx bY cx cy dx dy) (fun k=>by simp only[impl_HowMeet.j0,Bool.not_true,Bool.false_eq_true,if_false]) (Told.bind (tImplSide ax ay bx bY cx cy) (Told.bind (tImplSide ax ay bx bY dx dy) ?_))
   rw [sd ha hb hc,sd ha hb hd]
   have on4:∀ b:Bool,¬ (crossZ ax ay bx bY cx cy=0∧crossZ ax ay bx bY dx dy=0)→(b=true↔Geo.Proper ⟨ax,ay⟩ ⟨bx,bY⟩ ⟨cx,cy⟩ ⟨dx,dy⟩)→Told (fun k=>impl_HowMeet.j4 k b ax ay bx bY cx cy dx dy) (howV ax ay bx bY cx cy dx dy):=by
    intro b hn hb4
    rw [if_neg (show ¬ (Geo.cross ⟨ax,ay⟩ ⟨bx,bY⟩ ⟨cx,cy⟩=0∧Geo.cross ⟨ax,ay⟩ ⟨bx,bY⟩ ⟨dx,dy⟩=0) from hn)] at e
    by_cases c:b=true
    ·rw [if_pos (hb4.1 c)] at e
     refine Told.stepr fun k=>?_
     simp only[impl_HowMeet.j4]
     rw [if_pos c,e]
    ·rw [if_neg (fun h=>c (hb4.2 h))] at e
     have o0:=sgOn_iff (px:=cx) (py:=cy) h1 h2.1
     have o1:=sgOn_iff (px:=dx) (py:=dy) h1 h2.2.1
     have o2:=sgOn_iff (px:=ax) (py:=ay) h2 h1.1
     have o3:=sgOn_iff (px:=bx) (py:=bY) h2 h1.2.1
     simp only[← o0,← o1,← o2,← o3] at e
     refine Told.step (fun k=>by simp only[impl_HowMeet.j4];rw [if_neg c]) (Told.bind (tImplIsOn ax ay bx bY cx cy) ?_)
     by_cases d0:SgOn ax ay bx bY cx cy
     ·rw [if_pos (.inl d0)] at e;rw [e];exact Told.ite_t (by simpa using d0) (Told.ret _)
     refine Told.ite_f (by simpa using d0) (Told.bind (tImplIsOn ax ay bx bY dx dy) ?_)
     by_cases d1:SgOn ax ay bx bY dx dy
     ·rw [if_pos (.inr (.inl d1))] at e;rw [e];exact Told.ite_t (by simpa using d1) (Told.ret _)
     refine Told.ite_f (by simpa using d1) (Told.bind (tImplIsOn cx cy dx dy ax ay) ?_)
     by_cases d2:SgOn cx cy dx dy ax ay
     ·rw [if_pos (.inr (.inr (.inl d2)))] at e;rw [e];exact Told.ite_t (by simpa using d2) (Told.ret _)
     refine Told.ite_f (by simpa using d2) (Told.bind (tImplIsOn cx cy dx dy bx bY) ?_)
     by_cases d3:SgOn cx cy dx dy bx bY
     ·rw [if_pos (.inr (.inr (.inr d3)))] at e;rw [e];exact Told.ite_t (by simpa using d3) (Told.ret _)
     rw [if_neg (fun h=>by rcases h with h|h|h|h <;> contradiction)] at e
     rw [e]
     exact Told.ite_f (by simpa using d3) (Told.ret _)
   have off:∀ b:Bool,b=false→¬ (crossZ ax ay bx bY cx cy=0∧crossZ ax ay bx bY dx dy=0)→Told (fun k=>impl_HowMeet.j1 k (Geo.sgn (crossZ ax ay bx bY cx cy)) (Geo.sgn (crossZ ax ay bx bY dx dy)) b ax ay bx bY cx cy dx dy) (howV ax ay bx bY cx cy dx dy):=by
    intro b hbf hn
    subst hbf
    refine Told.step (fun k=>by simp only[impl_HowMeet.j1,Bool.false_eq_true,if_false];rw [sgn_mul_bd]) ?_
    by_cases p1:Geo.sgn (crossZ ax ay bx bY cx cy)*Geo.sgn (crossZ ax ay bx bY dx dy)<0
    ·refine Told.ite_t p1 (Told.bind (tImplSide cx cy dx dy ax ay) (Told.bind (tImplSide cx cy dx dy bx bY) ?_))
     rw [sd hc hd ha,sd hc hd hb,sgn_mul_bd]
     refine on4 _ hn ?_
     rw [decide_eq_true_eq]
     exact⟨fun h=>⟨p1,h⟩,fun h=>h.2⟩
    ·exact Told.ite_f p1 (on4 _ hn ⟨fun h=>(by cases h),fun h=>absurd h.1 p1⟩)
   by_cases z1:crossZ ax ay bx bY cx cy=0
   ·have s1:Geo.sgn (crossZ ax ay bx bY cx cy)=0:=Geo.sgn_eq_zero.2 z1
    refine Told.ite_t s1 ?_
    by_cases z2:crossZ ax ay bx bY dx dy=0
    ·have s2:Geo.sgn (crossZ ax ay bx bY dx dy)=0:=Geo.sgn_eq_zero.2 z2
     rw [s1,s2]
     rw [if_pos (show Geo.cross ⟨ax,ay⟩ ⟨bx,bY⟩ ⟨cx,cy⟩=0∧Geo.cross ⟨ax,ay⟩ ⟨bx,bY⟩ ⟨dx,dy⟩=0 from ⟨z1,z2⟩)] at e
     have ga:gP ⟨ax,ay⟩:=ha
     have gb:gP ⟨bx,bY⟩:=hb
     have gc:gP ⟨cx,cy⟩:=hc
     have gd:gP ⟨dx,dy⟩:=hd
     have l1:=gP_lo ga gb;have l2:=gP_lo gc gd;have i1:=gP_hi ga gb;have i2:=gP_hi gc gd
     have j3:∀ s t:Geo.Pt,gP s→gP t→s=Geo.lo2 ⟨ax,ay⟩ ⟨bx,bY⟩ ⟨cx,cy⟩ ⟨dx,dy⟩→t=Geo.hi2 ⟨ax,ay⟩ ⟨bx,bY⟩ ⟨cx,cy⟩ ⟨dx,dy⟩→Told (fun k=>impl_HowMeet.j3 k s.x s.y t.x t.y) (howV ax ay bx bY cx cy dx dy):=by
      intro s t hs ht es et
      rw [← es,← et] at e
      refine Told.stepr fun k=>?_
      simp only[impl_HowMeet.j3]
      rw [implBefore ht hs]
      simp only[Option.bind_some,decide_eq_true_eq]
      have e1:(⟨t.x,t.y⟩:Geo.Pt)=t:=rfl
      have e2:(⟨s.x,s.y⟩:Geo.Pt)=s:=rfl
      rw [e1,e2,e]
      split
      ·rfl
      ·by_cases q:s=t
       ·subst q;simp
       ·rw [if_neg q,if_neg]
        intro h
        simp only[Bool.and_eq_true,beq_iff_eq] at h
        apply q
        cases s;cases t;simp_all
     have j2:∀ s:Geo.Pt,gP s→s=Geo.lo2 ⟨ax,ay⟩ ⟨bx,bY⟩ ⟨cx,cy⟩ ⟨dx,dy⟩→Told (fun k=>impl_HowMeet.j2 k (Geo.lowK ⟨cx,cy⟩ ⟨dx,dy⟩).x (Geo.lowK ⟨cx,cy⟩ ⟨dx,dy⟩).y (Geo.highK ⟨cx,cy⟩ ⟨dx,dy⟩).x (Geo.highK ⟨cx,cy⟩ ⟨dx,dy⟩).y s.x s.y (Geo.highK ⟨ax,ay⟩ ⟨bx,bY⟩).x (Geo.highK ⟨ax,ay⟩ ⟨bx,bY⟩).y) (howV ax ay bx bY cx cy dx dy):=by
      intro s hs es
      refine Told.step (M:=fun k=>if Geo.key (Geo.highK ⟨cx,cy⟩ ⟨dx,dy⟩)<Geo.key (Geo.highK ⟨ax,ay⟩ ⟨bx,bY⟩) then impl_HowMeet.j3 k s.x s.y (Geo.highK ⟨cx,cy⟩ ⟨dx,dy⟩).x (Geo.highK ⟨cx,cy⟩ ⟨dx,dy⟩).y else impl_HowMeet.j3 k s.x s.y (Geo.highK ⟨ax,ay⟩ ⟨bx,bY⟩).x (Geo.highK ⟨ax,ay⟩ ⟨bx,bY⟩).y) (fun k=>?_) ?_
      ·simp only[impl_HowMeet.j2]
       rw [implBefore i2 i1]
       simp only[Option.bind_some,decide_eq_true_eq]
      ·by_cases q:Geo.key (Geo.highK ⟨cx,cy⟩ ⟨dx,dy⟩)<Geo.key (Geo.highK ⟨ax,ay⟩ ⟨bx,bY⟩)
       ·exact Told.ite_t q (j3 s _ hs i2 es (by unfold Geo.hi2;rw [if_pos q]))
       ·exact Told.ite_f q (j3 s _ hs i1 es (by unfold Geo.hi2;rw [if_neg q]))
     refine Told.step (M:=fun k=>if Geo.key (Geo.lowK ⟨ax,ay⟩ ⟨bx,bY⟩)<Geo.key (Geo.lowK ⟨cx,cy⟩ ⟨dx,dy⟩) then impl_HowMeet.j2 k (Geo.lowK ⟨cx,cy⟩ ⟨dx,dy⟩).x (Geo.lowK ⟨cx,cy⟩ ⟨dx,dy⟩).y (Geo.highK ⟨cx,cy⟩ ⟨dx,dy⟩).x (Geo.highK ⟨cx,cy⟩ ⟨dx,dy⟩).y (Geo.lowK ⟨cx,cy⟩ ⟨dx,dy⟩).x (Geo.lowK ⟨cx,cy⟩ ⟨dx,dy⟩).y (Geo.highK ⟨ax,ay⟩ ⟨bx,bY⟩).x (Geo.highK ⟨ax,ay⟩ ⟨bx,bY⟩).y else impl_HowMeet.j2 k (Geo.lowK ⟨cx,cy⟩ ⟨dx,dy⟩).x (Geo.lowK ⟨cx,cy⟩ ⟨dx,dy⟩).y (Geo.highK ⟨cx,cy⟩ ⟨dx,dy⟩).x (Geo.highK ⟨cx,cy⟩ ⟨dx,dy⟩).y (Geo.lowK ⟨ax,ay⟩ ⟨bx,bY⟩).x (Geo.lowK ⟨ax,ay⟩ ⟨bx,bY⟩).y (Geo.highK ⟨ax,ay⟩ ⟨bx,bY⟩).x (Geo.highK ⟨ax,ay⟩ ⟨bx,bY⟩).y) (fun k=>?_) ?_
     ·simp only[impl_HowMeet.j1,beq_self_eq_true,if_true]
      rw [implForward ha hb,implForward hc hd]
      simp only[Option.bind_some]
      rw [implBefore l1 l2]
      simp only[Option.bind_some,decide_eq_true_eq]
     ·by_cases q:Geo.key (Geo.lowK ⟨ax,ay⟩ ⟨bx,bY⟩)<Geo.key (Geo.lowK ⟨cx,cy⟩ ⟨dx,dy⟩)
      ·exact Told.ite_t q (j2 _ l2 (by unfold Geo.lo2;rw [if_pos q]))
      ·exact Told.ite_f q (j2 _ l1 (by unfold Geo.lo2;rw [if_neg q]))
    ·exact off _ (by simpa using fun h=>z2 (Geo.sgn_eq_zero.1 h)) (fun h=>z2 h.2)
   ·exact Told.ite_f (fun h=>z1 (Geo.sgn_eq_zero.1 h)) (off _ rfl (fun h=>z1 h.1))
  ·rw [decide_eq_false h2];exact no (fun h=>h2 h.2)
 ·exact Told.bind (Told.of (implIsSegment ax ay bx bY)) (Told.ite_f (by simpa using h1) (no (fun h=>h1 h.1)))
theorem rdS (l:List S101) (i:Nat):rd_T101 l (i:Int)=l.getD i z101:=rfl
def ringAt (l:List S75) (i:Nat):S101:=⟨l.getD i z75,l.getD ((i+1) % l.length) z75⟩
def ringSegs (l:List S75):List S101:=(List.range' 0 l.length).map (ringAt l)
theorem ringSegs_len (l:List S75):(ringSegs l).length=l.length:=by simp [ringSegs]
theorem ringSegs_at (l:List S75) {i:Nat} (h:i<l.length):(ringSegs l).getD i z101=ringAt l i:=by
 unfold ringSegs
 rw [List.getD_eq_getElem?_getD,List.getElem?_map,List.getElem?_range' h]
 simp
theorem foldl_push' {α β:Type} (g:α→β) (x:List α):∀ s:List β,x.foldl (fun s i=>s++[g i]) s=s++x.map g:=by
 induction x with
 | nil=>intro s;simp
 | cons a x ih=>intro s;rw [List.foldl_cons,ih];simp
theorem tmod_n {i n:Nat} (h:n≤1048576) (hi:i<n):Int.tmod (wrap64 ((i:Int)+1)) (n:Int)=(((i+1) % n:Nat):Int):=by
 rw [Gen.w64s (by omega)];rfl
theorem tSpecL7 (l:List S75) (hl:l.length≤1048576):Told (fun k=>spec_l7Segments.f k l) (ringSegs l):=by
 refine Told.up (n:=l.length) (fun s i=>s++[ringAt l i]) (fun k s i=>spec_l7Segments.l0 k l s i) (fun s i=>s.length=i) (fun s i hi hv=>⟨by simp;omega,fun hh=>?_⟩) l.length [] 0 (by omega) rfl ?_
 ·refine Told.step (M:=fun k=>spec_l7Segments.l0 k l (s++[ringAt l i]) ((i+1:Nat):Int)) (fun k=>?_) hh
  simp only[spec_l7Segments.l0]
  have hm:(i+1) % l.length<l.length:=Nat.mod_lt _ (by omega)
  rw [if_pos (by omega),if_pos (by omega),if_neg (by omega),tmod_n hl hi,if_pos (by omega),if_pos (by omega),if_pos (by omega),Gen.w64s (by omega),rdP,rdP]
  rfl
 ·refine Told.stepr fun k=>?_
  simp only[spec_l7Segments.l0]
  rw [if_neg (by omega),foldl_push']
  rfl
def wantAt (n i k:Nat):Int:=if k+1=i∨(k=0∧i+1=n) then 1 else 0
def howAt (l:List S75) (i k:Nat):Int:=howV (ringAt l i).f0.f0 (ringAt l i).f0.f1 (ringAt l i).f1.f0 (ringAt l i).f1.f1 (ringAt l k).f0.f0 (ringAt l k).f0.f1 (ringAt l k).f1.f0 (ringAt l k).f1.f1
def SgAt (l:List S75) (i:Nat):Prop:=Sg (ringAt l i).f0.f0 (ringAt l i).f0.f1 (ringAt l i).f1.f0 (ringAt l i).f1.f1
instance (l:List S75) (i:Nat):Decidable (SgAt l i):=by unfold SgAt;infer_instance
def chkRing (l:List S75) (i:Nat):Bool:=decide (SgAt l i∧∀ k,k<i→howAt l i k=wantAt l.length i k)
def Rg (l:List S75):Prop:=(3≤l.length∧l.length≤10)∧∀ i,i<l.length→chkRing l i=true
instance (l:List S75):Decidable (Rg l):=by unfold Rg;infer_instance
theorem chk_iff (l:List S75) (i:Nat):chkRing l i=true↔SgAt l i∧∀ k,k<i→howAt l i k=wantAt l.length i k:=by unfold chkRing;rw [decide_eq_true_eq]
theorem tSpecIsRing (l:List S75) (hl:l.length≤1048576):Told (fun k=>spec_IsRing.f k l) (decide (Rg l)):=by
 refine Told.bind (Told.of (specIn _ _ _)) ?_
 by_cases h3:3≤l.length∧l.length≤10
 ·refine Told.ite_t (by rw [decide_eq_true_eq];omega) (Told.bind (tSpecL7 l hl) ?_)
  refine Told.scan (n:=l.length) false (fun i=>chkRing l i=true) (fun k i=>spec_IsRing.l0 k (ringSegs l) i) (fun i hi h1 h2=>?_) (fun h=>Told.stepr fun k=>?_) (fun h=>decide_eq_false fun hh=>h hh.2)
  ·refine Told.step (M:=fun k=>if SgAt l i then spec_IsRing.l1 k (ringSegs l) (i:Int) 0 else some false) (fun k=>?_) ?_
   ·simp only[spec_IsRing.l0]
    rw [if_pos (by rw [ringSegs_len];omega),if_pos (by omega),specIsSegment,rdS,ringSegs_at l hi]
    simp only[Option.bind_some,decide_eq_true_eq]
    rfl
   by_cases c:SgAt l i
   ·refine Told.ite_t c ?_
    refine Told.scan (n:=i) false (fun k=>howAt l i k=wantAt l.length i k) (fun k j=>spec_IsRing.l1 k (ringSegs l) (i:Int) j) (fun j hj g1 g2=>?_) (fun h=>?_) (fun h=>h2 fun hh=>h ((chk_iff l i).1 hh).2)
    ·have st:∀ b:Bool,(b=true↔(j+1=i∨(j=0∧i+1=l.length)))→Told (fun k=>spec_IsRing.j2 k (ringSegs l) (i:Int) (j:Int) 0 b) (decide (Rg l)):=by
      intro b hb
      refine Told.step (M:=fun k=>(spec_HowMeet.f k (ringAt l i).f0.f0 (ringAt l i).f0.f1 (ringAt l i).f1.f0 (ringAt l i).f1.f1 (ringAt l j).f0.f0 (ringAt l j).f0.f1 (ringAt l j).f1.f0 (ringAt l j).f1.f1).bind fun t=>if t=wantAt l.length i j then spec_IsRing.l1 k (ringSegs l) (i:Int) ((j+1:Nat):Int) else some false) (fun k=>?_) (Told.bind (tSpecHow _ _ _ _ _ _ _ _) ?_)
      ·simp only[spec_IsRing.j2]
       have q1:(i:Int)<((ringSegs l).length:Int):=by rw [ringSegs_len];omega
       have q2:(j:Int)<((ringSegs l).length:Int):=by rw [ringSegs_len];omega
       have q3:(0:Int)≤(i:Int):=by omega
       have q4:(0:Int)≤(j:Int):=by omega
       unfold wantAt
       by_cases c:b=true
       ·rw [if_pos c,if_pos q3,if_pos q1,if_pos q4,if_pos q2,Gen.w64s (by omega),rdS,rdS,ringSegs_at l hi,ringSegs_at l (by omega),if_pos (hb.1 c)]
       ·rw [if_neg c,if_pos q3,if_pos q1,if_pos q4,if_pos q2,Gen.w64s (by omega),rdS,rdS,ringSegs_at l hi,ringSegs_at l (by omega),if_neg (fun h=>c (hb.2 h))]
      ·by_cases c:howAt l i j=wantAt l.length i j
       ·exact Told.ite_t c (g1 c)
       ·rw [g2 c];exact Told.ite_f c (Told.ret _)
     by_cases e1:j+1=i
     ·refine Told.step (fun k=>?_) (st true (by simp [e1]))
      simp only[spec_IsRing.l1]
      rw [if_pos (by omega),Gen.w64s (by omega),if_pos (by omega)]
     ·by_cases e2:j=0
      ·refine Told.step (fun k=>?_) (st ((wrap64 ((i:Int)+1))==((ringSegs l).length:Int)) ?_)
       ·simp only[spec_IsRing.l1]
        rw [if_pos (by omega),Gen.w64s (by omega),if_neg (by omega),if_pos (by omega)]
       ·rw [beq_iff_eq,Gen.w64s (by omega),ringSegs_len];omega
      ·refine Told.step (fun k=>?_) (st false ?_)
       ·simp only[spec_IsRing.l1]
        rw [if_pos (by omega),Gen.w64s (by omega),if_neg (by omega),if_neg (by omega)]
       ·constructor
        ·intro h;cases h
        ·intro h;omega
    ·refine Told.step (fun k=>?_) (h1 ((chk_iff l i).2 ⟨c,h⟩))
     simp only[spec_IsRing.l1]
     rw [if_neg (by omega),Gen.w64s (by omega)]
   ·rw [h2 (fun hh=>c ((chk_iff l i).1 hh).1)]
    exact Told.ite_f c (Told.ret _)
  ·simp only[spec_IsRing.l0]
   rw [if_neg (by rw [ringSegs_len];omega),decide_eq_true (show Rg l from ⟨h3,h⟩)]
 ·rw [decide_eq_false (fun hh:Rg l=>h3 hh.1)]
  exact Told.ite_f (by rw [decide_eq_true_eq];omega) (Told.ret _)
theorem tImplAround (l:List S75) (hl:l.length≤1048576):Told (fun k=>impl_around.f k l) (ringSegs l):=by
 refine Told.up (n:=l.length) (fun s i=>s++[ringAt l i]) (fun k s i=>impl_around.l0 k l s l (l.length:Int) i) (fun s i=>s.length=i) (fun s i hi hv=>⟨by simp;omega,fun hh=>?_⟩) l.length [] 0 (by omega) rfl ?_
 ·refine Told.step (M:=fun k=>impl_around.l0 k l (s++[ringAt l i]) l (l.length:Int) ((i+1:Nat):Int)) (fun k=>?_) hh
  simp only[impl_around.l0]
  have hm:(i+1) % l.length<l.length:=Nat.mod_lt _ (by omega)
  rw [if_pos (by omega),if_pos (by omega),if_pos (by omega),if_neg (by omega),tmod_n hl hi,if_pos (by omega),if_pos (by omega),if_pos (by omega),Gen.w64s (by omega),rdP,rdP]
  rfl
 ·refine Told.stepr fun k=>?_
  simp only[impl_around.l0]
  rw [if_neg (by omega),foldl_push']
  rfl
theorem tImplIsRing (l:List S75) (hl:l.length≤1048576):Told (fun k=>impl_IsRing.f k l) (decide (Rg l)):=by
 by_cases h3:3≤l.length∧l.length≤10
 ·refine Told.ite_f (by omega) ?_
  refine Told.step (fun k=>by simp only[impl_IsRing.j0];rw [if_neg (by rw [decide_eq_true_eq];omega)]) (Told.bind (tImplAround l hl) ?_)
  rw [ringSegs_len]
  refine Told.scan (n:=l.length) false (fun i=>chkRing l i=true) (fun k i=>impl_IsRing.l0 k (ringSegs l) (l.length:Int) i) (fun i hi h1 h2=>?_) (fun h=>Told.stepr fun k=>?_) (fun h=>decide_eq_false fun hh=>h hh.2)
  ·refine Told.step (M:=fun k=>if SgAt l i then impl_IsRing.l1 k (ringSegs l) (i:Int) (l.length:Int) (i:Int) (i:Int) 0 else some false) (fun k=>?_) ?_
   ·simp only[impl_IsRing.l0]
    rw [if_pos (by omega),if_pos (by omega),if_pos (by rw [ringSegs_len];omega),implIsSegment,rdS,ringSegs_at l hi]
    simp only[Option.bind_some,decide_eq_true_eq]
    rfl
   by_cases c:SgAt l i
   ·refine Told.ite_t c ?_
    refine Told.scan (n:=i) false (fun k=>howAt l i k=wantAt l.length i k) (fun k j=>impl_IsRing.l1 k (ringSegs l) (i:Int) (l.length:Int) (i:Int) (i:Int) j) (fun j hj g1 g2=>?_) (fun h=>?_) (fun h=>h2 fun hh=>h ((chk_iff l i).1 hh).2)
    ·have st:∀ b:Bool,(b=true↔(j+1=i∨(j=0∧i+1=l.length)))→Told (fun k=>impl_IsRing.j3 k (ringSegs l) (i:Int) (j:Int) 0 (l.length:Int) (i:Int) (i:Int) (j:Int) b) (decide (Rg l)):=by
      intro b hb
      refine Told.step (M:=fun k=>(impl_HowMeet.f k (ringAt l i).f0.f0 (ringAt l i).f0.f1 (ringAt l i).f1.f0 (ringAt l i).f1.f1 (ringAt l j).f0.f0 (ringAt l j).f0.f1 (ringAt l j).f1.f0 (ringAt l j).f1.f1).bind fun t=>if t=wantAt l.length i j then impl_IsRing.l1 k (ringSegs l) (i:Int) (l.length:Int) (i:Int) (i:Int) ((j+1:Nat):Int) else some false) (fun k=>?_) (Told.bind (tImplHow _ _ _ _ _ _ _ _) ?_)
      ·simp only[impl_IsRing.j3]
       have q1:(i:Int)<((ringSegs l).length:Int):=by rw [ringSegs_len];omega
       have q2:(j:Int)<((ringSegs l).length:Int):=by rw [ringSegs_len];omega
       have q3:(0:Int)≤(i:Int):=by omega
       have q4:(0:Int)≤(j:Int):=by omega
       unfold wantAt
       by_cases c:b=true
       ·rw [if_pos c,if_pos q3,if_pos q1,if_pos q4,if_pos q2,Gen.w64s (by omega),rdS,rdS,ringSegs_at l hi,ringSegs_at l (by omega),if_pos (hb.1 c)]
       ·rw [if_neg c,if_pos q3,if_pos q1,if_pos q4,if_pos q2,Gen.w64s (by omega),rdS,rdS,ringSegs_at l hi,ringSegs_at l (by omega),if_neg (fun h=>c (hb.2 h))]
      ·by_cases c:howAt l i j=wantAt l.length i j
       ·exact Told.ite_t c (g1 c)
       ·rw [g2 c];exact Told.ite_f c (Told.ret _)
     have e0:wrap64 ((i:Int)-1)=(i:Int)-1:=Gen.w64 (by omega) (by omega)
     by_cases e1:j+1=i
     ·refine Told.step (fun k=>?_) (st true (by simp [e1]))
      simp only[impl_IsRing.l1]
      rw [if_pos (by omega),e0,if_pos (by omega)]
     ·by_cases e2:j=0
      ·refine Told.step (fun k=>?_) (st ((i:Int)==(wrap64 (((ringSegs l).length:Int)-1))) ?_)
       ·simp only[impl_IsRing.l1]
        rw [if_pos (by omega),e0,if_neg (by omega),if_pos (by omega)]
       ·rw [beq_iff_eq,ringSegs_len,Gen.w64 (by omega) (by omega)];omega
      ·refine Told.step (fun k=>?_) (st false ?_)
       ·simp only[impl_IsRing.l1]
        rw [if_pos (by omega),e0,if_neg (by omega),if_neg (by omega)]
       ·constructor
        ·intro h;cases h
        ·intro h;omega
    ·refine Told.step (fun k=>?_) (h1 ((chk_iff l i).2 ⟨c,h⟩))
     simp only[impl_IsRing.l1]
     rw [if_neg (by omega),Gen.w64s (by omega)]
   ·rw [h2 (fun hh=>c ((chk_iff l i).1 hh).1)]
    exact Told.ite_f c (Told.ret _)
  ·simp only[impl_IsRing.l0]
   rw [if_neg (by omega),decide_eq_true (show Rg l from ⟨h3,h⟩)]
 ·rw [decide_eq_false (fun hh:Rg l=>h3 hh.1)]
  by_cases h:l.length<3
  ·exact Told.ite_t (by omega) (Told.stepr fun k=>by simp only[impl_IsRing.j0,if_true])
  ·exact Told.ite_f (by omega) (Told.stepr fun k=>by simp only[impl_IsRing.j0];rw [if_pos (by rw [decide_eq_true_eq];omega)])
theorem specIsLine (l:List S75) (hl:l.length≤1048576) {k:Nat} (hk:l.length<k):spec_IsLine.f k l=some (decide (Ln l)):=by
 unfold spec_IsLine.f
 rw [Gen.scan_all l.length 0 (lnChk l) (decide (2≤l.length∧l.length≤10)) (fun k i=>spec_IsLine.l0 k l i) (fun k i _ hi=>by
  simp only[spec_IsLine.l0]
  rw [if_pos (by omega),if_pos (by omega),specIsPoint,rdP]
  simp only[Option.bind_some,decide_eq_true_eq]
  unfold lnChk
  by_cases h1:Pt (l.getD i z75).f0 (l.getD i z75).f1
  ·rw [if_pos h1]
   by_cases h0:0<i
   ·have e1:wrap64 ((i:Int)-1)=((i-1:Nat):Int):=by rw [Gen.w64 (by omega) (by omega)];omega
    rw [if_pos (by omega),e1,if_pos (by omega),if_pos (by omega),rdP,Gen.w64s (by omega)]
    by_cases h2:(l.getD (i-1) z75).f0=(l.getD i z75).f0∧(l.getD (i-1) z75).f1=(l.getD i z75).f1
    ·rw [if_pos (by simpa using h2),if_neg (by simp only[decide_eq_true_eq];exact fun h=>h.2 ⟨h0,h2⟩)]
    ·rw [if_neg (by simpa using h2),if_pos (by simp only[decide_eq_true_eq];exact⟨h1,fun h=>h2 h.2⟩)]
   ·rw [if_neg (by omega),if_pos (by simp only[decide_eq_true_eq];exact⟨h1,fun h=>h0 h.1⟩),Gen.w64s (by omega)]
  ·rw [if_neg h1,if_neg (by simp only[decide_eq_true_eq];exact fun h=>h1 h.1)]) (fun k _=>by
  simp only[spec_IsLine.l0]
  rw [if_neg (by omega),specIn]
  simp only[Option.bind_some,Option.some.injEq,decide_eq_decide]
  omega) (by omega)]
 congr 1
 rw [Bool.eq_iff_iff,Bool.and_eq_true,decide_eq_true_eq,decide_eq_true_eq,decide_eq_true_eq]
 unfold Ln lnChk
 simp only[decide_eq_true_eq]
 constructor
 ·rintro ⟨h1,h2,h3⟩;exact⟨h2,h3,h1⟩
 ·rintro ⟨h1,h2,h3⟩;exact⟨h3,h1,h2⟩
theorem implIsLine (l:List S75) (hl:l.length≤1048576) {k:Nat} (hk:l.length+1<k):impl_IsLine.f k l=some (decide (Ln l)):=by
 obtain⟨k,rfl⟩:∃ m,k=m+1:=⟨k-1,by omega⟩
 unfold impl_IsLine.f
 simp only[impl_IsLine.j0]
 by_cases h2:l.length<2
 ·rw [if_pos (by omega),if_pos trivial]
  congr 1
  rw [eq_comm,decide_eq_false_iff_not]
  intro h;have:=h.1;omega
 ·rw [if_neg (by omega)]
  by_cases h10:l.length>10
  ·rw [if_pos (by rw [decide_eq_true_eq];omega)]
   congr 1
   rw [eq_comm,decide_eq_false_iff_not]
   intro h;have:=h.2.1;omega
  ·rw [if_neg (by rw [decide_eq_true_eq];omega)]
   rw [Gen.scan_all l.length 0 (lnChk l) true (fun k i=>impl_IsLine.l0 k l l l.length i) (fun k i _ hi=>by
    simp only[impl_IsLine.l0]
    rw [if_pos (by omega),if_pos (by omega),if_pos (by omega),implIsPoint,rdP]
    simp only[Option.bind_some,decide_eq_true_eq]
    unfold lnChk
    by_cases h1:Pt (l.getD i z75).f0 (l.getD i z75).f1
    ·rw [if_pos h1]
     by_cases h0:0<i
     ·have e1:wrap64 ((i:Int)-1)=((i-1:Nat):Int):=by rw [Gen.w64 (by omega) (by omega)];omega
      rw [if_pos (by omega),e1,if_pos (by omega),if_pos (by omega),rdP,Gen.w64s (by omega)]
      by_cases h2:(l.getD (i-1) z75).f0=(l.getD i z75).f0∧(l.getD (i-1) z75).f1=(l.getD i z75).f1
      ·rw [if_pos (by rw [h2.1,h2.2];simp),if_neg (by simp only[decide_eq_true_eq];exact fun h=>h.2 ⟨h0,h2⟩)]
      ·rw [if_neg (by simp only[Bool.and_eq_true,beq_iff_eq];exact fun h=>h2 ⟨h.1.symm,h.2.symm⟩),if_pos (by simp only[decide_eq_true_eq];exact⟨h1,fun h=>h2 h.2⟩)]
     ·rw [if_neg (by omega),if_pos (by simp only[decide_eq_true_eq];exact⟨h1,fun h=>h0 h.1⟩),Gen.w64s (by omega)]
    ·rw [if_neg h1,if_neg (by simp only[decide_eq_true_eq];exact fun h=>h1 h.1)]) (fun k _=>by
    simp only[impl_IsLine.l0]
    rw [if_neg (by omega)]) (by omega)]
   congr 1
   rw [Bool.eq_iff_iff,Bool.and_eq_true,decide_eq_true_eq,decide_eq_true_eq]
   unfold Ln lnChk
   simp only[decide_eq_true_eq,and_true]
   constructor
   ·intro h;exact⟨by omega,by omega,h⟩
   ·intro h;exact h.2.2
theorem tSpecIsLine (l:List S75) (hl:l.length≤1048576):Told (fun k=>spec_IsLine.f k l) (decide (Ln l)):=⟨l.length+1,fun k hk=>specIsLine l hl (by omega)⟩
theorem tImplIsLine (l:List S75) (hl:l.length≤1048576):Told (fun k=>impl_IsLine.f k l) (decide (Ln l)):=⟨l.length+2,fun k hk=>implIsLine l hl (by omega)⟩
def segAt (l:List S75) (i:Nat):S101:=⟨l.getD (i-1) z75,l.getD i z75⟩
def segs (l:List S75):List S101:=(List.range' 1 (l.length-1)).map (segAt l)
theorem foldl_push {α β:Type} (g:α→β) (x:List α):∀ s:List β,x.foldl (fun s i=>s++[g i]) s=s++x.map g:=by
 induction x with
 | nil=>intro s;simp
 | cons a x ih=>intro s;rw [List.foldl_cons,ih];simp
theorem tSpecSegmentsOf (l:List S75) (h:Ln l):Told (fun k=>spec_SegmentsOf.f k l) (segs l):=by
 have hn:=h.1;have hm:=h.2.1
 refine Told.eq (M:=fun k=>spec_SegmentsOf.l0 k l [] ((1:Nat):Int)) (fun k=>rfl) ?_
 refine Told.up (n:=l.length) (fun s i=>s++[segAt l i]) (fun k s i=>spec_SegmentsOf.l0 k l s i) (fun s i=>s.length+1=i) (fun s i hi hv=>⟨by simp;omega,fun hh=>?_⟩) (l.length-1) [] 1 (by omega) rfl ?_
 ·refine Told.step (M:=fun k=>(spec_IsLine.f k l).bind fun t=>if t=true then spec_SegmentsOf.l0 k l (s++[segAt l i]) ((i+1:Nat):Int) else some s) (fun k=>?_) (Told.bind (tSpecIsLine l (by omega)) (Told.eq (fun _=>if_pos (by simpa using h)) hh))
  simp only[spec_SegmentsOf.l0]
  have e1:wrap64 ((i:Int)-1)=((i-1:Nat):Int):=by rw [Gen.w64 (by omega) (by omega)];omega
  rw [if_pos (by omega),e1,Gen.w64s (by omega),if_pos (by omega),if_pos (by omega),if_pos (by omega),if_pos (by omega),rdP,rdP]
  rfl
 ·refine Told.stepr fun k=>?_
  simp only[spec_SegmentsOf.l0]
  rw [if_neg (by omega),foldl_push]
  rfl
theorem tImplSegmentsOf (l:List S75) (h:Ln l):Told (fun k=>impl_SegmentsOf.f k l) (segs l):=by
 have hn:=h.1;have hm:=h.2.1
 refine Told.eq (M:=fun k=>(impl_IsLine.f k l).bind fun t=>if t=true then impl_SegmentsOf.l0 k l [] ((1:Nat):Int) else some []) (fun k=>rfl) (Told.bind (tImplIsLine l (by omega)) (Told.eq (fun _=>if_pos (by simpa using h)) ?_))
 refine Told.up (n:=l.length) (fun s i=>s++[segAt l i]) (fun k s i=>impl_SegmentsOf.l0 k l s i) (fun s i=>s.length+1=i) (fun s i hi hv=>⟨by simp;omega,fun hh=>?_⟩) (l.length-1) [] 1 (by omega) rfl ?_
 ·refine Told.step (M:=fun k=>impl_SegmentsOf.l0 k l (s++[segAt l i]) ((i+1:Nat):Int)) (fun k=>?_) hh
  simp only[impl_SegmentsOf.l0]
  have e1:wrap64 ((i:Int)-1)=((i-1:Nat):Int):=by rw [Gen.w64 (by omega) (by omega)];omega
  rw [if_pos (by omega),e1,Gen.w64s (by omega),if_pos (by omega),if_pos (by omega),if_pos (by omega),if_pos (by omega),rdP,rdP]
  rfl
 ·refine Told.stepr fun k=>?_
  simp only[impl_SegmentsOf.l0]
  rw [if_neg (by omega),foldl_push]
  rfl
theorem rdSg (l:List S101) (i:Nat):rd_T101 l (i:Int)=l.getD i z101:=rfl
theorem segs_len' (l:List S75):(segs l).length=l.length-1:=by simp [segs]
theorem segs_at (l:List S75) {i:Nat} (h:i+1<l.length):(segs l).getD i z101=segAt l (i+1):=by
 unfold segs
 rw [List.getD_eq_getElem?_getD,List.getElem?_map,List.getElem?_range' (by omega)]
 simp [Nat.add_comm]
def segsV (l:List S75):List S101:=if Ln l then segs l else []
theorem tSpecSegs (l:List S75) (hl:l.length≤1048576):Told (fun k=>spec_SegmentsOf.f k l) (segsV l):=by
 by_cases h:Ln l
 ·rw [segsV,if_pos h];exact tSpecSegmentsOf l h
 ·rw [segsV,if_neg h]
  by_cases h1:1<l.length
  ·refine Told.step (M:=fun k=>(spec_IsLine.f k l).bind fun t=>if t=true then spec_SegmentsOf.l0 k l [segAt l 1] ((1+1:Nat):Int) else some []) (fun k=>?_) (Told.bind (tSpecIsLine l hl) (Told.ite_f (by simpa using h) (Told.ret _)))
   show spec_SegmentsOf.l0 (k+1) l [] 1=_
   simp only[spec_SegmentsOf.l0]
   have e1:wrap64 ((1:Int)-1)=((0:Nat):Int):=by rw [Gen.w64 (by omega) (by omega)];omega
   have e2:wrap64 ((1:Int)+1)=((1+1:Nat):Int):=by rw [Gen.w64 (by omega) (by omega)];omega
   rw [if_pos (by omega),e1,e2,if_pos (by omega),if_pos (by omega),if_pos (by omega),if_pos (by simp)]
   rfl
  ·refine Told.stepr fun k=>?_
   show spec_SegmentsOf.l0 (k+1) l [] 1=_
   simp only[spec_SegmentsOf.l0]
   rw [if_neg (by omega)]
def howL (l:List S75) (i k:Nat):Int:=howV (segAt l (i+1)).f0.f0 (segAt l (i+1)).f0.f1 (segAt l (i+1)).f1.f0 (segAt l (i+1)).f1.f1 (segAt l (k+1)).f0.f0 (segAt l (k+1)).f0.f1 (segAt l (k+1)).f1.f0 (segAt l (k+1)).f1.f1
def chkSm (l:List S75) (i:Nat):Bool:=decide (∀ k,k<i→howL l i k=if k+1=i then 1 else 0)
theorem chkSm_iff (l:List S75) (i:Nat):chkSm l i=true ↔ ∀ k,k<i→howL l i k=if k+1=i then 1 else 0:=by unfold chkSm;rw [decide_eq_true_eq]
def Sm (l:List S75):Prop:=Ln l∧∀ i,i<l.length-1→chkSm l i=true
instance (l:List S75):Decidable (Sm l):=by unfold Sm;infer_instance
theorem tSpecSimple (l:List S75) (hl:l.length≤1048576):Told (fun k=>spec_IsSimple.f k l) (decide (Sm l)):=by
 refine Told.bind (tSpecSegs l hl) ?_
 by_cases h:Ln l
 ·have h2:=h.1
  have h10:=h.2.1
  have hn:=segs_len' l
  rw [segsV,if_pos h]
  refine Told.scan (n:=l.length-1) false (fun i=>chkSm l i=true) (fun k i=>spec_IsSimple.l0 k l (segs l) i) (fun i hi h1 h2=>?_) (fun hh=>?_) (fun hh=>decide_eq_false fun hs=>hh hs.2)
  ·refine Told.step (M:=fun k=>spec_IsSimple.l1 k l (segs l) (i:Int) 0) (fun k=>by simp only[spec_IsSimple.l0];rw [if_pos (by omega)]) ?_
   refine Told.scan (n:=i) false (fun k=>howL l i k=if k+1=i then 1 else 0) (fun k j=>spec_IsSimple.l1 k l (segs l) (i:Int) j) (fun j hj g1 g2=>?_) (fun hh=>?_) (fun hh=>h2 fun hs=>hh ((chkSm_iff l i).1 hs))
   ·refine Told.step (M:=fun k=>(spec_HowMeet.f k (segAt l (i+1)).f0.f0 (segAt l (i+1)).f0.f1 (segAt l (i+1)).f1.f0 (segAt l (i+1)).f1.f1 (segAt l (j+1)).f0.f0 (segAt l (j+1)).f0.f1 (segAt l (j+1)).f1.f0 (segAt l (j+1)).f1.f1).bind fun t=>if t=(if j+1=i then 1 else 0) then spec_IsSimple.l1 k l (segs l) (i:Int) ((j+1:Nat):Int) else some false) (fun k=>?_) (Told.bind (tSpecHow _ _ _ _ _ _ _ _) ?_)
    ·simp only[spec_IsSimple.l1]
     have q1:(i:Int)<((segs l).length:Int):=by omega
     have q2:(j:Int)<((segs l).length:Int):=by omega
     have q3:(0:Int)≤(i:Int):=by omega
     have q4:(0:Int)≤(j:Int):=by omega
     have q5:(j:Int)<(i:Int):=by omega
     rw [if_pos q5,Gen.w64s (by omega)]
     by_cases c:j+1=i
     ·have c':((j+1:Nat):Int)=(i:Int):=by omega
      rw [if_pos c',if_pos q3,if_pos q1,if_pos q4,if_pos q2,rdSg,rdSg,segs_at l (by omega),segs_at l (by omega),if_pos c]
     ·have c':¬ ((j+1:Nat):Int)=(i:Int):=by omega
      rw [if_neg c',if_pos q3,if_pos q1,if_pos q4,if_pos q2,rdSg,rdSg,segs_at l (by omega),segs_at l (by omega),if_neg c]
    ·by_cases c:howL l i j=if j+1=i then 1 else 0
     ·exact Told.ite_t c (g1 c)
     ·rw [g2 c];exact Told.ite_f c (Told.ret _)
   ·refine Told.step (fun k=>?_) (h1 ((chkSm_iff l i).2 hh))
    simp only[spec_IsSimple.l1]
    rw [if_neg (by omega),Gen.w64s (by omega)]
  ·rw [decide_eq_true (show Sm l from ⟨h,hh⟩)]
   refine Told.step (fun k=>by simp only[spec_IsSimple.l0];rw [if_neg (by omega)]) ?_
   refine Told.bind (tSpecIsLine l hl) ?_
   rw [decide_eq_true h];exact Told.ret _
 ·rw [segsV,if_neg h,decide_eq_false (fun hh:Sm l=>h hh.1)]
  refine Told.step (fun k=>by simp only[spec_IsSimple.l0];rw [if_neg (by simp)]) ?_
  refine Told.bind (tSpecIsLine l hl) ?_
  rw [decide_eq_false h];exact Told.ret _
theorem tImplSimple (l:List S75) (hl:l.length≤1048576):Told (fun k=>impl_IsSimple.f k l) (decide (Sm l)):=by
 refine Told.bind (tImplIsLine l hl) ?_
 by_cases h:Ln l
 ·have h2:=h.1
  have h10:=h.2.1
  have hn:=segs_len' l
  refine Told.ite_t (by simpa using h) (Told.bind (tImplSegmentsOf l h) ?_)
  rw [hn]
  refine Told.scan (n:=l.length-1) false (fun i=>chkSm l i=true) (fun k i=>impl_IsSimple.l0 k (segs l) ((l.length-1:Nat):Int) i) (fun i hi h1 h2=>?_) (fun hh=>?_) (fun hh=>decide_eq_false fun hs=>hh hs.2)
  ·refine Told.step (M:=fun k=>impl_IsSimple.l1 k (segs l) (i:Int) ((l.length-1:Nat):Int) (i:Int) (i:Int) 0) (fun k=>by simp only[impl_IsSimple.l0];rw [if_pos (by omega)]) ?_
   refine Told.scan (n:=i) false (fun k=>howL l i k=if k+1=i then 1 else 0) (fun k j=>impl_IsSimple.l1 k (segs l) (i:Int) ((l.length-1:Nat):Int) (i:Int) (i:Int) j) (fun j hj g1 g2=>?_) (fun hh=>?_) (fun hh=>h2 fun hs=>hh ((chkSm_iff l i).1 hs))
   ·refine Told.step (M:=fun k=>(impl_HowMeet.f k (segAt l (i+1)).f0.f0 (segAt l (i+1)).f0.f1 (segAt l (i+1)).f1.f0 (segAt l (i+1)).f1.f1 (segAt l (j+1)).f0.f0 (segAt l (j+1)).f0.f1 (segAt l (j+1)).f1.f0 (segAt l (j+1)).f1.f1).bind fun t=>if t=(if j+1=i then 1 else 0) then impl_IsSimple.l1 k (segs l) (i:Int) ((l.length-1:Nat):Int) (i:Int) (i:Int) ((j+1:Nat):Int) else some false) (fun k=>?_) (Told.bind (tImplHow _ _ _ _ _ _ _ _) ?_)
    ·simp only[impl_IsSimple.l1]
     have q1:(i:Int)<((segs l).length:Int):=by omega
     have q2:(j:Int)<((segs l).length:Int):=by omega
     have q3:(0:Int)≤(i:Int):=by omega
     have q4:(0:Int)≤(j:Int):=by omega
     have q5:(j:Int)<(i:Int):=by omega
     rw [if_pos q5,Gen.w64 (n:=(i:Int)-1) (by omega) (by omega),Gen.w64s (by omega)]
     by_cases c:j+1=i
     ·have c':(j:Int)=(i:Int)-1:=by omega
      rw [if_pos c',if_pos q3,if_pos q1,if_pos q4,if_pos q2,rdSg,rdSg,segs_at l (by omega),segs_at l (by omega),if_pos c]
     ·have c':¬ (j:Int)=(i:Int)-1:=by omega
      rw [if_neg c',if_pos q3,if_pos q1,if_pos q4,if_pos q2,rdSg,rdSg,segs_at l (by omega),segs_at l (by omega),if_neg c]
    ·by_cases c:howL l i j=if j+1=i then 1 else 0
     ·exact Told.ite_t c (g1 c)
     ·rw [g2 c];exact Told.ite_f c (Told.ret _)
   ·refine Told.step (fun k=>?_) (h1 ((chkSm_iff l i).2 hh))
    simp only[impl_IsSimple.l1]
    rw [if_neg (by omega),Gen.w64s (by omega)]
  ·rw [decide_eq_true (show Sm l from ⟨h,hh⟩)]
   exact Told.stepr fun k=>by simp only[impl_IsSimple.l0];rw [if_neg (by omega)]
 ·rw [decide_eq_false (fun hh:Sm l=>h hh.1)]
  exact Told.ite_f (by simpa using h) (Told.ret _)
def nameV (s:ByteArray):Bool:=decide ((∀ i,i<s.size→¬ bt s (i:Int)<97∧¬ bt s (i:Int)>122)∧(1≤(s.size:Int)∧(s.size:Int)≤8))
theorem tSpecName (s:ByteArray) (hs:s.size≤1048576):Told (fun k=>spec_IsName.f k s) (nameV s):=by
 refine Told.scan (n:=s.size) false (fun i=>¬ bt s (i:Int)<97∧¬ bt s (i:Int)>122) (fun k i=>spec_IsName.l0 k s i) (fun i hi h1 h2=>?_) (fun h=>Told.stepr fun k=>?_) (fun h=>decide_eq_false fun hh=>h hh.1)
 ·by_cases c1:bt s (i:Int)<97
  ·rw [h2 (fun h=>h.1 c1)]
   exact Told.stepr fun k=>by simp only[spec_IsName.l0];rw [if_pos (by omega),if_pos (by omega),if_pos c1]
  ·by_cases c2:bt s (i:Int)>122
   ·rw [h2 (fun h=>h.2 c2)]
    exact Told.stepr fun k=>by simp only[spec_IsName.l0];rw [if_pos (by omega),if_pos (by omega),if_neg c1,if_pos c2]
   ·exact Told.step (fun k=>by simp only[spec_IsName.l0];rw [if_pos (by omega),if_pos (by omega),if_neg c1,if_neg c2,Gen.w64s (by omega)]) (h1 ⟨c1,c2⟩)
 ·simp only[spec_IsName.l0]
  rw [if_neg (by omega),specIn]
  simp only[Option.bind_some,nameV]
  congr 1
  rw [decide_eq_decide]
  exact⟨fun hh=>⟨h,hh⟩,fun hh=>hh.2⟩
theorem tImplName (s:ByteArray) (hs:s.size≤1048576):Told (fun k=>impl_IsName.f k s) (nameV s):=by
 refine Told.scan (n:=s.size) false (fun i=>¬ bt s (i:Int)<97∧¬ bt s (i:Int)>122) (fun k i=>impl_IsName.l0 k s (s.size:Int) i) (fun i hi h1 h2=>?_) (fun h=>Told.stepr fun k=>?_) (fun h=>decide_eq_false fun hh=>h hh.1)
 ·by_cases c1:bt s (i:Int)<97
  ·rw [h2 (fun h=>h.1 c1)]
   exact Told.stepr fun k=>by simp only[impl_IsName.l0];rw [if_pos (by omega),if_pos (by omega),if_pos (by omega),if_pos c1]
  ·by_cases c2:bt s (i:Int)>122
   ·rw [h2 (fun h=>h.2 c2)]
    exact Told.stepr fun k=>by simp only[impl_IsName.l0];rw [if_pos (by omega),if_pos (by omega),if_pos (by omega),if_neg c1,if_pos c2]
   ·exact Told.step (fun k=>by simp only[impl_IsName.l0];rw [if_pos (by omega),if_pos (by omega),if_pos (by omega),if_neg c1,if_neg c2,Gen.w64s (by omega)]) (h1 ⟨c1,c2⟩)
 ·simp only[impl_IsName.l0]
  rw [if_neg (by omega),implInRange]
  simp only[Option.bind_some,nameV]
  congr 1
  rw [decide_eq_decide]
  exact⟨fun hh=>⟨h,hh⟩,fun hh=>hh.2⟩
def featK (a1:Int) (l:List S75):Bool:=if a1=1 then (if l.length=1 then decide (Pt (l.getD 0 z75).f0 (l.getD 0 z75).f1) else false) else if a1=2 then decide (Sm l) else if a1=3 then decide (Rg l) else false
def featV (a0 a1 a2:Int) (s:ByteArray) (l:List S75):Bool:=if (1≤a0∧a0≤99)∧(0≤a2∧a2≤9)∧(s.toList=[]∨nameV s=true) then featK a1 l else false
theorem tSpecFeat (a0 a1 a2:Int) (s:ByteArray) (l:List S75) (hs:s.size≤1048576) (hl:l.length≤1048576):Told (fun k=>spec_IsFeature.f k a0 a1 a2 s l) (featV a0 a1 a2 s l):=by
 have no:∀ r,r=false→Told (fun k=>spec_IsFeature.j0 k true a0 a1 a2 s l) r:=fun r h=>Told.stepr fun k=>by simp only[spec_IsFeature.j0,if_true];rw [h]
 have yes:Told (fun k=>spec_IsFeature.j0 k false a0 a1 a2 s l) (featK a1 l):=by
  unfold featK
  by_cases c1:a1=1
  ·rw [if_pos c1]
   by_cases c:l.length=1
   ·rw [if_pos c]
    refine Told.stepr fun k=>?_
    simp only[spec_IsFeature.j0,Bool.false_eq_true,if_false]
    rw [if_pos c1,if_pos (by omega),if_pos (by omega),specIsPoint]
    rfl
   ·rw [if_neg c]
    refine Told.stepr fun k=>?_
    simp only[spec_IsFeature.j0,Bool.false_eq_true,if_false]
    rw [if_pos c1,if_neg (by omega)]
  ·rw [if_neg c1]
   by_cases c2:a1=2
   ·rw [if_pos c2]
    refine Told.step (fun k=>by simp only[spec_IsFeature.j0,Bool.false_eq_true,if_false];rw [if_neg c1,if_pos c2]) (Told.bind (tSpecSimple l hl) (Told.ret _))
   ·rw [if_neg c2]
    by_cases c3:a1=3
    ·rw [if_pos c3]
     refine Told.step (fun k=>by simp only[spec_IsFeature.j0,Bool.false_eq_true,if_false];rw [if_neg c1,if_neg c2,if_pos c3]) (Told.bind (tSpecIsRing l hl) (Told.ret _))
    ·rw [if_neg c3]
     exact Told.stepr fun k=>by simp only[spec_IsFeature.j0,Bool.false_eq_true,if_false];rw [if_neg c1,if_neg c2,if_neg c3]
 refine Told.bind (Told.of (specIn _ _ _)) ?_
 by_cases h1:1≤a0∧a0≤99
 ·refine Told.ite_t (by simpa using h1) (Told.bind (Told.of (specIn _ _ _)) ?_)
  by_cases h2:0≤a2∧a2≤9
  ·refine Told.ite_t (by simpa using h2) ?_
   by_cases h3:s.toList=([]:List UInt8)
   ·have e:featV a0 a1 a2 s l=featK a1 l:=by unfold featV;exact if_pos ⟨h1,h2,.inl h3⟩
    rw [e];exact Told.ite_t h3 yes
   ·refine Told.ite_f h3 (Told.bind (tSpecName s hs) ?_)
    by_cases h4:nameV s=true
    ·have e:featV a0 a1 a2 s l=featK a1 l:=by unfold featV;exact if_pos ⟨h1,h2,.inr h4⟩
     rw [e,h4];exact yes
    ·have e:featV a0 a1 a2 s l=false:=by unfold featV;exact if_neg (fun h=>by rcases h.2.2 with h|h <;> contradiction)
     rw [Bool.not_eq_true] at h4
     rw [h4];exact no _ e
  ·exact Told.ite_f (by simpa using h2) (no _ (by unfold featV;exact if_neg (fun h=>h2 h.2.1)))
 ·exact Told.ite_f (by simpa using h1) (no _ (by unfold featV;exact if_neg (fun h=>h1 h.1)))
theorem tImplFeat (a0 a1 a2:Int) (s:ByteArray) (l:List S75) (hs:s.size≤1048576) (hl:l.length≤1048576):Told (fun k=>impl_IsFeature.f k a0 a1 a2 s l) (featV a0 a1 a2 s l):=by
 have no:∀ r,r=false→Told (fun k=>impl_IsFeature.j0 k true a0 a1 a2 s l) r:=fun r h=>Told.stepr fun k=>by simp only[impl_IsFeature.j0,if_true];rw [h]
 have yes:Told (fun k=>impl_IsFeature.j0 k false a0 a1 a2 s l) (featK a1 l):=by
  unfold featK
  by_cases c1:a1=1
  ·rw [if_pos c1]
   by_cases c:l.length=1
   ·rw [if_pos c]
    refine Told.stepr fun k=>?_
    simp only[impl_IsFeature.j0,Bool.false_eq_true,if_false]
    rw [if_pos c1,if_pos (by omega),if_pos (by omega),implIsPoint]
    rfl
   ·rw [if_neg c]
    refine Told.stepr fun k=>?_
    simp only[impl_IsFeature.j0,Bool.false_eq_true,if_false]
    rw [if_pos c1,if_neg (by omega)]
  ·rw [if_neg c1]
   by_cases c2:a1=2
   ·rw [if_pos c2]
    refine Told.step (fun k=>by simp only[impl_IsFeature.j0,Bool.false_eq_true,if_false];rw [if_neg c1,if_pos c2]) (Told.bind (tImplSimple l hl) (Told.ret _))
   ·rw [if_neg c2]
    by_cases c3:a1=3
    ·rw [if_pos c3]
     refine Told.step (fun k=>by simp only[impl_IsFeature.j0,Bool.false_eq_true,if_false];rw [if_neg c1,if_neg c2,if_pos c3]) (Told.bind (tImplIsRing l hl) (Told.ret _))
    ·rw [if_neg c3]
     exact Told.stepr fun k=>by simp only[impl_IsFeature.j0,Bool.false_eq_true,if_false];rw [if_neg c1,if_neg c2,if_neg c3]
 refine Told.bind (Told.of (implInRange _ _ _)) ?_
 by_cases h1:1≤a0∧a0≤99
 ·refine Told.ite_t (by simpa using h1) (Told.bind (Told.of (implInRange _ _ _)) ?_)
  by_cases h2:0≤a2∧a2≤9
  ·refine Told.ite_t (by simpa using h2) ?_
   by_cases h3:s.toList=([]:List UInt8)
   ·have e:featV a0 a1 a2 s l=featK a1 l:=by unfold featV;exact if_pos ⟨h1,h2,.inl h3⟩
    rw [e];exact Told.ite_t h3 yes
   ·refine Told.ite_f h3 (Told.bind (tImplName s hs) ?_)
    by_cases h4:nameV s=true
    ·have e:featV a0 a1 a2 s l=featK a1 l:=by unfold featV;exact if_pos ⟨h1,h2,.inr h4⟩
     rw [e,h4];exact yes
    ·have e:featV a0 a1 a2 s l=false:=by unfold featV;exact if_neg (fun h=>by rcases h.2.2 with h|h <;> contradiction)
     rw [Bool.not_eq_true] at h4
     rw [h4];exact no _ e
  ·exact Told.ite_f (by simpa using h2) (no _ (by unfold featV;exact if_neg (fun h=>h2 h.2.1)))
 ·exact Told.ite_f (by simpa using h1) (no _ (by unfold featV;exact if_neg (fun h=>h1 h.1)))
theorem rdF (l:List S34) (i:Nat):rd_T34 l (i:Int)=l.getD i z34:=rfl
def FtOk (f:S34):Prop:=f.f3.size≤1048576∧f.f4.length≤1048576
def SrOk (l:List S34):Prop:=l.length≤1048576∧∀ i,i<l.length→FtOk (l.getD i z34)
def ftV (f:S34):Bool:=featV f.f0 f.f1 f.f2 f.f3 f.f4
def srChk (l:List S34) (i:Nat):Bool:=ftV (l.getD i z34)&&(decide (i=0)||decide ((l.getD (i-1) z34).f0<(l.getD i z34).f0))
def Sr (l:List S34):Prop:=l.length≤16∧∀ i,i<l.length→srChk l i=true
instance (l:List S34):Decidable (Sr l):=by unfold Sr;infer_instance
theorem tSpecSource (l:List S34) (h:SrOk l):Told (fun k=>spec_IsSource.f k l) (decide (Sr l)):=by
 have hl:=h.1
 refine Told.scan (n:=l.length) false (fun i=>srChk l i=true) (fun k i=>spec_IsSource.l0 k l i) (fun i hi h1 h2=>?_) (fun hh=>Told.stepr fun k=>?_) (fun hh=>decide_eq_false fun hs=>hh hs.2)
 ·have hf:=h.2 i hi
  refine Told.step (fun k=>by simp only[spec_IsSource.l0];rw [if_pos (by omega),if_pos (by omega),rdF,Gen.w64s (by omega)]) (Told.bind (tSpecFeat _ _ _ _ _ hf.1 hf.2) ?_)
  by_cases c:ftV (l.getD i z34)=true
  ·refine Told.ite_t c ?_
   by_cases c0:i=0
   ·subst c0
    exact Told.ite_f (by omega) (h1 (by unfold srChk;rw [c];simp))
   ·have e1:wrap64 ((i:Int)-1)=((i-1:Nat):Int):=by rw [Gen.w64 (by omega) (by omega)];omega
    refine Told.ite_t (by omega) ?_
    rw [e1]
    refine Told.ite_t (by omega) (Told.ite_t (by omega) ?_)
    by_cases c2:(l.getD (i-1) z34).f0≥(l.getD i z34).f0
    ·rw [h2 (by unfold srChk;rw [c];simp [c0];simp at c2;omega)]
     exact Told.ite_t c2 (Told.ret _)
    ·exact Told.ite_f c2 (h1 (by unfold srChk;rw [c];simp [c0];simp at c2;omega))
  ·rw [h2 (by unfold srChk;rw [Bool.not_eq_true] at c;rw [c];simp)]
   exact Told.ite_f c (Told.ret _)
 ·simp only[spec_IsSource.l0]
  rw [if_neg (by omega)]
  congr 1
  rw [decide_eq_decide]
  exact⟨fun h=>⟨by omega,hh⟩,fun h=>by have:=h.1;omega⟩
theorem tImplSource (l:List S34) (h:SrOk l):Told (fun k=>impl_IsSource.f k l) (decide (Sr l)):=by
 have hl:=h.1
 by_cases h16:l.length≤16
 ·refine Told.ite_f (by omega) ?_
  refine Told.scan (n:=l.length) false (fun i=>srChk l i=true) (fun k i=>impl_IsSource.l0 k l l (l.length:Int) i) (fun i hi h1 h2=>?_) (fun hh=>Told.stepr fun k=>?_) (fun hh=>decide_eq_false fun hs=>hh hs.2)
  ·have hf:=h.2 i hi
   refine Told.step (fun k=>by simp only[impl_IsSource.l0];rw [if_pos (by omega),if_pos (by omega),if_pos (by omega),rdF,Gen.w64s (by omega)]) (Told.bind (tImplFeat _ _ _ _ _ hf.1 hf.2) ?_)
   by_cases c:ftV (l.getD i z34)=true
   ·refine Told.ite_t c ?_
    by_cases c0:i=0
    ·subst c0
     exact Told.ite_f (by omega) (h1 (by unfold srChk;rw [c];simp))
    ·have e1:wrap64 ((i:Int)-1)=((i-1:Nat):Int):=by rw [Gen.w64 (by omega) (by omega)];omega
     refine Told.ite_t (by omega) ?_
     rw [e1]
     refine Told.ite_t (by omega) (Told.ite_t (by omega) ?_)
     by_cases c2:(l.getD i z34).f0≤(l.getD (i-1) z34).f0
     ·rw [h2 (by unfold srChk;rw [c];simp [c0];simp at c2;omega)]
      exact Told.ite_t c2 (Told.ret _)
     ·exact Told.ite_f c2 (h1 (by unfold srChk;rw [c];simp [c0];simp at c2;omega))
   ·rw [h2 (by unfold srChk;rw [Bool.not_eq_true] at c;rw [c];simp)]
    exact Told.ite_f c (Told.ret _)
  ·simp only[impl_IsSource.l0]
   rw [if_neg (by omega),decide_eq_true (show Sr l from ⟨h16,hh⟩)]
 ·rw [decide_eq_false (fun hs:Sr l=>h16 hs.1)]
  exact Told.ite_t (by omega) (Told.ret _)
theorem rdP' (l:List S75) (i:Nat):rd_T75 l (i:Int)=l.getD i z75:=rfl
def pDiff (a b:List S75) (i:Nat):Bool:=!(((a.getD i z75).f0)==((b.getD i z75).f0))||(!(((a.getD i z75).f1)==((b.getD i z75).f1)))
def eqlV (a b:List S75):Bool:=decide (a.length=b.length∧∀ i,i<a.length→pDiff a b i=false)
theorem tImplEql (a b:List S75) (ha:a.length≤1048576) (hb:b.length≤1048576):Told (fun k=>impl_Point_53.f k a b) (eqlV a b):=by
 by_cases h:a.length=b.length
 ·refine Told.ite_t (by omega) ?_
  refine Told.scan (n:=a.length) false (fun i=>pDiff a b i=false) (fun k i=>impl_Point_53.l0 k a b (a.length:Int) i) (fun i hi h1 h2=>?_) (fun hh=>?_) (fun hh=>decide_eq_false fun hs=>hh hs.2)
  ·refine Told.step (fun k=>by simp only[impl_Point_53.l0];rw [if_pos (by omega),if_pos (by omega),if_pos (by omega),if_pos (by omega),rdP',rdP',Gen.w64s (by omega)]) ?_
   by_cases c:pDiff a b i=true
   ·rw [h2 (by simp [c])];exact Told.ite_t c (Told.ret _)
   ·exact Told.ite_f c (h1 (by simpa using c))
  ·have e:eqlV a b=true:=decide_eq_true ⟨h,hh⟩
   rw [e]
   exact Told.stepr fun k=>by simp only[impl_Point_53.l0];rw [if_neg (by omega)]
 ·have e:eqlV a b=false:=decide_eq_false fun hs=>h hs.1
  rw [e];exact Told.ite_f (by omega) (Told.ret _)
def eqfV (a0 a1 a2:Int) (s:ByteArray) (l:List S75) (b0 b1 b2:Int) (t:ByteArray) (m:List S75):Bool:=if a0=b0∧a1=b1∧a2=b2∧s.toList=t.toList then eqlV l m else false
theorem tEqfGo {a0 a1 a2:Int} {s:ByteArray} {l:List S75} {b0 b1 b2:Int} {t:ByteArray} {m:List S75} {L:Nat→Option Bool} (h:Told L (eqlV l m)) :
  Told (fun k=>if a0=b0 then (if a1=b1 then (if a2=b2 then (if s.toList=t.toList then ((L k).bind fun t112=>(some t112)) else (some false)) else (some false)) else (some false)) else (some false)) (eqfV a0 a1 a2 s l b0 b1 b2 t m):=by
 by_cases h0:a0=b0
 ·refine Told.ite_t h0 ?_
  by_cases h1:a1=b1
  ·refine Told.ite_t h1 ?_
   by_cases h2:a2=b2
   ·refine Told.ite_t h2 ?_
    by_cases h3:s.toList=t.toList
    ·have e:eqfV a0 a1 a2 s l b0 b1 b2 t m=eqlV l m:=by unfold eqfV;exact if_pos ⟨h0,h1,h2,h3⟩
     rw [e];exact Told.ite_t h3 (Told.bind h (Told.ret _))
    ·have e:eqfV a0 a1 a2 s l b0 b1 b2 t m=false:=by unfold eqfV;exact if_neg fun h=>h3 h.2.2.2
     rw [e];exact Told.ite_f h3 (Told.ret _)
   ·have e:eqfV a0 a1 a2 s l b0 b1 b2 t m=false:=by unfold eqfV;exact if_neg fun h=>h2 h.2.2.1
    rw [e];exact Told.ite_f h2 (Told.ret _)
  ·have e:eqfV a0 a1 a2 s l b0 b1 b2 t m=false:=by unfold eqfV;exact if_neg fun h=>h1 h.2.1
   rw [e];exact Told.ite_f h1 (Told.ret _)
 ·have e:eqfV a0 a1 a2 s l b0 b1 b2 t m=false:=by unfold eqfV;exact if_neg fun h=>h0 h.1
  rw [e];exact Told.ite_f h0 (Told.ret _)
def eqfB (x y:S34):Bool:=eqfV x.f0 x.f1 x.f2 x.f3 x.f4 y.f0 y.f1 y.f2 y.f3 y.f4
def eqsV (a b:List S34):Bool:=decide (a.length=b.length∧∀ i,i<a.length→eqfB (a.getD i z34) (b.getD i z34)=true)
theorem tImplEqs (a b:List S34) (ha:SrOk a) (hb:SrOk b):Told (fun k=>impl_EqualSources.f k a b) (eqsV a b):=by
 have hal:=ha.1
 have hbl:=hb.1
 suffices hf:Told (fun k=>impl_Feature_55.f k a b) (eqsV a b) from Told.bind hf (Told.ret _)
 by_cases h:a.length=b.length
 ·refine Told.ite_t (by omega) ?_
  refine Told.scan (n:=a.length) false (fun i=>eqfB (a.getD i z34) (b.getD i z34)=true) (fun k i=>impl_Feature_55.l0 k b a (a.length:Int) i) (fun i hi h1 h2=>?_) (fun hh=>?_) (fun hh=>decide_eq_false fun hs=>hh hs.2)
  ·refine Told.step (fun k=>by simp only[impl_Feature_55.l0];rw [if_pos (by omega),if_pos (by omega),if_pos (by omega),if_pos (by omega),rdF,rdF,Gen.w64s (by omega)]) ?_
   refine Told.bind (tEqfGo (tImplEql _ _ (ha.2 i hi).2 (hb.2 i (by omega)).2)) ?_
   by_cases c:eqfB (a.getD i z34) (b.getD i z34)=true
   ·exact Told.ite_t c (h1 c)
   ·rw [h2 c];exact Told.ite_f c (Told.ret _)
  ·have e:eqsV a b=true:=decide_eq_true ⟨h,hh⟩
   rw [e]
   exact Told.stepr fun k=>by simp only[impl_Feature_55.l0];rw [if_neg (by omega)]
 ·have e:eqsV a b=false:=decide_eq_false fun hs=>h hs.1
  rw [e];exact Told.ite_f (by omega) (Told.ret _)
theorem eqlV_refl (a:List S75):eqlV a a=true:=decide_eq_true ⟨rfl,fun i _=>by unfold pDiff;simp⟩
theorem pDiff_comm (a b:List S75) (i:Nat):pDiff a b i=pDiff b a i:=by
 unfold pDiff
 rw [Bool.beq_comm (a:=((a.getD i z75).f0)),Bool.beq_comm (a:=((a.getD i z75).f1))]
theorem eqlV_comm (a b:List S75):eqlV a b=eqlV b a:=by
 unfold eqlV
 rw [decide_eq_decide]
 constructor
 ·rintro ⟨h1,h2⟩
  exact⟨h1.symm,fun i hi=>by rw [pDiff_comm];exact h2 i (by omega)⟩
 ·rintro ⟨h1,h2⟩
  exact⟨h1.symm,fun i hi=>by rw [pDiff_comm];exact h2 i (by omega)⟩
theorem eqfB_refl (x:S34):eqfB x x=true:=by
 unfold eqfB eqfV
 rw [if_pos ⟨rfl,rfl,rfl,rfl⟩];exact eqlV_refl _
theorem eqfB_comm (x y:S34):eqfB x y=eqfB y x:=by
 unfold eqfB eqfV
 by_cases h:x.f0=y.f0∧x.f1=y.f1∧x.f2=y.f2∧x.f3.toList=y.f3.toList
 ·rw [if_pos h,if_pos ⟨h.1.symm,h.2.1.symm,h.2.2.1.symm,h.2.2.2.symm⟩,eqlV_comm]
 ·rw [if_neg h,if_neg (fun q=>h ⟨q.1.symm,q.2.1.symm,q.2.2.1.symm,q.2.2.2.symm⟩)]
theorem eqsV_refl (a:List S34):eqsV a a=true:=decide_eq_true ⟨rfl,fun i _=>eqfB_refl _⟩
theorem eqsV_comm (a b:List S34):eqsV a b=eqsV b a:=by
 unfold eqsV
 rw [decide_eq_decide]
 constructor
 ·rintro ⟨h1,h2⟩
  exact⟨h1.symm,fun i hi=>by rw [eqfB_comm];exact h2 i (by omega)⟩
 ·rintro ⟨h1,h2⟩
  exact⟨h1.symm,fun i hi=>by rw [eqfB_comm];exact h2 i (by omega)⟩
def ffV (l:List S34) (id:Int):Nat→Int
 | 0=>-1
 | d+1=>if (l.getD (l.length-(d+1)) z34).f0=id then ((l.length-(d+1):Nat):Int) else ffV l id d
theorem tImplFF (l:List S34) (id:Int) (hl:l.length≤1048576):∀ d (i:Nat),i+d=l.length→Told (fun k=>impl_FindFeature.l0 k l id i) (ffV l id d):=by
 intro d
 induction d with
 | zero=>intro i hi;exact Told.stepr fun k=>by simp only[impl_FindFeature.l0];rw [if_neg (by omega)];rfl
 | succ d ih =>
  intro i hi
  have e:l.length-(d+1)=i:=by omega
  rw [ffV,e]
  refine Told.step (fun k=>by simp only[impl_FindFeature.l0];rw [if_pos (by omega),if_pos (by omega),rdF,Gen.w64s (by omega)]) ?_
  by_cases c:(l.getD i z34).f0=id
  ·have e2:(if (l.getD i z34).f0=id then (i:Int) else ffV l id d)=i:=if_pos c
   rw [e2];exact Told.ite_t c (Told.ret _)
  ·have e2:(if (l.getD i z34).f0=id then (i:Int) else ffV l id d)=ffV l id d:=if_neg c
   rw [e2];exact Told.ite_f c (ih (i+1) (by omega))
theorem srok_mem {l:List S34} (h:SrOk l) {f:S34} (hf:f∈l):FtOk f:=by
 obtain⟨i,hi,e⟩:=List.mem_iff_getElem.1 hf
 have:=h.2 i hi
 rwa [List.getD_eq_getElem?_getD,List.getElem?_eq_getElem hi,Option.getD_some,e] at this
theorem srok_of {l:List S34} (h:l.length≤1048576) (h2:∀ f∈l,FtOk f):SrOk l:=⟨h,fun i hi=>by
 rw [List.getD_eq_getElem?_getD,List.getElem?_eq_getElem hi];exact h2 _ (List.getElem_mem hi)⟩
theorem f9_some (f:S34) (h:FtOk f):spec_l9Feature.f f.f0 f.f1 f.f2 f.f3 f.f4=some (f.f0,f.f1,f.f2,f.f3,f.f4):=by
 have:=h.2
 unfold spec_l9Feature.f
 simp only[Option.bind_some,List.nil_append,List.length_nil]
 rw [if_pos (by omega)]
theorem fold_pushF {α β:Type} (g:α→β) (x:List α):∀ s:List β,x.foldl (fun s i=>s++[g i]) s=s++x.map g:=by
 induction x with
 | nil=>intro s;simp
 | cons a x ih=>intro s;rw [List.foldl_cons,ih];simp
theorem range_allF (l:List S34):(List.range' 0 l.length).map (fun i=>l.getD i z34)=l:=by
 apply List.ext_getElem (by simp)
 intro i h1 h2
 simp [List.getD_eq_getElem?_getD,h2]
theorem tSpecCopy (l:List S34) (h:SrOk l):Told (fun k=>spec_l9Copy.f k l) l:=by
 have hl:=h.1
 refine Told.up (n:=l.length) (fun s i=>s++[l.getD i z34]) (fun k s i=>spec_l9Copy.l0 k l s i) (fun s i=>s.length=i) (fun s i hi hv=>⟨by simp;omega,fun hh=>?_⟩) l.length [] 0 (by omega) rfl ?_
 ·refine Told.step (fun k=>?_) hh
  simp only[spec_l9Copy.l0]
  rw [if_pos (by omega),if_pos (by omega),rdF,f9_some _ (h.2 i hi),Gen.w64s (by omega)]
  simp only[Option.bind_some]
  rw [if_pos (by omega)]
 ·refine Told.stepr fun k=>?_
  simp only[spec_l9Copy.l0]
  rw [if_neg (by omega),fold_pushF (fun i=>l.getD i z34),List.nil_append,range_allF]
def insK (l:List S34) (id:Int):Nat:=(l.takeWhile fun g=>decide (g.f0<id)).length
def tailV (rest:List S34) (id:Int):List S34:=if 0<rest.length∧(rest.getD 0 z34).f0=id then rest.drop 1 else rest
def putL (l:List S34) (f:S34):List S34:=l.take (insK l f.f0)++[f]++tailV (l.drop (insK l f.f0)) f.f0
def putV (l:List S34) (f:S34):List S34 × Bool:=if Sr (putL l f) then (putL l f,true) else (l,false)
theorem insK_le (l:List S34) (id:Int):insK l id≤l.length:=(List.takeWhile_sublist _).length_le
theorem insK_at (id:Int):∀ (l:List S34) (i:Nat),i≤l.length→(∀ j,j<i→(l.getD j z34).f0<id)→(i=l.length∨¬ (l.getD i z34).f0<id)→insK l id=i:=by
 intro l
 induction l with
 | nil=>intro i h1 h2 h3;simp at h1;subst h1;rfl
 | cons g l ih =>
  intro i h1 h2 h3
  cases i with
  | zero =>
   rcases h3 with h3|h3
   ·simp at h3
   ·simp only[List.getD_cons_zero] at h3
    unfold insK
    rw [List.takeWhile_cons_of_neg (by simpa using h3)];rfl
  | succ i =>
   have h0:=h2 0 (by omega)
   simp only[List.getD_cons_zero] at h0
   have h3':i=l.length∨¬ (l.getD i z34).f0<id:=by
    rcases h3 with h3|h3
    ·exact .inl (by simp at h3;omega)
    ·exact .inr (by simpa using h3)
   have:=ih i (by simp at h1;omega) (fun j hj=>by have:=h2 (j+1) (by omega);simpa using this) h3'
   unfold insK at this ⊢
   rw [List.takeWhile_cons_of_pos (by simpa using h0),List.length_cons,this]
theorem tailV_len (r:List S34) (id:Int):(tailV r id).length≤r.length:=by unfold tailV;split <;> simp
theorem tailV_mem {r:List S34} {id:Int} {f:S34} (h:f∈tailV r id):f∈r:=by
 unfold tailV at h;split at h
 ·exact List.mem_of_mem_drop h
 ·exact h
theorem putL_len (l:List S34) (f:S34):(putL l f).length≤l.length+1:=by
 unfold putL
 have h1:=insK_le l f.f0
 have h2:=tailV_len (l.drop (insK l f.f0)) f.f0
 simp at h2 ⊢;omega
theorem putL_mem {l:List S34} {f g:S34} (h:g∈putL l f):g=f∨g∈l:=by
 unfold putL at h
 simp only[List.append_assoc,List.mem_append,List.mem_singleton] at h
 rcases h with h|h|h
 ·exact .inr (List.mem_of_mem_take h)
 ·exact .inl h
 ·exact .inr (List.mem_of_mem_drop (tailV_mem h))
theorem putL_ok {l:List S34} {f:S34} (h:SrOk l) (hl:l.length<1048576) (hf:FtOk f):SrOk (putL l f) :=
 srok_of (by have:=putL_len l f;omega) fun g hg=>by
  rcases putL_mem hg with rfl|hg
  ·exact hf
  ·exact srok_mem h hg
theorem tSpecPut (l:List S34) (f:S34) (h:SrOk l) (hl:l.length<1048576) (hf:FtOk f):Told (fun k=>spec_PutFeature.f k l f.f0 f.f1 f.f2 f.f3 f.f4) (putV l f):=by
 have fin:∀ i:Nat,i≤l.length→insK l f.f0=i→Told (fun k=>spec_PutFeature.j1 k l (i:Int) f.f0 f.f1 f.f2 f.f3 f.f4) (putV l f):=by
  intro i hi e
  have h3:Told (fun k=>spec_PutFeature.j3 k l (i:Int) (tailV (l.drop i) f.f0) f.f0 f.f1 f.f2 f.f3 f.f4) (putV l f):=by
   have t1:=tSpecCopy (l.take i) (srok_of (by simp;omega) fun g hg=>srok_mem h (List.mem_of_mem_take hg))
   have t2:=tSpecCopy (tailV (l.drop i) f.f0) (srok_of (by have:=tailV_len (l.drop i) f.f0;simp at this;omega) fun g hg=>srok_mem h (List.mem_of_mem_drop (tailV_mem hg)))
   have ok:=putL_ok h hl hf
   have ep:putL l f=l.take i++[f]++tailV (l.drop i) f.f0:=by unfold putL;rw [e]
   have hlen:=putL_len l f
   rw [ep] at ok hlen
   refine Told.step (M:=fun k=>(spec_l9Copy.f k (l.take i)).bind fun t400=>((spec_l9Feature.f f.f0 f.f1 f.f2 f.f3 f.f4).bind fun bt403=>(if t400.length<2199023255552 then ((some (t400++[(⟨bt403.1,bt403.2.1,bt403.2.2.1,bt403.2.2.2.1,bt403.2.2.2.2⟩:S34)]:List (S34))).bind fun y410=>((spec_l9Copy.f k (tailV (l.drop i) f.f0)).bind fun t413=>(if y410.length+t413.length<2199023255552 then ((some (y410++t413:List (S34))).bind fun y416=>((spec_IsSource.f k y416).bind fun t419=>(if t419=true then (some (y416,true)) else ((spec_l9Copy.f k l).bind fun t420=>(some (t420,false)))))) else (none)))) else (none)))) (fun k=>?_) ?_
   ·simp only[spec_PutFeature.j3]
    rw [if_pos (by omega),if_pos (by omega),Int.toNat_natCast]
   refine Told.bind t1 (Told.bind (Told.of (f9_some f hf)) (Told.ite_t (by simp;omega) (Told.bind (Told.ret _) (Told.bind t2 (Told.ite_t (by simp at hlen ⊢;omega) (Told.bind (Told.ret _) (Told.bind (tSpecSource _ ok) ?_)))))))
   unfold putV
   by_cases c:Sr (l.take i++[f]++tailV (l.drop i) f.f0)
   ·rw [ep,if_pos c];exact Told.ite_t (by simpa using c) (Told.ret _)
   ·rw [ep,if_neg c];exact Told.ite_f (by simpa using c) (Told.bind (tSpecCopy l h) (Told.ret _))
  have go:∀ b:Bool,(b=true↔0<(l.drop i).length∧((l.drop i).getD 0 z34).f0=f.f0)→Told (fun k=>spec_PutFeature.j2 k l (i:Int) (l.drop i) b f.f0 f.f1 f.f2 f.f3 f.f4) (putV l f):=by
   intro b hb
   by_cases c:b=true
   ·have c':=hb.1 c
    have et:tailV (l.drop i) f.f0=(l.drop i).drop 1:=by unfold tailV;rw [if_pos c']
    rw [et] at h3
    exact Told.step (fun k=>by simp only[spec_PutFeature.j2];rw [if_pos c,if_pos (by omega)]) h3
   ·have et:tailV (l.drop i) f.f0=l.drop i:=by unfold tailV;rw [if_neg (fun q=>c (hb.2 q))]
    rw [et] at h3
    exact Told.step (fun k=>by simp only[spec_PutFeature.j2];rw [if_neg c]) h3
  by_cases c:0<(l.drop i).length
  ·refine Told.step (fun k=>?_) (go (((l.drop i).getD 0 z34).f0==f.f0) (by rw [beq_iff_eq];exact⟨fun q=>⟨c,q⟩,fun q=>q.2⟩))
   simp only[spec_PutFeature.j1,Int.toNat_natCast,Option.bind_some]
   rw [if_pos (by omega),if_pos (by omega),if_pos (by omega),if_pos (by omega)]
   rfl
  ·refine Told.step (fun k=>?_) (go false (by
    constructor
    ·intro q;cases q
    ·intro q;exact absurd q.1 c))
   simp only[spec_PutFeature.j1,Int.toNat_natCast,Option.bind_some]
   rw [if_pos (by omega),if_pos (by omega),if_neg (by omega)]
 have key:∀ d (i:Nat),i+d=l.length→(∀ j,j<i→(l.getD j z34).f0<f.f0)→Told (fun k=>spec_PutFeature.l0 k l (i:Int) f.f0 f.f1 f.f2 f.f3 f.f4) (putV l f):=by
  intro d
  induction d with
  | zero =>
   intro i hi hj
   exact Told.step (fun k=>by simp only[spec_PutFeature.l0];rw [if_neg (by omega)]) (fin i (by omega) (insK_at _ _ _ (by omega) hj (.inl (by omega))))
  | succ d ih =>
   intro i hi hj
   by_cases c:(l.getD i z34).f0<f.f0
   ·refine Told.step (fun k=>?_) (ih (i+1) (by omega) fun j hj'=>?_)
    ·simp only[spec_PutFeature.l0]
     rw [if_pos (by omega),if_pos (by omega),rdF,if_pos c,Gen.w64s (by omega)]
    ·by_cases e:j=i
     ·subst e;exact c
     ·exact hj j (by omega)
   ·refine Told.step (fun k=>?_) (fin i (by omega) (insK_at _ _ _ (by omega) hj (.inr c)))
    simp only[spec_PutFeature.l0]
    rw [if_pos (by omega),if_pos (by omega),rdF,if_neg c]
 exact key l.length 0 (by omega) fun j hj=>by omega
theorem dStr {xs:List Int} {p:Int} (c:CK xs p) (s:Int) (l:List ByteArray) (hl:0<l.length):∃ b p' s',spec_l1Str.f xs p s l=some (b,p',s')∧b∈l∧CK xs p':=by
 unfold spec_l1Str.f
 obtain⟨b,p1,s1,e,b0,b1,_,c1⟩:=dBelow c s (l.length:Int)
 have b1:=b1 (by omega)
 rw [e]
 simp only[Option.bind_some]
 rw [if_pos b0,if_pos b1]
 refine⟨_,_,_,rfl,?_,c1⟩
 unfold rdOf
 rw [List.getD_eq_getElem?_getD,List.getElem?_eq_getElem (by omega)]
 exact List.getElem_mem _
theorem d9Name {xs:List Int} {p:Int} (c:CK xs p) (s:Int):∃ b p' s',spec_l9Name.f xs p s=some (b,p',s')∧b.size≤100∧CK xs p':=by
 unfold spec_l9Name.f
 obtain⟨b,p1,s1,e,hb,c1⟩:=dStr c s [(⟨#[]⟩:ByteArray),(⟨#[102,111,114,100]⟩:ByteArray),(⟨#[104,105,108,108]⟩:ByteArray),(⟨#[109,105,108,108]⟩:ByteArray),(⟨#[111,97,107]⟩:ByteArray),(⟨#[108,97,107,101]⟩:ByteArray),(⟨#[105,110,110]⟩:ByteArray)] (by simp)
 rw [e]
 refine⟨_,_,_,rfl,?_,c1⟩
 simp only[List.mem_cons,List.not_mem_nil,or_false] at hb
 rcases hb with rfl|rfl|rfl|rfl|rfl|rfl|rfl <;> (dsimp only;decide)
theorem d7Draw {xs:List Int} {p:Int} (c:CK xs p) (s:Int):∃ l p' s',spec_l7Draw.f xs p s=some (l,p',s')∧3≤l.length∧l.length≤6∧CK xs p':=by
 unfold spec_l7Draw.f
 obtain⟨x,p1,s1,e1,_,_,_,c1⟩:=dBelow c s 8
 obtain⟨y,p2,s2,e2,_,_,_,c2⟩:=dBelow c1 s1 8
 obtain⟨w,p3,s3,e3,_,_,_,c3⟩:=dBelow c2 s2 6
 obtain⟨h,p4,s4,e4,_,_,_,c4⟩:=dBelow c3 s3 6
 obtain⟨b,p5,s5,e5,_,_,_,c5⟩:=dBelow c4 s4 4
 simp only[e1,e2,e3,e4,e5,Option.bind_some,spec_l7P.f]
 by_cases h0:b=0
 ·rw [if_pos h0];exact⟨_,_,_,rfl,by simp,by simp,c5⟩
 ·rw [if_neg h0]
  by_cases h1:b=1
  ·rw [if_pos h1];exact⟨_,_,_,rfl,by simp,by simp,c5⟩
  ·rw [if_neg h1]
   by_cases h2:b=2
   ·rw [if_pos h2];exact⟨_,_,_,rfl,by simp,by simp,c5⟩
   ·rw [if_neg h2];exact⟨_,_,_,rfl,by simp,by simp,c5⟩
def FtSm (f:S34):Prop:=f.f3.size≤100∧f.f4.length≤100
theorem FtSm.ok {f:S34} (h:FtSm f):FtOk f:=by unfold FtSm at h;exact⟨by omega,by omega⟩
def SrSm (l:List S34):Prop:=l.length≤100∧∀ f∈l,FtSm f
theorem SrSm.ok {l:List S34} (h:SrSm l):SrOk l:=srok_of (by have:=h.1;omega) fun f hf=>(h.2 f hf).ok
theorem d9Draw {xs:List Int} {p:Int} (c:CK xs p) (s id:Int):∃ (f:S34) (p' s':Int),Told (fun k=>spec_l9Draw.f k xs p s id) (f.f0,f.f1,f.f2,f.f3,f.f4,p',s')∧FtSm f∧CK xs p':=by
 obtain⟨a,p1,s1,e1,_,_,_,c1⟩:=dBelow c s 3
 obtain⟨b,p2,s2,e2,_,_,_,c2⟩:=dBelow c1 s1 6
 obtain⟨n,p3,s3,e3,hn,c3⟩:=d9Name c2 s2
 by_cases h1:wrap64 (1+a)=1
 ·obtain⟨x,y,p4,s4,e4,_,_,_,_,c4⟩:=d4Draw c3 s3
  exact⟨⟨id,wrap64 (1+a),b,n,[⟨x,y⟩]⟩,p4,s4,Told.bind (Told.of e1) (Told.bind (Told.of e2) (Told.bind (Told.of e3) (Told.ite_t h1 (Told.bind (Told.of e4) (Told.ret _))))),⟨hn,by simp⟩,c4⟩
 by_cases h2:wrap64 (1+a)=2
 ·obtain⟨l,p4,s4,t4,g1,g2,c4⟩:=d6Draw c3 s3
  exact⟨⟨id,wrap64 (1+a),b,n,l⟩,p4,s4,Told.bind (Told.of e1) (Told.bind (Told.of e2) (Told.bind (Told.of e3) (Told.ite_f h1 (Told.ite_t h2 (Told.bind t4 (Told.ret _)))))),⟨hn,by dsimp only;omega⟩,c4⟩
 ·obtain⟨l,p4,s4,e4,g1,g2,c4⟩:=d7Draw c3 s3
  exact⟨⟨id,wrap64 (1+a),b,n,l⟩,p4,s4,Told.bind (Told.of e1) (Told.bind (Told.of e2) (Told.bind (Told.of e3) (Told.ite_f h1 (Told.ite_f h2 (Told.bind (Told.of e4) (Told.ret _)))))),⟨hn,by dsimp only;omega⟩,c4⟩
theorem putV_sm {l:List S34} {f:S34} (h:∀ f∈l,FtSm f) (hf:FtSm f):(putV l f).1.length≤l.length+1∧∀ g∈(putV l f).1,FtSm g:=by
 unfold putV
 split
 ·refine⟨putL_len l f,fun g hg=>?_⟩
  rcases putL_mem hg with rfl|hg
  ·exact hf
  ·exact h g hg
 ·exact⟨by dsimp only;omega,h⟩
theorem d9SourceL {xs:List Int}:∀ (d i:Nat) (l:List S34) (p s:Int),i+d=7→1≤i→l.length+1≤i→(∀ f∈l,FtSm f)→CK xs p→∃ l' p' s',Told (fun k=>spec_l9Source.l0 k l (i:Int) xs p s) (l',p',s')∧SrSm l'∧CK xs p':=by
 intro d
 induction d with
 | zero =>
  intro i l p s hi h1 hl hf c
  obtain⟨b,p1,s1,e1,b0,b1,_,c1⟩:=dBelow c s 6
  have b1:=b1 (by omega)
  refine⟨l,p1,s1,Told.stepr fun k=>?_,⟨by omega,hf⟩,c1⟩
  simp only[spec_l9Source.l0,e1,Option.bind_some]
  rw [if_neg (by rw [Gen.w64 (by omega) (by omega)];omega)]
 | succ d ih =>
  intro i l p s hi h1 hl hf c
  obtain⟨b,p1,s1,e1,b0,b1,_,c1⟩:=dBelow c s 6
  by_cases hb:(i:Int)≤wrap64 (1+b)
  ·obtain⟨f,p2,s2,t2,g2,c2⟩:=d9Draw c1 s1 (i:Int)
   obtain⟨g3,g4⟩:=putV_sm hf g2
   obtain⟨l',p',s',t',g5,c5⟩:=ih (i+1) (putV l f).1 p2 s2 (by omega) (by omega) (by omega) g4 c2
   have tp:=tSpecPut l f (SrSm.ok ⟨by omega,hf⟩) (by omega) g2.ok
   refine⟨l',p',s',Told.step (M:=fun k=>(spec_l9Draw.f k xs p1 s1 (i:Int)).bind fun bt562=>((spec_PutFeature.f k l bt562.1 bt562.2.1 bt562.2.2.1 bt562.2.2.2.1 bt562.2.2.2.2.1).bind fun bt571=>(spec_l9Source.l0 k bt571.1 ((i+1:Nat):Int) xs bt562.2.2.2.2.2.1 bt562.2.2.2.2.2.2))) (fun k=>?_) (Told.bind t2 (Told.bind tp t')),g5,c5⟩
   simp only[spec_l9Source.l0,e1,Option.bind_some]
   rw [if_pos hb,Gen.w64s (by omega)]
  ·refine⟨l,p1,s1,Told.stepr fun k=>?_,⟨by omega,hf⟩,c1⟩
   simp only[spec_l9Source.l0,e1,Option.bind_some]
   rw [if_neg hb]
theorem d9Source {xs:List Int} {p:Int} (c:CK xs p) (s:Int):∃ l p' s',Told (fun k=>spec_l9Source.f k xs p s) (l,p',s')∧SrSm l∧CK xs p':=d9SourceL 6 1 [] p s (by omega) (by omega) (by simp) (fun f hf=>by simp at hf) c
theorem set_sm {l:List S34} (h:SrSm l) (i:Nat) {x:S34} (hx:FtSm x):SrSm (l.set i x):=⟨by rw [List.length_set];exact h.1,fun f hf=>by
 rcases List.mem_or_eq_of_mem_set hf with hf|rfl
 ·exact h.2 f hf
 ·exact hx⟩
theorem getD_sm {l:List S34} (h:SrSm l) {i:Nat} (hi:i<l.length):FtSm (l.getD i z34):=by
 rw [List.getD_eq_getElem?_getD,List.getElem?_eq_getElem hi];exact h.2 _ (List.getElem_mem hi)
theorem d9Any {xs:List Int} {p:Int} (c:CK xs p) (s:Int):∃ l p' s',Told (fun k=>spec_l9Any.f k xs p s) (l,p',s')∧SrSm l∧CK xs p':=by
 obtain⟨l,p1,s1,t1,h1,c1⟩:=d9Source c s
 by_cases h0:(l.length:Int)=0
 ·exact⟨l,p1,s1,Told.bind t1 (Told.ite_t h0 (Told.ret _)),h1,c1⟩
 obtain⟨i,p2,s2,e2,i0,i1,_,c2⟩:=dBelow c1 s1 (l.length:Int)
 have i1:=i1 (by omega)
 obtain⟨n,rfl⟩:=Int.eq_ofNat_of_zero_le i0
 have sm:=getD_sm h1 (i:=n) (by omega)
 obtain⟨b,p3,s3,e3,_,_,_,c3⟩:=dBelow c2 s2 10
 have go:∀ {R:Nat→Option (List S34 × Int × Int)} {r},Told R r→Told (fun k=>if (0:Int)≤(n:Int) then (if (n:Int)<(l.length:Int) then R k else none) else none) r:=fun t=>Told.ite_t (by omega) (Told.ite_t (by omega) t)
 by_cases b0:b=0
 ·obtain⟨x,p4,s4,e4,_,c4⟩:=dInt c3 s3 [0,1,99,100] (by simp)
  exact⟨_,_,_,Told.bind t1 (Told.ite_f h0 (Told.bind (Told.of e2) (Told.bind (Told.of e3) (Told.ite_t b0 (Told.bind (Told.of e4) (go (Told.ret _))))))),set_sm h1 _ sm,c4⟩
 by_cases b1:b=1
 ·obtain⟨x,p4,s4,e4,_,c4⟩:=dInt c3 s3 [(-1),9,10] (by simp)
  exact⟨_,_,_,Told.bind t1 (Told.ite_f h0 (Told.bind (Told.of e2) (Told.bind (Told.of e3) (Told.ite_f b0 (Told.ite_t b1 (Told.bind (Told.of e4) (go (Told.ret _)))))))),set_sm h1 _ sm,c4⟩
 by_cases b2:b=2
 ·obtain⟨x,p4,s4,e4,hx,c4⟩:=dStr c3 s3 [(⟨#[65]⟩:ByteArray),(⟨#[116,111,111,108,111,110,103,97,97]⟩:ByteArray),(⟨#[97,32,98]⟩:ByteArray)] (by simp)
  have hx':x.size≤100:=by
   simp only[List.mem_cons,List.not_mem_nil,or_false] at hx
   rcases hx with rfl|rfl|rfl <;> decide
  exact⟨_,_,_,Told.bind t1 (Told.ite_f h0 (Told.bind (Told.of e2) (Told.bind (Told.of e3) (Told.ite_f b0 (Told.ite_f b1 (Told.ite_t b2 (Told.bind (Told.of e4) (go (Told.ret _))))))))),set_sm h1 _ ⟨hx',sm.2⟩,c4⟩
 by_cases b3:b=3
 ·obtain⟨x,p4,s4,e4,_,c4⟩:=dInt c3 s3 [0,1,2,3,4] (by simp)
  exact⟨_,_,_,Told.bind t1 (Told.ite_f h0 (Told.bind (Told.of e2) (Told.bind (Told.of e3) (Told.ite_f b0 (Told.ite_f b1 (Told.ite_f b2 (Told.ite_t b3 (Told.bind (Told.of e4) (go (Told.ret _)))))))))),set_sm h1 _ sm,c4⟩
 by_cases b4:b=4
 ·obtain⟨x,p4,s4,t4,g1,g2,c4⟩:=d6Any c3 s3
  exact⟨_,_,_,Told.bind t1 (Told.ite_f h0 (Told.bind (Told.of e2) (Told.bind (Told.of e3) (Told.ite_f b0 (Told.ite_f b1 (Told.ite_f b2 (Told.ite_f b3 (Told.ite_t b4 (Told.bind t4 (go (Told.ret _))))))))))),set_sm h1 _ ⟨sm.1,by dsimp only;omega⟩,c4⟩
 ·exact⟨_,_,_,Told.bind t1 (Told.ite_f h0 (Told.bind (Told.of e2) (Told.bind (Told.of e3) (Told.ite_f b0 (Told.ite_f b1 (Told.ite_f b2 (Told.ite_f b3 (Told.ite_f b4 (Told.ret _))))))))),h1,c3⟩
theorem d9One {xs:List Int} {p:Int} (c:CK xs p) (s:Int):∃ (f:S34) (p' s':Int),Told (fun k=>spec_l9One.f k xs p s) (f.f0,f.f1,f.f2,f.f3,f.f4,p',s')∧FtSm f∧CK xs p':=by
 obtain⟨l,p1,s1,t1,h1,c1⟩:=d9Any c s
 by_cases h0:(l.length:Int)=0
 ·exact⟨⟨0,0,0,⟨#[]⟩,[]⟩,p1,s1,Told.bind t1 (Told.ite_t h0 (Told.ret _)),⟨by decide,by simp⟩,c1⟩
 ·exact⟨l.getD 0 z34,p1,s1,Told.bind t1 (Told.ite_f h0 (Told.ite_t (by dsimp only;omega) (Told.ret _))),getD_sm h1 (by omega),c1⟩
theorem implClone (l:List S75) (hl:l.length≤1048576):impl_Point_62.f l=some l:=by
 unfold impl_Point_62.f
 simp only[Option.bind_some,List.nil_append]
 rw [if_pos (by simp;omega)]
theorem cloneF_some (f:S34) (h:FtOk f):impl_cloneFeature.f f.f0 f.f1 f.f2 f.f3 f.f4=some (f.f0,f.f1,f.f2,f.f3,f.f4):=by
 unfold impl_cloneFeature.f
 rw [implClone _ h.2];rfl
theorem tImplCopy (l:List S34) (h:SrOk l):Told (fun k=>impl_cloneSource.f k l) l:=by
 have hl:=h.1
 refine Told.up (n:=l.length) (fun s i=>s++[l.getD i z34]) (fun k s i=>impl_cloneSource.l0 k s l (l.length:Int) i) (fun s i=>s.length=i) (fun s i hi hv=>⟨by simp;omega,fun hh=>?_⟩) l.length [] 0 (by omega) rfl ?_
 ·refine Told.step (fun k=>?_) hh
  simp only[impl_cloneSource.l0]
  rw [if_pos (by omega),if_pos (by omega),if_pos (by omega),rdF,cloneF_some _ (h.2 i hi),Gen.w64s (by omega)]
  simp only[Option.bind_some]
  rw [if_pos (by omega)]
 ·refine Told.stepr fun k=>?_
  simp only[impl_cloneSource.l0]
  rw [if_neg (by omega),fold_pushF (fun i=>l.getD i z34),List.nil_append,range_allF]
theorem getF (l:List S34) (i j:Nat) (p:S34) (hi:i<l.length):(l.set i p).getD j z34=if i=j then p else l.getD j z34:=by
 simp only[List.getD_eq_getElem?_getD,List.getElem?_set]
 by_cases h:i=j
 ·subst h;simp [hi]
 ·simp [h]
theorem sr_mono {m:List S34} (h:Sr m):∀ d i,i+d+1<m.length→(m.getD i z34).f0<(m.getD (i+d+1) z34).f0
 | 0,i,hi=>by
  have:=h.2 (i+1) (by omega)
  unfold srChk at this
  simp at this
  exact this.2
 | d+1,i,hi=>by
  have h1:=sr_mono h d i (by omega)
  have:=h.2 (i+d+1+1) (by omega)
  unfold srChk at this
  simp at this
  have h2:=this.2
  have e:i+(d+1)+1=i+d+1+1:=by omega
  rw [e]
  simp only[List.getD_eq_getElem?_getD] at h1 h2 ⊢
  omega
theorem ff_spec (l:List S34) (id:Int):∀ d,d≤l.length→(ffV l id d=-1∧∀ j,l.length-d≤j→j<l.length→(l.getD j z34).f0≠id) ∨ ∃ i:Nat,ffV l id d=i∧i<l.length∧(l.getD i z34).f0=id∧∀ j,l.length-d≤j→j<i→(l.getD j z34).f0≠id
 | 0,_ => .inl ⟨rfl,fun j h1 h2=>by omega⟩
 | d+1,h=>by
  unfold ffV
  split
  ·rename_i c
   exact .inr ⟨_,rfl,by omega,c,fun j h1 h2=>by omega⟩
  ·rename_i c
   rcases ff_spec l id d (by omega) with ⟨e,h1⟩|⟨i,e,hi,h1,h2⟩
   ·refine .inl ⟨e,fun j h3 h4=>?_⟩
    by_cases q:j=l.length-(d+1)
    ·subst q;exact c
    ·exact h1 j (by omega) h4
   ·refine .inr ⟨i,e,hi,h1,fun j h3 h4=>?_⟩
    by_cases q:j=l.length-(d+1)
    ·subst q;exact c
    ·exact h2 j (by omega) h4
theorem insK_spec (id:Int):∀ l:List S34,(∀ j,j<insK l id→(l.getD j z34).f0<id)∧(insK l id=l.length∨¬ (l.getD (insK l id) z34).f0<id)
 | []=>⟨fun j hj=>by simp [insK] at hj,.inl rfl⟩
 | g::l=>by
  obtain⟨h1,h2⟩:=insK_spec id l
  by_cases c:g.f0<id
  ·have e:insK (g::l) id=insK l id+1:=by unfold insK;rw [List.takeWhile_cons_of_pos (by simpa using c),List.length_cons]
   rw [e]
   refine⟨fun j hj=>?_,?_⟩
   ·cases j with
    | zero=>simpa using c
    | succ j=>simpa using h1 j (by omega)
   ·rcases h2 with h2|h2
    ·exact .inl (by simp [h2])
    ·exact .inr (by simpa using h2)
  ·have e:insK (g::l) id=0:=by unfold insK;rw [List.takeWhile_cons_of_neg (by simpa using c)];rfl
   rw [e]
   exact⟨fun j hj=>by omega,.inr (by simpa using c)⟩
theorem drop0 (l:List S34) (i:Nat):(l.drop i).getD 0 z34=l.getD i z34:=by simp [List.getD_eq_getElem?_getD]
def putI (l:List S34) (f:S34):List S34:=if ffV l f.f0 l.length<0 then l.take (insK l f.f0)++[f]++l.drop (insK l f.f0) else l.set (ffV l f.f0 l.length).toNat f
theorem put_same (l:List S34) (f:S34):(if Sr (putI l f) then (putI l f,true) else (l,false))=putV l f:=by
 obtain⟨k1,k2⟩:=insK_spec f.f0 l
 have kle:=insK_le l f.f0
 unfold putV
 rcases ff_spec l f.f0 l.length (Nat.le_refl _) with ⟨e,h1⟩|⟨i,e,hi,h1,h2⟩
 ·have ep:putI l f=putL l f:=by
   unfold putI putL tailV
   rw [if_pos (by omega)]
   split
   ·rename_i c
    rw [drop0] at c
    have:=c.1
    simp at this
    exact absurd c.2 (h1 _ (by omega) (by omega))
   ·rfl
  rw [ep]
 ·have ei:putI l f=l.set i f:=by unfold putI;rw [if_neg (by omega),e,Int.toNat_natCast]
  have hk:insK l f.f0≤i:=by
   rcases Nat.lt_or_ge i (insK l f.f0) with c|c
   ·have:=k1 i c;omega
   ·exact c
  by_cases c:insK l f.f0=i
  ·have ep:putL l f=l.set i f:=by
    unfold putL tailV
    rw [c,drop0,if_pos ⟨by simp;omega,h1⟩,List.drop_drop,List.set_eq_take_append_cons_drop,if_pos hi,List.append_assoc]
    rfl
   rw [ei,ep]
  ·have hlt:insK l f.f0<i:=by omega
   have hne:=h2 (insK l f.f0) (by omega) hlt
   have hgt:f.f0<(l.getD (insK l f.f0) z34).f0:=by
    rcases k2 with q|q
    ·omega
    ·omega
   have n1:¬ Sr (putI l f):=by
    rw [ei]
    intro hs
    have:=sr_mono hs (i-insK l f.f0-1) (insK l f.f0) (by rw [List.length_set];omega)
    rw [show insK l f.f0+(i-insK l f.f0-1)+1=i by omega,getF l i _ f hi,getF l i _ f hi,if_neg (by omega),if_pos rfl] at this
    omega
   have n2:¬ Sr (putL l f):=by
    have ep:putL l f=l.take (insK l f.f0)++[f]++l.drop (insK l f.f0):=by
     unfold putL tailV
     rw [if_neg (fun q=>hne (by rw [← drop0];exact q.2))]
    rw [ep]
    intro hs
    have g1:∀ j,insK l f.f0≤j→j<l.length→(l.take (insK l f.f0)++[f]++l.drop (insK l f.f0)).getD (j+1) z34=l.getD j z34:=fun j hj hjl=>by
     rw [List.getD_eq_getElem?_getD,List.getD_eq_getElem?_getD,List.getElem?_append_right (by simp;omega),List.getElem?_drop]
     congr 2
     simp;omega
    have:=sr_mono hs (i-insK l f.f0-1) (insK l f.f0+1) (by simp;omega)
    rw [show insK l f.f0+1+(i-insK l f.f0-1)+1=i+1 by omega,g1 _ (Nat.le_refl _) (by omega),g1 i (by omega) hi] at this
    omega
   rw [if_neg n1,if_neg n2]
theorem putI_ok {l:List S34} {f:S34} (h:SrOk l) (hl:l.length<1048576) (hf:FtOk f):SrOk (putI l f):=by
 unfold putI
 split
 ·refine srok_of (by simp;omega) fun g hg=>?_
  simp only[List.append_assoc,List.mem_append,List.mem_singleton] at hg
  rcases hg with hg|hg|hg
  ·exact srok_mem h (List.mem_of_mem_take hg)
  ·rw [hg];exact hf
  ·exact srok_mem h (List.mem_of_mem_drop hg)
 ·refine srok_of (by rw [List.length_set];omega) fun g hg=>?_
  rcases List.mem_or_eq_of_mem_set hg with hg|rfl
  ·exact srok_mem h hg
  ·exact hf
theorem tImplPut (l:List S34) (f:S34) (h:SrOk l) (hl:l.length<1048576) (hf:FtOk f):Told (fun k=>impl_PutFeature.f k l f.f0 f.f1 f.f2 f.f3 f.f4) (putV l f):=by
 have hle:=h.1
 have ok:=putI_ok h hl hf
 have tj:Told (fun k=>impl_PutFeature.j1 k l (putI l f)) (putV l f):=by
  rw [← put_same]
  refine Told.step (M:=fun k=>(impl_IsSource.f k (putI l f)).bind fun t=>if t=true then some (putI l f,true) else (impl_cloneSource.f k l).bind fun u=>some (u,false)) (fun k=>by simp only[impl_PutFeature.j1]) (Told.bind (tImplSource _ ok) ?_)
  by_cases c:Sr (putI l f)
  ·rw [if_pos c];exact Told.ite_t (by simpa using c) (Told.ret _)
  ·rw [if_neg c];exact Told.ite_f (by simpa using c) (Told.bind (tImplCopy l h) (Told.ret _))
 have tf:Told (fun k=>impl_FindFeature.f k l f.f0) (ffV l f.f0 l.length):=tImplFF l f.f0 (by omega) _ 0 (by omega)
 refine Told.bind (tImplCopy l h) (Told.bind tf ?_)
 rcases ff_spec l f.f0 l.length (Nat.le_refl _) with ⟨e,_⟩|⟨i,e,hi,_,_⟩
 ·refine Told.ite_f (by omega) ?_
  obtain⟨k1,k2⟩:=insK_spec f.f0 l
  have kle:=insK_le l f.f0
  have fin:Told (fun k=>(impl_cloneFeature.f f.f0 f.f1 f.f2 f.f3 f.f4).bind fun bt=>if l.length<2199023255552∧(0:Int)≤(insK l f.f0:Nat)∧((insK l f.f0:Nat):Int)≤(l.length:Int) then impl_PutFeature.j1 k l (impl_PutFeature.ins l (insK l f.f0:Nat) ⟨bt.1,bt.2.1,bt.2.2.1,bt.2.2.2.1,bt.2.2.2.2⟩) else none) (putV l f):=by
   refine Told.bind (Told.of (cloneF_some f hf)) (Told.ite_t ⟨by omega,by omega,by omega⟩ ?_)
   have ep:putI l f=impl_PutFeature.ins l (insK l f.f0:Nat) f:=by unfold putI impl_PutFeature.ins;rw [if_pos (by omega),Int.toNat_natCast]
   rw [ep] at tj
   exact tj
  have key:∀ d (i:Nat),i+d=insK l f.f0→Told (fun k=>impl_PutFeature.l0 k l l (i:Int) f.f0 f.f1 f.f2 f.f3 f.f4) (putV l f):=by
   intro d
   induction d with
   | zero =>
    intro i hi
    have:i=insK l f.f0:=by omega
    subst this
    rcases k2 with q|q
    ·refine Told.step (fun k=>?_) fin
     simp only[impl_PutFeature.l0]
     rw [if_neg (by omega)]
    ·by_cases c:insK l f.f0<l.length
     ·refine Told.step (fun k=>?_) fin
      simp only[impl_PutFeature.l0]
      rw [if_pos (by omega),if_pos (by omega),rdF,if_neg q]
     ·refine Told.step (fun k=>?_) fin
      simp only[impl_PutFeature.l0]
      rw [if_neg (by omega)]
   | succ d ih =>
    intro i hi
    have c:=k1 i (by omega)
    refine Told.step (fun k=>?_) (ih (i+1) (by omega))
    simp only[impl_PutFeature.l0]
    rw [if_pos (by omega),if_pos (by omega),rdF,if_pos c,Gen.w64s (by omega)]
  exact key (insK l f.f0) 0 (by omega)
 ·have ep:putI l f=l.set i f:=by unfold putI;rw [if_neg (by omega),e,Int.toNat_natCast]
  rw [ep] at tj
  rw [e]
  exact Told.ite_t (by omega) (Told.bind (Told.of (cloneF_some f hf)) (Told.ite_t (by omega) (Told.ite_t (by omega) tj)))
def takeV (l:List S34) (id:Int):List S34 × Bool:=if Sr l∧¬ ffV l id l.length<0 then (l.eraseIdx (ffV l id l.length).toNat,true) else (l,false)
theorem ff_rng (l:List S34) (id:Int):∀ d,d≤l.length→ffV l id d=-1 ∨ ∃ i:Nat,ffV l id d=i∧i<l.length
 | 0,_ => .inl rfl
 | d+1,h=>by
  unfold ffV
  split
  ·exact .inr ⟨_,rfl,by omega⟩
  ·exact ff_rng l id d (by omega)
theorem takeV_ok {l:List S34} (h:SrOk l) (id:Int):SrOk (takeV l id).1:=by
 have:=h.1
 unfold takeV
 split
 ·exact srok_of (by have:=List.length_eraseIdx_le l (ffV l id l.length).toNat;dsimp only;omega) fun f hf=>srok_mem h (List.mem_of_mem_eraseIdx hf)
 ·exact h
theorem tImplTake (l:List S34) (id:Int) (h:SrOk l):Told (fun k=>impl_TakeFeature.f k l id) (takeV l id):=by
 have hl:=h.1
 have tf:Told (fun k=>impl_FindFeature.f k l id) (ffV l id l.length):=tImplFF l id hl _ 0 (by omega)
 refine Told.bind (tImplCopy l h) (Told.bind tf (Told.bind (tImplSource l h) ?_))
 by_cases c:Sr l
 ·refine Told.ite_t (by simpa using c) ?_
  rcases ff_rng l id l.length (Nat.le_refl _) with e|⟨i,e,hi⟩
  ·have ev:takeV l id=(l,false):=by unfold takeV;exact if_neg (fun q=>q.2 (by omega))
   rw [ev];exact Told.ite_t (by omega) (Told.ret _)
  ·have ev:takeV l id=(l.eraseIdx (ffV l id l.length).toNat,true):=by unfold takeV;exact if_pos ⟨c,by omega⟩
   rw [ev];exact Told.ite_f (by omega) (Told.ite_t (by omega) (Told.ret _))
 ·have ev:takeV l id=(l,false):=by unfold takeV;exact if_neg (fun q=>c q.1)
  rw [ev];exact Told.ite_f (by simpa using c) (Told.ret _)
theorem dOnce {xs:List Int} {p:Int} (c:CK xs p) (s n:Int):∃ (b:Bool) (p' s':Int),spec_l1Once.f xs p s n=some (b,p',s')∧CK xs p':=by
 obtain⟨b,p1,s1,e,_,_,_,c1⟩:=dBelow c s n
 exact⟨b==0,p1,s1,by unfold spec_l1Once.f;rw [e];rfl,c1⟩
theorem dPF (xs:List Int) (h:xs.length≤1048576):∃ (l:List S34) (f:S34),Told (fun k=>spec_DrawPutFeature.f k xs) (l,f.f0,f.f1,f.f2,f.f3,f.f4)∧SrSm l∧FtSm f:=by
 obtain⟨s,t⟩:=dNew xs h
 obtain⟨l,p1,s1,t1,h1,c1⟩:=d9Any (ck0 h) s
 obtain⟨f,p2,s2,t2,h2,c2⟩:=d9One c1 s1
 obtain⟨b,p3,s3,e3,c3⟩:=dOnce c2 s2 2
 by_cases c:b=true
 ·obtain⟨n,p4,s4,e4,_,_,_,c4⟩:=dBelow c3 s3 20
  exact⟨l,⟨wrap64 (1+n),f.f1,f.f2,f.f3,f.f4⟩,Told.bind t (Told.bind t1 (Told.bind t2 (Told.bind (Told.of e3) (Told.ite_t c (Told.bind (Told.of e4) (Told.ret _)))))),h1,h2⟩
 ·exact⟨l,f,Told.bind t (Told.bind t1 (Told.bind t2 (Told.bind (Told.of e3) (Told.ite_f c (Told.ret _))))),h1,h2⟩
theorem dES (xs:List Int) (h:xs.length≤1048576):∃ a b:List S34,Told (fun k=>spec_DrawEqualSources.f k xs) (a,b)∧SrOk a∧SrOk b:=by
 obtain⟨s,t⟩:=dNew xs h
 obtain⟨l,p1,s1,t1,h1,c1⟩:=d9Any (ck0 h) s
 obtain⟨b,p3,s3,e3,c3⟩:=dOnce c1 s1 2
 by_cases c:b=true
 ·exact⟨l,l,Told.bind t (Told.bind t1 (Told.bind (Told.of e3) (Told.ite_t c (Told.bind (tSpecCopy l h1.ok) (Told.ret _))))),h1.ok,h1.ok⟩
 ·obtain⟨m,p4,s4,t4,h4,c4⟩:=d9Any c3 s3
  exact⟨l,m,Told.bind t (Told.bind t1 (Told.bind (Told.of e3) (Told.ite_f c (Told.bind t4 (Told.ret _))))),h1.ok,h4.ok⟩
theorem putL_at (l:List S34) (f:S34):(putL l f).getD (insK l f.f0) z34=f∧insK l f.f0<(putL l f).length:=by
 have kle:=insK_le l f.f0
 have e:(l.take (insK l f.f0)).length=insK l f.f0:=by rw [List.length_take];omega
 unfold putL
 constructor
 ·rw [List.getD_eq_getElem?_getD,List.append_assoc,List.getElem?_append_right (by omega),e,Nat.sub_self];rfl
 ·simp;omega
theorem sr_one {m:List S34} (h:Sr m) {i j:Nat} (hi:i<m.length) (hj:j<m.length) (e:(m.getD i z34).f0=(m.getD j z34).f0):i=j:=by
 rcases Nat.lt_trichotomy i j with c|c|c
 ·have:=sr_mono h (j-i-1) i (by omega)
  rw [show i+(j-i-1)+1=j by omega] at this
  omega
 ·exact c
 ·have:=sr_mono h (i-j-1) j (by omega)
  rw [show j+(i-j-1)+1=i by omega] at this
  omega
theorem erase_get (m:List S34) (i j:Nat):(m.eraseIdx i).getD j z34=if j<i then m.getD j z34 else m.getD (j+1) z34:=by
 rw [List.getD_eq_getElem?_getD,List.getElem?_eraseIdx]
 split <;> rw [List.getD_eq_getElem?_getD]
theorem sr_erase {m:List S34} (h:Sr m) {i:Nat} (hi:i<m.length):Sr (m.eraseIdx i):=by
 have hl:(m.eraseIdx i).length=m.length-1:=List.length_eraseIdx_of_lt hi
 refine⟨by have:=h.1;omega,fun j hj=>?_⟩
 have ft:∀ q,q<m.length→ftV (m.getD q z34)=true:=fun q hq=>by
  have:=h.2 q hq
  unfold srChk at this
  simp only[Bool.and_eq_true] at this
  exact this.1
 unfold srChk
 rw [Bool.and_eq_true,Bool.or_eq_true,decide_eq_true_eq,decide_eq_true_eq]
 rw [erase_get,erase_get]
 refine⟨by split;exact ft _ (by omega);exact ft _ (by omega),?_⟩
 by_cases c0:j=0
 ·exact .inl c0
 ·right
  by_cases c1:j<i
  ·rw [if_pos c1,if_pos (by omega)]
   have:=sr_mono h 0 (j-1) (by omega)
   rw [show j-1+0+1=j by omega] at this
   exact this
  ·rw [if_neg c1]
   by_cases c2:j-1<i
   ·rw [if_pos c2]
    have:=sr_mono h 1 (j-1) (by omega)
    rw [show j-1+1+1=j+1 by omega] at this
    exact this
   ·rw [if_neg c2]
    have:=sr_mono h 0 (j-1+1) (by omega)
    rw [show j-1+1+0+1=j+1 by omega] at this
    exact this
theorem ff_none (m:List S34) (id:Int) (h:∀ j,j<m.length→(m.getD j z34).f0≠id):ffV m id m.length=-1:=by
 rcases ff_spec m id m.length (Nat.le_refl _) with ⟨e,_⟩|⟨i,e,hi,h1,_⟩
 ·exact e
 ·exact absurd h1 (h i hi)
theorem pure_FnFeatures:∀ (l0:(List Int)),(List.length l0≤maxLen∧∀ y∈l0,(0≤y∧y≤255))→∃ k,laws_FnFeatures.f k l0=some true:=by
 intro xs ⟨_,_⟩
 apply Told.ex
 refine Told.bind (Told.ret _) ?_
 by_cases hb:(xs.length:Int)>1048576
 ·exact Told.ite_t (decide_eq_true hb) (Told.ret _)
 have hx:xs.length≤1048576:=by omega
 refine Told.ite_f (by simpa using hb) ?_
 obtain⟨l,f,t,sl,sf⟩:=dPF xs hx
 obtain⟨a,b,tes,oa,ob⟩:=dES xs hx
 have ol:=sl.ok
 have of_:=sf.ok
 have ll:l.length<1048576:=by have:=sl.1;omega
 have fin:Told (fun k=>(spec_DrawEqualSources.f k xs).bind fun bt=>((impl_EqualSources.f k bt.1 bt.2).bind fun t848=>((impl_EqualSources.f k bt.2 bt.1).bind fun t849=>(if (t848==t849)=true then ((impl_EqualSources.f k bt.1 bt.1).bind fun t850=>(some t850)) else (none))))) true:=by
  refine Told.bind tes (Told.bind (tImplEqs a b oa ob) (Told.bind (tImplEqs b a ob oa) (Told.ite_t (by rw [eqsV_comm a b];simp) ?_)))
  have e:=tImplEqs a a oa oa
  rw [eqsV_refl] at e
  exact Told.bind e (Told.ret _)
 refine Told.bind t (Told.bind (tImplPut l f ol ll of_) ?_)
 by_cases c:Sr (putL l f)
 ·have ev:putV l f=(putL l f,true):=if_pos c
  rw [ev]
  refine Told.ite_t rfl ?_
  have op:=putL_ok ol ll of_
  obtain⟨gK,hK⟩:=putL_at l f
  have tf:Told (fun k=>impl_FindFeature.f k (putL l f) f.f0) (ffV (putL l f) f.f0 (putL l f).length):=tImplFF _ _ op.1 _ 0 (by omega)
  have ff:ffV (putL l f) f.f0 (putL l f).length=(insK l f.f0:Nat):=by
   rcases ff_spec (putL l f) f.f0 (putL l f).length (Nat.le_refl _) with ⟨_,h1⟩|⟨i,e,hi,h1,_⟩
   ·exact absurd (by rw [gK]) (h1 _ (by omega) hK)
   ·rw [e,sr_one c hi hK (by rw [h1,gK])]
  rw [ff] at tf
  have tv:takeV (putL l f) f.f0=((putL l f).eraseIdx (insK l f.f0),true):=by unfold takeV;rw [if_pos ⟨c,by rw [ff];omega⟩,ff,Int.toNat_natCast]
  have tt:=tImplTake (putL l f) f.f0 op
  rw [tv] at tt
  have oy:SrOk ((putL l f).eraseIdx (insK l f.f0)):=by have:=takeV_ok op f.f0;rwa [tv] at this
  have sy:=sr_erase c hK
  have hly:((putL l f).eraseIdx (insK l f.f0)).length=(putL l f).length-1:=List.length_eraseIdx_of_lt hK
  have fy:ffV ((putL l f).eraseIdx (insK l f.f0)) f.f0 ((putL l f).eraseIdx (insK l f.f0)).length=-1:=ff_none _ _ fun j hj=>by
   rw [erase_get]
   split
   ·intro q;have:=sr_one c (i:=j) (j:=insK l f.f0) (by omega) hK (by rw [q,gK]);omega
   ·intro q;have:=sr_one c (i:=j+1) (j:=insK l f.f0) (by omega) hK (by rw [q,gK]);omega
  have tfy:Told (fun k=>impl_FindFeature.f k ((putL l f).eraseIdx (insK l f.f0)) f.f0) (-1):=by rw [← fy];exact tImplFF _ _ oy.1 _ 0 (by omega)
  have tfl:Told (fun k=>impl_FindFeature.f k l f.f0) (ffV l f.f0 l.length):=tImplFF _ _ ol.1 _ 0 (by omega)
  have gf:rd_T34 (putL l f) ((insK l f.f0:Nat):Int)=f:=by rw [rdF];exact gK
  have te:Told (fun k=>impl_EqualFeatures.f k (rd_T34 (putL l f) ((insK l f.f0:Nat):Int)).f0 (rd_T34 (putL l f) ((insK l f.f0:Nat):Int)).f1 (rd_T34 (putL l f) ((insK l f.f0:Nat):Int)).f2 (rd_T34 (putL l f) ((insK l f.f0:Nat):Int)).f3 (rd_T34 (putL l f) ((insK l f.f0:Nat):Int)).f4 f.f0 f.f1 f.f2 f.f3 f.f4) true:=by
   rw [gf]
   have h:=tEqfGo (a0:=f.f0) (a1:=f.f1) (a2:=f.f2) (s:=f.f3) (b0:=f.f0) (b1:=f.f1) (b2:=f.f2) (t:=f.f3) (tImplEql f.f4 f.f4 of_.2 of_.2)
   have e:eqfV f.f0 f.f1 f.f2 f.f3 f.f4 f.f0 f.f1 f.f2 f.f3 f.f4=true:=eqfB_refl f
   rw [e] at h
   exact h
  have is1:=tImplSource _ op
  rw [decide_eq_true c] at is1
  have is2:=tImplSource _ oy
  rw [decide_eq_true sy] at is2
  refine Told.bind tf (Told.bind is1 (Told.ite_t rfl (Told.ite_f (by omega) (Told.ite_t (by omega) (Told.ite_t (by dsimp only;omega) (Told.bind te (Told.ite_t rfl (Told.bind tt (Told.ite_t rfl (Told.bind tfy (Told.ite_t rfl (Told.bind is2 (Told.ite_t rfl (Told.bind tfl ?_))))))))))))))
  rcases ff_spec l f.f0 l.length (Nat.le_refl _) with ⟨e,h1⟩|⟨i,e,hi,h1,_⟩
  ·have ey:(putL l f).eraseIdx (insK l f.f0)=l:=by
    have kle:=insK_le l f.f0
    have ep:putL l f=l.take (insK l f.f0)++f::l.drop (insK l f.f0):=by
     unfold putL tailV
     rw [if_neg (fun q=>by
      have q1:=q.1
      simp at q1
      exact h1 (insK l f.f0) (by omega) (by omega) (by rw [← drop0];exact q.2)),List.append_assoc]
     rfl
    have e2:(l.take (insK l f.f0)).length=insK l f.f0:=by rw [List.length_take];omega
    rw [ep,List.eraseIdx_append_of_length_le (Nat.le_of_eq e2),e2,Nat.sub_self,List.eraseIdx_cons_zero,List.take_append_drop]
   have te2:=tImplEqs l l ol ol
   rw [eqsV_refl] at te2
   rw [ey]
   exact Told.ite_t (by omega) (Told.bind te2 (Told.ite_t rfl fin))
  ·exact Told.ite_f (by omega) fin
 ·have ev:putV l f=(l,false):=if_neg c
  rw [ev]
  have te2:=tImplEqs l l ol ol
  rw [eqsV_refl] at te2
  exact Told.ite_f (by simp) (Told.bind te2 (Told.ite_t rfl fin))
end Go.Proofs.Ytbbdhlggnglfgaa.MFnFeatures
