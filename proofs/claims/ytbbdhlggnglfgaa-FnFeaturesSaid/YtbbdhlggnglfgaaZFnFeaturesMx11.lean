-- Laid by this session's program pp.py, after the kit's print and texts of the session's own. Not trusted: Lean checks it.
import Derived.Test.YtbbdhlggnglfgaaZFnFeaturesMx0
namespace Go.Proofs.Ytbbdhlggnglfgaa.MFnFeatures
open Go.RowKit Go.Proofs.YtbbdhlggnglfgaaW.PrintWords Go.Proofs.YtbbdhlggnglfgaaW.PrintLast Go.Proofs.YtbbdhlggnglfgaaW.PrintMore
attribute [local go_sem] max2_int min2_int max_two min_two max_three min_three max_four min_four
set_option linter.unusedVariables false
set_option maxHeartbeats 8000000
set_option maxRecDepth 100000
set_option linter.unusedSimpArgs false
def IsS89 (w0 W:World) (g:Nat) (f0:List Int) (f1:Int) (f2:Int):Prop:=∃ A0 c0,W.heap[g]?=some (.cells #[.slice A0 f0.length c0,.int .i64 f1,.int .i64 f2] 89 (0,0))∧w0.heap.size≤g∧Kd.C (Kd.int .u8) w0 A0 f0.length f0
theorem IsS89.grown {w0 W:World} {g:Nat} {f0:List Int} {f1:Int} {f2:Int} {W1:World} {row:Option Nat} (h:IsS89 w0 W g f0 f1 f2) (hw:W.grownBy W1 row) (hne:some g≠row):IsS89 w0 W1 g f0 f1 f2:=by
 obtain⟨A0,c0,hb,hg,hr0⟩:=h
 exact⟨A0,c0,blk_grown hb hw hne,hg,hr0⟩
theorem IsS89.own_neN {w0 W:World} {g:Nat} {f0:List Int} {f1:Int} {f2:Int} {α:Type} {d:Kd α} {e:Nat} {base:Nat} {ok:Nat→Prop} {v:Value} {xs:List α} (h:IsS89 w0 W g f0 f1 f2) (ho:Kd.N d e W base ok v xs) (ht:e≠89):some g≠v.ownBlock:=by
 obtain⟨A0,c0,hb,hg,hr0⟩:=h
 exact Kd.N_ne ho hb ht
theorem IsS89.fresh {w0 W:World} {g:Nat} {f0:List Int} {f1:Int} {f2:Int} (h:IsS89 w0 W g f0 f1 f2):∀ k,W.heap.size≤k→k≠g:=by
 obtain⟨A0,c0,hb,hg,hr0⟩:=h
 exact Kd.freshB hb
theorem IsS89.kept {w0 W:World} {g:Nat} {f0:List Int} {f1:Int} {f2:Int} {W1:World} {S:Nat→Prop} (h:IsS89 w0 W g f0 f1 f2) (hk:Kept W W1 S) (hne:¬ S g):IsS89 w0 W1 g f0 f1 f2:=by
 obtain⟨A0,c0,hb,hg,hr0⟩:=h
 exact⟨A0,c0,blk_kept hb hk hne,hg,hr0⟩
theorem IsS89.below {w0 W:World} {g:Nat} {f0:List Int} {f1:Int} {f2:Int} {W1:World} (h:IsS89 w0 W g f0 f1 f2) (hw:Below W.heap.size W W1):IsS89 w0 W1 g f0 f1 f2:=h.grown (grown_of_below hw none) (by simp)
theorem IsS89.alloc {w0 W:World} {g:Nat} {f0:List Int} {f1:Int} {f2:Int} (h:IsS89 w0 W g f0 f1 f2) (o:Obj):IsS89 w0 (W.alloc o) g f0 f1 f2:=h.below (below_alloc (Below.refl _ _) o)
theorem IsS89.drewN {w0 W:World} {g:Nat} {f0:List Int} {f1:Int} {f2:Int} (h:IsS89 w0 W g f0 f1 f2) (m:Nat):IsS89 w0 (W.drewN m) g f0 f1 f2:=h
theorem IsS89.drew {w0 W:World} {g:Nat} {f0:List Int} {f1:Int} {f2:Int} (h:IsS89 w0 W g f0 f1 f2):IsS89 w0 W.drew g f0 f1 f2:=h
theorem IsS89.at_ {w0 W:World} {g:Nat} {f0:List Int} {f1:Int} {f2:Int} {w':World} {m:Nat} (hq:W.drewN m=w') (h:IsS89 w0 W g f0 f1 f2):IsS89 w0 w' g f0 f1 f2:=by subst hq;exact IsS89.drewN h m
theorem IsS89.apart {w0 W:World} {g:Nat} {f0:List Int} {f1:Int} {f2:Int} {α:Type} {d:Kd α} {e:Nat} {base:Nat} {ok:Nat→Prop} {v:Value} {xs:List α} (h:IsS89 w0 W g f0 f1 f2) (ho:d.R e W base ok v xs) (ht:∀ q,q∈e::d.E→q≠89):d.R e W base (fun k=>ok k∧k≠g) v xs:=by
 obtain⟨A0,c0,hb,hg,hr0⟩:=h
 exact Kd.R_types ho hb ht
theorem IsS89.own_ne {w0 W:World} {g:Nat} {f0:List Int} {f1:Int} {f2:Int} {α:Type} {d:Kd α} {e:Nat} {base:Nat} {ok:Nat→Prop} {v:Value} {xs:List α} (h:IsS89 w0 W g f0 f1 f2) (ho:d.R e W base ok v xs) (ht:e≠89):some g≠v.ownBlock:=by
 obtain⟨A0,c0,hb,hg,hr0⟩:=h
 exact Kd.R_ne ho hb ht
theorem IsS89.lt {w0 W:World} {g:Nat} {f0:List Int} {f1:Int} {f2:Int} (h:IsS89 w0 W g f0 f1 f2):g<W.heap.size:=by
 obtain⟨A0,c0,hb,hg,hr0⟩:=h
 exact blk_lt hb
theorem IsS89.ge {w0 W:World} {g:Nat} {f0:List Int} {f1:Int} {f2:Int} (h:IsS89 w0 W g f0 f1 f2):w0.heap.size≤g:=by
 obtain⟨A0,c0,hb,hg,hr0⟩:=h
 exact hg
theorem IsS89.ne_blk {w0 W:World} {g:Nat} {f0:List Int} {f1:Int} {f2:Int} {a:Nat} {cs:Array Value} {t:TypeId} {fr:Nat × Nat} (h:IsS89 w0 W g f0 f1 f2) (hb2:W.heap[a]?=some (.cells cs t fr)) (ht:t≠89):g≠a:=by
 obtain⟨A0,c0,hb,hg,hr0⟩:=h
 rintro rfl
 rw [hb] at hb2
 injection hb2 with hb2
 injection hb2 with _ ht2
 exact ht ht2.symm
theorem IsS89.far {w0 W:World} {g:Nat} {f0:List Int} {f1:Int} {f2:Int} {p:Addr} (h:IsS89 w0 W g f0 f1 f2) (hne:g≠p.block) (u:Value):IsS89 w0 (W.setCell p u) g f0 f1 f2:=by
 obtain⟨A0,c0,hb,hg,hr0⟩:=h
 exact⟨A0,c0,blk_far hb hne u,hg,hr0⟩
theorem cellS89_0 {W:World} {g:Nat} {A0:Option Addr} {c0:Nat} {f0:List Int} {f1:Int} {f2:Int} (h:W.heap[g]?=some (.cells #[.slice A0 f0.length c0,.int .i64 f1,.int .i64 f2] 89 (0,0))):W.cell? ⟨g,0,none⟩=some (.slice A0 f0.length c0):=(blk_cell h 0).trans rfl
theorem cellS89_1 {W:World} {g:Nat} {A0:Option Addr} {c0:Nat} {f0:List Int} {f1:Int} {f2:Int} (h:W.heap[g]?=some (.cells #[.slice A0 f0.length c0,.int .i64 f1,.int .i64 f2] 89 (0,0))):W.cell? ⟨g,1,none⟩=some (.int .i64 f1):=(blk_cell h 1).trans rfl
theorem IsS89.set_1 {w0 W:World} {g:Nat} {f0:List Int} {f1:Int} {f2:Int} (h:IsS89 w0 W g f0 f1 f2) (x:Int):IsS89 w0 (W.setCell ⟨g,1,none⟩ (.int .i64 x)) g f0 x f2:=by
 obtain⟨A0,c0,hb,hg,hr0⟩:=h
 exact⟨A0,c0,by simpa using blk_set hb 1 (.int .i64 x),hg,hr0⟩
theorem cellS89_2 {W:World} {g:Nat} {A0:Option Addr} {c0:Nat} {f0:List Int} {f1:Int} {f2:Int} (h:W.heap[g]?=some (.cells #[.slice A0 f0.length c0,.int .i64 f1,.int .i64 f2] 89 (0,0))):W.cell? ⟨g,2,none⟩=some (.int .i64 f2):=(blk_cell h 2).trans rfl
theorem IsS89.set_2 {w0 W:World} {g:Nat} {f0:List Int} {f1:Int} {f2:Int} (h:IsS89 w0 W g f0 f1 f2) (x:Int):IsS89 w0 (W.setCell ⟨g,2,none⟩ (.int .i64 x)) g f0 f1 x:=by
 obtain⟨A0,c0,hb,hg,hr0⟩:=h
 exact⟨A0,c0,by simpa using blk_set hb 2 (.int .i64 x),hg,hr0⟩
theorem IsS89.new (w0 W:World) (A0:Option Addr) (c0:Nat) (f0:List Int) (f1:Int) (f2:Int) (hB:Below w0.heap.size w0 W) (hr0:Kd.C (Kd.int .u8) w0 A0 f0.length f0):IsS89 w0 (W.alloc (.cells #[.slice A0 f0.length c0,.int .i64 f1,.int .i64 f2] 89)) W.heap.size f0 f1 f2:=⟨A0,c0,by simpa using heap_alloc_new W _,hB.size,hr0⟩
def spec_l1New.l0:Nat→List Int→Int→Int→Option (List Int × Int × Int)
 | 0,_,_,_=>none
 | k+1,x0,x3,x4=>if x4<(x0.length:Int) then (if x4<4000 then (if 0≤x4 then (spec_l1New.l0 k x0 (Go.bits .and .i64 (wrap64 ((wrap64 ((wrap64 (x3*137))+(wrap64 (rd x0 x4))))+11)) 1073741823) (wrap64 (x4+1))) else (none)) else (some (x0,0,x3))) else (some (x0,0,x3))
def spec_l1New.f (k:Nat) (l0:List Int):Option (List Int × Int × Int):=spec_l1New.l0 k l0 (wrap64 (193017+(l0.length:Int))) 0
theorem spec_l1New.calls (k:Nat) (A0:Option Addr) (c0:Nat) (l0:List Int) (r1:List Int) (r2:Int) (r3:Int) (w0 w:World) (hB:Below w0.heap.size w0 w) (hr0:Kd.C (Kd.int .u8) w0 A0 l0.length l0) (hc0:l0.length≤c0) (h:spec_l1New.f k l0=some (r1,r2,r3)) :
  Calls Try.prog 45 #[.slice A0 l0.length c0] w fun e w'=>∃ g_:Nat,e = .returned (.pointer (some ⟨g_,0,none⟩))∧IsS89 w0 w' g_ r1 r2 r3∧Below w0.heap.size w0 w'∧Below w.heap.size w w':=by
 have hu89:=Try.underlying89
 have HR0:=ak hr0
 have HC0:=ak hc0
 clear hr0 hc0
 have HBW:=z52_
 have HW0:=ak hB.size
 have HB:=ak hB
 clear hB
 have H:=h;clear h;unfold spec_l1New.f at H
 have H':=ak H
 clear H
 go_enter Try.func45,Try.ntmps45
 go_wp2
 go_loopg [3,4] k (fun kq v3 v4 w'=>∃ (x3_1:Int) (x4_1:Int),v3 = .int .i64 x3_1∧v4 = .int .i64 x4_1∧Aside0 (spec_l1New.l0 kq l0 x3_1 x4_1=some (r1,r2,r3))∧Aside0 (kq≤k)∧Aside0 (Below w0.heap.size w0 w')∧Aside0 (Below w.heap.size w w'))
 case atStart=>exact⟨(wrap64 (193017+(l0.length:Int))),(0),z14_,z14_,H',⟨Nat.le_refl _⟩,⟨Hd.b_⟩,⟨HBW.out⟩⟩
 case round =>
  clear H'
  obtain⟨x3_1,x4_1,rfl,rfl,HA,HK1,HB,HBW⟩:=hrel
  cases gk with
  | zero=>exact absurd HA.out (by simp [spec_l1New.l0])
  | succ k1 =>
   have H:=HA.out
   clear HA
   simp only[spec_l1New.l0] at H
   by_cases c2:x4_1<(l0.length:Int);rotate_left
   ·
    rw [if_neg c2] at H
    have c2b0:=decide_eq_false c2
    clear c2
    simp only[Option.some.injEq,Prod.mk.injEq] at H
    obtain⟨rfl,rfl,rfl⟩:=H
    go_wp2
    go_ret
    exact⟨_,rfl,IsS89.new w0 _ A0 c0 l0 0 x3_1 HB.out HR0.out,(by apply below_alloc;exact HB.out),(by apply below_alloc;exact HBW.out)⟩
   rw [if_pos c2] at H
   have c2b0:=decide_eq_true c2
   clear c2
   by_cases c3:x4_1<4000;rotate_left
   ·
    rw [if_neg c3] at H
    have c3b0:=decide_eq_false c3
    clear c3
    simp only[Option.some.injEq,Prod.mk.injEq] at H
    obtain⟨rfl,rfl,rfl⟩:=H
    go_wp2
    go_ret
    exact⟨_,rfl,IsS89.new w0 _ A0 c0 l0 0 x3_1 HB.out HR0.out,(by apply below_alloc;exact HB.out),(by apply below_alloc;exact HBW.out)⟩
   rw [if_pos c3] at H
   have c3b0:=decide_eq_true c3
   clear c3
   by_cases c4:0≤x4_1;rotate_left
   ·
    rw [if_neg c4] at H
    exact absurd H (by simp)
   rw [if_pos c4] at H
   have c4b0:=decide_eq_true c4
   clear c4
   have H':=ak H
   clear H
   have p293:0≤(x4_1:Int):=od_
   have q293:x4_1<(l0.length:Int):=od_
   obtain⟨ad293,e293,hx293_0⟩:=Kd.at_int HR0.out x4_1 p293 q293
   cases e293
   replace hx293_0:=pw_cell_below HB.out hx293_0
   replace p293:=eq_true p293
   replace q293:=eq_true q293
   go_wp2
   go_roundg k1
   case measure=>have:=HK1.out;omega
   case rel=>exact⟨(Go.bits .and .i64 (wrap64 ((wrap64 ((wrap64 (x3_1*137))+(wrap64 (rd l0 x4_1))))+11)) 1073741823),(wrap64 (x4_1+1)),z14_,z14_,H',⟨z101_⟩,⟨Hd.b_⟩,⟨HBW.out⟩⟩
def spec_l1Byte.f (s0_0:List Int) (s0_1:Int) (s0_2:Int):Option (Int × Int × Int):=if s0_1<(s0_0.length:Int) then (if 0≤s0_1 then (some (Go.bits .and .i64 (wrap64 ((Go.bits .and .i64 (Go.bits .xor .i64 ((wrap64 ((wrap64 (s0_2*6364136223846793005))+1442695040888963407)) / 8589934592) ((wrap64 ((wrap64 (s0_2*6364136223846793005))+1442695040888963407)) / 140737488355328)) 255)+(wrap64 (rd s0_0 s0_1)))) 255,wrap64 (s0_1+1),wrap64 ((wrap64 (s0_2*6364136223846793005))+1442695040888963407))) else (none)) else (some (Go.bits .and .i64 (Go.bits .xor .i64 ((wrap64 ((wrap64 (s0_2*6364136223846793005))+1442695040888963407)) / 8589934592) ((wrap64 ((wrap64 (s0_2*6364136223846793005))+1442695040888963407)) / 140737488355328)) 255,s0_1,wrap64 ((wrap64 (s0_2*6364136223846793005))+1442695040888963407)))
theorem spec_l1Byte.calls (g:Nat) (s0_0:List Int) (s0_1:Int) (s0_2:Int) (r1:Int) (r2:Int) (r3:Int) (w0 w:World) (hI:IsS89 w0 w g s0_0 s0_1 s0_2) (hB:Below w0.heap.size w0 w) (h:spec_l1Byte.f s0_0 s0_1 s0_2=some (r1,r2,r3)) :
  Calls Try.prog 70 #[.pointer (some ⟨g,0,none⟩)] w fun e w'=>e = .returned (.int .i64 r1)∧IsS89 w0 w' g s0_0 r2 r3∧Below w0.heap.size w0 w'∧KeepBut w w' g none:=by
 have HI0:=ak hI
 have HK:=z115_
 have HL:=ak hB.size
 clear hI
 have HW0:=ak hB.size
 have HB:=ak hB
 clear hB
 have H:=h;clear h;unfold spec_l1Byte.f at H
 by_cases c2:s0_1<(s0_0.length:Int);rotate_left
 ·
  rw [if_neg c2] at H
  have c2b0:=decide_eq_false c2
  clear c2
  simp only[Option.some.injEq,Prod.mk.injEq] at H
  obtain⟨rfl,rfl,rfl⟩:=H
  obtain⟨ASz5_0,cSz5_0,HGz5,hgz5,HSz5_0⟩:=HI0.out
  have hcz5_0:=cellS89_0 HGz5
  have hcz5_1:=cellS89_1 HGz5
  have hcz5_2:=cellS89_2 HGz5
  have hfz5_1:=blk_frozen HGz5 1
  have hfz5_2:=blk_frozen HGz5 2
  clear HGz5 hgz5
  go_enter Try.func70,Try.ntmps70
  go_wp2
  repeat (go_quiet (fail);try go_wp2)
  go_ret
  exact⟨Hd.e_,z1_,z2_,z0_⟩
 rw [if_pos c2] at H
 have c2b0:=decide_eq_true c2
 clear c2
 by_cases c3:0≤s0_1;rotate_left
 ·
  rw [if_neg c3] at H
  exact absurd H (by simp)
 rw [if_pos c3] at H
 have c3b0:=decide_eq_true c3
 clear c3
 simp only[Option.some.injEq,Prod.mk.injEq] at H
 obtain⟨rfl,rfl,rfl⟩:=H
 obtain⟨ASz4_0,cSz4_0,HGz4,hgz4,HSz4_0⟩:=HI0.out
 have hcz4_0:=cellS89_0 HGz4
 have hcz4_1:=cellS89_1 HGz4
 have hcz4_2:=cellS89_2 HGz4
 have hfz4_1:=blk_frozen HGz4 1
 have hfz4_2:=blk_frozen HGz4 2
 clear HGz4 hgz4
 have p296:0≤(s0_1:Int):=od_
 have q296:s0_1<(s0_0.length:Int):=od_
 obtain⟨ad296,e296,hx296_0⟩:=Kd.at_int HSz4_0 s0_1 p296 q296
 cases e296
 have hn296_0:ad296.block≠g:=Nat.ne_of_lt (Nat.lt_of_lt_of_le (by have:=bl_ _ _ hx296_0;first|rwa [add_block] at this|exact this) (IsS89.ge HI0.out))
 replace hx296_0:=pw_cell_below HB.out hx296_0
 replace hx296_0:=(cell_far (p:=⟨g,2,none⟩) (by first|(rw [add_block];exact hn296_0)|(show (Addr.add _ _).block≠_;rw [add_block];exact hn296_0)|exact hn296_0) (.int .i64 (wrap64 ((wrap64 (s0_2*6364136223846793005))+1442695040888963407)))).trans hx296_0
 (try have hy296_0:=fun (n_:Nat)=>(show (((w.drewN n_).setCell ⟨g,2,none⟩ (.int .i64 (wrap64 ((wrap64 (s0_2*6364136223846793005))+1442695040888963407))))).cell? _=some _ from hx296_0))
 clear hn296_0
 replace p296:=eq_true p296
 replace q296:=eq_true q296
 go_enter Try.func70,Try.ntmps70
 go_wp2
 repeat (go_quiet (fail);try go_wp2)
 go_ret
 exact⟨Hd.e_,z1_,z2_,z0_⟩
def spec_l1Below.f (s0_0:List Int) (s0_1:Int) (s0_2:Int) (a1:Int):Option (Int × Int × Int):=if a1≤0 then (some (0,s0_1,s0_2)) else (if a1≤256 then ((spec_l1Byte.f s0_0 s0_1 s0_2).bind fun bt297=>(if a1=0 then (none) else (some (Int.tmod bt297.1 a1,bt297.2.1,bt297.2.2)))) else ((spec_l1Byte.f s0_0 s0_1 s0_2).bind fun bt300=>((spec_l1Byte.f s0_0 bt300.2.1 bt300.2.2).bind fun bt303=>((spec_l1Byte.f s0_0 bt303.2.1 bt303.2.2).bind fun bt306=>(if a1=0 then (none) else (some (Int.tmod (wrap64 ((wrap64 ((wrap64 (bt300.1*65536))+(wrap64 (bt303.1*256))))+bt306.1)) a1,bt306.2.1,bt306.2.2)))))))
theorem spec_l1Below.calls (g:Nat) (s0_0:List Int) (s0_1:Int) (s0_2:Int) (a1:Int) (r1:Int) (r2:Int) (r3:Int) (w0 w:World) (hI:IsS89 w0 w g s0_0 s0_1 s0_2) (hB:Below w0.heap.size w0 w) (h:spec_l1Below.f s0_0 s0_1 s0_2 a1=some (r1,r2,r3)) :
  Calls Try.prog 49 #[.pointer (some ⟨g,0,none⟩),.int .i64 a1] w fun e w'=>e = .returned (.int .i64 r1)∧IsS89 w0 w' g s0_0 r2 r3∧Below w0.heap.size w0 w'∧KeepBut w w' g none:=by
 have HI0:=ak hI
 have HK:=z115_
 have HL:=ak hB.size
 clear hI
 have HW0:=ak hB.size
 have HB:=ak hB
 clear hB
 have H:=h;clear h;unfold spec_l1Below.f at H
 by_cases c3:a1≤0
 ·
  rw [if_pos c3] at H
  have c3b0:=decide_eq_true c3
  clear c3
  simp only[Option.some.injEq,Prod.mk.injEq] at H
  obtain⟨rfl,rfl,rfl⟩:=H
  go_enter Try.func49,Try.ntmps49
  go_wp2
  go_ret
  exact⟨Hd.e_,z1_,z2_,z0_⟩
 rw [if_neg c3] at H
 have c3b0:=decide_eq_false c3
 clear c3
 by_cases c4:a1≤256
 ·
  rw [if_pos c4] at H
  have c4b0:=decide_eq_true c4
  clear c4
  replace H:=Hd.bd_ H;obtain⟨⟨t297,t298,t299⟩,A5,H⟩:=H;dsimp only at H
  by_cases c6:a1=0
  ·
   rw [if_pos c6] at H
   exact absurd H (by simp)
  rw [if_neg c6] at H
  have c6b0:=beq_eq_false_iff_ne.mpr c6
  have c6b1:=bne_iff_ne.mpr c6
  simp only[Option.some.injEq,Prod.mk.injEq] at H
  obtain⟨rfl,rfl,rfl⟩:=H
  go_enter Try.func49,Try.ntmps49
  go_wp2_with (first|((with_reducible refine gate_callee (f:=70) rfl ?_);refine Hd.gl_ 13 Try.func70 #[.pointer (some ⟨g,0,none⟩)] ?_;(with_reducible refine(spec_l1Byte.calls g s0_0 s0_1 s0_2 t297 t298 t299 w0 _ ?side1 ?side2 A5.out).mono ?_);(case side1=>exact z1_);(case side2=>exact z2_);rintro e w7 ⟨rfl,hi,hb,hk⟩;refine⟨_,rfl,?_⟩;replace HK:=z218_;replace HB:=ak (hb);replace HI0:=ak (hi);clear hb hk hi))
  go_ret
  exact⟨Hd.e_,z1_,z2_,z0_⟩
 rw [if_neg c4] at H
 have c4b0:=z198_
 clear c4
 replace H:=Hd.bd_ H;obtain⟨⟨t300,t301,t302⟩,A8,H⟩:=H;dsimp only at H
 replace H:=Hd.bd_ H;obtain⟨⟨t303,t304,t305⟩,A9,H⟩:=H;dsimp only at H
 replace H:=Hd.bd_ H;obtain⟨⟨t306,t307,t308⟩,A10,H⟩:=H;dsimp only at H
 by_cases c11:a1=0
 ·
  rw [if_pos c11] at H
  exact absurd H (by simp)
 rw [if_neg c11] at H
 have c11b0:=beq_eq_false_iff_ne.mpr c11
 have c11b1:=bne_iff_ne.mpr c11
 simp only[Option.some.injEq,Prod.mk.injEq] at H
 obtain⟨rfl,rfl,rfl⟩:=H
 go_enter Try.func49,Try.ntmps49
 go_wp2_with (first|((with_reducible refine gate_callee (f:=70) rfl ?_);refine Hd.gl_ 17 Try.func70 #[.pointer (some ⟨g,0,none⟩)] ?_;(with_reducible refine(spec_l1Byte.calls g s0_0 s0_1 s0_2 t300 t301 t302 w0 _ ?side1 ?side2 A8.out).mono ?_);(case side1=>exact z1_);(case side2=>exact z2_);rintro e w12 ⟨rfl,hi,hb,hk⟩;refine⟨_,rfl,?_⟩;replace HK:=z218_;replace HB:=ak (hb);replace HI0:=ak (hi);clear hb hk hi)|((with_reducible refine gate_callee (f:=70) rfl ?_);refine Hd.gl_ 19 Try.func70 #[.pointer (some ⟨g,0,none⟩)] ?_;(with_reducible refine(spec_l1Byte.calls g s0_0 t301 t302 t303 t304 t305 w0 _ ?side1 ?side2 A9.out).mono ?_);(case side1=>exact z1_);(case side2=>exact z2_);rintro e w13 ⟨rfl,hi,hb,hk⟩;refine⟨_,rfl,?_⟩;replace HK:=z218_;replace HB:=ak (hb);replace HI0:=ak (hi);clear hb hk hi)|((with_reducible refine gate_callee (f:=70) rfl ?_);refine Hd.gl_ 21 Try.func70 #[.pointer (some ⟨g,0,none⟩)] ?_;(with_reducible refine(spec_l1Byte.calls g s0_0 t304 t305 t306 t307 t308 w0 _ ?side1 ?side2 A10.out).mono ?_);(case side1=>exact z1_);(case side2=>exact z2_);rintro e w14 ⟨rfl,hi,hb,hk⟩;refine⟨_,rfl,?_⟩;replace HK:=z218_;replace HB:=ak (hb);replace HI0:=ak (hi);clear hb hk hi))
 go_ret
 exact⟨Hd.e_,z1_,z2_,z0_⟩
def spec_l9Feature.f (a0_0:Int) (a0_1:Int) (a0_2:Int) (a0_3:ByteArray) (l0_4:List (S75)):Option (Int × Int × Int × ByteArray × (List (S75))):=(some (([]:List (S75)):List (S75))).bind fun y311=>(if y311.length+l0_4.length<8796093022208 then (some (a0_0,a0_1,a0_2,a0_3,(y311++l0_4))) else (none))
theorem spec_l9Feature.calls (a0_0:Int) (a0_1:Int) (a0_2:Int) (a0_3:ByteArray) (A0_4:Option Addr) (c0_4:Nat) (l0_4:List (S75)) (r1:Int) (r2:Int) (r3:Int) (r4:ByteArray) (r5:List (S75)) (w:World) (hr0_4:Kd.C k75 w A0_4 l0_4.length l0_4) (hc0_4:l0_4.length≤c0_4) (h:spec_l9Feature.f a0_0 a0_1 a0_2 a0_3 l0_4=some (r1,r2,r3,r4,r5)) :
  Calls Try.prog 35 #[.agg #[.int .i64 a0_0,.int .i64 a0_1,.int .i64 a0_2,.string a0_3,.slice A0_4 l0_4.length c0_4]] w fun e w'=>∃ v4_:Value,e = .returned (.agg #[.int .i64 r1,.int .i64 r2,.int .i64 r3,.string r4,v4_])∧Kd.R k75 75 w' w.heap.size (fun _=>True) v4_ r5∧Below w.heap.size w w':=by
 have hu34:=Try.underlying34
 have HR0_4:=ak hr0_4
 have HC0_4:=ak hc0_4
 clear hr0_4 hc0_4
 have HB:=z52_
 have H:=h;clear h;unfold spec_l9Feature.f at H
 generalize hy311:(([]:List (S75)))=y311 at H;have Ny311:=ak hy311.symm;clear hy311;try rw [Option.bind_some] at H
 by_cases c2:y311.length+l0_4.length<8796093022208;rotate_left
 ·
  rw [if_neg c2] at H
  exact absurd H (by simp)
 rw [if_pos c2] at H
 have LMc2:=ak c2
 clear c2
 generalize hy314:(y311++l0_4)=y314 at H;have Ny314:=ak hy314.symm;clear hy314;try rw [Option.bind_some] at H
 simp only[Option.some.injEq,Prod.mk.injEq] at H
 obtain⟨rfl,rfl,rfl,rfl,rfl⟩:=H
 go_enter Try.func35,Try.ntmps35
 go_wp2_with (first|((with_reducible refine gate_dst (N:=1) rfl ?_);refine Hd.box_ 1 (#[.int .i64 a0_0,.int .i64 a0_1,.int .i64 a0_2,.string a0_3,.slice A0_4 l0_4.length c0_4]) 34 ?_;intro gb309 hg w3 hbox hb;have BK309:=ak (hbox);have GW309:=ak ((Hd.g_ hg Hd.b_:w.heap.size≤gb309));have GE309:=ak ((Hd.g_ hg Hd.b_:w.heap.size≤gb309));replace HB:=z17_;clear hb hbox hg)|((with_reducible refine gate_dst (N:=2) rfl ?_);refine Hd.box_ 2 (#[.int .i64 0,.int .i64 0,.int .i64 0,.string (⟨#[]⟩:ByteArray),.slice none 0 0]) 34 ?_;intro gb310 hg w4 hbox hb;have BK310:=ak (hbox);have GW310:=ak ((Hd.g_ hg Hd.b_:w.heap.size≤gb310));have GE310:=ak ((Hd.g_ hg Hd.b_:w.heap.size≤gb310));replace HB:=z17_;have NB309_310:=ak ((Hd.lt_ BK309 hg));have NB310_309:=ak ((Hd.gt_ BK309 hg));replace BK309:=ak (Hd.kb_ BK309 hb);clear hb hbox hg)|((with_reducible refine gate_dst (N:=3) rfl ?_);refine Kd.R_lit k75 _ 75 ?hg (N:=3) ?hd (xs:=([]:List (S75))) (inner:=[]) (ok:=fun _=>True) (okp:=fun _=>True) ?hr ?hp (fun _ hk=>hk) trivial (Below.refl _ _) (Nat.le_refl _) (by simp) ?_;(case hd=>rfl);(case hg=>rfl);(case hr=>exact z39_);(case hp=>exact z213_);intro v312 w5 ho6 hb hg_ hnew_;clear hg_ hnew_;(first|rw [← Ny311.out] at ho6|(simp only[Int.reduceToNat] at ho6;rw [← Ny311.out] at ho6));have HO313:=ak (Kd.R_lower ho6 (below_size Hd.b_));replace BK309:=ak (Hd.kb_ BK309 hb);replace BK310:=ak (Hd.kb_ BK310 hb);replace HB:=z17_;clear hb ho6;have hnb7:=NB309_310.out;have hnc7:=NB310_309.out;obtain⟨hcz8_0,hcz8_1,hcz8_2,hcz8_3,hcz8_4⟩:=Hd.c5_ BK309.out;obtain⟨hfz8_0,hfz8_1,hfz8_2,hfz8_3,hfz8_4⟩:=Hd.f5_ BK309.out)|((with_reducible refine gate_builtin (b:=.append) (xs:=#[.tmp 3,.tmp 5]) rfl ?_);at_builtin;refine Kd.R_append_rows k75 (w0:=w) w.heap.size rfl (.tmp 3) (.tmp 5) 32 75 (.agg #[(.int .i64 0),(.int .i64 0)]) 16 rfl Try.underlying32 info75 rfl (by decide) (by omega) v312 y311 l0_4 _ _ _ (fun _=>True) (fun _=>False) rfl rfl ?aO ?aR (fun _ _ h=>h) (fun _ h=>h.elim) ?aF ?aB ?aS ?aL ?_;(case aR=>exact z15_ HR0_4);(case aB=>exact Hd.b_);(case aF=>exact z177_);(case aO=>exact(Hd.r_ HO313));(case aS=>exact z133_);(case aL=>have:=LMc2.out;omega);intro v315 w9 ho hb hg hat;rw [← Ny314.out] at ho;have n0_:=ak (blk_grown (g:=gb309) (o:=.cells #[.int .i64 a0_0,.int .i64 a0_1,.int .i64 a0_2,.string a0_3,.slice A0_4 l0_4.length c0_4] 34 (0,0)) (Hd.k_ BK309) hg (Kd.R_ne HO313.out BK309.out (by decide)));have n1_:=ak (blk_grown (g:=gb310) (o:=.cells #[.int .i64 0,.int .i64 0,.int .i64 0,.string (⟨#[]⟩:ByteArray),.slice none 0 0] 34 (0,0)) (Hd.k_ BK310) hg (Kd.R_ne HO313.out BK310.out (by decide)));have n2_:=ak (hb);have n3_:=ak (ho);clear BK309;clear BK310;clear HB;clear HO313;have BK309:=n0_;have BK310:=n1_;have HB:=n2_;have HO316:=n3_;clear n0_ n1_ n2_ n3_;clear ho hb hg hat;obtain⟨Ao10,co10,eo10⟩:=Kd.R_slice HO316.out;subst eo10;obtain⟨hcz11_0,hcz11_1,hcz11_2,hcz11_3,hcz11_4⟩:=Hd.c5_ BK309.out;obtain⟨hfz11_0,hfz11_1,hfz11_2,hfz11_3,hfz11_4⟩:=Hd.f5_ BK309.out;obtain⟨hcz12_0,hcz12_1,hcz12_2,hcz12_3,hcz12_4⟩:=Hd.c5_ BK310.out;obtain⟨hfz12_0,hfz12_1,hfz12_2,hfz12_3,hfz12_4⟩:=Hd.f5_ BK310.out))
 refine bodyPost_ret (results_cell_row rfl _ _ gb310 34 #[.int .i64 a0_0,.int .i64 a0_1,.int .i64 a0_2,.string a0_3,.slice Ao10 y314.length co10] (0,0) _ rfl (z46_ NB310_309 BK310) Try.underlying34 rfl (by kernel_rfl)) rfl ?_
 exact⟨_,Hd.e_,by (with_reducible repeat (first|apply Kd.R_alloc|apply Kd.R_drewN|apply Kd.R_drew));exact Kd.R_mono (Kd.R_far (p:=⟨gb310,4,none⟩) (Kd.R_far (p:=⟨gb310,3,none⟩) (Kd.R_far (p:=⟨gb310,2,none⟩) (Kd.R_far (p:=⟨gb310,1,none⟩) (Kd.R_far (p:=⟨gb310,0,none⟩) (Kd.R_far (p:=⟨gb309,4,none⟩) (Kd.R_types (Kd.R_types HO316.out BK309.out (by decide)) BK310.out (by decide)) (fun _ hk=>hk.1.2) (.slice Ao10 y314.length co10)) (fun _ hk=>hk.2) (.int .i64 a0_0)) (fun _ hk=>hk.2) (.int .i64 a0_1)) (fun _ hk=>hk.2) (.int .i64 a0_2)) (fun _ hk=>hk.2) (.string a0_3)) (fun _ hk=>hk.2) (.slice Ao10 y314.length co10)) (fun _ hk=>trivial),Hd.b_⟩
def spec_l9Copy.l0:Nat→List (S34)→List (S34)→Int→Option ((List (S34)))
 | 0,_,_,_=>none
 | k+1,x0,x3,x4=>if x4<(x0.length:Int) then (if 0≤x4 then ((spec_l9Feature.f ((rd_T34 x0 x4).f0) ((rd_T34 x0 x4).f1) ((rd_T34 x0 x4).f2) ((rd_T34 x0 x4).f3) ((rd_T34 x0 x4).f4)).bind fun bt321=>(if x3.length<2199023255552 then (spec_l9Copy.l0 k x0 (x3++[(⟨bt321.1,bt321.2.1,bt321.2.2.1,bt321.2.2.2.1,bt321.2.2.2.2⟩:S34)]) (wrap64 (x4+1))) else (none))) else (none)) else (some x3)
def spec_l9Copy.f (k:Nat) (l0:List (S34)):Option ((List (S34))):=spec_l9Copy.l0 k l0 (([]:List (S34))) 0
theorem spec_l9Copy.calls (k:Nat) (A0:Option Addr) (c0:Nat) (l0:List (S34)) (r:List (S34)) (w:World) (hr0:Kd.C k34 w A0 l0.length l0) (hc0:l0.length≤c0) (h:spec_l9Copy.f k l0=some r) :
  Calls Try.prog 34 #[.slice A0 l0.length c0] w fun e w'=>∃ v0_:Value,e = .returned (v0_)∧Kd.S k34 34 w' w.heap.size (fun _=>True) v0_ r∧Below w.heap.size w w':=by
 have hu34:=Try.underlying34
 have HR0:=ak hr0
 have HC0:=ak hc0
 clear hr0 hc0
 have HB:=z52_
 have H:=h;clear h;unfold spec_l9Copy.f at H
 generalize hy317:(([]:List (S34)))=y317 at H;have Ny317:=ak hy317.symm;clear hy317;try rw [Option.bind_some] at H
 have H':=ak H
 clear H
 go_enter Try.func34,Try.ntmps34
 go_wp2_with (first|((with_reducible refine gate_dst (N:=5) rfl ?_);refine Kd.S_lit k34 _ 34 ?hg (N:=5) ?hd (xs:=([]:List (S34))) (inner:=[]) (ok:=fun _=>True) (okp:=fun _=>True) ?hr ?hp (fun _ hk=>hk) trivial (Below.refl _ _) (Nat.le_refl _) (by simp) ?_;(case hd=>rfl);(case hg=>rfl);(case hr=>exact z39_);(case hp=>exact z213_);intro v318 w2 ho3 hb hg_ hnew_;clear hg_ hnew_;(first|rw [← Ny317.out] at ho3|(simp only[Int.reduceToNat] at ho3;rw [← Ny317.out] at ho3));have HO319:=ak (Kd.S_lower ho3 (below_size Hd.b_));replace HB:=z17_;clear hb ho3))
 go_loopg [3,4] k (fun kq v3 v4 w'=>∃ (x3_1:List (S34)) (x4_1:Int),v4 = .int .i64 x4_1∧Aside0 (spec_l9Copy.l0 kq l0 x3_1 x4_1=some r)∧Aside0 (kq≤k)∧Aside0 (Kd.S k34 34 w' w.heap.size (fun _=>True) v3 x3_1)∧Aside0 (Below w.heap.size w w'))
 case atStart=>exact⟨(y317),(0),z14_,H',⟨Nat.le_refl _⟩,⟨z24_ HO319⟩,⟨Hd.b_⟩⟩
 case round =>
  clear H'
  obtain⟨x3_1,x4_1,rfl,HA,HK1,HO_3,HB⟩:=hrel
  cases gk with
  | zero=>exact absurd HA.out (by simp [spec_l9Copy.l0])
  | succ k1 =>
   have H:=HA.out
   clear HA
   simp only[spec_l9Copy.l0] at H
   by_cases c4:x4_1<(l0.length:Int);rotate_left
   ·
    rw [if_neg c4] at H
    have c4b0:=z198_
    clear c4
    obtain rfl:=Option.some.inj H
    go_wp2
    go_ret
    exact⟨_,Hd.e_,z24_ HO_3,Hd.b_⟩
   rw [if_pos c4] at H
   have c4b0:=decide_eq_true c4
   clear c4
   by_cases c5:0≤x4_1;rotate_left
   ·
    rw [if_neg c5] at H
    exact absurd H (by simp)
   rw [if_pos c5] at H
   have c5b0:=decide_eq_true c5
   clear c5
   replace H:=Hd.bd_ H;obtain⟨⟨t321,t322,t323,t324,t325⟩,A6,H⟩:=H;dsimp only at H
   by_cases c7:x3_1.length<2199023255552;rotate_left
   ·
    rw [if_neg c7] at H
    exact absurd H (by simp)
   rw [if_pos c7] at H
   have LMc7:=ak c7
   clear c7
   generalize hy328:(x3_1++[(⟨t321,t322,t323,t324,t325⟩:S34)])=y328 at H;have Ny328:=ak hy328.symm;clear hy328;try rw [Option.bind_some] at H
   have H':=ak H
   clear H
   have p320:0≤(x4_1:Int):=od_
   have q320:x4_1<(l0.length:Int):=od_
   obtain⟨ad320,A320_4,c320_4,e320,hx320_0,hx320_1,hx320_2,hx320_3,hx320_4,hl320_4,hi320_4⟩:=at_T34 HR0.out x4_1 p320 q320
   cases e320
   replace hx320_0:=(HB.out.cell (bl_ w _ hx320_0)).trans hx320_0
   replace hx320_1:=(HB.out.cell (bl_ w _ hx320_1)).trans hx320_1
   replace hx320_2:=(HB.out.cell (bl_ w _ hx320_2)).trans hx320_2
   replace hx320_3:=(HB.out.cell (bl_ w _ hx320_3)).trans hx320_3
   replace hx320_4:=(HB.out.cell (bl_ w _ hx320_4)).trans hx320_4
   have HR320_4:=ak hi320_4
   have HC320_4:=ak hl320_4
   clear hi320_4 hl320_4
   replace p320:=eq_true p320
   replace q320:=eq_true q320
   go_wp2_with (first|((with_reducible refine gate_callee (f:=35) rfl ?_);refine Hd.gl_ 17 Try.func35 #[.agg #[.int .i64 ((rd_T34 l0 x4_1).f0),.int .i64 ((rd_T34 l0 x4_1).f1),.int .i64 ((rd_T34 l0 x4_1).f2),.string ((rd_T34 l0 x4_1).f3),.slice A320_4 ((rd_T34 l0 x4_1).f4).length c320_4]] ?_;(with_reducible refine(spec_l9Feature.calls ((rd_T34 l0 x4_1).f0) ((rd_T34 l0 x4_1).f1) ((rd_T34 l0 x4_1).f2) ((rd_T34 l0 x4_1).f3) _ _ ((rd_T34 l0 x4_1).f4) t321 t322 t323 t324 t325 _ ?side1 ?side2 A6.out).mono ?_);(case side1=>exact z15_ HR320_4);(case side2=>exact HC320_4.out);rintro e w8 ⟨v326,rfl,ho0,hb⟩;refine⟨_,rfl,?_⟩;replace HO_3:=ak (Kd.S_elder' (z24_ HO_3) (Kd.R_base ho0) hb);have HO327:=z140_;replace HB:=z17_;(try clear hb);(try clear hk);(try clear ho0);obtain⟨Ao10,co10,eo10⟩:=Kd.R_slice HO327.out;subst eo10)|((with_reducible refine gate_builtin (b:=.append) (xs:=#[.tmp 12,.tmp 18]) rfl ?_);at_builtin;refine Kd.S_append k34 (w0:=w) w.heap.size rfl (.tmp 12) (.tmp 18) 28 34 (.agg #[(.int .i64 0),(.int .i64 0),(.int .i64 0),(.string ⟨#[]⟩),(.slice none 0 0)]) 64 rfl Try.underlying28 info34 rfl (by decide) (by omega) u3 x3_1 (⟨t321,t322,t323,t324,t325⟩:S34) [.int .i64 t321,.int .i64 t322,.int .i64 t323,.string t324,.slice Ao10 t325.length co10] (fun _=>True) (fun k_=>some k_=(.slice Ao10 t325.length co10:Value).ownBlock) rfl rfl ?aP (fun k_ hk_=>((Kd.R_mono (ok':=fun k_=>((fun _=>True)) k_∧some k_≠(u3:Value).ownBlock) (Kd.R_apart' (HO327.out) (Kd.S_typed HO_3.out) (by decide)) (fun k_ hk=>⟨trivial,hk.2⟩))).1 k_ hk_.symm) ?aF ?aO ?aB ?aS ?aL ?_;(case aP=>exact k34_mkM _ _ _ (⟨t321,t322,t323,t324,t325⟩:S34) (Kd.R_mono (Kd.R_tight rfl (Kd.R_mono (ok':=fun k_=>((fun _=>True)) k_∧some k_≠(u3:Value).ownBlock) (Kd.R_apart' (HO327.out) (Kd.S_typed HO_3.out) (by decide)) (fun k_ hk=>⟨trivial,hk.2⟩))) (fun _ h_=>h_)));(case aB=>exact Hd.b_);(case aF=>exact z177_);(case aO=>exact(by (with_reducible repeat (first|apply Kd.S_alloc|apply Kd.S_drewN|apply Kd.S_drew));exact Kd.S_mono HO_3.out (fun k_ hk=>⟨trivial,fun e_=>hk.2 e_⟩)));(case aS=>exact z133_);(case aL=>have:=LMc7.out;omega);intro v329 w9 ho hb hg hat;rw [← Ny328.out] at ho;have n0_:=ak (hb);have n1_:=ak (ho);clear HB;clear HO_3;clear HO327;have HB:=n0_;have HO330:=n1_;clear n0_ n1_;clear ho hb hg hat))
   go_roundg k1
   case measure=>have:=HK1.out;omega
   case rel=>exact⟨(y328),(wrap64 (x4_1+1)),z14_,H',⟨z101_⟩,⟨z24_ HO330⟩,⟨Hd.b_⟩⟩
def spec_l1In.f (a0:Int) (a1:Int) (a2:Int):Option (Bool):=if a0≥a1 then (some (decide (a0≤a2))) else (some false)
theorem spec_l1In.calls (a0:Int) (a1:Int) (a2:Int) (r:Bool) (w:World) (h:spec_l1In.f a0 a1 a2=some r) :
  Calls Try.prog 79 #[.int .i64 a0,.int .i64 a1,.int .i64 a2] w fun e w'=>e = .returned (.bool r)∧Drawn0 w w':=by
 have H:=h;clear h;unfold spec_l1In.f at H
 by_cases c4:a0≥a1
 ·
  rw [if_pos c4] at H
  have c4b0:decide (a1≤a0)=true:=decide_eq_true c4
  clear c4
  obtain rfl:=Option.some.inj H
  go_enter Try.func79,Try.ntmps79
  go_wp2
  go_ret
  exact⟨z14_,z36_⟩
 rw [if_neg c4] at H
 have c4b0:decide (a1≤a0)=false:=decide_eq_false c4
 clear c4
 obtain rfl:=Option.some.inj H
 go_enter Try.func79,Try.ntmps79
 go_wp2
 go_ret
 exact⟨z14_,z36_⟩
def spec_IsName.l0:Nat→ByteArray→Int→Option (Bool)
 | 0,_,_=>none
 | k+1,x0,x3=>if x3<(x0.size:Int) then (if 0≤x3 then (if (bt x0 x3)<97 then (some false) else (if (bt x0 x3)>122 then (some false) else (spec_IsName.l0 k x0 (wrap64 (x3+1))))) else (none)) else ((spec_l1In.f (x0.size:Int) 1 8).bind fun t331=>(some t331))
def spec_IsName.f (k:Nat) (a0:ByteArray):Option (Bool):=spec_IsName.l0 k a0 0
theorem spec_IsName.calls (k:Nat) (a0:ByteArray) (r:Bool) (w:World) (h:spec_IsName.f k a0=some r) :
  Calls Try.prog 80 #[.string a0] w fun e w'=>e = .returned (.bool r)∧Drawn0 w w':=by
 have H:=h;clear h;unfold spec_IsName.f at H
 have H':=ak H
 clear H
 go_enter Try.func80,Try.ntmps80
 go_wp2
 go_loopg [3] k (fun kq v3 w'=>∃ (x3_1:Int),v3 = .int .i64 x3_1∧Aside0 (spec_IsName.l0 kq a0 x3_1=some r)∧Aside0 (kq≤k)∧Drawn0 w w')
 case atStart=>exact⟨(0),z14_,H',⟨Nat.le_refl _⟩,z36_⟩
 case round =>
  clear H'
  obtain⟨x3_1,rfl,HA,HK1,⟨m1,rfl⟩⟩:=hrel
  cases gk with
  | zero=>exact absurd HA.out (by simp [spec_IsName.l0])
  | succ k1 =>
   have H:=HA.out
   clear HA
   simp only[spec_IsName.l0] at H
   by_cases c2:x3_1<(a0.size:Int);rotate_left
   ·
    rw [if_neg c2] at H
    have c2b0:=decide_eq_false c2
    clear c2
    replace H:=Hd.bd_ H;obtain⟨t331,A8,H⟩:=H
    obtain rfl:=Option.some.inj H
    go_wp2_with (first|((with_reducible refine gate_callee (f:=79) rfl ?_);refine Hd.gl_ 22 Try.func79 #[.int .i64 (a0.size:Int),.int .i64 1,.int .i64 8] ?_;(with_reducible refine(spec_l1In.calls (a0.size:Int) 1 8 t331 _ A8.out).mono ?_);rintro e w' ⟨rfl,⟨nd,rfl⟩⟩;refine⟨_,rfl,?_⟩))
    go_ret
    exact⟨z14_,z36_⟩
   rw [if_pos c2] at H
   have c2b0:=decide_eq_true c2
   clear c2
   by_cases c3:0≤x3_1;rotate_left
   ·
    rw [if_neg c3] at H
    exact absurd H (by simp)
   rw [if_pos c3] at H
   have c3b0:=decide_eq_true c3
   clear c3
   by_cases c5:(bt a0 x3_1)<97
   ·
    rw [if_pos c5] at H
    have c5b0:=decide_eq_true c5
    clear c5
    obtain rfl:=Option.some.inj H
    have p4:0≤(x3_1:Int):=od_
    have q4:x3_1<(a0.size:Int):=od_
    have hx4:=bt_at a0 x3_1
    replace p4:=eq_true p4
    replace q4:=eq_true q4
    go_wp2
    go_ret
    exact⟨z14_,z36_⟩
   rw [if_neg c5] at H
   have c5b0:=decide_eq_false c5
   clear c5
   by_cases c7:(bt a0 x3_1)>122
   ·
    rw [if_pos c7] at H
    have c7b0:decide (122<(bt a0 x3_1))=true:=decide_eq_true c7
    clear c7
    obtain rfl:=Option.some.inj H
    have p4:0≤(x3_1:Int):=od_
    have q4:x3_1<(a0.size:Int):=od_
    have hx4:=bt_at a0 x3_1
    replace p4:=eq_true p4
    replace q4:=eq_true q4
    have p6:0≤(x3_1:Int):=od_
    have q6:x3_1<(a0.size:Int):=od_
    have hx6:=bt_at a0 x3_1
    replace p6:=eq_true p6
    replace q6:=eq_true q6
    go_wp2
    go_ret
    exact⟨z14_,z36_⟩
   rw [if_neg c7] at H
   have c7b0:decide (122<(bt a0 x3_1))=false:=decide_eq_false c7
   clear c7
   have H':=ak H
   clear H
   have p4:0≤(x3_1:Int):=od_
   have q4:x3_1<(a0.size:Int):=od_
   have hx4:=bt_at a0 x3_1
   replace p4:=eq_true p4
   replace q4:=eq_true q4
   have p6:0≤(x3_1:Int):=od_
   have q6:x3_1<(a0.size:Int):=od_
   have hx6:=bt_at a0 x3_1
   replace p6:=eq_true p6
   replace q6:=eq_true q6
   go_wp2
   go_roundg k1
   case measure=>have:=HK1.out;omega
   case rel=>exact⟨(wrap64 (x3_1+1)),z14_,H',⟨z101_⟩,z36_⟩
def spec_IsPoint.f (a0_0:Int) (a0_1:Int):Option (Bool):=(spec_l1In.f a0_0 0 200).bind fun t333=>(if t333=true then ((spec_l1In.f a0_1 0 200).bind fun t334=>(some t334)) else (some false))
theorem spec_IsPoint.calls (a0_0:Int) (a0_1:Int) (r:Bool) (w:World) (h:spec_IsPoint.f a0_0 a0_1=some r) :
  Calls Try.prog 81 #[.agg #[.int .i64 a0_0,.int .i64 a0_1]] w fun e w'=>e = .returned (.bool r)∧Below w.heap.size w w':=by
 have hu75:=Try.underlying75
 have HB:=z52_
 have H:=h;clear h;unfold spec_IsPoint.f at H
 replace H:=Hd.bd_ H;obtain⟨t333,A2,H⟩:=H
 by_cases c3:t333=true
 ·
  subst c3
  rw [if_pos rfl] at H
  replace H:=Hd.bd_ H;obtain⟨t334,A4,H⟩:=H
  obtain rfl:=Option.some.inj H
  go_enter Try.func81,Try.ntmps81
  go_wp2_with (first|((with_reducible refine gate_dst (N:=1) rfl ?_);refine Hd.box_ 1 (#[.int .i64 a0_0,.int .i64 a0_1]) 75 ?_;intro gb332 hg w5 hbox hb;have BK332:=ak (hbox);have GW332:=z204_;have GE332:=z204_;replace HB:=z17_;clear hb hbox hg;obtain⟨hcz6_0,hcz6_1⟩:=Hd.c2_ BK332.out;obtain⟨hfz6_0,hfz6_1⟩:=Hd.f2_ BK332.out)|((with_reducible refine gate_callee (f:=79) rfl ?_);refine Hd.gl_ 5 Try.func79 #[.int .i64 a0_0,.int .i64 0,.int .i64 200] ?_;(with_reducible refine(spec_l1In.calls a0_0 0 200 true _ A2.out).mono ?_);rintro e w' ⟨rfl,⟨nd,rfl⟩⟩;refine⟨_,rfl,?_⟩)|(go_at_call 79;(with_reducible refine(spec_l1In.calls a0_1 0 200 t334 _ A4.out).mono ?_);rintro e w' ⟨rfl,⟨nd,rfl⟩⟩))
  go_ret
  exact⟨Hd.e_,Hd.b_⟩
 replace c3:=z163_
 subst c3
 rw [if_neg (show ¬ (false=true) by decide)] at H
 obtain rfl:=Option.some.inj H
 go_enter Try.func81,Try.ntmps81
 go_wp2_with (first|((with_reducible refine gate_dst (N:=1) rfl ?_);refine Hd.box_ 1 (#[.int .i64 a0_0,.int .i64 a0_1]) 75 ?_;intro gb332 hg w7 hbox hb;have BK332:=ak (hbox);have GW332:=z204_;have GE332:=z204_;replace HB:=z17_;clear hb hbox hg;obtain⟨hcz8_0,hcz8_1⟩:=Hd.c2_ BK332.out;obtain⟨hfz8_0,hfz8_1⟩:=Hd.f2_ BK332.out)|((with_reducible refine gate_callee (f:=79) rfl ?_);refine Hd.gl_ 5 Try.func79 #[.int .i64 a0_0,.int .i64 0,.int .i64 200] ?_;(with_reducible refine(spec_l1In.calls a0_0 0 200 false _ A2.out).mono ?_);rintro e w' ⟨rfl,⟨nd,rfl⟩⟩;refine⟨_,rfl,?_⟩))
 go_ret
 exact⟨Hd.e_,Hd.b_⟩
end Go.Proofs.Ytbbdhlggnglfgaa.MFnFeatures
