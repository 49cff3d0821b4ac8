-- Laid by this session's program pp.py, after the kit's print and texts of the session's own. Not trusted: Lean checks it.
import Derived.Test.YtbbdhlggnglfgaaProg
import Derived.Below
import Derived.Deep.Draws
import Derived.Deep.AppendLies
import Derived.Maps.AppendAt
import Derived.OwnWalk
import Derived.Laws.BytesArg
import Derived.Laws.MakeOwn
import Derived.Laws.OwnMore
import Derived.Deep.OwnRows
import Derived.Tactics
import Derived.Lib.ConvBytes
import Derived.Laws.Slices
import Derived.WalkKit
import Derived.KernelRfl
import Derived.RowKit3
import Derived.Deep.LoopGhost
import Derived.Deep.QuietTactic
import Derived.BigQuiet
import Derived.WideLaws
import Derived.Deep.DeepCutAuto
import Derived.Deep.CutBlock
import Derived.Deep.RegionHeld3
import Derived.Laws.Rows
import Derived.Lib.AppendStr
import Derived.ArgAppend
import Derived.Laws.IdiomCopy
import Derived.OrdersHeld
import Derived.Laws.BitsLemmas
import Derived.RowKit
import Derived.Lib.AppendZeros
import Derived.Lib.Overlaps
import Derived.Lib.AppendZerosOnto
import Derived.Laws.NewBlocks
import Derived.Deep.RegionLaw
import Derived.Lib.SliceRun
import Derived.Test.YtbbdhlggnglfgaaZFnFeaturesSh
import Derived.Test.YtbbdhlggnglfgaaZFnFeaturesAb
import Derived.Test.YtbbdhlggnglfgaaZFnFeaturesWWords
import Derived.Test.YtbbdhlggnglfgaaZFnFeaturesWLast
import Derived.Test.YtbbdhlggnglfgaaZFnFeaturesWTab
import Derived.Test.YtbbdhlggnglfgaaZFnFeaturesWFour
import Derived.Test.YtbbdhlggnglfgaaZFnFeaturesWQPut
import Derived.Test.YtbbdhlggnglfgaaZFnFeaturesWApart
import Derived.Test.YtbbdhlggnglfgaaZFnFeaturesWArr
import Derived.Test.YtbbdhlggnglfgaaZFnFeaturesWZeros
import Derived.Test.YtbbdhlggnglfgaaZFnFeaturesWFoot
import Derived.Test.YtbbdhlggnglfgaaZFnFeaturesWKept
import Derived.Test.YtbbdhlggnglfgaaZFnFeaturesWShare
import Derived.Test.YtbbdhlggnglfgaaZFnFeaturesWN
import Derived.Test.YtbbdhlggnglfgaaZFnFeaturesWFootNe
import Derived.Test.YtbbdhlggnglfgaaZFnFeaturesWAt
import Derived.Test.YtbbdhlggnglfgaaZFnFeaturesWEqStruct
import Derived.Test.YtbbdhlggnglfgaaZFnFeaturesWRepsOne
import Derived.Test.YtbbdhlggnglfgaaZFnFeaturesWInv
import Derived.Test.YtbbdhlggnglfgaaZFnFeaturesWInvWords
import Derived.Test.YtbbdhlggnglfgaaZFnFeaturesWGuard
import Derived.Test.YtbbdhlggnglfgaaZFnFeaturesWNEv
import Derived.Test.YtbbdhlggnglfgaaZFnFeaturesWMore
namespace Go.Proofs.Ytbbdhlggnglfgaa.MFnFeatures
open Go.RowKit Go.Proofs.YtbbdhlggnglfgaaW.PrintWords Go.Proofs.YtbbdhlggnglfgaaW.PrintLast Go.Proofs.YtbbdhlggnglfgaaW.PrintMore
attribute [local go_sem] max2_int min2_int max_two min_two max_three min_three max_four min_four
set_option linter.unusedVariables false
set_option linter.unusedSimpArgs false
def errW:Option Int→Value
  | none => .nilIface
  | some c => .iface 0 (.int .i64 c)
theorem errW_none:errW none = .nilIface:=rfl
theorem errW_some (c:Int):errW (some c) = .iface 0 (.int .i64 c):=rfl
theorem info34:(Try.prog.info? 34).map (fun i=>(i.zero,i.size,i.bytes))=some (some (.agg #[(.int .i64 0),(.int .i64 0),(.int .i64 0),(.string ⟨#[]⟩),(.slice none 0 0)]),5,64):=by kernel_rfl
theorem info75:(Try.prog.info? 75).map (fun i=>(i.zero,i.size,i.bytes))=some (some (.agg #[(.int .i64 0),(.int .i64 0)]),2,16):=by kernel_rfl
theorem info101:(Try.prog.info? 101).map (fun i=>(i.zero,i.size,i.bytes))=some (some (.agg #[(.int .i64 0),(.int .i64 0),(.int .i64 0),(.int .i64 0)]),4,32):=by kernel_rfl
structure S75 where
  f0:Int
  f1:Int
def z75:S75:=⟨(0:Int),(0:Int)⟩
def k75:Kd S75:=Kd.iso (Kd.pair (Kd.int .i64) (Kd.int .i64)) (fun x:S75=>(x.f0,x.f1))
theorem k75_open {w:World} {x:S75} {cs:List Value} (h:k75.K w x cs):cs=[.int .i64 x.f0,.int .i64 x.f1]:=by
  obtain⟨_,_,rfl,rfl,rfl⟩:=h
  exact rfl
theorem k75_openM {w:World} {base:Nat} {ok:Nat→Prop} {x:S75} {cs:List Value} (h:k75.M w base ok x cs):cs=[.int .i64 x.f0,.int .i64 x.f1]:=by
  obtain⟨_,_,rfl,rfl,rfl⟩:=h
  exact rfl
theorem k75_mkM (w:World) (base:Nat) (ok:Nat→Prop) (x:S75)  : k75.M w base ok x [.int .i64 x.f0,.int .i64 x.f1]:=⟨[.int .i64 x.f0],[.int .i64 x.f1],rfl,rfl,rfl⟩
def rd_T75 (xs:List S75) (i:Int):S75:=xs.getD i.toNat z75
theorem at_T75 {w:World} {A:Option Addr} {n:Nat} {xs:List S75} (h:Kd.C k75 w A n xs) (i:Int) (h0:0≤i) (h1:i<n):∃ ad ,A=some ad∧w.cell? (ad.add (i.toNat*2))=some (.int .i64 (rd_T75 xs i).f0)∧w.cell? ⟨(ad.add (i.toNat*2)).block,(ad.add (i.toNat*2)).off+1,none⟩=some (.int .i64 (rd_T75 xs i).f1):=by
  obtain⟨ad,c,e,_,hK,hc0⟩:=Kd.C_get h z75 i h0 h1
  have hc:∀ j u,c[j]?=some u→w.cell? (ad.add (i.toNat*2+j))=some u:=hc0
  obtain rfl:=k75_open hK
  exact⟨ad,e,hc 0 _ rfl,z214_⟩
structure S34 where
  f0:Int
  f1:Int
  f2:Int
  f3:ByteArray
  f4:(List S75)
def z34:S34:=⟨(0:Int),(0:Int),(0:Int),(⟨#[]⟩:ByteArray),([]:List S75)⟩
def k34:Kd S34:=Kd.iso (Kd.pair (Kd.int .i64) (Kd.pair (Kd.int .i64) (Kd.pair (Kd.int .i64) (Kd.pair Kd.string (Kd.slice 75 k75))))) (fun x:S34=>(x.f0,x.f1,x.f2,x.f3,x.f4))
theorem k34_open {w:World} {x:S34} {cs:List Value} (h:k34.K w x cs):∃ A4 c4,cs=[.int .i64 x.f0,.int .i64 x.f1,.int .i64 x.f2,.string x.f3,.slice A4 x.f4.length c4]∧x.f4.length≤c4∧k75.C w A4 x.f4.length x.f4:=by
  obtain⟨_,_,rfl,rfl,⟨_,_,rfl,rfl,⟨_,_,rfl,rfl,⟨_,_,rfl,rfl,⟨A4,c4,rfl,l4,g4⟩⟩⟩⟩⟩:=h
  exact⟨A4,c4,rfl,l4,g4⟩
theorem k34_openM {w:World} {base:Nat} {ok:Nat→Prop} {x:S34} {cs:List Value} (h:k34.M w base ok x cs):∃ v4,cs=[.int .i64 x.f0,.int .i64 x.f1,.int .i64 x.f2,.string x.f3,v4]∧k75.R 75 w base ok v4 x.f4:=by
  obtain⟨_,_,rfl,rfl,⟨_,_,rfl,rfl,⟨_,_,rfl,rfl,⟨_,_,rfl,rfl,⟨v4,rfl,g4⟩⟩⟩⟩⟩:=h
  exact⟨v4,rfl,g4⟩
theorem k34_mk (w:World) (x:S34) {A4:Option Addr} {c4:Nat} (l4:x.f4.length≤c4) (g4:k75.C w A4 x.f4.length x.f4):k34.K w x [.int .i64 x.f0,.int .i64 x.f1,.int .i64 x.f2,.string x.f3,.slice A4 x.f4.length c4]:=⟨[.int .i64 x.f0],[.int .i64 x.f1,.int .i64 x.f2,.string x.f3,.slice A4 x.f4.length c4],rfl,rfl,⟨[.int .i64 x.f1],[.int .i64 x.f2,.string x.f3,.slice A4 x.f4.length c4],rfl,rfl,⟨[.int .i64 x.f2],[.string x.f3,.slice A4 x.f4.length c4],rfl,rfl,⟨[.string x.f3],[.slice A4 x.f4.length c4],rfl,rfl,⟨A4,c4,rfl,l4,g4⟩⟩⟩⟩⟩
theorem k34_mkM (w:World) (base:Nat) (ok:Nat→Prop) (x:S34) {v4:Value} (g4:k75.R 75 w base ok v4 x.f4):k34.M w base ok x [.int .i64 x.f0,.int .i64 x.f1,.int .i64 x.f2,.string x.f3,v4]:=⟨[.int .i64 x.f0],[.int .i64 x.f1,.int .i64 x.f2,.string x.f3,v4],rfl,rfl,⟨[.int .i64 x.f1],[.int .i64 x.f2,.string x.f3,v4],rfl,rfl,⟨[.int .i64 x.f2],[.string x.f3,v4],rfl,rfl,⟨[.string x.f3],[v4],rfl,rfl,⟨v4,rfl,g4⟩⟩⟩⟩⟩
theorem k34_openF {W:World} {ok:Nat→Prop} {x:S34} {cs:List Value} (h:Kd.FK k34 W ok x cs):∃ A4 c4,cs=[.int .i64 x.f0,.int .i64 x.f1,.int .i64 x.f2,.string x.f3,.slice A4 x.f4.length c4]∧x.f4.length≤c4∧Kd.F k75 W ok A4 x.f4.length x.f4:=by
  obtain⟨A4,c4,rfl,l4,_⟩:=k34_open (Kd.FK_now h)
  exact⟨A4,c4,rfl,l4,(fun W' hW=>by obtain⟨A4_,c4_,he,l4_,g4_⟩:=k34_open (h W' hW);injection (Option.some.inj (show some (Value.slice A4 x.f4.length c4)=some (Value.slice A4_ x.f4.length c4_) from congrArg (fun l=>l[4]?) he)) with ha_ _ _;rw [ha_];exact g4_)⟩
theorem k34_mkF (W:World) (ok:Nat→Prop) (x:S34) {A4:Option Addr} {c4:Nat} (l4:x.f4.length≤c4) (g4:Kd.F k75 W ok A4 x.f4.length x.f4):Kd.FK k34 W ok x [.int .i64 x.f0,.int .i64 x.f1,.int .i64 x.f2,.string x.f3,.slice A4 x.f4.length c4]:=fun W2 hW=>k34_mk W2 x l4 (g4 W2 hW)
def rd_T34 (xs:List S34) (i:Int):S34:=xs.getD i.toNat z34
theorem at_T34 {w:World} {A:Option Addr} {n:Nat} {xs:List S34} (h:Kd.C k34 w A n xs) (i:Int) (h0:0≤i) (h1:i<n):∃ ad A4 c4,A=some ad∧w.cell? (ad.add (i.toNat*5))=some (.int .i64 (rd_T34 xs i).f0)∧w.cell? ⟨(ad.add (i.toNat*5)).block,(ad.add (i.toNat*5)).off+1,none⟩=some (.int .i64 (rd_T34 xs i).f1)∧w.cell? ⟨(ad.add (i.toNat*5)).block,(ad.add (i.toNat*5)).off+2,none⟩=some (.int .i64 (rd_T34 xs i).f2)∧w.cell? ⟨(ad.add (i.toNat*5)).block,(ad.add (i.toNat*5)).off+3,none⟩=some (.string (rd_T34 xs i).f3)∧w.cell? ⟨(ad.add (i.toNat*5)).block,(ad.add (i.toNat*5)).off+4,none⟩=some (.slice A4 (rd_T34 xs i).f4.length c4)∧(rd_T34 xs i).f4.length≤c4∧k75.C w A4 (rd_T34 xs i).f4.length (rd_T34 xs i).f4:=by
  obtain⟨ad,c,e,_,hK,hc0⟩:=Kd.C_get h z34 i h0 h1
  have hc:∀ j u,c[j]?=some u→w.cell? (ad.add (i.toNat*5+j))=some u:=hc0
  obtain⟨A4,c4,rfl,l4,g4⟩:=k34_open hK
  exact⟨ad,A4,c4,e,hc 0 _ rfl,z214_,by rw [← add_field _ _ 2 (by omega)];exact hc 2 _ rfl,by rw [← add_field _ _ 3 (by omega)];exact hc 3 _ rfl,by rw [← add_field _ _ 4 (by omega)];exact hc 4 _ rfl,l4,g4⟩
structure S101 where
  f0:S75
  f1:S75
def z101:S101:=⟨z75,z75⟩
def k101:Kd S101:=Kd.iso (Kd.pair k75 k75) (fun x:S101=>(x.f0,x.f1))
theorem k101_open {w:World} {x:S101} {cs:List Value} (h:k101.K w x cs):cs=[.int .i64 x.f0.f0,.int .i64 x.f0.f1,.int .i64 x.f1.f0,.int .i64 x.f1.f1]:=by
  obtain⟨_,_,rfl,s0,s2⟩:=h
  obtain rfl:=k75_open s0
  obtain rfl:=k75_open s2
  exact rfl
theorem k101_mkM (w:World) (base:Nat) (ok:Nat→Prop) (x:S101)  : k101.M w base ok x [.int .i64 x.f0.f0,.int .i64 x.f0.f1,.int .i64 x.f1.f0,.int .i64 x.f1.f1]:=⟨[.int .i64 x.f0.f0,.int .i64 x.f0.f1],[.int .i64 x.f1.f0,.int .i64 x.f1.f1],rfl,(k75_mkM w base ok x.f0 ),(k75_mkM w base ok x.f1 )⟩
def rd_T101 (xs:List S101) (i:Int):S101:=xs.getD i.toNat z101
theorem at_T101 {w:World} {A:Option Addr} {n:Nat} {xs:List S101} (h:Kd.C k101 w A n xs) (i:Int) (h0:0≤i) (h1:i<n):∃ ad ,A=some ad∧w.cell? (ad.add (i.toNat*4))=some (.int .i64 (rd_T101 xs i).f0.f0)∧w.cell? ⟨(ad.add (i.toNat*4)).block,(ad.add (i.toNat*4)).off+1,none⟩=some (.int .i64 (rd_T101 xs i).f0.f1)∧w.cell? ⟨(ad.add (i.toNat*4)).block,(ad.add (i.toNat*4)).off+2,none⟩=some (.int .i64 (rd_T101 xs i).f1.f0)∧w.cell? ⟨(ad.add (i.toNat*4)).block,(ad.add (i.toNat*4)).off+3,none⟩=some (.int .i64 (rd_T101 xs i).f1.f1):=by
  obtain⟨ad,c,e,_,hK,hc0⟩:=Kd.C_get h z101 i h0 h1
  have hc:∀ j u,c[j]?=some u→w.cell? (ad.add (i.toNat*4+j))=some u:=hc0
  obtain rfl:=k101_open hK
  exact⟨ad,e,hc 0 _ rfl,z214_,by rw [← add_field _ _ 2 (by omega)];exact hc 2 _ rfl,by rw [← add_field _ _ 3 (by omega)];exact hc 3 _ rfl⟩
end Go.Proofs.Ytbbdhlggnglfgaa.MFnFeatures
