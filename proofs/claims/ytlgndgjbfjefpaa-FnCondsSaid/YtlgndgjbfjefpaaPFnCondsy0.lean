import Derived.Test.YtlgndgjbfjefpaaProg
import Derived.Below
import Derived.Deep.Draws
import Derived.Deep.AppendLies
import Derived.Maps.AppendAt
import Derived.OwnWalk
import Derived.Laws.BytesArg
import Derived.Laws.MakeOwn
import Derived.Laws.OwnMore
import Derived.Deep.OwnRows
import Derived.Tactics
import Derived.Lib.ConvBytes
import Derived.Laws.Slices
import Derived.WalkKit
import Derived.KernelRfl
import Derived.RowKit3
import Derived.Deep.LoopGhost
import Derived.Deep.QuietTactic
import Derived.BigQuiet
import Derived.WideLaws
import Derived.Deep.DeepCutAuto
import Derived.Deep.CutBlock
import Derived.Deep.RegionHeld3
import Derived.Laws.Rows
import Derived.Lib.AppendStr
import Derived.ArgAppend
import Derived.Laws.IdiomCopy
import Derived.OrdersHeld
import Derived.Laws.BitsLemmas
import Derived.RowKit
import Derived.Test.YtlgndgjbfjefpaaVWWords
import Derived.Test.YtlgndgjbfjefpaaVWLast
import Derived.Test.YtlgndgjbfjefpaaVWTab
import Derived.Test.YtlgndgjbfjefpaaVWFour
import Derived.Test.YtlgndgjbfjefpaaVWQPut
import Derived.Test.YtlgndgjbfjefpaaVWApart
import Derived.Test.YtlgndgjbfjefpaaVWArr
import Derived.Test.YtlgndgjbfjefpaaVWZeros
import Derived.Test.YtlgndgjbfjefpaaVWFoot
import Derived.Test.YtlgndgjbfjefpaaVWKept
import Derived.Test.YtlgndgjbfjefpaaVWShare
import Derived.Test.YtlgndgjbfjefpaaVWN
import Derived.Test.YtlgndgjbfjefpaaVWFootNe
import Derived.Test.YtlgndgjbfjefpaaVWAt
import Derived.Test.YtlgndgjbfjefpaaVWEqStruct
import Derived.Test.YtlgndgjbfjefpaaVWRepsOne
import Derived.Test.YtlgndgjbfjefpaaVWInv
import Derived.Test.YtlgndgjbfjefpaaVWInvWords
import Derived.Test.YtlgndgjbfjefpaaVWGuard
import Derived.Test.YtlgndgjbfjefpaaVWNEv
import Derived.Test.YtlgndgjbfjefpaaVWMore
import Derived.Test.YtlgndgjbfjefpaaVZ
namespace Go.Proofs.Ytlgndgjbfjefpaa.PFnConds
open Go.RowKit Go.Proofs.YtlgndgjbfjefpaaW.PrintWords Go.Proofs.YtlgndgjbfjefpaaW.PrintLast Go.Proofs.YtlgndgjbfjefpaaW.PrintMore Go.Proofs.YtlgndgjbfjefpaaW.Z
open Kd
attribute [local go_sem] isS max2_int min2_int max_two min_two max_three min_three max_four min_four
set_option linter.unusedVariables false
set_option linter.unusedSimpArgs false
def errW:Option Int→Value
  | none=> .nilIface
  | some c=> .iface 0 (.int .i64 c)
theorem errW_none:errW none= .nilIface:=rfl
theorem errW_some (c:Int):errW (some c)= .iface 0 (.int .i64 c):=rfl
theorem info3:(Try.prog.info? 3).map (fun i=>(i.zero,i.size,i.bytes))=some (some (.int .i64 0),1,8):=by kernel_rfl
theorem info4:(Try.prog.info? 4).map (fun i=>(i.zero,i.size,i.bytes))=some (some (.bool false),1,1):=by kernel_rfl
theorem info48:(Try.prog.info? 48).map (fun i=>(i.zero,i.size,i.bytes))=some (some (.agg #[(.int .i64 0),(.int .i64 0)]),2,16):=by kernel_rfl
theorem info50:(Try.prog.info? 50).map (fun i=>(i.zero,i.size,i.bytes))=some (some (.agg #[(.int .i64 0),(.int .i64 0),(.int .i64 0),(.int .i64 0),(.int .i64 0),(.int .i64 0)]),6,48):=by kernel_rfl
structure S48 where
  f0:Int
  f1:Int
def z48:S48:=⟨(0:Int),(0:Int)⟩
def k48:Kd S48:=Kd.iso (Kd.pair (Kd.int .i64) (Kd.int .i64)) (fun x:S48=>(x.f0,x.f1))
theorem k48_open {w:World} {x:S48} {cs:List Value} (h:k48.K w x cs):cs= [.int .i64 x.f0,.int .i64 x.f1]:=by
  obtain⟨_,_,rfl,rfl,rfl⟩:=h
  exact rfl
theorem k48_openM {w:World} {base:Nat} {ok:Nat→Prop} {x:S48} {cs:List Value} (h:k48.M w base ok x cs):cs= [.int .i64 x.f0,.int .i64 x.f1]:=by
  obtain⟨_,_,rfl,rfl,rfl⟩:=h
  exact rfl
theorem k48_mk (w:World) (x:S48)  :k48.K w x [.int .i64 x.f0,.int .i64 x.f1]:=⟨[.int .i64 x.f0],[.int .i64 x.f1],rfl,rfl,rfl⟩
theorem k48_mkM (w:World) (base:Nat) (ok:Nat→Prop) (x:S48)  :k48.M w base ok x [.int .i64 x.f0,.int .i64 x.f1]:=⟨[.int .i64 x.f0],[.int .i64 x.f1],rfl,rfl,rfl⟩
def rd_T48 (xs:List S48) (i:Int):S48:=xs.getD i.toNat z48
theorem at_T48 {w:World} {A:Option Addr} {n:Nat} {xs:List S48} (h:Kd.C k48 w A n xs) (i:Int) (h0:0≤i) (h1:i<n): ∃ ad,A=some ad∧w.cell? (ad.add (i.toNat*2))=some (.int .i64 (rd_T48 xs i).f0)∧w.cell? ⟨(ad.add (i.toNat*2)).block,(ad.add (i.toNat*2)).off+1,none⟩=some (.int .i64 (rd_T48 xs i).f1):=by
  obtain⟨ad,c,e,_,hK,a⟩:=C_get h z48 i h0 h1
  have hc: ∀ j u,c[j]?=some u→w.cell? (ad.add (i.toNat*2+j))=some u:=a
  obtain rfl:=k48_open hK
  exact⟨ad,e,hc 0 _ rfl,by rw[← add_field _ _ 1 (by omega)];exact hc 1 _ rfl⟩
structure S50 where
  f0:Int
  f1:S48
  f2:Int
  f3:S48
def z50:S50:=⟨(0:Int),z48,(0:Int),z48⟩
def k50:Kd S50:=Kd.iso (Kd.pair (Kd.int .i64) (Kd.pair k48 (Kd.pair (Kd.int .i64) k48))) (fun x:S50=>(x.f0,x.f1,x.f2,x.f3))
theorem k50_open {w:World} {x:S50} {cs:List Value} (h:k50.K w x cs):cs= [.int .i64 x.f0,.int .i64 x.f1.f0,.int .i64 x.f1.f1,.int .i64 x.f2,.int .i64 x.f3.f0,.int .i64 x.f3.f1]:=by
  obtain⟨_,_,rfl,rfl,⟨_,_,rfl,s1,⟨_,_,rfl,rfl,s4⟩⟩⟩:=h
  obtain rfl:=k48_open s1
  obtain rfl:=k48_open s4
  exact rfl
theorem k50_openM {w:World} {base:Nat} {ok:Nat→Prop} {x:S50} {cs:List Value} (h:k50.M w base ok x cs):cs= [.int .i64 x.f0,.int .i64 x.f1.f0,.int .i64 x.f1.f1,.int .i64 x.f2,.int .i64 x.f3.f0,.int .i64 x.f3.f1]:=by
  obtain⟨_,_,rfl,rfl,⟨_,_,rfl,s1,⟨_,_,rfl,rfl,s4⟩⟩⟩:=h
  obtain rfl:=k48_openM s1
  obtain rfl:=k48_openM s4
  exact rfl
theorem k50_mk (w:World) (x:S50)  :k50.K w x [.int .i64 x.f0,.int .i64 x.f1.f0,.int .i64 x.f1.f1,.int .i64 x.f2,.int .i64 x.f3.f0,.int .i64 x.f3.f1]:=⟨[.int .i64 x.f0],[.int .i64 x.f1.f0,.int .i64 x.f1.f1,.int .i64 x.f2,.int .i64 x.f3.f0,.int .i64 x.f3.f1],rfl,rfl,⟨[.int .i64 x.f1.f0,.int .i64 x.f1.f1],[.int .i64 x.f2,.int .i64 x.f3.f0,.int .i64 x.f3.f1],rfl,(k48_mk w x.f1),⟨[.int .i64 x.f2],[.int .i64 x.f3.f0,.int .i64 x.f3.f1],rfl,rfl,(k48_mk w x.f3)⟩⟩⟩
theorem k50_mkM (w:World) (base:Nat) (ok:Nat→Prop) (x:S50)  :k50.M w base ok x [.int .i64 x.f0,.int .i64 x.f1.f0,.int .i64 x.f1.f1,.int .i64 x.f2,.int .i64 x.f3.f0,.int .i64 x.f3.f1]:=⟨[.int .i64 x.f0],[.int .i64 x.f1.f0,.int .i64 x.f1.f1,.int .i64 x.f2,.int .i64 x.f3.f0,.int .i64 x.f3.f1],rfl,rfl,⟨[.int .i64 x.f1.f0,.int .i64 x.f1.f1],[.int .i64 x.f2,.int .i64 x.f3.f0,.int .i64 x.f3.f1],rfl,(k48_mkM w base ok x.f1),⟨[.int .i64 x.f2],[.int .i64 x.f3.f0,.int .i64 x.f3.f1],rfl,rfl,(k48_mkM w base ok x.f3)⟩⟩⟩
def rd_T50 (xs:List S50) (i:Int):S50:=xs.getD i.toNat z50
theorem at_T50 {w:World} {A:Option Addr} {n:Nat} {xs:List S50} (h:Kd.C k50 w A n xs) (i:Int) (h0:0≤i) (h1:i<n): ∃ ad,A=some ad∧w.cell? (ad.add (i.toNat*6))=some (.int .i64 (rd_T50 xs i).f0)∧w.cell? ⟨(ad.add (i.toNat*6)).block,(ad.add (i.toNat*6)).off+1,none⟩=some (.int .i64 (rd_T50 xs i).f1.f0)∧w.cell? ⟨(ad.add (i.toNat*6)).block,(ad.add (i.toNat*6)).off+2,none⟩=some (.int .i64 (rd_T50 xs i).f1.f1)∧w.cell? ⟨(ad.add (i.toNat*6)).block,(ad.add (i.toNat*6)).off+3,none⟩=some (.int .i64 (rd_T50 xs i).f2)∧w.cell? ⟨(ad.add (i.toNat*6)).block,(ad.add (i.toNat*6)).off+4,none⟩=some (.int .i64 (rd_T50 xs i).f3.f0)∧w.cell? ⟨(ad.add (i.toNat*6)).block,(ad.add (i.toNat*6)).off+5,none⟩=some (.int .i64 (rd_T50 xs i).f3.f1):=by
  obtain⟨ad,c,e,_,hK,a⟩:=C_get h z50 i h0 h1
  have hc: ∀ j u,c[j]?=some u→w.cell? (ad.add (i.toNat*6+j))=some u:=a
  obtain rfl:=k50_open hK
  exact⟨ad,e,hc 0 _ rfl,by rw[← add_field _ _ 1 (by omega)];exact hc 1 _ rfl,by rw[← add_field _ _ 2 (by omega)];exact hc 2 _ rfl,by rw[← add_field _ _ 3 (by omega)];exact hc 3 _ rfl,by rw[← add_field _ _ 4 (by omega)];exact hc 4 _ rfl,by rw[← add_field _ _ 5 (by omega)];exact hc 5 _ rfl⟩
theorem rE {P:Prop} (h:P:=by first|rfl|(simp[errW_none,errW_some] <;> rfl)|(simp[*,errW_none,errW_some] <;> rfl)):P:=h
end Go.Proofs.Ytlgndgjbfjefpaa.PFnConds
