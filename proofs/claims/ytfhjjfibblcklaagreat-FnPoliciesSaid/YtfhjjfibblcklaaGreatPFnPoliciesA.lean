/- FnPolicies: functions that it reaches, step by step. No conditions. -/
import Derived.Test.YtfhjjfibblcklaaGreatProg
import Derived.Below
import Derived.Deep.Draws
import Derived.Deep.AppendLies
import Derived.Maps.AppendAt
import Derived.OwnWalk
import Derived.Laws.BytesArg
import Derived.Laws.MakeOwn
import Derived.Laws.OwnMore
import Derived.Deep.OwnRows
import Derived.Tactics
import Derived.Lib.ConvBytes
import Derived.Laws.Slices
import Derived.WalkKit
import Derived.KernelRfl
import Derived.RowKit3
import Derived.Deep.LoopGhost
import Derived.Deep.QuietTactic
import Derived.BigQuiet
import Derived.WideLaws
import Derived.Deep.DeepCutAuto
import Derived.Deep.CutBlock
import Derived.Deep.RegionHeld3
import Derived.Laws.Rows
import Derived.Lib.AppendStr
import Derived.ArgAppend
import Derived.Laws.IdiomCopy
import Derived.OrdersHeld
import Derived.Laws.BitsLemmas
import Derived.RowKit
import Derived.Test.YtfhjjfibblcklaaGreatVWWords
import Derived.Test.YtfhjjfibblcklaaGreatVWLast
import Derived.Test.YtfhjjfibblcklaaGreatVWTab
import Derived.Test.YtfhjjfibblcklaaGreatVWFour
import Derived.Test.YtfhjjfibblcklaaGreatVWQPut
import Derived.Test.YtfhjjfibblcklaaGreatVWApart
import Derived.Test.YtfhjjfibblcklaaGreatVWArr
import Derived.Test.YtfhjjfibblcklaaGreatVWZeros
import Derived.Test.YtfhjjfibblcklaaGreatVWFoot
import Derived.Test.YtfhjjfibblcklaaGreatVWKept
import Derived.Test.YtfhjjfibblcklaaGreatVWShare
import Derived.Test.YtfhjjfibblcklaaGreatVWN
import Derived.Test.YtfhjjfibblcklaaGreatVWFootNe
import Derived.Test.YtfhjjfibblcklaaGreatVWAt
import Derived.Test.YtfhjjfibblcklaaGreatVWEqStruct
import Derived.Test.YtfhjjfibblcklaaGreatVWRepsOne
import Derived.Test.YtfhjjfibblcklaaGreatVWInv
import Derived.Test.YtfhjjfibblcklaaGreatVWInvWords
import Derived.Test.YtfhjjfibblcklaaGreatVWGuard
import Derived.Test.YtfhjjfibblcklaaGreatVWNEv
import Derived.Test.YtfhjjfibblcklaaGreatVWMore
import Derived.Test.YtfhjjfibblcklaaGreatVZ
namespace Go.Proofs.YtfhjjfibblcklaaGreat.PFnPolicies
open Go.RowKit Go.Proofs.YtfhjjfibblcklaaGreatW.PrintWords Go.Proofs.YtfhjjfibblcklaaGreatW.PrintLast Go.Proofs.YtfhjjfibblcklaaGreatW.PrintMore Go.Proofs.YtfhjjfibblcklaaGreatW.Z
open Kd
attribute [local go_sem] isS max2_int min2_int max_two min_two max_three min_three max_four min_four
set_option linter.unusedVariables false
set_option linter.unusedSimpArgs false
set_option maxHeartbeats 8000000
set_option maxRecDepth 100000
def errW:Option Int→Value
  | none=> .nilIface
  | some c=> .iface 0 (.int .i64 c)
theorem errW_none:errW none= .nilIface:=rfl
theorem errW_some (c:Int):errW (some c)= .iface 0 (.int .i64 c):=rfl
theorem info3:(Tryz.prog.info? 3).map (fun i=>(i.zero,i.size,i.bytes))=some (some (.int .i64 0),1,8):=by kernel_rfl
theorem info5:(Tryz.prog.info? 5).map (fun i=>(i.zero,i.size,i.bytes))=some (some (.int .u8 0),1,1):=by kernel_rfl
theorem info9:(Tryz.prog.info? 9).map (fun i=>(i.zero,i.size,i.bytes))=some (some (.string ⟨#[]⟩),1,16):=by kernel_rfl
theorem info50:(Tryz.prog.info? 50).map (fun i=>(i.zero,i.size,i.bytes))=some (some (.agg #[(.slice none 0 0),(.slice none 0 0),(.int .i64 0),(.int .i64 0)]),4,64):=by kernel_rfl
theorem info52:(Tryz.prog.info? 52).map (fun i=>(i.zero,i.size,i.bytes))=some (some (.agg #[(.int .i64 0),(.int .i64 0)]),2,16):=by kernel_rfl
theorem info54:(Tryz.prog.info? 54).map (fun i=>(i.zero,i.size,i.bytes))=some (some (.agg #[(.int .i64 0),(.int .i64 0),(.int .i64 0),(.int .i64 0),(.int .i64 0),(.int .i64 0)]),6,48):=by kernel_rfl
theorem info95:(Tryz.prog.info? 95).map (fun i=>(i.zero,i.size,i.bytes))=some (some (.agg #[(.int .i64 0),(.string ⟨#[]⟩),(.int .i64 0)]),3,32):=by kernel_rfl
structure S52 where
  f0:Int
  f1:Int
def z52:S52:=⟨(0:Int),(0:Int)⟩
def k52:Kd S52:=Kd.iso (Kd.pair (Kd.int .i64) (Kd.int .i64)) (fun x:S52=>(x.f0,x.f1))
theorem k52_open {w:World} {x:S52} {cs:List Value} (h:k52.K w x cs):cs= [.int .i64 x.f0,.int .i64 x.f1]:=by
  obtain⟨_,_,rfl,rfl,rfl⟩:=h
  exact rfl
theorem k52_openM {w:World} {base:Nat} {ok:Nat→Prop} {x:S52} {cs:List Value} (h:k52.M w base ok x cs):cs= [.int .i64 x.f0,.int .i64 x.f1]:=by
  obtain⟨_,_,rfl,rfl,rfl⟩:=h
  exact rfl
theorem k52_mk (w:World) (x:S52)  :k52.K w x [.int .i64 x.f0,.int .i64 x.f1]:=⟨[.int .i64 x.f0],[.int .i64 x.f1],rfl,rfl,rfl⟩
theorem k52_mkM (w:World) (base:Nat) (ok:Nat→Prop) (x:S52)  :k52.M w base ok x [.int .i64 x.f0,.int .i64 x.f1]:=⟨[.int .i64 x.f0],[.int .i64 x.f1],rfl,rfl,rfl⟩
def rd_T52 (xs:List S52) (i:Int):S52:=xs.getD i.toNat z52
theorem at_T52 {w:World} {A:Option Addr} {n:Nat} {xs:List S52} (h:Kd.C k52 w A n xs) (i:Int) (h0:0≤i) (h1:i<n): ∃ ad,A=some ad∧w.cell? (ad.add (i.toNat*2))=some (.int .i64 (rd_T52 xs i).f0)∧w.cell? ⟨(ad.add (i.toNat*2)).block,(ad.add (i.toNat*2)).off+1,none⟩=some (.int .i64 (rd_T52 xs i).f1):=by
  obtain⟨ad,c,e,_,hK,g⟩:=C_get h z52 i h0 h1
  have hc: ∀ j u,c[j]?=some u→w.cell? (ad.add (i.toNat*2+j))=some u:=g
  obtain rfl:=k52_open hK
  exact⟨ad,e,hc 0 _ rfl,by rw[← add_field _ _ 1 (by omega)];exact hc 1 _ rfl⟩
structure S54 where
  f0:Int
  f1:S52
  f2:Int
  f3:S52
def z54:S54:=⟨(0:Int),z52,(0:Int),z52⟩
def k54:Kd S54:=Kd.iso (Kd.pair (Kd.int .i64) (Kd.pair k52 (Kd.pair (Kd.int .i64) k52))) (fun x:S54=>(x.f0,x.f1,x.f2,x.f3))
theorem k54_open {w:World} {x:S54} {cs:List Value} (h:k54.K w x cs):cs= [.int .i64 x.f0,.int .i64 x.f1.f0,.int .i64 x.f1.f1,.int .i64 x.f2,.int .i64 x.f3.f0,.int .i64 x.f3.f1]:=by
  obtain⟨_,_,rfl,rfl,⟨_,_,rfl,s1,⟨_,_,rfl,rfl,s4⟩⟩⟩:=h
  obtain rfl:=k52_open s1
  obtain rfl:=k52_open s4
  exact rfl
theorem k54_openM {w:World} {base:Nat} {ok:Nat→Prop} {x:S54} {cs:List Value} (h:k54.M w base ok x cs):cs= [.int .i64 x.f0,.int .i64 x.f1.f0,.int .i64 x.f1.f1,.int .i64 x.f2,.int .i64 x.f3.f0,.int .i64 x.f3.f1]:=by
  obtain⟨_,_,rfl,rfl,⟨_,_,rfl,s1,⟨_,_,rfl,rfl,s4⟩⟩⟩:=h
  obtain rfl:=k52_openM s1
  obtain rfl:=k52_openM s4
  exact rfl
theorem k54_mk (w:World) (x:S54)  :k54.K w x [.int .i64 x.f0,.int .i64 x.f1.f0,.int .i64 x.f1.f1,.int .i64 x.f2,.int .i64 x.f3.f0,.int .i64 x.f3.f1]:=⟨[.int .i64 x.f0],[.int .i64 x.f1.f0,.int .i64 x.f1.f1,.int .i64 x.f2,.int .i64 x.f3.f0,.int .i64 x.f3.f1],rfl,rfl,⟨[.int .i64 x.f1.f0,.int .i64 x.f1.f1],[.int .i64 x.f2,.int .i64 x.f3.f0,.int .i64 x.f3.f1],rfl,(k52_mk w x.f1),⟨[.int .i64 x.f2],[.int .i64 x.f3.f0,.int .i64 x.f3.f1],rfl,rfl,(k52_mk w x.f3)⟩⟩⟩
theorem k54_mkM (w:World) (base:Nat) (ok:Nat→Prop) (x:S54)  :k54.M w base ok x [.int .i64 x.f0,.int .i64 x.f1.f0,.int .i64 x.f1.f1,.int .i64 x.f2,.int .i64 x.f3.f0,.int .i64 x.f3.f1]:=⟨[.int .i64 x.f0],[.int .i64 x.f1.f0,.int .i64 x.f1.f1,.int .i64 x.f2,.int .i64 x.f3.f0,.int .i64 x.f3.f1],rfl,rfl,⟨[.int .i64 x.f1.f0,.int .i64 x.f1.f1],[.int .i64 x.f2,.int .i64 x.f3.f0,.int .i64 x.f3.f1],rfl,(k52_mkM w base ok x.f1),⟨[.int .i64 x.f2],[.int .i64 x.f3.f0,.int .i64 x.f3.f1],rfl,rfl,(k52_mkM w base ok x.f3)⟩⟩⟩
def rd_T54 (xs:List S54) (i:Int):S54:=xs.getD i.toNat z54
theorem at_T54 {w:World} {A:Option Addr} {n:Nat} {xs:List S54} (h:Kd.C k54 w A n xs) (i:Int) (h0:0≤i) (h1:i<n): ∃ ad,A=some ad∧w.cell? (ad.add (i.toNat*6))=some (.int .i64 (rd_T54 xs i).f0)∧w.cell? ⟨(ad.add (i.toNat*6)).block,(ad.add (i.toNat*6)).off+1,none⟩=some (.int .i64 (rd_T54 xs i).f1.f0)∧w.cell? ⟨(ad.add (i.toNat*6)).block,(ad.add (i.toNat*6)).off+2,none⟩=some (.int .i64 (rd_T54 xs i).f1.f1)∧w.cell? ⟨(ad.add (i.toNat*6)).block,(ad.add (i.toNat*6)).off+3,none⟩=some (.int .i64 (rd_T54 xs i).f2)∧w.cell? ⟨(ad.add (i.toNat*6)).block,(ad.add (i.toNat*6)).off+4,none⟩=some (.int .i64 (rd_T54 xs i).f3.f0)∧w.cell? ⟨(ad.add (i.toNat*6)).block,(ad.add (i.toNat*6)).off+5,none⟩=some (.int .i64 (rd_T54 xs i).f3.f1):=by
  obtain⟨ad,c,e,_,hK,g⟩:=C_get h z54 i h0 h1
  have hc: ∀ j u,c[j]?=some u→w.cell? (ad.add (i.toNat*6+j))=some u:=g
  obtain rfl:=k54_open hK
  exact⟨ad,e,hc 0 _ rfl,by rw[← add_field _ _ 1 (by omega)];exact hc 1 _ rfl,by rw[← add_field _ _ 2 (by omega)];exact hc 2 _ rfl,by rw[← add_field _ _ 3 (by omega)];exact hc 3 _ rfl,by rw[← add_field _ _ 4 (by omega)];exact hc 4 _ rfl,by rw[← add_field _ _ 5 (by omega)];exact hc 5 _ rfl⟩
def rd_L4 (xs:List (List Int)) (i:Int):(List Int):=xs.getD i.toNat ([] :List Int)
theorem at_L4 {w:World} {A:Option Addr} {n:Nat} {xs:List (List Int)} (h:Kd.C (Kd.slice 3 (Kd.int .i64)) w A n xs) (i:Int) (h0:0≤i) (h1:i<n): ∃ ad a b,A=some ad∧w.cell? (ad.add i.toNat)=some (.slice a (rd_L4 xs i).length b)∧(rd_L4 xs i).length≤b∧(Kd.int .i64).C w a (rd_L4 xs i).length (rd_L4 xs i):=by
  obtain⟨ad,c,e,_,hK,g⟩:=C_get h ([] :List Int) i h0 h1
  have hc: ∀ j u,c[j]?=some u→w.cell? (ad.add (i.toNat*1+j))=some u:=g
  obtain⟨a,b,rfl,l,g0⟩:=hK
  exact⟨ad,a,b,e,by have hq:=hc 0 _ rfl;rwa [Nat.mul_one,Nat.add_zero]at hq,l,g0⟩
def rd_L5 (xs:List (List S54)) (i:Int):(List S54):=xs.getD i.toNat ([] :List S54)
theorem at_L5 {w:World} {A:Option Addr} {n:Nat} {xs:List (List S54)} (h:Kd.C (Kd.slice 54 k54) w A n xs) (i:Int) (h0:0≤i) (h1:i<n): ∃ ad a b,A=some ad∧w.cell? (ad.add i.toNat)=some (.slice a (rd_L5 xs i).length b)∧(rd_L5 xs i).length≤b∧k54.C w a (rd_L5 xs i).length (rd_L5 xs i):=by
  obtain⟨ad,c,e,_,hK,g⟩:=C_get h ([] :List S54) i h0 h1
  have hc: ∀ j u,c[j]?=some u→w.cell? (ad.add (i.toNat*1+j))=some u:=g
  obtain⟨a,b,rfl,l,g0⟩:=hK
  exact⟨ad,a,b,e,by have hq:=hc 0 _ rfl;rwa [Nat.mul_one,Nat.add_zero]at hq,l,g0⟩
structure S50 where
  f0:(List Int)
  f1:(List S54)
  f2:Int
  f3:Int
def z50:S50:=⟨([] :List Int),([] :List S54),(0:Int),(0:Int)⟩
def k50:Kd S50:=Kd.iso (Kd.pair (Kd.slice 3 (Kd.int .i64)) (Kd.pair (Kd.slice 54 k54) (Kd.pair (Kd.int .i64) (Kd.int .i64)))) (fun x:S50=>(x.f0,x.f1,x.f2,x.f3))
theorem k50_open {w:World} {x:S50} {cs:List Value} (h:k50.K w x cs): ∃ a b d f,cs= [.slice a x.f0.length b,.slice d x.f1.length f,.int .i64 x.f2,.int .i64 x.f3]∧x.f0.length≤b∧(Kd.int .i64).C w a x.f0.length x.f0∧x.f1.length≤f∧k54.C w d x.f1.length x.f1:=by
  obtain⟨_,_,rfl,⟨a,b,rfl,l,g0⟩,⟨_,_,rfl,⟨d,f,rfl,o,g1⟩,⟨_,_,rfl,rfl,rfl⟩⟩⟩:=h
  exact⟨a,b,d,f,rfl,l,g0,o,g1⟩
theorem k50_openM {w:World} {base:Nat} {ok:Nat→Prop} {x:S50} {cs:List Value} (h:k50.M w base ok x cs): ∃ m k,cs= [m,k,.int .i64 x.f2,.int .i64 x.f3]∧(Kd.int .i64).R 3 w base ok m x.f0∧k54.R 54 w base ok k x.f1:=by
  obtain⟨_,_,rfl,⟨m,rfl,g0⟩,⟨_,_,rfl,⟨k,rfl,g1⟩,⟨_,_,rfl,rfl,rfl⟩⟩⟩:=h
  exact⟨m,k,rfl,g0,g1⟩
theorem k50_mk (w:World) (x:S50) {a:Option Addr} {b:Nat} (l:x.f0.length≤b) (g0:(Kd.int .i64).C w a x.f0.length x.f0) {d:Option Addr} {f:Nat} (o:x.f1.length≤f) (g1:k54.C w d x.f1.length x.f1):k50.K w x [.slice a x.f0.length b,.slice d x.f1.length f,.int .i64 x.f2,.int .i64 x.f3]:=⟨[.slice a x.f0.length b],[.slice d x.f1.length f,.int .i64 x.f2,.int .i64 x.f3],rfl,⟨a,b,rfl,l,g0⟩,⟨[.slice d x.f1.length f],[.int .i64 x.f2,.int .i64 x.f3],rfl,⟨d,f,rfl,o,g1⟩,⟨[.int .i64 x.f2],[.int .i64 x.f3],rfl,rfl,rfl⟩⟩⟩
theorem k50_mkM (w:World) (base:Nat) (ok:Nat→Prop) (x:S50) {m:Value} (g0:(Kd.int .i64).R 3 w base ok m x.f0) {k:Value} (g1:k54.R 54 w base ok k x.f1):k50.M w base ok x [m,k,.int .i64 x.f2,.int .i64 x.f3]:=⟨[m],[k,.int .i64 x.f2,.int .i64 x.f3],rfl,⟨m,rfl,g0⟩,⟨[k],[.int .i64 x.f2,.int .i64 x.f3],rfl,⟨k,rfl,g1⟩,⟨[.int .i64 x.f2],[.int .i64 x.f3],rfl,rfl,rfl⟩⟩⟩
def rd_T50 (xs:List S50) (i:Int):S50:=xs.getD i.toNat z50
theorem at_T50 {w:World} {A:Option Addr} {n:Nat} {xs:List S50} (h:Kd.C k50 w A n xs) (i:Int) (h0:0≤i) (h1:i<n): ∃ ad a b d f,A=some ad∧w.cell? (ad.add (i.toNat*4))=some (.slice a (rd_T50 xs i).f0.length b)∧w.cell? ⟨(ad.add (i.toNat*4)).block,(ad.add (i.toNat*4)).off+1,none⟩=some (.slice d (rd_T50 xs i).f1.length f)∧w.cell? ⟨(ad.add (i.toNat*4)).block,(ad.add (i.toNat*4)).off+2,none⟩=some (.int .i64 (rd_T50 xs i).f2)∧w.cell? ⟨(ad.add (i.toNat*4)).block,(ad.add (i.toNat*4)).off+3,none⟩=some (.int .i64 (rd_T50 xs i).f3)∧(rd_T50 xs i).f0.length≤b∧(Kd.int .i64).C w a (rd_T50 xs i).f0.length (rd_T50 xs i).f0∧(rd_T50 xs i).f1.length≤f∧k54.C w d (rd_T50 xs i).f1.length (rd_T50 xs i).f1:=by
  obtain⟨ad,c,e,_,hK,g⟩:=C_get h z50 i h0 h1
  have hc: ∀ j u,c[j]?=some u→w.cell? (ad.add (i.toNat*4+j))=some u:=g
  obtain⟨a,b,d,f,rfl,l,g0,o,g1⟩:=k50_open hK
  exact⟨ad,a,b,d,f,e,hc 0 _ rfl,by rw[← add_field _ _ 1 (by omega)];exact hc 1 _ rfl,by rw[← add_field _ _ 2 (by omega)];exact hc 2 _ rfl,by rw[← add_field _ _ 3 (by omega)];exact hc 3 _ rfl,l,g0,o,g1⟩
structure S95 where
  f0:Int
  f1:ByteArray
  f2:Int
def z95:S95:=⟨(0:Int),(⟨#[]⟩ :ByteArray),(0:Int)⟩
def k95:Kd S95:=Kd.iso (Kd.pair (Kd.int .i64) (Kd.pair Kd.string (Kd.int .i64))) (fun x:S95=>(x.f0,x.f1,x.f2))
theorem k95_open {w:World} {x:S95} {cs:List Value} (h:k95.K w x cs):cs= [.int .i64 x.f0,.string x.f1,.int .i64 x.f2]:=by
  obtain⟨_,_,rfl,rfl,⟨_,_,rfl,rfl,rfl⟩⟩:=h
  exact rfl
theorem k95_openM {w:World} {base:Nat} {ok:Nat→Prop} {x:S95} {cs:List Value} (h:k95.M w base ok x cs):cs= [.int .i64 x.f0,.string x.f1,.int .i64 x.f2]:=by
  obtain⟨_,_,rfl,rfl,⟨_,_,rfl,rfl,rfl⟩⟩:=h
  exact rfl
theorem k95_mk (w:World) (x:S95)  :k95.K w x [.int .i64 x.f0,.string x.f1,.int .i64 x.f2]:=⟨[.int .i64 x.f0],[.string x.f1,.int .i64 x.f2],rfl,rfl,⟨[.string x.f1],[.int .i64 x.f2],rfl,rfl,rfl⟩⟩
theorem k95_mkM (w:World) (base:Nat) (ok:Nat→Prop) (x:S95)  :k95.M w base ok x [.int .i64 x.f0,.string x.f1,.int .i64 x.f2]:=⟨[.int .i64 x.f0],[.string x.f1,.int .i64 x.f2],rfl,rfl,⟨[.string x.f1],[.int .i64 x.f2],rfl,rfl,rfl⟩⟩
def rd_T95 (xs:List S95) (i:Int):S95:=xs.getD i.toNat z95
theorem at_T95 {w:World} {A:Option Addr} {n:Nat} {xs:List S95} (h:Kd.C k95 w A n xs) (i:Int) (h0:0≤i) (h1:i<n): ∃ ad,A=some ad∧w.cell? (ad.add (i.toNat*3))=some (.int .i64 (rd_T95 xs i).f0)∧w.cell? ⟨(ad.add (i.toNat*3)).block,(ad.add (i.toNat*3)).off+1,none⟩=some (.string (rd_T95 xs i).f1)∧w.cell? ⟨(ad.add (i.toNat*3)).block,(ad.add (i.toNat*3)).off+2,none⟩=some (.int .i64 (rd_T95 xs i).f2):=by
  obtain⟨ad,c,e,_,hK,g⟩:=C_get h z95 i h0 h1
  have hc: ∀ j u,c[j]?=some u→w.cell? (ad.add (i.toNat*3+j))=some u:=g
  obtain rfl:=k95_open hK
  exact⟨ad,e,hc 0 _ rfl,by rw[← add_field _ _ 1 (by omega)];exact hc 1 _ rfl,by rw[← add_field _ _ 2 (by omega)];exact hc 2 _ rfl⟩
theorem rE {P:Prop} (h:P:=by first|rfl|(simp[errW_none,errW_some] <;> rfl)|(simp[*,errW_none,errW_some] <;> rfl)):P:=h
theorem eqA52 (d:Nat) (w:World) (a b:Int) (c e:Int) :
    (Op.equalIn (d+2) 52 (.agg #[.int .i64 a,.int .i64 c]) (.agg #[.int .i64 b,.int .i64 e])).run Tryz.prog w= .ok (a == b && (c == e)) w:=by
  refine eqA_of Tryz.underlying52 (by kernel_rfl) ?_
  refine eqf_cons (by rfl) (by go_simp;rfl) (by go_simp;rfl) (by go_simp) ?_
  exact eqf_last (by rfl) (by go_simp;rfl) (by go_simp;rfl) (by go_simp)
theorem eqA54 (d:Nat) (w:World) (a b:Int) (c e:Int) (f g:Int) (h i:Int) (j k:Int) (l m:Int) :
    (Op.equalIn (d+3) 54 (.agg #[.int .i64 a,.int .i64 c,.int .i64 f,.int .i64 h,.int .i64 j,.int .i64 l]) (.agg #[.int .i64 b,.int .i64 e,.int .i64 g,.int .i64 i,.int .i64 k,.int .i64 m])).run Tryz.prog w= .ok (a == b && ((c == e && (f == g)) && (h == i && ((j == k && (l == m)))))) w:=by
  refine eqA_of Tryz.underlying54 (by kernel_rfl) ?_
  refine eqf_cons (by rfl) (by go_simp;rfl) (by go_simp;rfl) (by go_simp) ?_
  refine eqf_cons (by rfl) (by go_simp) (by go_simp) (eqA52 (d+0) w _ _ _ _) ?_
  refine eqf_cons (by rfl) (by go_simp;rfl) (by go_simp;rfl) (by go_simp) ?_
  exact eqf_last (by rfl) (by go_simp) (by go_simp) (eqA52 (d+0) w _ _ _ _)
def Bg.f (l:List Int):Option (Bool):=some (decide ((l.length:Int)>1048576))
theorem Bg.calls {c:Option Addr}{i:Nat}{l:List Int}{r:Bool}{w:World}(h:Bg.f l=some r)(n:Kd.C (Kd.int .u8) w c l.length l)(aA:l.length≤i) :
 Calls Tryz.prog 4 #[.slice c l.length i] w fun e w'=>e= .returned (.bool r)∧Drawn0 w w':=by
 have HR0:=aM n;have HC0:=aM aA;clear n aA;have H:(some (decide ((l.length:Int)>1048576)))=some r:=h;clear h;obtain rfl:=Option.some.inj H;go_enter Tryz.func4,Tryz.ntmps4;go_wp2;go_ret
 exact⟨by first|rfl|(simp;done)|(simp[*];done),by repeat(first|exact Drawn0.refl _|apply Drawn0.step)⟩
/-- A state of type 84 at block g of W; what its slices lead to came in by b. -/
def IsS84 (b W:World) (g:Nat) (f0:List Int) (f1:Int) (f2:Int):Prop:= ∃ c i,W.heap[g]?=some (.cells #[.slice c f0.length i,.int .i64 f1,.int .i64 f2] 84 (0,0))∧b.heap.size≤g∧Kd.C (Kd.int .u8) b c f0.length f0
theorem IsS84.grown {b W:World} {g:Nat} {f0:List Int} {f1:Int} {f2:Int} {W1:World} {row:Option Nat} (h:IsS84 b W g f0 f1 f2) (hw:W.grownBy W1 row) (hne:some g≠row):IsS84 b W1 g f0 f1 f2:=by
  obtain⟨c,i,hb,hg,n⟩:=h
  exact⟨c,i,blk_grown hb hw hne,hg,n⟩
theorem IsS84.own_neN {b W:World} {g:Nat} {f0:List Int} {f1:Int} {f2:Int} {α:Type} {d:Kd α} {e:Nat} {base:Nat} {ok:Nat→Prop} {v:Value} {xs:List α} (h:IsS84 b W g f0 f1 f2) (ho:Kd.N d e W base ok v xs) (ht:e≠84):some g≠v.ownBlock:=by
  obtain⟨c,i,hb,hg,n⟩:=h
  exact N_ne ho hb ht
theorem IsS84.fresh {b W:World} {g:Nat} {f0:List Int} {f1:Int} {f2:Int} (h:IsS84 b W g f0 f1 f2): ∀ k,W.heap.size≤k→k≠g:=by
  obtain⟨c,i,hb,hg,n⟩:=h
  exact Kd.freshB hb
theorem IsS84.kept {b W:World} {g:Nat} {f0:List Int} {f1:Int} {f2:Int} {W1:World} {S:Nat→Prop} (h:IsS84 b W g f0 f1 f2) (hk:Kept W W1 S) (hne: ¬ S g):IsS84 b W1 g f0 f1 f2:=by
  obtain⟨c,i,hb,hg,n⟩:=h
  exact⟨c,i,blk_kept hb hk hne,hg,n⟩
theorem IsS84.below {b W:World} {g:Nat} {f0:List Int} {f1:Int} {f2:Int} {W1:World} (h:IsS84 b W g f0 f1 f2) (hw:Below W.heap.size W W1):IsS84 b W1 g f0 f1 f2:=h.grown (grown_of_below hw none) (by simp)
theorem IsS84.alloc {b W:World} {g:Nat} {f0:List Int} {f1:Int} {f2:Int} (h:IsS84 b W g f0 f1 f2) (o:Obj):IsS84 b (W.alloc o) g f0 f1 f2:=h.below (below_alloc (Below.refl _ _) o)
theorem IsS84.drewN {b W:World} {g:Nat} {f0:List Int} {f1:Int} {f2:Int} (h:IsS84 b W g f0 f1 f2) (m:Nat):IsS84 b (W.drewN m) g f0 f1 f2:=h
theorem IsS84.drew {b W:World} {g:Nat} {f0:List Int} {f1:Int} {f2:Int} (h:IsS84 b W g f0 f1 f2):IsS84 b W.drew g f0 f1 f2:=h
theorem IsS84.at_ {b W:World} {g:Nat} {f0:List Int} {f1:Int} {f2:Int} {w':World} {m:Nat} (hq:W.drewN m=w') (h:IsS84 b W g f0 f1 f2):IsS84 b w' g f0 f1 f2:=by subst hq;exact IsS84.drewN h m
theorem IsS84.apart {b W:World} {g:Nat} {f0:List Int} {f1:Int} {f2:Int} {α:Type} {d:Kd α} {e:Nat} {base:Nat} {ok:Nat→Prop} {v:Value} {xs:List α} (h:IsS84 b W g f0 f1 f2) (ho:d.R e W base ok v xs) (ht: ∀ q,q ∈ e :: d.E→q≠84):d.R e W base (fun k=>ok k∧k≠g) v xs:=by
  obtain⟨c,i,hb,hg,n⟩:=h
  exact R_types ho hb ht
theorem IsS84.own_ne {b W:World} {g:Nat} {f0:List Int} {f1:Int} {f2:Int} {α:Type} {d:Kd α} {e:Nat} {base:Nat} {ok:Nat→Prop} {v:Value} {xs:List α} (h:IsS84 b W g f0 f1 f2) (ho:d.R e W base ok v xs) (ht:e≠84):some g≠v.ownBlock:=by
  obtain⟨c,i,hb,hg,n⟩:=h
  exact R_ne ho hb ht
theorem IsS84.apartQ {b W:World} {g:Nat} {f0:List Int} {f1:Int} {f2:Int} {α:Type} {d:Kd α} {e:Nat} {base:Nat} {ok:Nat→Prop} {v:Value} {xs:List α} (h:IsS84 b W g f0 f1 f2) (ho:d.Q e W base ok v xs) (ht: ∀ q,q ∈ e :: d.E→q≠84):d.Q e W base (fun k=>ok k∧k≠g) v xs:=by
  obtain⟨c,i,hb,hg,n⟩:=h
  exact Q_types ho hb ht
theorem IsS84.own_neQ {b W:World} {g:Nat} {f0:List Int} {f1:Int} {f2:Int} {α:Type} {d:Kd α} {e:Nat} {base:Nat} {ok:Nat→Prop} {v:Value} {xs:List α} (h:IsS84 b W g f0 f1 f2) (ho:d.Q e W base ok v xs) (ht:e≠84):some g≠v.ownBlock:=by
  obtain⟨c,i,hb,hg,n⟩:=h
  exact Q_ne ho hb ht
theorem IsS84.apartS {b W:World} {g:Nat} {f0:List Int} {f1:Int} {f2:Int} {α:Type} {d:Kd α} {e:Nat} {base:Nat} {ok:Nat→Prop} {v:Value} {xs:List α} (h:IsS84 b W g f0 f1 f2) (ho:d.S e W base ok v xs) (ht: ∀ q,q ∈ e :: d.E→q≠84):d.S e W base (fun k=>ok k∧k≠g) v xs:=by
  obtain⟨c,i,hb,hg,n⟩:=h
  exact S_types ho hb ht
theorem IsS84.own_neS {b W:World} {g:Nat} {f0:List Int} {f1:Int} {f2:Int} {α:Type} {d:Kd α} {e:Nat} {base:Nat} {ok:Nat→Prop} {v:Value} {xs:List α} (h:IsS84 b W g f0 f1 f2) (ho:d.S e W base ok v xs) (ht:e≠84):some g≠v.ownBlock:=by
  obtain⟨c,i,hb,hg,n⟩:=h
  exact S_ne ho hb ht
theorem IsS84.lt {b W:World} {g:Nat} {f0:List Int} {f1:Int} {f2:Int} (h:IsS84 b W g f0 f1 f2):g<W.heap.size:=by
  obtain⟨c,i,hb,hg,n⟩:=h
  exact blk_lt hb
theorem IsS84.ge {b W:World} {g:Nat} {f0:List Int} {f1:Int} {f2:Int} (h:IsS84 b W g f0 f1 f2):b.heap.size≤g:=by
  obtain⟨c,i,hb,hg,n⟩:=h
  exact hg
theorem IsS84.ne_blk {b W:World} {g:Nat} {f0:List Int} {f1:Int} {f2:Int} {a:Nat} {cs:Array Value} {t:TypeId} {fr:Nat×Nat} (h:IsS84 b W g f0 f1 f2) (hb2:W.heap[a]?=some (.cells cs t fr)) (ht:t≠84):g≠a:=by
  obtain⟨c,i,hb,hg,n⟩:=h
  rintro rfl
  rw[hb]at hb2
  injection hb2 with hb2
  injection hb2 with _ ht2
  exact ht ht2.symm
theorem IsS84.far {b W:World} {g:Nat} {f0:List Int} {f1:Int} {f2:Int} {p:Addr} (h:IsS84 b W g f0 f1 f2) (hne:g≠p.block) (u:Value):IsS84 b (W.setCell p u) g f0 f1 f2:=by
  obtain⟨c,i,hb,hg,n⟩:=h
  exact⟨c,i,blk_far hb hne u,hg,n⟩
theorem cellS84_0 {W:World} {g:Nat} {c:Option Addr} {i:Nat} {f0:List Int} {f1:Int} {f2:Int} (h:W.heap[g]?=some (.cells #[.slice c f0.length i,.int .i64 f1,.int .i64 f2] 84 (0,0))):W.cell? ⟨g,0,none⟩=some (.slice c f0.length i):=(blk_cell h 0).trans rfl
theorem cellS84_1 {W:World} {g:Nat} {c:Option Addr} {i:Nat} {f0:List Int} {f1:Int} {f2:Int} (h:W.heap[g]?=some (.cells #[.slice c f0.length i,.int .i64 f1,.int .i64 f2] 84 (0,0))):W.cell? ⟨g,1,none⟩=some (.int .i64 f1):=(blk_cell h 1).trans rfl
theorem IsS84.set_1 {b W:World} {g:Nat} {f0:List Int} {f1:Int} {f2:Int} (h:IsS84 b W g f0 f1 f2) (x:Int):IsS84 b (W.setCell ⟨g,1,none⟩ (.int .i64 x)) g f0 x f2:=by
  obtain⟨c,i,hb,hg,n⟩:=h
  exact⟨c,i,by simpa using blk_set hb 1 (.int .i64 x),hg,n⟩
theorem cellS84_2 {W:World} {g:Nat} {c:Option Addr} {i:Nat} {f0:List Int} {f1:Int} {f2:Int} (h:W.heap[g]?=some (.cells #[.slice c f0.length i,.int .i64 f1,.int .i64 f2] 84 (0,0))):W.cell? ⟨g,2,none⟩=some (.int .i64 f2):=(blk_cell h 2).trans rfl
theorem IsS84.set_2 {b W:World} {g:Nat} {f0:List Int} {f1:Int} {f2:Int} (h:IsS84 b W g f0 f1 f2) (x:Int):IsS84 b (W.setCell ⟨g,2,none⟩ (.int .i64 x)) g f0 f1 x:=by
  obtain⟨c,i,hb,hg,n⟩:=h
  exact⟨c,i,by simpa using blk_set hb 2 (.int .i64 x),hg,n⟩
theorem IsS84.new (b W:World) (c:Option Addr) (i:Nat) (f0:List Int) (f1:Int) (f2:Int) (hB:Below b.heap.size b W) (n:Kd.C (Kd.int .u8) b c f0.length f0):IsS84 b (W.alloc (.cells #[.slice c f0.length i,.int .i64 f1,.int .i64 f2] 84)) W.heap.size f0 f1 f2:=⟨c,i,by simpa using heap_alloc_new W _,hB.size,n⟩
def Ah.l0:Nat→List Int→Int→Int→Option (List Int×Int×Int)
  | 0,_,_,_=>none
  | k+1,aB,aV,aC=>if aC<(aB.length:Int)then(if aC<4000 then(if 0≤aC then(Ah.l0 k aB (Go.bits .and .i64 (wrap64 ((wrap64 ((wrap64 (aV*131))+(wrap64 (rd aB aC))))+7)) 1073741823) (wrap64 (aC+1)))else(none))else(some (aB,0,aV)))else(some (aB,0,aV))
def Ah.f (k:Nat) (l:List Int):Option (List Int×Int×Int):=Ah.l0 k l (wrap64 (78801+(l.length:Int))) 0
theorem q2x0 {P:Prop} (h:P:=by repeat(first|(with_reducible first|exact HBW.out|apply below_alloc|apply pw_below_drewN|apply below_drew1)|exact HBW.out)):P:=h
theorem q2x1 {P:Prop} (h:P:=by repeat(first|(with_reducible first|exact HBW.out|apply below_alloc|apply pw_below_drewN|apply below_drew1|refine below_set ?_ (Aside0.out (by assumption)))|exact HBW.out)):P:=h
theorem Ah.calls (k:Nat) (c:Option Addr) (i:Nat) (l:List Int) (r1:List Int) (r2:Int) (r3:Int) (b w:World) (hB:Below b.heap.size b w) (n:Kd.C (Kd.int .u8) b c l.length l) (aA:l.length≤i) (h:Ah.f k l=some (r1,r2,r3)) :
 Calls Tryz.prog 15 #[.slice c l.length i] w fun e w'=> ∃ g_:Nat,e= .returned (.pointer (some ⟨g_,0,none⟩))∧IsS84 b w' g_ r1 r2 r3∧Below b.heap.size b w'∧Below w.heap.size w w':=by
 have hu84:=Tryz.underlying84;have HR0:=aM n;have HC0:=aM aA;clear n aA;have HBW:=rW w;have HW0:=aM hB.size;have HB:=aM hB;clear hB;have H:(Ah.l0 k l (wrap64 (78801+(l.length:Int))) 0)=some (r1,r2,r3):=h;clear h;have H':=aM H;clear H;go_enter Tryz.func15,Tryz.ntmps15;go_wp2
 go_loopg [3,4] k (fun kq bQ bR w'=> ∃ (Y:Int) (X:Int),bQ= .int .i64 Y∧bR= .int .i64 X∧Aside0 (Ah.l0 kq l Y X=some (r1,r2,r3))∧Aside0 (kq≤k)∧Aside0 (Below b.heap.size b w')∧Aside0 (Below w.heap.size w w'))
 case atStart=>exact⟨(wrap64 (78801+(l.length:Int))),(0),rS,rS,H',⟨Nat.le_refl _⟩,⟨cB⟩,⟨q2x0⟩⟩
 case round=>
  clear H' HBW;obtain⟨Y,X,rfl,rfl,HA,HK1,HB,HBW⟩:=hrel
  cases gk with
  | zero=>exact absurd HA.out (by simp[Ah.l0])
  | succ k1=>
   have H:=HA.out;clear HA;simp only[Ah.l0]at H;by_cases z:X<(l.length:Int)
   ·rw[if_pos z]at H;have aW:=decide_eq_true z;clear z;by_cases D:X<4000
    ·rw[if_pos D]at H;have aH:=decide_eq_true D;clear D;replace H:=gD H;obtain⟨aX,H⟩:=H;have H':=aM H;clear H;have aY:0≤(X:Int):=dA;have aZ:X<(l.length:Int):=dA;obtain⟨cL,bS,bw⟩:=at_int HR0.out X aY aZ;cases bS;replace bw:=pw_cell_below HB.out bw;replace aY:=eq_true aY;replace aZ:=eq_true aZ;go_wp2;go_roundg k1
     case measure=>exact oK
     case rel=>exact⟨(Go.bits .and .i64 (wrap64 ((wrap64 ((wrap64 (Y*131))+(wrap64 (rd l X))))+7)) 1073741823),(wrap64 (X+1)),rS,rS,H',⟨oK⟩,⟨cB⟩,⟨q2x0⟩⟩
    ·rw[if_neg D]at H;have aH:=decide_eq_false D;clear D;simp only[Option.some.injEq,Prod.mk.injEq]at H;obtain⟨rfl,rfl,rfl⟩:=H
     go_wp2_with (first|((with_reducible refine gN 31 ?_);refine boxZ 31 #[.slice c l.length i,.int .i64 0,.int .i64 Y] 84 ?_;intro aI hg bT hbox hb;replace HB:=sB hb;have bU:=aM hbox;have GW102:=aM ((by rw[hg];exact(below_size q2x0):w.heap.size≤aI));have GE102:=aM ((Nat.le_trans HW0.out (by rw[hg];exact(below_size q2x0):w.heap.size≤aI):b.heap.size≤aI));replace HBW:=aM (below_step HBW.out hb);clear hb hbox hg))
     go_ret
     exact⟨_,rfl,(show IsS84 b _ aI l 0 Y from ⟨_,_,kS bU _,GE102.out,HR0.out⟩),cB,q2x1⟩
   ·rw[if_neg z]at H;have aW:=decide_eq_false z;clear z;simp only[Option.some.injEq,Prod.mk.injEq]at H;obtain⟨rfl,rfl,rfl⟩:=H
    go_wp2_with (first|((with_reducible refine gN 31 ?_);refine boxZ 31 #[.slice c l.length i,.int .i64 0,.int .i64 Y] 84 ?_;intro aJ hg bx hbox hb;replace HB:=sB hb;have bV:=aM hbox;have GW103:=aM ((by rw[hg];exact(below_size q2x0):w.heap.size≤aJ));have GE103:=aM ((Nat.le_trans HW0.out (by rw[hg];exact(below_size q2x0):w.heap.size≤aJ):b.heap.size≤aJ));replace HBW:=aM (below_step HBW.out hb);clear hb hbox hg))
    go_ret
    exact⟨_,rfl,(show IsS84 b _ aJ l 0 Y from ⟨_,_,kS bV _,GE103.out,HR0.out⟩),cB,q2x1⟩
def A9.f (s0_0:List Int) (s0_1:Int) (s0_2:Int):Option (Int×Int×Int):=if s0_1<(s0_0.length:Int)then(if 0≤s0_1 then(some (Go.bits .and .i64 (wrap64 ((Go.bits .and .i64 (Go.bits .xor .i64 ((wrap64 ((wrap64 (s0_2*6364136223846793005))+1442695040888963407)) / 8589934592) ((wrap64 ((wrap64 (s0_2*6364136223846793005))+1442695040888963407)) / 35184372088832)) 255)+(wrap64 (rd s0_0 s0_1)))) 255,wrap64 (s0_1+1),wrap64 ((wrap64 (s0_2*6364136223846793005))+1442695040888963407)))else(none))else(some (Go.bits .and .i64 (Go.bits .xor .i64 ((wrap64 ((wrap64 (s0_2*6364136223846793005))+1442695040888963407)) / 8589934592) ((wrap64 ((wrap64 (s0_2*6364136223846793005))+1442695040888963407)) / 35184372088832)) 255,s0_1,wrap64 ((wrap64 (s0_2*6364136223846793005))+1442695040888963407)))
theorem q2x2 {P:Prop} (h:P:=by repeat(first|(with_reducible first|exact HI0.out|apply IsS84.alloc|apply IsS84.drewN|apply IsS84.drew|apply IsS84.set_1|apply IsS84.set_2)|exact HI0.out)):P:=h
theorem q2x3 {P:Prop} (h:P:=by repeat(first|(with_reducible first|exact HB.out|apply below_alloc|apply pw_below_drewN|apply below_drew1|refine below_set ?_ (IsS84.ge HI0.out))|exact HB.out)):P:=h
theorem A9.calls (g:Nat) (s0_0:List Int) (s0_1:Int) (s0_2:Int) (r1:Int) (r2:Int) (r3:Int) (b w:World) (hI:IsS84 b w g s0_0 s0_1 s0_2) (hB:Below b.heap.size b w) (h:A9.f s0_0 s0_1 s0_2=some (r1,r2,r3)) :
 Calls Tryz.prog 64 #[.pointer (some ⟨g,0,none⟩)] w fun e w'=>e= .returned (.int .i64 r1)∧IsS84 b w' g s0_0 r2 r3∧Below b.heap.size b w'∧KeepBut w w' g none:=by
 have HI0:=aM hI;have HK:=aM (KeepBut.refl w g none);have HL:=aM hB.size;clear hI;have HW0:=aM hB.size;have HB:=aM hB;clear hB;have H:(if s0_1<(s0_0.length:Int)then(if 0≤s0_1 then(some (Go.bits .and .i64 (wrap64 ((Go.bits .and .i64 (Go.bits .xor .i64 ((wrap64 ((wrap64 (s0_2*6364136223846793005))+1442695040888963407)) / 8589934592) ((wrap64 ((wrap64 (s0_2*6364136223846793005))+1442695040888963407)) / 35184372088832)) 255)+(wrap64 (rd s0_0 s0_1)))) 255,wrap64 (s0_1+1),wrap64 ((wrap64 (s0_2*6364136223846793005))+1442695040888963407)))else(none))else(some (Go.bits .and .i64 (Go.bits .xor .i64 ((wrap64 ((wrap64 (s0_2*6364136223846793005))+1442695040888963407)) / 8589934592) ((wrap64 ((wrap64 (s0_2*6364136223846793005))+1442695040888963407)) / 35184372088832)) 255,s0_1,wrap64 ((wrap64 (s0_2*6364136223846793005))+1442695040888963407))))=some (r1,r2,r3):=h;clear h;by_cases z:s0_1<(s0_0.length:Int)
 ·rw[if_pos z]at H;have aW:=decide_eq_true z;clear z;replace H:=gD H;obtain⟨aH,H⟩:=H;simp only[Option.some.injEq,Prod.mk.injEq]at H;obtain⟨rfl,rfl,rfl⟩:=H;obtain⟨ASz4_0,cSz4_0,HGz4,hgz4,HSz4_0⟩:=HI0.out;have cM:=cellS84_0 HGz4;have cN:=cellS84_1 HGz4;have cO:=cellS84_2 HGz4;have cP:=blk_frozen HGz4 1;have cQ:=blk_frozen HGz4 2;clear HGz4 hgz4;have a0:0≤(s0_1:Int):=dA;have a1:s0_1<(s0_0.length:Int):=dA;obtain⟨bW,bX,am⟩:=at_int HSz4_0 s0_1 a0 a1;cases bX
  have aK:bW.block≠g:=Nat.ne_of_lt (Nat.lt_of_lt_of_le (by have:=World.block_lt_of_cell? _ _ am;first|rwa [add_block]at this|exact this) (IsS84.ge HI0.out))
  replace am:=pw_cell_below HB.out am
  replace am:=(cell_far (p:=⟨g,2,none⟩) (by first|(rw[add_block];exact aK)|(show(Addr.add _ _).block≠_;rw[add_block];exact aK)|exact aK) (.int .i64 (wrap64 ((wrap64 (s0_2*6364136223846793005))+1442695040888963407)))).trans am
  (try have hy104_0:=fun (n_:Nat)=>(show(((w.drewN n_).setCell ⟨g,2,none⟩ (.int .i64 (wrap64 ((wrap64 (s0_2*6364136223846793005))+1442695040888963407))))).cell? _=some _ from am))
  clear aK;replace a0:=eq_true a0;replace a1:=eq_true a1;go_enter Tryz.func64,Tryz.ntmps64;go_wp2
  repeat(go_quiet (fail);try go_wp2)
  go_ret;exact⟨rE,q2x2,q2x3,cK⟩
 ·rw[if_neg z]at H;have aW:=decide_eq_false z;clear z;simp only[Option.some.injEq,Prod.mk.injEq]at H;obtain⟨rfl,rfl,rfl⟩:=H;obtain⟨ASz5_0,cSz5_0,HGz5,hgz5,HSz5_0⟩:=HI0.out;have cR:=cellS84_0 HGz5;have cS:=cellS84_1 HGz5;have cT:=cellS84_2 HGz5;have cU:=blk_frozen HGz5 1;have cV:=blk_frozen HGz5 2;clear HGz5 hgz5;go_enter Tryz.func64,Tryz.ntmps64;go_wp2
  repeat(go_quiet (fail);try go_wp2)
  go_ret;exact⟨rE,q2x2,q2x3,cK⟩
def AG.f (s0_0:List Int) (s0_1:Int) (s0_2:Int) (y:Int):Option (Int×Int×Int):=if y≤0 then(some (0,s0_1,s0_2))else(if y≤256 then((A9.f s0_0 s0_1 s0_2).bind fun a2=>(if y=0 then(none)else(some (Int.tmod a2.1 y,a2.2.1,a2.2.2))))else((A9.f s0_0 s0_1 s0_2).bind fun a3=>((A9.f s0_0 a3.2.1 a3.2.2).bind fun a4=>((A9.f s0_0 a4.2.1 a4.2.2).bind fun a5=>((A9.f s0_0 a5.2.1 a5.2.2).bind fun a6=>(if y=0 then(none)else(some (Int.tmod (wrap64 ((wrap64 ((wrap64 ((wrap64 (a3.1*16777216))+(wrap64 (a4.1*65536))))+(wrap64 (a5.1*256))))+a6.1)) y,a6.2.1,a6.2.2))))))))
theorem AG.calls (g:Nat) (s0_0:List Int) (s0_1:Int) (s0_2:Int) (y:Int) (r1:Int) (r2:Int) (r3:Int) (b w:World) (hI:IsS84 b w g s0_0 s0_1 s0_2) (hB:Below b.heap.size b w) (h:AG.f s0_0 s0_1 s0_2 y=some (r1,r2,r3)) :
 Calls Tryz.prog 28 #[.pointer (some ⟨g,0,none⟩),.int .i64 y] w fun e w'=>e= .returned (.int .i64 r1)∧IsS84 b w' g s0_0 r2 r3∧Below b.heap.size b w'∧KeepBut w w' g none:=by
 have HI0:=aM hI;have HK:=aM (KeepBut.refl w g none);have HL:=aM hB.size;clear hI;have HW0:=aM hB.size;have HB:=aM hB;clear hB
 unfold AG.f at h;have H:=h
 clear h;by_cases D:y≤0
 ·rw[if_pos D]at H;have aH:=decide_eq_true D;clear D;simp only[Option.some.injEq,Prod.mk.injEq]at H;obtain⟨rfl,rfl,rfl⟩:=H;go_enter Tryz.func28,Tryz.ntmps28;go_wp2;go_ret;exact⟨rE,q2x2,q2x3,cK⟩
 ·rw[if_neg D]at H;have aH:=decide_eq_false D;clear D;by_cases J:y≤256
  ·rw[if_pos J]at H;have aX:=decide_eq_true J;clear J;replace H:=bE H;obtain⟨⟨bY,bZ,b0⟩,an,H⟩:=H;(try dsimp only at H);by_cases aa:y=0
   ·rw[if_pos aa]at H;cases H
   ·rw[if_neg aa]at H;obtain⟨cW,cX⟩:=eF aa;simp only[Option.some.injEq,Prod.mk.injEq]at H;obtain⟨rfl,rfl,rfl⟩:=H;go_enter Tryz.func28,Tryz.ntmps28
    go_wp2_with (first|((with_reducible refine gF 64 ?_);refine gX (some 14) Tryz.func64 (A9.calls g s0_0 s0_1 s0_2 bY bZ b0 b _ q2x2 q2x3 an.out) ?_;rintro b1 ⟨hi,hb,hk⟩;replace HK:=tK (w:=w) hk;replace HB:=aM hb;replace HI0:=aM hi;clear hb hk hi))
    go_ret;exact⟨rE,q2x2,q2x3,cK⟩
  ·rw[if_neg J]at H;have aX:=decide_eq_false J;clear J;replace H:=bE H;obtain⟨⟨b5,bz,bA⟩,b8,H⟩:=H;(try dsimp only at H);replace H:=bE H;obtain⟨⟨b9,bB,bC⟩,ca,H⟩:=H;(try dsimp only at H);replace H:=bE H;obtain⟨⟨cb,bD,bF⟩,cc,H⟩:=H;(try dsimp only at H);replace H:=bE H;obtain⟨⟨cd,ce,cf⟩,cg,H⟩:=H;(try dsimp only at H);by_cases a7:y=0
   ·rw[if_pos a7]at H;cases H
   ·rw[if_neg a7]at H;obtain⟨cY,cZ⟩:=eF a7;simp only[Option.some.injEq,Prod.mk.injEq]at H;obtain⟨rfl,rfl,rfl⟩:=H;go_enter Tryz.func28,Tryz.ntmps28
    go_wp2_with (first|((with_reducible refine gF 64 ?_);refine gX (some 18) Tryz.func64 (A9.calls g s0_0 s0_1 s0_2 b5 bz bA b _ q2x2 q2x3 b8.out) ?_;rintro ch ⟨hi,hb,hk⟩;replace HK:=tK (w:=w) hk;replace HB:=aM hb;replace HI0:=aM hi;clear hb hk hi)|((with_reducible refine gF 64 ?_);refine gX (some 20) Tryz.func64 (A9.calls g s0_0 bz bA b9 bB bC b _ q2x2 q2x3 ca.out) ?_;rintro c0 ⟨hi,hb,hk⟩;replace HK:=tK (w:=w) hk;replace HB:=aM hb;replace HI0:=aM hi;clear hb hk hi)|((with_reducible refine gF 64 ?_);refine gX (some 22) Tryz.func64 (A9.calls g s0_0 bB bC cb bD bF b _ q2x2 q2x3 cc.out) ?_;rintro c1 ⟨hi,hb,hk⟩;replace HK:=tK (w:=w) hk;replace HB:=aM hb;replace HI0:=aM hi;clear hb hk hi)|((with_reducible refine gF 64 ?_);refine gX (some 24) Tryz.func64 (A9.calls g s0_0 bD bF cd ce cf b _ q2x2 q2x3 cg.out) ?_;rintro ci ⟨hi,hb,hk⟩;replace HK:=tK (w:=w) hk;replace HB:=aM hb;replace HI0:=aM hi;clear hb hk hi))
    go_ret;exact⟨rE,q2x2,q2x3,cK⟩
def A6.f (s0_0:List Int) (s0_1:Int) (s0_2:Int) (G:List Int):Option (Int×Int×Int):=(AG.f s0_0 s0_1 s0_2 (G.length:Int)).bind fun aD=>(if 0≤aD.1 then(if aD.1<(G.length:Int)then(some (rd G aD.1,aD.2.1,aD.2.2))else(none))else(none))
theorem A6.calls (g:Nat) (s0_0:List Int) (s0_1:Int) (s0_2:Int) (a8:Option Addr) (bG:Nat) (G:List Int) (r1:Int) (r2:Int) (r3:Int) (b w:World) (hI:IsS84 b w g s0_0 s0_1 s0_2) (hB:Below b.heap.size b w) (bH:Kd.C (Kd.int .i64) w a8 G.length G) (bI:G.length≤bG) (hf1: ∀ ad,a8=some ad→0<G.length→ad.block≠g) (h:A6.f s0_0 s0_1 s0_2 G=some (r1,r2,r3)) :
 Calls Tryz.prog 46 #[.pointer (some ⟨g,0,none⟩),.slice a8 G.length bG] w fun e w'=>e= .returned (.int .i64 r1)∧IsS84 b w' g s0_0 r2 r3∧Below b.heap.size b w'∧KeepBut w w' g none:=by
 have HR1:=aM bH;have HC1:=aM bI;clear bH bI;have HI0:=aM hI;have HK:=aM (KeepBut.refl w g none);have HL:=aM hB.size;clear hI;have HW0:=aM hB.size;have HB:=aM hB;clear hB
 unfold A6.f at h;have H:=h
 clear h;replace H:=bE H;obtain⟨⟨aL,cj,ck⟩,L,H⟩:=H;(try dsimp only at H);replace H:=gD H;obtain⟨aX,H⟩:=H;replace H:=gD H;obtain⟨c2,H⟩:=H;simp only[Option.some.injEq,Prod.mk.injEq]at H;obtain⟨rfl,rfl,rfl⟩:=H;go_enter Tryz.func46,Tryz.ntmps46
 go_wp2_with (first|((with_reducible refine gF 28 ?_);refine gX (some 9) Tryz.func28 (AG.calls g s0_0 s0_1 s0_2 (G.length:Int) aL cj ck b _ q2x2 q2x3 L.out) ?_;rintro bx ⟨hi,hb,hk⟩;replace HK:=tK (w:=w) hk;replace HB:=aM hb;replace HI0:=aM hi;clear hb hk hi;have a9:0≤(aL:Int):=dA;have ba:aL<(G.length:Int):=dA;obtain⟨cl,cm,bJ⟩:=at_int HR1.out aL a9 ba;cases cm;replace bJ:=keep_cell HK.out bJ (by first|(rw[add_block];exact hf1 _ rfl (by omega))|exact hf1 _ rfl (by omega)|exact hf1 cl rfl (by omega));replace a9:=eq_true a9;replace ba:=eq_true ba))
 go_ret;exact⟨rE,q2x2,q2x3,cK⟩
def A7.f (s0_0:List Int) (s0_1:Int) (s0_2:Int) (y:Int):Option (Bool×Int×Int):=(AG.f s0_0 s0_1 s0_2 y).bind fun bb=>(some ((bb.1 == 0),bb.2.1,bb.2.2))
theorem A7.calls (g:Nat) (s0_0:List Int) (s0_1:Int) (s0_2:Int) (y:Int) (r1:Bool) (r2:Int) (r3:Int) (b w:World) (hI:IsS84 b w g s0_0 s0_1 s0_2) (hB:Below b.heap.size b w) (h:A7.f s0_0 s0_1 s0_2 y=some (r1,r2,r3)) :
 Calls Tryz.prog 38 #[.pointer (some ⟨g,0,none⟩),.int .i64 y] w fun e w'=>e= .returned (.bool r1)∧IsS84 b w' g s0_0 r2 r3∧Below b.heap.size b w'∧KeepBut w w' g none:=by
 have HI0:=aM hI;have HK:=aM (KeepBut.refl w g none);have HL:=aM hB.size;clear hI;have HW0:=aM hB.size;have HB:=aM hB;clear hB
 unfold A7.f at h;have H:=h
 clear h;replace H:=bE H;obtain⟨⟨cn,co,cp⟩,L,H⟩:=H;(try dsimp only at H);simp only[Option.some.injEq,Prod.mk.injEq]at H;obtain⟨rfl,rfl,rfl⟩:=H;go_enter Tryz.func38,Tryz.ntmps38
 go_wp2_with (first|((with_reducible refine gF 28 ?_);refine gX (some 7) Tryz.func28 (AG.calls g s0_0 s0_1 s0_2 y cn co cp b _ q2x2 q2x3 L.out) ?_;rintro cq ⟨hi,hb,hk⟩;replace HK:=tK (w:=w) hk;replace HB:=aM hb;replace HI0:=aM hi;clear hb hk hi))
 go_ret;exact⟨rE,q2x2,q2x3,cK⟩
def BS.f (s0_0:List Int) (s0_1:Int) (s0_2:Int):Option (Int×Int×Int):=(AG.f s0_0 s0_1 s0_2 12).bind fun bd=>((A6.f s0_0 bd.2.1 bd.2.2 (([0,1,2,3,5,7,255,4294967295,2147483648,bd.1] :List Int))).bind fun be=>(some (be.1,be.2.1,be.2.2)))
theorem BS.calls (g:Nat) (s0_0:List Int) (s0_1:Int) (s0_2:Int) (r1:Int) (r2:Int) (r3:Int) (b w:World) (hI:IsS84 b w g s0_0 s0_1 s0_2) (hB:Below b.heap.size b w) (h:BS.f s0_0 s0_1 s0_2=some (r1,r2,r3)) :
 Calls Tryz.prog 84 #[.pointer (some ⟨g,0,none⟩)] w fun e w'=>e= .returned (.int .i64 r1)∧IsS84 b w' g s0_0 r2 r3∧Below b.heap.size b w'∧KeepBut w w' g none:=by
 have HI0:=aM hI;have HK:=aM (KeepBut.refl w g none);have HL:=aM hB.size;clear hI;have HW0:=aM hB.size;have HB:=aM hB;clear hB
 unfold BS.f at h;have H:=h
 clear h;replace H:=bE H;obtain⟨⟨ao,bf,bg⟩,ah,H⟩:=H;(try dsimp only at H);obtain⟨cr,bh⟩ : ∃ y_:List Int,Aside0 (y_=(([0,1,2,3,5,7,255,4294967295,2147483648,ao] :List Int))):=⟨_,⟨rfl⟩⟩;rw[← bh.out]at H;replace H:=bE H;obtain⟨⟨ct,cu,cv⟩,L,H⟩:=H;(try dsimp only at H);simp only[Option.some.injEq,Prod.mk.injEq]at H;obtain⟨rfl,rfl,rfl⟩:=H;go_enter Tryz.func84,Tryz.ntmps84
 go_wp2_with (first|((with_reducible refine gF 28 ?_);refine gX (some 5) Tryz.func28 (AG.calls g s0_0 s0_1 s0_2 12 ao bf bg b _ q2x2 q2x3 ah.out) ?_;rintro cq ⟨hi,hb,hk⟩;replace HK:=tK (w:=w) hk;replace HB:=aM hb;replace HI0:=aM hi;clear hb hk hi)|((with_reducible refine gN 6 ?_);refine R_lit (Kd.int .i64) _ 3 ?hg (N:=6) ?hd (xs:=([0,1,2,3,5,7,255,4294967295,2147483648,ao] :List Int)) (inner:=[.int .i64 0,.int .i64 1,.int .i64 2,.int .i64 3,.int .i64 5,.int .i64 7,.int .i64 255,.int .i64 4294967295,.int .i64 2147483648,.int .i64 ao]) (ok:=fun _=>True) (okp:=fun _=>True) ?hr ?hp (fun _ hk=>hk) trivial (Below.refl _ _) (Nat.le_refl _) (by simp) ?_;(case hd=>rfl);(case hg=>rfl);(case hr=>exact rG);(case hp=>exact(Reps.one (zMI 0) (Reps.one (zMI 1) (Reps.one (zMI 2) (Reps.one (zMI 3) (Reps.one (zMI 5) (Reps.one (zMI 7) (Reps.one (zMI 255) (Reps.one (zMI 4294967295) (Reps.one (zMI 2147483648) (Reps.one (show Kd.M (Kd.int .i64) _ _ _ ao [.int .i64 ao]from rfl) (Reps.none _ _))))))))))));intro c3 bT aE hb hg_ hnew_;clear hg_ hnew_;(first|rw[← bh.out]at aE|(simp only[Int.reduceToNat]at aE;rw[← bh.out]at aE));have ap:=aM (R_lower aE (keep_size (w:=w) (g:=g) (row:=none) cK));replace HK:=zKT (w:=w) (g:=g) hb;replace HB:=aM (below_step q2x3 hb);replace HI0:=aM (IsS84.below q2x2 hb);clear hb aE;obtain⟨c4,c6,cw⟩:=R_slice ap.out;subst cw)|((with_reducible refine gF 46 ?_);refine gX (some 7) Tryz.func46 (A6.calls g s0_0 bf bg _ _ cr ct cu cv b _ q2x2 q2x3 (rX ap) ((rY ap)) (far_slice (IsS84.own_ne HI0.out ap.out (by decide))) L.out) ?_;rintro bL ⟨hi,hb,hk⟩;replace ap:=aM (R_mono (R_keep (IsS84.apart (show IsS84 b _ g s0_0 bf bg from q2x2) (mR ap) (by decide)) hk (fun _ h=>h.2)) (fun _ h=>h.1));replace HK:=tK (w:=w) hk;replace HB:=aM hb;replace HI0:=aM hi;clear hb hk hi))
 go_ret;exact⟨rE,q2x2,q2x3,cK⟩
def BN.f (s0_0:List Int) (s0_1:Int) (s0_2:Int):Option (Int×Int×Int×Int):=(BS.f s0_0 s0_1 s0_2).bind fun aN=>((A7.f s0_0 aN.2.1 aN.2.2 3).bind fun aF=>(if aF.1=true then((BS.f s0_0 aF.2.1 aF.2.2).bind fun bi=>(some (bi.1,aN.1,bi.2.1,bi.2.2)))else(some (0,aN.1,aF.2.1,aF.2.2))))
theorem q2x4 {P:Prop} (h:P:=by repeat(first|(with_reducible first|exact HI0.out|apply IsS84.alloc|apply IsS84.drewN|apply IsS84.drew|apply IsS84.set_1|apply IsS84.set_2|(apply IsS84.far;case hne=>exact(Aside0.out (by assumption))))|exact HI0.out)):P:=h
theorem q2x5 {P:Prop} (h:P:=by repeat(first|(with_reducible first|exact HB.out|apply below_alloc|apply pw_below_drewN|apply below_drew1|refine below_set ?_ (IsS84.ge HI0.out)|refine below_set ?_ (Aside0.out (by assumption)))|exact HB.out)):P:=h
theorem BN.calls (g:Nat) (s0_0:List Int) (s0_1:Int) (s0_2:Int) (r1:Int) (r2:Int) (r3:Int) (r4:Int) (b w:World) (hI:IsS84 b w g s0_0 s0_1 s0_2) (hB:Below b.heap.size b w) (h:BN.f s0_0 s0_1 s0_2=some (r1,r2,r3,r4)) :
 Calls Tryz.prog 48 #[.pointer (some ⟨g,0,none⟩)] w fun e w'=>e= .returned (.agg #[.int .i64 r1,.int .i64 r2])∧IsS84 b w' g s0_0 r3 r4∧Below b.heap.size b w'∧KeepBut w w' g none:=by
 have hu52:=Tryz.underlying52;have HI0:=aM hI;have HK:=aM (KeepBut.refl w g none);have HL:=aM hB.size;clear hI;have HW0:=aM hB.size;have HB:=aM hB;clear hB
 unfold BN.f at h;have H:=h
 clear h;replace H:=bE H;obtain⟨⟨aq,ab,ac⟩,ah,H⟩:=H;(try dsimp only at H);replace H:=bE H;obtain⟨⟨cx,bj,bk⟩,L,H⟩:=H;(try dsimp only at H);by_cases J:cx=true
 ·subst J;replace H:=iT H;replace H:=bE H;obtain⟨⟨bM,cy,cz⟩,an,H⟩:=H;(try dsimp only at H);simp only[Option.some.injEq,Prod.mk.injEq]at H;obtain⟨rfl,rfl,rfl,rfl⟩:=H;go_enter Tryz.func48,Tryz.ntmps48
  go_wp2_with (first|((with_reducible refine gN 2 ?_);refine boxZ 2 #[.int .i64 0,.int .i64 0] 52 ?_;intro ai hg bx hbox hb;replace HB:=aM (below_step q2x3 hb);have s:=aM hbox;have GW136:=gK (w:=w) hg;have GE136:=gW HW0 hg;replace HK:=zKT (w:=w) (g:=g) hb;have bl:=aM ((by rw[hg];exact Nat.ne_of_lt (IsS84.lt (show IsS84 b _ g s0_0 s0_1 s0_2 from q2x2)):g≠ai));have ae:=aM ((by rw[hg];exact Nat.ne_of_gt (IsS84.lt (show IsS84 b _ g s0_0 s0_1 s0_2 from q2x2)):ai≠g));replace HI0:=aM (IsS84.below q2x2 hb);clear hb hbox hg)|((with_reducible refine gF 84 ?_);refine gX (some 5) Tryz.func84 (BS.calls g s0_0 s0_1 s0_2 aq ab ac b _ q2x4 q2x5 ah.out) ?_;rintro b1 ⟨hi,hb,hk⟩;replace s:=bK hk s ae.out;replace HK:=tK (w:=w) hk;replace HB:=aM hb;replace HI0:=aM hi;clear hb hk hi)|((with_reducible refine gN 3 ?_);refine boxZ 3 #[.int .i64 0,.int .i64 0] 52 ?_;intro aj hg bL hbox hb;replace HB:=aM (below_step q2x5 hb);have O:=aM hbox;have GW140:=gK (w:=w) hg;have GE140:=gW HW0 hg;replace HK:=zKT (w:=w) (g:=g) hb;have bm:=nL hg s;have bn:=nG hg s;replace s:=kB s hb;have bo:=aM ((by rw[hg];exact Nat.ne_of_lt (IsS84.lt (show IsS84 b _ g s0_0 ab ac from q2x4)):g≠aj));have ar:=aM ((by rw[hg];exact Nat.ne_of_gt (IsS84.lt (show IsS84 b _ g s0_0 ab ac from q2x4)):aj≠g));replace HI0:=aM (IsS84.below q2x4 hb);clear hb hbox hg;have hnb9:=bn.out;have hnc9:=bm.out;have hnb10:=ar.out;have hnc10:=bo.out;obtain⟨da,db,dc,dd⟩:=cz2 O)|((with_reducible refine gF 38 ?_);refine gX (some 8) Tryz.func38 (A7.calls g s0_0 ab ac 3 true bj bk b _ q2x4 q2x5 L.out) ?_;rintro cA ⟨hi,hb,hk⟩;replace s:=bK hk s ae.out;replace O:=aM (KeepBut.blk hk (g':=aj) (o:= .cells #[.int .i64 0,.int .i64 aq] 52 (0,0)) (kS O _) ar.out (by simp));replace HK:=tK (w:=w) hk;replace HB:=aM hb;replace HI0:=aM hi;clear hb hk hi)|((with_reducible refine gF 84 ?_);refine gX (some 10) Tryz.func84 (BS.calls g s0_0 bj bk bM cy cz b _ q2x4 q2x5 an.out) ?_;rintro ch ⟨hi,hb,hk⟩;replace s:=bK hk s ae.out;replace O:=bK hk O ar.out;replace HK:=tK (w:=w) hk;replace HB:=aM hb;replace HI0:=aM hi;clear hb hk hi;obtain⟨de,df,dg,dh⟩:=cz2 O;have hnb15:=ae.out;have hnc15:=bl.out;obtain⟨di,dj,dk,dl⟩:=cz2 s))
  refine bodyPost_ret (results_cell_row rfl _ _ ai 52 #[.int .i64 bM,.int .i64 aq] (0,0) _ rfl (kS s _) Tryz.underlying52 rfl (by kernel_rfl)) rfl ?_
  exact⟨rE,q2x4,q2x5,cK⟩
 ·replace J:=Bool.eq_false_iff.mpr J;subst J;replace H:=iF H;simp only[Option.some.injEq,Prod.mk.injEq]at H;obtain⟨rfl,rfl,rfl,rfl⟩:=H;go_enter Tryz.func48,Tryz.ntmps48
  go_wp2_with (first|((with_reducible refine gN 2 ?_);refine boxZ 2 #[.int .i64 0,.int .i64 0] 52 ?_;intro ai hg cD hbox hb;replace HB:=aM (below_step q2x3 hb);have s:=aM hbox;have GW136:=gK (w:=w) hg;have GE136:=gW HW0 hg;replace HK:=zKT (w:=w) (g:=g) hb;have bl:=aM ((by rw[hg];exact Nat.ne_of_lt (IsS84.lt (show IsS84 b _ g s0_0 s0_1 s0_2 from q2x2)):g≠ai));have ae:=aM ((by rw[hg];exact Nat.ne_of_gt (IsS84.lt (show IsS84 b _ g s0_0 s0_1 s0_2 from q2x2)):ai≠g));replace HI0:=aM (IsS84.below q2x2 hb);clear hb hbox hg)|((with_reducible refine gF 84 ?_);refine gX (some 5) Tryz.func84 (BS.calls g s0_0 s0_1 s0_2 aq ab ac b _ q2x4 q2x5 ah.out) ?_;rintro dm ⟨hi,hb,hk⟩;replace s:=bK hk s ae.out;replace HK:=tK (w:=w) hk;replace HB:=aM hb;replace HI0:=aM hi;clear hb hk hi)|((with_reducible refine gN 3 ?_);refine boxZ 3 #[.int .i64 0,.int .i64 0] 52 ?_;intro aj hg dn hbox hb;replace HB:=aM (below_step q2x5 hb);have O:=aM hbox;have GW140:=gK (w:=w) hg;have GE140:=gW HW0 hg;replace HK:=zKT (w:=w) (g:=g) hb;have bm:=nL hg s;have bn:=nG hg s;replace s:=kB s hb;have bo:=aM ((by rw[hg];exact Nat.ne_of_lt (IsS84.lt (show IsS84 b _ g s0_0 ab ac from q2x4)):g≠aj));have ar:=aM ((by rw[hg];exact Nat.ne_of_gt (IsS84.lt (show IsS84 b _ g s0_0 ab ac from q2x4)):aj≠g));replace HI0:=aM (IsS84.below q2x4 hb);clear hb hbox hg;have hnb20:=bn.out;have hnc20:=bm.out;have hnb21:=ar.out;have hnc21:=bo.out;obtain⟨dp,dq,dr,ds⟩:=cz2 O)|((with_reducible refine gF 38 ?_);refine gX (some 8) Tryz.func38 (A7.calls g s0_0 ab ac 3 false bj bk b _ q2x4 q2x5 L.out) ?_;rintro cE ⟨hi,hb,hk⟩;replace s:=bK hk s ae.out;replace O:=aM (KeepBut.blk hk (g':=aj) (o:= .cells #[.int .i64 0,.int .i64 aq] 52 (0,0)) (kS O _) ar.out (by simp));replace HK:=tK (w:=w) hk;replace HB:=aM hb;replace HI0:=aM hi;clear hb hk hi;obtain⟨dt,du,dv,dw⟩:=cz2 O;have hnb25:=ae.out;have hnc25:=bl.out;obtain⟨dx,dy,dz,dC⟩:=cz2 s))
  refine bodyPost_ret (results_cell_row rfl _ _ ai 52 #[.int .i64 0,.int .i64 aq] (0,0) _ rfl (kS s _) Tryz.underlying52 rfl (by kernel_rfl)) rfl ?_
  exact⟨rE,q2x4,q2x5,cK⟩
def Bh.f (s0_0:List Int) (s0_1:Int) (s0_2:Int):Option (Int×Int×Int×Int×Int×Int×Int×Int):=(AG.f s0_0 s0_1 s0_2 3).bind fun aO=>((AG.f s0_0 aO.2.1 aO.2.2 6).bind fun aP=>((BN.f s0_0 aP.2.1 aP.2.2).bind fun au=>((A7.f s0_0 au.2.2.1 au.2.2.2 3).bind fun aG=>(if aG.1=true then((BN.f s0_0 aG.2.1 aG.2.2).bind fun aQ=>(some (aO.1,aQ.1,aQ.2.1,wrap64 (1+aP.1),au.1,au.2.1,aQ.2.2.1,aQ.2.2.2)))else(some (aO.1,4294967295,4294967295,wrap64 (1+aP.1),au.1,au.2.1,aG.2.1,aG.2.2))))))
theorem Bh.calls (g:Nat) (s0_0:List Int) (s0_1:Int) (s0_2:Int) (r1:Int) (r2:Int) (r3:Int) (r4:Int) (r5:Int) (r6:Int) (r7:Int) (r8:Int) (b w:World) (hI:IsS84 b w g s0_0 s0_1 s0_2) (hB:Below b.heap.size b w) (h:Bh.f s0_0 s0_1 s0_2=some (r1,r2,r3,r4,r5,r6,r7,r8)) :
 Calls Tryz.prog 83 #[.pointer (some ⟨g,0,none⟩)] w fun e w'=>e= .returned (.agg #[.int .i64 r1,.int .i64 r2,.int .i64 r3,.int .i64 r4,.int .i64 r5,.int .i64 r6])∧IsS84 b w' g s0_0 r7 r8∧Below b.heap.size b w'∧KeepBut w w' g none:=by
 have hu54:=Tryz.underlying54;have hu52:=Tryz.underlying52;have HI0:=aM hI;have HK:=aM (KeepBut.refl w g none);have HL:=aM hB.size;clear hI;have HW0:=aM hB.size;have HB:=aM hB;clear hB
 unfold Bh.f at h;have H:=h
 clear h;replace H:=bE H;obtain⟨⟨av,aR,aS⟩,ah,H⟩:=H;(try dsimp only at H);replace H:=bE H;obtain⟨⟨aw,aT,aU⟩,L,H⟩:=H;(try dsimp only at H);replace H:=bE H;obtain⟨⟨ax,ay,af,ag⟩,bN,H⟩:=H;(try dsimp only at H);replace H:=bE H;obtain⟨⟨cF,bp,bq⟩,an,H⟩:=H;(try dsimp only at H);by_cases aa:cF=true
 ·subst aa;replace H:=iT H;replace H:=bE H;obtain⟨⟨bO,bP,cG,cI⟩,cJ,H⟩:=H;(try dsimp only at H);simp only[Option.some.injEq,Prod.mk.injEq]at H;obtain⟨rfl,rfl,rfl,rfl,rfl,rfl,rfl,rfl⟩:=H;go_enter Tryz.func83,Tryz.ntmps83
  go_wp2_with (first|((with_reducible refine gN 2 ?_);refine boxZ 2 #[.int .i64 0,.int .i64 0,.int .i64 0,.int .i64 0,.int .i64 0,.int .i64 0] 54 ?_;intro ak hg bL hbox hb;replace HB:=aM (below_step q2x3 hb);have j:=aM hbox;have GW147:=gK (w:=w) hg;have GE147:=gW HW0 hg;replace HK:=zKT (w:=w) (g:=g) hb;have br:=aM ((by rw[hg];exact Nat.ne_of_lt (IsS84.lt (show IsS84 b _ g s0_0 s0_1 s0_2 from q2x2)):g≠ak));have I:=aM ((by rw[hg];exact Nat.ne_of_gt (IsS84.lt (show IsS84 b _ g s0_0 s0_1 s0_2 from q2x2)):ak≠g));replace HI0:=aM (IsS84.below q2x2 hb);clear hb hbox hg)|((with_reducible refine gF 28 ?_);refine gX (some 5) Tryz.func28 (AG.calls g s0_0 s0_1 s0_2 3 av aR aS b _ q2x4 q2x5 ah.out) ?_;rintro dD ⟨hi,hb,hk⟩;replace j:=bK hk j I.out;replace HK:=tK (w:=w) hk;replace HB:=aM hb;replace HI0:=aM hi;clear hb hk hi)|((with_reducible refine gF 28 ?_);refine gX (some 7) Tryz.func28 (AG.calls g s0_0 aR aS 6 aw aT aU b _ q2x4 q2x5 L.out) ?_;rintro dE ⟨hi,hb,hk⟩;replace j:=bK hk j I.out;replace HK:=tK (w:=w) hk;replace HB:=aM hb;replace HI0:=aM hi;clear hb hk hi)|((with_reducible refine gF 48 ?_);refine gX (some 10) Tryz.func48 (BN.calls g s0_0 aT aU ax ay af ag b _ q2x4 q2x5 bN.out) ?_;rintro dF ⟨hi,hb,hk⟩;replace j:=bK hk j I.out;replace HK:=tK (w:=w) hk;replace HB:=aM hb;replace HI0:=aM hi;clear hb hk hi)|((with_reducible refine gN 3 ?_);refine boxZ 3 #[.int .i64 0,.int .i64 0,.int .i64 0,.int .i64 0,.int .i64 0,.int .i64 0] 54 ?_;intro al hg cA hbox hb;replace HB:=aM (below_step q2x5 hb);have U:=aM hbox;have GW158:=gK (w:=w) hg;have GE158:=gW HW0 hg;replace HK:=zKT (w:=w) (g:=g) hb;have bs:=nL hg j;have bu:=nG hg j;replace j:=kB j hb;have bv:=aM ((by rw[hg];exact Nat.ne_of_lt (IsS84.lt (show IsS84 b _ g s0_0 af ag from q2x4)):g≠al));have az:=aM ((by rw[hg];exact Nat.ne_of_gt (IsS84.lt (show IsS84 b _ g s0_0 af ag from q2x4)):al≠g));replace HI0:=aM (IsS84.below q2x4 hb);clear hb hbox hg;have hnb13:=bu.out;have hnc13:=bs.out;have hnb14:=az.out;have hnc14:=bv.out;obtain⟨dG,dH,dI,dJ,dK,dL,dM,dN,dO,dP,dQ,dS⟩:=cz6 U)|((with_reducible refine gF 38 ?_);refine gX (some 14) Tryz.func38 (A7.calls g s0_0 af ag 3 true bp bq b _ q2x4 q2x5 an.out) ?_;rintro ci ⟨hi,hb,hk⟩;replace j:=bK hk j I.out;replace U:=aM (KeepBut.blk hk (g':=al) (o:= .cells #[.int .i64 av,.int .i64 4294967295,.int .i64 4294967295,.int .i64 (wrap64 (1+aw)),.int .i64 ax,.int .i64 ay] 54 (0,0)) (kS U _) az.out (by simp));replace HK:=tK (w:=w) hk;replace HB:=aM hb;replace HI0:=aM hi;clear hb hk hi)|((with_reducible refine gF 48 ?_);refine gX (some 16) Tryz.func48 (BN.calls g s0_0 bp bq bO bP cG cI b _ q2x4 q2x5 cJ.out) ?_;rintro cD ⟨hi,hb,hk⟩;replace j:=bK hk j I.out;replace U:=bK hk U az.out;replace HK:=tK (w:=w) hk;replace HB:=aM hb;replace HI0:=aM hi;clear hb hk hi;obtain⟨dT,dU,dV,dX,dY,dZ,d0,d1,d2,d3,d4,d5⟩:=cz6 U;have hnb19:=I.out;have hnc19:=br.out;obtain⟨d6,d7,d8,d9,ea,eb,ec,ed,ee,ef,eg,eh⟩:=cz6 j))
  refine bodyPost_ret (results_cell_row rfl _ _ ak 54 #[.int .i64 av,.int .i64 bO,.int .i64 bP,.int .i64 (wrap64 (1+aw)),.int .i64 ax,.int .i64 ay] (0,0) _ rfl (kS j _) Tryz.underlying54 rfl (by kernel_rfl)) rfl ?_
  exact⟨rE,q2x4,q2x5,cK⟩
 ·replace aa:=Bool.eq_false_iff.mpr aa;subst aa;replace H:=iF H;simp only[Option.some.injEq,Prod.mk.injEq]at H;obtain⟨rfl,rfl,rfl,rfl,rfl,rfl,rfl,rfl⟩:=H;go_enter Tryz.func83,Tryz.ntmps83
  go_wp2_with (first|((with_reducible refine gN 2 ?_);refine boxZ 2 #[.int .i64 0,.int .i64 0,.int .i64 0,.int .i64 0,.int .i64 0,.int .i64 0] 54 ?_;intro ak hg ei hbox hb;replace HB:=aM (below_step q2x3 hb);have j:=aM hbox;have GW147:=gK (w:=w) hg;have GE147:=gW HW0 hg;replace HK:=zKT (w:=w) (g:=g) hb;have br:=aM ((by rw[hg];exact Nat.ne_of_lt (IsS84.lt (show IsS84 b _ g s0_0 s0_1 s0_2 from q2x2)):g≠ak));have I:=aM ((by rw[hg];exact Nat.ne_of_gt (IsS84.lt (show IsS84 b _ g s0_0 s0_1 s0_2 from q2x2)):ak≠g));replace HI0:=aM (IsS84.below q2x2 hb);clear hb hbox hg)|((with_reducible refine gF 28 ?_);refine gX (some 5) Tryz.func28 (AG.calls g s0_0 s0_1 s0_2 3 av aR aS b _ q2x4 q2x5 ah.out) ?_;rintro ej ⟨hi,hb,hk⟩;replace j:=bK hk j I.out;replace HK:=tK (w:=w) hk;replace HB:=aM hb;replace HI0:=aM hi;clear hb hk hi)|((with_reducible refine gF 28 ?_);refine gX (some 7) Tryz.func28 (AG.calls g s0_0 aR aS 6 aw aT aU b _ q2x4 q2x5 L.out) ?_;rintro cE ⟨hi,hb,hk⟩;replace j:=bK hk j I.out;replace HK:=tK (w:=w) hk;replace HB:=aM hb;replace HI0:=aM hi;clear hb hk hi)|((with_reducible refine gF 48 ?_);refine gX (some 10) Tryz.func48 (BN.calls g s0_0 aT aU ax ay af ag b _ q2x4 q2x5 bN.out) ?_;rintro ek ⟨hi,hb,hk⟩;replace j:=bK hk j I.out;replace HK:=tK (w:=w) hk;replace HB:=aM hb;replace HI0:=aM hi;clear hb hk hi)|((with_reducible refine gN 3 ?_);refine boxZ 3 #[.int .i64 0,.int .i64 0,.int .i64 0,.int .i64 0,.int .i64 0,.int .i64 0] 54 ?_;intro al hg el hbox hb;replace HB:=aM (below_step q2x5 hb);have U:=aM hbox;have GW158:=gK (w:=w) hg;have GE158:=gW HW0 hg;replace HK:=zKT (w:=w) (g:=g) hb;have bs:=nL hg j;have bu:=nG hg j;replace j:=kB j hb;have bv:=aM ((by rw[hg];exact Nat.ne_of_lt (IsS84.lt (show IsS84 b _ g s0_0 af ag from q2x4)):g≠al));have az:=aM ((by rw[hg];exact Nat.ne_of_gt (IsS84.lt (show IsS84 b _ g s0_0 af ag from q2x4)):al≠g));replace HI0:=aM (IsS84.below q2x4 hb);clear hb hbox hg;have hnb26:=bu.out;have hnc26:=bs.out;have hnb27:=az.out;have hnc27:=bv.out;obtain⟨em,en,eo,ep,eq,er,es,et,eu,ev,ew,ex⟩:=cz6 U)|((with_reducible refine gF 38 ?_);refine gX (some 14) Tryz.func38 (A7.calls g s0_0 af ag 3 false bp bq b _ q2x4 q2x5 an.out) ?_;rintro ey ⟨hi,hb,hk⟩;replace j:=bK hk j I.out;replace U:=aM (KeepBut.blk hk (g':=al) (o:= .cells #[.int .i64 av,.int .i64 4294967295,.int .i64 4294967295,.int .i64 (wrap64 (1+aw)),.int .i64 ax,.int .i64 ay] 54 (0,0)) (kS U _) az.out (by simp));replace HK:=tK (w:=w) hk;replace HB:=aM hb;replace HI0:=aM hi;clear hb hk hi;obtain⟨ez,eA,eC,eD,eE,eG,eH,eI,eJ,eK,eL,eM⟩:=cz6 U;have hnb31:=I.out;have hnc31:=br.out;obtain⟨eN,eO,eP,eQ,eR,eS,eU,eW,eZ,e0,e1,e2⟩:=cz6 j))
  refine bodyPost_ret (results_cell_row rfl _ _ ak 54 #[.int .i64 av,.int .i64 4294967295,.int .i64 4294967295,.int .i64 (wrap64 (1+aw)),.int .i64 ax,.int .i64 ay] (0,0) _ rfl (kS j _) Tryz.underlying54 rfl (by kernel_rfl)) rfl ?_
  exact⟨rE,q2x4,q2x5,cK⟩
theorem qh3x0 {P:Prop} (h:P:=by exact⟨(blk_cell a.out 0).trans rfl,(blk_cell a.out 1).trans rfl,(blk_cell a.out 2).trans rfl,(blk_cell a.out 3).trans rfl⟩):P:=h
mutual
def AP.j0:Nat→List Int→Int→Int→Int→Int→Option (List Int×(List (S54))×Int×Int×Int×Int)
  | 0,_,_,_,_,_=>none
  | k+1,p,W,X,I,J=>(AG.f p W X 4).bind fun az=>(AP.l0 k (wrap64 (az.1 - 1)) 0 0 p az.2.1 az.2.2 ([] :List Int) I J)
def AP.l0:Nat→Int→Int→Int→List Int→Int→Int→List Int→Int→Int→Option (List Int×(List (S54))×Int×Int×Int×Int)
  | 0,_,_,_,_,_,_,_,_,_=>none
  | k+1,a3,a4,a5,p,W,X,Y,I,J=>if a5<a3 then((AG.f p W X 3).bind fun aw=>(if Y.length<17592186044416 then(AP.l0 k a3 (wrap64 ((wrap64 (a4+1))+aw.1)) (wrap64 (a5+1)) p aw.2.1 aw.2.2 (Y ++ [wrap64 ((wrap64 ((wrap64 (a4+1))+aw.1)) - 1)]) I J)else(none)))else(AP.l1 k 0 p W X Y ([] :List (S54)) I J)
def AP.l1:Nat→Int→List Int→Int→Int→List Int→List (S54)→Int→Int→Option (List Int×(List (S54))×Int×Int×Int×Int)
  | 0,_,_,_,_,_,_,_,_=>none
  | k+1,a6,p,W,X,Y,aA,I,J=>(AG.f p W X 3).bind fun af=>(if a6<af.1 then((Bh.f p af.2.1 af.2.2).bind fun u=>(if aA.length<2932031007402 then(AP.l1 k (wrap64 (a6+1)) p u.2.2.2.2.2.2.1 u.2.2.2.2.2.2.2 Y (aA ++ [(⟨u.1,(⟨u.2.1,u.2.2.1⟩ :S52),u.2.2.2.1,(⟨u.2.2.2.2.1,u.2.2.2.2.2.1⟩ :S52)⟩ :S54)]) I J)else(none)))else(some (Y,aA,I,J,af.2.1,af.2.2)))
end
def AP.f (k:Nat) (s0_0:List Int) (s0_1:Int) (s0_2:Int):Option (List Int×(List (S54))×Int×Int×Int×Int):=(A6.f s0_0 s0_1 s0_2 (([0,1,2,3,4,4,5] :List Int))).bind fun L=>(if L.1=2 then((A6.f s0_0 L.2.1 L.2.2 (([1,13,65535] :List Int))).bind fun aB=>(AP.j0 k s0_0 aB.2.1 aB.2.2 L.1 aB.1))else(AP.j0 k s0_0 L.2.1 L.2.2 L.1 0))
def AP.T14:Bool×List (List Nat×List Nat):=(true,[([],[]),([0],[0]),([],[]),([2],[2]),([3],[3]),([1,4,3],[1,4]),([0,1,2,3,4,5],[]),([6,5,5,0,1,2,3,4,5],[5,6])])
def AP.B14:List Nat:=[0,1,0,4,12,31,63,127]
theorem AP.tab14:rtab .any (opsOf Tryz.f47 14)=AP.T14:=by kernel_rfl
theorem AP.bits14:waitsOk AP.T14.2 AP.B14=true:=by kernel_rfl
theorem q3x0 {P:Prop} (h:P:=by repeat(first|(with_reducible first|exact HI0.out|apply IsS84.alloc|apply IsS84.drewN|apply IsS84.drew|apply IsS84.set_1|apply IsS84.set_2)|exact HI0.out)):P:=h
theorem q3x1 {P:Prop} (h:P:=by repeat(first|(with_reducible first|exact HB.out|apply below_alloc|apply pw_below_drewN|apply below_drew1|refine below_set ?_ (IsS84.ge HI0.out))|exact HB.out)):P:=h
theorem q3x2 {P:Prop} (h:P:=by repeat(first|(with_reducible first|exact HI0.out|apply IsS84.alloc|apply IsS84.drewN|apply IsS84.drew|apply IsS84.set_1|apply IsS84.set_2|(apply IsS84.far;case hne=>exact(Aside0.out (by assumption))))|exact HI0.out)):P:=h
theorem q3x3 {P:Prop} (h:P:=by repeat(first|(with_reducible first|exact HB.out|apply below_alloc|apply pw_below_drewN|apply below_drew1|refine below_set ?_ (IsS84.ge HI0.out)|refine below_set ?_ (Aside0.out (by assumption)))|exact HB.out)):P:=h
theorem q3x4 {P:Prop} (h:P:=by
 rintro w' ⟨s0,s1,s2,s3⟩
 go_simp
 with_reducible rfl):P:=h
theorem AP.calls (k:Nat) (g:Nat) (s0_0:List Int) (s0_1:Int) (s0_2:Int) (r1:List Int) (r2:List (S54)) (r3:Int) (r4:Int) (r5:Int) (r6:Int) (c w:World) (hI:IsS84 c w g s0_0 s0_1 s0_2) (hB:Below c.heap.size c w) (h:AP.f k s0_0 s0_1 s0_2=some (r1,r2,r3,r4,r5,r6)) :
 Calls Tryz.prog 47 #[.pointer (some ⟨g,0,none⟩)] w fun e w'=> ∃ v0_ v1_:Value,e= .returned (.agg #[v0_,v1_,.int .i64 r3,.int .i64 r4])∧Kd.R (Kd.int .i64) 3 w' w.heap.size (fun _=>True) v0_ r1∧Kd.R k54 54 w' w.heap.size (fun _=>True) v1_ r2∧IsS84 c w' g s0_0 r5 r6∧Below c.heap.size c w'∧KeepBut w w' g none:=by
 have hu50:=Tryz.underlying50;have HI0:=aM hI;have HK:=aM (KeepBut.refl w g none);have HL:=aM hB.size;clear hI;have HW0:=aM hB.size;have HB:=aM hB;clear hB
 unfold AP.f at h;have H:=h
 clear h;obtain⟨br,aC⟩ : ∃ y_:List Int,Aside0 (y_=(([0,1,2,3,4,4,5] :List Int))):=⟨_,⟨rfl⟩⟩;rw[← aC.out]at H;replace H:=bE H;obtain⟨⟨m,x,z⟩,bs,H⟩:=H;(try dsimp only at H);have HC3:=aM H;clear H;go_enter Tryz.func47,Tryz.ntmps47
 go_upto_if 14 with(first|((with_reducible refine gN 2 ?_);refine boxZ 2 #[.slice none 0 0,.slice none 0 0,.int .i64 0,.int .i64 0] 50 ?_;intro aa hg ck hbox hb;replace HB:=aM (below_step q3x1 hb);have b:=aM hbox;have GW166:=gK (w:=w) hg;have GE166:=gW HW0 hg;replace HK:=zKT (w:=w) (g:=g) hb;have bu:=aM ((by rw[hg];exact Nat.ne_of_lt (IsS84.lt (show IsS84 c _ g s0_0 s0_1 s0_2 from q3x0)):g≠aa));have A:=aM ((by rw[hg];exact Nat.ne_of_gt (IsS84.lt (show IsS84 c _ g s0_0 s0_1 s0_2 from q3x0)):aa≠g));replace HI0:=aM (IsS84.below q3x0 hb);clear hb hbox hg)|((with_reducible refine gN 9 ?_);refine R_lit (Kd.int .i64) _ 3 ?hg (N:=9) ?hd (xs:=([0,1,2,3,4,4,5] :List Int)) (inner:=[.int .i64 0,.int .i64 1,.int .i64 2,.int .i64 3,.int .i64 4,.int .i64 4,.int .i64 5]) (ok:=fun _=>True) (okp:=fun _=>True) ?hr ?hp (fun _ hk=>hk) trivial (Below.refl _ _) (Nat.le_refl _) (by simp) ?_;(case hd=>rfl);(case hg=>rfl);(case hr=>exact rG);(case hp=>exact(Reps.one (zMI 0) (Reps.one (zMI 1) (Reps.one (zMI 2) (Reps.one (zMI 3) (Reps.one (zMI 4) (Reps.one (zMI 4) (Reps.one (zMI 5) (Reps.none _ _)))))))));intro cl cm ag hb hg_ hnew_;clear hg_ hnew_;(first|rw[← aC.out]at ag|(simp only[Int.reduceToNat]at ag;rw[← aC.out]at ag));have l:=aM (R_lower ag (keep_size (w:=w) (g:=g) (row:=none) cK));replace b:=kB b hb;replace HK:=zKT (w:=w) (g:=g) hb;replace HB:=aM (below_step q3x3 hb);replace HI0:=aM (IsS84.below q3x2 hb);clear hb ag;obtain⟨cn,co,bv⟩:=R_slice l.out;subst bv)|((with_reducible refine gF 46 ?_);refine gX (some 10) Tryz.func46 (A6.calls g s0_0 s0_1 s0_2 _ _ br m x z c _ q3x2 q3x3 (rX l) ((rY l)) (far_slice (IsS84.own_ne HI0.out l.out (by decide))) bs.out) ?_;rintro cp ⟨hi,hb,hk⟩;replace b:=bK hk b A.out;replace l:=aM (R_mono (R_keep (IsS84.apart (show IsS84 c _ g s0_0 s0_1 s0_2 from q3x2) (mR l) (by decide)) hk (fun _ h=>h.2)) (fun _ h=>h.1));replace HK:=tK (w:=w) hk;replace HB:=aM hb;replace HI0:=aM hi;clear hb hk hi)|((with_reducible refine gN 3 ?_);refine boxZ 3 #[.slice none 0 0,.slice none 0 0,.int .i64 0,.int .i64 0] 50 ?_;intro j hg bw hbox hb;replace l:=rB l hb;replace HB:=aM (below_step q3x3 hb);have a:=aM hbox;have GW173:=gK (w:=w) hg;have GE173:=gW HW0 hg;replace HK:=zKT (w:=w) (g:=g) hb;have ah:=nL hg b;have ai:=nG hg b;replace b:=kB b hb;have ax:=aM ((by rw[hg];exact Nat.ne_of_lt (IsS84.lt (show IsS84 c _ g s0_0 x z from q3x2)):g≠j));have q:=aM ((by rw[hg];exact Nat.ne_of_gt (IsS84.lt (show IsS84 c _ g s0_0 x z from q3x2)):j≠g));replace HI0:=aM (IsS84.below q3x2 hb);clear hb hbox hg;have hnb10:=ai.out;have hnc10:=ah.out;have hnb11:=q.out;have hnc11:=ax.out;obtain⟨aD,aE,aG,aH,aI,aJ,aK,aN⟩:=cz4 a))
 (try simp only[Act.put,List.setIfInBounds_toArray,List.set_cons_zero,List.set_cons_succ])
 go_cut [] (fun wc=> ∃ (kq:Nat) (n:Int) (o:Int) (r:Int),Aside0 (AP.j0 kq s0_0 n o m r=some (r1,r2,r3,r4,r5,r6))∧Aside0 (kq≤k)∧Aside0 (wc.heap[aa]?=some (.cells #[(.slice none 0 0),(.slice none 0 0),.int .i64 0,.int .i64 0] 50 (0,0)))∧Aside0 (wc.heap[j]?=some (.cells #[(.slice none 0 0),(.slice none 0 0),.int .i64 m,.int .i64 r] 50 (0,0)))∧Aside0 (IsS84 c wc g s0_0 n o)∧Aside0 (KeepBut w wc g none)∧Aside0 (Below c.heap.size c wc))
 case first=>
  have H:=HC3.out;clear HC3;by_cases D:m=2
  ·rw[if_pos D]at H;obtain⟨E,ay⟩:=eT D;clear D
   (first|rw[E]|(simp only[i64_w,i32_w];rw[E])|skip)
   obtain⟨bx,aQ⟩ : ∃ y_:List Int,Aside0 (y_=(([1,13,65535] :List Int))):=⟨_,⟨rfl⟩⟩;rw[← aQ.out]at H;replace H:=bE H;obtain⟨⟨a7,a8,a9⟩,bz,H⟩:=H;(try dsimp only at H);have H':=aM H;clear H
   go_wp2_with (first|((with_reducible refine gN 16 ?_);refine R_lit (Kd.int .i64) _ 3 ?hg (N:=16) ?hd (xs:=([1,13,65535] :List Int)) (inner:=[.int .i64 1,.int .i64 13,.int .i64 65535]) (ok:=fun _=>True) (okp:=fun _=>True) ?hr ?hp (fun _ hk=>hk) trivial (Below.refl _ _) (Nat.le_refl _) (by simp) ?_;(case hd=>rfl);(case hg=>rfl);(case hr=>exact rG);(case hp=>exact(Reps.one (zMI 1) (Reps.one (zMI 13) (Reps.one (zMI 65535) (Reps.none _ _)))));intro cq cr ab hb hg_ hnew_;clear hg_ hnew_;(first|rw[← aQ.out]at ab|(simp only[Int.reduceToNat]at ab;rw[← aQ.out]at ab));have ac:=aM (R_lower (R_new' ab (R_lt (by(with_reducible repeat(first|apply R_alloc|apply R_drewN|apply R_drew));exact(fR (R_types l.out a.out (by decide)) (fun _ h_=>h_.1))))) (keep_size (w:=w) (g:=g) (row:=none) cK));replace l:=aM (R_elder' (by(with_reducible repeat(first|apply R_alloc|apply R_drewN|apply R_drew));exact(fR (R_types l.out a.out (by decide)) (fun _ h_=>h_.1))) (R_base ab) hb);replace b:=kB b hb;replace a:=kP a hb (.cells #[.slice none 0 0,.slice none 0 0,.int .i64 m,.int .i64 0] 50 (0,0));replace HK:=zKT (w:=w) (g:=g) hb;replace HB:=aM (below_step q3x3 hb);replace HI0:=aM (IsS84.below (show IsS84 c ((((bw.setCell ⟨j,0,none⟩ (.slice none 0 0)).setCell ⟨j,1,none⟩ (.slice none 0 0)).setCell ⟨j,2,none⟩ (.int .i64 m)).setCell ⟨j,3,none⟩ (.int .i64 0)) g s0_0 x z from q3x2) hb);clear hb ab;obtain⟨cs,ct,bA⟩:=R_slice ac.out;subst bA)|((with_reducible refine gF 46 ?_);refine gX (some 17) Tryz.func46 (A6.calls g s0_0 x z _ _ bx a7 a8 a9 c _ q3x2 q3x3 (rX ac) ((rY ac)) (far_slice (IsS84.own_ne HI0.out ac.out (by decide))) bz.out) ?_;rintro cu ⟨hi,hb,hk⟩;replace b:=bK hk b A.out;replace l:=aM (R_mono (R_keep (IsS84.apart (show IsS84 c _ g s0_0 x z from q3x2) (mR l) (by decide)) hk (fun _ h=>h.2)) (fun _ h=>h.1));replace a:=bK hk a q.out;replace ac:=aM (R_mono (R_keep (IsS84.apart (show IsS84 c _ g s0_0 x z from q3x2) (mR ac) (by decide)) hk (fun _ h=>h.2)) (fun _ h=>h.1));replace HK:=tK (w:=w) hk;replace HB:=aM hb;replace HI0:=aM hi;clear hb hk hi;have hnb19:=ai.out;have hnc19:=ah.out;have hnb20:=q.out;have hnc20:=ax.out;obtain⟨aR,aT,aU,aV,aW,aX,aY,aZ⟩:=cz4 a))
   go_meet
   case rel=>exact⟨_,(a8),(a9),(a7),H',⟨oL⟩,⟨mK b⟩,⟨kS a _⟩,⟨q3x2⟩,⟨cK⟩,⟨q3x3⟩⟩
  ·rw[if_neg D]at H;obtain⟨E,ay⟩:=eF D
   (first|rw[E]|(simp only[i64_w,i32_w];rw[E])|skip)
   have H':=aM H;clear H;go_wp2;go_meet
   case rel=>exact⟨_,(x),(z),(0),H',⟨oL⟩,⟨mK b⟩,⟨kS a _⟩,⟨q3x2⟩,⟨cK⟩,⟨q3x3⟩⟩
 case rest=>
  clear HC3;(try clear D);(try clear E);(try clear ay);(try clear aD aE aG aH);(try clear aR aT aU aV);(try clear aI aJ aK aN);(try clear aW aX aY aZ);obtain⟨kq,n,o,r,HA,HJ2,b,a,HI0,HK,HB⟩:=hcut
  cases kq with
  | zero=>exact absurd HA.out (by simp[AP.j0])
  | succ kj2=>
   have H:=HA.out;clear HA;simp only[AP.j0]at H;replace H:=bE H;obtain⟨⟨a0,ba,bb⟩,bB,H⟩:=H;(try dsimp only at H);have H':=aM H;clear H
   go_wp2_with (first|((with_reducible refine gF 28 ?_);refine gX (some 20) Tryz.func28 (AG.calls g s0_0 n o 4 a0 ba bb c _ q3x2 q3x3 bB.out) ?_;rintro cv ⟨hi,hb,hk⟩;replace b:=bK hk b A.out;replace a:=bK hk a q.out;replace HK:=tK (w:=w) hk;replace HB:=aM hb;replace HI0:=aM hi;clear hb hk hi))
   go_loopg [5,6] kj2 (fun kq bC bD w'=> ∃ (O:Int) (aj:Int) (n:Int) (o:Int) (G:List Int) (u174000:Value),bC= .int .i64 O∧bD= .int .i64 aj∧Aside0 (AP.l0 kq (wrap64 (a0 - 1)) O aj s0_0 n o G m r=some (r1,r2,r3,r4,r5,r6))∧Aside0 (kq≤kj2)∧Aside0 (Kd.R (Kd.int .i64) 3 w' w.heap.size (fun _=>True) u174000 G)∧Aside0 (w'.heap[aa]?=some (.cells #[(.slice none 0 0),(.slice none 0 0),.int .i64 0,.int .i64 0] 50 (0,0)))∧Aside0 (w'.heap[j]?=some (.cells #[u174000,(.slice none 0 0),.int .i64 m,.int .i64 r] 50 (0,0)))∧Aside0 (IsS84 c w' g s0_0 n o)∧Aside0 (KeepBut w w' g none)∧Aside0 (Below c.heap.size c w'))
   case atStart=>exact⟨(0),(0),(ba),(bb),(([] :List Int)),(.slice none 0 0),rS,rS,H',⟨Nat.le_refl _⟩,⟨by first|exact R_nil _ _ _ _ _|exact N_nil _ _ _ _ _|exact V_nil _ _ _ _ _|exact Q_nil _ _ _ _ _|exact S_nil _ _ _ _ _⟩,⟨mK b⟩,⟨mK a⟩,⟨q3x2⟩,⟨cK⟩,⟨q3x3⟩⟩
   case round=>
    clear H';(try clear D);(try clear E);(try clear ay);(try clear aD aE aG aH);(try clear aR aT aU aV);(try clear aI aJ aK aN);(try clear aW aX aY aZ);(try clear a);obtain⟨O,aj,n,o,G,u174000,rfl,rfl,HA,HK2,d,b,a,HI0,HK,HB⟩:=hrel
    cases gk with
    | zero=>exact absurd HA.out (by simp[AP.l0])
    | succ k2=>
     have H:=HA.out;clear HA;simp only[AP.l0]at H;by_cases U:aj<(wrap64 (a0 - 1))
     ·rw[if_pos U]at H;have bd:=decide_eq_true U;clear U;replace H:=bE H;obtain⟨⟨ak,be,bf⟩,bF,H⟩:=H;(try dsimp only at H);replace H:=gC H;obtain⟨a1,H⟩:=H;have bG:=aM a1;clear a1;obtain⟨bg,bh⟩ : ∃ y_:List Int,Aside0 (y_=(G ++ [wrap64 ((wrap64 ((wrap64 (O+1))+ak)) - 1)])):=⟨_,⟨rfl⟩⟩;rw[← bh.out]at H;have H':=aM H;clear H
      go_wp2_with (first|((with_reducible refine gF 28 ?_);refine gX (some 30) Tryz.func28 (AG.calls g s0_0 n o 3 ak be bf c _ q3x2 q3x3 bF.out) ?_;rintro cw ⟨hi,hb,hk⟩;replace d:=aM (R_mono (R_keep (IsS84.apart (show IsS84 c _ g s0_0 n o from q3x2) (mR d) (by decide)) hk (fun _ h=>h.2)) (fun _ h=>h.1));replace b:=bK hk b A.out;replace a:=bK hk a q.out;replace HK:=tK (w:=w) hk;replace HB:=aM hb;replace HI0:=aM hi;clear hb hk hi;have hnb28:=ai.out;have hnc28:=ah.out;have hnb29:=q.out;have hnc29:=ax.out;obtain⟨bH,bI,bJ,bL,bM,bN,bO,bP⟩:=cz4 a)|((with_reducible refine gA 33 36 ?_);at_builtin;refine R_append (Kd.int .i64) w.heap.size rfl (.tmp 33) (.tmp 36) 47 3 (.int .i64 0) 8 rfl Tryz.underlying47 info3 rfl (by decide) (by omega) u174000 G (wrap64 ((wrap64 ((wrap64 (O+1))+ak)) - 1)) [.int .i64 (wrap64 ((wrap64 ((wrap64 (O+1))+ak)) - 1))] (fun _=>True) (fun _=>False) rfl rfl ?aP (fun _ hk=>hk.elim) ?aF ?aO (Below.refl _ _) ?aS ?aL ?_;(case aP=>exact rfl);(case aF=>exact(fun _ _=>trivial));(case aO=>exact(mR d));(case aS=>exact(keep_size (w:=w) (g:=g) (row:=none) cK));(case aL=>have:=bG.out;omega);intro cx cy ho hb hg hat;rw[← bh.out]at ho;replace b:=kN b hg d b;replace a:=kN a hg d a;replace HB:=aM (below_weaken q3x3 HL.out hb);replace HI0:=aM (IsS84.grown q3x2 hg (IsS84.own_ne HI0.out d.out (by decide)));replace HK:=aM (KeepBut.trans (cK:KeepBut w _ g none) (KeepBut.of_grown hg g) (R_base2 d.out));have bi:=aM ho;clear d ho hb hg hat;obtain⟨bQ,bR,bS⟩:=R_slice bi.out;subst bS;obtain⟨bT,bU,bV,bW,bX,bY,bZ,b0⟩:=cz4 a))
      go_roundg k2
      case measure=>have:=HJ2.out;have:=HK2.out;omega
      case rel=>exact⟨(wrap64 ((wrap64 (O+1))+ak)),(wrap64 (aj+1)),(be),(bf),(bg),(.slice bQ bg.length bR),rS,rS,H',⟨by have:=HJ2.out;have:=HK2.out;omega⟩,⟨fR (R_types bi.out a.out (by decide)) (fun _ hk=>trivial)⟩,⟨mK b⟩,⟨kS a _⟩,⟨q3x2⟩,⟨cK⟩,⟨q3x3⟩⟩
     ·rw[if_neg U]at H;have bd:=decide_eq_false U;clear U;have H':=aM H;clear H;go_wp2
      go_loopg [7] k2 (fun kq b1 w'=> ∃ (al:Int) (s:Int) (t:Int) (ad:List (S54)) (u174001:Value),b1= .int .i64 al∧Aside0 (AP.l1 kq al s0_0 s t G ad m r=some (r1,r2,r3,r4,r5,r6))∧Aside0 (kq≤k2)∧Aside0 (Kd.R (Kd.int .i64) 3 w' w.heap.size (fun _=>True) u174000 G)∧Aside0 (Kd.R k54 54 w' w.heap.size (fun _=>True) u174001 ad)∧Aside0 (w'.heap[aa]?=some (.cells #[(.slice none 0 0),(.slice none 0 0),.int .i64 0,.int .i64 0] 50 (0,0)))∧Aside0 (w'.heap[j]?=some (.cells #[u174000,u174001,.int .i64 m,.int .i64 r] 50 (0,0)))∧Aside0 (IsS84 c w' g s0_0 s t)∧Aside0 (KeepBut w w' g none)∧Aside0 (Below c.heap.size c w'))
      case atStart=>exact⟨(0),(n),(o),(([] :List (S54))),(.slice none 0 0),rS,H',⟨Nat.le_refl _⟩,⟨mR d⟩,⟨by first|exact R_nil _ _ _ _ _|exact N_nil _ _ _ _ _|exact V_nil _ _ _ _ _|exact Q_nil _ _ _ _ _|exact S_nil _ _ _ _ _⟩,⟨mK b⟩,⟨mK a⟩,⟨q3x2⟩,⟨cK⟩,⟨q3x3⟩⟩
      case round=>
       clear H';(try clear D);(try clear E);(try clear ay);(try clear U);(try clear bd);(try clear a1);(try clear aD aE aG aH);(try clear aR aT aU aV);(try clear bH bI bJ bL);(try clear bT bU bV bW);(try clear aI aJ aK aN);(try clear aW aX aY aZ);(try clear bM bN bO bP);(try clear bX bY bZ b0);(try clear a);obtain⟨al,s,t,ad,u174001,rfl,HA,HK3,d,i,b,a,HI0,HK,HB⟩:=hrel
       cases gk with
       | zero=>exact absurd HA.out (by simp[AP.l1])
       | succ k3=>
        have H:=HA.out;clear HA;simp only[AP.l1]at H;replace H:=bE H;obtain⟨⟨a2,am,an⟩,bj,H⟩:=H;(try dsimp only at H);by_cases ae:al<a2
        ·rw[if_pos ae]at H;have b5:=decide_eq_true ae;clear ae;replace H:=bE H;obtain⟨⟨ao,ap,aq,ar,au,av,bk,bl⟩,b8,H⟩:=H;(try dsimp only at H);replace H:=gC H;obtain⟨bm,H⟩:=H;have b9:=aM bm;clear bm;obtain⟨bn,bo⟩ : ∃ y_:List (S54),Aside0 (y_=(ad ++ [(⟨ao,(⟨ap,aq⟩ :S52),ar,(⟨au,av⟩ :S52)⟩ :S54)])):=⟨_,⟨rfl⟩⟩;rw[← bo.out]at H;have H':=aM H;clear H
         try go_wp2_with (first|((with_reducible refine gF 28 ?_);refine gX (some 41) Tryz.func28 (AG.calls g s0_0 s t 3 a2 am an c _ q3x2 q3x3 bj.out) ?_;rintro ca ⟨hi,hb,hk⟩;replace d:=aM (R_mono (R_keep (IsS84.apart (show IsS84 c _ g s0_0 s t from q3x2) (mR d) (by decide)) hk (fun _ h=>h.2)) (fun _ h=>h.1));replace i:=aM (R_mono (R_keep (IsS84.apart (show IsS84 c _ g s0_0 s t from q3x2) (mR i) (by decide)) hk (fun _ h=>h.2)) (fun _ h=>h.1));replace b:=bK hk b A.out;replace a:=bK hk a q.out;replace HK:=tK (w:=w) hk;replace HB:=aM hb;replace HI0:=aM hi;clear hb hk hi))
         replace d:=dR d;replace i:=dR i;replace b:=dB b;replace a:=dB a;replace HI0:=aM (IsS84.drew HI0.out);replace HK:=aM (keep_drew HK.out);replace HB:=dW HB
         refine sV 8 (fun w'=>w'.cell? ⟨j,0,none⟩=some (u174000)∧w'.cell? ⟨j,1,none⟩=some (u174001)∧w'.cell? ⟨j,2,none⟩=some (.int .i64 m)∧w'.cell? ⟨j,3,none⟩=some (.int .i64 r)) (ds:=[7]) AP.tab14 AP.bits14 qh3x0 fun HT_ HW_ hHeld=>?_
         generalize ca.drew=cz at d i b a HI0 HK HB hHeld ⊢;refine pZ 0 45 1 ?_;refine pZ 2 47 5 ?_;refine tZ 1 46 7 (y:=q3x4) (h:=?_)
         refine oZ 3 48 15 fun K hK=>?_
         refine eX Tryz.func83 (Bh.calls g s0_0 am an ao ap aq ar au av bk bl c _ q3x2 q3x3 b8.out) ?_
         rintro cA ⟨hi,hb,hk⟩
         replace d:=aM (R_mono (R_keep (IsS84.apart (show IsS84 c _ g s0_0 am an from q3x2) (mR d) (by decide)) hk (fun _ h=>h.2)) (fun _ h=>h.1))
         replace i:=aM (R_mono (R_keep (IsS84.apart (show IsS84 c _ g s0_0 am an from q3x2) (mR i) (by decide)) hk (fun _ h=>h.2)) (fun _ h=>h.1))
         replace b:=bK hk b A.out;replace a:=bK hk a q.out;replace HK:=tK (w:=w) hk;replace HB:=aM hb;replace HI0:=aM hi;clear hb hk hi
         refine hK.out _ _ qh3x0 (fun hHeld=>?_)
         clear hK K;refine normZ (some 48) ?_
         refine oZ 4 49 31 fun K hK=>?_
         refine value_ (w1:=?_) (v:=?_) (by rfl) rfl ?_ ?_
         rotate_left 2
         ·go_simp;constructor
          ·rfl
          ·rfl
         refine hK.out _ _ ⟨(blk_cell (blk_alloc a.out _) 0).trans rfl,(blk_cell (blk_alloc a.out _) 1).trans rfl,(blk_cell (blk_alloc a.out _) 2).trans rfl,(blk_cell (blk_alloc a.out _) 3).trans rfl⟩ (fun hHeld=>?_)
         clear hK K;refine normZ (some 49) ?_
         refine oZ 5 50 63 fun K hK=>?_
         refine R_append_step k54 w.heap.size (by rfl) (.tmp 46) (.tmp 49) 48 54 (.agg #[(.int .i64 0),(.int .i64 0),(.int .i64 0),(.int .i64 0),(.int .i64 0),(.int .i64 0)]) 48 rfl Tryz.underlying48 info54 rfl (by decide) (by omega) u174001 ad (⟨ao,(⟨ap,aq⟩ :S52),ar,(⟨au,av⟩ :S52)⟩ :S54) [.int .i64 ao,.int .i64 ap,.int .i64 aq,.int .i64 ar,.int .i64 au,.int .i64 av] (fun _=>True) (fun _=>False) rfl rfl ?aP (fun _ hk=>hk.elim) ?aF ?aO (Below.refl _ _) ?aS ?aL ?_
         (case aP=>exact k54_mkM _ _ _ (⟨ao,(⟨ap,aq⟩ :S52),ar,(⟨au,av⟩ :S52)⟩ :S54))
         (case aF=>exact(fun _ _=>trivial))
         (case aO=>exact(mR i))
         (case aS=>exact(keep_size (w:=w) (g:=g) (row:=none) cK))
         (case aL=>have:=b9.out;omega)
         intro cD cb ho hb hg hat;rw[← bo.out]at ho
         replace d:=aM (R_over' (mR d) (R_typed (mR i)) (by decide) hg)
         replace b:=kN b hg i b
         replace a:=kN a hg i a
         replace HB:=aM (below_weaken q3x3 HL.out hb)
         replace HI0:=aM (IsS84.grown q3x2 hg (IsS84.own_ne HI0.out i.out (by decide)))
         replace HK:=aM (KeepBut.trans (cK:KeepBut w _ g none) (KeepBut.of_grown hg g) (R_base2 i.out));have bp:=aM ho;clear i ho hb hg hat;obtain⟨cc,cd,bq⟩:=R_slice bp.out
         (first|subst bq|(injection bq with f1_ f2_ f3_;have f4_:=f1_.symm;have f5_:=f3_.symm;clear f1_ f2_ f3_;subst f4_;subst f5_))
         refine hK.out _ _ qh3x0 (fun hHeld=>?_)
         clear hK K;refine normZ (some 50) ?_
         refine pZ 6 51 127 ?_
         refine last_Z 7 (none) (msk 8 255) HT_.out fun K hK=>?_
         have hs43:cb.cell? ⟨j,1,none⟩=some (u174001):=(blk_cell a.out 1).trans rfl;have hfs43:=blk_frozen a.out 1;have hns43_0:=ah.out;have hms43_0:=ai.out
         refine skip_ (w1:=?_) (by rfl) rfl ?_ ?_
         rotate_left
         ·go_simp;rfl
         refine hK.out _ _ ?_;clear hK K
         refine done_ (done_of HT_.out (by kernel_rfl)) ?_
         try go_wp2
         go_roundg k3
         case measure=>have:=HJ2.out;have:=HK2.out;have:=HK3.out;omega
         case rel=>exact⟨(wrap64 (al+1)),(bk),(bl),(bn),(.slice cc bn.length cd),rS,H',⟨by have:=HJ2.out;have:=HK2.out;have:=HK3.out;omega⟩,⟨fR (R_types d.out a.out (by decide)) (fun _ hk=>trivial)⟩,⟨fR (R_types bp.out a.out (by decide)) (fun _ hk=>trivial)⟩,⟨mK b⟩,⟨kS a _⟩,⟨q3x2⟩,⟨cK⟩,⟨q3x3⟩⟩
        ·rw[if_neg ae]at H;have b5:=decide_eq_false ae;clear ae;simp only[Option.some.injEq,Prod.mk.injEq]at H;obtain⟨rfl,rfl,rfl,rfl,rfl,rfl⟩:=H
         go_wp2_with (first|((with_reducible refine gF 28 ?_);refine gX (some 41) Tryz.func28 (AG.calls g s0_0 s t 3 a2 am an c _ q3x2 q3x3 bj.out) ?_;rintro cE ⟨hi,hb,hk⟩;replace d:=aM (R_mono (R_keep (IsS84.apart (show IsS84 c _ g s0_0 s t from q3x2) (mR d) (by decide)) hk (fun _ h=>h.2)) (fun _ h=>h.1));replace i:=aM (R_mono (R_keep (IsS84.apart (show IsS84 c _ g s0_0 s t from q3x2) (mR i) (by decide)) hk (fun _ h=>h.2)) (fun _ h=>h.1));replace b:=bK hk b A.out;replace a:=bK hk a q.out;replace HK:=tK (w:=w) hk;replace HB:=aM hb;replace HI0:=aM hi;clear hb hk hi;have hnb45:=ai.out;have hnc45:=ah.out;have hnb46:=q.out;have hnc46:=ax.out;obtain⟨cF,cG,cI,cJ,cL,cM,cN,cO⟩:=cz4 a;obtain⟨ce,cf,cg⟩:=R_slice d.out;subst cg;have hnb49:=A.out;have hnc49:=bu.out;obtain⟨cP,cQ,cR,cS,cT,cU,cV,cW⟩:=cz4 b;obtain⟨ch,ci,cj⟩:=R_slice i.out;subst cj))
         refine bodyPost_ret (results_cell_row rfl _ _ aa 50 #[.slice ce G.length cf,.slice ch ad.length ci,.int .i64 m,.int .i64 r] (0,0) _ rfl (kS b _) Tryz.underlying50 rfl (by kernel_rfl)) rfl ?_
         exact⟨_,_,rE,fR (R_types d.out b.out (by decide)) (fun _ hk=>trivial),fR (R_types i.out b.out (by decide)) (fun _ hk=>trivial),q3x2,q3x3,cK⟩
theorem qh4x0 {P:Prop} (h:P:=by exact⟨(blk_cell c.out 0).trans rfl,(blk_cell c.out 1).trans rfl,(blk_cell c.out 2).trans rfl,(blk_cell c.out 3).trans rfl⟩):P:=h
mutual
def AN.j0:Nat→List Int→Int→Int→Int→Int→Int→Option (Int×Int×Int×(List (S50))×Int×Int)
  | 0,_,_,_,_,_,_=>none
  | k+1,ai,aB,aC,bb,bd,be=>AN.l0 k 0 ai aB aC bb bd be ([] :List (S50))
def AN.l0:Nat→Int→List Int→Int→Int→Int→Int→Int→List (S50)→Option (Int×Int×Int×(List (S50))×Int×Int)
  | 0,_,_,_,_,_,_,_,_=>none
  | k+1,a0,ai,aB,aC,bb,bd,be,bL=>(AG.f ai aB aC 5).bind fun a1=>(if a0<a1.1 then((AP.f k ai a1.2.1 a1.2.2).bind fun aD=>(if bL.length<2199023255552 then(AN.l0 k (wrap64 (a0+1)) ai aD.2.2.2.2.1 aD.2.2.2.2.2 bb bd be (bL ++ [(⟨aD.1,aD.2.1,aD.2.2.1,aD.2.2.2.1⟩ :S50)]))else(none)))else(some (bb,bd,be,bL,a1.2.1,a1.2.2)))
end
def AN.f (k:Nat) (s0_0:List Int) (s0_1:Int) (s0_2:Int):Option (Int×Int×Int×(List (S50))×Int×Int):=(A6.f s0_0 s0_1 s0_2 (([5,4,0,2] :List Int))).bind fun an=>(if an.1=2 then(AN.j0 k s0_0 an.2.1 an.2.2 62 an.1 1)else(AN.j0 k s0_0 an.2.1 an.2.2 62 an.1 0))
def AN.T7:Bool×List (List Nat×List Nat):=(true,[([],[]),([0],[0]),([],[]),([2],[2]),([3],[3]),([1,4,3],[1,4]),([0,1,2,3,4,5],[]),([6,5,5,0,1,2,3,4,5],[5,6])])
def AN.B7:List Nat:=[0,1,0,4,12,31,63,127]
theorem AN.tab7:rtab .any (opsOf Tryz.f16 7)=AN.T7:=by kernel_rfl
theorem AN.bits7:waitsOk AN.T7.2 AN.B7=true:=by kernel_rfl
theorem q4x0 {P:Prop} (h:P:=by repeat(first|(with_reducible first|exact HI0.out|apply IsS84.alloc|apply IsS84.drewN|apply IsS84.drew|apply IsS84.set_1|apply IsS84.set_2)|exact HI0.out)):P:=h
theorem q4x1 {P:Prop} (h:P:=by repeat(first|(with_reducible first|exact HB.out|apply below_alloc|apply pw_below_drewN|apply below_drew1|refine below_set ?_ (IsS84.ge HI0.out))|exact HB.out)):P:=h
theorem q4x2 {P:Prop} (h:P:=by repeat(first|(with_reducible first|exact HI0.out|apply IsS84.alloc|apply IsS84.drewN|apply IsS84.drew|apply IsS84.set_1|apply IsS84.set_2|(apply IsS84.far;case hne=>exact(Aside0.out (by assumption))))|exact HI0.out)):P:=h
theorem q4x3 {P:Prop} (h:P:=by repeat(first|(with_reducible first|exact HB.out|apply below_alloc|apply pw_below_drewN|apply below_drew1|refine below_set ?_ (IsS84.ge HI0.out)|refine below_set ?_ (Aside0.out (by assumption)))|exact HB.out)):P:=h
theorem q4x4 {P:Prop} (h:P:=by
 rintro w' ⟨s0,s1,s2,s3⟩
 go_simp
 with_reducible rfl):P:=h
theorem AN.calls (k:Nat) (g:Nat) (s0_0:List Int) (s0_1:Int) (s0_2:Int) (r1:Int) (r2:Int) (r3:Int) (r4:List (S50)) (r5:Int) (r6:Int) (a w:World) (hI:IsS84 a w g s0_0 s0_1 s0_2) (hB:Below a.heap.size a w) (h:AN.f k s0_0 s0_1 s0_2=some (r1,r2,r3,r4,r5,r6)) :
 Calls Tryz.prog 16 #[.pointer (some ⟨g,0,none⟩)] w fun e w'=> ∃ v3_:Value,e= .returned (.agg #[.int .i64 r1,.int .i64 r2,.int .i64 r3,v3_])∧Kd.S k50 50 w' w.heap.size (fun _=>True) v3_ r4∧IsS84 a w' g s0_0 r5 r6∧Below a.heap.size a w'∧KeepBut w w' g none:=by
 have hu26:=Tryz.underlying26;have HI0:=aM hI;have HK:=aM (KeepBut.refl w g none);have HL:=aM hB.size;clear hI;have HW0:=aM hB.size;have HB:=aM hB;clear hB
 unfold AN.f at h;have H:=h
 clear h;obtain⟨dg,bM⟩ : ∃ y_:List Int,Aside0 (y_=(([5,4,0,2] :List Int))):=⟨_,⟨rfl⟩⟩;rw[← bM.out]at H;replace H:=bE H;obtain⟨⟨ae,aE,aG⟩,ac,H⟩:=H;(try dsimp only at H);have HC3:=aM H;clear H;go_enter Tryz.func16,Tryz.ntmps16
 go_upto_if 11 with(first|((with_reducible refine gN 2 ?_);refine boxZ 2 #[.int .i64 0,.int .i64 0,.int .i64 0,.slice none 0 0] 26 ?_;intro af hg dh hbox hb;replace HB:=aM (below_step q4x1 hb);have j:=aM hbox;have GW203:=gK (w:=w) hg;have GE203:=gW HW0 hg;replace HK:=zKT (w:=w) (g:=g) hb;have di:=aM ((by rw[hg];exact Nat.ne_of_lt (IsS84.lt (show IsS84 a _ g s0_0 s0_1 s0_2 from q4x0)):g≠af));have a2:=aM ((by rw[hg];exact Nat.ne_of_gt (IsS84.lt (show IsS84 a _ g s0_0 s0_1 s0_2 from q4x0)):af≠g));replace HI0:=aM (IsS84.below q4x0 hb);clear hb hbox hg)|((with_reducible refine gN 6 ?_);refine R_lit (Kd.int .i64) _ 3 ?hg (N:=6) ?hd (xs:=([5,4,0,2] :List Int)) (inner:=[.int .i64 5,.int .i64 4,.int .i64 0,.int .i64 2]) (ok:=fun _=>True) (okp:=fun _=>True) ?hr ?hp (fun _ hk=>hk) trivial (Below.refl _ _) (Nat.le_refl _) (by simp) ?_;(case hd=>rfl);(case hg=>rfl);(case hr=>exact rG);(case hp=>exact(Reps.one (zMI 5) (Reps.one (zMI 4) (Reps.one (zMI 0) (Reps.one (zMI 2) (Reps.none _ _))))));intro d5 bN aa hb hg_ hnew_;clear hg_ hnew_;(first|rw[← bM.out]at aa|(simp only[Int.reduceToNat]at aa;rw[← bM.out]at aa));have aj:=aM (R_lower aa (keep_size (w:=w) (g:=g) (row:=none) cK));replace j:=kB j hb;replace HK:=zKT (w:=w) (g:=g) hb;replace HB:=aM (below_step q4x3 hb);replace HI0:=aM (IsS84.below q4x2 hb);clear hb aa;obtain⟨dj,dk,bO⟩:=R_slice aj.out;subst bO)|((with_reducible refine gF 46 ?_);refine gX (some 7) Tryz.func46 (A6.calls g s0_0 s0_1 s0_2 _ _ dg ae aE aG a _ q4x2 q4x3 (rX aj) ((rY aj)) (far_slice (IsS84.own_ne HI0.out aj.out (by decide))) ac.out) ?_;rintro ch ⟨hi,hb,hk⟩;replace j:=bK hk j a2.out;replace aj:=aM (R_mono (R_keep (IsS84.apart (show IsS84 a _ g s0_0 s0_1 s0_2 from q4x2) (mR aj) (by decide)) hk (fun _ h=>h.2)) (fun _ h=>h.1));replace HK:=tK (w:=w) hk;replace HB:=aM hb;replace HI0:=aM hi;clear hb hk hi)|((with_reducible refine gN 3 ?_);refine boxZ 3 #[.int .i64 0,.int .i64 0,.int .i64 0,.slice none 0 0] 26 ?_;intro ad hg ag hbox hb;replace aj:=rB aj hb;replace HB:=aM (below_step q4x3 hb);have c:=aM hbox;have GW210:=gK (w:=w) hg;have GE210:=gW HW0 hg;replace HK:=zKT (w:=w) (g:=g) hb;have bf:=nL hg j;have bg:=nG hg j;replace j:=kB j hb;have bP:=aM ((by rw[hg];exact Nat.ne_of_lt (IsS84.lt (show IsS84 a _ g s0_0 aE aG from q4x2)):g≠ad));have aH:=aM ((by rw[hg];exact Nat.ne_of_gt (IsS84.lt (show IsS84 a _ g s0_0 aE aG from q4x2)):ad≠g));replace HI0:=aM (IsS84.below q4x2 hb);clear hb hbox hg;have hnb10:=bg.out;have hnc10:=bf.out;have hnb11:=aH.out;have hnc11:=bP.out;obtain⟨ci,cj,ck,cl,cm,cn,co,cp⟩:=cz4 c))
 (try simp only[Act.put,List.setIfInBounds_toArray,List.set_cons_zero,List.set_cons_succ])
 go_cut [] (fun wc=> ∃ (kq:Nat) (ak:Int),Aside0 (AN.j0 kq s0_0 aE aG 62 ae ak=some (r1,r2,r3,r4,r5,r6))∧Aside0 (kq≤k)∧Aside0 (wc.heap[af]?=some (.cells #[.int .i64 0,.int .i64 0,.int .i64 0,(.slice none 0 0)] 26 (0,0)))∧Aside0 (wc.heap[ad]?=some (.cells #[.int .i64 62,.int .i64 ae,.int .i64 ak,(.slice none 0 0)] 26 (0,0)))∧Aside0 (IsS84 a wc g s0_0 aE aG)∧Aside0 (KeepBut w wc g none)∧Aside0 (Below a.heap.size a wc))
 case first=>
  have H:=HC3.out;clear HC3;by_cases ao:ae=2
  ·rw[if_pos ao]at H;obtain⟨ap,bQ⟩:=eT ao;clear ao
   (first|rw[ap]|(simp only[i64_w,i32_w];rw[ap])|skip)
   have H':=aM H;clear H;have hnb14:=bg.out;have hnc14:=bf.out;have hnb15:=aH.out;have hnc15:=bP.out;obtain⟨bh,bi,bj,cq,bk,bl,bm,cr⟩:=cz4 c;go_wp2;go_meet
   case rel=>exact⟨_,(1),H',⟨oL⟩,⟨mK j⟩,⟨kS c _⟩,⟨q4x2⟩,⟨cK⟩,⟨q4x3⟩⟩
  ·rw[if_neg ao]at H;obtain⟨ap,bQ⟩:=eF ao
   (first|rw[ap]|(simp only[i64_w,i32_w];rw[ap])|skip)
   have H':=aM H;clear H;go_wp2;go_meet
   case rel=>exact⟨_,(0),H',⟨oL⟩,⟨mK j⟩,⟨kS c _⟩,⟨q4x2⟩,⟨cK⟩,⟨q4x3⟩⟩
 case rest=>
  clear HC3;(try clear ao);(try clear ap);(try clear bQ);(try clear ci cj ck cl);(try clear bh bi bj cq);(try clear cm cn co cp);(try clear bk bl bm cr);obtain⟨kq,ak,HA,HJ2,j,c,HI0,HK,HB⟩:=hcut
  cases kq with
  | zero=>exact absurd HA.out (by simp[AN.j0])
  | succ kj2=>
   have H:=HA.out;clear HA;simp only[AN.j0]at H;have H':=aM H;clear H;go_wp2
   go_loopg [4] kj2 (fun kq bR w'=> ∃ (a3:Int) (aq:Int) (ar:Int) (au:List (S50)) (u211003:Value),bR= .int .i64 a3∧Aside0 (AN.l0 kq a3 s0_0 aq ar 62 ae ak au=some (r1,r2,r3,r4,r5,r6))∧Aside0 (kq≤kj2)∧Aside0 (Kd.S k50 50 w' w.heap.size (fun _=>True) u211003 au)∧Aside0 (w'.heap[af]?=some (.cells #[.int .i64 0,.int .i64 0,.int .i64 0,(.slice none 0 0)] 26 (0,0)))∧Aside0 (w'.heap[ad]?=some (.cells #[.int .i64 62,.int .i64 ae,.int .i64 ak,u211003] 26 (0,0)))∧Aside0 (IsS84 a w' g s0_0 aq ar)∧Aside0 (KeepBut w w' g none)∧Aside0 (Below a.heap.size a w'))
   case atStart=>exact⟨(0),(aE),(aG),(([] :List (S50))),(.slice none 0 0),rS,H',⟨Nat.le_refl _⟩,⟨by first|exact S_nil _ _ _ _ _|exact N_nil _ _ _ _ _|exact V_nil _ _ _ _ _|exact Q_nil _ _ _ _ _|exact R_nil _ _ _ _ _⟩,⟨mK j⟩,⟨mK c⟩,⟨q4x2⟩,⟨cK⟩,⟨q4x3⟩⟩
   case round=>
    clear H';(try clear ao);(try clear ap);(try clear bQ);(try clear ci cj ck cl);(try clear bh bi bj cq);(try clear cm cn co cp);(try clear bk bl bm cr);(try clear c);obtain⟨a3,aq,ar,au,u211003,rfl,HA,HK2,t,j,c,HI0,HK,HB⟩:=hrel
    cases gk with
    | zero=>exact absurd HA.out (by simp[AN.l0])
    | succ k2=>
     have H:=HA.out;clear HA;simp only[AN.l0]at H;replace H:=bE H;obtain⟨⟨bS,bn,bo⟩,cs,H⟩:=H;(try dsimp only at H);by_cases aI:a3<bS
     ·rw[if_pos aI]at H;have dl:=decide_eq_true aI;clear aI;replace H:=bE H;obtain⟨⟨aJ,aK,a4,a5,ct,cu⟩,dm,H⟩:=H;(try dsimp only at H);replace H:=gC H;obtain⟨cv,H⟩:=H;have dn:=aM cv;clear cv;obtain⟨bT,cw⟩ : ∃ y_:List (S50),Aside0 (y_=(au ++ [(⟨aJ,aK,a4,a5⟩ :S50)])):=⟨_,⟨rfl⟩⟩;rw[← cw.out]at H;have H':=aM H;clear H
      try go_wp2_with (first|((with_reducible refine gF 28 ?_);refine gX (some 15) Tryz.func28 (AG.calls g s0_0 aq ar 5 bS bn bo a _ q4x2 q4x3 cs.out) ?_;rintro cx ⟨hi,hb,hk⟩;replace t:=aM (S_mono (S_keep (IsS84.apartS (show IsS84 a _ g s0_0 aq ar from q4x2) (by(with_reducible repeat(first|apply S_alloc|apply S_drewN|apply S_drew));exact t.out) (by decide)) hk (fun _ h=>h.2)) (fun _ h=>h.1));replace j:=bK hk j a2.out;replace c:=bK hk c aH.out;replace HK:=tK (w:=w) hk;replace HB:=aM hb;replace HI0:=aM hi;clear hb hk hi))
      replace t:=aM (S_drew t.out);replace j:=dB j;replace c:=dB c;replace HI0:=aM (IsS84.drew HI0.out);replace HK:=aM (keep_drew HK.out);replace HB:=dW HB
      refine sV 8 (fun w'=>w'.cell? ⟨ad,0,none⟩=some (.int .i64 62)∧w'.cell? ⟨ad,1,none⟩=some (.int .i64 ae)∧w'.cell? ⟨ad,2,none⟩=some (.int .i64 ak)∧w'.cell? ⟨ad,3,none⟩=some (u211003)) (ds:=[7]) AN.tab7 AN.bits7 qh4x0 fun HT_ HW_ hHeld=>?_
      generalize cx.drew=d6 at t j c HI0 HK HB hHeld ⊢;refine pZ 0 19 1 ?_;refine pZ 2 21 5 ?_;refine tZ 1 20 7 (y:=q4x4) (h:=?_)
      refine oZ 3 22 15 fun K hK=>?_
      refine eV Tryz.func47 (AP.calls k2 g s0_0 bn bo aJ aK a4 a5 ct cu a _ q4x2 q4x3 dm.out) ?_
      rintro e d7 ⟨d8,d9,rfl,ah,bU,hi,hb,hk⟩;refine⟨_,rfl,?_⟩
      replace t:=aM (S_mono (S_told (S_told (S_oldK (IsS84.apartS (show IsS84 a _ g s0_0 bn bo from q4x2) (by(with_reducible repeat(first|apply S_alloc|apply S_drewN|apply S_drew));exact t.out) (by decide)) hk) (R_base ah)) (R_base bU)) (fun _ h_=>h_.1))
      replace j:=bK hk j a2.out;replace c:=bK hk c aH.out;have bp:=aM (R_lower ah (keep_size (w:=w) (g:=g) (row:=none) cK));have bq:=aM (R_lower bU (keep_size (w:=w) (g:=g) (row:=none) cK));replace HK:=tK (w:=w) hk;replace HB:=aM hb;replace HI0:=aM hi;(try clear hb);(try clear hk);(try clear hi);(try clear ah);(try clear bU);obtain⟨cy,cz,cA⟩:=R_slice bp.out
      (first|subst cA|(injection cA with f1_ f2_ f3_;have f4_:=f1_.symm;have f5_:=f3_.symm;clear f1_ f2_ f3_;subst f4_;subst f5_))
      obtain⟨cD,cE,cF⟩:=R_slice bq.out
      (first|subst cF|(injection cF with f1_ f2_ f3_;have f4_:=f1_.symm;have f5_:=f3_.symm;clear f1_ f2_ f3_;subst f4_;subst f5_))
      refine hK.out _ _ qh4x0 (fun hHeld=>?_)
      clear hK K;refine normZ (some 22) ?_
      refine oZ 4 23 31 fun K hK=>?_
      refine value_ (w1:=?_) (v:=?_) (by rfl) rfl ?_ ?_
      rotate_left 2
      ·go_simp;constructor
       ·rfl
       ·rfl
      refine hK.out _ _ ⟨(blk_cell (blk_alloc c.out _) 0).trans rfl,(blk_cell (blk_alloc c.out _) 1).trans rfl,(blk_cell (blk_alloc c.out _) 2).trans rfl,(blk_cell (blk_alloc c.out _) 3).trans rfl⟩ (fun hHeld=>?_)
      clear hK K;refine normZ (some 23) ?_
      refine oZ 5 24 63 fun K hK=>?_
      refine S_append_step k50 w.heap.size (by rfl) (.tmp 20) (.tmp 23) 24 50 (.agg #[(.slice none 0 0),(.slice none 0 0),(.int .i64 0),(.int .i64 0)]) 64 rfl Tryz.underlying24 info50 rfl (by decide) (by omega) u211003 au (⟨aJ,aK,a4,a5⟩ :S50) [.slice cy aJ.length cz,.slice cD aK.length cE,.int .i64 a4,.int .i64 a5] (fun _=>True) (fun k_=>some k_=(.slice cy aJ.length cz:Value).ownBlock∨some k_=(.slice cD aK.length cE:Value).ownBlock) rfl rfl ?aP (fun k_ hk_=>hk_.elim (fun h_=>((R_mono (ok':=fun k_=>((fun _=>True)) k_∧some k_≠(u211003:Value).ownBlock) (R_apart' (bp.out) (S_typed t.out) (by decide)) (fun k_ hk=>⟨trivial,hk.2⟩))).1 k_ h_.symm) (fun h_=>((R_mono (ok':=fun k_=>((fun _=>True)) k_∧some k_≠(u211003:Value).ownBlock) (R_apart' (bq.out) (S_typed t.out) (by decide)) (fun k_ hk=>⟨trivial,hk.2⟩))).1 k_ h_.symm)) ?aF ?aO (Below.refl _ _) ?aS ?aL ?_
      (case aP=>exact k50_mkM _ _ _ (⟨aJ,aK,a4,a5⟩ :S50) (R_mono (R_tight rfl (R_mono (ok':=fun k_=>((fun _=>True)) k_∧some k_≠(u211003:Value).ownBlock) (R_apart' (bp.out) (S_typed t.out) (by decide)) (fun k_ hk=>⟨trivial,hk.2⟩))) (fun _ h_=>Or.inl h_)) (R_mono (R_tight rfl (R_mono (ok':=fun k_=>((fun _=>True)) k_∧some k_≠(u211003:Value).ownBlock) (R_apart' (bq.out) (S_typed t.out) (by decide)) (fun k_ hk=>⟨trivial,hk.2⟩))) (fun _ h_=>Or.inr (h_))))
      (case aF=>exact(fun _ _=>trivial))
      (case aO=>exact(by exact sM t (fun k_ hk=>⟨trivial,fun e_=>e_.elim (fun h_=>hk.1.2 h_) (fun h_=>hk.2 h_)⟩)))
      (case aS=>exact(keep_size (w:=w) (g:=g) (row:=none) cK))
      (case aL=>have:=dn.out;omega)
      intro ea dp ho hb hg hat;rw[← cw.out]at ho
      replace j:=aM (blk_grown (mK j) hg (S_ne t.out j.out (by decide)))
      replace c:=aM (blk_grown (mK c) hg (S_ne t.out c.out (by decide)))
      replace HB:=aM (below_weaken q4x3 HL.out hb)
      replace HI0:=aM (IsS84.grown q4x2 hg (IsS84.own_neS HI0.out t.out (by decide)))
      replace HK:=aM (KeepBut.trans (cK:KeepBut w _ g none) (KeepBut.of_grown hg g) (S_base2 t.out));have cG:=aM ho;clear t bp bq ho hb hg hat;obtain⟨cI,cJ,cL⟩:=S_slice cG.out
      (first|subst cL|(injection cL with f1_ f2_ f3_;have f4_:=f1_.symm;have f5_:=f3_.symm;clear f1_ f2_ f3_;subst f4_;subst f5_))
      refine hK.out _ _ qh4x0 (fun hHeld=>?_)
      clear hK K;refine normZ (some 24) ?_
      refine pZ 6 25 127 ?_
      refine last_Z 7 (none) (msk 8 255) HT_.out fun K hK=>?_
      have hs28:dp.cell? ⟨ad,3,none⟩=some (u211003):=(blk_cell c.out 3).trans rfl;have hfs28:=blk_frozen c.out 3;have hns28_0:=bf.out;have hms28_0:=bg.out
      refine skip_ (w1:=?_) (by rfl) rfl ?_ ?_
      rotate_left
      ·go_simp;rfl
      refine hK.out _ _ ?_;clear hK K
      refine done_ (done_of HT_.out (by kernel_rfl)) ?_
      try go_wp2
      go_roundg k2
      case measure=>have:=HJ2.out;have:=HK2.out;omega
      case rel=>exact⟨(wrap64 (a3+1)),(ct),(cu),(bT),(.slice cI bT.length cJ),rS,H',⟨by have:=HJ2.out;have:=HK2.out;omega⟩,⟨by(with_reducible repeat(first|apply S_alloc|apply S_drewN|apply S_drew));exact S_mono (S_far (p:=⟨ad,3,none⟩) (S_types cG.out c.out (by decide)) (fun _ hk=>hk.2) (.slice cI bT.length cJ)) (fun _ hk=>trivial)⟩,⟨mK j⟩,⟨kS c _⟩,⟨q4x2⟩,⟨cK⟩,⟨q4x3⟩⟩
     ·rw[if_neg aI]at H;have dl:=decide_eq_false aI;clear aI;simp only[Option.some.injEq,Prod.mk.injEq]at H;obtain⟨rfl,rfl,rfl,rfl,rfl,rfl⟩:=H
      go_wp2_with (first|((with_reducible refine gF 28 ?_);refine gX (some 15) Tryz.func28 (AG.calls g s0_0 aq ar 5 bS bn bo a _ q4x2 q4x3 cs.out) ?_;rintro dq ⟨hi,hb,hk⟩;replace t:=aM (S_mono (S_keep (IsS84.apartS (show IsS84 a _ g s0_0 aq ar from q4x2) (by(with_reducible repeat(first|apply S_alloc|apply S_drewN|apply S_drew));exact t.out) (by decide)) hk (fun _ h=>h.2)) (fun _ h=>h.1));replace j:=bK hk j a2.out;replace c:=bK hk c aH.out;replace HK:=tK (w:=w) hk;replace HB:=aM hb;replace HI0:=aM hi;clear hb hk hi;have hnb30:=bg.out;have hnc30:=bf.out;have hnb31:=aH.out;have hnc31:=bP.out;obtain⟨eb,ec,ed,ee,ef,eg,eh,ei⟩:=cz4 c;have hnb33:=a2.out;have hnc33:=di.out;obtain⟨dr,dt,du,ej,dv,dw,dx,ek⟩:=cz4 j;obtain⟨cM,cN,dy⟩:=S_slice t.out;subst dy))
      refine bodyPost_ret (results_cell_row rfl _ _ af 26 #[.int .i64 62,.int .i64 ae,.int .i64 ak,.slice cM au.length cN] (0,0) _ rfl (kS j _) Tryz.underlying26 rfl (by kernel_rfl)) rfl ?_
      exact⟨_,rE,by(with_reducible repeat(first|apply S_alloc|apply S_drewN|apply S_drew));exact S_mono (zS4 (i:=af) (S_types t.out j.out (by decide)) (fun _ hk=>hk.2) (.int .i64 62) (.int .i64 ae) (.int .i64 ak) (.slice cM au.length cN)) (fun _ hk=>trivial),q4x2,q4x3,cK⟩
def BA.l0:Nat→Int→List Int→Int→Int→Int→Int→List (S52)→Option (Int×Int×(List (S52))×Int×Int)
  | 0,_,_,_,_,_,_,_=>none
  | k+1,a0,ai,aB,aC,cO,cP,bV=>if a0<3 then((BN.f ai aB aC).bind fun br=>(if bV.length<8796093022208 then(BA.l0 k (wrap64 (a0+1)) ai br.2.2.1 br.2.2.2 cO cP (bV ++ [(⟨br.1,br.2.1⟩ :S52)]))else(none)))else(some (cO,cP,bV,aB,aC))
def BA.f (k:Nat) (s0_0:List Int) (s0_1:Int) (s0_2:Int):Option (Int×Int×(List (S52))×Int×Int):=(A6.f s0_0 s0_1 s0_2 (([62,62,62,62,3] :List Int))).bind fun bW=>((A6.f s0_0 bW.2.1 bW.2.2 (([0,1,2,3,4,6,9,11,4294967295,77] :List Int))).bind fun bX=>(BA.l0 k 0 s0_0 bX.2.1 bX.2.2 bW.1 bX.1 ([] :List (S52))))
theorem BA.calls (k:Nat) (g:Nat) (s0_0:List Int) (s0_1:Int) (s0_2:Int) (r1:Int) (r2:Int) (r3:List (S52)) (r4:Int) (r5:Int) (a w:World) (hI:IsS84 a w g s0_0 s0_1 s0_2) (hB:Below a.heap.size a w) (h:BA.f k s0_0 s0_1 s0_2=some (r1,r2,r3,r4,r5)) :
 Calls Tryz.prog 17 #[.pointer (some ⟨g,0,none⟩)] w fun e w'=> ∃ v2_:Value,e= .returned (.agg #[.int .i64 r1,.int .i64 r2,v2_])∧Kd.R k52 52 w' w.heap.size (fun _=>True) v2_ r3∧IsS84 a w' g s0_0 r4 r5∧Below a.heap.size a w'∧KeepBut w w' g none:=by
 have hu29:=Tryz.underlying29;have hu52:=Tryz.underlying52;have HI0:=aM hI;have HK:=aM (KeepBut.refl w g none);have HL:=aM hB.size;clear hI;have HW0:=aM hB.size;have HB:=aM hB;clear hB
 unfold BA.f at h;have H:=h
 clear h;obtain⟨dz,bY⟩ : ∃ y_:List Int,Aside0 (y_=(([62,62,62,62,3] :List Int))):=⟨_,⟨rfl⟩⟩;rw[← bY.out]at H;replace H:=bE H;obtain⟨⟨bs,bu,bv⟩,ac,H⟩:=H;(try dsimp only at H);obtain⟨dC,bZ⟩ : ∃ y_:List Int,Aside0 (y_=(([0,1,2,3,4,6,9,11,4294967295,77] :List Int))):=⟨_,⟨rfl⟩⟩;rw[← bZ.out]at H;replace H:=bE H;obtain⟨⟨bw,bx,bz⟩,aN,H⟩:=H;(try dsimp only at H);have H':=aM H;clear H;go_enter Tryz.func17,Tryz.ntmps17
 go_wp2_with (first|((with_reducible refine gN 2 ?_);refine boxZ 2 #[.int .i64 0,.int .i64 0,.slice none 0 0] 29 ?_;intro bA hg dh hbox hb;replace HB:=aM (below_step q4x1 hb);have m:=aM hbox;have GW227:=gK (w:=w) hg;have GE227:=gW HW0 hg;replace HK:=zKT (w:=w) (g:=g) hb;have dD:=aM ((by rw[hg];exact Nat.ne_of_lt (IsS84.lt (show IsS84 a _ g s0_0 s0_1 s0_2 from q4x0)):g≠bA));have bB:=aM ((by rw[hg];exact Nat.ne_of_gt (IsS84.lt (show IsS84 a _ g s0_0 s0_1 s0_2 from q4x0)):bA≠g));replace HI0:=aM (IsS84.below q4x0 hb);clear hb hbox hg)|((with_reducible refine gN 7 ?_);refine R_lit (Kd.int .i64) _ 3 ?hg (N:=7) ?hd (xs:=([62,62,62,62,3] :List Int)) (inner:=[.int .i64 62,.int .i64 62,.int .i64 62,.int .i64 62,.int .i64 3]) (ok:=fun _=>True) (okp:=fun _=>True) ?hr ?hp (fun _ hk=>hk) trivial (Below.refl _ _) (Nat.le_refl _) (by simp) ?_;(case hd=>rfl);(case hg=>rfl);(case hr=>exact rG);(case hp=>exact(Reps.one (zMI 62) (Reps.one (zMI 62) (Reps.one (zMI 62) (Reps.one (zMI 62) (Reps.one (zMI 3) (Reps.none _ _)))))));intro el bN aa hb hg_ hnew_;clear hg_ hnew_;(first|rw[← bY.out]at aa|(simp only[Int.reduceToNat]at aa;rw[← bY.out]at aa));have G:=aM (R_lower aa (keep_size (w:=w) (g:=g) (row:=none) cK));replace m:=kB m hb;replace HK:=zKT (w:=w) (g:=g) hb;replace HB:=aM (below_step q4x3 hb);replace HI0:=aM (IsS84.below q4x2 hb);clear hb aa;obtain⟨dj,dk,bO⟩:=R_slice G.out;subst bO)|((with_reducible refine gF 46 ?_);refine gX (some 8) Tryz.func46 (A6.calls g s0_0 s0_1 s0_2 _ _ dz bs bu bv a _ q4x2 q4x3 (rX G) ((rY G)) (far_slice (IsS84.own_ne HI0.out G.out (by decide))) ac.out) ?_;rintro ch ⟨hi,hb,hk⟩;replace m:=bK hk m bB.out;replace G:=aM (R_mono (R_keep (IsS84.apart (show IsS84 a _ g s0_0 s0_1 s0_2 from q4x2) (mR G) (by decide)) hk (fun _ h=>h.2)) (fun _ h=>h.1));replace HK:=tK (w:=w) hk;replace HB:=aM hb;replace HI0:=aM hi;clear hb hk hi)|((with_reducible refine gN 10 ?_);refine R_lit (Kd.int .i64) _ 3 ?hg (N:=10) ?hd (xs:=([0,1,2,3,4,6,9,11,4294967295,77] :List Int)) (inner:=[.int .i64 0,.int .i64 1,.int .i64 2,.int .i64 3,.int .i64 4,.int .i64 6,.int .i64 9,.int .i64 11,.int .i64 4294967295,.int .i64 77]) (ok:=fun _=>True) (okp:=fun _=>True) ?hr ?hp (fun _ hk=>hk) trivial (Below.refl _ _) (Nat.le_refl _) (by simp) ?_;(case hd=>rfl);(case hg=>rfl);(case hr=>exact rG);(case hp=>exact(Reps.one (zMI 0) (Reps.one (zMI 1) (Reps.one (zMI 2) (Reps.one (zMI 3) (Reps.one (zMI 4) (Reps.one (zMI 6) (Reps.one (zMI 9) (Reps.one (zMI 11) (Reps.one (zMI 4294967295) (Reps.one (zMI 77) (Reps.none _ _))))))))))));intro em ag aQ hb hg_ hnew_;clear hg_ hnew_;(first|rw[← bZ.out]at aQ|(simp only[Int.reduceToNat]at aQ;rw[← bZ.out]at aQ));have al:=aM (R_lower (R_new' aQ (R_lt (mR G))) (keep_size (w:=w) (g:=g) (row:=none) cK));replace G:=eB G (R_base aQ) hb;replace m:=kB m hb;replace HK:=zKT (w:=w) (g:=g) hb;replace HB:=aM (below_step q4x3 hb);replace HI0:=aM (IsS84.below q4x2 hb);clear hb aQ;obtain⟨en,eo,dE⟩:=R_slice al.out;subst dE)|((with_reducible refine gF 46 ?_);refine gX (some 11) Tryz.func46 (A6.calls g s0_0 bu bv _ _ dC bw bx bz a _ q4x2 q4x3 (rX al) ((rY al)) (far_slice (IsS84.own_ne HI0.out al.out (by decide))) aN.out) ?_;rintro ep ⟨hi,hb,hk⟩;replace m:=bK hk m bB.out;replace G:=aM (R_mono (R_keep (IsS84.apart (show IsS84 a _ g s0_0 bu bv from q4x2) (mR G) (by decide)) hk (fun _ h=>h.2)) (fun _ h=>h.1));replace al:=aM (R_mono (R_keep (IsS84.apart (show IsS84 a _ g s0_0 bu bv from q4x2) (mR al) (by decide)) hk (fun _ h=>h.2)) (fun _ h=>h.1));replace HK:=tK (w:=w) hk;replace HB:=aM hb;replace HI0:=aM hi;clear hb hk hi)|((with_reducible refine gN 3 ?_);refine boxZ 3 #[.int .i64 0,.int .i64 0,.slice none 0 0] 29 ?_;intro b0 hg eq hbox hb;replace G:=rB G hb;replace al:=rB al hb;replace HB:=aM (below_step q4x3 hb);have z:=aM hbox;have GW240:=gK (w:=w) hg;have GE240:=gW HW0 hg;replace HK:=zKT (w:=w) (g:=g) hb;have b1:=nL hg m;have b5:=nG hg m;replace m:=kB m hb;have b8:=aM ((by rw[hg];exact Nat.ne_of_lt (IsS84.lt (show IsS84 a _ g s0_0 bx bz from q4x2)):g≠b0));have bC:=aM ((by rw[hg];exact Nat.ne_of_gt (IsS84.lt (show IsS84 a _ g s0_0 bx bz from q4x2)):b0≠g));replace HI0:=aM (IsS84.below q4x2 hb);clear hb hbox hg;have hnb14:=b5.out;have hnc14:=b1.out;have hnb15:=bC.out;have hnc15:=b8.out;obtain⟨bh,bi,bj,bk,bl,bm⟩:=cz3 z))
 go_loopg [4] k (fun kq bR w'=> ∃ (a6:Int) (a7:Int) (a8:Int) (aR:List (S52)) (u241002:Value),bR= .int .i64 a6∧Aside0 (BA.l0 kq a6 s0_0 a7 a8 bs bw aR=some (r1,r2,r3,r4,r5))∧Aside0 (kq≤k)∧Aside0 (Kd.R k52 52 w' w.heap.size (fun _=>True) u241002 aR)∧Aside0 (w'.heap[bA]?=some (.cells #[.int .i64 0,.int .i64 0,(.slice none 0 0)] 29 (0,0)))∧Aside0 (w'.heap[b0]?=some (.cells #[.int .i64 bs,.int .i64 bw,u241002] 29 (0,0)))∧Aside0 (IsS84 a w' g s0_0 a7 a8)∧Aside0 (KeepBut w w' g none)∧Aside0 (Below a.heap.size a w'))
 case atStart=>exact⟨(0),(bx),(bz),(([] :List (S52))),(.slice none 0 0),rS,H',⟨Nat.le_refl _⟩,⟨by first|exact R_nil _ _ _ _ _|exact N_nil _ _ _ _ _|exact V_nil _ _ _ _ _|exact Q_nil _ _ _ _ _|exact S_nil _ _ _ _ _⟩,⟨mK m⟩,⟨kS z _⟩,⟨q4x2⟩,⟨cK⟩,⟨q4x3⟩⟩
 case round=>
  clear H';(try clear bh bi bj);(try clear bk bl bm);(try clear z);obtain⟨a6,a7,a8,aR,u241002,rfl,HA,HK1,I,m,z,HI0,HK,HB⟩:=hrel
  cases gk with
  | zero=>exact absurd HA.out (by simp[BA.l0])
  | succ k1=>
   have H:=HA.out;clear HA;simp only[BA.l0]at H;by_cases aT:a6<3
   ·rw[if_pos aT]at H;have dF:=decide_eq_true aT;clear aT;replace H:=bE H;obtain⟨⟨av,aw,bD,bF⟩,dG,H⟩:=H;(try dsimp only at H);replace H:=gC H;obtain⟨cQ,H⟩:=H;have dH:=aM cQ;clear cQ;obtain⟨cR,cS⟩ : ∃ y_:List (S52),Aside0 (y_=(aR ++ [(⟨av,aw⟩ :S52)])):=⟨_,⟨rfl⟩⟩;rw[← cS.out]at H;have H':=aM H;clear H
    go_wp2_with (first|((with_reducible refine gF 48 ?_);refine gX (some 18) Tryz.func48 (BN.calls g s0_0 a7 a8 av aw bD bF a _ q4x2 q4x3 dG.out) ?_;rintro er ⟨hi,hb,hk⟩;replace I:=aM (R_mono (R_keep (IsS84.apart (show IsS84 a _ g s0_0 a7 a8 from q4x2) (mR I) (by decide)) hk (fun _ h=>h.2)) (fun _ h=>h.1));replace m:=bK hk m bB.out;replace z:=bK hk z bC.out;replace HK:=tK (w:=w) hk;replace HB:=aM hb;replace HI0:=aM hi;clear hb hk hi)|((with_reducible refine gN 5 ?_);refine boxZ 5 #[.int .i64 0,.int .i64 0] 52 ?_;intro aU hg cx hbox hb;replace I:=aM (R_below (R_elderB (mR I) aU (Nat.le_of_eq hg.symm)) hb);replace HB:=aM (below_step q4x3 hb);have bG:=aM hbox;have GW245:=gK (w:=w) hg;have GE245:=gW HW0 hg;replace HK:=zKT (w:=w) (g:=g) hb;have dI:=nL hg m;have dJ:=nG hg m;replace m:=kB m hb;have dK:=nL hg z;have dL:=nG hg z;replace z:=kB z hb;have dM:=aM ((by rw[hg];exact Nat.ne_of_lt (IsS84.lt (show IsS84 a _ g s0_0 bD bF from q4x2)):g≠aU));have dN:=aM ((by rw[hg];exact Nat.ne_of_gt (IsS84.lt (show IsS84 a _ g s0_0 bD bF from q4x2)):aU≠g));replace HI0:=aM (IsS84.below q4x2 hb);clear hb hbox hg;have hnb22:=dJ.out;have hnc22:=dI.out;have hnb23:=dL.out;have hnc23:=dK.out;have hnb24:=dN.out;have hnc24:=dM.out;obtain⟨es,et,eu,ev⟩:=cz2 bG;have hnb26:=b5.out;have hnc26:=b1.out;have hnb27:=bC.out;have hnc27:=b8.out;obtain⟨ew,ex,ey,ez,eA,eC⟩:=cz3 z)|((with_reducible refine gA 20 22 ?_);at_builtin;refine R_append k52 w.heap.size rfl (.tmp 20) (.tmp 22) 27 52 (.agg #[(.int .i64 0),(.int .i64 0)]) 16 rfl Tryz.underlying27 info52 rfl (by decide) (by omega) u241002 aR (⟨av,aw⟩ :S52) [.int .i64 av,.int .i64 aw] (fun k_=>k_≠aU) (fun _=>False) rfl (by first|(go_simp;done)|(go_simp;rfl)) ?aP (fun _ hk=>hk.elim) ?aF ?aO (Below.refl _ _) ?aS ?aL ?_;(case aP=>exact k52_mkM _ _ _ (⟨av,aw⟩ :S52));(case aF=>exact(fun k_ hk=>Kd.freshB (g:=aU) (o:= .cells #[.int .i64 av,.int .i64 aw] 52 (0,0)) (kS bG _) k_ hk));(case aO=>exact(fR (R_mono I.out (fun k_ hk=>(⟨hk,hk.2⟩ :_∧k_≠aU))) (fun _ hk=>hk.1.2)));(case aS=>exact(keep_size (w:=w) (g:=g) (row:=none) cK));(case aL=>have:=dH.out;omega);intro eD dq ho hb hg hat;rw[← cS.out]at ho;replace m:=kN m hg I m;replace z:=kN z hg I z;replace bG:=kG bG hg (R_away I.out (fun _ hk=>hk.2)) (.cells #[.int .i64 av,.int .i64 aw] 52 (0,0));replace HB:=aM (below_weaken q4x3 HL.out hb);replace HI0:=aM (IsS84.grown q4x2 hg (IsS84.own_ne HI0.out I.out (by decide)));replace HK:=aM (KeepBut.trans (cK:KeepBut w _ g none) (KeepBut.of_grown hg g) (R_base2 I.out));have cT:=aM ho;clear I ho hb hg hat;obtain⟨dO,dP,dQ⟩:=R_slice cT.out;subst dQ;obtain⟨eE,eG,eH,eI,eJ,eK⟩:=cz3 z))
    go_roundg k1
    case measure=>exact oK
    case rel=>exact⟨(wrap64 (a6+1)),(bD),(bF),(cR),(.slice dO cR.length dP),rS,H',⟨oK⟩,⟨fR (R_types cT.out z.out (by decide)) (fun _ hk=>trivial)⟩,⟨mK m⟩,⟨kS z _⟩,⟨q4x2⟩,⟨cK⟩,⟨q4x3⟩⟩
   ·rw[if_neg aT]at H;have dF:=decide_eq_false aT;clear aT;simp only[Option.some.injEq,Prod.mk.injEq]at H;obtain⟨rfl,rfl,rfl,rfl,rfl⟩:=H;have hnb32:=b5.out;have hnc32:=b1.out;have hnb33:=bC.out;have hnc33:=b8.out;obtain⟨dr,dt,du,dv,dw,dx⟩:=cz3 z;have hnb35:=bB.out;have hnc35:=dD.out;obtain⟨eL,eM,eN,eO,eP,eQ⟩:=cz3 m;obtain⟨dS,dT,dU⟩:=R_slice I.out;subst dU;go_wp2
    refine bodyPost_ret (results_cell_row rfl _ _ bA 29 #[.int .i64 bs,.int .i64 bw,.slice dS aR.length dT] (0,0) _ rfl (kS m _) Tryz.underlying29 rfl (by kernel_rfl)) rfl ?_
    exact⟨_,rE,fR (R_types I.out m.out (by decide)) (fun _ hk=>trivial),q4x2,q4x3,cK⟩
def Bi.f (k:Nat) (am:List Int):Option (Int×Int×Int×(List (S50))×Int×Int×(List (S52))):=(Ah.f k am).bind fun bH=>((AN.f k bH.1 bH.2.1 bH.2.2).bind fun aV=>((BA.f k bH.1 aV.2.2.2.2.1 aV.2.2.2.2.2).bind fun b9=>(some (aV.1,aV.2.1,aV.2.2.1,aV.2.2.2.1,b9.1,b9.2.1,b9.2.2.1))))
theorem q4x5 {P:Prop} (h:P:=by repeat(first|(with_reducible first|exact HI254.out|apply IsS84.alloc|apply IsS84.drewN|apply IsS84.drew|apply IsS84.set_1|apply IsS84.set_2|(apply IsS84.far;case hne=>exact(Aside0.out (by assumption))))|exact HI254.out)):P:=h
theorem q4x6 {P:Prop} (h:P:=by repeat(first|(with_reducible first|exact HB.out|apply below_alloc|apply pw_below_drewN|apply below_drew1|refine below_set ?_ (IsS84.ge HI254.out)|refine below_set ?_ (Aside0.out (by assumption)))|exact HB.out)):P:=h
theorem Bi.calls {k:Nat}{cU:Option Addr}{cV:Nat}{am:List Int}{r1:Int}{r2:Int}{r3:Int}{r4:List (S50)}{r5:Int}{r6:Int}{r7:List (S52)}{w:World}(h:Bi.f k am=some (r1,r2,r3,r4,r5,r6,r7))(cW:Kd.C (Kd.int .u8) w cU am.length am)(cX:am.length≤cV) :
 Calls Tryz.prog 5 #[.slice cU am.length cV] w fun e w'=> ∃ v3_ v6_:Value,e= .returned (.tuple #[.agg #[.int .i64 r1,.int .i64 r2,.int .i64 r3,v3_],.agg #[.int .i64 r5,.int .i64 r6,v6_]])∧Kd.S k50 50 w' w.heap.size (fun _=>True) v3_ r4∧Kd.R k52 52 w' w.heap.size (fun _=>True) v6_ r7∧Below w.heap.size w w':=by
 have hu26:=Tryz.underlying26;have hu29:=Tryz.underlying29;have HR0:=aM cW;have HC0:=aM cX;clear cW cX;have HB:=rW w
 unfold Bi.f at h;have H:=h
 clear h;replace H:=bE H;obtain⟨⟨ax,cY,cZ⟩,ac,H⟩:=H;(try dsimp only at H);replace H:=bE H;obtain⟨⟨J,L,O,E,aW,aX⟩,aN,H⟩:=H;(try dsimp only at H);replace H:=bE H;obtain⟨⟨ca,cb,cc,dV,dX⟩,cd,H⟩:=H;(try dsimp only at H);simp only[Option.some.injEq,Prod.mk.injEq]at H;obtain⟨rfl,rfl,rfl,rfl,rfl,rfl,rfl⟩:=H;go_enter Tryz.func5,Tryz.ntmps5
 try go_wp2_with (first|((with_reducible refine gN 2 ?_);refine boxZ 2 #[.int .i64 0,.int .i64 0,.int .i64 0,.slice none 0 0] 26 ?_;intro l hg bN hbox hb;have d:=aM hbox;have GW249:=gS hg;have GE249:=gS hg;replace HB:=sB hb;clear hb hbox hg)|((with_reducible refine gN 3 ?_);refine boxZ 3 #[.int .i64 0,.int .i64 0,.slice none 0 0] 29 ?_;intro s hg eR hbox hb;have q:=aM hbox;have GW250:=gS hg;have GE250:=gS hg;replace HB:=sB hb;have ay:=nL hg d;have az:=nG hg d;replace d:=kB d hb;clear hb hbox hg)|((with_reducible refine gF 15 ?_);refine gV (some 7) Tryz.func15 (Ah.calls k _ _ am ax cY cZ w _ cB HR0.out HC0.out ac.out) ?_;rintro e dY ⟨g254,rfl,hi,hb,hb2⟩;refine⟨_,rfl,?_⟩;replace HB:=aM hb;have HI254:=aM hi;have eS:=aM (IsS84.ne_blk hi (blk_below (g:=l) (o:= .cells #[.int .i64 0,.int .i64 0,.int .i64 0,.slice none 0 0] 26 (0,0)) (mK d) hb2) (by decide));have c0:=aM (Ne.symm (IsS84.ne_blk hi (blk_below (g:=l) (o:= .cells #[.int .i64 0,.int .i64 0,.int .i64 0,.slice none 0 0] 26 (0,0)) (mK d) hb2) (by decide)));replace d:=aM (blk_below (g:=l) (o:= .cells #[.int .i64 0,.int .i64 0,.int .i64 0,.slice none 0 0] 26 (0,0)) (mK d) hb2);have eU:=aM (IsS84.ne_blk hi (blk_below (g:=s) (o:= .cells #[.int .i64 0,.int .i64 0,.slice none 0 0] 29 (0,0)) (mK q) hb2) (by decide));have c1:=aM (Ne.symm (IsS84.ne_blk hi (blk_below (g:=s) (o:= .cells #[.int .i64 0,.int .i64 0,.slice none 0 0] 29 (0,0)) (mK q) hb2) (by decide)));replace q:=aM (blk_below (g:=s) (o:= .cells #[.int .i64 0,.int .i64 0,.slice none 0 0] 29 (0,0)) (mK q) hb2);(try clear hb);(try clear hb2);(try clear hi))|((with_reducible refine gF 16 ?_);refine gY (some 9) Tryz.func16 (AN.calls k g254 ax cY cZ J L O E aW aX w _ q4x5 q4x6 aN.out) ?_;rintro eW ch ⟨ah,hi,hb,hk⟩;replace d:=bK hk d c0.out;replace q:=bK hk q c1.out;have Y:=aM (S_lower ah (below_size q4x6));replace HB:=aM hb;replace HI254:=aM hi;(try clear hb);(try clear hk);(try clear hi);(try clear ah))|((with_reducible refine gN 5 ?_);refine boxZ 5 #[.int .i64 0,.int .i64 0,.int .i64 0,.slice none 0 0] 26 ?_;intro b hg ag hbox hb;replace Y:=zSW Y hb;have A:=aM hbox;have GW263:=aM ((by rw[hg];exact(below_size q4x6):w.heap.size≤b));have GE263:=aM ((by rw[hg];exact(below_size q4x6):w.heap.size≤b));replace HB:=aM (below_step q4x6 hb);have a9:=nL hg d;have u:=nG hg d;replace d:=kB d hb;have bI:=nL hg q;have D:=nG hg q;replace q:=kB q hb;have dZ:=aM ((by rw[hg];exact Nat.ne_of_lt (IsS84.lt (show IsS84 w _ g254 ax aW aX from q4x5)):g254≠b));have c3:=aM ((by rw[hg];exact Nat.ne_of_gt (IsS84.lt (show IsS84 w _ g254 ax aW aX from q4x5)):b≠g254));replace HI254:=aM (IsS84.below q4x5 hb);clear hb hbox hg;have hnb10:=u.out;have hnc10:=a9.out;have hnb11:=D.out;have hnc11:=bI.out;have hnb12:=c3.out;have hnc12:=dZ.out;obtain⟨eZ,e0,e1,e2,e3,e4,e5,e6⟩:=cz4 A;obtain⟨U,W,d0⟩:=S_slice Y.out;subst d0))
 have n0_:Aside0 (Kd.S k50 50 ((((ag.setCell ⟨b,0,none⟩ (.int .i64 J)).setCell ⟨b,1,none⟩ (.int .i64 L)).setCell ⟨b,2,none⟩ (.int .i64 O)).setCell ⟨b,3,none⟩ (.slice U E.length W)) w.heap.size (fun _=>True) (.slice U E.length W) E):=⟨by(with_reducible repeat(first|apply S_alloc|apply S_drewN|apply S_drew));exact S_mono (zS4 (i:=b) (S_types Y.out A.out (by decide)) (fun _ hk=>hk.2) (.int .i64 J) (.int .i64 L) (.int .i64 O) (.slice U E.length W)) (fun _ hk=>trivial)⟩
 have n1_:Aside0 (((((ag.setCell ⟨b,0,none⟩ (.int .i64 J)).setCell ⟨b,1,none⟩ (.int .i64 L)).setCell ⟨b,2,none⟩ (.int .i64 O)).setCell ⟨b,3,none⟩ (.slice U E.length W)).heap[l]?=some (.cells #[.int .i64 0,.int .i64 0,.int .i64 0,.slice none 0 0] 26 (0,0))):=⟨mK d⟩;have n2_:Aside0 (((((ag.setCell ⟨b,0,none⟩ (.int .i64 J)).setCell ⟨b,1,none⟩ (.int .i64 L)).setCell ⟨b,2,none⟩ (.int .i64 O)).setCell ⟨b,3,none⟩ (.slice U E.length W)).heap[s]?=some (.cells #[.int .i64 0,.int .i64 0,.slice none 0 0] 29 (0,0))):=⟨mK q⟩
 have n3_:Aside0 (((((ag.setCell ⟨b,0,none⟩ (.int .i64 J)).setCell ⟨b,1,none⟩ (.int .i64 L)).setCell ⟨b,2,none⟩ (.int .i64 O)).setCell ⟨b,3,none⟩ (.slice U E.length W)).heap[b]?=some (.cells #[.int .i64 J,.int .i64 L,.int .i64 O,.slice U E.length W] 26 (0,0))):=⟨kS A _⟩
 have n4_:Aside0 (IsS84 w ((((ag.setCell ⟨b,0,none⟩ (.int .i64 J)).setCell ⟨b,1,none⟩ (.int .i64 L)).setCell ⟨b,2,none⟩ (.int .i64 O)).setCell ⟨b,3,none⟩ (.slice U E.length W)) g254 ax aW aX):=⟨q4x5⟩;have n5_:Aside0 (Below w.heap.size w ((((ag.setCell ⟨b,0,none⟩ (.int .i64 J)).setCell ⟨b,1,none⟩ (.int .i64 L)).setCell ⟨b,2,none⟩ (.int .i64 O)).setCell ⟨b,3,none⟩ (.slice U E.length W))):=⟨q4x6⟩;(try clear Y);(try clear d);(try clear q);(try clear A);(try clear HI254);(try clear HB);generalize ((((ag.setCell ⟨b,0,none⟩ (.int .i64 J)).setCell ⟨b,1,none⟩ (.int .i64 L)).setCell ⟨b,2,none⟩ (.int .i64 O)).setCell ⟨b,3,none⟩ (.slice U E.length W))=d1 at n0_ n1_ n2_ n3_ n4_ n5_ ⊢;have Y:=n0_;have d:=n1_;have q:=n2_;have A:=n3_;have HI254:=n4_;have HB:=n5_;clear n0_ n1_ n2_ n3_ n4_ n5_;replace Y:=aM (S_drew Y.out);replace d:=dB d;replace q:=dB q;replace A:=dB A;replace HI254:=aM (IsS84.drew HI254.out);replace HB:=dW HB
 refine start_ (n:=5) (S:=fun w'=>w'.cell? ⟨b,0,none⟩=some (.int .i64 J)∧w'.cell? ⟨b,1,none⟩=some (.int .i64 L)∧w'.cell? ⟨b,2,none⟩=some (.int .i64 O)∧w'.cell? ⟨b,3,none⟩=some (.slice U E.length W)) (ds:=[]) #[false,false,false,false,false] (by kernel_rfl) rfl rfl ⟨(blk_cell A.out 0).trans rfl,(blk_cell A.out 1).trans rfl,(blk_cell A.out 2).trans rfl,(blk_cell A.out 3).trans rfl⟩ (fun hHeld=>?_)
 generalize d1.drew=e7 at Y d q A HI254 HB hHeld ⊢
 refine pure_ (i:=1) (N:=some 11) (v:=?_) (a':=?_) #[false,true,false,false,false] rfl rfl (by kernel_rfl) (fun _ _ _ h=>h) (Or.inl ⟨by rfl,?_⟩) ?_ ?_
 rotate_left
 ·intro w';go_simp;with_reducible rfl
 rotate_left
 ·simp only[Act.put,List.setIfInBounds_toArray,List.set_cons_zero,List.set_cons_succ,i64_w,i32_w];rfl
 refine take_ (i:=0) (N:=some 10) (v:=?_) (a':=?_) #[true,true,false,false,false] rfl rfl (by kernel_rfl) (fun _ _ _ h=>h) (Or.inl ⟨by rfl,?_⟩) hHeld ?_ ?_
 rotate_left
 ·rintro w' ⟨s0,s1,s2,s3⟩;go_simp;with_reducible rfl
 rotate_left
 ·simp only[Act.put,List.setIfInBounds_toArray,List.set_cons_zero,List.set_cons_succ,i64_w,i32_w];rfl
 refine one_ (i:=2) (N:=some 12) #[true,true,true,false,false] rfl rfl (by kernel_rfl) (by decide) (fun K hK=>?_)
 refine eY Tryz.func17 (BA.calls k g254 ax aW aX ca cb cc dV dX w _ q4x5 q4x6 cd.out) ?_
 rintro e8 aA ⟨ah,hi,hb,hk⟩;replace d:=bK hk d c0.out;replace q:=bK hk q c1.out
 replace Y:=aM (S_mono (S_keep (IsS84.apartS (show IsS84 w _ g254 ax aW aX from q4x5) (by(with_reducible repeat(first|apply S_alloc|apply S_drewN|apply S_drew));exact Y.out) (by decide)) hk (fun _ h=>h.2)) (fun _ h=>h.1))
 replace A:=bK hk A c3.out;have c4:=aM (R_lower ah (below_size q4x6));replace HB:=aM hb;replace HI254:=aM hi;(try clear hb);(try clear hk);(try clear hi);(try clear ah);obtain⟨da,db,dc⟩:=R_slice c4.out
 (first|subst dc|(injection dc with f1_ f2_ f3_;have f4_:=f1_.symm;have f5_:=f3_.symm;clear f1_ f2_ f3_;subst f4_;subst f5_))
 refine hK.out _ _ ⟨(blk_cell A.out 0).trans rfl,(blk_cell A.out 1).trans rfl,(blk_cell A.out 2).trans rfl,(blk_cell A.out 3).trans rfl⟩ (fun hHeld=>?_)
 clear hK K;refine normZ (some 12) ?_
 refine one_ (i:=3) (N:=none) #[true,true,true,true,false] rfl rfl (by kernel_rfl) (by decide) (fun K hK=>?_)
 have hs18:aA.cell? ⟨l,0,none⟩=some (.int .i64 0):=(blk_cell d.out 0).trans rfl;have hfs18:=blk_frozen d.out 0;have hns18_1:=az.out;have hns18_2:=u.out;have hms18_1:=ay.out;have hms18_2:=a9.out;have hs19:aA.cell? ⟨l,1,none⟩=some (.int .i64 0):=(blk_cell d.out 1).trans rfl;have hfs19:=blk_frozen d.out 1;have hns19_1:=az.out;have hns19_2:=u.out;have hms19_1:=ay.out;have hms19_2:=a9.out;have hs20:aA.cell? ⟨l,2,none⟩=some (.int .i64 0):=(blk_cell d.out 2).trans rfl;have hfs20:=blk_frozen d.out 2;have hns20_1:=az.out;have hns20_2:=u.out;have hms20_1:=ay.out;have hms20_2:=a9.out;have hs21:aA.cell? ⟨l,3,none⟩=some (.slice none 0 0):=(blk_cell d.out 3).trans rfl;have hfs21:=blk_frozen d.out 3;have hns21_1:=az.out;have hns21_2:=u.out;have hms21_1:=ay.out;have hms21_2:=a9.out
 refine skip_ (w1:=?_) (by rfl) rfl ?_ ?_
 rotate_left
 ·go_simp;rfl
 refine hK.out _ _ ⟨((cell_far (p:=⟨l,_,none⟩) u.out _).trans (((cell_far (p:=⟨l,_,none⟩) u.out _).trans (((cell_far (p:=⟨l,_,none⟩) u.out _).trans (((cell_far (p:=⟨l,_,none⟩) u.out _).trans (hHeld.1)))))))),((cell_far (p:=⟨l,_,none⟩) u.out _).trans (((cell_far (p:=⟨l,_,none⟩) u.out _).trans (((cell_far (p:=⟨l,_,none⟩) u.out _).trans (((cell_far (p:=⟨l,_,none⟩) u.out _).trans (hHeld.2.1)))))))),((cell_far (p:=⟨l,_,none⟩) u.out _).trans (((cell_far (p:=⟨l,_,none⟩) u.out _).trans (((cell_far (p:=⟨l,_,none⟩) u.out _).trans (((cell_far (p:=⟨l,_,none⟩) u.out _).trans (hHeld.2.2.1)))))))),((cell_far (p:=⟨l,_,none⟩) u.out _).trans (((cell_far (p:=⟨l,_,none⟩) u.out _).trans (((cell_far (p:=⟨l,_,none⟩) u.out _).trans (((cell_far (p:=⟨l,_,none⟩) u.out _).trans (hHeld.2.2.2))))))))⟩ (fun hHeld=>?_)
 clear hK K
 refine one_ (i:=4) (N:=none) #[true,true,true,true,true] rfl rfl (by kernel_rfl) (by decide) (fun K hK=>?_)
 have hs22:aA.cell? ⟨s,0,none⟩=some (.int .i64 0):=(blk_cell q.out 0).trans rfl;have hfs22:=blk_frozen q.out 0;have hns22_0:=ay.out;have hns22_2:=D.out;have hms22_0:=az.out;have hms22_2:=bI.out;have hs23:aA.cell? ⟨s,1,none⟩=some (.int .i64 0):=(blk_cell q.out 1).trans rfl;have hfs23:=blk_frozen q.out 1;have hns23_0:=ay.out;have hns23_2:=D.out;have hms23_0:=az.out;have hms23_2:=bI.out;have hs25:aA.cell? ⟨s,2,none⟩=some (.slice none 0 0):=(blk_cell q.out 2).trans rfl;have hfs25:=blk_frozen q.out 2;have hns25_0:=ay.out;have hns25_2:=D.out;have hms25_0:=az.out;have hms25_2:=bI.out
 refine skip_ (w1:=?_) (by rfl) rfl ?_ ?_
 rotate_left
 ·go_simp;rfl
 refine hK.out _ _ ⟨((cell_far (p:=⟨s,_,none⟩) D.out _).trans (((cell_far (p:=⟨s,_,none⟩) D.out _).trans (((cell_far (p:=⟨s,_,none⟩) D.out _).trans (hHeld.1)))))),((cell_far (p:=⟨s,_,none⟩) D.out _).trans (((cell_far (p:=⟨s,_,none⟩) D.out _).trans (((cell_far (p:=⟨s,_,none⟩) D.out _).trans (hHeld.2.1)))))),((cell_far (p:=⟨s,_,none⟩) D.out _).trans (((cell_far (p:=⟨s,_,none⟩) D.out _).trans (((cell_far (p:=⟨s,_,none⟩) D.out _).trans (hHeld.2.2.1)))))),((cell_far (p:=⟨s,_,none⟩) D.out _).trans (((cell_far (p:=⟨s,_,none⟩) D.out _).trans (((cell_far (p:=⟨s,_,none⟩) D.out _).trans (hHeld.2.2.2))))))⟩ (fun hHeld=>?_)
 clear hK K
 refine done_ (by kernel_rfl) ?_
 try go_wp2
 refine bodyPost_ret (results_cc rfl _ _ l s 26 29 #[.int .i64 J,.int .i64 L,.int .i64 O,.slice U E.length W] #[.int .i64 ca,.int .i64 cb,.slice da cc.length db] (0,0) (0,0) _ _ rfl (kS d _) Tryz.underlying26 rfl (by kernel_rfl) rfl (kS q _) Tryz.underlying29 rfl (by kernel_rfl)) rfl ?_
 exact⟨_,_,rE,by(with_reducible repeat(first|apply S_alloc|apply S_drewN|apply S_drew));exact S_mono (S_far (p:=⟨s,2,none⟩) (S_far (p:=⟨s,1,none⟩) (S_far (p:=⟨s,0,none⟩) (zS4 (i:=l) (S_types (S_types Y.out d.out (by decide)) q.out (by decide)) (fun _ hk=>hk.1.2) (.int .i64 J) (.int .i64 L) (.int .i64 O) (.slice U E.length W)) (fun _ hk=>hk.2) (.int .i64 ca)) (fun _ hk=>hk.2) (.int .i64 cb)) (fun _ hk=>hk.2) (.slice da cc.length db)) (fun _ hk=>trivial),fR (R_types (R_types c4.out d.out (by decide)) q.out (by decide)) (fun _ hk=>trivial),q4x6⟩
def Aq.f (x:Int) (X:Int) (ba:Int):Option (Bool):=if x≥X then(some (decide (x≤ba)))else(some false)
theorem Aq.calls {x:Int}{X:Int}{ba:Int}{r:Bool}{w:World}(h:Aq.f x X ba=some r) :
 Calls Tryz.prog 52 #[.int .i64 x,.int .i64 X,.int .i64 ba] w fun e w'=>e= .returned (.bool r)∧Drawn0 w w':=by
 have H:(if x≥X then(some (decide (x≤ba)))else(some false))=some r:=h;clear h;by_cases ab:x≥X
 ·rw[if_pos ab]at H;have d2:decide (X≤x)=true:=decide_eq_true ab;clear ab;obtain rfl:=Option.some.inj H;go_enter Tryz.func52,Tryz.ntmps52;go_wp2;go_ret
  exact⟨by first|rfl|(simp;done)|(simp[*];done),by repeat(first|exact Drawn0.refl _|apply Drawn0.step)⟩
 ·rw[if_neg ab]at H;have d2:decide (X≤x)=false:=decide_eq_false ab;clear ab;obtain rfl:=Option.some.inj H;go_enter Tryz.func52,Tryz.ntmps52;go_wp2;go_ret
  exact⟨by first|rfl|(simp;done)|(simp[*];done),by repeat(first|exact Drawn0.refl _|apply Drawn0.step)⟩
def Aw.f (x:Int):Option (Bool):=(Aq.f x 0 4294967295).bind fun dd=>(some dd)
theorem Aw.calls {x:Int}{r:Bool}{w:World}(h:Aw.f x=some r) :
 Calls Tryz.prog 50 #[.int .i64 x] w fun e w'=>e= .returned (.bool r)∧Drawn0 w w':=by
 unfold Aw.f at h;have H:=h
 clear h;replace H:=bE H;obtain⟨dd,ac,H⟩:=H;obtain rfl:=Option.some.inj H;go_enter Tryz.func50,Tryz.ntmps50
 go_wp2_with (first|((with_reducible refine gF 52 ?_);refine gX (some 4) Tryz.func52 (Aq.calls ac.out) ?_;rintro w' ⟨nd,rfl⟩))
 go_ret
 exact⟨by first|rfl|(simp;done)|(simp[*];done),by repeat(first|exact Drawn0.refl _|apply Drawn0.step)⟩
def BT.f (x:Int) (X:Int):Option (Bool):=(Aq.f x 0 5).bind fun ce=>(if ce=true then((Aq.f X 0 65535).bind fun de=>(some de))else(some false))
theorem BT.calls {x:Int}{X:Int}{r:Bool}{w:World}(h:BT.f x X=some r) :
 Calls Tryz.prog 51 #[.int .i64 x,.int .i64 X] w fun e w'=>e= .returned (.bool r)∧Drawn0 w w':=by
 unfold BT.f at h;have H:=h
 clear h;replace H:=bE H;obtain⟨ce,aN,H⟩:=H;by_cases ab:ce=true
 ·subst ab;replace H:=iT H;replace H:=bE H;obtain⟨de,d3,H⟩:=H;obtain rfl:=Option.some.inj H;go_enter Tryz.func51,Tryz.ntmps51
  go_wp2_with (first|((with_reducible refine gF 52 ?_);refine gX (some 6) Tryz.func52 (Aq.calls aN.out) ?_;rintro w' ⟨nd,rfl⟩)|(go_at_call 52;(with_reducible refine(Aq.calls d3.out).mono ?_);rintro e w' ⟨rfl,⟨nd,rfl⟩⟩))
  go_ret
  exact⟨by first|rfl|(simp;done)|(simp[*];done),by repeat(first|exact Drawn0.refl _|apply Drawn0.step)⟩
 ·replace ab:=Bool.eq_false_iff.mpr ab;subst ab;replace H:=iF H;obtain rfl:=Option.some.inj H;go_enter Tryz.func51,Tryz.ntmps51
  go_wp2_with (first|((with_reducible refine gF 52 ?_);refine gX (some 6) Tryz.func52 (Aq.calls aN.out) ?_;rintro w' ⟨nd,rfl⟩))
  go_ret
  exact⟨by first|rfl|(simp;done)|(simp[*];done),by repeat(first|exact Drawn0.refl _|apply Drawn0.step)⟩
def BU.f (aY:Int) (aZ:Int):Option (Bool):=(Aw.f aY).bind fun cf=>(if cf=true then((Aw.f aZ).bind fun df=>(some df))else(some false))
theorem BU.calls {aY:Int}{aZ:Int}{r:Bool}{w:World}(h:BU.f aY aZ=some r) :
 Calls Tryz.prog 100 #[.agg #[.int .i64 aY,.int .i64 aZ]] w fun e w'=>e= .returned (.bool r)∧Below w.heap.size w w':=by
 have hu52:=Tryz.underlying52;have HB:=rW w
 unfold BU.f at h;have H:=h
 clear h;replace H:=bE H;obtain⟨cf,ac,H⟩:=H;by_cases bJ:cf=true
 ·subst bJ;replace H:=iT H;replace H:=bE H;obtain⟨df,cd,H⟩:=H;obtain rfl:=Option.some.inj H;go_enter Tryz.func100,Tryz.ntmps100
  go_wp2_with (first|((with_reducible refine gN 1 ?_);refine boxZ 1 #[.int .i64 aY,.int .i64 aZ] 52 ?_;intro d4 hg bN hbox hb;have cg:=aM hbox;have GW274:=gS hg;have GE274:=gS hg;replace HB:=sB hb;clear hb hbox hg;obtain⟨e9,fa,fb,fc⟩:=cz2 cg)|((with_reducible refine gF 50 ?_);refine gX (some 5) Tryz.func50 (Aw.calls ac.out) ?_;rintro w' ⟨nd,rfl⟩)|(go_at_call 50;(with_reducible refine(Aw.calls cd.out).mono ?_);rintro e w' ⟨rfl,⟨nd,rfl⟩⟩))
  go_ret;exact⟨rE,cB⟩
 ·replace bJ:=Bool.eq_false_iff.mpr bJ;subst bJ;replace H:=iF H;obtain rfl:=Option.some.inj H;go_enter Tryz.func100,Tryz.ntmps100
  go_wp2_with (first|((with_reducible refine gN 1 ?_);refine boxZ 1 #[.int .i64 aY,.int .i64 aZ] 52 ?_;intro d4 hg dY hbox hb;have cg:=aM hbox;have GW274:=gS hg;have GE274:=gS hg;replace HB:=sB hb;clear hb hbox hg;obtain⟨fd,fe,ff,fg⟩:=cz2 cg)|((with_reducible refine gF 50 ?_);refine gX (some 5) Tryz.func50 (Aw.calls ac.out) ?_;rintro w' ⟨nd,rfl⟩))
  go_ret;exact⟨rE,cB⟩
def Ba.f (s:Int) (t:Int) (c:Int) (m:Int) (M:Int) (O:Int):Option (Bool):=(Aq.f s 0 2).bind fun aU=>(if aU=true then((BU.f t c).bind fun aV=>(if aV=true then((BU.f M O).bind fun aW=>(if aW=true then((Aq.f m 1 6).bind fun bm=>(some bm))else(some false)))else(some false)))else(some false))
theorem Ba.calls {s:Int}{t:Int}{c:Int}{m:Int}{M:Int}{O:Int}{r:Bool}{w:World}(h:Ba.f s t c m M O=some r) :
 Calls Tryz.prog 85 #[.agg #[.int .i64 s,.int .i64 t,.int .i64 c,.int .i64 m,.int .i64 M,.int .i64 O]] w fun e w'=>e= .returned (.bool r)∧Below w.heap.size w w':=by
 have hu54:=Tryz.underlying54;have hu52:=Tryz.underlying52;have HB:=rW w
 unfold Ba.f at h;have H:=h
 clear h;replace H:=bE H;obtain⟨aU,aF,H⟩:=H;by_cases G:aU=true
 ·subst G;replace H:=iT H;replace H:=bE H;obtain⟨aV,aX,H⟩:=H;by_cases L:aV=true
  ·subst L;replace H:=iT H;replace H:=bE H;obtain⟨aW,bn,H⟩:=H;by_cases U:aW=true
   ·subst U;replace H:=iT H;replace H:=bE H;obtain⟨bm,cg,H⟩:=H;obtain rfl:=Option.some.inj H;go_enter Tryz.func85,Tryz.ntmps85
    go_wp2_with (first|((with_reducible refine gN 1 ?_);refine boxZ 1 #[.int .i64 s,.int .i64 t,.int .i64 c,.int .i64 m,.int .i64 M,.int .i64 O] 54 ?_;intro aY hg ch hbox hb;have l:=aM hbox;have GW277:=gS hg;have GE277:=gS hg;replace HB:=sB hb;clear hb hbox hg;obtain⟨db,dc,dd,de,df,dg,dh,di,dj,dk,dl,dm⟩:=cz6 l)|((with_reducible refine gF 52 ?_);refine gX (some 5) Tryz.func52 (Aq.calls aF.out) ?_;rintro w' ⟨nd,rfl⟩)|(go_at_call 100;(with_reducible refine(BU.calls aX.out).mono ?_);rintro e dn ⟨rfl,hb⟩;replace l:=kB l hb;replace HB:=sB hb;clear hb;obtain⟨dp,dq,dr,ds,dt,du,dv,dw,dx,dy,dz,dC⟩:=cz6 l)|(go_at_call 100;(with_reducible refine(BU.calls bn.out).mono ?_);rintro e ci ⟨rfl,hb⟩;replace l:=kB l hb;replace HB:=sB hb;clear hb;obtain⟨bo,bp,bq,br,dD,dE,bs,bu,bv,bw,dF,dG⟩:=cz6 l)|(go_at_call 52;(with_reducible refine(Aq.calls cg.out).mono ?_);rintro e w' ⟨rfl,⟨nd,rfl⟩⟩))
    go_ret;exact⟨rE,cB⟩
   ·replace U:=Bool.eq_false_iff.mpr U;subst U;replace H:=iF H;obtain rfl:=Option.some.inj H;go_enter Tryz.func85,Tryz.ntmps85
    go_wp2_with (first|((with_reducible refine gN 1 ?_);refine boxZ 1 #[.int .i64 s,.int .i64 t,.int .i64 c,.int .i64 m,.int .i64 M,.int .i64 O] 54 ?_;intro aY hg dH hbox hb;have l:=aM hbox;have GW277:=gS hg;have GE277:=gS hg;replace HB:=sB hb;clear hb hbox hg;obtain⟨bx,bz,bA,bB,dI,dJ,bC,bD,bF,bG,dK,dL⟩:=cz6 l)|((with_reducible refine gF 52 ?_);refine gX (some 5) Tryz.func52 (Aq.calls aF.out) ?_;rintro w' ⟨nd,rfl⟩)|(go_at_call 100;(with_reducible refine(BU.calls aX.out).mono ?_);rintro e dM ⟨rfl,hb⟩;replace l:=kB l hb;replace HB:=sB hb;clear hb;obtain⟨dN,dO,dP,dQ,dS,dT,dU,dV,dX,dY,dZ,d0⟩:=cz6 l)|(go_at_call 100;(with_reducible refine(BU.calls bn.out).mono ?_);rintro e d1 ⟨rfl,hb⟩;replace l:=kB l hb;replace HB:=sB hb;clear hb))
    go_ret;exact⟨rE,cB⟩
  ·replace L:=Bool.eq_false_iff.mpr L;subst L;replace H:=iF H;obtain rfl:=Option.some.inj H;go_enter Tryz.func85,Tryz.ntmps85
   go_wp2_with (first|((with_reducible refine gN 1 ?_);refine boxZ 1 #[.int .i64 s,.int .i64 t,.int .i64 c,.int .i64 m,.int .i64 M,.int .i64 O] 54 ?_;intro aY hg d2 hbox hb;have l:=aM hbox;have GW277:=gS hg;have GE277:=gS hg;replace HB:=sB hb;clear hb hbox hg;obtain⟨cj,ck,cl,cm,d3,d4,cn,co,cp,cq,d5,d6⟩:=cz6 l)|((with_reducible refine gF 52 ?_);refine gX (some 5) Tryz.func52 (Aq.calls aF.out) ?_;rintro w' ⟨nd,rfl⟩)|(go_at_call 100;(with_reducible refine(BU.calls aX.out).mono ?_);rintro e cr ⟨rfl,hb⟩;replace l:=kB l hb;replace HB:=sB hb;clear hb))
   go_ret;exact⟨rE,cB⟩
 ·replace G:=Bool.eq_false_iff.mpr G;subst G;replace H:=iF H;obtain rfl:=Option.some.inj H;go_enter Tryz.func85,Tryz.ntmps85
  go_wp2_with (first|((with_reducible refine gN 1 ?_);refine boxZ 1 #[.int .i64 s,.int .i64 t,.int .i64 c,.int .i64 m,.int .i64 M,.int .i64 O] 54 ?_;intro aY hg d7 hbox hb;have l:=aM hbox;have GW277:=gS hg;have GE277:=gS hg;replace HB:=sB hb;clear hb hbox hg;obtain⟨cs,ct,cu,cv,cw,cx,cy,cz,cA,cD,cE,cF⟩:=cz6 l)|((with_reducible refine gF 52 ?_);refine gX (some 5) Tryz.func52 (Aq.calls aF.out) ?_;rintro w' ⟨nd,rfl⟩))
  go_ret;exact⟨rE,cB⟩
mutual
def Af.l0:Nat→List Int→Int→Int→List Int→List (S54)→Int→Int→Option (Bool)
  | 0,_,_,_,_,_,_,_=>none
  | k+1,x,aZ,D,W,X,ak,al=>if D<aZ then(if 0≤D then(if D<(x.length:Int)then((Aw.f (rd x D)).bind fun a0=>(if a0=true then(if D>0 then(if 0≤(wrap64 (D - 1))then(if(wrap64 (D - 1))<(W.length:Int)then(if(rd W (wrap64 (D - 1)))≥(rd x D)then(some false)else(Af.l0 k x aZ (wrap64 (D+1)) W X ak al))else(none))else(none))else(Af.l0 k x aZ (wrap64 (D+1)) W X ak al))else(some false)))else(none))else(none))else(Af.l1 k X (X.length:Int) 0 W X ak al)
def Af.l1:Nat→List (S54)→Int→Int→List Int→List (S54)→Int→Int→Option (Bool)
  | 0,_,_,_,_,_,_,_=>none
  | k+1,Y,bH,I,W,X,ak,al=>if I<bH then(if 0≤I then(if I<(Y.length:Int)then((Ba.f ((rd_T54 Y I).f0) ((rd_T54 Y I).f1.f0) ((rd_T54 Y I).f1.f1) ((rd_T54 Y I).f2) ((rd_T54 Y I).f3.f0) ((rd_T54 Y I).f3.f1)).bind fun a1=>(if a1=true then(Af.l1 k Y bH (wrap64 (I+1)) W X ak al)else(some false)))else(none))else(none))else(if(W.length:Int)≤4 then(if(X.length:Int)≤3 then((BT.f ak al).bind fun bI=>(some bI))else(some false))else(some false))
end
def Af.f (k:Nat) (a:List Int) (b:List (S54)) (c:Int) (m:Int):Option (Bool):=Af.l0 k a (a.length:Int) 0 a b c m
theorem Af.calls {k:Nat}{av:Option Addr}{aw:Nat}{a:List Int}{ax:Option Addr}{ay:Nat}{b:List (S54)}{c:Int}{m:Int}{r:Bool}{w:World}(h:Af.f k a b c m=some r)(bJ:Kd.C (Kd.int .i64) w av a.length a)(bL:a.length≤aw)(bM:Kd.C k54 w ax b.length b)(bN:b.length≤ay) :
 Calls Tryz.prog 49 #[.agg #[.slice av a.length aw,.slice ax b.length ay,.int .i64 c,.int .i64 m]] w fun e w'=>e= .returned (.bool r)∧Below w.heap.size w w':=by
 have hu50:=Tryz.underlying50;have hu54:=Tryz.underlying54;have HR0_0:=aM bJ;have HC0_0:=aM bL;clear bJ bL;have HR0_1:=aM bM;have HC0_1:=aM bN;clear bM bN;have HB:=rW w;have H:(Af.l0 k a (a.length:Int) 0 a b c m)=some r:=h;clear h;have H':=aM H;clear H;go_enter Tryz.func49,Tryz.ntmps49
 go_wp2_with (first|((with_reducible refine gN 1 ?_);(try(refine gate_guard (by rfl) ?_;dsimp only));refine boxZ 1 #[.slice av a.length aw,.slice ax b.length ay,.int .i64 c,.int .i64 m] 50 ?_;intro bO hg cG hbox hb;have g:=aM hbox;have GW282:=gS hg;have GE282:=gS hg;replace HB:=sB hb;clear hb hbox hg;obtain⟨aG,aH,aI,aJ,aK,aL,aN,aO⟩:=cz4 g))
 go_loopg [10] k (fun kq cI w'=> ∃ (i:Int),cI= .int .i64 i∧Aside0 (Af.l0 kq a (a.length:Int) i a b c m=some r)∧Aside0 (kq≤k)∧Aside0 (w'.heap[bO]?=some (.cells #[(.slice av a.length aw),(.slice ax b.length ay),.int .i64 c,.int .i64 m] 50 (0,0)))∧Aside0 (Below w.heap.size w w'))
 case atStart=>exact⟨(0),rS,H',⟨Nat.le_refl _⟩,⟨mK g⟩,⟨cB⟩⟩
 case round=>
  clear H';(try clear aG aH aI aJ);(try clear aK aL aN aO);obtain⟨i,rfl,HA,HK1,g,HB⟩:=hrel
  cases gk with
  | zero=>exact absurd HA.out (by simp[Af.l0])
  | succ k1=>
   have H:=HA.out;clear HA;simp only[Af.l0]at H;by_cases j:i<(a.length:Int)
   ·rw[if_pos j]at H;have am:=decide_eq_true j;clear j;replace H:=gD H;obtain⟨a2,H⟩:=H;replace H:=gD H;obtain⟨bP,H⟩:=H;replace H:=bE H;obtain⟨a0,aa,H⟩:=H;by_cases y:a0=true
    ·subst y;replace H:=iT H;by_cases J:i>0
     ·rw[if_pos J]at H;have a3:decide (0<i)=true:=decide_eq_true J;clear J;obtain⟨ji10,hji10⟩ : ∃ j_:Int,(wrap64 (i - 1))=j_:=⟨_,rfl⟩
      (first|rw[hji10]at H|simp only[hji10]at H)
      (try rw[hji10]at aa);have hji10w:(IntKind.i64.wrap (i - 1))=ji10:=(i64_w _).trans hji10;replace H:=gD H;obtain⟨cJ,H⟩:=H;replace H:=gD H;obtain⟨cL,H⟩:=H;by_cases ae:(rd a (ji10))≥(rd a i)
      ·rw[if_pos ae]at H;have bQ:decide ((rd a i)≤(rd a (ji10)))=true:=decide_eq_true ae;clear ae;obtain rfl:=Option.some.inj H;have u:0≤(i:Int):=dA;have v:i<(a.length:Int):=dA;obtain⟨az,af,A⟩:=at_int HR0_0.out i u v;cases af;replace A:=(bc HB A :);replace u:=eq_true u;replace v:=eq_true v
       go_wp2_with (first|((with_reducible refine gF 50 ?_);refine gX (some 16) Tryz.func50 (Aw.calls aa.out) ?_;rintro w' ⟨nd,rfl⟩;obtain⟨bo,bp,bq,br,bs,bu,bv,bw⟩:=cz4 g;have ab:0≤((ji10):Int):=dA;have ac:(ji10)<(a.length:Int):=dA;obtain⟨a4,a5,an⟩:=at_int HR0_0.out (ji10) ab ac;obtain rfl:az=a4:=(by injection a5);replace an:=(bc HB an :);replace ab:=eq_true ab;replace ac:=eq_true ac))
       go_ret
       exact⟨by first|rfl|(simp[errW_none,errW_some] <;> rfl)|(simp only[← hji10];first|rfl|(simp[errW_none,errW_some] <;> rfl))|(simp[*,errW_none,errW_some] <;> rfl),cB⟩
      ·rw[if_neg ae]at H;have bQ:decide ((rd a i)≤(rd a (ji10)))=false:=decide_eq_false ae;clear ae;have H':=aM H;clear H;have u:0≤(i:Int):=dA;have v:i<(a.length:Int):=dA;obtain⟨az,af,A⟩:=at_int HR0_0.out i u v;cases af;replace A:=(bc HB A :);replace u:=eq_true u;replace v:=eq_true v
       go_wp2_with (first|((with_reducible refine gF 50 ?_);refine gX (some 16) Tryz.func50 (Aw.calls aa.out) ?_;rintro w' ⟨nd,rfl⟩;obtain⟨bR,bS,bT,bU,bV,bW,bX,bY⟩:=cz4 g;have ab:0≤((ji10):Int):=dA;have ac:(ji10)<(a.length:Int):=dA;obtain⟨a4,a5,an⟩:=at_int HR0_0.out (ji10) ab ac;obtain rfl:az=a4:=(by injection a5);replace an:=(bc HB an :);replace ab:=eq_true ab;replace ac:=eq_true ac))
       go_roundg k1
       case measure=>exact oK
       case rel=>exact⟨(wrap64 (i+1)),rS,H',⟨oK⟩,⟨mK g⟩,⟨cB⟩⟩
     ·rw[if_neg J]at H;have a3:decide (0<i)=false:=decide_eq_false J;clear J;have H':=aM H;clear H;have u:0≤(i:Int):=dA;have v:i<(a.length:Int):=dA;obtain⟨az,af,A⟩:=at_int HR0_0.out i u v;cases af;replace A:=(bc HB A :);replace u:=eq_true u;replace v:=eq_true v
      go_wp2_with (first|((with_reducible refine gF 50 ?_);refine gX (some 16) Tryz.func50 (Aw.calls aa.out) ?_;rintro w' ⟨nd,rfl⟩))
      go_roundg k1
      case measure=>exact oK
      case rel=>exact⟨(wrap64 (i+1)),rS,H',⟨oK⟩,⟨mK g⟩,⟨cB⟩⟩
    ·replace y:=Bool.eq_false_iff.mpr y;subst y;replace H:=iF H;obtain rfl:=Option.some.inj H;have u:0≤(i:Int):=dA;have v:i<(a.length:Int):=dA;obtain⟨az,af,A⟩:=at_int HR0_0.out i u v;cases af;replace A:=(bc HB A :);replace u:=eq_true u;replace v:=eq_true v
     go_wp2_with (first|((with_reducible refine gF 50 ?_);refine gX (some 16) Tryz.func50 (Aw.calls aa.out) ?_;rintro w' ⟨nd,rfl⟩))
     go_ret;exact⟨rE,cB⟩
   ·rw[if_neg j]at H;have am:=decide_eq_false j;clear j;have H':=aM H;clear H;obtain⟨bx,bz,bA,bB,bC,bD,bF,bG⟩:=cz4 g;go_wp2
    go_loopg [36] k1 (fun kq cM w'=> ∃ (n:Int),cM= .int .i64 n∧Aside0 (Af.l1 kq b (b.length:Int) n a b c m=some r)∧Aside0 (kq≤k1)∧Aside0 (w'.heap[bO]?=some (.cells #[(.slice av a.length aw),(.slice ax b.length ay),.int .i64 c,.int .i64 m] 50 (0,0)))∧Aside0 (Below w.heap.size w w'))
    case atStart=>exact⟨(0),rS,H',⟨Nat.le_refl _⟩,⟨mK g⟩,⟨cB⟩⟩
    case round=>
     clear H';(try clear j);(try clear am);(try clear L);(try clear a2);(try clear d8);(try clear bP);(try clear y);(try clear J);(try clear a3);(try clear d9);(try clear cJ);(try clear ea);(try clear cL);(try clear ae);(try clear bQ);(try clear bo bp bq br);(try clear bR bS bT bU);(try clear bx bz bA bB);(try clear aG aH aI aJ);(try clear bs bu bv bw);(try clear bV bW bX bY);(try clear bC bD bF bG);(try clear aK aL aN aO);(try clear A);(try clear an);(try clear u);(try clear ab);(try clear v);(try clear ac);obtain⟨n,rfl,HA,HK2,g,HB⟩:=hrel
     cases gk with
     | zero=>exact absurd HA.out (by simp[Af.l1])
     | succ k2=>
      have H:=HA.out;clear HA;simp only[Af.l1]at H;by_cases ao:n<(b.length:Int)
      ·rw[if_pos ao]at H;have cN:=decide_eq_true ao;clear ao;replace H:=gD H;obtain⟨eb,H⟩:=H;replace H:=gD H;obtain⟨ec,H⟩:=H;replace H:=bE H;obtain⟨a1,bZ,H⟩:=H;by_cases aP:a1=true
       ·subst aP;replace H:=iT H;have H':=aM H;clear H;obtain⟨cO,cP,cQ,a6,cR,cS,cT,cU,cV,cW⟩:=b6 HB (at_T54 HR0_1.out n);cases a6
        go_wp2_with (first|((with_reducible refine gN 6 ?_);(try(refine gate_guard (by rfl) ?_;dsimp only));refine boxZ 6 #[.int .i64 0,.int .i64 0,.int .i64 0,.int .i64 0,.int .i64 0,.int .i64 0] 54 ?_;intro cX hg cr hbox hb;have ag:=aM hbox;have GW287:=gS hg;have GE287:=gS hg;replace HB:=sB hb;have a7:=nL hg g;have a8:=nG hg g;replace g:=kB g hb;clear hb hbox hg;have hnb23:=a8.out;have hnc23:=a7.out;obtain⟨cs,ct,cu,cv,cw,cx,cy,cz,cA,cD,cE,cF⟩:=cz6 ag)|((with_reducible refine gF 85 ?_);refine gX (some 41) Tryz.func85 (Ba.calls bZ.out) ?_;intro ed hb;replace g:=kB g hb;replace ag:=kP ag hb (.cells #[.int .i64 ((rd_T54 b n).f0),.int .i64 ((rd_T54 b n).f1.f0),.int .i64 ((rd_T54 b n).f1.f1),.int .i64 ((rd_T54 b n).f2),.int .i64 ((rd_T54 b n).f3.f0),.int .i64 ((rd_T54 b n).f3.f1)] 54 (0,0));replace HB:=sB hb;clear hb))
        go_roundg k2
        case measure=>have:=HK1.out;have:=HK2.out;omega
        case rel=>exact⟨(wrap64 (n+1)),rS,H',⟨by have:=HK1.out;have:=HK2.out;omega⟩,⟨mK g⟩,⟨cB⟩⟩
       ·replace aP:=Bool.eq_false_iff.mpr aP;subst aP;replace H:=iF H;obtain rfl:=Option.some.inj H;obtain⟨cO,cP,cQ,a6,cR,cS,cT,cU,cV,cW⟩:=b6 HB (at_T54 HR0_1.out n);cases a6
        go_wp2_with (first|((with_reducible refine gN 6 ?_);(try(refine gate_guard (by rfl) ?_;dsimp only));refine boxZ 6 #[.int .i64 0,.int .i64 0,.int .i64 0,.int .i64 0,.int .i64 0,.int .i64 0] 54 ?_;intro cX hg ee hbox hb;have ag:=aM hbox;have GW287:=gS hg;have GE287:=gS hg;replace HB:=sB hb;have a7:=nL hg g;have a8:=nG hg g;replace g:=kB g hb;clear hb hbox hg;have hnb27:=a8.out;have hnc27:=a7.out;obtain⟨ef,eg,eh,ei,ej,ek,el,em,en,eo,ep,eq⟩:=cz6 ag)|((with_reducible refine gF 85 ?_);refine gX (some 41) Tryz.func85 (Ba.calls bZ.out) ?_;intro er hb;replace g:=kB g hb;replace ag:=kP ag hb (.cells #[.int .i64 ((rd_T54 b n).f0),.int .i64 ((rd_T54 b n).f1.f0),.int .i64 ((rd_T54 b n).f1.f1),.int .i64 ((rd_T54 b n).f2),.int .i64 ((rd_T54 b n).f3.f0),.int .i64 ((rd_T54 b n).f3.f1)] 54 (0,0));replace HB:=sB hb;clear hb))
        go_ret;exact⟨rE,cB⟩
      ·rw[if_neg ao]at H;have cN:=decide_eq_false ao;clear ao;by_cases ap:(a.length:Int)≤4
       ·rw[if_pos ap]at H;have cY:=decide_eq_true ap
        have cZ:decide (a.length≤4)=true:=decide_eq_true (by omega)
        clear ap;by_cases aq:(b.length:Int)≤3
        ·rw[if_pos aq]at H;have c0:=decide_eq_true aq
         have c1:decide (b.length≤3)=true:=decide_eq_true (by omega)
         clear aq;replace H:=bE H;obtain⟨bI,c2,H⟩:=H;obtain rfl:=Option.some.inj H;obtain⟨es,et,eu,ev,ew,ex,ey,ez⟩:=cz4 g
         go_wp2_with (first|(go_at_call 51;(with_reducible refine(BT.calls c2.out).mono ?_);rintro e w' ⟨rfl,⟨nd,rfl⟩⟩))
         go_ret;exact⟨rE,cB⟩
        ·rw[if_neg aq]at H;have c0:=decide_eq_false aq
         have c1:decide (b.length≤3)=false:=decide_eq_false (by omega)
         clear aq;obtain rfl:=Option.some.inj H;obtain⟨eA,eC,eD,eE,eG,eH,eI,eJ⟩:=cz4 g;go_wp2;go_ret;exact⟨rE,cB⟩
       ·rw[if_neg ap]at H;have cY:=decide_eq_false ap
        have cZ:decide (a.length≤4)=false:=decide_eq_false (by omega)
        clear ap;obtain rfl:=Option.some.inj H;obtain⟨eK,eL,eM,eN,eO,eP,eQ,eR⟩:=cz4 g;go_wp2;go_ret;exact⟨rE,cB⟩
def Ax.l0:Nat→List (S50)→Int→Int→Int→Int→Int→List (S50)→Option (Bool)
  | 0,_,_,_,_,_,_,_=>none
  | k+1,ar,b0,x,b1,b5,b8,b9=>if x<b0 then(if 0≤x then(if x<(ar.length:Int)then((Af.f k ((rd_T50 ar x).f0) ((rd_T50 ar x).f1) ((rd_T50 ar x).f2) ((rd_T50 ar x).f3)).bind fun a9=>(if a9=true then(Ax.l0 k ar b0 (wrap64 (x+1)) b1 b5 b8 b9)else(some false)))else(none))else(none))else((Aw.f b1).bind fun ba=>(if ba=true then((BT.f b5 b8).bind fun bb=>(if bb=true then(some (decide ((b9.length:Int)≤10)))else(some false)))else(some false)))
def Ax.f (k:Nat) (s:Int) (t:Int) (c:Int) (d:List (S50)):Option (Bool):=Ax.l0 k d (d.length:Int) 0 s t c d
theorem Ax.calls {k:Nat}{s:Int}{t:Int}{c:Int}{aQ:Option Addr}{aR:Nat}{d:List (S50)}{r:Bool}{w:World}(h:Ax.f k s t c d=some r)(ca:Kd.C k50 w aQ d.length d)(cb:d.length≤aR) :
 Calls Tryz.prog 18 #[.agg #[.int .i64 s,.int .i64 t,.int .i64 c,.slice aQ d.length aR]] w fun e w'=>e= .returned (.bool r)∧Below w.heap.size w w':=by
 have hu26:=Tryz.underlying26;have hu50:=Tryz.underlying50;have HR0_3:=aM ca;have HC0_3:=aM cb;clear ca cb;have HB:=rW w;have H:(Ax.l0 k d (d.length:Int) 0 s t c d)=some r:=h;clear h;have H':=aM H;clear H;go_enter Tryz.func18,Tryz.ntmps18
 go_wp2_with (first|((with_reducible refine gN 1 ?_);(try(refine gate_guard (by rfl) ?_;dsimp only));refine boxZ 1 #[.int .i64 s,.int .i64 t,.int .i64 c,.slice aQ d.length aR] 26 ?_;intro c3 hg cG hbox hb;have o:=aM hbox;have GW290:=gS hg;have GE290:=gS hg;replace HB:=sB hb;clear hb hbox hg;obtain⟨aG,aH,aI,aJ,aK,aL,aN,aO⟩:=cz4 o))
 go_loopg [8] k (fun kq c4 w'=> ∃ (p:Int),c4= .int .i64 p∧Aside0 (Ax.l0 kq d (d.length:Int) p s t c d=some r)∧Aside0 (kq≤k)∧Aside0 (w'.heap[c3]?=some (.cells #[.int .i64 s,.int .i64 t,.int .i64 c,(.slice aQ d.length aR)] 26 (0,0)))∧Aside0 (Below w.heap.size w w'))
 case atStart=>exact⟨(0),rS,H',⟨Nat.le_refl _⟩,⟨mK o⟩,⟨cB⟩⟩
 case round=>
  clear H';(try clear aG aH aI aJ);(try clear aK aL aN aO);obtain⟨p,rfl,HA,HK1,o,HB⟩:=hrel
  cases gk with
  | zero=>exact absurd HA.out (by simp[Ax.l0])
  | succ k1=>
   have H:=HA.out;clear HA;simp only[Ax.l0]at H;by_cases j:p<(d.length:Int)
   ·rw[if_pos j]at H;have am:=decide_eq_true j;clear j;replace H:=gD H;obtain⟨a2,H⟩:=H;replace H:=gD H;obtain⟨bP,H⟩:=H;replace H:=bE H;obtain⟨a9,aa,H⟩:=H;by_cases y:a9=true
    ·subst y;replace H:=iT H;have H':=aM H;clear H;have ah:0≤(p:Int):=dA;have ai:p<(d.length:Int):=dA;obtain⟨c5,bd,be,bf,bg,bh,aA,aB,aC,aD,hl291_0,hi291_0,hl291_1,hi291_1⟩:=at_T50 HR0_3.out p ah ai;cases bh;replace aA:=(bc HB aA :);replace aB:=(bc HB aB :);replace aC:=(bc HB aC :);replace aD:=(bc HB aD :);have HR291_0:=aM hi291_0;have HC291_0:=aM hl291_0;clear hi291_0 hl291_0;have HR291_1:=aM hi291_1;have HC291_1:=aM hl291_1;clear hi291_1 hl291_1;replace ah:=eq_true ah;replace ai:=eq_true ai
     go_wp2_with (first|((with_reducible refine gN 4 ?_);(try(refine gate_guard (by rfl) ?_;dsimp only));refine boxZ 4 #[.slice none 0 0,.slice none 0 0,.int .i64 0,.int .i64 0] 50 ?_;intro c6 hg ch hbox hb;have aj:=aM hbox;have GW292:=gS hg;have GE292:=gS hg;replace HB:=sB hb;have bi:=nL hg o;have bj:=nG hg o;replace o:=kB o hb;clear hb hbox hg;have hnb10:=bj.out;have hnc10:=bi.out;obtain⟨eS,eU,eW,eZ,e0,e1,e2,e3⟩:=cz4 aj)|((with_reducible refine gF 49 ?_);refine gX (some 13) Tryz.func49 (Af.calls aa.out (C_below HR291_0.out cB) HC291_0.out (C_below HR291_1.out cB) HC291_1.out) ?_;intro e4 hb;replace o:=kB o hb;replace aj:=kP aj hb (.cells #[.slice bd ((rd_T50 d p).f0).length be,.slice bf ((rd_T50 d p).f1).length bg,.int .i64 ((rd_T50 d p).f2),.int .i64 ((rd_T50 d p).f3)] 50 (0,0));replace HB:=sB hb;clear hb))
     go_roundg k1
     case measure=>exact oK
     case rel=>exact⟨(wrap64 (p+1)),rS,H',⟨oK⟩,⟨mK o⟩,⟨cB⟩⟩
    ·replace y:=Bool.eq_false_iff.mpr y;subst y;replace H:=iF H;obtain rfl:=Option.some.inj H;have ah:0≤(p:Int):=dA;have ai:p<(d.length:Int):=dA;obtain⟨c5,bd,be,bf,bg,bh,aA,aB,aC,aD,hl291_0,hi291_0,hl291_1,hi291_1⟩:=at_T50 HR0_3.out p ah ai;cases bh;replace aA:=(bc HB aA :);replace aB:=(bc HB aB :);replace aC:=(bc HB aC :);replace aD:=(bc HB aD :);have HR291_0:=aM hi291_0;have HC291_0:=aM hl291_0;clear hi291_0 hl291_0;have HR291_1:=aM hi291_1;have HC291_1:=aM hl291_1;clear hi291_1 hl291_1;replace ah:=eq_true ah;replace ai:=eq_true ai
     go_wp2_with (first|((with_reducible refine gN 4 ?_);(try(refine gate_guard (by rfl) ?_;dsimp only));refine boxZ 4 #[.slice none 0 0,.slice none 0 0,.int .i64 0,.int .i64 0] 50 ?_;intro c6 hg ci hbox hb;have aj:=aM hbox;have GW292:=gS hg;have GE292:=gS hg;replace HB:=sB hb;have bi:=nL hg o;have bj:=nG hg o;replace o:=kB o hb;clear hb hbox hg;have hnb14:=bj.out;have hnc14:=bi.out;obtain⟨bR,bS,bT,bU,bV,bW,bX,bY⟩:=cz4 aj)|((with_reducible refine gF 49 ?_);refine gX (some 13) Tryz.func49 (Af.calls aa.out (C_below HR291_0.out cB) HC291_0.out (C_below HR291_1.out cB) HC291_1.out) ?_;intro e5 hb;replace o:=kB o hb;replace aj:=kP aj hb (.cells #[.slice bd ((rd_T50 d p).f0).length be,.slice bf ((rd_T50 d p).f1).length bg,.int .i64 ((rd_T50 d p).f2),.int .i64 ((rd_T50 d p).f3)] 50 (0,0));replace HB:=sB hb;clear hb))
     go_ret;exact⟨rE,cB⟩
   ·rw[if_neg j]at H;have am:=decide_eq_false j;clear j;replace H:=bE H;obtain⟨ba,bk,H⟩:=H;by_cases aS:ba=true
    ·subst aS;replace H:=iT H;replace H:=bE H;obtain⟨bb,cc,H⟩:=H;by_cases aT:bb=true
     ·subst aT;replace H:=iT H;obtain rfl:=Option.some.inj H;obtain⟨cj,ck,cl,cm,cn,co,cp,cq⟩:=cz4 o
      go_wp2_with (first|((with_reducible refine gF 50 ?_);refine gX (some 18) Tryz.func50 (Aw.calls bk.out) ?_;rintro w' ⟨nd,rfl⟩)|(go_at_call 51;(with_reducible refine(BT.calls cc.out).mono ?_);rintro e w' ⟨rfl,⟨nd,rfl⟩⟩))
      go_ret;exact⟨rE,cB⟩
     ·replace aT:=Bool.eq_false_iff.mpr aT;subst aT;replace H:=iF H;obtain rfl:=Option.some.inj H;obtain⟨e6,e7,e8,e9,fa,fb,fc,fd⟩:=cz4 o
      go_wp2_with (first|((with_reducible refine gF 50 ?_);refine gX (some 18) Tryz.func50 (Aw.calls bk.out) ?_;rintro w' ⟨nd,rfl⟩)|(go_at_call 51;(with_reducible refine(BT.calls cc.out).mono ?_);rintro e w' ⟨rfl,⟨nd,rfl⟩⟩))
      go_ret;exact⟨rE,cB⟩
    ·replace aS:=Bool.eq_false_iff.mpr aS;subst aS;replace H:=iF H;obtain rfl:=Option.some.inj H;obtain⟨fe,ff,fg,fh,fi,fj,fk,fl⟩:=cz4 o
     go_wp2_with (first|((with_reducible refine gF 50 ?_);refine gX (some 18) Tryz.func50 (Aw.calls bk.out) ?_;rintro w' ⟨nd,rfl⟩))
     go_ret;exact⟨rE,cB⟩
def AS.l0:Nat→Int→ByteArray→Int→Option (ByteArray)
  | 0,_,_,_=>none
  | k+1,cd,aE,q=>if q=0 then(if cd<0 then(if 1+aE.size≤9223372036854775807 then(some ((⟨#[45]⟩ :ByteArray) ++ aE))else(none))else(some aE))else(if 0≤(mx (Int.tmod q 10) (wrap64 (-(Int.tmod q 10))))then(if(mx (Int.tmod q 10) (wrap64 (-(Int.tmod q 10))))≤(wrap64 ((mx (Int.tmod q 10) (wrap64 (-(Int.tmod q 10))))+1))then(if(wrap64 ((mx (Int.tmod q 10) (wrap64 (-(Int.tmod q 10))))+1))≤16 then(if((⟨#[48,49,50,51,52,53,54,55,56,57,97,98,99,100,101,102]⟩ :ByteArray).extract ((mx (Int.tmod q 10) (wrap64 (-(Int.tmod q 10)))):Int).toNat ((wrap64 ((mx (Int.tmod q 10) (wrap64 (-(Int.tmod q 10))))+1)):Int).toNat).size+aE.size≤9223372036854775807 then(AS.l0 k cd (((⟨#[48,49,50,51,52,53,54,55,56,57,97,98,99,100,101,102]⟩ :ByteArray).extract ((mx (Int.tmod q 10) (wrap64 (-(Int.tmod q 10)))):Int).toNat ((wrap64 ((mx (Int.tmod q 10) (wrap64 (-(Int.tmod q 10))))+1)):Int).toNat) ++ aE) (wrap64 (Int.tdiv q 10)))else(none))else(none))else(none))else(none))
def AS.f (k:Nat) (z:Int):Option (ByteArray):=if z=0 then(some (⟨#[48]⟩ :ByteArray))else(AS.l0 k z (⟨#[]⟩ :ByteArray) z)
theorem AS.calls {k:Nat}{z:Int}{r:ByteArray}{w:World}(h:AS.f k z=some r) :
 Calls Tryz.prog 19 #[.int .i64 z] w fun e w'=>e= .returned (.string r)∧Below w.heap.size w w':=by
 have HB:=rW w;have H:(if z=0 then(some (⟨#[48]⟩ :ByteArray))else(AS.l0 k z (⟨#[]⟩ :ByteArray) z))=some r:=h;clear h;by_cases au:z=0
 ·rw[if_pos au]at H;obtain⟨ce,cf⟩:=eT au;clear au;obtain rfl:=Option.some.inj H;go_enter Tryz.func19,Tryz.ntmps19;go_wp2;go_ret;exact⟨rE,cB⟩
 ·rw[if_neg au]at H;obtain⟨ce,cf⟩:=eF au;have H':=aM H;clear H;go_enter Tryz.func19,Tryz.ntmps19;go_wp2
  go_loopg [3,4] k (fun kq c7 c8 w'=> ∃ (ad:ByteArray) (E:Int),c7= .string ad∧c8= .int .i64 E∧Aside0 (AS.l0 kq z ad E=some r)∧Aside0 (kq≤k)∧Aside0 (Below w.heap.size w w'))
  case atStart=>exact⟨((⟨#[]⟩ :ByteArray)),(z),rS,rS,H',⟨Nat.le_refl _⟩,⟨cB⟩⟩
  case round=>
   clear H';(try clear au);(try clear ce);(try clear cf);obtain⟨ad,E,rfl,rfl,HA,HK1,HB⟩:=hrel
   cases gk with
   | zero=>exact absurd HA.out (by simp[AS.l0])
   | succ k1=>
    have H:=HA.out;clear HA;simp only[AS.l0]at H;by_cases G:E=0
    ·rw[if_pos G]at H;obtain⟨c9,da⟩:=eT G;clear G;by_cases j:z<0
     ·rw[if_pos j]at H;have am:=decide_eq_true j;clear j;replace H:=gC H;obtain⟨L,H⟩:=H;have a2:=eq_true L;have fm:decide (1+ad.size≤9223372036854775807)=true:=decide_eq_true L
      try have fn:(9223372036854775807<1+ad.size)=False:=eq_false (Nat.not_lt.2 L)
      obtain rfl:=Option.some.inj H;go_wp2;go_ret;exact⟨rE,cB⟩
     ·rw[if_neg j]at H;have am:=decide_eq_false j;clear j;obtain rfl:=Option.some.inj H;go_wp2;go_ret;exact⟨rE,cB⟩
    ·rw[if_neg G]at H;obtain⟨c9,da⟩:=eF G;obtain⟨ji6,hji6⟩ : ∃ j_:Int,(mx (Int.tmod E 10) (wrap64 (-(Int.tmod E 10))))=j_:=⟨_,rfl⟩
     (first|rw[hji6]at H|simp only[hji6]at H)
     have hji6_:(if(Int.tmod E 10)<(wrap64 (-(Int.tmod E 10)))then(wrap64 (-(Int.tmod E 10)))else(Int.tmod E 10))=ji6:=hji6;replace H:=gC H;obtain⟨U,H⟩:=H;have fo:=eq_true U;have fp:decide (0≤(ji6))=true:=decide_eq_true U;clear U;replace H:=gC H;obtain⟨y,H⟩:=H;have fq:=eq_true y;have fr:decide ((ji6)≤(wrap64 ((ji6)+1)))=true:=decide_eq_true y;replace H:=gC H;obtain⟨J,H⟩:=H;have a3:=eq_true J;have fs:decide ((wrap64 ((ji6)+1))≤16)=true:=decide_eq_true J;replace H:=gC H;obtain⟨bl,H⟩:=H;have ft:=eq_true bl;have fu:decide (((⟨#[48,49,50,51,52,53,54,55,56,57,97,98,99,100,101,102]⟩ :ByteArray).extract ((ji6):Int).toNat ((wrap64 ((ji6)+1)):Int).toNat).size+ad.size≤9223372036854775807)=true:=decide_eq_true bl
     try have fv:(9223372036854775807<((⟨#[48,49,50,51,52,53,54,55,56,57,97,98,99,100,101,102]⟩ :ByteArray).extract ((ji6):Int).toNat ((wrap64 ((ji6)+1)):Int).toNat).size+ad.size)=False:=eq_false (Nat.not_lt.2 bl)
     have H':=aM H;clear H;go_wp2;go_roundg k1
     case measure=>exact oK
     case rel=>exact⟨(((⟨#[48,49,50,51,52,53,54,55,56,57,97,98,99,100,101,102]⟩ :ByteArray).extract ((ji6):Int).toNat ((wrap64 ((ji6)+1)):Int).toNat) ++ ad),(wrap64 (Int.tdiv E 10)),(by first|rfl|(simp;done)|(simp only[← hji6] <;> (first|rfl|simp))|(simp[*];done)),rS,H',⟨oK⟩,⟨cB⟩⟩
def BO.f (b:Int):Option (ByteArray):=(Aq.f b 0 5).bind fun q=>(if q=true then((some (([(⟨#[107,105,108,108]⟩ :ByteArray),(⟨#[116,114,97,112]⟩ :ByteArray),(⟨#[101,114,114]⟩ :ByteArray),(⟨#[116,114,97,99,101]⟩ :ByteArray),(⟨#[108,111,103]⟩ :ByteArray),(⟨#[97,108,108,111,119]⟩ :ByteArray)] :List ByteArray):List ByteArray)).bind fun n=>(if 0≤b then(if b<(n.length:Int)then(some (rdOf ByteArray.empty n b))else(none))else(none)))else(some (⟨#[]⟩ :ByteArray)))
theorem BO.calls {b:Int}{r:ByteArray}{w:World}(h:BO.f b=some r) :
 Calls Tryz.prog 20 #[.int .i64 b] w fun e w'=>e= .returned (.string r)∧Below w.heap.size w w':=by
 have HB:=rW w
 unfold BO.f at h;have H:=h
 clear h;replace H:=bE H;obtain⟨q,o,H⟩:=H;by_cases d:q=true
 ·subst d;replace H:=iT H;replace H:=nE H;obtain⟨n,v,H⟩:=H;replace H:=gD H;obtain⟨L,H⟩:=H;replace H:=gD H;obtain⟨D,H⟩:=H;obtain rfl:=Option.some.inj H;go_enter Tryz.func20,Tryz.ntmps20
  go_wp2_with (first|((with_reducible refine gF 52 ?_);refine gX (some 4) Tryz.func52 (Aq.calls o.out) ?_;rintro w' ⟨nd,rfl⟩)|((with_reducible refine gN 6 ?_);refine R_lit Kd.string _ 9 ?hg (N:=6) ?hd (xs:=([(⟨#[107,105,108,108]⟩ :ByteArray),(⟨#[116,114,97,112]⟩ :ByteArray),(⟨#[101,114,114]⟩ :ByteArray),(⟨#[116,114,97,99,101]⟩ :ByteArray),(⟨#[108,111,103]⟩ :ByteArray),(⟨#[97,108,108,111,119]⟩ :ByteArray)] :List ByteArray)) (inner:=[.string (⟨#[107,105,108,108]⟩ :ByteArray),.string (⟨#[116,114,97,112]⟩ :ByteArray),.string (⟨#[101,114,114]⟩ :ByteArray),.string (⟨#[116,114,97,99,101]⟩ :ByteArray),.string (⟨#[108,111,103]⟩ :ByteArray),.string (⟨#[97,108,108,111,119]⟩ :ByteArray)]) (ok:=fun _=>True) (okp:=fun _=>True) ?hr ?hp (fun _ hk=>hk) trivial (Below.refl _ _) (Nat.le_refl _) (by simp) ?_;(case hd=>rfl);(case hg=>rfl);(case hr=>exact rG);(case hp=>exact(Reps.one (zMS ⟨#[107,105,108,108]⟩) (Reps.one (zMS ⟨#[116,114,97,112]⟩) (Reps.one (zMS ⟨#[101,114,114]⟩) (Reps.one (zMS ⟨#[116,114,97,99,101]⟩) (Reps.one (zMS ⟨#[108,111,103]⟩) (Reps.one (zMS ⟨#[97,108,108,111,119]⟩) (Reps.none _ _))))))));intro O x l hb hg_ hnew_;clear hg_ hnew_;(first|rw[← v.out]at l|(simp only[Int.reduceToNat]at l;rw[← v.out]at l));have z:=rL l;replace HB:=sB hb;clear hb l;obtain⟨U,W,E⟩:=R_slice z.out;subst E;have s:0≤(b:Int):=dA;have t:b<(n.length:Int):=dA;obtain⟨X,G,Y⟩:=at_string (R_reads' z.out).2.2 b s t;cases G;replace s:=eq_true s;replace t:=eq_true t))
  go_ret;exact⟨rE,cB⟩
 ·replace d:=Bool.eq_false_iff.mpr d;subst d;replace H:=iF H;obtain rfl:=Option.some.inj H;go_enter Tryz.func20,Tryz.ntmps20
  go_wp2_with (first|((with_reducible refine gF 52 ?_);refine gX (some 4) Tryz.func52 (Aq.calls o.out) ?_;rintro w' ⟨nd,rfl⟩))
  go_ret;exact⟨rE,cB⟩
def A0.f (k:Nat) (g:Int) (i:Int):Option (ByteArray):=(AS.f k g).bind fun c=>(if c.size+3≤9223372036854775807 then((AS.f k i).bind fun j=>(if(c ++ (⟨#[32,58,32]⟩ :ByteArray)).size+j.size≤9223372036854775807 then(some ((c ++ (⟨#[32,58,32]⟩ :ByteArray)) ++ j))else(none)))else(none))
def A0.T1:Bool×List (List Nat×List Nat):=(true,[([],[]),([0],[0]),([1],[1]),([2],[2]),([],[]),([4],[4]),([5,2],[5]),([3,6],[3,6]),([7,6,0,1,2,3,4,5,6,7],[7])])
def A0.B1:List Nat:=[0,1,3,7,0,16,55,127,255]
theorem A0.tab1:rtab .any (opsOf Tryz.f21 1)=A0.T1:=by kernel_rfl
theorem A0.bits1:waitsOk A0.T1.2 A0.B1=true:=by kernel_rfl
theorem q6x0 {P:Prop} (h:P:=by
 rintro w' ⟨s0,s1⟩
 go_simp
 with_reducible rfl):P:=h
theorem A0.calls {k:Nat}{g:Int}{i:Int}{r:ByteArray}{w:World}(h:A0.f k g i=some r) :
 Calls Tryz.prog 21 #[.agg #[.int .i64 g,.int .i64 i]] w fun e w'=>e= .returned (.string r)∧Below w.heap.size w w':=by
 have hu52:=Tryz.underlying52;have HB:=rW w
 unfold A0.f at h;have H:=h
 clear h;replace H:=bE H;obtain⟨c,o,H⟩:=H;replace H:=gC H;obtain⟨d,H⟩:=H;have aa:=eq_true d;have ab:decide (c.size+3≤9223372036854775807)=true:=decide_eq_true d
 try have ac:(9223372036854775807<c.size+3)=False:=eq_false (Nat.not_lt.2 d)
 replace H:=bE H;obtain⟨j,I,H⟩:=H;replace H:=gC H;obtain⟨p,H⟩:=H;have D:=eq_true p;have ad:decide ((c ++ (⟨#[32,58,32]⟩ :ByteArray)).size+j.size≤9223372036854775807)=true:=decide_eq_true p
 try have ae:(9223372036854775807<(c ++ (⟨#[32,58,32]⟩ :ByteArray)).size+j.size)=False:=eq_false (Nat.not_lt.2 p)
 try have af:(9223372036854775807<c.size+3+j.size)=False:=eq_false (Nat.not_lt.2 (by have h_:=p;simp only[ByteArray.size_append]at h_;exact h_))
 obtain rfl:=Option.some.inj H;go_enter Tryz.func21,Tryz.ntmps21
 try go_wp2_with (first|((with_reducible refine gN 1 ?_);refine boxZ 1 #[.int .i64 g,.int .i64 i] 52 ?_;intro A hg x hbox hb;have a:=aM hbox;have GW301:=gS hg;have GE301:=gS hg;replace HB:=sB hb;clear hb hbox hg))
 replace a:=dB a;replace HB:=dW HB
 refine sZ 9 (fun w'=>w'.cell? ⟨A,0,none⟩=some (.int .i64 g)∧w'.cell? ⟨A,1,none⟩=some (.int .i64 i)) A0.tab1 A0.bits1 ⟨(blk_cell a.out 0).trans rfl,(blk_cell a.out 1).trans rfl⟩ fun HT_ HW_ hHeld=>?_
 generalize x.drew=ag at a HB hHeld ⊢;refine pZ 0 3 1 ?_;refine pZ 4 7 17 ?_;refine tZ 1 4 19 (y:=q6x0) (h:=?_);refine tZ 5 8 51 (y:=q6x0) (h:=?_)
 refine oZ 2 5 55 fun K hK=>?_
 refine eX Tryz.func19 (AS.calls o.out) ?_
 intro ah hb;replace a:=kB a hb;replace HB:=sB hb;clear hb
 refine hK.out _ _ ⟨(blk_cell a.out 0).trans rfl,(blk_cell a.out 1).trans rfl⟩ (fun hHeld=>?_)
 clear hK K;refine normZ (some 5) ?_
 refine pZ 3 6 63 ?_
 refine oZ 6 9 127 fun K hK=>?_
 refine eX Tryz.func19 (AS.calls I.out) ?_
 intro ai hb;replace a:=kB a hb;replace HB:=sB hb;clear hb
 refine hK.out _ _ ⟨(blk_cell a.out 0).trans rfl,(blk_cell a.out 1).trans rfl⟩ (fun hHeld=>?_)
 clear hK K;refine normZ (some 9) ?_
 refine pZ 7 10 255 ?_;refine pZ 8 2 511 ?_
 refine done_ (done_of HT_.out (by kernel_rfl)) ?_
 try go_wp2
 go_ret;exact⟨rE,cB⟩
def Bj.f  :Option (List ByteArray):=some (([(⟨#[61,61]⟩ :ByteArray),(⟨#[33,61]⟩ :ByteArray),(⟨#[60]⟩ :ByteArray),(⟨#[60,61]⟩ :ByteArray),(⟨#[62]⟩ :ByteArray),(⟨#[62,61]⟩ :ByteArray)] :List ByteArray))
theorem Bj.calls {r:List ByteArray}{w:World}(h:Bj.f  = some r) :
 Calls Tryz.prog 22 #[] w fun e w'=> ∃ v0_:Value,e= .returned (v0_)∧Kd.R Kd.string 9 w' w.heap.size (fun _=>True) v0_ r∧Below w.heap.size w w':=by
 have HB:=rW w;have H:(some (([(⟨#[61,61]⟩ :ByteArray),(⟨#[33,61]⟩ :ByteArray),(⟨#[60]⟩ :ByteArray),(⟨#[60,61]⟩ :ByteArray),(⟨#[62]⟩ :ByteArray),(⟨#[62,61]⟩ :ByteArray)] :List ByteArray)))=some r:=h;clear h;obtain⟨aj,u⟩ : ∃ y_:List ByteArray,Aside0 (y_=(([(⟨#[61,61]⟩ :ByteArray),(⟨#[33,61]⟩ :ByteArray),(⟨#[60]⟩ :ByteArray),(⟨#[60,61]⟩ :ByteArray),(⟨#[62]⟩ :ByteArray),(⟨#[62,61]⟩ :ByteArray)] :List ByteArray))):=⟨_,⟨rfl⟩⟩;rw[← u.out]at H;obtain rfl:=Option.some.inj H;go_enter Tryz.func22,Tryz.ntmps22
 go_wp2_with (first|((with_reducible refine gN 1 ?_);refine R_lit Kd.string _ 9 ?hg (N:=1) ?hd (xs:=([(⟨#[61,61]⟩ :ByteArray),(⟨#[33,61]⟩ :ByteArray),(⟨#[60]⟩ :ByteArray),(⟨#[60,61]⟩ :ByteArray),(⟨#[62]⟩ :ByteArray),(⟨#[62,61]⟩ :ByteArray)] :List ByteArray)) (inner:=[.string (⟨#[61,61]⟩ :ByteArray),.string (⟨#[33,61]⟩ :ByteArray),.string (⟨#[60]⟩ :ByteArray),.string (⟨#[60,61]⟩ :ByteArray),.string (⟨#[62]⟩ :ByteArray),.string (⟨#[62,61]⟩ :ByteArray)]) (ok:=fun _=>True) (okp:=fun _=>True) ?hr ?hp (fun _ hk=>hk) trivial (Below.refl _ _) (Nat.le_refl _) (by simp) ?_;(case hd=>rfl);(case hg=>rfl);(case hr=>exact rG);(case hp=>exact(Reps.one (zMS ⟨#[61,61]⟩) (Reps.one (zMS ⟨#[33,61]⟩) (Reps.one (zMS ⟨#[60]⟩) (Reps.one (zMS ⟨#[60,61]⟩) (Reps.one (zMS ⟨#[62]⟩) (Reps.one (zMS ⟨#[62,61]⟩) (Reps.none _ _))))))));intro ak al m hb hg_ hnew_;clear hg_ hnew_;(first|rw[← u.out]at m|(simp only[Int.reduceToNat]at m;rw[← u.out]at m));have J:=rL m;replace HB:=sB hb;clear hb m))
 go_ret;exact⟨_,rE,mR J,cB⟩
theorem qh7x0 {P:Prop} (h:P:=by exact⟨(blk_cell d.out 0).trans rfl,(blk_cell d.out 1).trans rfl,(blk_cell d.out 2).trans rfl,(blk_cell d.out 3).trans rfl⟩):P:=h
/-- More is held from here on. -/
theorem re_ {P:Program} {md:Region.Mode} {ops:Array Oper} {Q:Exit→Act→World→Prop} {S:World→Prop} (S1:World→Prop) (hS: ∀ w,S1 w→S w): ∀ {fuel:Nat} {l:Array Bool} {a:Act} {w:World},S1 w→wpAnyLast P md ops Q S1 [] fuel l a w→wpAnyLast P md ops Q S [] fuel l a w
  | 0,_,_,_,_,h=>h
  | fuel+1,_,_,w,h1,h=>⟨h.1,fun i hi=>wpOp_mono (fun a' w' h'=>⟨fun _ _=>hS w' (h'.1 (by simp) h1),re_ S1 hS (h'.1 (by simp) h1) h'.2⟩) (h.2 i hi)⟩
theorem qh7x1 {P:Prop} (h:P:=by exact⟨(blk_cell o.out 0).trans rfl,(blk_cell o.out 1).trans rfl,(blk_cell o.out 2).trans rfl,(blk_cell o.out 3).trans rfl,(blk_cell o.out 4).trans rfl,(blk_cell o.out 5).trans rfl,HS6_⟩):P:=h
theorem qh7x1a {P:Prop} (h:P:=by exact⟨(blk_cell o.out 0).trans rfl,(blk_cell o.out 1).trans rfl,(blk_cell o.out 2).trans rfl,(blk_cell o.out 3).trans rfl,(blk_cell o.out 4).trans rfl,(blk_cell o.out 5).trans rfl⟩):P:=h
theorem qh7x2 {P:Prop} (h:P:=by exact⟨(blk_cell g.out 0).trans rfl,(blk_cell g.out 1).trans rfl,(blk_cell g.out 2).trans rfl,(blk_cell g.out 3).trans rfl⟩):P:=h
mutual
def AB.l0:Nat→ByteArray→List (S50)→Int→Int→Option (ByteArray×Bool)
  | 0,_,_,_,_=>none
  | k+1,m,t,G,r=>if r<G then(if 0≤r then(if r<(t.length:Int)then(if m.size+3≤9223372036854775807 then(if(((rd_T50 t r).f0).length:Int)=0 then(if(m ++ (⟨#[32,111,110]⟩ :ByteArray)).size+4≤9223372036854775807 then(AB.j1 k ((m ++ (⟨#[32,111,110]⟩ :ByteArray)) ++ (⟨#[32,97,110,121]⟩ :ByteArray)) t G r ((rd_T50 t r).f0) ((rd_T50 t r).f1) ((rd_T50 t r).f2) ((rd_T50 t r).f3))else(none))else(AB.j1 k (m ++ (⟨#[32,111,110]⟩ :ByteArray)) t G r ((rd_T50 t r).f0) ((rd_T50 t r).f1) ((rd_T50 t r).f2) ((rd_T50 t r).f3)))else(none))else(none))else(none))else(if(m.size:Int)>1200 then(some ((⟨#[]⟩ :ByteArray),false))else(some (m,true)))
def AB.j1:Nat→ByteArray→List (S50)→Int→Int→List Int→List (S54)→Int→Int→Option (ByteArray×Bool)
  | 0,_,_,_,_,_,_,_,_=>none
  | k+1,m,t,G,r,W,X,Y,aa=>AB.l1 k m t G r W (W.length:Int) 0 W X Y aa
def AB.l1:Nat→ByteArray→List (S50)→Int→Int→List Int→Int→Int→List Int→List (S54)→Int→Int→Option (ByteArray×Bool)
  | 0,_,_,_,_,_,_,_,_,_,_,_=>none
  | k+1,m,t,G,r,aV,cj,ar,W,X,Y,aa=>if ar<cj then(if 0≤ar then(if ar<(aV.length:Int)then(if ar>0 then(if m.size+2≤9223372036854775807 then(if(m ++ (⟨#[32,44]⟩ :ByteArray)).size+1≤9223372036854775807 then((AS.f k (rd aV ar)).bind fun az=>(if((m ++ (⟨#[32,44]⟩ :ByteArray)) ++ (⟨#[32]⟩ :ByteArray)).size+az.size≤9223372036854775807 then(AB.l1 k (((m ++ (⟨#[32,44]⟩ :ByteArray)) ++ (⟨#[32]⟩ :ByteArray)) ++ az) t G r aV cj (wrap64 (ar+1)) W X Y aa)else(none)))else(none))else(none))else(if m.size+1≤9223372036854775807 then((AS.f k (rd aV ar)).bind fun aA=>(if(m ++ (⟨#[32]⟩ :ByteArray)).size+aA.size≤9223372036854775807 then(AB.l1 k ((m ++ (⟨#[32]⟩ :ByteArray)) ++ aA) t G r aV cj (wrap64 (ar+1)) W X Y aa)else(none)))else(none)))else(none))else(none))else(AB.l2 k m t G r X (X.length:Int) 0 W X Y aa)
def AB.l2:Nat→ByteArray→List (S50)→Int→Int→List (S54)→Int→Int→List Int→List (S54)→Int→Int→Option (ByteArray×Bool)
  | 0,_,_,_,_,_,_,_,_,_,_,_=>none
  | k+1,m,t,G,r,E,aW,v,W,X,Y,aa=>if v<aW then(if 0≤v then(if v<(E.length:Int)then(if v=0 then(AB.j4 k m (⟨#[32,105,102]⟩ :ByteArray) t G r E aW v W X Y aa ((rd_T54 E v).f0) ((rd_T54 E v).f1.f0) ((rd_T54 E v).f1.f1) ((rd_T54 E v).f2) ((rd_T54 E v).f3.f0) ((rd_T54 E v).f3.f1))else(AB.j4 k m (⟨#[32,97,110,100]⟩ :ByteArray) t G r E aW v W X Y aa ((rd_T54 E v).f0) ((rd_T54 E v).f1.f0) ((rd_T54 E v).f1.f1) ((rd_T54 E v).f2) ((rd_T54 E v).f3.f0) ((rd_T54 E v).f3.f1)))else(none))else(none))else(if m.size+4≤9223372036854775807 then((BO.f Y).bind fun x=>(if(m ++ (⟨#[32,100,111,32]⟩ :ByteArray)).size+x.size≤9223372036854775807 then(if((m ++ (⟨#[32,100,111,32]⟩ :ByteArray)) ++ x).size+1≤9223372036854775807 then((AS.f k aa).bind fun ab=>(if(((m ++ (⟨#[32,100,111,32]⟩ :ByteArray)) ++ x) ++ (⟨#[32]⟩ :ByteArray)).size+ab.size≤9223372036854775807 then(if((((m ++ (⟨#[32,100,111,32]⟩ :ByteArray)) ++ x) ++ (⟨#[32]⟩ :ByteArray)) ++ ab).size+2≤9223372036854775807 then(AB.l0 k (((((m ++ (⟨#[32,100,111,32]⟩ :ByteArray)) ++ x) ++ (⟨#[32]⟩ :ByteArray)) ++ ab) ++ (⟨#[32,59]⟩ :ByteArray)) t G (wrap64 (r+1)))else(none))else(none)))else(none))else(none)))else(none))
def AB.j4:Nat→ByteArray→ByteArray→List (S50)→Int→Int→List (S54)→Int→Int→List Int→List (S54)→Int→Int→Int→Int→Int→Int→Int→Int→Option (ByteArray×Bool)
  | 0,_,_,_,_,_,_,_,_,_,_,_,_,_,_,_,_,_,_=>none
  | k+1,m,ad,t,G,r,E,aW,v,W,X,Y,aa,dl,dm,dn,aI,dp,dq=>if m.size+ad.size≤9223372036854775807 then(if(m ++ ad).size+5≤9223372036854775807 then((AS.f k dl).bind fun p=>(if((m ++ ad) ++ (⟨#[32,97,114,103,32]⟩ :ByteArray)).size+p.size≤9223372036854775807 then(if(((m ++ ad) ++ (⟨#[32,97,114,103,32]⟩ :ByteArray)) ++ p).size+3≤9223372036854775807 then((A0.f k dm dn).bind fun u=>(if((((m ++ ad) ++ (⟨#[32,97,114,103,32]⟩ :ByteArray)) ++ p) ++ (⟨#[32,38,32]⟩ :ByteArray)).size+u.size≤9223372036854775807 then(if(((((m ++ ad) ++ (⟨#[32,97,114,103,32]⟩ :ByteArray)) ++ p) ++ (⟨#[32,38,32]⟩ :ByteArray)) ++ u).size+1≤9223372036854775807 then((Bj.f).bind fun D=>(if 0≤(wrap64 (aI - 1))then(if(wrap64 (aI - 1))<(D.length:Int)then(if((((((m ++ ad) ++ (⟨#[32,97,114,103,32]⟩ :ByteArray)) ++ p) ++ (⟨#[32,38,32]⟩ :ByteArray)) ++ u) ++ (⟨#[32]⟩ :ByteArray)).size+(rdOf ByteArray.empty D (wrap64 (aI - 1))).size≤9223372036854775807 then(if(((((((m ++ ad) ++ (⟨#[32,97,114,103,32]⟩ :ByteArray)) ++ p) ++ (⟨#[32,38,32]⟩ :ByteArray)) ++ u) ++ (⟨#[32]⟩ :ByteArray)) ++ (rdOf ByteArray.empty D (wrap64 (aI - 1)))).size+1≤9223372036854775807 then((A0.f k dp dq).bind fun aB=>(if((((((((m ++ ad) ++ (⟨#[32,97,114,103,32]⟩ :ByteArray)) ++ p) ++ (⟨#[32,38,32]⟩ :ByteArray)) ++ u) ++ (⟨#[32]⟩ :ByteArray)) ++ (rdOf ByteArray.empty D (wrap64 (aI - 1)))) ++ (⟨#[32]⟩ :ByteArray)).size+aB.size≤9223372036854775807 then(AB.l2 k (((((((((m ++ ad) ++ (⟨#[32,97,114,103,32]⟩ :ByteArray)) ++ p) ++ (⟨#[32,38,32]⟩ :ByteArray)) ++ u) ++ (⟨#[32]⟩ :ByteArray)) ++ (rdOf ByteArray.empty D (wrap64 (aI - 1)))) ++ (⟨#[32]⟩ :ByteArray)) ++ aB) t G r E aW (wrap64 (v+1)) W X Y aa)else(none)))else(none))else(none))else(none))else(none)))else(none))else(none)))else(none))else(none)))else(none))else(none)
end
def AB.f (k:Nat) (L:Int) (M:Int) (O:Int) (b:List (S50)):Option (ByteArray×Bool):=(Ax.f k L M O b).bind fun ck=>(if ck=true then((AS.f k L).bind fun s=>(if 5+s.size≤9223372036854775807 then(if((⟨#[97,114,99,104,32]⟩ :ByteArray) ++ s).size+11≤9223372036854775807 then((BO.f M).bind fun z=>(if(((⟨#[97,114,99,104,32]⟩ :ByteArray) ++ s) ++ (⟨#[32,59,32,100,101,102,97,117,108,116,32]⟩ :ByteArray)).size+z.size≤9223372036854775807 then(if((((⟨#[97,114,99,104,32]⟩ :ByteArray) ++ s) ++ (⟨#[32,59,32,100,101,102,97,117,108,116,32]⟩ :ByteArray)) ++ z).size+1≤9223372036854775807 then((AS.f k O).bind fun ac=>(if(((((⟨#[97,114,99,104,32]⟩ :ByteArray) ++ s) ++ (⟨#[32,59,32,100,101,102,97,117,108,116,32]⟩ :ByteArray)) ++ z) ++ (⟨#[32]⟩ :ByteArray)).size+ac.size≤9223372036854775807 then(if((((((⟨#[97,114,99,104,32]⟩ :ByteArray) ++ s) ++ (⟨#[32,59,32,100,101,102,97,117,108,116,32]⟩ :ByteArray)) ++ z) ++ (⟨#[32]⟩ :ByteArray)) ++ ac).size+2≤9223372036854775807 then(AB.l0 k (((((((⟨#[97,114,99,104,32]⟩ :ByteArray) ++ s) ++ (⟨#[32,59,32,100,101,102,97,117,108,116,32]⟩ :ByteArray)) ++ z) ++ (⟨#[32]⟩ :ByteArray)) ++ ac) ++ (⟨#[32,59]⟩ :ByteArray)) b (b.length:Int) 0)else(none))else(none)))else(none))else(none)))else(none))else(none)))else(some ((⟨#[]⟩ :ByteArray),false)))
def AB.T3:Bool×List (List Nat×List Nat):=(true,[([],[]),([0],[0]),([1],[1]),([2],[2]),([3],[3]),([],[]),([5],[5]),([6,2],[6]),([4,7],[4,7]),([8],[8]),([],[]),([10],[10]),([11,7],[11]),([9,12],[9,12]),([13],[13]),([14,12,0,1,2,3,4,5,6,7,8,9,10,11,12,13,14],[14])])
def AB.B3:List Nat:=[0,1,3,7,15,0,32,103,255,511,0,1024,3303,8191,16383,32767]
theorem AB.tab3:rtab .any (opsOf Tryz.f6 3)=AB.T3:=by kernel_rfl
theorem AB.bits3:waitsOk AB.T3.2 AB.B3=true:=by kernel_rfl
def AB.T23:Bool×List (List Nat×List Nat):=(true,[([],[]),([],[]),([0,1],[0,1]),([2],[2]),([],[]),([4],[4]),([5],[5]),([3,6],[3,6]),([7],[7]),([],[]),([9],[9]),([10,6],[10]),([8,11],[8,11]),([12],[12]),([11],[]),([],[]),([15],[15]),([16],[16]),([14,17],[14,17]),([18],[18]),([13,19],[13,19]),([20],[20]),([],[]),([22],[22]),([23,14],[23]),([21,24],[21,24]),([25,24,0,1,2,3,4,5,6,7,8,9,10,11,12,13,14,15,16,17,18,19,20,21,22,23,24,25],[0,25])])
def AB.B23:List Nat:=[0,0,3,7,0,16,48,127,255,0,512,1648,4095,8191,3696,0,32768,98304,249456,511600,1048575,2097151,0,4194304,12602992,33554431,67108863]
theorem AB.tab23:rtab .any (opsOf Tryz.f6 23)=AB.T23:=by kernel_rfl
theorem AB.bits23:waitsOk AB.T23.2 AB.B23=true:=by kernel_rfl
def AB.T25:Bool×List (List Nat×List Nat):=(true,[([],[]),([0],[0]),([],[]),([2],[2]),([3],[3]),([1,4],[1,4]),([5],[5]),([],[]),([7],[7]),([8,4],[8]),([6,9],[6,9]),([10],[10]),([11,9,0,1,2,3,4,5,6,7,8,9,10,11],[0,11])])
def AB.B25:List Nat:=[0,1,0,4,12,31,63,0,128,412,1023,2047,4095]
theorem AB.tab25:rtab .any (opsOf Tryz.f6 25)=AB.T25:=by kernel_rfl
theorem AB.bits25:waitsOk AB.T25.2 AB.B25=true:=by kernel_rfl
theorem q7x0 {P:Prop} (h:P:=by
 rintro w' ⟨s0,s1,s2,s3⟩
 go_simp
 with_reducible rfl):P:=h
theorem q7x1 {P:Prop} (h:P:=by
 rintro w' ⟨s0,s1,s2,s3,s4,s5,s6⟩
 go_simp
 with_reducible rfl):P:=h
theorem q7x1a {P:Prop} (h:P:=by
 rintro w' ⟨s0,s1,s2,s3,s4,s5⟩
 go_simp
 with_reducible rfl):P:=h
theorem AB.calls {k:Nat}{L:Int}{M:Int}{O:Int}{aJ:Option Addr}{ae:Nat}{b:List (S50)}{r1:ByteArray}{r2:Bool}{w:World}(h:AB.f k L M O b=some (r1,r2))(cG:Kd.C k50 w aJ b.length b)(cI:b.length≤ae) :
 Calls Tryz.prog 6 #[.agg #[.int .i64 L,.int .i64 M,.int .i64 O,.slice aJ b.length ae]] w fun e w'=>e= .returned (.tuple #[.string r1,.bool r2])∧Below w.heap.size w w':=by
 have hu26:=Tryz.underlying26;have hu50:=Tryz.underlying50;have hu54:=Tryz.underlying54;have hu52:=Tryz.underlying52;have HR0_3:=aM cG;have HC0_3:=aM cI;clear cG cI;have HB:=rW w
 unfold AB.f at h;have H:=h
 clear h;replace H:=bE H;obtain⟨ck,cJ,H⟩:=H;by_cases ai:ck=true
 ·subst ai;replace H:=iT H;replace H:=bE H;obtain⟨s,dr,H⟩:=H;replace H:=gC H;obtain⟨au,H⟩:=H;have aX:=eq_true au;have aY:decide (5+s.size≤9223372036854775807)=true:=decide_eq_true au
  try have aZ:(9223372036854775807<5+s.size)=False:=eq_false (Nat.not_lt.2 au)
  replace H:=gC H;obtain⟨aj,H⟩:=H;have a0:=eq_true aj;have a1:decide (((⟨#[97,114,99,104,32]⟩ :ByteArray) ++ s).size+11≤9223372036854775807)=true:=decide_eq_true aj
  try have a2:(9223372036854775807<((⟨#[97,114,99,104,32]⟩ :ByteArray) ++ s).size+11)=False:=eq_false (Nat.not_lt.2 aj)
  try have ei:(9223372036854775807<5+s.size+11)=False:=eq_false (Nat.not_lt.2 (by have h_:=aj;simp only[ByteArray.size_append]at h_;exact h_))
  replace H:=bE H;obtain⟨z,ds,H⟩:=H;replace H:=gC H;obtain⟨ak,H⟩:=H;have a3:=eq_true ak;have a4:decide ((((⟨#[97,114,99,104,32]⟩ :ByteArray) ++ s) ++ (⟨#[32,59,32,100,101,102,97,117,108,116,32]⟩ :ByteArray)).size+z.size≤9223372036854775807)=true:=decide_eq_true ak
  try have a5:(9223372036854775807<(((⟨#[97,114,99,104,32]⟩ :ByteArray) ++ s) ++ (⟨#[32,59,32,100,101,102,97,117,108,116,32]⟩ :ByteArray)).size+z.size)=False:=eq_false (Nat.not_lt.2 ak)
  try have ej:(9223372036854775807<5+s.size+11+z.size)=False:=eq_false (Nat.not_lt.2 (by have h_:=ak;simp only[ByteArray.size_append]at h_;exact h_))
  replace H:=gC H;obtain⟨al,H⟩:=H;have a6:=eq_true al;have a7:decide (((((⟨#[97,114,99,104,32]⟩ :ByteArray) ++ s) ++ (⟨#[32,59,32,100,101,102,97,117,108,116,32]⟩ :ByteArray)) ++ z).size+1≤9223372036854775807)=true:=decide_eq_true al
  try have a8:(9223372036854775807<((((⟨#[97,114,99,104,32]⟩ :ByteArray) ++ s) ++ (⟨#[32,59,32,100,101,102,97,117,108,116,32]⟩ :ByteArray)) ++ z).size+1)=False:=eq_false (Nat.not_lt.2 al)
  try have ek:(9223372036854775807<5+s.size+11+z.size+1)=False:=eq_false (Nat.not_lt.2 (by have h_:=al;simp only[ByteArray.size_append]at h_;exact h_))
  replace H:=bE H;obtain⟨ac,dt,H⟩:=H;replace H:=gC H;obtain⟨am,H⟩:=H;have a9:=eq_true am;have ba:decide ((((((⟨#[97,114,99,104,32]⟩ :ByteArray) ++ s) ++ (⟨#[32,59,32,100,101,102,97,117,108,116,32]⟩ :ByteArray)) ++ z) ++ (⟨#[32]⟩ :ByteArray)).size+ac.size≤9223372036854775807)=true:=decide_eq_true am
  try have bb:(9223372036854775807<(((((⟨#[97,114,99,104,32]⟩ :ByteArray) ++ s) ++ (⟨#[32,59,32,100,101,102,97,117,108,116,32]⟩ :ByteArray)) ++ z) ++ (⟨#[32]⟩ :ByteArray)).size+ac.size)=False:=eq_false (Nat.not_lt.2 am)
  try have el:(9223372036854775807<5+s.size+11+z.size+1+ac.size)=False:=eq_false (Nat.not_lt.2 (by have h_:=am;simp only[ByteArray.size_append]at h_;exact h_))
  replace H:=gC H;obtain⟨an,H⟩:=H;have bd:=eq_true an;have be:decide (((((((⟨#[97,114,99,104,32]⟩ :ByteArray) ++ s) ++ (⟨#[32,59,32,100,101,102,97,117,108,116,32]⟩ :ByteArray)) ++ z) ++ (⟨#[32]⟩ :ByteArray)) ++ ac).size+2≤9223372036854775807)=true:=decide_eq_true an
  try have bf:(9223372036854775807<((((((⟨#[97,114,99,104,32]⟩ :ByteArray) ++ s) ++ (⟨#[32,59,32,100,101,102,97,117,108,116,32]⟩ :ByteArray)) ++ z) ++ (⟨#[32]⟩ :ByteArray)) ++ ac).size+2)=False:=eq_false (Nat.not_lt.2 an)
  try have em:(9223372036854775807<5+s.size+11+z.size+1+ac.size+2)=False:=eq_false (Nat.not_lt.2 (by have h_:=an;simp only[ByteArray.size_append]at h_;exact h_))
  have H':=aM H;clear H;go_enter Tryz.func6,Tryz.ntmps6
  try go_wp2_with (first|((with_reducible refine gN 1 ?_);refine boxZ 1 #[.int .i64 L,.int .i64 M,.int .i64 O,.slice aJ b.length ae] 26 ?_;intro af hg en hbox hb;have d:=aM hbox;have GW307:=gS hg;have GE307:=gS hg;replace HB:=sB hb;clear hb hbox hg;obtain⟨bg,bh,bi,bj,bk,bl,bm,bn⟩:=cz4 d)|((with_reducible refine gF 18 ?_);refine gX (some 13) Tryz.func18 (Ax.calls cJ.out (cH HR0_3) HC0_3.out) ?_;intro du hb;replace d:=kB d hb;replace HB:=sB hb;clear hb))
  replace d:=dB d;replace HB:=dW HB
  refine sZ 16 (fun w'=>w'.cell? ⟨af,0,none⟩=some (.int .i64 L)∧w'.cell? ⟨af,1,none⟩=some (.int .i64 M)∧w'.cell? ⟨af,2,none⟩=some (.int .i64 O)∧w'.cell? ⟨af,3,none⟩=some (.slice aJ b.length ae)) AB.tab3 AB.bits3 qh7x0 fun HT_ HW_ hHeld=>?_
  generalize du.drew=eo at d HB hHeld ⊢;refine pZ 0 15 1 ?_;refine pZ 5 20 33 ?_;refine pZ 10 25 1057 ?_;refine tZ 1 16 1059 (y:=q7x0) (h:=?_);refine tZ 6 21 1123 (y:=q7x0) (h:=?_);refine tZ 11 26 3171 (y:=q7x0) (h:=?_)
  refine oZ 2 17 3175 fun K hK=>?_
  refine eX Tryz.func19 (AS.calls dr.out) ?_
  intro ep hb;replace d:=kB d hb;replace HB:=sB hb;clear hb
  refine hK.out _ _ qh7x0 (fun hHeld=>?_)
  clear hK K;refine normZ (some 17) ?_
  refine pZ 3 18 3183 ?_;refine pZ 4 19 3199 ?_
  refine oZ 7 22 3327 fun K hK=>?_
  refine eX Tryz.func20 (BO.calls ds.out) ?_
  intro eq hb;replace d:=kB d hb;replace HB:=sB hb;clear hb
  refine hK.out _ _ qh7x0 (fun hHeld=>?_)
  clear hK K;refine normZ (some 22) ?_
  refine pZ 8 23 3583 ?_;refine pZ 9 24 4095 ?_
  refine oZ 12 27 8191 fun K hK=>?_
  refine eX Tryz.func19 (AS.calls dt.out) ?_
  intro er hb;replace d:=kB d hb;replace HB:=sB hb;clear hb
  refine hK.out _ _ qh7x0 (fun hHeld=>?_)
  clear hK K;refine normZ (some 27) ?_
  refine pZ 13 28 16383 ?_;refine pZ 14 29 32767 ?_;refine pZ 15 4 65535 ?_
  refine done_ (done_of HT_.out (by kernel_rfl)) ?_
  obtain⟨bo,bp,bq,br,bs,bu,bv,bw⟩:=cz4 d
  try go_wp2
  go_loopg [4,33] k (fun kq aC dv w'=> ∃ (I:ByteArray) (c:Int),aC= .string I∧dv= .int .i64 c∧Aside0 (AB.l0 kq I b (b.length:Int) c=some (r1,r2))∧Aside0 (kq≤k)∧Aside0 (w'.heap[af]?=some (.cells #[.int .i64 L,.int .i64 M,.int .i64 O,(.slice aJ b.length ae)] 26 (0,0)))∧Aside0 (Below w.heap.size w w'))
  case atStart=>exact⟨(((((((⟨#[97,114,99,104,32]⟩ :ByteArray) ++ s) ++ (⟨#[32,59,32,100,101,102,97,117,108,116,32]⟩ :ByteArray)) ++ z) ++ (⟨#[32]⟩ :ByteArray)) ++ ac) ++ (⟨#[32,59]⟩ :ByteArray)),(0),rS,rS,H',⟨Nat.le_refl _⟩,⟨mK d⟩,⟨cB⟩⟩
  case round=>
   clear H';(try clear ai);(try clear au);(try clear aX);(try clear aY);(try clear aZ);(try clear aj);(try clear a0);(try clear a1);(try clear a2);(try clear ak);(try clear a3);(try clear a4);(try clear a5);(try clear al);(try clear a6);(try clear a7);(try clear a8);(try clear am);(try clear a9);(try clear ba);(try clear bb);(try clear an);(try clear bd);(try clear be);(try clear bf);(try clear bg bh bi bj);(try clear bo bp bq br);(try clear bk bl bm bn);(try clear bs bu bv bw);obtain⟨I,c,rfl,rfl,HA,HK1,d,HB⟩:=hrel
   cases gk with
   | zero=>exact absurd HA.out (by simp[AB.l0])
   | succ k1=>
    have H:=HA.out;clear HA;simp only[AB.l0]at H;by_cases ag:c<(b.length:Int)
    ·rw[if_pos ag]at H;have bx:=decide_eq_true ag;clear ag;replace H:=gD H;obtain⟨bG,H⟩:=H;replace H:=gD H;obtain⟨bH,H⟩:=H;replace H:=gC H;obtain⟨aD,H⟩:=H;have bI:=eq_true aD;have bJ:decide (I.size+3≤9223372036854775807)=true:=decide_eq_true aD
     try have bL:(9223372036854775807<I.size+3)=False:=eq_false (Nat.not_lt.2 aD)
     have HC25:=aM H;clear H;have aE:0≤(c:Int):=dA;have aF:c<(b.length:Int):=dA;obtain⟨bM,bz,bA,bN,bB,dw,aK,aL,aN,aO,hl312_0,hi312_0,hl312_1,hi312_1⟩:=at_T50 HR0_3.out c aE aF;cases dw;replace aK:=(bc HB aK :);replace aL:=(bc HB aL :);replace aN:=(bc HB aN :);replace aO:=(bc HB aO :);have HR312_0:=aM hi312_0;have HC312_0:=aM hl312_0;clear hi312_0 hl312_0;have HR312_1:=aM hi312_1;have HC312_1:=aM hl312_1;clear hi312_1 hl312_1;replace aE:=eq_true aE;replace aF:=eq_true aF
     go_upto_if 42 with(first|((with_reducible refine gN 6 ?_);refine boxZ 6 #[.slice none 0 0,.slice none 0 0,.int .i64 0,.int .i64 0] 50 ?_;intro av hg es hbox hb;have g:=aM hbox;have GW313:=gS hg;have GE313:=gS hg;replace HB:=sB hb;have cl:=nL hg d;have cm:=nG hg d;replace d:=kB d hb;clear hb hbox hg;have hnb27:=cm.out;have hnc27:=cl.out;obtain⟨bO,bP,bQ,bR,bS,bT,bU,bV⟩:=cz4 g))
     (try simp only[Act.put,List.setIfInBounds_toArray,List.set_cons_zero,List.set_cons_succ])
     go_cut [4] (fun aC wc=> ∃ (kq:Nat) (bW:ByteArray),aC= .string bW∧Aside0 (AB.j1 kq bW b (b.length:Int) c ((rd_T50 b c).f0) ((rd_T50 b c).f1) ((rd_T50 b c).f2) ((rd_T50 b c).f3)=some (r1,r2))∧Aside0 (kq≤k1)∧Aside0 (wc.heap[af]?=some (.cells #[.int .i64 L,.int .i64 M,.int .i64 O,(.slice (some bM) b.length ae)] 26 (0,0)))∧Aside0 (wc.heap[av]?=some (.cells #[(.slice bz ((rd_T50 b c).f0).length bA),(.slice bN ((rd_T50 b c).f1).length bB),.int .i64 ((rd_T50 b c).f2),.int .i64 ((rd_T50 b c).f3)] 50 (0,0)))∧Aside0 (Below w.heap.size w wc))
     case first=>
      have H:=HC25.out;clear HC25;by_cases ah:(((rd_T50 b c).f0).length:Int)=0
      ·rw[if_pos ah]at H;obtain⟨ao,bC⟩:=eT ah;clear ah
       (first|rw[ao]|(simp only[i64_w,i32_w];rw[ao])|skip)
       replace H:=gC H;obtain⟨aw,H⟩:=H;have bX:=eq_true aw;have bY:decide ((I ++ (⟨#[32,111,110]⟩ :ByteArray)).size+4≤9223372036854775807)=true:=decide_eq_true aw
       try have bZ:(9223372036854775807<(I ++ (⟨#[32,111,110]⟩ :ByteArray)).size+4)=False:=eq_false (Nat.not_lt.2 aw)
       try have et:(9223372036854775807<I.size+3+4)=False:=eq_false (Nat.not_lt.2 (by have h_:=aw;simp only[ByteArray.size_append]at h_;exact h_))
       have H':=aM H;clear H;go_wp2;go_meet
       case rel=>exact⟨_,((I ++ (⟨#[32,111,110]⟩ :ByteArray)) ++ (⟨#[32,97,110,121]⟩ :ByteArray)),rS,H',⟨by have:=HK1.out;first|omega|exact Nat.le_refl _⟩,⟨mK d⟩,⟨kS g _⟩,⟨cB⟩⟩
      ·rw[if_neg ah]at H;obtain⟨ao,bC⟩:=eF ah
       have b0: ¬ (((rd_T50 b c).f0)= []):=fun h_=>ah (by rw[h_];rfl)
       (first|rw[ao]|(simp only[i64_w,i32_w];rw[ao])|skip)
       have H':=aM H;clear H;go_wp2;go_meet
       case rel=>exact⟨_,(I ++ (⟨#[32,111,110]⟩ :ByteArray)),rS,H',⟨by have:=HK1.out;first|omega|exact Nat.le_refl _⟩,⟨mK d⟩,⟨kS g _⟩,⟨cB⟩⟩
     case rest=>
      clear HC25;(try clear ai);(try clear au);(try clear aX);(try clear aY);(try clear aZ);(try clear aj);(try clear a0);(try clear a1);(try clear a2);(try clear ak);(try clear a3);(try clear a4);(try clear a5);(try clear al);(try clear a6);(try clear a7);(try clear a8);(try clear am);(try clear a9);(try clear ba);(try clear bb);(try clear an);(try clear bd);(try clear be);(try clear bf);(try clear ag);(try clear bx);(try clear cn);(try clear bG);(try clear co);(try clear bH);(try clear aD);(try clear bI);(try clear bJ);(try clear bL);(try clear ah);(try clear ao);(try clear bC);(try clear b0);(try clear aw);(try clear bX);(try clear bY);(try clear bZ);(try clear bg bh bi bj);(try clear bo bp bq br);(try clear bO bP bQ bR);(try clear bk bl bm bn);(try clear bs bu bv bw);(try clear bS bT bU bV);(try clear aK aL aN aO);(try clear aE);(try clear aF);obtain⟨kq,bW,rfl,HA,HJ24,d,g,HB⟩:=hcut
      cases kq with
      | zero=>exact absurd HA.out (by simp[AB.j1])
      | succ kj24=>
       have H:=HA.out;clear HA;simp only[AB.j1]at H;have H':=aM H;clear H;have hnb31:=cm.out;have hnc31:=cl.out;obtain⟨cp,cq,cr,cs,ct,cu,cv,cw⟩:=cz4 g;go_wp2
       go_loopg [4,48] kj24 (fun kq aC dx w'=> ∃ (A:ByteArray) (J:Int),aC= .string A∧dx= .int .i64 J∧Aside0 (AB.l1 kq A b (b.length:Int) c ((rd_T50 b c).f0) (((rd_T50 b c).f0).length:Int) J ((rd_T50 b c).f0) ((rd_T50 b c).f1) ((rd_T50 b c).f2) ((rd_T50 b c).f3)=some (r1,r2))∧Aside0 (kq≤kj24)∧Aside0 (w'.heap[af]?=some (.cells #[.int .i64 L,.int .i64 M,.int .i64 O,(.slice (some bM) b.length ae)] 26 (0,0)))∧Aside0 (w'.heap[av]?=some (.cells #[(.slice bz ((rd_T50 b c).f0).length bA),(.slice bN ((rd_T50 b c).f1).length bB),.int .i64 ((rd_T50 b c).f2),.int .i64 ((rd_T50 b c).f3)] 50 (0,0)))∧Aside0 (Below w.heap.size w w'))
       case atStart=>exact⟨(bW),(0),rS,rS,H',⟨Nat.le_refl _⟩,⟨mK d⟩,⟨mK g⟩,⟨cB⟩⟩
       case round=>
        clear H';(try clear ai);(try clear au);(try clear aX);(try clear aY);(try clear aZ);(try clear aj);(try clear a0);(try clear a1);(try clear a2);(try clear ak);(try clear a3);(try clear a4);(try clear a5);(try clear al);(try clear a6);(try clear a7);(try clear a8);(try clear am);(try clear a9);(try clear ba);(try clear bb);(try clear an);(try clear bd);(try clear be);(try clear bf);(try clear ag);(try clear bx);(try clear cn);(try clear bG);(try clear co);(try clear bH);(try clear aD);(try clear bI);(try clear bJ);(try clear bL);(try clear ah);(try clear ao);(try clear bC);(try clear b0);(try clear aw);(try clear bX);(try clear bY);(try clear bZ);(try clear bg bh bi bj);(try clear bo bp bq br);(try clear bO bP bQ bR);(try clear cp cq cr cs);(try clear bk bl bm bn);(try clear bs bu bv bw);(try clear bS bT bU bV);(try clear ct cu cv cw);(try clear aK aL aN aO);(try clear aE);(try clear aF);obtain⟨A,J,rfl,rfl,HA,HK3,d,g,HB⟩:=hrel
        cases gk with
        | zero=>exact absurd HA.out (by simp[AB.l1])
        | succ k3=>
         have H:=HA.out;clear HA;simp only[AB.l1]at H;by_cases ax:J<(((rd_T50 b c).f0).length:Int)
         ·rw[if_pos ax]at H;have cx:=decide_eq_true ax;clear ax;replace H:=gD H;obtain⟨cL,H⟩:=H;replace H:=gD H;obtain⟨cM,H⟩:=H;by_cases ay:J>0
          ·rw[if_pos ay]at H;have cy:decide (0<J)=true:=decide_eq_true ay;clear ay;replace H:=gC H;obtain⟨bD,H⟩:=H;have cN:=eq_true bD;have cO:decide (A.size+2≤9223372036854775807)=true:=decide_eq_true bD
           try have cP:(9223372036854775807<A.size+2)=False:=eq_false (Nat.not_lt.2 bD)
           replace H:=gC H;obtain⟨aP,H⟩:=H;have cQ:=eq_true aP;have cR:decide ((A ++ (⟨#[32,44]⟩ :ByteArray)).size+1≤9223372036854775807)=true:=decide_eq_true aP
           try have cS:(9223372036854775807<(A ++ (⟨#[32,44]⟩ :ByteArray)).size+1)=False:=eq_false (Nat.not_lt.2 aP)
           try have eu:(9223372036854775807<A.size+2+1)=False:=eq_false (Nat.not_lt.2 (by have h_:=aP;simp only[ByteArray.size_append]at h_;exact h_))
           replace H:=bE H;obtain⟨az,dy,H⟩:=H;replace H:=gC H;obtain⟨aQ,H⟩:=H;have cT:=eq_true aQ;have cU:decide (((A ++ (⟨#[32,44]⟩ :ByteArray)) ++ (⟨#[32]⟩ :ByteArray)).size+az.size≤9223372036854775807)=true:=decide_eq_true aQ
           try have cV:(9223372036854775807<((A ++ (⟨#[32,44]⟩ :ByteArray)) ++ (⟨#[32]⟩ :ByteArray)).size+az.size)=False:=eq_false (Nat.not_lt.2 aQ)
           try have ev:(9223372036854775807<A.size+2+1+az.size)=False:=eq_false (Nat.not_lt.2 (by have h_:=aQ;simp only[ByteArray.size_append]at h_;exact h_))
           have H':=aM H;clear H;have ap:0≤(J:Int):=dA;have aq:J<(((rd_T50 b c).f0).length:Int):=dA;obtain⟨dz,cz,aG⟩:=at_int HR312_0.out J ap aq;cases cz;replace aG:=(bc HB aG :);replace ap:=eq_true ap;replace aq:=eq_true aq
           go_wp2_with (first|((with_reducible refine gF 19 ?_);refine gX (some 60) Tryz.func19 (AS.calls dy.out) ?_;intro ew hb;replace d:=kB d hb;replace g:=kB g hb;replace HB:=sB hb;clear hb))
           go_roundg k3
           case measure=>have:=HK1.out;have:=HJ24.out;have:=HK3.out;omega
           case rel=>exact⟨(((A ++ (⟨#[32,44]⟩ :ByteArray)) ++ (⟨#[32]⟩ :ByteArray)) ++ az),(wrap64 (J+1)),rS,rS,H',⟨by have:=HK1.out;have:=HJ24.out;have:=HK3.out;omega⟩,⟨mK d⟩,⟨mK g⟩,⟨cB⟩⟩
          ·rw[if_neg ay]at H;have cy:decide (0<J)=false:=decide_eq_false ay;clear ay;replace H:=gC H;obtain⟨bF,H⟩:=H;have cW:=eq_true bF;have cX:decide (A.size+1≤9223372036854775807)=true:=decide_eq_true bF
           try have cY:(9223372036854775807<A.size+1)=False:=eq_false (Nat.not_lt.2 bF)
           replace H:=bE H;obtain⟨aA,dC,H⟩:=H;replace H:=gC H;obtain⟨aR,H⟩:=H;have cZ:=eq_true aR;have c0:decide ((A ++ (⟨#[32]⟩ :ByteArray)).size+aA.size≤9223372036854775807)=true:=decide_eq_true aR
           try have c1:(9223372036854775807<(A ++ (⟨#[32]⟩ :ByteArray)).size+aA.size)=False:=eq_false (Nat.not_lt.2 aR)
           try have ex:(9223372036854775807<A.size+1+aA.size)=False:=eq_false (Nat.not_lt.2 (by have h_:=aR;simp only[ByteArray.size_append]at h_;exact h_))
           have H':=aM H;clear H;have ap:0≤(J:Int):=dA;have aq:J<(((rd_T50 b c).f0).length:Int):=dA;obtain⟨dz,cz,aG⟩:=at_int HR312_0.out J ap aq;cases cz;replace aG:=(bc HB aG :);replace ap:=eq_true ap;replace aq:=eq_true aq
           go_wp2_with (first|((with_reducible refine gF 19 ?_);refine gX (some 60) Tryz.func19 (AS.calls dC.out) ?_;intro ey hb;replace d:=kB d hb;replace g:=kB g hb;replace HB:=sB hb;clear hb))
           go_roundg k3
           case measure=>have:=HK1.out;have:=HJ24.out;have:=HK3.out;omega
           case rel=>exact⟨((A ++ (⟨#[32]⟩ :ByteArray)) ++ aA),(wrap64 (J+1)),rS,rS,H',⟨by have:=HK1.out;have:=HJ24.out;have:=HK3.out;omega⟩,⟨mK d⟩,⟨mK g⟩,⟨cB⟩⟩
         ·rw[if_neg ax]at H;have cx:=decide_eq_false ax;clear ax;have H':=aM H;clear H;have hnb46:=cm.out;have hnc46:=cl.out;obtain⟨c3,c5,c6,c8,c9,da,db,dc⟩:=cz4 g;go_wp2
          go_loopg [4,66] k3 (fun kq aC dD w'=> ∃ (j:ByteArray) (n:Int),aC= .string j∧dD= .int .i64 n∧Aside0 (AB.l2 kq j b (b.length:Int) c ((rd_T50 b c).f1) (((rd_T50 b c).f1).length:Int) n ((rd_T50 b c).f0) ((rd_T50 b c).f1) ((rd_T50 b c).f2) ((rd_T50 b c).f3)=some (r1,r2))∧Aside0 (kq≤k3)∧Aside0 (w'.heap[af]?=some (.cells #[.int .i64 L,.int .i64 M,.int .i64 O,(.slice (some bM) b.length ae)] 26 (0,0)))∧Aside0 (w'.heap[av]?=some (.cells #[(.slice bz ((rd_T50 b c).f0).length bA),(.slice bN ((rd_T50 b c).f1).length bB),.int .i64 ((rd_T50 b c).f2),.int .i64 ((rd_T50 b c).f3)] 50 (0,0)))∧Aside0 (Below w.heap.size w w'))
          case atStart=>exact⟨(A),(0),rS,rS,H',⟨Nat.le_refl _⟩,⟨mK d⟩,⟨mK g⟩,⟨cB⟩⟩
          case round=>
           clear H';(try clear ai);(try clear au);(try clear aX);(try clear aY);(try clear aZ);(try clear aj);(try clear a0);(try clear a1);(try clear a2);(try clear ak);(try clear a3);(try clear a4);(try clear a5);(try clear al);(try clear a6);(try clear a7);(try clear a8);(try clear am);(try clear a9);(try clear ba);(try clear bb);(try clear an);(try clear bd);(try clear be);(try clear bf);(try clear ag);(try clear bx);(try clear cn);(try clear bG);(try clear co);(try clear bH);(try clear aD);(try clear bI);(try clear bJ);(try clear bL);(try clear ah);(try clear ao);(try clear bC);(try clear b0);(try clear aw);(try clear bX);(try clear bY);(try clear bZ);(try clear ax);(try clear cx);(try clear dE);(try clear cL);(try clear dF);(try clear cM);(try clear ay);(try clear cy);(try clear bD);(try clear cN);(try clear cO);(try clear cP);(try clear aP);(try clear cQ);(try clear cR);(try clear cS);(try clear aQ);(try clear cT);(try clear cU);(try clear cV);(try clear bF);(try clear cW);(try clear cX);(try clear cY);(try clear aR);(try clear cZ);(try clear c0);(try clear c1);(try clear bg bh bi bj);(try clear bo bp bq br);(try clear bO bP bQ bR);(try clear cp cq cr cs);(try clear c3 c5 c6 c8);(try clear bk bl bm bn);(try clear bs bu bv bw);(try clear bS bT bU bV);(try clear ct cu cv cw);(try clear c9 da db dc);(try clear aK aL aN aO);(try clear aG);(try clear aE);(try clear ap);(try clear aF);(try clear aq);obtain⟨j,n,rfl,rfl,HA,HK4,d,g,HB⟩:=hrel
           cases gk with
           | zero=>exact absurd HA.out (by simp[AB.l2])
           | succ k4=>
            have H:=HA.out;clear HA;simp only[AB.l2]at H;by_cases aH:n<(((rd_T50 b c).f1).length:Int)
            ·rw[if_pos aH]at H;have dd:=decide_eq_true aH;clear aH;replace H:=gD H;obtain⟨dG,H⟩:=H;replace H:=gD H;obtain⟨dH,H⟩:=H;have HC51:=aM H;clear H;obtain⟨dI,dJ,dK,dL,dM,dN,dO,dP,dQ,dS⟩:=b6 HB (at_T54 HR312_1.out n);cases dL
             go_upto_if 72 with(first|((with_reducible refine gN 10 ?_);refine boxZ 10 #[.int .i64 0,.int .i64 0,.int .i64 0,.int .i64 0,.int .i64 0,.int .i64 0] 54 ?_;intro U hg ez hbox hb;have o:=aM hbox;have GW320:=gS hg;have GE320:=gS hg;replace HB:=sB hb;have dT:=nL hg d;have dU:=nG hg d;replace d:=kB d hb;have dV:=nL hg g;have dX:=nG hg g;replace g:=kB g hb;clear hb hbox hg;have hnb53:=dU.out;have hnc53:=dT.out;have hnb54:=dX.out;have hnc54:=dV.out;obtain⟨dY,dZ,d0,d1,d2,d3,d4,d5,d6,d7,d8,d9⟩:=cz6 o))
             (try simp only[Act.put,List.setIfInBounds_toArray,List.set_cons_zero,List.set_cons_succ])
             go_cut [11] (fun ea wc=> ∃ (kq:Nat) (q:ByteArray),ea= .string q∧Aside0 (AB.j4 kq j q b (b.length:Int) c ((rd_T50 b c).f1) (((rd_T50 b c).f1).length:Int) n ((rd_T50 b c).f0) ((rd_T50 b c).f1) ((rd_T50 b c).f2) ((rd_T50 b c).f3) ((rd_T54 ((rd_T50 b c).f1) n).f0) ((rd_T54 ((rd_T50 b c).f1) n).f1.f0) ((rd_T54 ((rd_T50 b c).f1) n).f1.f1) ((rd_T54 ((rd_T50 b c).f1) n).f2) ((rd_T54 ((rd_T50 b c).f1) n).f3.f0) ((rd_T54 ((rd_T50 b c).f1) n).f3.f1)=some (r1,r2))∧Aside0 (kq≤k4)∧Aside0 (wc.heap[af]?=some (.cells #[.int .i64 L,.int .i64 M,.int .i64 O,(.slice (some bM) b.length ae)] 26 (0,0)))∧Aside0 (wc.heap[av]?=some (.cells #[(.slice bz ((rd_T50 b c).f0).length bA),(.slice (some dK) ((rd_T50 b c).f1).length bB),.int .i64 ((rd_T50 b c).f2),.int .i64 ((rd_T50 b c).f3)] 50 (0,0)))∧Aside0 (wc.heap[U]?=some (.cells #[.int .i64 ((rd_T54 ((rd_T50 b c).f1) n).f0),.int .i64 ((rd_T54 ((rd_T50 b c).f1) n).f1.f0),.int .i64 ((rd_T54 ((rd_T50 b c).f1) n).f1.f1),.int .i64 ((rd_T54 ((rd_T50 b c).f1) n).f2),.int .i64 ((rd_T54 ((rd_T50 b c).f1) n).f3.f0),.int .i64 ((rd_T54 ((rd_T50 b c).f1) n).f3.f1)] 54 (0,0)))∧Aside0 (Below w.heap.size w wc))
             case first=>
              have H:=HC51.out;clear HC51;by_cases aS:n=0
              ·rw[if_pos aS]at H;obtain⟨aT,de⟩:=eT aS;clear aS
               (first|rw[aT]|(simp only[i64_w,i32_w];rw[aT])|skip)
               have H':=aM H;clear H;go_wp2;go_meet
               case rel=>exact⟨_,((⟨#[32,105,102]⟩ :ByteArray)),rS,H',⟨by have:=HK1.out;have:=HJ24.out;have:=HK3.out;have:=HK4.out;first|omega|exact Nat.le_refl _⟩,⟨mK d⟩,⟨mK g⟩,⟨kS o _⟩,⟨cB⟩⟩
              ·rw[if_neg aS]at H;obtain⟨aT,de⟩:=eF aS
               (first|rw[aT]|(simp only[i64_w,i32_w];rw[aT])|skip)
               have H':=aM H;clear H;go_wp2;go_meet
               case rel=>exact⟨_,((⟨#[32,97,110,100]⟩ :ByteArray)),rS,H',⟨by have:=HK1.out;have:=HJ24.out;have:=HK3.out;have:=HK4.out;first|omega|exact Nat.le_refl _⟩,⟨mK d⟩,⟨mK g⟩,⟨kS o _⟩,⟨cB⟩⟩
             case rest=>
              clear HC51;(try clear ai);(try clear au);(try clear aX);(try clear aY);(try clear aZ);(try clear aj);(try clear a0);(try clear a1);(try clear a2);(try clear ak);(try clear a3);(try clear a4);(try clear a5);(try clear al);(try clear a6);(try clear a7);(try clear a8);(try clear am);(try clear a9);(try clear ba);(try clear bb);(try clear an);(try clear bd);(try clear be);(try clear bf);(try clear ag);(try clear bx);(try clear cn);(try clear bG);(try clear co);(try clear bH);(try clear aD);(try clear bI);(try clear bJ);(try clear bL);(try clear ah);(try clear ao);(try clear bC);(try clear b0);(try clear aw);(try clear bX);(try clear bY);(try clear bZ);(try clear ax);(try clear cx);(try clear dE);(try clear cL);(try clear dF);(try clear cM);(try clear ay);(try clear cy);(try clear bD);(try clear cN);(try clear cO);(try clear cP);(try clear aP);(try clear cQ);(try clear cR);(try clear cS);(try clear aQ);(try clear cT);(try clear cU);(try clear cV);(try clear bF);(try clear cW);(try clear cX);(try clear cY);(try clear aR);(try clear cZ);(try clear c0);(try clear c1);(try clear aH);(try clear dd);(try clear eA);(try clear dG);(try clear eC);(try clear dH);(try clear aS);(try clear aT);(try clear de);(try clear bg bh bi bj);(try clear bo bp bq br);(try clear bO bP bQ bR);(try clear cp cq cr cs);(try clear c3 c5 c6 c8);(try clear dY dZ d0 d1 d2 d3);(try clear bk bl bm bn);(try clear bs bu bv bw);(try clear bS bT bU bV);(try clear ct cu cv cw);(try clear c9 da db dc);(try clear d4 d5 d6 d7 d8 d9);(try clear aK aL aN aO);(try clear aG);(try clear dM dN dO dP dQ dS);(try clear aE);(try clear ap);(try clear dI);(try clear aF);(try clear aq);(try clear dJ);obtain⟨kq,q,rfl,HA,HJ50,d,g,o,HB⟩:=hcut
              cases kq with
              | zero=>exact absurd HA.out (by simp[AB.j4])
              | succ kj50=>
               have H:=HA.out;clear HA;simp only[AB.j4]at H;replace H:=gC H;obtain⟨cA,H⟩:=H;have eD:=eq_true cA;have eE:decide (j.size+q.size≤9223372036854775807)=true:=decide_eq_true cA
               try have eG:(9223372036854775807<j.size+q.size)=False:=eq_false (Nat.not_lt.2 cA)
               replace H:=gC H;obtain⟨b1,H⟩:=H;have eH:=eq_true b1;have eI:decide ((j ++ q).size+5≤9223372036854775807)=true:=decide_eq_true b1
               try have eJ:(9223372036854775807<(j ++ q).size+5)=False:=eq_false (Nat.not_lt.2 b1)
               try have eK:(9223372036854775807<j.size+q.size+5)=False:=eq_false (Nat.not_lt.2 (by have h_:=b1;simp only[ByteArray.size_append]at h_;exact h_))
               replace H:=bE H;obtain⟨p,df,H⟩:=H;replace H:=gC H;obtain⟨b5,H⟩:=H;have eL:=eq_true b5;have eM:decide (((j ++ q) ++ (⟨#[32,97,114,103,32]⟩ :ByteArray)).size+p.size≤9223372036854775807)=true:=decide_eq_true b5
               try have eN:(9223372036854775807<((j ++ q) ++ (⟨#[32,97,114,103,32]⟩ :ByteArray)).size+p.size)=False:=eq_false (Nat.not_lt.2 b5)
               try have eO:(9223372036854775807<j.size+q.size+5+p.size)=False:=eq_false (Nat.not_lt.2 (by have h_:=b5;simp only[ByteArray.size_append]at h_;exact h_))
               replace H:=gC H;obtain⟨b8,H⟩:=H;have eP:=eq_true b8;have eQ:decide ((((j ++ q) ++ (⟨#[32,97,114,103,32]⟩ :ByteArray)) ++ p).size+3≤9223372036854775807)=true:=decide_eq_true b8
               try have eR:(9223372036854775807<(((j ++ q) ++ (⟨#[32,97,114,103,32]⟩ :ByteArray)) ++ p).size+3)=False:=eq_false (Nat.not_lt.2 b8)
               try have eS:(9223372036854775807<j.size+q.size+5+p.size+3)=False:=eq_false (Nat.not_lt.2 (by have h_:=b8;simp only[ByteArray.size_append]at h_;exact h_))
               replace H:=bE H;obtain⟨u,dg,H⟩:=H;replace H:=gC H;obtain⟨b9,H⟩:=H;have eU:=eq_true b9;have eW:decide (((((j ++ q) ++ (⟨#[32,97,114,103,32]⟩ :ByteArray)) ++ p) ++ (⟨#[32,38,32]⟩ :ByteArray)).size+u.size≤9223372036854775807)=true:=decide_eq_true b9
               try have eZ:(9223372036854775807<((((j ++ q) ++ (⟨#[32,97,114,103,32]⟩ :ByteArray)) ++ p) ++ (⟨#[32,38,32]⟩ :ByteArray)).size+u.size)=False:=eq_false (Nat.not_lt.2 b9)
               try have e0:(9223372036854775807<j.size+q.size+5+p.size+3+u.size)=False:=eq_false (Nat.not_lt.2 (by have h_:=b9;simp only[ByteArray.size_append]at h_;exact h_))
               replace H:=gC H;obtain⟨ca,H⟩:=H;have e1:=eq_true ca;have e2:decide ((((((j ++ q) ++ (⟨#[32,97,114,103,32]⟩ :ByteArray)) ++ p) ++ (⟨#[32,38,32]⟩ :ByteArray)) ++ u).size+1≤9223372036854775807)=true:=decide_eq_true ca
               try have e3:(9223372036854775807<(((((j ++ q) ++ (⟨#[32,97,114,103,32]⟩ :ByteArray)) ++ p) ++ (⟨#[32,38,32]⟩ :ByteArray)) ++ u).size+1)=False:=eq_false (Nat.not_lt.2 ca)
               try have e4:(9223372036854775807<j.size+q.size+5+p.size+3+u.size+1)=False:=eq_false (Nat.not_lt.2 (by have h_:=ca;simp only[ByteArray.size_append]at h_;exact h_))
               replace H:=bE H;obtain⟨D,dh,H⟩:=H;obtain⟨ji66,hji66⟩ : ∃ j_:Int,(wrap64 (((rd_T54 ((rd_T50 b c).f1) n).f2) - 1))=j_:=⟨_,rfl⟩
               (first|rw[hji66]at H|simp only[hji66]at H)
               (try rw[hji66]at df);(try rw[hji66]at dg);(try rw[hji66]at dh);have hji66w:(IntKind.i64.wrap (((rd_T54 ((rd_T50 b c).f1) n).f2) - 1))=ji66:=(i64_w _).trans hji66;replace H:=gD H;obtain⟨e5,H⟩:=H;replace H:=gD H;obtain⟨e6,H⟩:=H;replace H:=gC H;obtain⟨cb,H⟩:=H;have e7:=eq_true cb;have e8:decide (((((((j ++ q) ++ (⟨#[32,97,114,103,32]⟩ :ByteArray)) ++ p) ++ (⟨#[32,38,32]⟩ :ByteArray)) ++ u) ++ (⟨#[32]⟩ :ByteArray)).size+(rdOf ByteArray.empty D (ji66)).size≤9223372036854775807)=true:=decide_eq_true cb
               try have e9:(9223372036854775807<((((((j ++ q) ++ (⟨#[32,97,114,103,32]⟩ :ByteArray)) ++ p) ++ (⟨#[32,38,32]⟩ :ByteArray)) ++ u) ++ (⟨#[32]⟩ :ByteArray)).size+(rdOf ByteArray.empty D (ji66)).size)=False:=eq_false (Nat.not_lt.2 cb)
               try have fa:(9223372036854775807<j.size+q.size+5+p.size+3+u.size+1+(rdOf ByteArray.empty D (ji66)).size)=False:=eq_false (Nat.not_lt.2 (by have h_:=cb;simp only[ByteArray.size_append]at h_;exact h_))
               replace H:=gC H;obtain⟨cc,H⟩:=H;have fb:=eq_true cc;have fc:decide ((((((((j ++ q) ++ (⟨#[32,97,114,103,32]⟩ :ByteArray)) ++ p) ++ (⟨#[32,38,32]⟩ :ByteArray)) ++ u) ++ (⟨#[32]⟩ :ByteArray)) ++ (rdOf ByteArray.empty D (ji66))).size+1≤9223372036854775807)=true:=decide_eq_true cc
               try have fd:(9223372036854775807<(((((((j ++ q) ++ (⟨#[32,97,114,103,32]⟩ :ByteArray)) ++ p) ++ (⟨#[32,38,32]⟩ :ByteArray)) ++ u) ++ (⟨#[32]⟩ :ByteArray)) ++ (rdOf ByteArray.empty D (ji66))).size+1)=False:=eq_false (Nat.not_lt.2 cc)
               try have fe:(9223372036854775807<j.size+q.size+5+p.size+3+u.size+1+(rdOf ByteArray.empty D (ji66)).size+1)=False:=eq_false (Nat.not_lt.2 (by have h_:=cc;simp only[ByteArray.size_append]at h_;exact h_))
               replace H:=bE H;obtain⟨aB,eb,H⟩:=H;replace H:=gC H;obtain⟨cd,H⟩:=H;have ff:=eq_true cd;have fg:decide (((((((((j ++ q) ++ (⟨#[32,97,114,103,32]⟩ :ByteArray)) ++ p) ++ (⟨#[32,38,32]⟩ :ByteArray)) ++ u) ++ (⟨#[32]⟩ :ByteArray)) ++ (rdOf ByteArray.empty D (ji66))) ++ (⟨#[32]⟩ :ByteArray)).size+aB.size≤9223372036854775807)=true:=decide_eq_true cd
               try have fh:(9223372036854775807<((((((((j ++ q) ++ (⟨#[32,97,114,103,32]⟩ :ByteArray)) ++ p) ++ (⟨#[32,38,32]⟩ :ByteArray)) ++ u) ++ (⟨#[32]⟩ :ByteArray)) ++ (rdOf ByteArray.empty D (ji66))) ++ (⟨#[32]⟩ :ByteArray)).size+aB.size)=False:=eq_false (Nat.not_lt.2 cd)
               try have fi:(9223372036854775807<j.size+q.size+5+p.size+3+u.size+1+(rdOf ByteArray.empty D (ji66)).size+1+aB.size)=False:=eq_false (Nat.not_lt.2 (by have h_:=cd;simp only[ByteArray.size_append]at h_;exact h_))
               have H':=aM H;clear H
               try go_wp2
               replace d:=dB d;replace g:=dB g;replace o:=dB o;replace HB:=dW HB
               refine sZ 27 (fun w'=>w'.cell? ⟨U,0,none⟩=some (.int .i64 ((rd_T54 ((rd_T50 b c).f1) n).f0))∧w'.cell? ⟨U,1,none⟩=some (.int .i64 ((rd_T54 ((rd_T50 b c).f1) n).f1.f0))∧w'.cell? ⟨U,2,none⟩=some (.int .i64 ((rd_T54 ((rd_T50 b c).f1) n).f1.f1))∧w'.cell? ⟨U,3,none⟩=some (.int .i64 ((rd_T54 ((rd_T50 b c).f1) n).f2))∧w'.cell? ⟨U,4,none⟩=some (.int .i64 ((rd_T54 ((rd_T50 b c).f1) n).f3.f0))∧w'.cell? ⟨U,5,none⟩=some (.int .i64 ((rd_T54 ((rd_T50 b c).f1) n).f3.f1))) AB.tab23 AB.bits23 ⟨(blk_cell o.out 0).trans rfl,(blk_cell o.out 1).trans rfl,(blk_cell o.out 2).trans rfl,(blk_cell o.out 3).trans rfl,(blk_cell o.out 4).trans rfl,(blk_cell o.out 5).trans rfl⟩ fun HT_ HW_ hHeld=>?_
               generalize wc.drew=fj at d g o HB hHeld ⊢;refine pZ 0 73 1 ?_;refine pZ 1 74 3 ?_;refine pZ 2 75 7 ?_;refine pZ 3 76 15 ?_;refine pZ 4 77 31 ?_;refine pZ 9 82 543 ?_;refine pZ 15 88 33311 ?_;refine pZ 22 95 4227615 ?_;refine tZ 5 78 4227647 (y:=q7x1a) (h:=?_);refine tZ 10 83 4228671 (y:=q7x1a) (h:=?_);refine tZ 16 89 4294207 (y:=q7x1a) (h:=?_);refine pZ 17 90 4425279 ?_;refine tZ 23 96 12813887 (y:=q7x1a) (h:=?_)
               refine oZ 6 79 12813951 fun K hK=>?_
               refine eX Tryz.func19 (AS.calls df.out) ?_
               intro fk hb;replace d:=kB d hb;replace g:=kB g hb;replace o:=kB o hb;replace HB:=sB hb;clear hb
               refine hK.out _ _ qh7x1a (fun hHeld=>?_)
               clear hK K;refine normZ (some 79) ?_
               refine pZ 7 80 12814079 ?_;refine pZ 8 81 12814335 ?_
               refine oZ 11 84 12816383 fun K hK=>?_
               refine eX Tryz.func21 (A0.calls dg.out) ?_
               intro fl hb;replace d:=kB d hb;replace g:=kB g hb;replace o:=kB o hb;replace HB:=sB hb;clear hb
               refine hK.out _ _ qh7x1a (fun hHeld=>?_)
               clear hK K;refine normZ (some 84) ?_
               refine pZ 12 85 12820479 ?_;refine pZ 13 86 12828671 ?_
               refine oZ 14 87 12845055 fun K hK=>?_
               refine eY Tryz.func22 (Bj.calls dh.out) ?_
               rintro fm fn ⟨di,hb⟩;have ce:=rL di;replace d:=kB d hb;replace g:=kB g hb;replace o:=kB o hb;replace HB:=sB hb;(try clear hb);(try clear di);obtain⟨fo,fp,dj⟩:=R_slice ce.out
               (first|subst dj|(injection dj with f1_ f2_ f3_;have f4_:=f1_.symm;have f5_:=f3_.symm;clear f1_ f2_ f3_;subst f4_;subst f5_))
               have cD:0≤((ji66):Int):=dA;have cE:(ji66)<(D.length:Int):=dA;obtain⟨ec,ed,dk⟩:=at_string (R_reads' ce.out).2.2 (ji66) cD cE;cases ed;replace cD:=eq_true cD;replace cE:=eq_true cE
               refine hK.out _ _ qh7x1a (fun hHeld=>?_)
               clear hK K;refine normZ (some 87) ?_
               refine re_ (fun w'=>w'.cell? ⟨U,0,none⟩=some (.int .i64 ((rd_T54 ((rd_T50 b c).f1) n).f0))∧w'.cell? ⟨U,1,none⟩=some (.int .i64 ((rd_T54 ((rd_T50 b c).f1) n).f1.f0))∧w'.cell? ⟨U,2,none⟩=some (.int .i64 ((rd_T54 ((rd_T50 b c).f1) n).f1.f1))∧w'.cell? ⟨U,3,none⟩=some (.int .i64 ((rd_T54 ((rd_T50 b c).f1) n).f2))∧w'.cell? ⟨U,4,none⟩=some (.int .i64 ((rd_T54 ((rd_T50 b c).f1) n).f3.f0))∧w'.cell? ⟨U,5,none⟩=some (.int .i64 ((rd_T54 ((rd_T50 b c).f1) n).f3.f1))∧w'.cell? (ec.add ((ji66)).toNat)=some (.string (rdOf ByteArray.empty D (ji66)))) (fun w' h=>⟨h.1,h.2.1,h.2.2.1,h.2.2.2.1,h.2.2.2.2.1,h.2.2.2.2.2.1⟩) ⟨hHeld.1,hHeld.2.1,hHeld.2.2.1,hHeld.2.2.2.1,hHeld.2.2.2.2.1,hHeld.2.2.2.2.2,dk⟩ ?_;replace hHeld:=(⟨hHeld.1,hHeld.2.1,hHeld.2.2.1,hHeld.2.2.2.1,hHeld.2.2.2.2.1,hHeld.2.2.2.2.2,dk⟩ :_∧_∧_∧_∧_∧_∧_)
               refine pZ 18 91 13107199 ?_;refine tZ 19 92 13631487 (y:=q7x1) (h:=?_);refine pZ 20 93 14680063 ?_;refine pZ 21 94 16777215 ?_
               refine oZ 24 97 33554431 fun K hK=>?_
               refine goE Tryz.func21 #[.agg #[.int .i64 ((rd_T54 ((rd_T50 b c).f1) n).f3.f0),.int .i64 ((rd_T54 ((rd_T50 b c).f1) n).f3.f1)]] ?_
               with_reducible refine(A0.calls eb.out).mono ?_;rintro e fq ⟨rfl,hb⟩;have HS6_:=(hb.cell (World.block_lt_of_cell? _ _ (hHeld.2.2.2.2.2.2))).trans (hHeld.2.2.2.2.2.2);refine⟨_,rfl,?_⟩;replace ce:=rB ce hb;replace d:=kB d hb;replace g:=kB g hb;replace o:=kB o hb;replace HB:=sB hb;clear hb
               refine hK.out _ _ qh7x1 (fun hHeld=>?_)
               clear hK K;refine normZ (some 97) ?_
               refine pZ 25 98 67108863 ?_;refine pZ 26 4 134217727 ?_
               refine done_ (done_of HT_.out (by kernel_rfl)) ?_
               try go_wp2
               go_roundg kj50
               case measure=>have:=HK1.out;have:=HJ24.out;have:=HK3.out;have:=HK4.out;have:=HJ50.out;omega
               case rel=>exact⟨(((((((((j ++ q) ++ (⟨#[32,97,114,103,32]⟩ :ByteArray)) ++ p) ++ (⟨#[32,38,32]⟩ :ByteArray)) ++ u) ++ (⟨#[32]⟩ :ByteArray)) ++ (rdOf ByteArray.empty D (ji66))) ++ (⟨#[32]⟩ :ByteArray)) ++ aB),(wrap64 (n+1)),(by first|rfl|(simp;done)|(simp only[← hji66] <;> (first|rfl|simp))|(simp[*];done)),rS,H',⟨by have:=HK1.out;have:=HJ24.out;have:=HK3.out;have:=HK4.out;have:=HJ50.out;omega⟩,⟨mK d⟩,⟨mK g⟩,⟨cB⟩⟩
            ·rw[if_neg aH]at H;have dd:=decide_eq_false aH;clear aH;replace H:=gC H;obtain⟨cF,H⟩:=H;have fr:=eq_true cF;have fs:decide (j.size+4≤9223372036854775807)=true:=decide_eq_true cF
             try have ft:(9223372036854775807<j.size+4)=False:=eq_false (Nat.not_lt.2 cF)
             replace H:=bE H;obtain⟨x,ee,H⟩:=H;replace H:=gC H;obtain⟨cf,H⟩:=H;have fu:=eq_true cf;have fv:decide ((j ++ (⟨#[32,100,111,32]⟩ :ByteArray)).size+x.size≤9223372036854775807)=true:=decide_eq_true cf
             try have fw:(9223372036854775807<(j ++ (⟨#[32,100,111,32]⟩ :ByteArray)).size+x.size)=False:=eq_false (Nat.not_lt.2 cf)
             try have fx:(9223372036854775807<j.size+4+x.size)=False:=eq_false (Nat.not_lt.2 (by have h_:=cf;simp only[ByteArray.size_append]at h_;exact h_))
             replace H:=gC H;obtain⟨cg,H⟩:=H;have fy:=eq_true cg;have fz:decide (((j ++ (⟨#[32,100,111,32]⟩ :ByteArray)) ++ x).size+1≤9223372036854775807)=true:=decide_eq_true cg
             try have fA:(9223372036854775807<((j ++ (⟨#[32,100,111,32]⟩ :ByteArray)) ++ x).size+1)=False:=eq_false (Nat.not_lt.2 cg)
             try have fB:(9223372036854775807<j.size+4+x.size+1)=False:=eq_false (Nat.not_lt.2 (by have h_:=cg;simp only[ByteArray.size_append]at h_;exact h_))
             replace H:=bE H;obtain⟨ab,ef,H⟩:=H;replace H:=gC H;obtain⟨ch,H⟩:=H;have fC:=eq_true ch;have fD:decide ((((j ++ (⟨#[32,100,111,32]⟩ :ByteArray)) ++ x) ++ (⟨#[32]⟩ :ByteArray)).size+ab.size≤9223372036854775807)=true:=decide_eq_true ch
             try have fE:(9223372036854775807<(((j ++ (⟨#[32,100,111,32]⟩ :ByteArray)) ++ x) ++ (⟨#[32]⟩ :ByteArray)).size+ab.size)=False:=eq_false (Nat.not_lt.2 ch)
             try have fF:(9223372036854775807<j.size+4+x.size+1+ab.size)=False:=eq_false (Nat.not_lt.2 (by have h_:=ch;simp only[ByteArray.size_append]at h_;exact h_))
             replace H:=gC H;obtain⟨ci,H⟩:=H;have fG:=eq_true ci;have fH:decide (((((j ++ (⟨#[32,100,111,32]⟩ :ByteArray)) ++ x) ++ (⟨#[32]⟩ :ByteArray)) ++ ab).size+2≤9223372036854775807)=true:=decide_eq_true ci
             try have fI:(9223372036854775807<((((j ++ (⟨#[32,100,111,32]⟩ :ByteArray)) ++ x) ++ (⟨#[32]⟩ :ByteArray)) ++ ab).size+2)=False:=eq_false (Nat.not_lt.2 ci)
             try have fJ:(9223372036854775807<j.size+4+x.size+1+ab.size+2)=False:=eq_false (Nat.not_lt.2 (by have h_:=ci;simp only[ByteArray.size_append]at h_;exact h_))
             have H':=aM H;clear H
             try go_wp2
             replace d:=dB d;replace g:=dB g;replace HB:=dW HB
             refine sZ 13 (fun w'=>w'.cell? ⟨av,0,none⟩=some (.slice bz ((rd_T50 b c).f0).length bA)∧w'.cell? ⟨av,1,none⟩=some (.slice bN ((rd_T50 b c).f1).length bB)∧w'.cell? ⟨av,2,none⟩=some (.int .i64 ((rd_T50 b c).f2))∧w'.cell? ⟨av,3,none⟩=some (.int .i64 ((rd_T50 b c).f3))) AB.tab25 AB.bits25 qh7x2 fun HT_ HW_ hHeld=>?_
             generalize wr.drew=fK at d g HB hHeld ⊢;refine pZ 0 100 1 ?_;refine pZ 1 101 3 ?_;refine pZ 2 102 7 ?_;refine pZ 7 107 135 ?_;refine tZ 3 103 143 (y:=q7x0) (h:=?_);refine tZ 8 108 399 (y:=q7x0) (h:=?_)
             refine oZ 4 104 415 fun K hK=>?_
             refine eX Tryz.func20 (BO.calls ee.out) ?_
             intro fL hb;replace d:=kB d hb;replace g:=kB g hb;replace HB:=sB hb;clear hb
             refine hK.out _ _ qh7x2 (fun hHeld=>?_)
             clear hK K;refine normZ (some 104) ?_
             refine pZ 5 105 447 ?_;refine pZ 6 106 511 ?_
             refine oZ 9 109 1023 fun K hK=>?_
             refine eX Tryz.func19 (AS.calls ef.out) ?_
             intro fM hb;replace d:=kB d hb;replace g:=kB g hb;replace HB:=sB hb;clear hb
             refine hK.out _ _ qh7x2 (fun hHeld=>?_)
             clear hK K;refine normZ (some 109) ?_
             refine pZ 10 110 2047 ?_;refine pZ 11 111 4095 ?_;refine pZ 12 4 8191 ?_
             refine done_ (done_of HT_.out (by kernel_rfl)) ?_
             try go_wp2
             go_roundg k4
             case measure=>have:=HK1.out;have:=HJ24.out;have:=HK3.out;have:=HK4.out;omega
             case rel=>exact⟨(((((j ++ (⟨#[32,100,111,32]⟩ :ByteArray)) ++ x) ++ (⟨#[32]⟩ :ByteArray)) ++ ab) ++ (⟨#[32,59]⟩ :ByteArray)),(wrap64 (c+1)),rS,rS,H',⟨by have:=HK1.out;have:=HJ24.out;have:=HK3.out;have:=HK4.out;omega⟩,⟨mK d⟩,⟨cB⟩⟩
    ·rw[if_neg ag]at H;have bx:=decide_eq_false ag;clear ag;by_cases aU:(I.size:Int)>1200
     ·rw[if_pos aU]at H;have eg:decide (1200<(I.size:Int))=true:=decide_eq_true aU
      have eh:decide (1200<I.size)=true:=decide_eq_true (by omega)
      clear aU;simp only[Option.some.injEq,Prod.mk.injEq]at H;obtain⟨rfl,rfl⟩:=H;go_wp2;go_ret2;exact⟨rE,cB⟩
     ·rw[if_neg aU]at H;have eg:decide (1200<(I.size:Int))=false:=decide_eq_false aU
      have eh:decide (1200<I.size)=false:=decide_eq_false (by omega)
      clear aU;simp only[Option.some.injEq,Prod.mk.injEq]at H;obtain⟨rfl,rfl⟩:=H;go_wp2;go_ret2;exact⟨rE,cB⟩
 ·replace ai:=Bool.eq_false_iff.mpr ai;subst ai;replace H:=iF H;simp only[Option.some.injEq,Prod.mk.injEq]at H;obtain⟨rfl,rfl⟩:=H;go_enter Tryz.func6,Tryz.ntmps6
  go_wp2_with (first|((with_reducible refine gN 1 ?_);refine boxZ 1 #[.int .i64 L,.int .i64 M,.int .i64 O,.slice aJ b.length ae] 26 ?_;intro af hg fN hbox hb;have d:=aM hbox;have GW307:=gS hg;have GE307:=gS hg;replace HB:=sB hb;clear hb hbox hg;obtain⟨fO,fP,fS,fT,fU,fV,fW,fX⟩:=cz4 d)|((with_reducible refine gF 18 ?_);refine gX (some 13) Tryz.func18 (Ax.calls cJ.out (cH HR0_3) HC0_3.out) ?_;intro fY hb;replace d:=kB d hb;replace HB:=sB hb;clear hb))
  go_ret2;exact⟨rE,cB⟩
end Go.Proofs.YtfhjjfibblcklaaGreat.PFnPolicies
