import Derived.Test.YtpbalojiaghfhaaGreatProg
import Derived.Below
import Derived.Deep.Draws
import Derived.Deep.AppendLies
import Derived.Maps.AppendAt
import Derived.OwnWalk
import Derived.Laws.BytesArg
import Derived.Laws.MakeOwn
import Derived.Laws.OwnMore
import Derived.Deep.OwnRows
import Derived.Tactics
import Derived.Lib.ConvBytes
import Derived.Laws.Slices
import Derived.WalkKit
import Derived.KernelRfl
import Derived.RowKit3
import Derived.Deep.LoopGhost
import Derived.Deep.QuietTactic
import Derived.BigQuiet
import Derived.WideLaws
import Derived.Deep.DeepCutAuto
import Derived.Deep.CutBlock
import Derived.Deep.RegionHeld3
import Derived.Laws.Rows
import Derived.Lib.AppendStr
import Derived.ArgAppend
import Derived.Laws.IdiomCopy
import Derived.OrdersHeld
import Derived.Laws.BitsLemmas
import Derived.RowKit
import Derived.Test.YtpbalojiaghfhaaGreatVWWords
import Derived.Test.YtpbalojiaghfhaaGreatVWLast
import Derived.Test.YtpbalojiaghfhaaGreatVWTab
import Derived.Test.YtpbalojiaghfhaaGreatVWFour
import Derived.Test.YtpbalojiaghfhaaGreatVWQPut
import Derived.Test.YtpbalojiaghfhaaGreatVWApart
import Derived.Test.YtpbalojiaghfhaaGreatVWArr
import Derived.Test.YtpbalojiaghfhaaGreatVWZeros
import Derived.Test.YtpbalojiaghfhaaGreatVWFoot
import Derived.Test.YtpbalojiaghfhaaGreatVWKept
import Derived.Test.YtpbalojiaghfhaaGreatVWShare
import Derived.Test.YtpbalojiaghfhaaGreatVWN
import Derived.Test.YtpbalojiaghfhaaGreatVWFootNe
import Derived.Test.YtpbalojiaghfhaaGreatVWAt
import Derived.Test.YtpbalojiaghfhaaGreatVWEqStruct
import Derived.Test.YtpbalojiaghfhaaGreatVWRepsOne
import Derived.Test.YtpbalojiaghfhaaGreatVWInv
import Derived.Test.YtpbalojiaghfhaaGreatVWInvWords
import Derived.Test.YtpbalojiaghfhaaGreatVWGuard
import Derived.Test.YtpbalojiaghfhaaGreatVWNEv
import Derived.Test.YtpbalojiaghfhaaGreatVWMore
import Derived.Test.YtpbalojiaghfhaaGreatVZ
namespace Go.Proofs.YtpbalojiaghfhaaGreat.PFnCompilesTold
open Go.RowKit Go.Proofs.YtpbalojiaghfhaaGreatW.PrintWords Go.Proofs.YtpbalojiaghfhaaGreatW.PrintLast Go.Proofs.YtpbalojiaghfhaaGreatW.PrintMore Go.Proofs.YtpbalojiaghfhaaGreatW.Z
open Kd
attribute [local go_sem] isS max2_int min2_int max_two min_two max_three min_three max_four min_four
set_option linter.unusedVariables false
set_option linter.unusedSimpArgs false
def errW:Option Int→Value
  | none=> .nilIface
  | some c=> .iface 0 (.int .i64 c)
theorem errW_none:errW none= .nilIface:=rfl
theorem errW_some (c:Int):errW (some c)= .iface 0 (.int .i64 c):=rfl
theorem info3:(Tryz.prog.info? 3).map (fun i=>(i.zero,i.size,i.bytes))=some (some (.int .i64 0),1,8):=by kernel_rfl
theorem info5:(Tryz.prog.info? 5).map (fun i=>(i.zero,i.size,i.bytes))=some (some (.int .u8 0),1,1):=by kernel_rfl
theorem info71:(Tryz.prog.info? 71).map (fun i=>(i.zero,i.size,i.bytes))=some (some (.agg #[(.int .i64 0),(.int .i64 0),(.int .i64 0),(.int .i64 0)]),4,32):=by kernel_rfl
theorem info78:(Tryz.prog.info? 78).map (fun i=>(i.zero,i.size,i.bytes))=some (some (.agg #[(.slice none 0 0),(.slice none 0 0),(.int .i64 0),(.int .i64 0)]),4,64):=by kernel_rfl
theorem info86:(Tryz.prog.info? 86).map (fun i=>(i.zero,i.size,i.bytes))=some (some (.agg #[(.string ⟨#[]⟩),(.int .i64 0),(.int .i64 0),(.int .i64 0),(.int .i64 0),(.string ⟨#[]⟩),(.string ⟨#[]⟩)]),7,80):=by kernel_rfl
theorem info118:(Tryz.prog.info? 118).map (fun i=>(i.zero,i.size,i.bytes))=some (some (.agg #[(.int .i64 0),(.int .i64 0),(.int .i64 0),(.int .i64 0),(.int .i64 0),(.int .i64 0)]),6,48):=by kernel_rfl
structure S71 where
  f0:Int
  f1:Int
  f2:Int
  f3:Int
def z71:S71:=⟨(0:Int),(0:Int),(0:Int),(0:Int)⟩
def k71:Kd S71:=Kd.iso (Kd.pair (Kd.int .i64) (Kd.pair (Kd.int .i64) (Kd.pair (Kd.int .i64) (Kd.int .i64)))) (fun x:S71=>(x.f0,x.f1,x.f2,x.f3))
theorem k71_open {w:World} {x:S71} {cs:List Value} (h:k71.K w x cs):cs= [.int .i64 x.f0,.int .i64 x.f1,.int .i64 x.f2,.int .i64 x.f3]:=by
  obtain⟨_,_,rfl,rfl,⟨_,_,rfl,rfl,⟨_,_,rfl,rfl,rfl⟩⟩⟩:=h
  exact rfl
theorem k71_openM {w:World} {base:Nat} {ok:Nat→Prop} {x:S71} {cs:List Value} (h:k71.M w base ok x cs):cs= [.int .i64 x.f0,.int .i64 x.f1,.int .i64 x.f2,.int .i64 x.f3]:=by
  obtain⟨_,_,rfl,rfl,⟨_,_,rfl,rfl,⟨_,_,rfl,rfl,rfl⟩⟩⟩:=h
  exact rfl
theorem k71_mk (w:World) (x:S71)  :k71.K w x [.int .i64 x.f0,.int .i64 x.f1,.int .i64 x.f2,.int .i64 x.f3]:=⟨[.int .i64 x.f0],[.int .i64 x.f1,.int .i64 x.f2,.int .i64 x.f3],rfl,rfl,⟨[.int .i64 x.f1],[.int .i64 x.f2,.int .i64 x.f3],rfl,rfl,⟨[.int .i64 x.f2],[.int .i64 x.f3],rfl,rfl,rfl⟩⟩⟩
theorem k71_mkM (w:World) (base:Nat) (ok:Nat→Prop) (x:S71)  :k71.M w base ok x [.int .i64 x.f0,.int .i64 x.f1,.int .i64 x.f2,.int .i64 x.f3]:=⟨[.int .i64 x.f0],[.int .i64 x.f1,.int .i64 x.f2,.int .i64 x.f3],rfl,rfl,⟨[.int .i64 x.f1],[.int .i64 x.f2,.int .i64 x.f3],rfl,rfl,⟨[.int .i64 x.f2],[.int .i64 x.f3],rfl,rfl,rfl⟩⟩⟩
def rd_T71 (xs:List S71) (i:Int):S71:=xs.getD i.toNat z71
theorem at_T71 {w:World} {A:Option Addr} {n:Nat} {xs:List S71} (h:Kd.C k71 w A n xs) (i:Int) (h0:0≤i) (h1:i<n): ∃ ad,A=some ad∧w.cell? (ad.add (i.toNat*4))=some (.int .i64 (rd_T71 xs i).f0)∧w.cell? ⟨(ad.add (i.toNat*4)).block,(ad.add (i.toNat*4)).off+1,none⟩=some (.int .i64 (rd_T71 xs i).f1)∧w.cell? ⟨(ad.add (i.toNat*4)).block,(ad.add (i.toNat*4)).off+2,none⟩=some (.int .i64 (rd_T71 xs i).f2)∧w.cell? ⟨(ad.add (i.toNat*4)).block,(ad.add (i.toNat*4)).off+3,none⟩=some (.int .i64 (rd_T71 xs i).f3):=by
  obtain⟨ad,c,e,_,hK,g⟩:=C_get h z71 i h0 h1
  have hc: ∀ j u,c[j]?=some u→w.cell? (ad.add (i.toNat*4+j))=some u:=g
  obtain rfl:=k71_open hK
  exact⟨ad,e,hc 0 _ rfl,by rw[← add_field _ _ 1 (by omega)];exact hc 1 _ rfl,by rw[← add_field _ _ 2 (by omega)];exact hc 2 _ rfl,by rw[← add_field _ _ 3 (by omega)];exact hc 3 _ rfl⟩
structure S86 where
  f0:ByteArray
  f1:S71
  f2:ByteArray
  f3:ByteArray
def z86:S86:=⟨(⟨#[]⟩ :ByteArray),z71,(⟨#[]⟩ :ByteArray),(⟨#[]⟩ :ByteArray)⟩
def k86:Kd S86:=Kd.iso (Kd.pair Kd.string (Kd.pair k71 (Kd.pair Kd.string Kd.string))) (fun x:S86=>(x.f0,x.f1,x.f2,x.f3))
theorem k86_open {w:World} {x:S86} {cs:List Value} (h:k86.K w x cs):cs= [.string x.f0,.int .i64 x.f1.f0,.int .i64 x.f1.f1,.int .i64 x.f1.f2,.int .i64 x.f1.f3,.string x.f2,.string x.f3]:=by
  obtain⟨_,_,rfl,rfl,⟨_,_,rfl,s1,⟨_,_,rfl,rfl,rfl⟩⟩⟩:=h
  obtain rfl:=k71_open s1
  exact rfl
theorem k86_openM {w:World} {base:Nat} {ok:Nat→Prop} {x:S86} {cs:List Value} (h:k86.M w base ok x cs):cs= [.string x.f0,.int .i64 x.f1.f0,.int .i64 x.f1.f1,.int .i64 x.f1.f2,.int .i64 x.f1.f3,.string x.f2,.string x.f3]:=by
  obtain⟨_,_,rfl,rfl,⟨_,_,rfl,s1,⟨_,_,rfl,rfl,rfl⟩⟩⟩:=h
  obtain rfl:=k71_openM s1
  exact rfl
theorem k86_mk (w:World) (x:S86)  :k86.K w x [.string x.f0,.int .i64 x.f1.f0,.int .i64 x.f1.f1,.int .i64 x.f1.f2,.int .i64 x.f1.f3,.string x.f2,.string x.f3]:=⟨[.string x.f0],[.int .i64 x.f1.f0,.int .i64 x.f1.f1,.int .i64 x.f1.f2,.int .i64 x.f1.f3,.string x.f2,.string x.f3],rfl,rfl,⟨[.int .i64 x.f1.f0,.int .i64 x.f1.f1,.int .i64 x.f1.f2,.int .i64 x.f1.f3],[.string x.f2,.string x.f3],rfl,(k71_mk w x.f1),⟨[.string x.f2],[.string x.f3],rfl,rfl,rfl⟩⟩⟩
theorem k86_mkM (w:World) (base:Nat) (ok:Nat→Prop) (x:S86)  :k86.M w base ok x [.string x.f0,.int .i64 x.f1.f0,.int .i64 x.f1.f1,.int .i64 x.f1.f2,.int .i64 x.f1.f3,.string x.f2,.string x.f3]:=⟨[.string x.f0],[.int .i64 x.f1.f0,.int .i64 x.f1.f1,.int .i64 x.f1.f2,.int .i64 x.f1.f3,.string x.f2,.string x.f3],rfl,rfl,⟨[.int .i64 x.f1.f0,.int .i64 x.f1.f1,.int .i64 x.f1.f2,.int .i64 x.f1.f3],[.string x.f2,.string x.f3],rfl,(k71_mkM w base ok x.f1),⟨[.string x.f2],[.string x.f3],rfl,rfl,rfl⟩⟩⟩
def rd_T86 (xs:List S86) (i:Int):S86:=xs.getD i.toNat z86
theorem at_T86 {w:World} {A:Option Addr} {n:Nat} {xs:List S86} (h:Kd.C k86 w A n xs) (i:Int) (h0:0≤i) (h1:i<n): ∃ ad,A=some ad∧w.cell? (ad.add (i.toNat*7))=some (.string (rd_T86 xs i).f0)∧w.cell? ⟨(ad.add (i.toNat*7)).block,(ad.add (i.toNat*7)).off+1,none⟩=some (.int .i64 (rd_T86 xs i).f1.f0)∧w.cell? ⟨(ad.add (i.toNat*7)).block,(ad.add (i.toNat*7)).off+2,none⟩=some (.int .i64 (rd_T86 xs i).f1.f1)∧w.cell? ⟨(ad.add (i.toNat*7)).block,(ad.add (i.toNat*7)).off+3,none⟩=some (.int .i64 (rd_T86 xs i).f1.f2)∧w.cell? ⟨(ad.add (i.toNat*7)).block,(ad.add (i.toNat*7)).off+4,none⟩=some (.int .i64 (rd_T86 xs i).f1.f3)∧w.cell? ⟨(ad.add (i.toNat*7)).block,(ad.add (i.toNat*7)).off+5,none⟩=some (.string (rd_T86 xs i).f2)∧w.cell? ⟨(ad.add (i.toNat*7)).block,(ad.add (i.toNat*7)).off+6,none⟩=some (.string (rd_T86 xs i).f3):=by
  obtain⟨ad,c,e,_,hK,g⟩:=C_get h z86 i h0 h1
  have hc: ∀ j u,c[j]?=some u→w.cell? (ad.add (i.toNat*7+j))=some u:=g
  obtain rfl:=k86_open hK
  exact⟨ad,e,hc 0 _ rfl,by rw[← add_field _ _ 1 (by omega)];exact hc 1 _ rfl,by rw[← add_field _ _ 2 (by omega)];exact hc 2 _ rfl,by rw[← add_field _ _ 3 (by omega)];exact hc 3 _ rfl,by rw[← add_field _ _ 4 (by omega)];exact hc 4 _ rfl,by rw[← add_field _ _ 5 (by omega)];exact hc 5 _ rfl,by rw[← add_field _ _ 6 (by omega)];exact hc 6 _ rfl⟩
structure S105 where
  f0:Int
  f1:Int
def z105:S105:=⟨(0:Int),(0:Int)⟩
def k105:Kd S105:=Kd.iso (Kd.pair (Kd.int .i64) (Kd.int .i64)) (fun x:S105=>(x.f0,x.f1))
theorem k105_open {w:World} {x:S105} {cs:List Value} (h:k105.K w x cs):cs= [.int .i64 x.f0,.int .i64 x.f1]:=by
  obtain⟨_,_,rfl,rfl,rfl⟩:=h
  exact rfl
theorem k105_openM {w:World} {base:Nat} {ok:Nat→Prop} {x:S105} {cs:List Value} (h:k105.M w base ok x cs):cs= [.int .i64 x.f0,.int .i64 x.f1]:=by
  obtain⟨_,_,rfl,rfl,rfl⟩:=h
  exact rfl
theorem k105_mk (w:World) (x:S105)  :k105.K w x [.int .i64 x.f0,.int .i64 x.f1]:=⟨[.int .i64 x.f0],[.int .i64 x.f1],rfl,rfl,rfl⟩
theorem k105_mkM (w:World) (base:Nat) (ok:Nat→Prop) (x:S105)  :k105.M w base ok x [.int .i64 x.f0,.int .i64 x.f1]:=⟨[.int .i64 x.f0],[.int .i64 x.f1],rfl,rfl,rfl⟩
def rd_T105 (xs:List S105) (i:Int):S105:=xs.getD i.toNat z105
theorem at_T105 {w:World} {A:Option Addr} {n:Nat} {xs:List S105} (h:Kd.C k105 w A n xs) (i:Int) (h0:0≤i) (h1:i<n): ∃ ad,A=some ad∧w.cell? (ad.add (i.toNat*2))=some (.int .i64 (rd_T105 xs i).f0)∧w.cell? ⟨(ad.add (i.toNat*2)).block,(ad.add (i.toNat*2)).off+1,none⟩=some (.int .i64 (rd_T105 xs i).f1):=by
  obtain⟨ad,c,e,_,hK,g⟩:=C_get h z105 i h0 h1
  have hc: ∀ j u,c[j]?=some u→w.cell? (ad.add (i.toNat*2+j))=some u:=g
  obtain rfl:=k105_open hK
  exact⟨ad,e,hc 0 _ rfl,by rw[← add_field _ _ 1 (by omega)];exact hc 1 _ rfl⟩
structure S118 where
  f0:Int
  f1:S105
  f2:Int
  f3:S105
def z118:S118:=⟨(0:Int),z105,(0:Int),z105⟩
def k118:Kd S118:=Kd.iso (Kd.pair (Kd.int .i64) (Kd.pair k105 (Kd.pair (Kd.int .i64) k105))) (fun x:S118=>(x.f0,x.f1,x.f2,x.f3))
theorem k118_open {w:World} {x:S118} {cs:List Value} (h:k118.K w x cs):cs= [.int .i64 x.f0,.int .i64 x.f1.f0,.int .i64 x.f1.f1,.int .i64 x.f2,.int .i64 x.f3.f0,.int .i64 x.f3.f1]:=by
  obtain⟨_,_,rfl,rfl,⟨_,_,rfl,s1,⟨_,_,rfl,rfl,s4⟩⟩⟩:=h
  obtain rfl:=k105_open s1
  obtain rfl:=k105_open s4
  exact rfl
theorem k118_openM {w:World} {base:Nat} {ok:Nat→Prop} {x:S118} {cs:List Value} (h:k118.M w base ok x cs):cs= [.int .i64 x.f0,.int .i64 x.f1.f0,.int .i64 x.f1.f1,.int .i64 x.f2,.int .i64 x.f3.f0,.int .i64 x.f3.f1]:=by
  obtain⟨_,_,rfl,rfl,⟨_,_,rfl,s1,⟨_,_,rfl,rfl,s4⟩⟩⟩:=h
  obtain rfl:=k105_openM s1
  obtain rfl:=k105_openM s4
  exact rfl
theorem k118_mk (w:World) (x:S118)  :k118.K w x [.int .i64 x.f0,.int .i64 x.f1.f0,.int .i64 x.f1.f1,.int .i64 x.f2,.int .i64 x.f3.f0,.int .i64 x.f3.f1]:=⟨[.int .i64 x.f0],[.int .i64 x.f1.f0,.int .i64 x.f1.f1,.int .i64 x.f2,.int .i64 x.f3.f0,.int .i64 x.f3.f1],rfl,rfl,⟨[.int .i64 x.f1.f0,.int .i64 x.f1.f1],[.int .i64 x.f2,.int .i64 x.f3.f0,.int .i64 x.f3.f1],rfl,(k105_mk w x.f1),⟨[.int .i64 x.f2],[.int .i64 x.f3.f0,.int .i64 x.f3.f1],rfl,rfl,(k105_mk w x.f3)⟩⟩⟩
theorem k118_mkM (w:World) (base:Nat) (ok:Nat→Prop) (x:S118)  :k118.M w base ok x [.int .i64 x.f0,.int .i64 x.f1.f0,.int .i64 x.f1.f1,.int .i64 x.f2,.int .i64 x.f3.f0,.int .i64 x.f3.f1]:=⟨[.int .i64 x.f0],[.int .i64 x.f1.f0,.int .i64 x.f1.f1,.int .i64 x.f2,.int .i64 x.f3.f0,.int .i64 x.f3.f1],rfl,rfl,⟨[.int .i64 x.f1.f0,.int .i64 x.f1.f1],[.int .i64 x.f2,.int .i64 x.f3.f0,.int .i64 x.f3.f1],rfl,(k105_mkM w base ok x.f1),⟨[.int .i64 x.f2],[.int .i64 x.f3.f0,.int .i64 x.f3.f1],rfl,rfl,(k105_mkM w base ok x.f3)⟩⟩⟩
def rd_T118 (xs:List S118) (i:Int):S118:=xs.getD i.toNat z118
theorem at_T118 {w:World} {A:Option Addr} {n:Nat} {xs:List S118} (h:Kd.C k118 w A n xs) (i:Int) (h0:0≤i) (h1:i<n): ∃ ad,A=some ad∧w.cell? (ad.add (i.toNat*6))=some (.int .i64 (rd_T118 xs i).f0)∧w.cell? ⟨(ad.add (i.toNat*6)).block,(ad.add (i.toNat*6)).off+1,none⟩=some (.int .i64 (rd_T118 xs i).f1.f0)∧w.cell? ⟨(ad.add (i.toNat*6)).block,(ad.add (i.toNat*6)).off+2,none⟩=some (.int .i64 (rd_T118 xs i).f1.f1)∧w.cell? ⟨(ad.add (i.toNat*6)).block,(ad.add (i.toNat*6)).off+3,none⟩=some (.int .i64 (rd_T118 xs i).f2)∧w.cell? ⟨(ad.add (i.toNat*6)).block,(ad.add (i.toNat*6)).off+4,none⟩=some (.int .i64 (rd_T118 xs i).f3.f0)∧w.cell? ⟨(ad.add (i.toNat*6)).block,(ad.add (i.toNat*6)).off+5,none⟩=some (.int .i64 (rd_T118 xs i).f3.f1):=by
  obtain⟨ad,c,e,_,hK,g⟩:=C_get h z118 i h0 h1
  have hc: ∀ j u,c[j]?=some u→w.cell? (ad.add (i.toNat*6+j))=some u:=g
  obtain rfl:=k118_open hK
  exact⟨ad,e,hc 0 _ rfl,by rw[← add_field _ _ 1 (by omega)];exact hc 1 _ rfl,by rw[← add_field _ _ 2 (by omega)];exact hc 2 _ rfl,by rw[← add_field _ _ 3 (by omega)];exact hc 3 _ rfl,by rw[← add_field _ _ 4 (by omega)];exact hc 4 _ rfl,by rw[← add_field _ _ 5 (by omega)];exact hc 5 _ rfl⟩
def rd_L7 (xs:List (List Int)) (i:Int):(List Int):=xs.getD i.toNat ([] :List Int)
theorem at_L7 {w:World} {A:Option Addr} {n:Nat} {xs:List (List Int)} (h:Kd.C (Kd.slice 3 (Kd.int .i64)) w A n xs) (i:Int) (h0:0≤i) (h1:i<n): ∃ ad a b,A=some ad∧w.cell? (ad.add i.toNat)=some (.slice a (rd_L7 xs i).length b)∧(rd_L7 xs i).length≤b∧(Kd.int .i64).C w a (rd_L7 xs i).length (rd_L7 xs i):=by
  obtain⟨ad,c,e,_,hK,g⟩:=C_get h ([] :List Int) i h0 h1
  have hc: ∀ j u,c[j]?=some u→w.cell? (ad.add (i.toNat*1+j))=some u:=g
  obtain⟨a,b,rfl,l,g0⟩:=hK
  exact⟨ad,a,b,e,by have hq:=hc 0 _ rfl;rwa [Nat.mul_one,Nat.add_zero]at hq,l,g0⟩
def rd_L8 (xs:List (List S118)) (i:Int):(List S118):=xs.getD i.toNat ([] :List S118)
theorem at_L8 {w:World} {A:Option Addr} {n:Nat} {xs:List (List S118)} (h:Kd.C (Kd.slice 118 k118) w A n xs) (i:Int) (h0:0≤i) (h1:i<n): ∃ ad a b,A=some ad∧w.cell? (ad.add i.toNat)=some (.slice a (rd_L8 xs i).length b)∧(rd_L8 xs i).length≤b∧k118.C w a (rd_L8 xs i).length (rd_L8 xs i):=by
  obtain⟨ad,c,e,_,hK,g⟩:=C_get h ([] :List S118) i h0 h1
  have hc: ∀ j u,c[j]?=some u→w.cell? (ad.add (i.toNat*1+j))=some u:=g
  obtain⟨a,b,rfl,l,g0⟩:=hK
  exact⟨ad,a,b,e,by have hq:=hc 0 _ rfl;rwa [Nat.mul_one,Nat.add_zero]at hq,l,g0⟩
structure S78 where
  f0:(List Int)
  f1:(List S118)
  f2:Int
  f3:Int
def z78:S78:=⟨([] :List Int),([] :List S118),(0:Int),(0:Int)⟩
def k78:Kd S78:=Kd.iso (Kd.pair (Kd.slice 3 (Kd.int .i64)) (Kd.pair (Kd.slice 118 k118) (Kd.pair (Kd.int .i64) (Kd.int .i64)))) (fun x:S78=>(x.f0,x.f1,x.f2,x.f3))
theorem k78_open {w:World} {x:S78} {cs:List Value} (h:k78.K w x cs): ∃ a b d f,cs= [.slice a x.f0.length b,.slice d x.f1.length f,.int .i64 x.f2,.int .i64 x.f3]∧x.f0.length≤b∧(Kd.int .i64).C w a x.f0.length x.f0∧x.f1.length≤f∧k118.C w d x.f1.length x.f1:=by
  obtain⟨_,_,rfl,⟨a,b,rfl,l,g0⟩,⟨_,_,rfl,⟨d,f,rfl,o,g1⟩,⟨_,_,rfl,rfl,rfl⟩⟩⟩:=h
  exact⟨a,b,d,f,rfl,l,g0,o,g1⟩
theorem k78_openM {w:World} {base:Nat} {ok:Nat→Prop} {x:S78} {cs:List Value} (h:k78.M w base ok x cs): ∃ m k,cs= [m,k,.int .i64 x.f2,.int .i64 x.f3]∧(Kd.int .i64).R 3 w base ok m x.f0∧k118.R 118 w base ok k x.f1:=by
  obtain⟨_,_,rfl,⟨m,rfl,g0⟩,⟨_,_,rfl,⟨k,rfl,g1⟩,⟨_,_,rfl,rfl,rfl⟩⟩⟩:=h
  exact⟨m,k,rfl,g0,g1⟩
theorem k78_mk (w:World) (x:S78) {a:Option Addr} {b:Nat} (l:x.f0.length≤b) (g0:(Kd.int .i64).C w a x.f0.length x.f0) {d:Option Addr} {f:Nat} (o:x.f1.length≤f) (g1:k118.C w d x.f1.length x.f1):k78.K w x [.slice a x.f0.length b,.slice d x.f1.length f,.int .i64 x.f2,.int .i64 x.f3]:=⟨[.slice a x.f0.length b],[.slice d x.f1.length f,.int .i64 x.f2,.int .i64 x.f3],rfl,⟨a,b,rfl,l,g0⟩,⟨[.slice d x.f1.length f],[.int .i64 x.f2,.int .i64 x.f3],rfl,⟨d,f,rfl,o,g1⟩,⟨[.int .i64 x.f2],[.int .i64 x.f3],rfl,rfl,rfl⟩⟩⟩
theorem k78_mkM (w:World) (base:Nat) (ok:Nat→Prop) (x:S78) {m:Value} (g0:(Kd.int .i64).R 3 w base ok m x.f0) {k:Value} (g1:k118.R 118 w base ok k x.f1):k78.M w base ok x [m,k,.int .i64 x.f2,.int .i64 x.f3]:=⟨[m],[k,.int .i64 x.f2,.int .i64 x.f3],rfl,⟨m,rfl,g0⟩,⟨[k],[.int .i64 x.f2,.int .i64 x.f3],rfl,⟨k,rfl,g1⟩,⟨[.int .i64 x.f2],[.int .i64 x.f3],rfl,rfl,rfl⟩⟩⟩
def rd_T78 (xs:List S78) (i:Int):S78:=xs.getD i.toNat z78
theorem at_T78 {w:World} {A:Option Addr} {n:Nat} {xs:List S78} (h:Kd.C k78 w A n xs) (i:Int) (h0:0≤i) (h1:i<n): ∃ ad a b d f,A=some ad∧w.cell? (ad.add (i.toNat*4))=some (.slice a (rd_T78 xs i).f0.length b)∧w.cell? ⟨(ad.add (i.toNat*4)).block,(ad.add (i.toNat*4)).off+1,none⟩=some (.slice d (rd_T78 xs i).f1.length f)∧w.cell? ⟨(ad.add (i.toNat*4)).block,(ad.add (i.toNat*4)).off+2,none⟩=some (.int .i64 (rd_T78 xs i).f2)∧w.cell? ⟨(ad.add (i.toNat*4)).block,(ad.add (i.toNat*4)).off+3,none⟩=some (.int .i64 (rd_T78 xs i).f3)∧(rd_T78 xs i).f0.length≤b∧(Kd.int .i64).C w a (rd_T78 xs i).f0.length (rd_T78 xs i).f0∧(rd_T78 xs i).f1.length≤f∧k118.C w d (rd_T78 xs i).f1.length (rd_T78 xs i).f1:=by
  obtain⟨ad,c,e,_,hK,g⟩:=C_get h z78 i h0 h1
  have hc: ∀ j u,c[j]?=some u→w.cell? (ad.add (i.toNat*4+j))=some u:=g
  obtain⟨a,b,d,f,rfl,l,g0,o,g1⟩:=k78_open hK
  exact⟨ad,a,b,d,f,e,hc 0 _ rfl,by rw[← add_field _ _ 1 (by omega)];exact hc 1 _ rfl,by rw[← add_field _ _ 2 (by omega)];exact hc 2 _ rfl,by rw[← add_field _ _ 3 (by omega)];exact hc 3 _ rfl,l,g0,o,g1⟩
theorem rE {P:Prop} (h:P:=by first|rfl|(simp[errW_none,errW_some] <;> rfl)|(simp[*,errW_none,errW_some] <;> rfl)):P:=h
end Go.Proofs.YtpbalojiaghfhaaGreat.PFnCompilesTold
