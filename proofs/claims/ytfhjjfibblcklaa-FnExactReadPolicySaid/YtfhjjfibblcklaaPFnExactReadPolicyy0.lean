import Derived.Test.YtfhjjfibblcklaaProg
import Derived.Below
import Derived.Deep.Draws
import Derived.Deep.AppendLies
import Derived.Maps.AppendAt
import Derived.OwnWalk
import Derived.Laws.BytesArg
import Derived.Laws.MakeOwn
import Derived.Laws.OwnMore
import Derived.Deep.OwnRows
import Derived.Tactics
import Derived.Lib.ConvBytes
import Derived.Laws.Slices
import Derived.WalkKit
import Derived.KernelRfl
import Derived.RowKit3
import Derived.Deep.LoopGhost
import Derived.Deep.QuietTactic
import Derived.BigQuiet
import Derived.WideLaws
import Derived.Deep.DeepCutAuto
import Derived.Deep.CutBlock
import Derived.Deep.RegionHeld3
import Derived.Laws.Rows
import Derived.Lib.AppendStr
import Derived.ArgAppend
import Derived.Laws.IdiomCopy
import Derived.OrdersHeld
import Derived.Laws.BitsLemmas
import Derived.RowKit
import Derived.Test.YtfhjjfibblcklaaVWWords
import Derived.Test.YtfhjjfibblcklaaVWLast
import Derived.Test.YtfhjjfibblcklaaVWTab
import Derived.Test.YtfhjjfibblcklaaVWFour
import Derived.Test.YtfhjjfibblcklaaVWQPut
import Derived.Test.YtfhjjfibblcklaaVWApart
import Derived.Test.YtfhjjfibblcklaaVWArr
import Derived.Test.YtfhjjfibblcklaaVWZeros
import Derived.Test.YtfhjjfibblcklaaVWFoot
import Derived.Test.YtfhjjfibblcklaaVWKept
import Derived.Test.YtfhjjfibblcklaaVWShare
import Derived.Test.YtfhjjfibblcklaaVWN
import Derived.Test.YtfhjjfibblcklaaVWFootNe
import Derived.Test.YtfhjjfibblcklaaVWAt
import Derived.Test.YtfhjjfibblcklaaVWEqStruct
import Derived.Test.YtfhjjfibblcklaaVWRepsOne
import Derived.Test.YtfhjjfibblcklaaVWInv
import Derived.Test.YtfhjjfibblcklaaVWInvWords
import Derived.Test.YtfhjjfibblcklaaVWGuard
import Derived.Test.YtfhjjfibblcklaaVWNEv
import Derived.Test.YtfhjjfibblcklaaVWMore
import Derived.Test.YtfhjjfibblcklaaVZ
namespace Go.Proofs.Ytfhjjfibblcklaa.PFnExactReadPolicy
open Go.RowKit Go.Proofs.YtfhjjfibblcklaaW.PrintWords Go.Proofs.YtfhjjfibblcklaaW.PrintLast Go.Proofs.YtfhjjfibblcklaaW.PrintMore Go.Proofs.YtfhjjfibblcklaaW.Z
open Kd
attribute [local go_sem] isS max2_int min2_int max_two min_two max_three min_three max_four min_four
set_option linter.unusedVariables false
set_option linter.unusedSimpArgs false
def errW:Option Int→Value
  | none=> .nilIface
  | some c=> .iface 0 (.int .i64 c)
theorem errW_none:errW none= .nilIface:=rfl
theorem errW_some (c:Int):errW (some c)= .iface 0 (.int .i64 c):=rfl
theorem info3:(Try.prog.info? 3).map (fun i=>(i.zero,i.size,i.bytes))=some (some (.int .i64 0),1,8):=by kernel_rfl
theorem info9:(Try.prog.info? 9).map (fun i=>(i.zero,i.size,i.bytes))=some (some (.string ⟨#[]⟩),1,16):=by kernel_rfl
theorem info43:(Try.prog.info? 43).map (fun i=>(i.zero,i.size,i.bytes))=some (some (.agg #[(.slice none 0 0),(.slice none 0 0),(.int .i64 0),(.int .i64 0)]),4,64):=by kernel_rfl
theorem info54:(Try.prog.info? 54).map (fun i=>(i.zero,i.size,i.bytes))=some (some (.agg #[(.int .i64 0),(.string ⟨#[]⟩),(.int .i64 0)]),3,32):=by kernel_rfl
theorem info66:(Try.prog.info? 66).map (fun i=>(i.zero,i.size,i.bytes))=some (some (.agg #[(.int .i64 0),(.int .i64 0),(.int .i64 0),(.int .i64 0),(.int .i64 0),(.int .i64 0)]),6,48):=by kernel_rfl
structure S54 where
  f0:Int
  f1:ByteArray
  f2:Int
def z54:S54:=⟨(0:Int),(⟨#[]⟩ :ByteArray),(0:Int)⟩
def k54:Kd S54:=Kd.iso (Kd.pair (Kd.int .i64) (Kd.pair Kd.string (Kd.int .i64))) (fun x:S54=>(x.f0,x.f1,x.f2))
theorem k54_open {w:World} {x:S54} {cs:List Value} (h:k54.K w x cs):cs= [.int .i64 x.f0,.string x.f1,.int .i64 x.f2]:=by
  obtain⟨_,_,rfl,rfl,⟨_,_,rfl,rfl,rfl⟩⟩:=h
  exact rfl
theorem k54_openM {w:World} {base:Nat} {ok:Nat→Prop} {x:S54} {cs:List Value} (h:k54.M w base ok x cs):cs= [.int .i64 x.f0,.string x.f1,.int .i64 x.f2]:=by
  obtain⟨_,_,rfl,rfl,⟨_,_,rfl,rfl,rfl⟩⟩:=h
  exact rfl
theorem k54_mk (w:World) (x:S54)  :k54.K w x [.int .i64 x.f0,.string x.f1,.int .i64 x.f2]:=⟨[.int .i64 x.f0],[.string x.f1,.int .i64 x.f2],rfl,rfl,⟨[.string x.f1],[.int .i64 x.f2],rfl,rfl,rfl⟩⟩
theorem k54_mkM (w:World) (base:Nat) (ok:Nat→Prop) (x:S54)  :k54.M w base ok x [.int .i64 x.f0,.string x.f1,.int .i64 x.f2]:=⟨[.int .i64 x.f0],[.string x.f1,.int .i64 x.f2],rfl,rfl,⟨[.string x.f1],[.int .i64 x.f2],rfl,rfl,rfl⟩⟩
def rd_T54 (xs:List S54) (i:Int):S54:=xs.getD i.toNat z54
theorem at_T54 {w:World} {A:Option Addr} {n:Nat} {xs:List S54} (h:Kd.C k54 w A n xs) (i:Int) (h0:0≤i) (h1:i<n): ∃ ad,A=some ad∧w.cell? (ad.add (i.toNat*3))=some (.int .i64 (rd_T54 xs i).f0)∧w.cell? ⟨(ad.add (i.toNat*3)).block,(ad.add (i.toNat*3)).off+1,none⟩=some (.string (rd_T54 xs i).f1)∧w.cell? ⟨(ad.add (i.toNat*3)).block,(ad.add (i.toNat*3)).off+2,none⟩=some (.int .i64 (rd_T54 xs i).f2):=by
  obtain⟨ad,c,e,_,hK,g⟩:=C_get h z54 i h0 h1
  have hc: ∀ j u,c[j]?=some u→w.cell? (ad.add (i.toNat*3+j))=some u:=g
  obtain rfl:=k54_open hK
  exact⟨ad,e,hc 0 _ rfl,by rw[← add_field _ _ 1 (by omega)];exact hc 1 _ rfl,by rw[← add_field _ _ 2 (by omega)];exact hc 2 _ rfl⟩
structure S64 where
  f0:Int
  f1:Int
def z64:S64:=⟨(0:Int),(0:Int)⟩
def k64:Kd S64:=Kd.iso (Kd.pair (Kd.int .i64) (Kd.int .i64)) (fun x:S64=>(x.f0,x.f1))
theorem k64_open {w:World} {x:S64} {cs:List Value} (h:k64.K w x cs):cs= [.int .i64 x.f0,.int .i64 x.f1]:=by
  obtain⟨_,_,rfl,rfl,rfl⟩:=h
  exact rfl
theorem k64_openM {w:World} {base:Nat} {ok:Nat→Prop} {x:S64} {cs:List Value} (h:k64.M w base ok x cs):cs= [.int .i64 x.f0,.int .i64 x.f1]:=by
  obtain⟨_,_,rfl,rfl,rfl⟩:=h
  exact rfl
theorem k64_mk (w:World) (x:S64)  :k64.K w x [.int .i64 x.f0,.int .i64 x.f1]:=⟨[.int .i64 x.f0],[.int .i64 x.f1],rfl,rfl,rfl⟩
theorem k64_mkM (w:World) (base:Nat) (ok:Nat→Prop) (x:S64)  :k64.M w base ok x [.int .i64 x.f0,.int .i64 x.f1]:=⟨[.int .i64 x.f0],[.int .i64 x.f1],rfl,rfl,rfl⟩
def rd_T64 (xs:List S64) (i:Int):S64:=xs.getD i.toNat z64
theorem at_T64 {w:World} {A:Option Addr} {n:Nat} {xs:List S64} (h:Kd.C k64 w A n xs) (i:Int) (h0:0≤i) (h1:i<n): ∃ ad,A=some ad∧w.cell? (ad.add (i.toNat*2))=some (.int .i64 (rd_T64 xs i).f0)∧w.cell? ⟨(ad.add (i.toNat*2)).block,(ad.add (i.toNat*2)).off+1,none⟩=some (.int .i64 (rd_T64 xs i).f1):=by
  obtain⟨ad,c,e,_,hK,g⟩:=C_get h z64 i h0 h1
  have hc: ∀ j u,c[j]?=some u→w.cell? (ad.add (i.toNat*2+j))=some u:=g
  obtain rfl:=k64_open hK
  exact⟨ad,e,hc 0 _ rfl,by rw[← add_field _ _ 1 (by omega)];exact hc 1 _ rfl⟩
structure S66 where
  f0:Int
  f1:S64
  f2:Int
  f3:S64
def z66:S66:=⟨(0:Int),z64,(0:Int),z64⟩
def k66:Kd S66:=Kd.iso (Kd.pair (Kd.int .i64) (Kd.pair k64 (Kd.pair (Kd.int .i64) k64))) (fun x:S66=>(x.f0,x.f1,x.f2,x.f3))
theorem k66_open {w:World} {x:S66} {cs:List Value} (h:k66.K w x cs):cs= [.int .i64 x.f0,.int .i64 x.f1.f0,.int .i64 x.f1.f1,.int .i64 x.f2,.int .i64 x.f3.f0,.int .i64 x.f3.f1]:=by
  obtain⟨_,_,rfl,rfl,⟨_,_,rfl,s1,⟨_,_,rfl,rfl,s4⟩⟩⟩:=h
  obtain rfl:=k64_open s1
  obtain rfl:=k64_open s4
  exact rfl
theorem k66_openM {w:World} {base:Nat} {ok:Nat→Prop} {x:S66} {cs:List Value} (h:k66.M w base ok x cs):cs= [.int .i64 x.f0,.int .i64 x.f1.f0,.int .i64 x.f1.f1,.int .i64 x.f2,.int .i64 x.f3.f0,.int .i64 x.f3.f1]:=by
  obtain⟨_,_,rfl,rfl,⟨_,_,rfl,s1,⟨_,_,rfl,rfl,s4⟩⟩⟩:=h
  obtain rfl:=k64_openM s1
  obtain rfl:=k64_openM s4
  exact rfl
theorem k66_mk (w:World) (x:S66)  :k66.K w x [.int .i64 x.f0,.int .i64 x.f1.f0,.int .i64 x.f1.f1,.int .i64 x.f2,.int .i64 x.f3.f0,.int .i64 x.f3.f1]:=⟨[.int .i64 x.f0],[.int .i64 x.f1.f0,.int .i64 x.f1.f1,.int .i64 x.f2,.int .i64 x.f3.f0,.int .i64 x.f3.f1],rfl,rfl,⟨[.int .i64 x.f1.f0,.int .i64 x.f1.f1],[.int .i64 x.f2,.int .i64 x.f3.f0,.int .i64 x.f3.f1],rfl,(k64_mk w x.f1),⟨[.int .i64 x.f2],[.int .i64 x.f3.f0,.int .i64 x.f3.f1],rfl,rfl,(k64_mk w x.f3)⟩⟩⟩
theorem k66_mkM (w:World) (base:Nat) (ok:Nat→Prop) (x:S66)  :k66.M w base ok x [.int .i64 x.f0,.int .i64 x.f1.f0,.int .i64 x.f1.f1,.int .i64 x.f2,.int .i64 x.f3.f0,.int .i64 x.f3.f1]:=⟨[.int .i64 x.f0],[.int .i64 x.f1.f0,.int .i64 x.f1.f1,.int .i64 x.f2,.int .i64 x.f3.f0,.int .i64 x.f3.f1],rfl,rfl,⟨[.int .i64 x.f1.f0,.int .i64 x.f1.f1],[.int .i64 x.f2,.int .i64 x.f3.f0,.int .i64 x.f3.f1],rfl,(k64_mkM w base ok x.f1),⟨[.int .i64 x.f2],[.int .i64 x.f3.f0,.int .i64 x.f3.f1],rfl,rfl,(k64_mkM w base ok x.f3)⟩⟩⟩
def rd_T66 (xs:List S66) (i:Int):S66:=xs.getD i.toNat z66
theorem at_T66 {w:World} {A:Option Addr} {n:Nat} {xs:List S66} (h:Kd.C k66 w A n xs) (i:Int) (h0:0≤i) (h1:i<n): ∃ ad,A=some ad∧w.cell? (ad.add (i.toNat*6))=some (.int .i64 (rd_T66 xs i).f0)∧w.cell? ⟨(ad.add (i.toNat*6)).block,(ad.add (i.toNat*6)).off+1,none⟩=some (.int .i64 (rd_T66 xs i).f1.f0)∧w.cell? ⟨(ad.add (i.toNat*6)).block,(ad.add (i.toNat*6)).off+2,none⟩=some (.int .i64 (rd_T66 xs i).f1.f1)∧w.cell? ⟨(ad.add (i.toNat*6)).block,(ad.add (i.toNat*6)).off+3,none⟩=some (.int .i64 (rd_T66 xs i).f2)∧w.cell? ⟨(ad.add (i.toNat*6)).block,(ad.add (i.toNat*6)).off+4,none⟩=some (.int .i64 (rd_T66 xs i).f3.f0)∧w.cell? ⟨(ad.add (i.toNat*6)).block,(ad.add (i.toNat*6)).off+5,none⟩=some (.int .i64 (rd_T66 xs i).f3.f1):=by
  obtain⟨ad,c,e,_,hK,g⟩:=C_get h z66 i h0 h1
  have hc: ∀ j u,c[j]?=some u→w.cell? (ad.add (i.toNat*6+j))=some u:=g
  obtain rfl:=k66_open hK
  exact⟨ad,e,hc 0 _ rfl,by rw[← add_field _ _ 1 (by omega)];exact hc 1 _ rfl,by rw[← add_field _ _ 2 (by omega)];exact hc 2 _ rfl,by rw[← add_field _ _ 3 (by omega)];exact hc 3 _ rfl,by rw[← add_field _ _ 4 (by omega)];exact hc 4 _ rfl,by rw[← add_field _ _ 5 (by omega)];exact hc 5 _ rfl⟩
def rd_L5 (xs:List (List Int)) (i:Int):(List Int):=xs.getD i.toNat ([] :List Int)
theorem at_L5 {w:World} {A:Option Addr} {n:Nat} {xs:List (List Int)} (h:Kd.C (Kd.slice 3 (Kd.int .i64)) w A n xs) (i:Int) (h0:0≤i) (h1:i<n): ∃ ad a b,A=some ad∧w.cell? (ad.add i.toNat)=some (.slice a (rd_L5 xs i).length b)∧(rd_L5 xs i).length≤b∧(Kd.int .i64).C w a (rd_L5 xs i).length (rd_L5 xs i):=by
  obtain⟨ad,c,e,_,hK,g⟩:=C_get h ([] :List Int) i h0 h1
  have hc: ∀ j u,c[j]?=some u→w.cell? (ad.add (i.toNat*1+j))=some u:=g
  obtain⟨a,b,rfl,m,g0⟩:=hK
  exact⟨ad,a,b,e,by have hq:=hc 0 _ rfl;rwa [Nat.mul_one,Nat.add_zero]at hq,m,g0⟩
def rd_L6 (xs:List (List S66)) (i:Int):(List S66):=xs.getD i.toNat ([] :List S66)
theorem at_L6 {w:World} {A:Option Addr} {n:Nat} {xs:List (List S66)} (h:Kd.C (Kd.slice 66 k66) w A n xs) (i:Int) (h0:0≤i) (h1:i<n): ∃ ad a b,A=some ad∧w.cell? (ad.add i.toNat)=some (.slice a (rd_L6 xs i).length b)∧(rd_L6 xs i).length≤b∧k66.C w a (rd_L6 xs i).length (rd_L6 xs i):=by
  obtain⟨ad,c,e,_,hK,g⟩:=C_get h ([] :List S66) i h0 h1
  have hc: ∀ j u,c[j]?=some u→w.cell? (ad.add (i.toNat*1+j))=some u:=g
  obtain⟨a,b,rfl,m,g0⟩:=hK
  exact⟨ad,a,b,e,by have hq:=hc 0 _ rfl;rwa [Nat.mul_one,Nat.add_zero]at hq,m,g0⟩
structure S43 where
  f0:(List Int)
  f1:(List S66)
  f2:Int
  f3:Int
def z43:S43:=⟨([] :List Int),([] :List S66),(0:Int),(0:Int)⟩
def k43:Kd S43:=Kd.iso (Kd.pair (Kd.slice 3 (Kd.int .i64)) (Kd.pair (Kd.slice 66 k66) (Kd.pair (Kd.int .i64) (Kd.int .i64)))) (fun x:S43=>(x.f0,x.f1,x.f2,x.f3))
theorem k43_open {w:World} {x:S43} {cs:List Value} (h:k43.K w x cs): ∃ a b k l,cs= [.slice a x.f0.length b,.slice k x.f1.length l,.int .i64 x.f2,.int .i64 x.f3]∧x.f0.length≤b∧(Kd.int .i64).C w a x.f0.length x.f0∧x.f1.length≤l∧k66.C w k x.f1.length x.f1:=by
  obtain⟨_,_,rfl,⟨a,b,rfl,m,g0⟩,⟨_,_,rfl,⟨k,l,rfl,r,g1⟩,⟨_,_,rfl,rfl,rfl⟩⟩⟩:=h
  exact⟨a,b,k,l,rfl,m,g0,r,g1⟩
theorem k43_openM {w:World} {base:Nat} {ok:Nat→Prop} {x:S43} {cs:List Value} (h:k43.M w base ok x cs): ∃ q p,cs= [q,p,.int .i64 x.f2,.int .i64 x.f3]∧(Kd.int .i64).R 3 w base ok q x.f0∧k66.R 66 w base ok p x.f1:=by
  obtain⟨_,_,rfl,⟨q,rfl,g0⟩,⟨_,_,rfl,⟨p,rfl,g1⟩,⟨_,_,rfl,rfl,rfl⟩⟩⟩:=h
  exact⟨q,p,rfl,g0,g1⟩
theorem k43_mk (w:World) (x:S43) {a:Option Addr} {b:Nat} (m:x.f0.length≤b) (g0:(Kd.int .i64).C w a x.f0.length x.f0) {k:Option Addr} {l:Nat} (r:x.f1.length≤l) (g1:k66.C w k x.f1.length x.f1):k43.K w x [.slice a x.f0.length b,.slice k x.f1.length l,.int .i64 x.f2,.int .i64 x.f3]:=⟨[.slice a x.f0.length b],[.slice k x.f1.length l,.int .i64 x.f2,.int .i64 x.f3],rfl,⟨a,b,rfl,m,g0⟩,⟨[.slice k x.f1.length l],[.int .i64 x.f2,.int .i64 x.f3],rfl,⟨k,l,rfl,r,g1⟩,⟨[.int .i64 x.f2],[.int .i64 x.f3],rfl,rfl,rfl⟩⟩⟩
theorem k43_mkM (w:World) (base:Nat) (ok:Nat→Prop) (x:S43) {q:Value} (g0:(Kd.int .i64).R 3 w base ok q x.f0) {p:Value} (g1:k66.R 66 w base ok p x.f1):k43.M w base ok x [q,p,.int .i64 x.f2,.int .i64 x.f3]:=⟨[q],[p,.int .i64 x.f2,.int .i64 x.f3],rfl,⟨q,rfl,g0⟩,⟨[p],[.int .i64 x.f2,.int .i64 x.f3],rfl,⟨p,rfl,g1⟩,⟨[.int .i64 x.f2],[.int .i64 x.f3],rfl,rfl,rfl⟩⟩⟩
def rd_T43 (xs:List S43) (i:Int):S43:=xs.getD i.toNat z43
theorem at_T43 {w:World} {A:Option Addr} {n:Nat} {xs:List S43} (h:Kd.C k43 w A n xs) (i:Int) (h0:0≤i) (h1:i<n): ∃ ad a b k l,A=some ad∧w.cell? (ad.add (i.toNat*4))=some (.slice a (rd_T43 xs i).f0.length b)∧w.cell? ⟨(ad.add (i.toNat*4)).block,(ad.add (i.toNat*4)).off+1,none⟩=some (.slice k (rd_T43 xs i).f1.length l)∧w.cell? ⟨(ad.add (i.toNat*4)).block,(ad.add (i.toNat*4)).off+2,none⟩=some (.int .i64 (rd_T43 xs i).f2)∧w.cell? ⟨(ad.add (i.toNat*4)).block,(ad.add (i.toNat*4)).off+3,none⟩=some (.int .i64 (rd_T43 xs i).f3)∧(rd_T43 xs i).f0.length≤b∧(Kd.int .i64).C w a (rd_T43 xs i).f0.length (rd_T43 xs i).f0∧(rd_T43 xs i).f1.length≤l∧k66.C w k (rd_T43 xs i).f1.length (rd_T43 xs i).f1:=by
  obtain⟨ad,c,e,_,hK,g⟩:=C_get h z43 i h0 h1
  have hc: ∀ j u,c[j]?=some u→w.cell? (ad.add (i.toNat*4+j))=some u:=g
  obtain⟨a,b,k,l,rfl,m,g0,r,g1⟩:=k43_open hK
  exact⟨ad,a,b,k,l,e,hc 0 _ rfl,by rw[← add_field _ _ 1 (by omega)];exact hc 1 _ rfl,by rw[← add_field _ _ 2 (by omega)];exact hc 2 _ rfl,by rw[← add_field _ _ 3 (by omega)];exact hc 3 _ rfl,m,g0,r,g1⟩
def rd_L8 (xs:List (List S43)) (i:Int):(List S43):=xs.getD i.toNat ([] :List S43)
theorem at_L8 {w:World} {A:Option Addr} {n:Nat} {xs:List (List S43)} (h:Kd.C (Kd.slice 43 k43) w A n xs) (i:Int) (h0:0≤i) (h1:i<n): ∃ ad a b,A=some ad∧w.cell? (ad.add i.toNat)=some (.slice a (rd_L8 xs i).length b)∧(rd_L8 xs i).length≤b∧k43.C w a (rd_L8 xs i).length (rd_L8 xs i):=by
  obtain⟨ad,c,e,_,hK,g⟩:=C_get h ([] :List S43) i h0 h1
  have hc: ∀ j u,c[j]?=some u→w.cell? (ad.add (i.toNat*1+j))=some u:=g
  obtain⟨a,b,rfl,m,g0⟩:=hK
  exact⟨ad,a,b,e,by have hq:=hc 0 _ rfl;rwa [Nat.mul_one,Nat.add_zero]at hq,m,g0⟩
structure S24 where
  f0:Int
  f1:Int
  f2:Int
  f3:(List S43)
def z24:S24:=⟨(0:Int),(0:Int),(0:Int),([] :List S43)⟩
def k24:Kd S24:=Kd.iso (Kd.pair (Kd.int .i64) (Kd.pair (Kd.int .i64) (Kd.pair (Kd.int .i64) (Kd.slice 43 k43)))) (fun x:S24=>(x.f0,x.f1,x.f2,x.f3))
theorem k24_open {w:World} {x:S24} {cs:List Value} (h:k24.K w x cs): ∃ d f,cs= [.int .i64 x.f0,.int .i64 x.f1,.int .i64 x.f2,.slice d x.f3.length f]∧x.f3.length≤f∧k43.C w d x.f3.length x.f3:=by
  obtain⟨_,_,rfl,rfl,⟨_,_,rfl,rfl,⟨_,_,rfl,rfl,⟨d,f,rfl,s,g3⟩⟩⟩⟩:=h
  exact⟨d,f,rfl,s,g3⟩
theorem k24_openM {w:World} {base:Nat} {ok:Nat→Prop} {x:S24} {cs:List Value} (h:k24.M w base ok x cs): ∃ o,cs= [.int .i64 x.f0,.int .i64 x.f1,.int .i64 x.f2,o]∧k43.R 43 w base ok o x.f3:=by
  obtain⟨_,_,rfl,rfl,⟨_,_,rfl,rfl,⟨_,_,rfl,rfl,⟨o,rfl,g3⟩⟩⟩⟩:=h
  exact⟨o,rfl,g3⟩
theorem k24_mk (w:World) (x:S24) {d:Option Addr} {f:Nat} (s:x.f3.length≤f) (g3:k43.C w d x.f3.length x.f3):k24.K w x [.int .i64 x.f0,.int .i64 x.f1,.int .i64 x.f2,.slice d x.f3.length f]:=⟨[.int .i64 x.f0],[.int .i64 x.f1,.int .i64 x.f2,.slice d x.f3.length f],rfl,rfl,⟨[.int .i64 x.f1],[.int .i64 x.f2,.slice d x.f3.length f],rfl,rfl,⟨[.int .i64 x.f2],[.slice d x.f3.length f],rfl,rfl,⟨d,f,rfl,s,g3⟩⟩⟩⟩
theorem k24_mkM (w:World) (base:Nat) (ok:Nat→Prop) (x:S24) {o:Value} (g3:k43.R 43 w base ok o x.f3):k24.M w base ok x [.int .i64 x.f0,.int .i64 x.f1,.int .i64 x.f2,o]:=⟨[.int .i64 x.f0],[.int .i64 x.f1,.int .i64 x.f2,o],rfl,rfl,⟨[.int .i64 x.f1],[.int .i64 x.f2,o],rfl,rfl,⟨[.int .i64 x.f2],[o],rfl,rfl,⟨o,rfl,g3⟩⟩⟩⟩
def rd_T24 (xs:List S24) (i:Int):S24:=xs.getD i.toNat z24
theorem at_T24 {w:World} {A:Option Addr} {n:Nat} {xs:List S24} (h:Kd.C k24 w A n xs) (i:Int) (h0:0≤i) (h1:i<n): ∃ ad d f,A=some ad∧w.cell? (ad.add (i.toNat*4))=some (.int .i64 (rd_T24 xs i).f0)∧w.cell? ⟨(ad.add (i.toNat*4)).block,(ad.add (i.toNat*4)).off+1,none⟩=some (.int .i64 (rd_T24 xs i).f1)∧w.cell? ⟨(ad.add (i.toNat*4)).block,(ad.add (i.toNat*4)).off+2,none⟩=some (.int .i64 (rd_T24 xs i).f2)∧w.cell? ⟨(ad.add (i.toNat*4)).block,(ad.add (i.toNat*4)).off+3,none⟩=some (.slice d (rd_T24 xs i).f3.length f)∧(rd_T24 xs i).f3.length≤f∧k43.C w d (rd_T24 xs i).f3.length (rd_T24 xs i).f3:=by
  obtain⟨ad,c,e,_,hK,g⟩:=C_get h z24 i h0 h1
  have hc: ∀ j u,c[j]?=some u→w.cell? (ad.add (i.toNat*4+j))=some u:=g
  obtain⟨d,f,rfl,s,g3⟩:=k24_open hK
  exact⟨ad,d,f,e,hc 0 _ rfl,by rw[← add_field _ _ 1 (by omega)];exact hc 1 _ rfl,by rw[← add_field _ _ 2 (by omega)];exact hc 2 _ rfl,by rw[← add_field _ _ 3 (by omega)];exact hc 3 _ rfl,s,g3⟩
theorem rE {P:Prop} (h:P:=by first|rfl|(simp[errW_none,errW_some] <;> rfl)|(simp[*,errW_none,errW_some] <;> rfl)):P:=h
end Go.Proofs.Ytfhjjfibblcklaa.PFnExactReadPolicy
