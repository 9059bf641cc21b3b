import Derived.Test.YtpbalojiaghfhaaProg
import Derived.Below
import Derived.Deep.Draws
import Derived.Deep.AppendLies
import Derived.Maps.AppendAt
import Derived.OwnWalk
import Derived.Laws.BytesArg
import Derived.Laws.MakeOwn
import Derived.Laws.OwnMore
import Derived.Deep.OwnRows
import Derived.Tactics
import Derived.Lib.ConvBytes
import Derived.Laws.Slices
import Derived.WalkKit
import Derived.KernelRfl
import Derived.RowKit3
import Derived.Deep.LoopGhost
import Derived.Deep.QuietTactic
import Derived.BigQuiet
import Derived.WideLaws
import Derived.Deep.DeepCutAuto
import Derived.Deep.CutBlock
import Derived.Deep.RegionHeld3
import Derived.Laws.Rows
import Derived.Lib.AppendStr
import Derived.ArgAppend
import Derived.Laws.IdiomCopy
import Derived.OrdersHeld
import Derived.Laws.BitsLemmas
import Derived.RowKit
import Derived.Test.YtpbalojiaghfhaaVWWords
import Derived.Test.YtpbalojiaghfhaaVWLast
import Derived.Test.YtpbalojiaghfhaaVWTab
import Derived.Test.YtpbalojiaghfhaaVWFour
import Derived.Test.YtpbalojiaghfhaaVWQPut
import Derived.Test.YtpbalojiaghfhaaVWApart
import Derived.Test.YtpbalojiaghfhaaVWArr
import Derived.Test.YtpbalojiaghfhaaVWZeros
import Derived.Test.YtpbalojiaghfhaaVWFoot
import Derived.Test.YtpbalojiaghfhaaVWKept
import Derived.Test.YtpbalojiaghfhaaVWShare
import Derived.Test.YtpbalojiaghfhaaVWN
import Derived.Test.YtpbalojiaghfhaaVWFootNe
import Derived.Test.YtpbalojiaghfhaaVWAt
import Derived.Test.YtpbalojiaghfhaaVWEqStruct
import Derived.Test.YtpbalojiaghfhaaVWRepsOne
import Derived.Test.YtpbalojiaghfhaaVWInv
import Derived.Test.YtpbalojiaghfhaaVWInvWords
import Derived.Test.YtpbalojiaghfhaaVWGuard
import Derived.Test.YtpbalojiaghfhaaVWNEv
import Derived.Test.YtpbalojiaghfhaaVWMore
import Derived.Test.YtpbalojiaghfhaaVZ
namespace Go.Proofs.Ytpbalojiaghfhaa.PFnStacks
open Go.RowKit Go.Proofs.YtpbalojiaghfhaaW.PrintWords Go.Proofs.YtpbalojiaghfhaaW.PrintLast Go.Proofs.YtpbalojiaghfhaaW.PrintMore Go.Proofs.YtpbalojiaghfhaaW.Z
open Kd
attribute [local go_sem] isS max2_int min2_int max_two min_two max_three min_three max_four min_four
set_option linter.unusedVariables false
set_option linter.unusedSimpArgs false
def errW:Option Int→Value
  | none=> .nilIface
  | some c=> .iface 0 (.int .i64 c)
theorem errW_none:errW none= .nilIface:=rfl
theorem errW_some (c:Int):errW (some c)= .iface 0 (.int .i64 c):=rfl
theorem info3:(Try.prog.info? 3).map (fun i=>(i.zero,i.size,i.bytes))=some (some (.int .i64 0),1,8):=by kernel_rfl
theorem info5:(Try.prog.info? 5).map (fun i=>(i.zero,i.size,i.bytes))=some (some (.int .u8 0),1,1):=by kernel_rfl
theorem info24:(Try.prog.info? 24).map (fun i=>(i.zero,i.size,i.bytes))=some (some (.slice none 0 0),1,24):=by kernel_rfl
theorem info34:(Try.prog.info? 34).map (fun i=>(i.zero,i.size,i.bytes))=some (some (.agg #[(.int .i64 0),(.int .i64 0),(.int .i64 0),(.int .i64 0)]),4,32):=by kernel_rfl
theorem info81:(Try.prog.info? 81).map (fun i=>(i.zero,i.size,i.bytes))=some (some (.agg #[(.slice none 0 0),(.slice none 0 0),(.int .i64 0),(.int .i64 0)]),4,64):=by kernel_rfl
theorem info93:(Try.prog.info? 93).map (fun i=>(i.zero,i.size,i.bytes))=some (some (.agg #[(.int .i64 0),(.int .i64 0)]),2,16):=by kernel_rfl
theorem info104:(Try.prog.info? 104).map (fun i=>(i.zero,i.size,i.bytes))=some (some (.agg #[(.string ⟨#[]⟩),(.int .i64 0),(.int .i64 0),(.int .i64 0),(.int .i64 0),(.string ⟨#[]⟩),(.string ⟨#[]⟩)]),7,80):=by kernel_rfl
theorem info114:(Try.prog.info? 114).map (fun i=>(i.zero,i.size,i.bytes))=some (some (.agg #[(.int .i64 0),(.int .i64 0),(.int .i64 0),(.int .i64 0),(.int .i64 0),(.int .i64 0)]),6,48):=by kernel_rfl
structure S93 where
  f0:Int
  f1:Int
def z93:S93:=⟨(0:Int),(0:Int)⟩
def k93:Kd S93:=Kd.iso (Kd.pair (Kd.int .i64) (Kd.int .i64)) (fun x:S93=>(x.f0,x.f1))
theorem k93_open {w:World} {x:S93} {cs:List Value} (h:k93.K w x cs):cs= [.int .i64 x.f0,.int .i64 x.f1]:=by
  obtain⟨_,_,rfl,rfl,rfl⟩:=h
  exact rfl
theorem k93_openM {w:World} {base:Nat} {ok:Nat→Prop} {x:S93} {cs:List Value} (h:k93.M w base ok x cs):cs= [.int .i64 x.f0,.int .i64 x.f1]:=by
  obtain⟨_,_,rfl,rfl,rfl⟩:=h
  exact rfl
theorem k93_mk (w:World) (x:S93)  :k93.K w x [.int .i64 x.f0,.int .i64 x.f1]:=⟨[.int .i64 x.f0],[.int .i64 x.f1],rfl,rfl,rfl⟩
theorem k93_mkM (w:World) (base:Nat) (ok:Nat→Prop) (x:S93)  :k93.M w base ok x [.int .i64 x.f0,.int .i64 x.f1]:=⟨[.int .i64 x.f0],[.int .i64 x.f1],rfl,rfl,rfl⟩
theorem k93_mkF (W:World) (ok:Nat→Prop) (x:S93):Kd.FK k93 W ok x [.int .i64 x.f0,.int .i64 x.f1]:=fun W2 _=>k93_mk W2 x
def rd_T93 (xs:List S93) (i:Int):S93:=xs.getD i.toNat z93
theorem at_T93 {w:World} {A:Option Addr} {n:Nat} {xs:List S93} (h:Kd.C k93 w A n xs) (i:Int) (h0:0≤i) (h1:i<n): ∃ ad,A=some ad∧w.cell? (ad.add (i.toNat*2))=some (.int .i64 (rd_T93 xs i).f0)∧w.cell? ⟨(ad.add (i.toNat*2)).block,(ad.add (i.toNat*2)).off+1,none⟩=some (.int .i64 (rd_T93 xs i).f1):=by
  obtain⟨ad,c,e,_,hK,g⟩:=C_get h z93 i h0 h1
  have hc: ∀ j u,c[j]?=some u→w.cell? (ad.add (i.toNat*2+j))=some u:=g
  obtain rfl:=k93_open hK
  exact⟨ad,e,hc 0 _ rfl,by rw[← add_field _ _ 1 (by omega)];exact hc 1 _ rfl⟩
structure S34 where
  f0:Int
  f1:Int
  f2:Int
  f3:Int
def z34:S34:=⟨(0:Int),(0:Int),(0:Int),(0:Int)⟩
def k34:Kd S34:=Kd.iso (Kd.pair (Kd.int .i64) (Kd.pair (Kd.int .i64) (Kd.pair (Kd.int .i64) (Kd.int .i64)))) (fun x:S34=>(x.f0,x.f1,x.f2,x.f3))
theorem k34_open {w:World} {x:S34} {cs:List Value} (h:k34.K w x cs):cs= [.int .i64 x.f0,.int .i64 x.f1,.int .i64 x.f2,.int .i64 x.f3]:=by
  obtain⟨_,_,rfl,rfl,⟨_,_,rfl,rfl,⟨_,_,rfl,rfl,rfl⟩⟩⟩:=h
  exact rfl
theorem k34_openM {w:World} {base:Nat} {ok:Nat→Prop} {x:S34} {cs:List Value} (h:k34.M w base ok x cs):cs= [.int .i64 x.f0,.int .i64 x.f1,.int .i64 x.f2,.int .i64 x.f3]:=by
  obtain⟨_,_,rfl,rfl,⟨_,_,rfl,rfl,⟨_,_,rfl,rfl,rfl⟩⟩⟩:=h
  exact rfl
theorem k34_mk (w:World) (x:S34)  :k34.K w x [.int .i64 x.f0,.int .i64 x.f1,.int .i64 x.f2,.int .i64 x.f3]:=⟨[.int .i64 x.f0],[.int .i64 x.f1,.int .i64 x.f2,.int .i64 x.f3],rfl,rfl,⟨[.int .i64 x.f1],[.int .i64 x.f2,.int .i64 x.f3],rfl,rfl,⟨[.int .i64 x.f2],[.int .i64 x.f3],rfl,rfl,rfl⟩⟩⟩
theorem k34_mkM (w:World) (base:Nat) (ok:Nat→Prop) (x:S34)  :k34.M w base ok x [.int .i64 x.f0,.int .i64 x.f1,.int .i64 x.f2,.int .i64 x.f3]:=⟨[.int .i64 x.f0],[.int .i64 x.f1,.int .i64 x.f2,.int .i64 x.f3],rfl,rfl,⟨[.int .i64 x.f1],[.int .i64 x.f2,.int .i64 x.f3],rfl,rfl,⟨[.int .i64 x.f2],[.int .i64 x.f3],rfl,rfl,rfl⟩⟩⟩
theorem k34_mkF (W:World) (ok:Nat→Prop) (x:S34):Kd.FK k34 W ok x [.int .i64 x.f0,.int .i64 x.f1,.int .i64 x.f2,.int .i64 x.f3]:=fun W2 _=>k34_mk W2 x
def rd_T34 (xs:List S34) (i:Int):S34:=xs.getD i.toNat z34
theorem at_T34 {w:World} {A:Option Addr} {n:Nat} {xs:List S34} (h:Kd.C k34 w A n xs) (i:Int) (h0:0≤i) (h1:i<n): ∃ ad,A=some ad∧w.cell? (ad.add (i.toNat*4))=some (.int .i64 (rd_T34 xs i).f0)∧w.cell? ⟨(ad.add (i.toNat*4)).block,(ad.add (i.toNat*4)).off+1,none⟩=some (.int .i64 (rd_T34 xs i).f1)∧w.cell? ⟨(ad.add (i.toNat*4)).block,(ad.add (i.toNat*4)).off+2,none⟩=some (.int .i64 (rd_T34 xs i).f2)∧w.cell? ⟨(ad.add (i.toNat*4)).block,(ad.add (i.toNat*4)).off+3,none⟩=some (.int .i64 (rd_T34 xs i).f3):=by
  obtain⟨ad,c,e,_,hK,g⟩:=C_get h z34 i h0 h1
  have hc: ∀ j u,c[j]?=some u→w.cell? (ad.add (i.toNat*4+j))=some u:=g
  obtain rfl:=k34_open hK
  exact⟨ad,e,hc 0 _ rfl,by rw[← add_field _ _ 1 (by omega)];exact hc 1 _ rfl,by rw[← add_field _ _ 2 (by omega)];exact hc 2 _ rfl,by rw[← add_field _ _ 3 (by omega)];exact hc 3 _ rfl⟩
structure S114 where
  f0:Int
  f1:S93
  f2:Int
  f3:S93
def z114:S114:=⟨(0:Int),z93,(0:Int),z93⟩
def k114:Kd S114:=Kd.iso (Kd.pair (Kd.int .i64) (Kd.pair k93 (Kd.pair (Kd.int .i64) k93))) (fun x:S114=>(x.f0,x.f1,x.f2,x.f3))
theorem k114_open {w:World} {x:S114} {cs:List Value} (h:k114.K w x cs):cs= [.int .i64 x.f0,.int .i64 x.f1.f0,.int .i64 x.f1.f1,.int .i64 x.f2,.int .i64 x.f3.f0,.int .i64 x.f3.f1]:=by
  obtain⟨_,_,rfl,rfl,⟨_,_,rfl,s1,⟨_,_,rfl,rfl,s4⟩⟩⟩:=h
  obtain rfl:=k93_open s1
  obtain rfl:=k93_open s4
  exact rfl
theorem k114_openM {w:World} {base:Nat} {ok:Nat→Prop} {x:S114} {cs:List Value} (h:k114.M w base ok x cs):cs= [.int .i64 x.f0,.int .i64 x.f1.f0,.int .i64 x.f1.f1,.int .i64 x.f2,.int .i64 x.f3.f0,.int .i64 x.f3.f1]:=by
  obtain⟨_,_,rfl,rfl,⟨_,_,rfl,s1,⟨_,_,rfl,rfl,s4⟩⟩⟩:=h
  obtain rfl:=k93_openM s1
  obtain rfl:=k93_openM s4
  exact rfl
theorem k114_mk (w:World) (x:S114)  :k114.K w x [.int .i64 x.f0,.int .i64 x.f1.f0,.int .i64 x.f1.f1,.int .i64 x.f2,.int .i64 x.f3.f0,.int .i64 x.f3.f1]:=⟨[.int .i64 x.f0],[.int .i64 x.f1.f0,.int .i64 x.f1.f1,.int .i64 x.f2,.int .i64 x.f3.f0,.int .i64 x.f3.f1],rfl,rfl,⟨[.int .i64 x.f1.f0,.int .i64 x.f1.f1],[.int .i64 x.f2,.int .i64 x.f3.f0,.int .i64 x.f3.f1],rfl,(k93_mk w x.f1),⟨[.int .i64 x.f2],[.int .i64 x.f3.f0,.int .i64 x.f3.f1],rfl,rfl,(k93_mk w x.f3)⟩⟩⟩
theorem k114_mkM (w:World) (base:Nat) (ok:Nat→Prop) (x:S114)  :k114.M w base ok x [.int .i64 x.f0,.int .i64 x.f1.f0,.int .i64 x.f1.f1,.int .i64 x.f2,.int .i64 x.f3.f0,.int .i64 x.f3.f1]:=⟨[.int .i64 x.f0],[.int .i64 x.f1.f0,.int .i64 x.f1.f1,.int .i64 x.f2,.int .i64 x.f3.f0,.int .i64 x.f3.f1],rfl,rfl,⟨[.int .i64 x.f1.f0,.int .i64 x.f1.f1],[.int .i64 x.f2,.int .i64 x.f3.f0,.int .i64 x.f3.f1],rfl,(k93_mkM w base ok x.f1),⟨[.int .i64 x.f2],[.int .i64 x.f3.f0,.int .i64 x.f3.f1],rfl,rfl,(k93_mkM w base ok x.f3)⟩⟩⟩
theorem k114_mkF (W:World) (ok:Nat→Prop) (x:S114):Kd.FK k114 W ok x [.int .i64 x.f0,.int .i64 x.f1.f0,.int .i64 x.f1.f1,.int .i64 x.f2,.int .i64 x.f3.f0,.int .i64 x.f3.f1]:=fun W2 _=>k114_mk W2 x
def rd_T114 (xs:List S114) (i:Int):S114:=xs.getD i.toNat z114
theorem at_T114 {w:World} {A:Option Addr} {n:Nat} {xs:List S114} (h:Kd.C k114 w A n xs) (i:Int) (h0:0≤i) (h1:i<n): ∃ ad,A=some ad∧w.cell? (ad.add (i.toNat*6))=some (.int .i64 (rd_T114 xs i).f0)∧w.cell? ⟨(ad.add (i.toNat*6)).block,(ad.add (i.toNat*6)).off+1,none⟩=some (.int .i64 (rd_T114 xs i).f1.f0)∧w.cell? ⟨(ad.add (i.toNat*6)).block,(ad.add (i.toNat*6)).off+2,none⟩=some (.int .i64 (rd_T114 xs i).f1.f1)∧w.cell? ⟨(ad.add (i.toNat*6)).block,(ad.add (i.toNat*6)).off+3,none⟩=some (.int .i64 (rd_T114 xs i).f2)∧w.cell? ⟨(ad.add (i.toNat*6)).block,(ad.add (i.toNat*6)).off+4,none⟩=some (.int .i64 (rd_T114 xs i).f3.f0)∧w.cell? ⟨(ad.add (i.toNat*6)).block,(ad.add (i.toNat*6)).off+5,none⟩=some (.int .i64 (rd_T114 xs i).f3.f1):=by
  obtain⟨ad,c,e,_,hK,g⟩:=C_get h z114 i h0 h1
  have hc: ∀ j u,c[j]?=some u→w.cell? (ad.add (i.toNat*6+j))=some u:=g
  obtain rfl:=k114_open hK
  exact⟨ad,e,hc 0 _ rfl,by rw[← add_field _ _ 1 (by omega)];exact hc 1 _ rfl,by rw[← add_field _ _ 2 (by omega)];exact hc 2 _ rfl,by rw[← add_field _ _ 3 (by omega)];exact hc 3 _ rfl,by rw[← add_field _ _ 4 (by omega)];exact hc 4 _ rfl,by rw[← add_field _ _ 5 (by omega)];exact hc 5 _ rfl⟩
def rd_L5 (xs:List (List Int)) (i:Int):(List Int):=xs.getD i.toNat ([] :List Int)
theorem at_L5 {w:World} {A:Option Addr} {n:Nat} {xs:List (List Int)} (h:Kd.C (Kd.slice 3 (Kd.int .i64)) w A n xs) (i:Int) (h0:0≤i) (h1:i<n): ∃ ad a b,A=some ad∧w.cell? (ad.add i.toNat)=some (.slice a (rd_L5 xs i).length b)∧(rd_L5 xs i).length≤b∧(Kd.int .i64).C w a (rd_L5 xs i).length (rd_L5 xs i):=by
  obtain⟨ad,c,e,_,hK,g⟩:=C_get h ([] :List Int) i h0 h1
  have hc: ∀ j u,c[j]?=some u→w.cell? (ad.add (i.toNat*1+j))=some u:=g
  obtain⟨a,b,rfl,k,g0⟩:=hK
  exact⟨ad,a,b,e,by have hq:=hc 0 _ rfl;rwa [Nat.mul_one,Nat.add_zero]at hq,k,g0⟩
def rd_L6 (xs:List (List S114)) (i:Int):(List S114):=xs.getD i.toNat ([] :List S114)
theorem at_L6 {w:World} {A:Option Addr} {n:Nat} {xs:List (List S114)} (h:Kd.C (Kd.slice 114 k114) w A n xs) (i:Int) (h0:0≤i) (h1:i<n): ∃ ad a b,A=some ad∧w.cell? (ad.add i.toNat)=some (.slice a (rd_L6 xs i).length b)∧(rd_L6 xs i).length≤b∧k114.C w a (rd_L6 xs i).length (rd_L6 xs i):=by
  obtain⟨ad,c,e,_,hK,g⟩:=C_get h ([] :List S114) i h0 h1
  have hc: ∀ j u,c[j]?=some u→w.cell? (ad.add (i.toNat*1+j))=some u:=g
  obtain⟨a,b,rfl,k,g0⟩:=hK
  exact⟨ad,a,b,e,by have hq:=hc 0 _ rfl;rwa [Nat.mul_one,Nat.add_zero]at hq,k,g0⟩
structure S81 where
  f0:(List Int)
  f1:(List S114)
  f2:Int
  f3:Int
def z81:S81:=⟨([] :List Int),([] :List S114),(0:Int),(0:Int)⟩
def k81:Kd S81:=Kd.iso (Kd.pair (Kd.slice 3 (Kd.int .i64)) (Kd.pair (Kd.slice 114 k114) (Kd.pair (Kd.int .i64) (Kd.int .i64)))) (fun x:S81=>(x.f0,x.f1,x.f2,x.f3))
theorem k81_open {w:World} {x:S81} {cs:List Value} (h:k81.K w x cs): ∃ a b d f,cs= [.slice a x.f0.length b,.slice d x.f1.length f,.int .i64 x.f2,.int .i64 x.f3]∧x.f0.length≤b∧(Kd.int .i64).C w a x.f0.length x.f0∧x.f1.length≤f∧k114.C w d x.f1.length x.f1:=by
  obtain⟨_,_,rfl,⟨a,b,rfl,k,g0⟩,⟨_,_,rfl,⟨d,f,rfl,o,g1⟩,⟨_,_,rfl,rfl,rfl⟩⟩⟩:=h
  exact⟨a,b,d,f,rfl,k,g0,o,g1⟩
theorem k81_openM {w:World} {base:Nat} {ok:Nat→Prop} {x:S81} {cs:List Value} (h:k81.M w base ok x cs): ∃ p m,cs= [p,m,.int .i64 x.f2,.int .i64 x.f3]∧(Kd.int .i64).R 3 w base ok p x.f0∧k114.R 114 w base ok m x.f1:=by
  obtain⟨_,_,rfl,⟨p,rfl,g0⟩,⟨_,_,rfl,⟨m,rfl,g1⟩,⟨_,_,rfl,rfl,rfl⟩⟩⟩:=h
  exact⟨p,m,rfl,g0,g1⟩
theorem k81_mk (w:World) (x:S81) {a:Option Addr} {b:Nat} (k:x.f0.length≤b) (g0:(Kd.int .i64).C w a x.f0.length x.f0) {d:Option Addr} {f:Nat} (o:x.f1.length≤f) (g1:k114.C w d x.f1.length x.f1):k81.K w x [.slice a x.f0.length b,.slice d x.f1.length f,.int .i64 x.f2,.int .i64 x.f3]:=⟨[.slice a x.f0.length b],[.slice d x.f1.length f,.int .i64 x.f2,.int .i64 x.f3],rfl,⟨a,b,rfl,k,g0⟩,⟨[.slice d x.f1.length f],[.int .i64 x.f2,.int .i64 x.f3],rfl,⟨d,f,rfl,o,g1⟩,⟨[.int .i64 x.f2],[.int .i64 x.f3],rfl,rfl,rfl⟩⟩⟩
theorem k81_mkM (w:World) (base:Nat) (ok:Nat→Prop) (x:S81) {p:Value} (g0:(Kd.int .i64).R 3 w base ok p x.f0) {m:Value} (g1:k114.R 114 w base ok m x.f1):k81.M w base ok x [p,m,.int .i64 x.f2,.int .i64 x.f3]:=⟨[p],[m,.int .i64 x.f2,.int .i64 x.f3],rfl,⟨p,rfl,g0⟩,⟨[m],[.int .i64 x.f2,.int .i64 x.f3],rfl,⟨m,rfl,g1⟩,⟨[.int .i64 x.f2],[.int .i64 x.f3],rfl,rfl,rfl⟩⟩⟩
theorem k81_openF {W:World} {ok:Nat→Prop} {x:S81} {cs:List Value} (h:Kd.FK k81 W ok x cs): ∃ a b d f,cs= [.slice a x.f0.length b,.slice d x.f1.length f,.int .i64 x.f2,.int .i64 x.f3]∧x.f0.length≤b∧Kd.F (Kd.int .i64) W ok a x.f0.length x.f0∧x.f1.length≤f∧Kd.F k114 W ok d x.f1.length x.f1:=by
  obtain⟨a,b,d,f,rfl,k,_,o,_⟩:=k81_open (FK_now h)
  exact⟨a,b,d,f,rfl,k,(fun W' hW=>by obtain⟨A0_,c0_,A1_,c1_,he,l0_,g0_,l1_,g1_⟩:=k81_open (h W' hW);injection (Option.some.inj (show some (Value.slice a x.f0.length b)=some (Value.slice A0_ x.f0.length c0_)from congrArg (fun l=>l[0]?) he))with ha_ _ _;rw[ha_];exact g0_),o,(fun W' hW=>by obtain⟨A0_,c0_,A1_,c1_,he,l0_,g0_,l1_,g1_⟩:=k81_open (h W' hW);injection (Option.some.inj (show some (Value.slice d x.f1.length f)=some (Value.slice A1_ x.f1.length c1_)from congrArg (fun l=>l[1]?) he))with ha_ _ _;rw[ha_];exact g1_)⟩
theorem k81_mkF (W:World) (ok:Nat→Prop) (x:S81) {a:Option Addr} {b:Nat} (k:x.f0.length≤b) (g0:Kd.F (Kd.int .i64) W ok a x.f0.length x.f0) {d:Option Addr} {f:Nat} (o:x.f1.length≤f) (g1:Kd.F k114 W ok d x.f1.length x.f1):Kd.FK k81 W ok x [.slice a x.f0.length b,.slice d x.f1.length f,.int .i64 x.f2,.int .i64 x.f3]:=fun W2 hW=>k81_mk W2 x k (g0 W2 hW) o (g1 W2 hW)
def rd_T81 (xs:List S81) (i:Int):S81:=xs.getD i.toNat z81
theorem at_T81 {w:World} {A:Option Addr} {n:Nat} {xs:List S81} (h:Kd.C k81 w A n xs) (i:Int) (h0:0≤i) (h1:i<n): ∃ ad a b d f,A=some ad∧w.cell? (ad.add (i.toNat*4))=some (.slice a (rd_T81 xs i).f0.length b)∧w.cell? ⟨(ad.add (i.toNat*4)).block,(ad.add (i.toNat*4)).off+1,none⟩=some (.slice d (rd_T81 xs i).f1.length f)∧w.cell? ⟨(ad.add (i.toNat*4)).block,(ad.add (i.toNat*4)).off+2,none⟩=some (.int .i64 (rd_T81 xs i).f2)∧w.cell? ⟨(ad.add (i.toNat*4)).block,(ad.add (i.toNat*4)).off+3,none⟩=some (.int .i64 (rd_T81 xs i).f3)∧(rd_T81 xs i).f0.length≤b∧(Kd.int .i64).C w a (rd_T81 xs i).f0.length (rd_T81 xs i).f0∧(rd_T81 xs i).f1.length≤f∧k114.C w d (rd_T81 xs i).f1.length (rd_T81 xs i).f1:=by
  obtain⟨ad,c,e,_,hK,g⟩:=C_get h z81 i h0 h1
  have hc: ∀ j u,c[j]?=some u→w.cell? (ad.add (i.toNat*4+j))=some u:=g
  obtain⟨a,b,d,f,rfl,k,g0,o,g1⟩:=k81_open hK
  exact⟨ad,a,b,d,f,e,hc 0 _ rfl,by rw[← add_field _ _ 1 (by omega)];exact hc 1 _ rfl,by rw[← add_field _ _ 2 (by omega)];exact hc 2 _ rfl,by rw[← add_field _ _ 3 (by omega)];exact hc 3 _ rfl,k,g0,o,g1⟩
structure S104 where
  f0:ByteArray
  f1:S34
  f2:ByteArray
  f3:ByteArray
def z104:S104:=⟨(⟨#[]⟩ :ByteArray),z34,(⟨#[]⟩ :ByteArray),(⟨#[]⟩ :ByteArray)⟩
def k104:Kd S104:=Kd.iso (Kd.pair Kd.string (Kd.pair k34 (Kd.pair Kd.string Kd.string))) (fun x:S104=>(x.f0,x.f1,x.f2,x.f3))
theorem k104_open {w:World} {x:S104} {cs:List Value} (h:k104.K w x cs):cs= [.string x.f0,.int .i64 x.f1.f0,.int .i64 x.f1.f1,.int .i64 x.f1.f2,.int .i64 x.f1.f3,.string x.f2,.string x.f3]:=by
  obtain⟨_,_,rfl,rfl,⟨_,_,rfl,s1,⟨_,_,rfl,rfl,rfl⟩⟩⟩:=h
  obtain rfl:=k34_open s1
  exact rfl
theorem k104_openM {w:World} {base:Nat} {ok:Nat→Prop} {x:S104} {cs:List Value} (h:k104.M w base ok x cs):cs= [.string x.f0,.int .i64 x.f1.f0,.int .i64 x.f1.f1,.int .i64 x.f1.f2,.int .i64 x.f1.f3,.string x.f2,.string x.f3]:=by
  obtain⟨_,_,rfl,rfl,⟨_,_,rfl,s1,⟨_,_,rfl,rfl,rfl⟩⟩⟩:=h
  obtain rfl:=k34_openM s1
  exact rfl
theorem k104_mk (w:World) (x:S104)  :k104.K w x [.string x.f0,.int .i64 x.f1.f0,.int .i64 x.f1.f1,.int .i64 x.f1.f2,.int .i64 x.f1.f3,.string x.f2,.string x.f3]:=⟨[.string x.f0],[.int .i64 x.f1.f0,.int .i64 x.f1.f1,.int .i64 x.f1.f2,.int .i64 x.f1.f3,.string x.f2,.string x.f3],rfl,rfl,⟨[.int .i64 x.f1.f0,.int .i64 x.f1.f1,.int .i64 x.f1.f2,.int .i64 x.f1.f3],[.string x.f2,.string x.f3],rfl,(k34_mk w x.f1),⟨[.string x.f2],[.string x.f3],rfl,rfl,rfl⟩⟩⟩
theorem k104_mkM (w:World) (base:Nat) (ok:Nat→Prop) (x:S104)  :k104.M w base ok x [.string x.f0,.int .i64 x.f1.f0,.int .i64 x.f1.f1,.int .i64 x.f1.f2,.int .i64 x.f1.f3,.string x.f2,.string x.f3]:=⟨[.string x.f0],[.int .i64 x.f1.f0,.int .i64 x.f1.f1,.int .i64 x.f1.f2,.int .i64 x.f1.f3,.string x.f2,.string x.f3],rfl,rfl,⟨[.int .i64 x.f1.f0,.int .i64 x.f1.f1,.int .i64 x.f1.f2,.int .i64 x.f1.f3],[.string x.f2,.string x.f3],rfl,(k34_mkM w base ok x.f1),⟨[.string x.f2],[.string x.f3],rfl,rfl,rfl⟩⟩⟩
theorem k104_mkF (W:World) (ok:Nat→Prop) (x:S104):Kd.FK k104 W ok x [.string x.f0,.int .i64 x.f1.f0,.int .i64 x.f1.f1,.int .i64 x.f1.f2,.int .i64 x.f1.f3,.string x.f2,.string x.f3]:=fun W2 _=>k104_mk W2 x
def rd_T104 (xs:List S104) (i:Int):S104:=xs.getD i.toNat z104
theorem at_T104 {w:World} {A:Option Addr} {n:Nat} {xs:List S104} (h:Kd.C k104 w A n xs) (i:Int) (h0:0≤i) (h1:i<n): ∃ ad,A=some ad∧w.cell? (ad.add (i.toNat*7))=some (.string (rd_T104 xs i).f0)∧w.cell? ⟨(ad.add (i.toNat*7)).block,(ad.add (i.toNat*7)).off+1,none⟩=some (.int .i64 (rd_T104 xs i).f1.f0)∧w.cell? ⟨(ad.add (i.toNat*7)).block,(ad.add (i.toNat*7)).off+2,none⟩=some (.int .i64 (rd_T104 xs i).f1.f1)∧w.cell? ⟨(ad.add (i.toNat*7)).block,(ad.add (i.toNat*7)).off+3,none⟩=some (.int .i64 (rd_T104 xs i).f1.f2)∧w.cell? ⟨(ad.add (i.toNat*7)).block,(ad.add (i.toNat*7)).off+4,none⟩=some (.int .i64 (rd_T104 xs i).f1.f3)∧w.cell? ⟨(ad.add (i.toNat*7)).block,(ad.add (i.toNat*7)).off+5,none⟩=some (.string (rd_T104 xs i).f2)∧w.cell? ⟨(ad.add (i.toNat*7)).block,(ad.add (i.toNat*7)).off+6,none⟩=some (.string (rd_T104 xs i).f3):=by
  obtain⟨ad,c,e,_,hK,g⟩:=C_get h z104 i h0 h1
  have hc: ∀ j u,c[j]?=some u→w.cell? (ad.add (i.toNat*7+j))=some u:=g
  obtain rfl:=k104_open hK
  exact⟨ad,e,hc 0 _ rfl,by rw[← add_field _ _ 1 (by omega)];exact hc 1 _ rfl,by rw[← add_field _ _ 2 (by omega)];exact hc 2 _ rfl,by rw[← add_field _ _ 3 (by omega)];exact hc 3 _ rfl,by rw[← add_field _ _ 4 (by omega)];exact hc 4 _ rfl,by rw[← add_field _ _ 5 (by omega)];exact hc 5 _ rfl,by rw[← add_field _ _ 6 (by omega)];exact hc 6 _ rfl⟩
def rd_L10 (xs:List (List S34)) (i:Int):(List S34):=xs.getD i.toNat ([] :List S34)
theorem at_L10 {w:World} {A:Option Addr} {n:Nat} {xs:List (List S34)} (h:Kd.C (Kd.slice 34 k34) w A n xs) (i:Int) (h0:0≤i) (h1:i<n): ∃ ad a b,A=some ad∧w.cell? (ad.add i.toNat)=some (.slice a (rd_L10 xs i).length b)∧(rd_L10 xs i).length≤b∧k34.C w a (rd_L10 xs i).length (rd_L10 xs i):=by
  obtain⟨ad,c,e,_,hK,g⟩:=C_get h ([] :List S34) i h0 h1
  have hc: ∀ j u,c[j]?=some u→w.cell? (ad.add (i.toNat*1+j))=some u:=g
  obtain⟨a,b,rfl,k,g0⟩:=hK
  exact⟨ad,a,b,e,by have hq:=hc 0 _ rfl;rwa [Nat.mul_one,Nat.add_zero]at hq,k,g0⟩
theorem rE {P:Prop} (h:P:=by first|rfl|(simp[errW_none,errW_some] <;> rfl)|(simp[*,errW_none,errW_some] <;> rfl)):P:=h
end Go.Proofs.Ytpbalojiaghfhaa.PFnStacks
