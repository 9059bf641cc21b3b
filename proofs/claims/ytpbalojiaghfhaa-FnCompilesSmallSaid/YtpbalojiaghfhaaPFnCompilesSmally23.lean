import Derived.Test.YtpbalojiaghfhaaPFnCompilesSmally0
namespace Go.Proofs.Ytpbalojiaghfhaa.PFnCompilesSmall
open Go.RowKit Go.Proofs.YtpbalojiaghfhaaW.PrintWords Go.Proofs.YtpbalojiaghfhaaW.PrintLast Go.Proofs.YtpbalojiaghfhaaW.PrintMore Go.Proofs.YtpbalojiaghfhaaW.Z
open Kd
attribute [local go_sem] isS max2_int min2_int max_two min_two max_three min_three max_four min_four
set_option linter.unusedVariables false
set_option linter.unusedSimpArgs false
def laws_sameInts.l0:Nat→List Int→List Int→Int→Option (Bool)
  | 0,_,_,_=>none
  | k+1,p,q,m=>if m<(p.length:Int)then(if 0≤m then(if m<(q.length:Int)then(if(rd p m)=(rd q m)then(laws_sameInts.l0 k p q (wrap64 (m+1)))else(some false))else(none))else(none))else(some true)
def laws_sameInts.f (k:Nat) (b:List Int) (c:List Int):Option (Bool):=if(b.length:Int)=(c.length:Int)then(laws_sameInts.l0 k b c 0)else(some false)
set_option maxHeartbeats 8000000 in
set_option maxRecDepth 100000 in
theorem laws_sameInts.calls {k:Nat}{v:Option Addr}{x:Nat}{b:List Int}{y:Option Addr}{s:Nat}{c:List Int}{r:Bool}{w:World}(h:laws_sameInts.f k b c=some r)(z:Kd.C (Kd.int .i64) w v b.length b)(A:b.length≤x)(D:Kd.C (Kd.int .i64) w y c.length c)(E:c.length≤s) :
 Calls Try.prog 21 #[.slice v b.length x,.slice y c.length s] w fun e w'=>e= .returned (.bool r)∧Drawn0 w w':=by
 have HR0:=aM z;have HC0:=aM A;clear z A;have HR1:=aM D;have HC1:=aM E;clear D E;have H:(if(b.length:Int)=(c.length:Int)then(laws_sameInts.l0 k b c 0)else(some false))=some r:=h;clear h;by_cases d:(b.length:Int)=(c.length:Int)
 ·rw[if_pos d]at H;obtain⟨G,I⟩:=eT d
  have J:(b.length == c.length)=true:=by first|simpa using d|(simp at d ⊢;omega)
  clear d;have H':=aM H;clear H;go_enter Try.func21,Try.ntmps21;go_wp2
  repeat(go_quiet (fail);try go_wp2)
  go_loopg [5] k (fun kq L w'=> ∃ (a:Int),L= .int .i64 a∧Aside0 (laws_sameInts.l0 kq b c a=some r)∧Aside0 (kq≤k)∧Drawn0 w w')
  case atStart=>exact⟨(0),rS,H',⟨Nat.le_refl _⟩,by repeat(first|exact Drawn0.refl _|apply Drawn0.step)⟩
  case round=>
   clear H';(try clear s);(try clear d);(try clear G);(try clear I);(try clear J);obtain⟨a,rfl,HA,HK1,⟨m1,rfl⟩⟩:=hrel
   cases gk with
   | zero=>exact absurd HA.out (by simp[laws_sameInts.l0])
   | succ k1=>
    have H:=HA.out;clear HA;simp only[laws_sameInts.l0]at H;by_cases n:a<(b.length:Int)
    ·rw[if_pos n]at H;have M:=decide_eq_true n;clear n;replace H:=gD H;obtain⟨ab,H⟩:=H;replace H:=gD H;obtain⟨ac,H⟩:=H;by_cases o:(rd b a)=(rd c a)
     ·rw[if_pos o]at H;obtain⟨O,U⟩:=eT o;clear o;have H':=aM H;clear H;have g:0≤(a:Int):=dA;have i:a<(b.length:Int):=dA;obtain⟨W,t,X⟩:=at_int HR0.out a g i;cases t;replace g:=eq_true g;replace i:=eq_true i;have j:0≤(a:Int):=dA;have l:a<(c.length:Int):=dA;obtain⟨Y,u,aa⟩:=at_int HR1.out a j l;cases u;replace j:=eq_true j;replace l:=eq_true l;go_wp2
      repeat(go_quiet (fail);try go_wp2)
      go_roundg k1
      case measure=>exact oK
      case rel=>exact⟨(wrap64 (a+1)),rS,H',⟨oK⟩,by repeat(first|exact Drawn0.refl _|apply Drawn0.step)⟩
     ·rw[if_neg o]at H;obtain⟨O,U⟩:=eF o;obtain rfl:=Option.some.inj H;have g:0≤(a:Int):=dA;have i:a<(b.length:Int):=dA;obtain⟨W,t,X⟩:=at_int HR0.out a g i;cases t;replace g:=eq_true g;replace i:=eq_true i;have j:0≤(a:Int):=dA;have l:a<(c.length:Int):=dA;obtain⟨Y,u,aa⟩:=at_int HR1.out a j l;cases u;replace j:=eq_true j;replace l:=eq_true l;go_wp2
      repeat(go_quiet (fail);try go_wp2)
      go_ret
      exact⟨by first|rfl|(simp;done)|(simp[*];done),by repeat(first|exact Drawn0.refl _|apply Drawn0.step)⟩
    ·rw[if_neg n]at H;have M:=decide_eq_false n;clear n;obtain rfl:=Option.some.inj H;go_wp2
     repeat(go_quiet (fail);try go_wp2)
     go_ret
     exact⟨by first|rfl|(simp;done)|(simp[*];done),by repeat(first|exact Drawn0.refl _|apply Drawn0.step)⟩
 ·rw[if_neg d]at H;obtain⟨G,I⟩:=eF d
  have J:(b.length == c.length)=false:=by first|simpa using d|(simp at d ⊢;omega)
  obtain rfl:=Option.some.inj H;go_enter Try.func21,Try.ntmps21;go_wp2
  repeat(go_quiet (fail);try go_wp2)
  go_ret
  exact⟨by first|rfl|(simp;done)|(simp[*];done),by repeat(first|exact Drawn0.refl _|apply Drawn0.step)⟩
end Go.Proofs.Ytpbalojiaghfhaa.PFnCompilesSmall
