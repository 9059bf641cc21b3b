import Derived.Test.YtpbalojiaghfhaaPFnCompilesSmally0
import Derived.Test.YtpbalojiaghfhaaPFnCompilesSmally6
namespace Go.Proofs.Ytpbalojiaghfhaa.PFnCompilesSmall
open Go.RowKit Go.Proofs.YtpbalojiaghfhaaW.PrintWords Go.Proofs.YtpbalojiaghfhaaW.PrintLast Go.Proofs.YtpbalojiaghfhaaW.PrintMore Go.Proofs.YtpbalojiaghfhaaW.Z
open Kd
attribute [local go_sem] isS max2_int min2_int max_two min_two max_three min_three max_four min_four
set_option linter.unusedVariables false
set_option linter.unusedSimpArgs false
def impl_ResultOf.f (b:Int) (c:Int):Option (Int):=(impl_within.f b 0 5).bind fun D=>(if D=true then((impl_within.f c 0 65535).bind fun E=>(if E=true then(some (wrap64 ((wrap64 (65536*b))+c)))else(some 0)))else(some 0))
set_option maxHeartbeats 8000000 in
set_option maxRecDepth 100000 in
theorem impl_ResultOf.calls {b:Int}{c:Int}{r:Int}{w:World}(h:impl_ResultOf.f b c=some r) :
 Calls Try.prog 62 #[.int .i64 b,.int .i64 c] w fun e w'=>e= .returned (.int .i64 r)∧Drawn0 w w':=by
 unfold impl_ResultOf.f at h;have H:=h
 clear h;replace H:=bE H;obtain⟨D,u,H⟩:=H;by_cases j:D=true
 ·subst j;replace H:=iT H;replace H:=bE H;obtain⟨E,O,H⟩:=H;by_cases m:E=true
  ·subst m;replace H:=iT H;obtain rfl:=Option.some.inj H;go_enter Try.func62,Try.ntmps62
   go_wp2_with (first|((with_reducible refine gF 68 ?_);refine gX (some 6) Try.func68 (impl_within.calls u.out) ?_;rintro w' ⟨nd,rfl⟩)|(go_at_call 68;(with_reducible refine(impl_within.calls O.out).mono ?_);rintro e w' ⟨rfl,⟨nd,rfl⟩⟩))
   go_ret
   exact⟨by first|rfl|(simp;done)|(simp[*];done),by repeat(first|exact Drawn0.refl _|apply Drawn0.step)⟩
  ·replace m:=Bool.eq_false_iff.mpr m;subst m;replace H:=iF H;obtain rfl:=Option.some.inj H;go_enter Try.func62,Try.ntmps62
   go_wp2_with (first|((with_reducible refine gF 68 ?_);refine gX (some 6) Try.func68 (impl_within.calls u.out) ?_;rintro w' ⟨nd,rfl⟩)|(go_at_call 68;(with_reducible refine(impl_within.calls O.out).mono ?_);rintro e w' ⟨rfl,⟨nd,rfl⟩⟩))
   go_ret
   exact⟨by first|rfl|(simp;done)|(simp[*];done),by repeat(first|exact Drawn0.refl _|apply Drawn0.step)⟩
 ·replace j:=Bool.eq_false_iff.mpr j;subst j;replace H:=iF H;obtain rfl:=Option.some.inj H;go_enter Try.func62,Try.ntmps62
  go_wp2_with (first|((with_reducible refine gF 68 ?_);refine gX (some 6) Try.func68 (impl_within.calls u.out) ?_;rintro w' ⟨nd,rfl⟩))
  go_ret
  exact⟨by first|rfl|(simp;done)|(simp[*];done),by repeat(first|exact Drawn0.refl _|apply Drawn0.step)⟩
def slices_Index_int_int.l0:Nat→List Int→Int→Int→Int→Option (Int)
  | 0,_,_,_,_=>none
  | k+1,q,U,W,s=>if s<W then(if 0≤s then(if s<(q.length:Int)then(if U=(rd q s)then(some s)else(slices_Index_int_int.l0 k q U W (wrap64 (s+1))))else(none))else(none))else(some (-1))
def slices_Index_int_int.f (k:Nat) (a:List Int) (c:Int):Option (Int):=slices_Index_int_int.l0 k a c (a.length:Int) 0
set_option maxHeartbeats 8000000 in
set_option maxRecDepth 100000 in
theorem slices_Index_int_int.calls {k:Nat}{v:Option Addr}{x:Nat}{a:List Int}{c:Int}{r:Int}{w:World}(h:slices_Index_int_int.f k a c=some r)(y:Kd.C (Kd.int .i64) w v a.length a)(z:a.length≤x) :
 Calls Try.prog 145 #[.slice v a.length x,.int .i64 c] w fun e w'=>e= .returned (.int .i64 r)∧Drawn0 w w':=by
 have HR0:=aM y;have HC0:=aM z;clear y z;have H:(slices_Index_int_int.l0 k a c (a.length:Int) 0)=some r:=h;clear h;have H':=aM H;clear H;go_enter Try.func145,Try.ntmps145;go_wp2
 go_loopg [8] k (fun kq ae w'=> ∃ (g:Int),ae= .int .i64 g∧Aside0 (slices_Index_int_int.l0 kq a c (a.length:Int) g=some r)∧Aside0 (kq≤k)∧Drawn0 w w')
 case atStart=>exact⟨(0),rS,H',⟨Nat.le_refl _⟩,by repeat(first|exact Drawn0.refl _|apply Drawn0.step)⟩
 case round=>
  clear H';obtain⟨g,rfl,HA,HK1,⟨m1,rfl⟩⟩:=hrel
  cases gk with
  | zero=>exact absurd HA.out (by simp[slices_Index_int_int.l0])
  | succ k1=>
   have H:=HA.out;clear HA;simp only[slices_Index_int_int.l0]at H;by_cases i:g<(a.length:Int)
   ·rw[if_pos i]at H;have G:=decide_eq_true i;clear i;replace H:=gD H;obtain⟨X,H⟩:=H;replace H:=gD H;obtain⟨af,H⟩:=H;by_cases m:c=(rd a g)
    ·rw[if_pos m]at H;obtain⟨ag,ah⟩:=eT m;clear m;obtain rfl:=Option.some.inj H;have o:0≤(g:Int):=dA;have p:g<(a.length:Int):=dA;obtain⟨ai,I,aj⟩:=at_int HR0.out g o p;cases I;replace o:=eq_true o;replace p:=eq_true p;go_wp2;go_ret
     exact⟨by first|rfl|(simp;done)|(simp[*];done),by repeat(first|exact Drawn0.refl _|apply Drawn0.step)⟩
    ·rw[if_neg m]at H;obtain⟨ag,ah⟩:=eF m;have H':=aM H;clear H;have o:0≤(g:Int):=dA;have p:g<(a.length:Int):=dA;obtain⟨ai,I,aj⟩:=at_int HR0.out g o p;cases I;replace o:=eq_true o;replace p:=eq_true p;go_wp2;go_roundg k1
     case measure=>exact oK
     case rel=>exact⟨(wrap64 (g+1)),rS,H',⟨oK⟩,by repeat(first|exact Drawn0.refl _|apply Drawn0.step)⟩
   ·rw[if_neg i]at H;have G:=decide_eq_false i;clear i;obtain rfl:=Option.some.inj H;go_wp2;go_ret
    exact⟨by first|rfl|(simp;done)|(simp[*];done),by repeat(first|exact Drawn0.refl _|apply Drawn0.step)⟩
def slices_Contains_int_int.f (k:Nat) (a:List Int) (c:Int):Option (Bool):=(slices_Index_int_int.f k a c).bind fun Y=>(some (decide (Y≥0)))
set_option maxHeartbeats 8000000 in
set_option maxRecDepth 100000 in
theorem slices_Contains_int_int.calls {k:Nat}{v:Option Addr}{x:Nat}{a:List Int}{c:Int}{r:Bool}{w:World}(h:slices_Contains_int_int.f k a c=some r)(y:Kd.C (Kd.int .i64) w v a.length a)(z:a.length≤x) :
 Calls Try.prog 131 #[.slice v a.length x,.int .i64 c] w fun e w'=>e= .returned (.bool r)∧Drawn0 w w':=by
 have HR0:=aM y;have HC0:=aM z;clear y z
 unfold slices_Contains_int_int.f at h;have H:=h
 clear h;replace H:=bE H;obtain⟨Y,u,H⟩:=H;obtain rfl:=Option.some.inj H;go_enter Try.func131,Try.ntmps131
 go_wp2_with (first|((with_reducible refine gF 145 ?_);refine gX (some 7) Try.func145 (slices_Index_int_int.calls u.out (cC HR0.out) HC0.out) ?_;rintro w' ⟨nd,rfl⟩))
 go_ret
 exact⟨by first|rfl|(simp;done)|(simp[*];done),by repeat(first|exact Drawn0.refl _|apply Drawn0.step)⟩
def impl_Decimal.l0:Nat→Int→ByteArray→Int→Option (ByteArray)
  | 0,_,_,_=>none
  | k+1,q,A,d=>if d=0 then(if q<0 then(if 1+A.size≤9223372036854775807 then(some ((⟨#[45]⟩ :ByteArray) ++ A))else(none))else(some A))else(if 0≤(mx (Int.tmod d 10) (wrap64 (-(Int.tmod d 10))))then(if(mx (Int.tmod d 10) (wrap64 (-(Int.tmod d 10))))≤(wrap64 ((mx (Int.tmod d 10) (wrap64 (-(Int.tmod d 10))))+1))then(if(wrap64 ((mx (Int.tmod d 10) (wrap64 (-(Int.tmod d 10))))+1))≤16 then(if((⟨#[48,49,50,51,52,53,54,55,56,57,97,98,99,100,101,102]⟩ :ByteArray).extract ((mx (Int.tmod d 10) (wrap64 (-(Int.tmod d 10)))):Int).toNat ((wrap64 ((mx (Int.tmod d 10) (wrap64 (-(Int.tmod d 10))))+1)):Int).toNat).size+A.size≤9223372036854775807 then(impl_Decimal.l0 k q (((⟨#[48,49,50,51,52,53,54,55,56,57,97,98,99,100,101,102]⟩ :ByteArray).extract ((mx (Int.tmod d 10) (wrap64 (-(Int.tmod d 10)))):Int).toNat ((wrap64 ((mx (Int.tmod d 10) (wrap64 (-(Int.tmod d 10))))+1)):Int).toNat) ++ A) (wrap64 (Int.tdiv d 10)))else(none))else(none))else(none))else(none))
def impl_Decimal.f (k:Nat) (b:Int):Option (ByteArray):=if b=0 then(some (⟨#[48]⟩ :ByteArray))else(impl_Decimal.l0 k b (⟨#[]⟩ :ByteArray) b)
set_option maxHeartbeats 8000000 in
set_option maxRecDepth 100000 in
theorem impl_Decimal.calls {k:Nat}{b:Int}{r:ByteArray}{w:World}(h:impl_Decimal.f k b=some r) :
 Calls Try.prog 146 #[.int .i64 b] w fun e w'=>e= .returned (.string r)∧Below w.heap.size w w':=by
 have HB:=rW w;have H:(if b=0 then(some (⟨#[48]⟩ :ByteArray))else(impl_Decimal.l0 k b (⟨#[]⟩ :ByteArray) b))=some r:=h;clear h;by_cases t:b=0
 ·rw[if_pos t]at H;obtain⟨aa,ab⟩:=eT t;clear t;obtain rfl:=Option.some.inj H;go_enter Try.func146,Try.ntmps146;go_wp2;go_ret;exact⟨rE,cB⟩
 ·rw[if_neg t]at H;obtain⟨aa,ab⟩:=eF t;have H':=aM H;clear H;go_enter Try.func146,Try.ntmps146;go_wp2
  go_loopg [3,4] k (fun kq ak al w'=> ∃ (n:ByteArray) (l:Int),ak= .string n∧al= .int .i64 l∧Aside0 (impl_Decimal.l0 kq b n l=some r)∧Aside0 (kq≤k)∧Aside0 (Below w.heap.size w w'))
  case atStart=>exact⟨((⟨#[]⟩ :ByteArray)),(b),rS,rS,H',⟨Nat.le_refl _⟩,⟨cB⟩⟩
  case round=>
   clear H';(try clear t);(try clear aa);(try clear ab);obtain⟨n,l,rfl,rfl,HA,HK1,HB⟩:=hrel
   cases gk with
   | zero=>exact absurd HA.out (by simp[impl_Decimal.l0])
   | succ k1=>
    have H:=HA.out;clear HA;simp only[impl_Decimal.l0]at H;by_cases i:l=0
    ·rw[if_pos i]at H;obtain⟨G,am⟩:=eT i;clear i;by_cases j:b<0
     ·rw[if_pos j]at H;have X:=decide_eq_true j;clear j;replace H:=gC H;obtain⟨J,H⟩:=H;have af:=eq_true J;have an:decide (1+n.size≤9223372036854775807)=true:=decide_eq_true J
      try have ao:(9223372036854775807<1+n.size)=False:=eq_false (Nat.not_lt.2 J)
      obtain rfl:=Option.some.inj H;go_wp2;go_ret;exact⟨rE,cB⟩
     ·rw[if_neg j]at H;have X:=decide_eq_false j;clear j;obtain rfl:=Option.some.inj H;go_wp2;go_ret;exact⟨rE,cB⟩
    ·rw[if_neg i]at H;obtain⟨G,am⟩:=eF i;obtain⟨ji6,hji6⟩ : ∃ j_:Int,(mx (Int.tmod l 10) (wrap64 (-(Int.tmod l 10))))=j_:=⟨_,rfl⟩
     (first|rw[hji6]at H|simp only[hji6]at H)
     have hji6_:(if(Int.tmod l 10)<(wrap64 (-(Int.tmod l 10)))then(wrap64 (-(Int.tmod l 10)))else(Int.tmod l 10))=ji6:=hji6;replace H:=gC H;obtain⟨L,H⟩:=H;have ap:=eq_true L;have aq:decide (0≤(ji6))=true:=decide_eq_true L;clear L;replace H:=gC H;obtain⟨ac,H⟩:=H;have ar:=eq_true ac;have au:decide ((ji6)≤(wrap64 ((ji6)+1)))=true:=decide_eq_true ac;replace H:=gC H;obtain⟨ad,H⟩:=H;have av:=eq_true ad;have aw:decide ((wrap64 ((ji6)+1))≤16)=true:=decide_eq_true ad;replace H:=gC H;obtain⟨M,H⟩:=H;have ax:=eq_true M;have ay:decide (((⟨#[48,49,50,51,52,53,54,55,56,57,97,98,99,100,101,102]⟩ :ByteArray).extract ((ji6):Int).toNat ((wrap64 ((ji6)+1)):Int).toNat).size+n.size≤9223372036854775807)=true:=decide_eq_true M
     try have az:(9223372036854775807<((⟨#[48,49,50,51,52,53,54,55,56,57,97,98,99,100,101,102]⟩ :ByteArray).extract ((ji6):Int).toNat ((wrap64 ((ji6)+1)):Int).toNat).size+n.size)=False:=eq_false (Nat.not_lt.2 M)
     have H':=aM H;clear H;go_wp2;go_roundg k1
     case measure=>exact oK
     case rel=>exact⟨(((⟨#[48,49,50,51,52,53,54,55,56,57,97,98,99,100,101,102]⟩ :ByteArray).extract ((ji6):Int).toNat ((wrap64 ((ji6)+1)):Int).toNat) ++ n),(wrap64 (Int.tdiv l 10)),(by first|rfl|(simp;done)|(simp only[← hji6] <;> (first|rfl|simp))|(simp[*];done)),rS,H',⟨oK⟩,⟨cB⟩⟩
end Go.Proofs.Ytpbalojiaghfhaa.PFnCompilesSmall
