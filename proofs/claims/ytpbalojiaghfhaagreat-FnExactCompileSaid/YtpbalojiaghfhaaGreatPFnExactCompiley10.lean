import Derived.Test.YtpbalojiaghfhaaGreatPFnExactCompiley0
import Derived.Test.YtpbalojiaghfhaaGreatPFnExactCompiley2
import Derived.Test.YtpbalojiaghfhaaGreatPFnExactCompiley9
namespace Go.Proofs.YtpbalojiaghfhaaGreat.PFnExactCompile
open Go.RowKit Go.Proofs.YtpbalojiaghfhaaGreatW.PrintWords Go.Proofs.YtpbalojiaghfhaaGreatW.PrintLast Go.Proofs.YtpbalojiaghfhaaGreatW.PrintMore Go.Proofs.YtpbalojiaghfhaaGreatW.Z
open Kd
attribute [local go_sem] isS max2_int min2_int max_two min_two max_three min_three max_four min_four
set_option linter.unusedVariables false
set_option linter.unusedSimpArgs false
mutual
def impl_LinesOk.j0:Nat→List (S86)→Bool→Option (Bool)
  | 0,_,_=>none
  | k+1,g,U=>if U=true then(some false)else(impl_LinesOk.l0 k g (g.length:Int) 0)
def impl_LinesOk.l0:Nat→List (S86)→Int→Int→Option (Bool)
  | 0,_,_,_=>none
  | k+1,g,u,p=>if p<u then((impl_lineOk.f k g p).bind fun q=>(if q=true then(impl_LinesOk.l0 k g u (wrap64 (p+1)))else(some false)))else(some true)
end
def impl_LinesOk.f (k:Nat) (a:List (S86)):Option (Bool):=(impl_within.f (a.length:Int) 1 600).bind fun s=>(if s=true then(if 0≤(wrap64 ((a.length:Int) - 1))then(if(wrap64 ((a.length:Int) - 1))<(a.length:Int)then(impl_LinesOk.j0 k a (((rd_T86 a (wrap64 ((a.length:Int) - 1))).f1.f0) !=8))else(none))else(none))else(impl_LinesOk.j0 k a true))
set_option maxHeartbeats 8000000 in
set_option maxRecDepth 100000 in
theorem impl_LinesOk.calls (k:Nat) (j:Option Addr) (l:Nat) (a:List (S86)) (r:Bool) (w:World) (v:Kd.C k86 w j a.length a) (x:a.length≤l) (h:impl_LinesOk.f k a=some r) :
 Calls Tryz.prog 108 #[.slice j a.length l] w fun e w'=>e= .returned (.bool r)∧Below w.heap.size w w':=by
 have HR0:=aM v;have HC0:=aM x;clear v x;have HB:=aM (Below.refl w.heap.size w)
 unfold impl_LinesOk.f at h;have H:=h
 clear h;have HC2:=aM H;clear H;go_enter Tryz.func108,Tryz.ntmps108
 go_upto_region 2 with(fail)
 go_cut [19] (fun W wc=> ∃ (kq:Nat) (m:Bool),W= .bool m∧Aside0 (impl_LinesOk.j0 kq a m=some r)∧Aside0 (kq≤k)∧Aside0 (Below w.heap.size w wc))
 case first=>
  have H:=HC2.out;clear HC2;replace H:=bE H;obtain⟨s,t,H⟩:=H;by_cases c:s=true
  ·subst c;replace H:=iT H;obtain⟨ji5,hji5⟩ : ∃ j_:Int,(wrap64 ((a.length:Int) - 1))=j_:=⟨_,rfl⟩
   (first|rw[hji5]at H|simp only[hji5]at H)
   (try rw[hji5]at t);have hji5w:(IntKind.i64.wrap ((a.length:Int) - 1))=ji5:=(i64_w _).trans hji5;replace H:=gD H;obtain⟨n,H⟩:=H
   (first|rw[n]|(simp only[i64_w,i32_w];rw[n])|skip)
   replace H:=gD H;obtain⟨y,H⟩:=H;have H':=aM H;clear H
   go_wp2_with (first|((with_reducible refine gF 81 ?_);refine goZ (some 8) Tryz.func81 #[.int .i64 (a.length:Int),.int .i64 1,.int .i64 600] ?_;(with_reducible refine(impl_within.calls (a.length:Int) 1 600 true _ t.out).mono ?_);rintro e w' ⟨rfl,⟨nd,rfl⟩⟩;refine⟨_,rfl,?_⟩;obtain⟨z,A,ad,X,D,E,G,I,J,L,M⟩:=b7 HB (at_T86 HR0.out (ji5));cases X))
   go_meet
   case rel=>exact⟨_,((((rd_T86 a (ji5)).f1.f0) !=8)),(by first|rfl|(simp;done)|(simp only[← hji5] <;> (first|rfl|simp))|(simp[*];done)),H',⟨oL⟩,⟨cB⟩⟩
  ·replace c:=Bool.eq_false_iff.mpr c;subst c;replace H:=iF H;have H':=aM H;clear H
   go_wp2_with (first|((with_reducible refine gF 81 ?_);refine goZ (some 8) Tryz.func81 #[.int .i64 (a.length:Int),.int .i64 1,.int .i64 600] ?_;(with_reducible refine(impl_within.calls (a.length:Int) 1 600 false _ t.out).mono ?_);rintro e w' ⟨rfl,⟨nd,rfl⟩⟩;refine⟨_,rfl,?_⟩))
   go_meet
   case rel=>exact⟨_,(true),rS,H',⟨oL⟩,⟨cB⟩⟩
 case rest=>
  clear HC2;(try clear c);(try clear Y);(try clear n);(try clear aa);(try clear y);(try clear D E G I J L M);(try clear z);(try clear A);obtain⟨kq,m,rfl,HA,HJ1,HB⟩:=hcut
  cases kq with
  | zero=>exact absurd HA.out (by simp[impl_LinesOk.j0])
  | succ kj1=>
   have H:=HA.out;clear HA;simp only[impl_LinesOk.j0]at H;by_cases i:m=true
   ·subst i;replace H:=iT H;obtain rfl:=Option.some.inj H;go_wp2;go_ret;exact⟨rE,cB⟩
   ·replace i:=Bool.eq_false_iff.mpr i;subst i;replace H:=iF H;have H':=aM H;clear H;go_wp2
    go_loopg [22] kj1 (fun kq ab w'=> ∃ (b:Int),ab= .int .i64 b∧Aside0 (impl_LinesOk.l0 kq a (a.length:Int) b=some r)∧Aside0 (kq≤kj1)∧Aside0 (Below w.heap.size w w'))
    case atStart=>exact⟨(0),rS,H',⟨Nat.le_refl _⟩,⟨cB⟩⟩
    case round=>
     clear H';(try clear c);(try clear Y);(try clear n);(try clear aa);(try clear y);(try clear i);(try clear D E G I J L M);(try clear z);(try clear A);obtain⟨b,rfl,HA,HK2,HB⟩:=hrel
     cases gk with
     | zero=>exact absurd HA.out (by simp[impl_LinesOk.l0])
     | succ k2=>
      have H:=HA.out;clear HA;simp only[impl_LinesOk.l0]at H;by_cases d:b<(a.length:Int)
      ·rw[if_pos d]at H;have ac:=decide_eq_true d;clear d;replace H:=bE H;obtain⟨q,O,H⟩:=H;by_cases o:q=true
       ·subst o;replace H:=iT H;have H':=aM H;clear H
        go_wp2_with (first|((with_reducible refine gF 137 ?_);refine goZ (some 27) Tryz.func137 #[.slice j a.length l,.int .i64 b] ?_;(with_reducible refine(impl_lineOk.calls k2 _ _ a b true _ ?side1 ?side2 O.out).mono ?_);(case side1=>exact cC (C_below HR0.out HB.out));(case side2=>exact HC0.out);rintro e ae ⟨rfl,hb⟩;refine⟨_,rfl,?_⟩;replace HB:=sB hb;(try clear hb)))
        go_roundg k2
        case measure=>have:=HJ1.out;have:=HK2.out;omega
        case rel=>exact⟨(wrap64 (b+1)),rS,H',⟨by have:=HJ1.out;have:=HK2.out;omega⟩,⟨cB⟩⟩
       ·replace o:=Bool.eq_false_iff.mpr o;subst o;replace H:=iF H;obtain rfl:=Option.some.inj H
        go_wp2_with (first|((with_reducible refine gF 137 ?_);refine goZ (some 27) Tryz.func137 #[.slice j a.length l,.int .i64 b] ?_;(with_reducible refine(impl_lineOk.calls k2 _ _ a b false _ ?side1 ?side2 O.out).mono ?_);(case side1=>exact cC (C_below HR0.out HB.out));(case side2=>exact HC0.out);rintro e af ⟨rfl,hb⟩;refine⟨_,rfl,?_⟩;replace HB:=sB hb;(try clear hb)))
        go_ret;exact⟨rE,cB⟩
      ·rw[if_neg d]at H;have ac:=decide_eq_false d;clear d;obtain rfl:=Option.some.inj H;go_wp2;go_ret;exact⟨rE,cB⟩
end Go.Proofs.YtpbalojiaghfhaaGreat.PFnExactCompile
