import Derived.Test.YtpbalojiaghfhaaGreatPFnExactCompiley0
import Derived.Test.YtpbalojiaghfhaaGreatPFnExactCompiley12
import Derived.Test.YtpbalojiaghfhaaGreatPFnExactCompiley22
namespace Go.Proofs.YtpbalojiaghfhaaGreat.PFnExactCompile
open Go.RowKit Go.Proofs.YtpbalojiaghfhaaGreatW.PrintWords Go.Proofs.YtpbalojiaghfhaaGreatW.PrintLast Go.Proofs.YtpbalojiaghfhaaGreatW.PrintMore Go.Proofs.YtpbalojiaghfhaaGreatW.Z
open Kd
attribute [local go_sem] isS max2_int min2_int max_two min_two max_three min_three max_four min_four
set_option linter.unusedVariables false
set_option linter.unusedSimpArgs false
mutual
def spec_LinesOk.j0:Nat→List (S86)→Bool→Option (Bool)
  | 0,_,_=>none
  | k+1,g,O=>if O=true then(some false)else(spec_LinesOk.l0 k g 0)
def spec_LinesOk.l0:Nat→List (S86)→Int→Option (Bool)
  | 0,_,_=>none
  | k+1,g,p=>if p<(g.length:Int)then((spec_l11Line.f k g p).bind fun q=>(if q=true then(spec_LinesOk.l0 k g (wrap64 (p+1)))else(some false)))else(some true)
end
def spec_LinesOk.f (k:Nat) (a:List (S86)):Option (Bool):=(spec_l01In.f (a.length:Int) 1 600).bind fun s=>(if s=true then(if 0≤(wrap64 ((a.length:Int) - 1))then(if(wrap64 ((a.length:Int) - 1))<(a.length:Int)then(spec_LinesOk.j0 k a (((rd_T86 a (wrap64 ((a.length:Int) - 1))).f1.f0) !=8))else(none))else(none))else(spec_LinesOk.j0 k a true))
set_option maxHeartbeats 8000000 in
set_option maxRecDepth 100000 in
theorem spec_LinesOk.calls (k:Nat) (j:Option Addr) (l:Nat) (a:List (S86)) (r:Bool) (w:World) (u:Kd.C k86 w j a.length a) (v:a.length≤l) (h:spec_LinesOk.f k a=some r) :
 Calls Tryz.prog 111 #[.slice j a.length l] w fun e w'=>e= .returned (.bool r)∧Below w.heap.size w w':=by
 have HR0:=aM u;have HC0:=aM v;clear u v;have HB:=aM (Below.refl w.heap.size w)
 unfold spec_LinesOk.f at h;have H:=h
 clear h;have HC2:=aM H;clear H;go_enter Tryz.func111,Tryz.ntmps111
 go_upto_region 1 with(fail)
 go_cut [18] (fun U wc=> ∃ (kq:Nat) (m:Bool),U= .bool m∧Aside0 (spec_LinesOk.j0 kq a m=some r)∧Aside0 (kq≤k)∧Aside0 (Below w.heap.size w wc))
 case first=>
  have H:=HC2.out;clear HC2;replace H:=bE H;obtain⟨s,t,H⟩:=H;by_cases c:s=true
  ·subst c;replace H:=iT H;obtain⟨ji5,hji5⟩ : ∃ j_:Int,(wrap64 ((a.length:Int) - 1))=j_:=⟨_,rfl⟩
   (first|rw[hji5]at H|simp only[hji5]at H)
   (try rw[hji5]at t);have hji5w:(IntKind.i64.wrap ((a.length:Int) - 1))=ji5:=(i64_w _).trans hji5;replace H:=gD H;obtain⟨n,H⟩:=H
   (first|rw[n]|(simp only[i64_w,i32_w];rw[n])|skip)
   replace H:=gD H;obtain⟨x,H⟩:=H;have H':=aM H;clear H
   go_wp2_with (first|((with_reducible refine gF 47 ?_);refine goZ (some 6) Tryz.func47 #[.int .i64 (a.length:Int),.int .i64 1,.int .i64 600] ?_;(with_reducible refine(spec_l01In.calls (a.length:Int) 1 600 true _ t.out).mono ?_);rintro e w' ⟨rfl,⟨nd,rfl⟩⟩;refine⟨_,rfl,?_⟩;obtain⟨y,z,ac,W,A,D,E,G,I,J,L⟩:=b7 HB (at_T86 HR0.out (ji5));cases W))
   go_meet
   case rel=>exact⟨_,((((rd_T86 a (ji5)).f1.f0) !=8)),(by first|rfl|(simp;done)|(simp only[← hji5] <;> (first|rfl|simp))|(simp[*];done)),H',⟨oL⟩,⟨cB⟩⟩
  ·replace c:=Bool.eq_false_iff.mpr c;subst c;replace H:=iF H;have H':=aM H;clear H
   go_wp2_with (first|((with_reducible refine gF 47 ?_);refine goZ (some 6) Tryz.func47 #[.int .i64 (a.length:Int),.int .i64 1,.int .i64 600] ?_;(with_reducible refine(spec_l01In.calls (a.length:Int) 1 600 false _ t.out).mono ?_);rintro e w' ⟨rfl,⟨nd,rfl⟩⟩;refine⟨_,rfl,?_⟩))
   go_meet
   case rel=>exact⟨_,(true),rS,H',⟨oL⟩,⟨cB⟩⟩
 case rest=>
  clear HC2;(try clear c);(try clear X);(try clear n);(try clear Y);(try clear x);(try clear A D E G I J L);(try clear y);(try clear z);obtain⟨kq,m,rfl,HA,HJ1,HB⟩:=hcut
  cases kq with
  | zero=>exact absurd HA.out (by simp[spec_LinesOk.j0])
  | succ kj1=>
   have H:=HA.out;clear HA;simp only[spec_LinesOk.j0]at H;by_cases i:m=true
   ·subst i;replace H:=iT H;obtain rfl:=Option.some.inj H;go_wp2;go_ret;exact⟨rE,cB⟩
   ·replace i:=Bool.eq_false_iff.mpr i;subst i;replace H:=iF H;have H':=aM H;clear H;go_wp2
    go_loopg [3] kj1 (fun kq aa w'=> ∃ (b:Int),aa= .int .i64 b∧Aside0 (spec_LinesOk.l0 kq a b=some r)∧Aside0 (kq≤kj1)∧Aside0 (Below w.heap.size w w'))
    case atStart=>exact⟨(0),rS,H',⟨Nat.le_refl _⟩,⟨cB⟩⟩
    case round=>
     clear H';(try clear c);(try clear X);(try clear n);(try clear Y);(try clear x);(try clear i);(try clear A D E G I J L);(try clear y);(try clear z);obtain⟨b,rfl,HA,HK2,HB⟩:=hrel
     cases gk with
     | zero=>exact absurd HA.out (by simp[spec_LinesOk.l0])
     | succ k2=>
      have H:=HA.out;clear HA;simp only[spec_LinesOk.l0]at H;by_cases d:b<(a.length:Int)
      ·rw[if_pos d]at H;have ab:=decide_eq_true d;clear d;replace H:=bE H;obtain⟨q,M,H⟩:=H;by_cases o:q=true
       ·subst o;replace H:=iT H;have H':=aM H;clear H
        go_wp2_with (first|((with_reducible refine gF 138 ?_);refine goZ (some 27) Tryz.func138 #[.slice j a.length l,.int .i64 b] ?_;(with_reducible refine(spec_l11Line.calls k2 _ _ a b true _ ?side1 ?side2 M.out).mono ?_);(case side1=>exact cC (C_below HR0.out HB.out));(case side2=>exact HC0.out);rintro e ad ⟨rfl,hb⟩;refine⟨_,rfl,?_⟩;replace HB:=sB hb;(try clear hb)))
        go_roundg k2
        case measure=>have:=HJ1.out;have:=HK2.out;omega
        case rel=>exact⟨(wrap64 (b+1)),rS,H',⟨by have:=HJ1.out;have:=HK2.out;omega⟩,⟨cB⟩⟩
       ·replace o:=Bool.eq_false_iff.mpr o;subst o;replace H:=iF H;obtain rfl:=Option.some.inj H
        go_wp2_with (first|((with_reducible refine gF 138 ?_);refine goZ (some 27) Tryz.func138 #[.slice j a.length l,.int .i64 b] ?_;(with_reducible refine(spec_l11Line.calls k2 _ _ a b false _ ?side1 ?side2 M.out).mono ?_);(case side1=>exact cC (C_below HR0.out HB.out));(case side2=>exact HC0.out);rintro e ae ⟨rfl,hb⟩;refine⟨_,rfl,?_⟩;replace HB:=sB hb;(try clear hb)))
        go_ret;exact⟨rE,cB⟩
      ·rw[if_neg d]at H;have ab:=decide_eq_false d;clear d;obtain rfl:=Option.some.inj H;go_wp2;go_ret;exact⟨rE,cB⟩
end Go.Proofs.YtpbalojiaghfhaaGreat.PFnExactCompile
