import Derived.Test.YtpbalojiaghfhaaGreatPFnCompilesToldy0
import Derived.Test.YtpbalojiaghfhaaGreatPFnCompilesToldy13
import Derived.Test.YtpbalojiaghfhaaGreatPFnCompilesToldy23
namespace Go.Proofs.YtpbalojiaghfhaaGreat.PFnCompilesTold
open Go.RowKit Go.Proofs.YtpbalojiaghfhaaGreatW.PrintWords Go.Proofs.YtpbalojiaghfhaaGreatW.PrintLast Go.Proofs.YtpbalojiaghfhaaGreatW.PrintMore Go.Proofs.YtpbalojiaghfhaaGreatW.Z
open Kd
attribute [local go_sem] isS max2_int min2_int max_two min_two max_three min_three max_four min_four
set_option linter.unusedVariables false
set_option linter.unusedSimpArgs false
mutual
def spec_LinesOk.j0:Nat→List (S86)→Bool→Option (Bool)
  | 0,_,_=>none
  | k+1,d,O=>if O=true then(some false)else(spec_LinesOk.l0 k d 0)
def spec_LinesOk.l0:Nat→List (S86)→Int→Option (Bool)
  | 0,_,_=>none
  | k+1,d,n=>if n<(d.length:Int)then((spec_l11Line.f k d n).bind fun o=>(if o=true then(spec_LinesOk.l0 k d (wrap64 (n+1)))else(some false)))else(some true)
end
def spec_LinesOk.f (k:Nat) (a:List (S86)):Option (Bool):=(spec_l01In.f (a.length:Int) 1 600).bind fun p=>(if p=true then(if 0≤(wrap64 ((a.length:Int) - 1))then(if(wrap64 ((a.length:Int) - 1))<(a.length:Int)then(spec_LinesOk.j0 k a (((rd_T86 a (wrap64 ((a.length:Int) - 1))).f1.f0) !=8))else(none))else(none))else(spec_LinesOk.j0 k a true))
set_option maxHeartbeats 8000000 in
set_option maxRecDepth 100000 in
theorem spec_LinesOk.calls {k:Nat}{s:Option Addr}{t:Nat}{a:List (S86)}{r:Bool}{w:World}(h:spec_LinesOk.f k a=some r)(u:Kd.C k86 w s a.length a)(v:a.length≤t) :
 Calls Tryz.prog 111 #[.slice s a.length t] w fun e w'=>e= .returned (.bool r)∧Below w.heap.size w w':=by
 have HR0:=aM u;have HC0:=aM v;clear u v;have HB:=rW w
 unfold spec_LinesOk.f at h;have H:=h
 clear h;have HC2:=aM H;clear H;go_enter Tryz.func111,Tryz.ntmps111
 go_upto_region 1 with(fail)
 go_cut [18] (fun U wc=> ∃ (kq:Nat) (j:Bool),U= .bool j∧Aside0 (spec_LinesOk.j0 kq a j=some r)∧Aside0 (kq≤k)∧Aside0 (Below w.heap.size w wc))
 case first=>
  have H:=HC2.out;clear HC2;replace H:=bE H;obtain⟨p,q,H⟩:=H;by_cases b:p=true
  ·subst b;replace H:=iT H;obtain⟨ji5,hji5⟩ : ∃ j_:Int,(wrap64 ((a.length:Int) - 1))=j_:=⟨_,rfl⟩
   (first|rw[hji5]at H|simp only[hji5]at H)
   (try rw[hji5]at q);have hji5w:(IntKind.i64.wrap ((a.length:Int) - 1))=ji5:=(i64_w _).trans hji5;replace H:=gD H;obtain⟨l,H⟩:=H
   (first|rw[l]|(simp only[i64_w,i32_w];rw[l])|skip)
   replace H:=gD H;obtain⟨x,H⟩:=H;have H':=aM H;clear H
   go_wp2_with (first|((with_reducible refine gF 47 ?_);refine gX (some 6) Tryz.func47 (spec_l01In.calls q.out) ?_;rintro w' ⟨nd,rfl⟩;obtain⟨y,z,ac,W,A,D,E,G,I,J,L⟩:=b7 HB (at_T86 HR0.out (ji5));cases W))
   go_meet
   case rel=>exact⟨_,((((rd_T86 a (ji5)).f1.f0) !=8)),(by first|rfl|(simp;done)|(simp only[← hji5] <;> (first|rfl|simp))|(simp[*];done)),H',⟨oL⟩,⟨cB⟩⟩
  ·replace b:=Bool.eq_false_iff.mpr b;subst b;replace H:=iF H;have H':=aM H;clear H
   go_wp2_with (first|((with_reducible refine gF 47 ?_);refine gX (some 6) Tryz.func47 (spec_l01In.calls q.out) ?_;rintro w' ⟨nd,rfl⟩))
   go_meet
   case rel=>exact⟨_,(true),rS,H',⟨oL⟩,⟨cB⟩⟩
 case rest=>
  clear HC2;(try clear b);(try clear X);(try clear l);(try clear Y);(try clear x);(try clear A D E G I J L);(try clear y);(try clear z);obtain⟨kq,j,rfl,HA,HJ1,HB⟩:=hcut
  cases kq with
  | zero=>exact absurd HA.out (by simp[spec_LinesOk.j0])
  | succ kj1=>
   have H:=HA.out;clear HA;simp only[spec_LinesOk.j0]at H;by_cases g:j=true
   ·subst g;replace H:=iT H;obtain rfl:=Option.some.inj H;go_wp2;go_ret;exact⟨rE,cB⟩
   ·replace g:=Bool.eq_false_iff.mpr g;subst g;replace H:=iF H;have H':=aM H;clear H;go_wp2
    go_loopg [3] kj1 (fun kq aa w'=> ∃ (i:Int),aa= .int .i64 i∧Aside0 (spec_LinesOk.l0 kq a i=some r)∧Aside0 (kq≤kj1)∧Aside0 (Below w.heap.size w w'))
    case atStart=>exact⟨(0),rS,H',⟨Nat.le_refl _⟩,⟨cB⟩⟩
    case round=>
     clear H';(try clear b);(try clear X);(try clear l);(try clear Y);(try clear x);(try clear g);(try clear A D E G I J L);(try clear y);(try clear z);obtain⟨i,rfl,HA,HK2,HB⟩:=hrel
     cases gk with
     | zero=>exact absurd HA.out (by simp[spec_LinesOk.l0])
     | succ k2=>
      have H:=HA.out;clear HA;simp only[spec_LinesOk.l0]at H;by_cases c:i<(a.length:Int)
      ·rw[if_pos c]at H;have ab:=decide_eq_true c;clear c;replace H:=bE H;obtain⟨o,M,H⟩:=H;by_cases m:o=true
       ·subst m;replace H:=iT H;have H':=aM H;clear H
        go_wp2_with (first|((with_reducible refine gF 138 ?_);refine gX (some 27) Tryz.func138 (spec_l11Line.calls M.out (cH HR0) HC0.out) ?_;intro ad hb;replace HB:=sB hb;(try clear hb)))
        go_roundg k2
        case measure=>have:=HJ1.out;have:=HK2.out;omega
        case rel=>exact⟨(wrap64 (i+1)),rS,H',⟨by have:=HJ1.out;have:=HK2.out;omega⟩,⟨cB⟩⟩
       ·replace m:=Bool.eq_false_iff.mpr m;subst m;replace H:=iF H;obtain rfl:=Option.some.inj H
        go_wp2_with (first|((with_reducible refine gF 138 ?_);refine gX (some 27) Tryz.func138 (spec_l11Line.calls M.out (cH HR0) HC0.out) ?_;intro ae hb;replace HB:=sB hb;(try clear hb)))
        go_ret;exact⟨rE,cB⟩
      ·rw[if_neg c]at H;have ab:=decide_eq_false c;clear c;obtain rfl:=Option.some.inj H;go_wp2;go_ret;exact⟨rE,cB⟩
end Go.Proofs.YtpbalojiaghfhaaGreat.PFnCompilesTold
