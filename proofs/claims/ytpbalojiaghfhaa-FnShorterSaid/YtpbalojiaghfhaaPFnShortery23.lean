import Derived.Test.YtpbalojiaghfhaaPFnShortery0
import Derived.Test.YtpbalojiaghfhaaPFnShortery1
import Derived.Test.YtpbalojiaghfhaaPFnShortery4
import Derived.Test.YtpbalojiaghfhaaPFnShortery5
import Derived.Test.YtpbalojiaghfhaaPFnShortery14
import Derived.Test.YtpbalojiaghfhaaPFnShortery21
import Derived.Test.YtpbalojiaghfhaaPFnShortery22
namespace Go.Proofs.Ytpbalojiaghfhaa.PFnShorter
open Go.RowKit Go.Proofs.YtpbalojiaghfhaaW.PrintWords Go.Proofs.YtpbalojiaghfhaaW.PrintLast Go.Proofs.YtpbalojiaghfhaaW.PrintMore Go.Proofs.YtpbalojiaghfhaaW.Z
open Kd
attribute [local go_sem] isS max2_int min2_int max_two min_two max_three min_three max_four min_four
set_option linter.unusedVariables false
set_option linter.unusedSimpArgs false
attribute [local go_sem high] eqA34
def impl_Short.f (k:Nat) (a:List (S34)):Option ((List (S34))):=(impl_Threaded.f k a).bind fun aK=>((impl_Trimmed.f k aK).bind fun aL=>(some aL))
set_option maxHeartbeats 8000000 in
set_option maxRecDepth 100000 in
theorem impl_Short.calls {k:Nat}{v:Option Addr}{x:Nat}{a:List (S34)}{r:List (S34)}{w:World}(h:impl_Short.f k a=some r)(y:Kd.C k34 w v a.length a)(z:a.length≤x) :
 Calls Try.prog 11 #[.slice v a.length x] w fun e w'=> ∃ v0_:Value,e= .returned (v0_)∧Kd.R k34 34 w' w.heap.size (fun _=>True) v0_ r∧Below w.heap.size w w':=by
 have HR0:=aM y;have HC0:=aM z;clear y z;have HB:=rW w
 unfold impl_Short.f at h;have H:=h
 clear h;replace H:=bE H;obtain⟨aK,af,H⟩:=H;replace H:=bE H;obtain⟨aL,a6,H⟩:=H;obtain rfl:=Option.some.inj H;go_enter Try.func11,Try.ntmps11
 go_wp2_with (first|((with_reducible refine gF 9 ?_);refine gY (some 4) Try.func9 (impl_Threaded.calls af.out (cC HR0.out) HC0.out) ?_;rintro bW bX ⟨L,hb⟩;have M:=rL L;replace HB:=sB hb;(try clear hb);(try clear L);obtain⟨bY,bZ,a7⟩:=R_slice M.out;subst a7)|((with_reducible refine gF 10 ?_);refine gY (some 5) Try.func10 (impl_Trimmed.calls a6.out (rX M) ((rY M))) ?_;rintro b0 a8 ⟨L,hb⟩;have a9:=aM (R_lower (R_new' L (R_lt (mR M))) (below_size cB));replace M:=eB M (R_base L) hb;replace HB:=sB hb;(try clear hb);(try clear L)))
 go_ret
 exact⟨_,rE,by(with_reducible repeat(first|apply R_alloc|apply R_drewN|apply R_drew));exact R_mono a9.out (fun _ hk=>trivial),cB⟩
def spec_l07Far.f (l:Int) (m:Int) (n:Int) (o:Int):Option (Int):=if l=7 then(some m)else(if n>o then(some n)else(some o))
set_option maxHeartbeats 8000000 in
set_option maxRecDepth 100000 in
theorem spec_l07Far.calls {l:Int}{m:Int}{n:Int}{o:Int}{r:Int}{w:World}(h:spec_l07Far.f l m n o=some r) :
 Calls Try.prog 43 #[.agg #[.int .i64 l,.int .i64 m,.int .i64 n,.int .i64 o]] w fun e w'=>e= .returned (.int .i64 r)∧Below w.heap.size w w':=by
 have hu34:=Try.underlying34;have HB:=rW w;have H:(if l=7 then(some m)else(if n>o then(some n)else(some o)))=some r:=h;clear h;by_cases X:l=7
 ·rw[if_pos X]at H;obtain⟨ba,bb⟩:=eT X;clear X;obtain rfl:=Option.some.inj H;go_enter Try.func43,Try.ntmps43
  go_wp2_with (first|((with_reducible refine gN 1 ?_);refine boxZ 1 #[.int .i64 l,.int .i64 m,.int .i64 n,.int .i64 o] 34 ?_;intro aN hg b1 hbox hb;have Y:=aM hbox;have GW1040:=gS hg;have GE1040:=gS hg;replace HB:=sB hb;clear hb hbox hg;obtain⟨b5,b8,b9,ca,cb,cc,cd,ce⟩:=cz4 Y))
  go_ret;exact⟨rE,cB⟩
 ·rw[if_neg X]at H;obtain⟨ba,bb⟩:=eF X;by_cases O:n>o
  ·rw[if_pos O]at H;have ao:decide (o<n)=true:=decide_eq_true O;clear O;obtain rfl:=Option.some.inj H;go_enter Try.func43,Try.ntmps43
   go_wp2_with (first|((with_reducible refine gN 1 ?_);refine boxZ 1 #[.int .i64 l,.int .i64 m,.int .i64 n,.int .i64 o] 34 ?_;intro aN hg a8 hbox hb;have Y:=aM hbox;have GW1040:=gS hg;have GE1040:=gS hg;replace HB:=sB hb;clear hb hbox hg;obtain⟨bd,be,bf,cf,bg,bh,bi,cg⟩:=cz4 Y))
   go_ret;exact⟨rE,cB⟩
  ·rw[if_neg O]at H;have ao:decide (o<n)=false:=decide_eq_false O;clear O;obtain rfl:=Option.some.inj H;go_enter Try.func43,Try.ntmps43
   go_wp2_with (first|((with_reducible refine gN 1 ?_);refine boxZ 1 #[.int .i64 l,.int .i64 m,.int .i64 n,.int .i64 o] 34 ?_;intro aN hg bj hbox hb;have Y:=aM hbox;have GW1040:=gS hg;have GE1040:=gS hg;replace HB:=sB hb;clear hb hbox hg;obtain⟨bk,bl,bm,ch,bn,bo,bp,ci⟩:=cz4 Y))
   go_ret;exact⟨rE,cB⟩
def spec_CheckProgram.l0:Nat→List (S34)→Int→Option (Bool)
  | 0,_,_=>none
  | k+1,g,j=>if j<(g.length:Int)then(if 0≤j then((spec_InsOk.f k ((rd_T34 g j).f0) ((rd_T34 g j).f1) ((rd_T34 g j).f2) ((rd_T34 g j).f3)).bind fun ap=>(if ap=true then(if((rd_T34 g j).f0)=8 then(spec_CheckProgram.l0 k g (wrap64 (j+1)))else((spec_l07Far.f ((rd_T34 g j).f0) ((rd_T34 g j).f1) ((rd_T34 g j).f2) ((rd_T34 g j).f3)).bind fun aa=>(if(wrap64 ((wrap64 (j+1))+aa))≥(g.length:Int)then(some false)else(spec_CheckProgram.l0 k g (wrap64 (j+1))))))else(some false)))else(none))else(if 0≤(wrap64 ((g.length:Int) - 1))then(if(wrap64 ((g.length:Int) - 1))<(g.length:Int)then(some (((rd_T34 g (wrap64 ((g.length:Int) - 1))).f0) == 8))else(none))else(none))
def spec_CheckProgram.f (k:Nat) (a:List (S34)):Option (Bool):=(spec_l01In.f (a.length:Int) 1 400).bind fun aq=>(if aq=true then(spec_CheckProgram.l0 k a 0)else(some false))
set_option maxHeartbeats 8000000 in
set_option maxRecDepth 100000 in
theorem spec_CheckProgram.calls {k:Nat}{v:Option Addr}{x:Nat}{a:List (S34)}{r:Bool}{w:World}(h:spec_CheckProgram.f k a=some r)(y:Kd.C k34 w v a.length a)(z:a.length≤x) :
 Calls Try.prog 12 #[.slice v a.length x] w fun e w'=>e= .returned (.bool r)∧Below w.heap.size w w':=by
 have hu34:=Try.underlying34;have HR0:=aM y;have HC0:=aM z;clear y z;have HB:=rW w
 unfold spec_CheckProgram.f at h;have H:=h
 clear h;replace H:=bE H;obtain⟨aq,af,H⟩:=H;by_cases i:aq=true
 ·subst i;replace H:=iT H;have H':=aM H;clear H;go_enter Try.func12,Try.ntmps12
  go_wp2_with (first|((with_reducible refine gF 41 ?_);refine gX (some 6) Try.func41 (spec_l01In.calls af.out) ?_;rintro w' ⟨nd,rfl⟩))
  go_loopg [3] k (fun kq ar w'=> ∃ (d:Int),ar= .int .i64 d∧Aside0 (spec_CheckProgram.l0 kq a d=some r)∧Aside0 (kq≤k)∧Aside0 (Below w.heap.size w w'))
  case atStart=>exact⟨(0),rS,H',⟨Nat.le_refl _⟩,⟨cB⟩⟩
  case round=>
   clear H';(try clear i);obtain⟨d,rfl,HA,HK1,HB⟩:=hrel
   cases gk with
   | zero=>exact absurd HA.out (by simp[spec_CheckProgram.l0])
   | succ k1=>
    have H:=HA.out;clear HA;simp only[spec_CheckProgram.l0]at H;by_cases p:d<(a.length:Int)
    ·rw[if_pos p]at H;have ag:=decide_eq_true p;clear p;replace H:=gD H;obtain⟨ao,H⟩:=H;replace H:=bE H;obtain⟨ap,ah,H⟩:=H;by_cases u:ap=true
     ·subst u;replace H:=iT H;by_cases ab:((rd_T34 a d).f0)=8
      ·rw[if_pos ab]at H;obtain⟨bq,br⟩:=eT ab;clear ab;have H':=aM H;clear H;obtain⟨au,av,A,D,aw,ax,ay,az⟩:=b4 HB (at_T34 HR0.out d);cases D
       go_wp2_with (first|((with_reducible refine gF 42 ?_);refine gX (some 18) Try.func42 (spec_InsOk.calls ah.out) ?_;intro cj hb;replace HB:=sB hb;(try clear hb);obtain⟨aO,aP,ac,ad,aQ,aR,aS,aT⟩:=b4 HB (at_T34 HR0.out d);obtain rfl:A=ac:=(by injection ad)))
       go_roundg k1
       case measure=>exact oK
       case rel=>exact⟨(wrap64 (d+1)),rS,H',⟨oK⟩,⟨cB⟩⟩
      ·rw[if_neg ab]at H;obtain⟨bq,br⟩:=eF ab;replace H:=bE H;obtain⟨aa,aU,H⟩:=H;by_cases U:(wrap64 ((wrap64 (d+1))+aa))≥(a.length:Int)
       ·rw[if_pos U]at H;have bs:decide ((a.length:Int)≤(wrap64 ((wrap64 (d+1))+aa)))=true:=decide_eq_true U;clear U;obtain rfl:=Option.some.inj H;obtain⟨au,av,A,D,aw,ax,ay,az⟩:=b4 HB (at_T34 HR0.out d);cases D
        go_wp2_with (first|((with_reducible refine gF 42 ?_);refine gX (some 18) Try.func42 (spec_InsOk.calls ah.out) ?_;intro ck hb;replace HB:=sB hb;(try clear hb);obtain⟨aO,aP,ac,ad,aQ,aR,aS,aT⟩:=b4 HB (at_T34 HR0.out d);obtain rfl:A=ac:=(by injection ad);obtain⟨bu,bv,aA,aB,bw,bx,bz,bA⟩:=b4 HB (at_T34 HR0.out d);obtain rfl:A=aA:=(by injection aB))|(go_at_call 43;(with_reducible refine(spec_l07Far.calls aU.out).mono ?_);rintro e cl ⟨rfl,hb⟩;replace HB:=sB hb;(try clear hb)))
        go_ret;exact⟨rE,cB⟩
       ·rw[if_neg U]at H;have bs:decide ((a.length:Int)≤(wrap64 ((wrap64 (d+1))+aa)))=false:=decide_eq_false U;clear U;have H':=aM H;clear H;obtain⟨au,av,A,D,aw,ax,ay,az⟩:=b4 HB (at_T34 HR0.out d);cases D
        go_wp2_with (first|((with_reducible refine gF 42 ?_);refine gX (some 18) Try.func42 (spec_InsOk.calls ah.out) ?_;intro cm hb;replace HB:=sB hb;(try clear hb);obtain⟨aO,aP,ac,ad,aQ,aR,aS,aT⟩:=b4 HB (at_T34 HR0.out d);obtain rfl:A=ac:=(by injection ad);obtain⟨bu,bv,aA,aB,bw,bx,bz,bA⟩:=b4 HB (at_T34 HR0.out d);obtain rfl:A=aA:=(by injection aB))|(go_at_call 43;(with_reducible refine(spec_l07Far.calls aU.out).mono ?_);rintro e cn ⟨rfl,hb⟩;replace HB:=sB hb;(try clear hb)))
        go_roundg k1
        case measure=>exact oK
        case rel=>exact⟨(wrap64 (d+1)),rS,H',⟨oK⟩,⟨cB⟩⟩
     ·replace u:=Bool.eq_false_iff.mpr u;subst u;replace H:=iF H;obtain rfl:=Option.some.inj H;obtain⟨au,av,A,D,aw,ax,ay,az⟩:=b4 HB (at_T34 HR0.out d);cases D
      go_wp2_with (first|((with_reducible refine gF 42 ?_);refine gX (some 18) Try.func42 (spec_InsOk.calls ah.out) ?_;intro co hb;replace HB:=sB hb;(try clear hb)))
      go_ret;exact⟨rE,cB⟩
    ·rw[if_neg p]at H;have ag:=decide_eq_false p;clear p;obtain⟨ji17,hji17⟩ : ∃ j_:Int,(wrap64 ((a.length:Int) - 1))=j_:=⟨_,rfl⟩
     (first|rw[hji17]at H|simp only[hji17]at H)
     have hji17w:(IntKind.i64.wrap ((a.length:Int) - 1))=ji17:=(i64_w _).trans hji17;replace H:=gD H;obtain⟨cp,H⟩:=H;replace H:=gD H;obtain⟨cq,H⟩:=H;obtain rfl:=Option.some.inj H;obtain⟨cr,cs,ct,bB,cu,cv,cw,cx⟩:=b4 HB (at_T34 HR0.out (ji17));cases bB;go_wp2;go_ret
     exact⟨by first|rfl|(simp[errW_none,errW_some] <;> rfl)|(simp only[← hji17];first|rfl|(simp[errW_none,errW_some] <;> rfl))|(simp[*,errW_none,errW_some] <;> rfl),cB⟩
 ·replace i:=Bool.eq_false_iff.mpr i;subst i;replace H:=iF H;obtain rfl:=Option.some.inj H;go_enter Try.func12,Try.ntmps12
  go_wp2_with (first|((with_reducible refine gF 41 ?_);refine gX (some 6) Try.func41 (spec_l01In.calls af.out) ?_;rintro w' ⟨nd,rfl⟩))
  go_ret;exact⟨rE,cB⟩
def laws_sameIns.l0:Nat→List (S34)→List (S34)→Int→Option (Bool)
  | 0,_,_,_=>none
  | k+1,g,W,q=>if q<(g.length:Int)then(if 0≤q then(if q<(W.length:Int)then(if(!(((rd_T34 g q).f0) == ((rd_T34 W q).f0)) || (!(((rd_T34 g q).f1) == ((rd_T34 W q).f1)) || (!(((rd_T34 g q).f2) == ((rd_T34 W q).f2)) || (!(((rd_T34 g q).f3) == ((rd_T34 W q).f3))))))=true then(some false)else(laws_sameIns.l0 k g W (wrap64 (q+1))))else(none))else(none))else(some true)
def laws_sameIns.f (k:Nat) (a:List (S34)) (c:List (S34)):Option (Bool):=if(a.length:Int)=(c.length:Int)then(laws_sameIns.l0 k a c 0)else(some false)
set_option maxHeartbeats 8000000 in
set_option maxRecDepth 100000 in
theorem laws_sameIns.calls {k:Nat}{v:Option Addr}{x:Nat}{a:List (S34)}{aV:Option Addr}{aC:Nat}{c:List (S34)}{r:Bool}{w:World}(h:laws_sameIns.f k a c=some r)(y:Kd.C k34 w v a.length a)(z:a.length≤x)(aW:Kd.C k34 w aV c.length c)(aX:c.length≤aC) :
 Calls Try.prog 13 #[.slice v a.length x,.slice aV c.length aC] w fun e w'=>e= .returned (.bool r)∧Drawn0 w w':=by
 have hu34:=Try.underlying34;have HR0:=aM y;have HC0:=aM z;clear y z;have HR1:=aM aW;have HC1:=aM aX;clear aW aX;have H:(if(a.length:Int)=(c.length:Int)then(laws_sameIns.l0 k a c 0)else(some false))=some r:=h;clear h;by_cases i:(a.length:Int)=(c.length:Int)
 ·rw[if_pos i]at H;obtain⟨ai,aY⟩:=eT i
  have aZ:(a.length == c.length)=true:=by first|simpa using i|(simp at i ⊢;omega)
  clear i;have H':=aM H;clear H;go_enter Try.func13,Try.ntmps13;go_wp2
  repeat(go_quiet (fail);try go_wp2)
  go_loopg [5] k (fun kq bC w'=> ∃ (b:Int),bC= .int .i64 b∧Aside0 (laws_sameIns.l0 kq a c b=some r)∧Aside0 (kq≤k)∧Drawn0 w w')
  case atStart=>exact⟨(0),rS,H',⟨Nat.le_refl _⟩,by repeat(first|exact Drawn0.refl _|apply Drawn0.step)⟩
  case round=>
   clear H';(try clear aC);(try clear i);(try clear ai);(try clear aY);(try clear aZ);obtain⟨b,rfl,HA,HK1,⟨m1,rfl⟩⟩:=hrel
   cases gk with
   | zero=>exact absurd HA.out (by simp[laws_sameIns.l0])
   | succ k1=>
    have H:=HA.out;clear HA;simp only[laws_sameIns.l0]at H;by_cases p:b<(a.length:Int)
    ·rw[if_pos p]at H;have ag:=decide_eq_true p;clear p;replace H:=gD H;obtain⟨ao,H⟩:=H;replace H:=gD H;obtain⟨cy,H⟩:=H
     by_cases u:(!(((rd_T34 a b).f0) == ((rd_T34 c b).f0)) || (!(((rd_T34 a b).f1) == ((rd_T34 c b).f1)) || (!(((rd_T34 a b).f2) == ((rd_T34 c b).f2)) || (!(((rd_T34 a b).f3) == ((rd_T34 c b).f3))))))=true
     ·rw[if_pos u]at H
      have bD:(!(((rd_T34 a b).f0) == ((rd_T34 c b).f0)) || (!(((rd_T34 a b).f1) == ((rd_T34 c b).f1)) || (!(((rd_T34 a b).f2) == ((rd_T34 c b).f2)) || (!(((rd_T34 a b).f3) == ((rd_T34 c b).f3))))))=true:=u
      clear u;obtain rfl:=Option.some.inj H;have E:0≤(b:Int):=dA;have G:b<(a.length:Int):=dA;obtain⟨bF,aD,bG,bH,bI,bJ⟩:=at_T34 HR0.out b E G;cases aD;replace E:=eq_true E;replace G:=eq_true G;have I:0≤(b:Int):=dA;have J:b<(c.length:Int):=dA;obtain⟨bL,aE,bM,bN,bO,bP⟩:=at_T34 HR1.out b I J;cases aE;replace I:=eq_true I;replace J:=eq_true J;go_wp2
      repeat(go_quiet (fail);try go_wp2)
      go_ret
      exact⟨by first|rfl|(simp;done)|(simp[*];done),by repeat(first|exact Drawn0.refl _|apply Drawn0.step)⟩
     ·rw[if_neg u]at H
      have bD:(!(((rd_T34 a b).f0) == ((rd_T34 c b).f0)) || (!(((rd_T34 a b).f1) == ((rd_T34 c b).f1)) || (!(((rd_T34 a b).f2) == ((rd_T34 c b).f2)) || (!(((rd_T34 a b).f3) == ((rd_T34 c b).f3))))))=false:=by simpa using u
      clear u;have H':=aM H;clear H;have E:0≤(b:Int):=dA;have G:b<(a.length:Int):=dA;obtain⟨bF,aD,bG,bH,bI,bJ⟩:=at_T34 HR0.out b E G;cases aD;replace E:=eq_true E;replace G:=eq_true G;have I:0≤(b:Int):=dA;have J:b<(c.length:Int):=dA;obtain⟨bL,aE,bM,bN,bO,bP⟩:=at_T34 HR1.out b I J;cases aE;replace I:=eq_true I;replace J:=eq_true J;go_wp2
      repeat(go_quiet (fail);try go_wp2)
      go_roundg k1
      case measure=>exact oK
      case rel=>exact⟨(wrap64 (b+1)),rS,H',⟨oK⟩,by repeat(first|exact Drawn0.refl _|apply Drawn0.step)⟩
    ·rw[if_neg p]at H;have ag:=decide_eq_false p;clear p;obtain rfl:=Option.some.inj H;go_wp2
     repeat(go_quiet (fail);try go_wp2)
     go_ret
     exact⟨by first|rfl|(simp;done)|(simp[*];done),by repeat(first|exact Drawn0.refl _|apply Drawn0.step)⟩
 ·rw[if_neg i]at H;obtain⟨ai,aY⟩:=eF i
  have aZ:(a.length == c.length)=false:=by first|simpa using i|(simp at i ⊢;omega)
  obtain rfl:=Option.some.inj H;go_enter Try.func13,Try.ntmps13;go_wp2
  repeat(go_quiet (fail);try go_wp2)
  go_ret
  exact⟨by first|rfl|(simp;done)|(simp[*];done),by repeat(first|exact Drawn0.refl _|apply Drawn0.step)⟩
def spec_CallOk.l0:Nat→Int→Int→Int→List (S93)→Option (Bool)
  | 0,_,_,_,_=>none
  | k+1,j,a0,a1,ae=>if j<(ae.length:Int)then(if 0≤j then((spec_WideOk.f ((rd_T93 ae j).f0) ((rd_T93 ae j).f1)).bind fun aF=>(if aF=true then(spec_CallOk.l0 k (wrap64 (j+1)) a0 a1 ae)else(some false)))else(none))else((spec_HalfOk.f a0).bind fun aG=>(if aG=true then((spec_HalfOk.f a1).bind fun aH=>(if aH=true then(some ((ae.length:Int) == 3))else(some false)))else(some false)))
def spec_CallOk.f (k:Nat) (l:Int) (m:Int) (s:List (S93)):Option (Bool):=spec_CallOk.l0 k 0 l m s
set_option maxHeartbeats 8000000 in
set_option maxRecDepth 100000 in
theorem spec_CallOk.calls {k:Nat}{l:Int}{m:Int}{aj:Option Addr}{ak:Nat}{s:List (S93)}{r:Bool}{w:World}(h:spec_CallOk.f k l m s=some r)(a2:Kd.C k93 w aj s.length s)(a3:s.length≤ak) :
 Calls Try.prog 44 #[.agg #[.int .i64 l,.int .i64 m,.slice aj s.length ak]] w fun e w'=>e= .returned (.bool r)∧Below w.heap.size w w':=by
 have hu28:=Try.underlying28;have hu93:=Try.underlying93;have HR0_2:=aM a2;have HC0_2:=aM a3;clear a2 a3;have HB:=rW w;have H:(spec_CallOk.l0 k 0 l m s)=some r:=h;clear h;have H':=aM H;clear H;go_enter Try.func44,Try.ntmps44
 go_wp2_with (first|((with_reducible refine gN 1 ?_);(try(refine gate_guard (by rfl) ?_;dsimp only));refine boxZ 1 #[.int .i64 l,.int .i64 m,.slice aj s.length ak] 28 ?_;intro bQ hg cz hbox hb;have t:=aM hbox;have GW1050:=gS hg;have GE1050:=gS hg;replace HB:=sB hb;clear hb hbox hg))
 go_loopg [3] k (fun kq ar w'=> ∃ (d:Int),ar= .int .i64 d∧Aside0 (spec_CallOk.l0 kq d l m s=some r)∧Aside0 (kq≤k)∧Aside0 (w'.heap[bQ]?=some (.cells #[.int .i64 l,.int .i64 m,(.slice aj s.length ak)] 28 (0,0)))∧Aside0 (Below w.heap.size w w'))
 case atStart=>exact⟨(0),rS,H',⟨Nat.le_refl _⟩,⟨mK t⟩,⟨cB⟩⟩
 case round=>
  clear H';obtain⟨d,rfl,HA,HK1,t,HB⟩:=hrel
  cases gk with
  | zero=>exact absurd HA.out (by simp[spec_CallOk.l0])
  | succ k1=>
   have H:=HA.out;clear HA;simp only[spec_CallOk.l0]at H;by_cases i:d<(s.length:Int)
   ·rw[if_pos i]at H;have ai:=decide_eq_true i;clear i;replace H:=gD H;obtain⟨ag,H⟩:=H;replace H:=bE H;obtain⟨aF,a4,H⟩:=H;by_cases al:aF=true
    ·subst al;replace H:=iT H;have H':=aM H;clear H;obtain⟨bd,be,bf,bg,bh,bi⟩:=cz3 t;obtain⟨bR,bS,bT,aI,bU,bV⟩:=b2 HB (at_T93 HR0_2.out d);cases aI
     go_wp2_with (first|((with_reducible refine gF 79 ?_);refine gX (some 16) Try.func79 (spec_WideOk.calls a4.out) ?_;intro bj hb;replace t:=kB t hb;replace HB:=sB hb;(try clear hb)))
     go_roundg k1
     case measure=>exact oK
     case rel=>exact⟨(wrap64 (d+1)),rS,H',⟨oK⟩,⟨mK t⟩,⟨cB⟩⟩
    ·replace al:=Bool.eq_false_iff.mpr al;subst al;replace H:=iF H;obtain rfl:=Option.some.inj H;obtain⟨bk,bl,bm,bn,bo,bp⟩:=cz3 t;obtain⟨bR,bS,bT,aI,bU,bV⟩:=b2 HB (at_T93 HR0_2.out d);cases aI
     go_wp2_with (first|((with_reducible refine gF 79 ?_);refine gX (some 16) Try.func79 (spec_WideOk.calls a4.out) ?_;intro cA hb;replace t:=kB t hb;replace HB:=sB hb;(try clear hb)))
     go_ret;exact⟨rE,cB⟩
   ·rw[if_neg i]at H;have ai:=decide_eq_false i;clear i;replace H:=bE H;obtain⟨aG,aJ,H⟩:=H;by_cases am:aG=true
    ·subst am;replace H:=iT H;replace H:=bE H;obtain⟨aH,a5,H⟩:=H;by_cases an:aH=true
     ·subst an;replace H:=iT H;obtain rfl:=Option.some.inj H;obtain⟨cD,cE,cF,cG,cI,cJ⟩:=cz3 t
      go_wp2_with (first|((with_reducible refine gF 77 ?_);refine gX (some 20) Try.func77 (spec_HalfOk.calls aJ.out) ?_;rintro w' ⟨nd,rfl⟩)|(go_at_call 77;(with_reducible refine(spec_HalfOk.calls a5.out).mono ?_);rintro e w' ⟨rfl,⟨nd,rfl⟩⟩))
      go_ret;exact⟨rE,cB⟩
     ·replace an:=Bool.eq_false_iff.mpr an;subst an;replace H:=iF H;obtain rfl:=Option.some.inj H;obtain⟨cL,cM,cN,cO,cP,cQ⟩:=cz3 t
      go_wp2_with (first|((with_reducible refine gF 77 ?_);refine gX (some 20) Try.func77 (spec_HalfOk.calls aJ.out) ?_;rintro w' ⟨nd,rfl⟩)|(go_at_call 77;(with_reducible refine(spec_HalfOk.calls a5.out).mono ?_);rintro e w' ⟨rfl,⟨nd,rfl⟩⟩))
      go_ret;exact⟨rE,cB⟩
    ·replace am:=Bool.eq_false_iff.mpr am;subst am;replace H:=iF H;obtain rfl:=Option.some.inj H;obtain⟨cR,cS,cT,cU,cV,cW⟩:=cz3 t
     go_wp2_with (first|((with_reducible refine gF 77 ?_);refine gX (some 20) Try.func77 (spec_HalfOk.calls aJ.out) ?_;rintro w' ⟨nd,rfl⟩))
     go_ret;exact⟨rE,cB⟩
end Go.Proofs.Ytpbalojiaghfhaa.PFnShorter
