import Derived.Test.YtpbalojiaghfhaaGreatPFnCompilesToldy0
namespace Go.Proofs.YtpbalojiaghfhaaGreat.PFnCompilesTold
open Go.RowKit Go.Proofs.YtpbalojiaghfhaaGreatW.PrintWords Go.Proofs.YtpbalojiaghfhaaGreatW.PrintLast Go.Proofs.YtpbalojiaghfhaaGreatW.PrintMore Go.Proofs.YtpbalojiaghfhaaGreatW.Z
open Kd
attribute [local go_sem] isS max2_int min2_int max_two min_two max_three min_three max_four min_four
set_option linter.unusedVariables false
set_option linter.unusedSimpArgs false
def laws_big.f (c:List Int):Option (Bool):=some (decide ((c.length:Int)>1048576))
set_option maxHeartbeats 8000000 in
set_option maxRecDepth 100000 in
theorem laws_big.calls {t:Option Addr}{u:Nat}{c:List Int}{r:Bool}{w:World}(h:laws_big.f c=some r)(v:Kd.C (Kd.int .u8) w t c.length c)(x:c.length≤u) :
 Calls Tryz.prog 6 #[.slice t c.length u] w fun e w'=>e= .returned (.bool r)∧Drawn0 w w':=by
 have HR0:=aM v;have HC0:=aM x;clear v x;have H:(some (decide ((c.length:Int)>1048576)))=some r:=h;clear h;obtain rfl:=Option.some.inj H;go_enter Tryz.func6,Tryz.ntmps6;go_wp2;go_ret
 exact⟨by first|rfl|(simp;done)|(simp[*];done),by repeat(first|exact Drawn0.refl _|apply Drawn0.step)⟩
def slices_Index_int_int.l0:Nat→List Int→Int→Int→Int→Option (Int)
  | 0,_,_,_,_=>none
  | k+1,M,an,ao,O=>if O<ao then(if 0≤O then(if O<(M.length:Int)then(if an=(rd M O)then(some O)else(slices_Index_int_int.l0 k M an ao (wrap64 (O+1))))else(none))else(none))else(some (-1))
def slices_Index_int_int.f (k:Nat) (c:List Int) (b:Int):Option (Int):=slices_Index_int_int.l0 k c b (c.length:Int) 0
set_option maxHeartbeats 8000000 in
set_option maxRecDepth 100000 in
theorem slices_Index_int_int.calls {k:Nat}{t:Option Addr}{u:Nat}{c:List Int}{b:Int}{r:Int}{w:World}(h:slices_Index_int_int.f k c b=some r)(v:Kd.C (Kd.int .i64) w t c.length c)(x:c.length≤u) :
 Calls Tryz.prog 93 #[.slice t c.length u,.int .i64 b] w fun e w'=>e= .returned (.int .i64 r)∧Drawn0 w w':=by
 have HR0:=aM v;have HC0:=aM x;clear v x;have H:(slices_Index_int_int.l0 k c b (c.length:Int) 0)=some r:=h;clear h;have H':=aM H;clear H;go_enter Tryz.func93,Tryz.ntmps93;go_wp2
 go_loopg [8] k (fun kq aE w'=> ∃ (n:Int),aE= .int .i64 n∧Aside0 (slices_Index_int_int.l0 kq c b (c.length:Int) n=some r)∧Aside0 (kq≤k)∧Drawn0 w w')
 case atStart=>exact⟨(0),rS,H',⟨Nat.le_refl _⟩,by repeat(first|exact Drawn0.refl _|apply Drawn0.step)⟩
 case round=>
  clear H';obtain⟨n,rfl,HA,HK1,⟨m1,rfl⟩⟩:=hrel
  cases gk with
  | zero=>exact absurd HA.out (by simp[slices_Index_int_int.l0])
  | succ k1=>
   have H:=HA.out;clear HA;simp only[slices_Index_int_int.l0]at H;by_cases d:n<(c.length:Int)
   ·rw[if_pos d]at H;have ac:=decide_eq_true d;clear d;replace H:=gD H;obtain⟨ab,H⟩:=H;replace H:=gD H;obtain⟨aF,H⟩:=H;by_cases q:b=(rd c n)
    ·rw[if_pos q]at H;obtain⟨aG,aH⟩:=eT q;clear q;obtain rfl:=Option.some.inj H;have J:0≤(n:Int):=dA;have L:n<(c.length:Int):=dA;obtain⟨aI,ad,aJ⟩:=at_int HR0.out n J L;cases ad;replace J:=eq_true J;replace L:=eq_true L;go_wp2;go_ret
     exact⟨by first|rfl|(simp;done)|(simp[*];done),by repeat(first|exact Drawn0.refl _|apply Drawn0.step)⟩
    ·rw[if_neg q]at H;obtain⟨aG,aH⟩:=eF q;have H':=aM H;clear H;have J:0≤(n:Int):=dA;have L:n<(c.length:Int):=dA;obtain⟨aI,ad,aJ⟩:=at_int HR0.out n J L;cases ad;replace J:=eq_true J;replace L:=eq_true L;go_wp2;go_roundg k1
     case measure=>exact oK
     case rel=>exact⟨(wrap64 (n+1)),rS,H',⟨oK⟩,by repeat(first|exact Drawn0.refl _|apply Drawn0.step)⟩
   ·rw[if_neg d]at H;have ac:=decide_eq_false d;clear d;obtain rfl:=Option.some.inj H;go_wp2;go_ret
    exact⟨by first|rfl|(simp;done)|(simp[*];done),by repeat(first|exact Drawn0.refl _|apply Drawn0.step)⟩
def slices_Contains_int_int.f (k:Nat) (c:List Int) (b:Int):Option (Bool):=(slices_Index_int_int.f k c b).bind fun ap=>(some (decide (ap≥0)))
set_option maxHeartbeats 8000000 in
set_option maxRecDepth 100000 in
theorem slices_Contains_int_int.calls {k:Nat}{t:Option Addr}{u:Nat}{c:List Int}{b:Int}{r:Bool}{w:World}(h:slices_Contains_int_int.f k c b=some r)(v:Kd.C (Kd.int .i64) w t c.length c)(x:c.length≤u) :
 Calls Tryz.prog 53 #[.slice t c.length u,.int .i64 b] w fun e w'=>e= .returned (.bool r)∧Drawn0 w w':=by
 have HR0:=aM v;have HC0:=aM x;clear v x
 unfold slices_Contains_int_int.f at h;have H:=h
 clear h;replace H:=bE H;obtain⟨ap,X,H⟩:=H;obtain rfl:=Option.some.inj H;go_enter Tryz.func53,Tryz.ntmps53
 go_wp2_with (first|((with_reducible refine gF 93 ?_);refine gX (some 7) Tryz.func93 (slices_Index_int_int.calls X.out (cC HR0.out) HC0.out) ?_;rintro w' ⟨nd,rfl⟩))
 go_ret
 exact⟨by first|rfl|(simp;done)|(simp[*];done),by repeat(first|exact Drawn0.refl _|apply Drawn0.step)⟩
def impl_place.f (a:ByteArray):Option (ByteArray×Int×Int×Int×Int×ByteArray×ByteArray):=some (a,0,0,0,0,(⟨#[]⟩ :ByteArray),(⟨#[]⟩ :ByteArray))
set_option maxHeartbeats 8000000 in
set_option maxRecDepth 100000 in
theorem impl_place.calls {a:ByteArray}{r1:ByteArray}{r2:Int}{r3:Int}{r4:Int}{r5:Int}{r6:ByteArray}{r7:ByteArray}{w:World}(h:impl_place.f a=some (r1,r2,r3,r4,r5,r6,r7)) :
 Calls Tryz.prog 55 #[.string a] w fun e w'=>e= .returned (.agg #[.string r1,.int .i64 r2,.int .i64 r3,.int .i64 r4,.int .i64 r5,.string r6,.string r7])∧Below w.heap.size w w':=by
 have hu86:=Tryz.underlying86;have HB:=rW w;have H:(some (a,0,0,0,0,(⟨#[]⟩ :ByteArray),(⟨#[]⟩ :ByteArray)))=some (r1,r2,r3,r4,r5,r6,r7):=h;clear h;simp only[Option.some.injEq,Prod.mk.injEq]at H;obtain⟨rfl,rfl,rfl,rfl,rfl,rfl,rfl⟩:=H;go_enter Tryz.func55,Tryz.ntmps55
 go_wp2_with (first|((with_reducible refine gN 2 ?_);refine boxZ 2 #[.string (⟨#[]⟩ :ByteArray),.int .i64 0,.int .i64 0,.int .i64 0,.int .i64 0,.string (⟨#[]⟩ :ByteArray),.string (⟨#[]⟩ :ByteArray)] 86 ?_;intro aK hg aY hbox hb;have aq:=aM hbox;have GW103:=gS hg;have GE103:=gS hg;replace HB:=sB hb;clear hb hbox hg;obtain⟨aZ,a0,a1,a2,a3,a4,a5,a6,a7,a8,a9,ba,bb,bd⟩:=cz7 aq))
 refine bodyPost_ret (results_cell_row rfl _ _ aK 86 #[.string a,.int .i64 0,.int .i64 0,.int .i64 0,.int .i64 0,.string (⟨#[]⟩ :ByteArray),.string (⟨#[]⟩ :ByteArray)] (0,0) _ rfl (kS aq _) Tryz.underlying86 rfl (by kernel_rfl)) rfl ?_
 exact⟨rE,cB⟩
def impl_word.f (a:Int) (b:Int):Option (ByteArray×Int×Int×Int×Int×ByteArray×ByteArray):=some ((⟨#[]⟩ :ByteArray),a,b,0,0,(⟨#[]⟩ :ByteArray),(⟨#[]⟩ :ByteArray))
set_option maxHeartbeats 8000000 in
set_option maxRecDepth 100000 in
theorem impl_word.calls {a:Int}{b:Int}{r1:ByteArray}{r2:Int}{r3:Int}{r4:Int}{r5:Int}{r6:ByteArray}{r7:ByteArray}{w:World}(h:impl_word.f a b=some (r1,r2,r3,r4,r5,r6,r7)) :
 Calls Tryz.prog 56 #[.int .i64 a,.int .i64 b] w fun e w'=>e= .returned (.agg #[.string r1,.int .i64 r2,.int .i64 r3,.int .i64 r4,.int .i64 r5,.string r6,.string r7])∧Below w.heap.size w w':=by
 have hu86:=Tryz.underlying86;have hu71:=Tryz.underlying71;have HB:=rW w;have H:(some ((⟨#[]⟩ :ByteArray),a,b,0,0,(⟨#[]⟩ :ByteArray),(⟨#[]⟩ :ByteArray)))=some (r1,r2,r3,r4,r5,r6,r7):=h;clear h;simp only[Option.some.injEq,Prod.mk.injEq]at H;obtain⟨rfl,rfl,rfl,rfl,rfl,rfl,rfl⟩:=H;go_enter Tryz.func56,Tryz.ntmps56
 go_wp2_with (first|((with_reducible refine gN 4 ?_);refine boxZ 4 #[.string (⟨#[]⟩ :ByteArray),.int .i64 0,.int .i64 0,.int .i64 0,.int .i64 0,.string (⟨#[]⟩ :ByteArray),.string (⟨#[]⟩ :ByteArray)] 86 ?_;intro aL hg be hbox hb;have ar:=aM hbox;have GW104:=gS hg;have GE104:=gS hg;replace HB:=sB hb;clear hb hbox hg;obtain⟨bf,bg,bh,bi,bj,bk,bl,bm,bn,bo,bp,bq,br,bs⟩:=cz7 ar))
 refine bodyPost_ret (results_cell_row rfl _ _ aL 86 #[.string (⟨#[]⟩ :ByteArray),.int .i64 a,.int .i64 b,.int .i64 0,.int .i64 0,.string (⟨#[]⟩ :ByteArray),.string (⟨#[]⟩ :ByteArray)] (0,0) _ rfl (kS ar _) Tryz.underlying86 rfl (by kernel_rfl)) rfl ?_
 exact⟨rE,cB⟩
def impl_within.f (a:Int) (b:Int) (o:Int):Option (Bool):=if a≥b then(some (decide (a≤o)))else(some false)
set_option maxHeartbeats 8000000 in
set_option maxRecDepth 100000 in
theorem impl_within.calls {a:Int}{b:Int}{o:Int}{r:Bool}{w:World}(h:impl_within.f a b o=some r) :
 Calls Tryz.prog 81 #[.int .i64 a,.int .i64 b,.int .i64 o] w fun e w'=>e= .returned (.bool r)∧Drawn0 w w':=by
 have H:(if a≥b then(some (decide (a≤o)))else(some false))=some r:=h;clear h;by_cases i:a≥b
 ·rw[if_pos i]at H;have ab:decide (b≤a)=true:=decide_eq_true i;clear i;obtain rfl:=Option.some.inj H;go_enter Tryz.func81,Tryz.ntmps81;go_wp2;go_ret
  exact⟨by first|rfl|(simp;done)|(simp[*];done),by repeat(first|exact Drawn0.refl _|apply Drawn0.step)⟩
 ·rw[if_neg i]at H;have ab:decide (b≤a)=false:=decide_eq_false i;clear i;obtain rfl:=Option.some.inj H;go_enter Tryz.func81,Tryz.ntmps81;go_wp2;go_ret
  exact⟨by first|rfl|(simp;done)|(simp[*];done),by repeat(first|exact Drawn0.refl _|apply Drawn0.step)⟩
def impl_ResultOf.f (a:Int) (b:Int):Option (Int):=(impl_within.f a 0 5).bind fun ae=>(if ae=true then((impl_within.f b 0 65535).bind fun af=>(if af=true then(some (wrap64 ((wrap64 (65536*a))+b)))else(some 0)))else(some 0))
set_option maxHeartbeats 8000000 in
set_option maxRecDepth 100000 in
theorem impl_ResultOf.calls {a:Int}{b:Int}{r:Int}{w:World}(h:impl_ResultOf.f a b=some r) :
 Calls Tryz.prog 57 #[.int .i64 a,.int .i64 b] w fun e w'=>e= .returned (.int .i64 r)∧Drawn0 w w':=by
 unfold impl_ResultOf.f at h;have H:=h
 clear h;replace H:=bE H;obtain⟨ae,X,H⟩:=H;by_cases i:ae=true
 ·subst i;replace H:=iT H;replace H:=bE H;obtain⟨af,au,H⟩:=H;by_cases q:af=true
  ·subst q;replace H:=iT H;obtain rfl:=Option.some.inj H;go_enter Tryz.func57,Tryz.ntmps57
   go_wp2_with (first|((with_reducible refine gF 81 ?_);refine gX (some 6) Tryz.func81 (impl_within.calls X.out) ?_;rintro w' ⟨nd,rfl⟩)|(go_at_call 81;(with_reducible refine(impl_within.calls au.out).mono ?_);rintro e w' ⟨rfl,⟨nd,rfl⟩⟩))
   go_ret
   exact⟨by first|rfl|(simp;done)|(simp[*];done),by repeat(first|exact Drawn0.refl _|apply Drawn0.step)⟩
  ·replace q:=Bool.eq_false_iff.mpr q;subst q;replace H:=iF H;obtain rfl:=Option.some.inj H;go_enter Tryz.func57,Tryz.ntmps57
   go_wp2_with (first|((with_reducible refine gF 81 ?_);refine gX (some 6) Tryz.func81 (impl_within.calls X.out) ?_;rintro w' ⟨nd,rfl⟩)|(go_at_call 81;(with_reducible refine(impl_within.calls au.out).mono ?_);rintro e w' ⟨rfl,⟨nd,rfl⟩⟩))
   go_ret
   exact⟨by first|rfl|(simp;done)|(simp[*];done),by repeat(first|exact Drawn0.refl _|apply Drawn0.step)⟩
 ·replace i:=Bool.eq_false_iff.mpr i;subst i;replace H:=iF H;obtain rfl:=Option.some.inj H;go_enter Tryz.func57,Tryz.ntmps57
  go_wp2_with (first|((with_reducible refine gF 81 ?_);refine gX (some 6) Tryz.func81 (impl_within.calls X.out) ?_;rintro w' ⟨nd,rfl⟩))
  go_ret
  exact⟨by first|rfl|(simp;done)|(simp[*];done),by repeat(first|exact Drawn0.refl _|apply Drawn0.step)⟩
def impl_Decimal.l0:Nat→Int→ByteArray→Int→Option (ByteArray)
  | 0,_,_,_=>none
  | k+1,M,Y,j=>if j=0 then(if M<0 then(if 1+Y.size≤9223372036854775807 then(some ((⟨#[45]⟩ :ByteArray) ++ Y))else(none))else(some Y))else(if 0≤(mx (Int.tmod j 10) (wrap64 (-(Int.tmod j 10))))then(if(mx (Int.tmod j 10) (wrap64 (-(Int.tmod j 10))))≤(wrap64 ((mx (Int.tmod j 10) (wrap64 (-(Int.tmod j 10))))+1))then(if(wrap64 ((mx (Int.tmod j 10) (wrap64 (-(Int.tmod j 10))))+1))≤16 then(if((⟨#[48,49,50,51,52,53,54,55,56,57,97,98,99,100,101,102]⟩ :ByteArray).extract ((mx (Int.tmod j 10) (wrap64 (-(Int.tmod j 10)))):Int).toNat ((wrap64 ((mx (Int.tmod j 10) (wrap64 (-(Int.tmod j 10))))+1)):Int).toNat).size+Y.size≤9223372036854775807 then(impl_Decimal.l0 k M (((⟨#[48,49,50,51,52,53,54,55,56,57,97,98,99,100,101,102]⟩ :ByteArray).extract ((mx (Int.tmod j 10) (wrap64 (-(Int.tmod j 10)))):Int).toNat ((wrap64 ((mx (Int.tmod j 10) (wrap64 (-(Int.tmod j 10))))+1)):Int).toNat) ++ Y) (wrap64 (Int.tdiv j 10)))else(none))else(none))else(none))else(none))
def impl_Decimal.f (k:Nat) (a:Int):Option (ByteArray):=if a=0 then(some (⟨#[48]⟩ :ByteArray))else(impl_Decimal.l0 k a (⟨#[]⟩ :ByteArray) a)
set_option maxHeartbeats 8000000 in
set_option maxRecDepth 100000 in
theorem impl_Decimal.calls {k:Nat}{a:Int}{r:ByteArray}{w:World}(h:impl_Decimal.f k a=some r) :
 Calls Tryz.prog 94 #[.int .i64 a] w fun e w'=>e= .returned (.string r)∧Below w.heap.size w w':=by
 have HB:=rW w;have H:(if a=0 then(some (⟨#[48]⟩ :ByteArray))else(impl_Decimal.l0 k a (⟨#[]⟩ :ByteArray) a))=some r:=h;clear h;by_cases U:a=0
 ·rw[if_pos U]at H;obtain⟨av,aw⟩:=eT U;clear U;obtain rfl:=Option.some.inj H;go_enter Tryz.func94,Tryz.ntmps94;go_wp2;go_ret;exact⟨rE,cB⟩
 ·rw[if_neg U]at H;obtain⟨av,aw⟩:=eF U;have H':=aM H;clear H;go_enter Tryz.func94,Tryz.ntmps94;go_wp2
  go_loopg [3,4] k (fun kq aN aO w'=> ∃ (y:ByteArray) (p:Int),aN= .string y∧aO= .int .i64 p∧Aside0 (impl_Decimal.l0 kq a y p=some r)∧Aside0 (kq≤k)∧Aside0 (Below w.heap.size w w'))
  case atStart=>exact⟨((⟨#[]⟩ :ByteArray)),(a),rS,rS,H',⟨Nat.le_refl _⟩,⟨cB⟩⟩
  case round=>
   clear H';(try clear U);(try clear av);(try clear aw);obtain⟨y,p,rfl,rfl,HA,HK1,HB⟩:=hrel
   cases gk with
   | zero=>exact absurd HA.out (by simp[impl_Decimal.l0])
   | succ k1=>
    have H:=HA.out;clear HA;simp only[impl_Decimal.l0]at H;by_cases d:p=0
    ·rw[if_pos d]at H;obtain⟨ac,aP⟩:=eT d;clear d;by_cases i:a<0
     ·rw[if_pos i]at H;have ab:=decide_eq_true i;clear i;replace H:=gC H;obtain⟨z,H⟩:=H;have aF:=eq_true z;have bu:decide (1+y.size≤9223372036854775807)=true:=decide_eq_true z
      try have bv:(9223372036854775807<1+y.size)=False:=eq_false (Nat.not_lt.2 z)
      obtain rfl:=Option.some.inj H;go_wp2;go_ret;exact⟨rE,cB⟩
     ·rw[if_neg i]at H;have ab:=decide_eq_false i;clear i;obtain rfl:=Option.some.inj H;go_wp2;go_ret;exact⟨rE,cB⟩
    ·rw[if_neg d]at H;obtain⟨ac,aP⟩:=eF d;obtain⟨ji6,hji6⟩ : ∃ j_:Int,(mx (Int.tmod p 10) (wrap64 (-(Int.tmod p 10))))=j_:=⟨_,rfl⟩
     (first|rw[hji6]at H|simp only[hji6]at H)
     have hji6_:(if(Int.tmod p 10)<(wrap64 (-(Int.tmod p 10)))then(wrap64 (-(Int.tmod p 10)))else(Int.tmod p 10))=ji6:=hji6;replace H:=gC H;obtain⟨A,H⟩:=H;have bw:=eq_true A;have bx:decide (0≤(ji6))=true:=decide_eq_true A;clear A;replace H:=gC H;obtain⟨ax,H⟩:=H;have bz:=eq_true ax;have bA:decide ((ji6)≤(wrap64 ((ji6)+1)))=true:=decide_eq_true ax;replace H:=gC H;obtain⟨ay,H⟩:=H;have bB:=eq_true ay;have bC:decide ((wrap64 ((ji6)+1))≤16)=true:=decide_eq_true ay;replace H:=gC H;obtain⟨ag,H⟩:=H;have bD:=eq_true ag;have bF:decide (((⟨#[48,49,50,51,52,53,54,55,56,57,97,98,99,100,101,102]⟩ :ByteArray).extract ((ji6):Int).toNat ((wrap64 ((ji6)+1)):Int).toNat).size+y.size≤9223372036854775807)=true:=decide_eq_true ag
     try have bG:(9223372036854775807<((⟨#[48,49,50,51,52,53,54,55,56,57,97,98,99,100,101,102]⟩ :ByteArray).extract ((ji6):Int).toNat ((wrap64 ((ji6)+1)):Int).toNat).size+y.size)=False:=eq_false (Nat.not_lt.2 ag)
     have H':=aM H;clear H;go_wp2;go_roundg k1
     case measure=>exact oK
     case rel=>exact⟨(((⟨#[48,49,50,51,52,53,54,55,56,57,97,98,99,100,101,102]⟩ :ByteArray).extract ((ji6):Int).toNat ((wrap64 ((ji6)+1)):Int).toNat) ++ y),(wrap64 (Int.tdiv p 10)),(by first|rfl|(simp;done)|(simp only[← hji6] <;> (first|rfl|simp))|(simp[*];done)),rS,H',⟨oK⟩,⟨cB⟩⟩
def impl_ask.f (a:Int) (b:Int) (o:ByteArray) (W:ByteArray):Option (ByteArray×Int×Int×Int×Int×ByteArray×ByteArray):=some ((⟨#[]⟩ :ByteArray),a,b,0,0,o,W)
set_option maxHeartbeats 8000000 in
set_option maxRecDepth 100000 in
theorem impl_ask.calls {a:Int}{b:Int}{o:ByteArray}{W:ByteArray}{r1:ByteArray}{r2:Int}{r3:Int}{r4:Int}{r5:Int}{r6:ByteArray}{r7:ByteArray}{w:World}(h:impl_ask.f a b o W=some (r1,r2,r3,r4,r5,r6,r7)) :
 Calls Tryz.prog 61 #[.int .i64 a,.int .i64 b,.string o,.string W] w fun e w'=>e= .returned (.agg #[.string r1,.int .i64 r2,.int .i64 r3,.int .i64 r4,.int .i64 r5,.string r6,.string r7])∧Below w.heap.size w w':=by
 have hu86:=Tryz.underlying86;have hu71:=Tryz.underlying71;have HB:=rW w;have H:(some ((⟨#[]⟩ :ByteArray),a,b,0,0,o,W))=some (r1,r2,r3,r4,r5,r6,r7):=h;clear h;simp only[Option.some.injEq,Prod.mk.injEq]at H;obtain⟨rfl,rfl,rfl,rfl,rfl,rfl,rfl⟩:=H;go_enter Tryz.func61,Tryz.ntmps61
 go_wp2_with (first|((with_reducible refine gN 8 ?_);refine boxZ 8 #[.string (⟨#[]⟩ :ByteArray),.int .i64 0,.int .i64 0,.int .i64 0,.int .i64 0,.string (⟨#[]⟩ :ByteArray),.string (⟨#[]⟩ :ByteArray)] 86 ?_;intro aQ hg aR hbox hb;have az:=aM hbox;have GW107:=gS hg;have GE107:=gS hg;replace HB:=sB hb;clear hb hbox hg;obtain⟨aS,aT,bH,bI,bJ,bL,bM,aU,aV,bN,bO,bP,bQ,bR⟩:=cz7 az))
 refine bodyPost_ret (results_cell_row rfl _ _ aQ 86 #[.string (⟨#[]⟩ :ByteArray),.int .i64 a,.int .i64 b,.int .i64 0,.int .i64 0,.string o,.string W] (0,0) _ rfl (kS az _) Tryz.underlying86 rfl (by kernel_rfl)) rfl ?_
 exact⟨rE,cB⟩
def impl_HalfOk.f (a:Int):Option (Bool):=(impl_within.f a 0 4294967295).bind fun aA=>(some aA)
set_option maxHeartbeats 8000000 in
set_option maxRecDepth 100000 in
theorem impl_HalfOk.calls {a:Int}{r:Bool}{w:World}(h:impl_HalfOk.f a=some r) :
 Calls Tryz.prog 75 #[.int .i64 a] w fun e w'=>e= .returned (.bool r)∧Drawn0 w w':=by
 unfold impl_HalfOk.f at h;have H:=h
 clear h;replace H:=bE H;obtain⟨aA,s,H⟩:=H;obtain rfl:=Option.some.inj H;go_enter Tryz.func75,Tryz.ntmps75
 go_wp2_with (first|((with_reducible refine gF 81 ?_);refine gX (some 4) Tryz.func81 (impl_within.calls s.out) ?_;rintro w' ⟨nd,rfl⟩))
 go_ret
 exact⟨by first|rfl|(simp;done)|(simp[*];done),by repeat(first|exact Drawn0.refl _|apply Drawn0.step)⟩
def impl_WideOk.f (l:Int) (m:Int):Option (Bool):=(impl_HalfOk.f l).bind fun ah=>(if ah=true then((impl_HalfOk.f m).bind fun aB=>(some aB))else(some false))
set_option maxHeartbeats 8000000 in
set_option maxRecDepth 100000 in
theorem impl_WideOk.calls {l:Int}{m:Int}{r:Bool}{w:World}(h:impl_WideOk.f l m=some r) :
 Calls Tryz.prog 136 #[.agg #[.int .i64 l,.int .i64 m]] w fun e w'=>e= .returned (.bool r)∧Below w.heap.size w w':=by
 have hu105:=Tryz.underlying105;have HB:=rW w
 unfold impl_WideOk.f at h;have H:=h
 clear h;replace H:=bE H;obtain⟨ah,s,H⟩:=H;by_cases d:ah=true
 ·subst d;replace H:=iT H;replace H:=bE H;obtain⟨aB,aa,H⟩:=H;obtain rfl:=Option.some.inj H;go_enter Tryz.func136,Tryz.ntmps136
  go_wp2_with (first|((with_reducible refine gN 1 ?_);refine boxZ 1 #[.int .i64 l,.int .i64 m] 105 ?_;intro aW hg aR hbox hb;have ai:=aM hbox;have GW109:=gS hg;have GE109:=gS hg;replace HB:=sB hb;clear hb hbox hg;obtain⟨aS,aT,aU,aV⟩:=cz2 ai)|((with_reducible refine gF 75 ?_);refine gX (some 5) Tryz.func75 (impl_HalfOk.calls s.out) ?_;rintro w' ⟨nd,rfl⟩)|(go_at_call 75;(with_reducible refine(impl_HalfOk.calls aa.out).mono ?_);rintro e w' ⟨rfl,⟨nd,rfl⟩⟩))
  go_ret;exact⟨rE,cB⟩
 ·replace d:=Bool.eq_false_iff.mpr d;subst d;replace H:=iF H;obtain rfl:=Option.some.inj H;go_enter Tryz.func136,Tryz.ntmps136
  go_wp2_with (first|((with_reducible refine gN 1 ?_);refine boxZ 1 #[.int .i64 l,.int .i64 m] 105 ?_;intro aW hg bS hbox hb;have ai:=aM hbox;have GW109:=gS hg;have GE109:=gS hg;replace HB:=sB hb;clear hb hbox hg;obtain⟨bT,bU,bV,bW⟩:=cz2 ai)|((with_reducible refine gF 75 ?_);refine gX (some 5) Tryz.func75 (impl_HalfOk.calls s.out) ?_;rintro w' ⟨nd,rfl⟩))
  go_ret;exact⟨rE,cB⟩
def impl_CondOk.f (l:Int) (m:Int) (D:Int) (E:Int) (G:Int) (I:Int):Option (Bool):=(impl_within.f l 0 2).bind fun aj=>(if aj=true then((impl_WideOk.f m D).bind fun ak=>(if ak=true then((impl_WideOk.f G I).bind fun al=>(if al=true then((impl_within.f E 1 6).bind fun aC=>(some aC))else(some false)))else(some false)))else(some false))
set_option maxHeartbeats 8000000 in
set_option maxRecDepth 100000 in
theorem impl_CondOk.calls {l:Int}{m:Int}{D:Int}{E:Int}{G:Int}{I:Int}{r:Bool}{w:World}(h:impl_CondOk.f l m D E G I=some r) :
 Calls Tryz.prog 107 #[.agg #[.int .i64 l,.int .i64 m,.int .i64 D,.int .i64 E,.int .i64 G,.int .i64 I]] w fun e w'=>e= .returned (.bool r)∧Below w.heap.size w w':=by
 have hu118:=Tryz.underlying118;have hu105:=Tryz.underlying105;have HB:=rW w
 unfold impl_CondOk.f at h;have H:=h
 clear h;replace H:=bE H;obtain⟨aj,s,H⟩:=H;by_cases d:aj=true
 ·subst d;replace H:=iT H;replace H:=bE H;obtain⟨ak,aa,H⟩:=H;by_cases z:ak=true
  ·subst z;replace H:=iT H;replace H:=bE H;obtain⟨al,aD,H⟩:=H;by_cases A:al=true
   ·subst A;replace H:=iT H;replace H:=bE H;obtain⟨aC,aX,H⟩:=H;obtain rfl:=Option.some.inj H;go_enter Tryz.func107,Tryz.ntmps107
    go_wp2_with (first|((with_reducible refine gN 1 ?_);refine boxZ 1 #[.int .i64 l,.int .i64 m,.int .i64 D,.int .i64 E,.int .i64 G,.int .i64 I] 118 ?_;intro am hg bX hbox hb;have g:=aM hbox;have GW112:=gS hg;have GE112:=gS hg;replace HB:=sB hb;clear hb hbox hg;obtain⟨bY,bZ,b0,b1,b5,b8,b9,ca,cb,cc,cd,ce⟩:=cz6 g)|((with_reducible refine gF 81 ?_);refine gX (some 5) Tryz.func81 (impl_within.calls s.out) ?_;rintro w' ⟨nd,rfl⟩)|(go_at_call 136;(with_reducible refine(impl_WideOk.calls aa.out).mono ?_);rintro e cf ⟨rfl,hb⟩;replace g:=kB g hb;replace HB:=sB hb;(try clear hb);obtain⟨cg,ch,ci,cj,ck,cl,cm,cn,co,cp,cq,cr⟩:=cz6 g)|(go_at_call 136;(with_reducible refine(impl_WideOk.calls aD.out).mono ?_);rintro e cs ⟨rfl,hb⟩;replace g:=kB g hb;replace HB:=sB hb;(try clear hb);obtain⟨ct,cu,cv,cw,cx,cy,cz,cA,cD,cE,cF,cG⟩:=cz6 g)|(go_at_call 81;(with_reducible refine(impl_within.calls aX.out).mono ?_);rintro e w' ⟨rfl,⟨nd,rfl⟩⟩))
    go_ret;exact⟨rE,cB⟩
   ·replace A:=Bool.eq_false_iff.mpr A;subst A;replace H:=iF H;obtain rfl:=Option.some.inj H;go_enter Tryz.func107,Tryz.ntmps107
    go_wp2_with (first|((with_reducible refine gN 1 ?_);refine boxZ 1 #[.int .i64 l,.int .i64 m,.int .i64 D,.int .i64 E,.int .i64 G,.int .i64 I] 118 ?_;intro am hg cI hbox hb;have g:=aM hbox;have GW112:=gS hg;have GE112:=gS hg;replace HB:=sB hb;clear hb hbox hg;obtain⟨cJ,cL,cM,cN,cO,cP,cQ,cR,cS,cT,cU,cV⟩:=cz6 g)|((with_reducible refine gF 81 ?_);refine gX (some 5) Tryz.func81 (impl_within.calls s.out) ?_;rintro w' ⟨nd,rfl⟩)|(go_at_call 136;(with_reducible refine(impl_WideOk.calls aa.out).mono ?_);rintro e cW ⟨rfl,hb⟩;replace g:=kB g hb;replace HB:=sB hb;(try clear hb);obtain⟨cX,cY,cZ,c0,c1,c2,c3,c4,c5,c6,c7,c8⟩:=cz6 g)|(go_at_call 136;(with_reducible refine(impl_WideOk.calls aD.out).mono ?_);rintro e c9 ⟨rfl,hb⟩;replace g:=kB g hb;replace HB:=sB hb;(try clear hb)))
    go_ret;exact⟨rE,cB⟩
  ·replace z:=Bool.eq_false_iff.mpr z;subst z;replace H:=iF H;obtain rfl:=Option.some.inj H;go_enter Tryz.func107,Tryz.ntmps107
   go_wp2_with (first|((with_reducible refine gN 1 ?_);refine boxZ 1 #[.int .i64 l,.int .i64 m,.int .i64 D,.int .i64 E,.int .i64 G,.int .i64 I] 118 ?_;intro am hg da hbox hb;have g:=aM hbox;have GW112:=gS hg;have GE112:=gS hg;replace HB:=sB hb;clear hb hbox hg;obtain⟨db,dc,dd,de,df,dg,dh,di,dj,dk,dl,dm⟩:=cz6 g)|((with_reducible refine gF 81 ?_);refine gX (some 5) Tryz.func81 (impl_within.calls s.out) ?_;rintro w' ⟨nd,rfl⟩)|(go_at_call 136;(with_reducible refine(impl_WideOk.calls aa.out).mono ?_);rintro e dn ⟨rfl,hb⟩;replace g:=kB g hb;replace HB:=sB hb;(try clear hb)))
   go_ret;exact⟨rE,cB⟩
 ·replace d:=Bool.eq_false_iff.mpr d;subst d;replace H:=iF H;obtain rfl:=Option.some.inj H;go_enter Tryz.func107,Tryz.ntmps107
  go_wp2_with (first|((with_reducible refine gN 1 ?_);refine boxZ 1 #[.int .i64 l,.int .i64 m,.int .i64 D,.int .i64 E,.int .i64 G,.int .i64 I] 118 ?_;intro am hg dp hbox hb;have g:=aM hbox;have GW112:=gS hg;have GE112:=gS hg;replace HB:=sB hb;clear hb hbox hg;obtain⟨dq,dr,ds,dt,du,dv,dw,dx,dy,dz,dC,dD⟩:=cz6 g)|((with_reducible refine gF 81 ?_);refine gX (some 5) Tryz.func81 (impl_within.calls s.out) ?_;rintro w' ⟨nd,rfl⟩))
  go_ret;exact⟨rE,cB⟩
end Go.Proofs.YtpbalojiaghfhaaGreat.PFnCompilesTold
