import Derived.Test.YtpbalojiaghfhaaGreatPFnExactCompiley0
namespace Go.Proofs.YtpbalojiaghfhaaGreat.PFnExactCompile
open Go.RowKit Go.Proofs.YtpbalojiaghfhaaGreatW.PrintWords Go.Proofs.YtpbalojiaghfhaaGreatW.PrintLast Go.Proofs.YtpbalojiaghfhaaGreatW.PrintMore Go.Proofs.YtpbalojiaghfhaaGreatW.Z
open Kd
attribute [local go_sem] isS max2_int min2_int max_two min_two max_three min_three max_four min_four
set_option linter.unusedVariables false
set_option linter.unusedSimpArgs false
def slices_Index_int_int.l0:Nat→List Int→Int→Int→Int→Option (Int)
  | 0,_,_,_,_=>none
  | k+1,G,ar,au,I=>if I<au then(if 0≤I then(if I<(G.length:Int)then(if ar=(rd G I)then(some I)else(slices_Index_int_int.l0 k G ar au (wrap64 (I+1))))else(none))else(none))else(some (-1))
def slices_Index_int_int.f (k:Nat) (d:List Int) (b:Int):Option (Int):=slices_Index_int_int.l0 k d b (d.length:Int) 0
set_option maxHeartbeats 8000000 in
set_option maxRecDepth 100000 in
theorem slices_Index_int_int.calls (k:Nat) (J:Option Addr) (L:Nat) (d:List Int) (b:Int) (r:Int) (w:World) (U:Kd.C (Kd.int .i64) w J d.length d) (W:d.length≤L) (h:slices_Index_int_int.f k d b=some r) :
 Calls Tryz.prog 93 #[.slice J d.length L,.int .i64 b] w fun e w'=>e= .returned (.int .i64 r)∧Drawn0 w w':=by
 have HR0:=aM U;have HC0:=aM W;clear U W;have H:(slices_Index_int_int.l0 k d b (d.length:Int) 0)=some r:=h;clear h;have H':=aM H;clear H;go_enter Tryz.func93,Tryz.ntmps93;go_wp2
 go_loopg [8] k (fun kq aE w'=> ∃ (n:Int),aE= .int .i64 n∧Aside0 (slices_Index_int_int.l0 kq d b (d.length:Int) n=some r)∧Aside0 (kq≤k)∧Drawn0 w w')
 case atStart=>exact⟨(0),rS,H',⟨Nat.le_refl _⟩,by repeat(first|exact Drawn0.refl _|apply Drawn0.step)⟩
 case round=>
  clear H';obtain⟨n,rfl,HA,HK1,⟨m1,rfl⟩⟩:=hrel
  cases gk with
  | zero=>exact absurd HA.out (by simp[slices_Index_int_int.l0])
  | succ k1=>
   have H:=HA.out;clear HA;simp only[slices_Index_int_int.l0]at H;by_cases g:n<(d.length:Int)
   ·rw[if_pos g]at H;have ac:=decide_eq_true g;clear g;replace H:=gD H;obtain⟨ab,H⟩:=H;replace H:=gD H;obtain⟨aF,H⟩:=H;by_cases s:b=(rd d n)
    ·rw[if_pos s]at H;obtain⟨aG,aH⟩:=eT s;clear s;obtain rfl:=Option.some.inj H;have D:0≤(n:Int):=dA;have E:n<(d.length:Int):=dA;obtain⟨aI,ad,aJ⟩:=at_int HR0.out n D E;cases ad;replace D:=eq_true D;replace E:=eq_true E;go_wp2;go_ret
     exact⟨by first|rfl|(simp;done)|(simp[*];done),by repeat(first|exact Drawn0.refl _|apply Drawn0.step)⟩
    ·rw[if_neg s]at H;obtain⟨aG,aH⟩:=eF s;have H':=aM H;clear H;have D:0≤(n:Int):=dA;have E:n<(d.length:Int):=dA;obtain⟨aI,ad,aJ⟩:=at_int HR0.out n D E;cases ad;replace D:=eq_true D;replace E:=eq_true E;go_wp2;go_roundg k1
     case measure=>have:=HK1.out;omega
     case rel=>exact⟨(wrap64 (n+1)),rS,H',⟨by have:=HK1.out;omega⟩,by repeat(first|exact Drawn0.refl _|apply Drawn0.step)⟩
   ·rw[if_neg g]at H;have ac:=decide_eq_false g;clear g;obtain rfl:=Option.some.inj H;go_wp2;go_ret
    exact⟨by first|rfl|(simp;done)|(simp[*];done),by repeat(first|exact Drawn0.refl _|apply Drawn0.step)⟩
def slices_Contains_int_int.f (k:Nat) (d:List Int) (b:Int):Option (Bool):=(slices_Index_int_int.f k d b).bind fun ae=>(some (decide (ae≥0)))
set_option maxHeartbeats 8000000 in
set_option maxRecDepth 100000 in
theorem slices_Contains_int_int.calls (k:Nat) (J:Option Addr) (L:Nat) (d:List Int) (b:Int) (r:Bool) (w:World) (U:Kd.C (Kd.int .i64) w J d.length d) (W:d.length≤L) (h:slices_Contains_int_int.f k d b=some r) :
 Calls Tryz.prog 53 #[.slice J d.length L,.int .i64 b] w fun e w'=>e= .returned (.bool r)∧Drawn0 w w':=by
 have HR0:=aM U;have HC0:=aM W;clear U W
 unfold slices_Contains_int_int.f at h;have H:=h
 clear h;replace H:=bE H;obtain⟨ae,X,H⟩:=H;obtain rfl:=Option.some.inj H;go_enter Tryz.func53,Tryz.ntmps53
 go_wp2_with (first|((with_reducible refine gF 93 ?_);refine goZ (some 7) Tryz.func93 #[.slice J d.length L,.int .i64 b] ?_;(with_reducible refine(slices_Index_int_int.calls k _ _ d b ae _ ?side1 ?side2 X.out).mono ?_);(case side1=>exact cC HR0.out);(case side2=>exact HC0.out);rintro e w' ⟨rfl,⟨nd,rfl⟩⟩;refine⟨_,rfl,?_⟩))
 go_ret
 exact⟨by first|rfl|(simp;done)|(simp[*];done),by repeat(first|exact Drawn0.refl _|apply Drawn0.step)⟩
def impl_place.f (a:ByteArray):Option (ByteArray×Int×Int×Int×Int×ByteArray×ByteArray):=some (a,0,0,0,0,(⟨#[]⟩ :ByteArray),(⟨#[]⟩ :ByteArray))
set_option maxHeartbeats 8000000 in
set_option maxRecDepth 100000 in
theorem impl_place.calls (a:ByteArray) (r1:ByteArray) (r2:Int) (r3:Int) (r4:Int) (r5:Int) (r6:ByteArray) (r7:ByteArray) (w:World) (h:impl_place.f a=some (r1,r2,r3,r4,r5,r6,r7)) :
 Calls Tryz.prog 55 #[.string a] w fun e w'=>e= .returned (.agg #[.string r1,.int .i64 r2,.int .i64 r3,.int .i64 r4,.int .i64 r5,.string r6,.string r7])∧Below w.heap.size w w':=by
 have hu86:=Tryz.underlying86;have HB:=aM (Below.refl w.heap.size w);have H:(some (a,0,0,0,0,(⟨#[]⟩ :ByteArray),(⟨#[]⟩ :ByteArray)))=some (r1,r2,r3,r4,r5,r6,r7):=h;clear h;simp only[Option.some.injEq,Prod.mk.injEq]at H;obtain⟨rfl,rfl,rfl,rfl,rfl,rfl,rfl⟩:=H;go_enter Tryz.func55,Tryz.ntmps55
 go_wp2_with (first|((with_reducible refine gN 2 ?_);refine boxZ 2 #[.string (⟨#[]⟩ :ByteArray),.int .i64 0,.int .i64 0,.int .i64 0,.int .i64 0,.string (⟨#[]⟩ :ByteArray),.string (⟨#[]⟩ :ByteArray)] 86 ?_;intro aK hg aY hbox hb;have av:=aM (hbox);have GW103:=gS hg;have GE103:=gS hg;replace HB:=sB hb;clear hb hbox hg;obtain⟨aZ,a0,a1,a2,a3,a4,a5,a6,a7,a8,a9,ba,bb,bd⟩:=cz7 av))
 refine bodyPost_ret (results_cell_row rfl _ _ aK 86 #[.string a,.int .i64 0,.int .i64 0,.int .i64 0,.int .i64 0,.string (⟨#[]⟩ :ByteArray),.string (⟨#[]⟩ :ByteArray)] (0,0) _ rfl (kS av _) Tryz.underlying86 rfl (by kernel_rfl)) rfl ?_
 exact⟨rE,cB⟩
def impl_word.f (a:Int) (b:Int):Option (ByteArray×Int×Int×Int×Int×ByteArray×ByteArray):=some ((⟨#[]⟩ :ByteArray),a,b,0,0,(⟨#[]⟩ :ByteArray),(⟨#[]⟩ :ByteArray))
set_option maxHeartbeats 8000000 in
set_option maxRecDepth 100000 in
theorem impl_word.calls (a:Int) (b:Int) (r1:ByteArray) (r2:Int) (r3:Int) (r4:Int) (r5:Int) (r6:ByteArray) (r7:ByteArray) (w:World) (h:impl_word.f a b=some (r1,r2,r3,r4,r5,r6,r7)) :
 Calls Tryz.prog 56 #[.int .i64 a,.int .i64 b] w fun e w'=>e= .returned (.agg #[.string r1,.int .i64 r2,.int .i64 r3,.int .i64 r4,.int .i64 r5,.string r6,.string r7])∧Below w.heap.size w w':=by
 have hu86:=Tryz.underlying86;have hu71:=Tryz.underlying71;have HB:=aM (Below.refl w.heap.size w);have H:(some ((⟨#[]⟩ :ByteArray),a,b,0,0,(⟨#[]⟩ :ByteArray),(⟨#[]⟩ :ByteArray)))=some (r1,r2,r3,r4,r5,r6,r7):=h;clear h;simp only[Option.some.injEq,Prod.mk.injEq]at H;obtain⟨rfl,rfl,rfl,rfl,rfl,rfl,rfl⟩:=H;go_enter Tryz.func56,Tryz.ntmps56
 go_wp2_with (first|((with_reducible refine gN 4 ?_);refine boxZ 4 #[.string (⟨#[]⟩ :ByteArray),.int .i64 0,.int .i64 0,.int .i64 0,.int .i64 0,.string (⟨#[]⟩ :ByteArray),.string (⟨#[]⟩ :ByteArray)] 86 ?_;intro aL hg be hbox hb;have aw:=aM (hbox);have GW104:=gS hg;have GE104:=gS hg;replace HB:=sB hb;clear hb hbox hg;obtain⟨bf,bg,bh,bi,bj,bk,bl,bm,bn,bo,bp,bq,br,bs⟩:=cz7 aw))
 refine bodyPost_ret (results_cell_row rfl _ _ aL 86 #[.string (⟨#[]⟩ :ByteArray),.int .i64 a,.int .i64 b,.int .i64 0,.int .i64 0,.string (⟨#[]⟩ :ByteArray),.string (⟨#[]⟩ :ByteArray)] (0,0) _ rfl (kS aw _) Tryz.underlying86 rfl (by kernel_rfl)) rfl ?_
 exact⟨rE,cB⟩
def impl_within.f (a:Int) (b:Int) (o:Int):Option (Bool):=if a≥b then(some (decide (a≤o)))else(some false)
set_option maxHeartbeats 8000000 in
set_option maxRecDepth 100000 in
theorem impl_within.calls (a:Int) (b:Int) (o:Int) (r:Bool) (w:World) (h:impl_within.f a b o=some r) :
 Calls Tryz.prog 81 #[.int .i64 a,.int .i64 b,.int .i64 o] w fun e w'=>e= .returned (.bool r)∧Drawn0 w w':=by
 have H:(if a≥b then(some (decide (a≤o)))else(some false))=some r:=h;clear h;by_cases l:a≥b
 ·rw[if_pos l]at H;have ab:decide (b≤a)=true:=decide_eq_true l;clear l;obtain rfl:=Option.some.inj H;go_enter Tryz.func81,Tryz.ntmps81;go_wp2;go_ret
  exact⟨by first|rfl|(simp;done)|(simp[*];done),by repeat(first|exact Drawn0.refl _|apply Drawn0.step)⟩
 ·rw[if_neg l]at H;have ab:decide (b≤a)=false:=decide_eq_false l;clear l;obtain rfl:=Option.some.inj H;go_enter Tryz.func81,Tryz.ntmps81;go_wp2;go_ret
  exact⟨by first|rfl|(simp;done)|(simp[*];done),by repeat(first|exact Drawn0.refl _|apply Drawn0.step)⟩
def impl_ResultOf.f (a:Int) (b:Int):Option (Int):=(impl_within.f a 0 5).bind fun af=>(if af=true then((impl_within.f b 0 65535).bind fun ag=>(if ag=true then(some (wrap64 ((wrap64 (65536*a))+b)))else(some 0)))else(some 0))
set_option maxHeartbeats 8000000 in
set_option maxRecDepth 100000 in
theorem impl_ResultOf.calls (a:Int) (b:Int) (r:Int) (w:World) (h:impl_ResultOf.f a b=some r) :
 Calls Tryz.prog 57 #[.int .i64 a,.int .i64 b] w fun e w'=>e= .returned (.int .i64 r)∧Drawn0 w w':=by
 unfold impl_ResultOf.f at h;have H:=h
 clear h;replace H:=bE H;obtain⟨af,X,H⟩:=H;by_cases l:af=true
 ·subst l;replace H:=iT H;replace H:=bE H;obtain⟨ag,ax,H⟩:=H;by_cases s:ag=true
  ·subst s;replace H:=iT H;obtain rfl:=Option.some.inj H;go_enter Tryz.func57,Tryz.ntmps57
   go_wp2_with (first|((with_reducible refine gF 81 ?_);refine goZ (some 6) Tryz.func81 #[.int .i64 a,.int .i64 0,.int .i64 5] ?_;(with_reducible refine(impl_within.calls a 0 5 true _ X.out).mono ?_);rintro e w' ⟨rfl,⟨nd,rfl⟩⟩;refine⟨_,rfl,?_⟩)|(go_at_call 81;(with_reducible refine(impl_within.calls b 0 65535 true _ ax.out).mono ?_);rintro e w' ⟨rfl,⟨nd,rfl⟩⟩))
   go_ret
   exact⟨by first|rfl|(simp;done)|(simp[*];done),by repeat(first|exact Drawn0.refl _|apply Drawn0.step)⟩
  ·replace s:=Bool.eq_false_iff.mpr s;subst s;replace H:=iF H;obtain rfl:=Option.some.inj H;go_enter Tryz.func57,Tryz.ntmps57
   go_wp2_with (first|((with_reducible refine gF 81 ?_);refine goZ (some 6) Tryz.func81 #[.int .i64 a,.int .i64 0,.int .i64 5] ?_;(with_reducible refine(impl_within.calls a 0 5 true _ X.out).mono ?_);rintro e w' ⟨rfl,⟨nd,rfl⟩⟩;refine⟨_,rfl,?_⟩)|(go_at_call 81;(with_reducible refine(impl_within.calls b 0 65535 false _ ax.out).mono ?_);rintro e w' ⟨rfl,⟨nd,rfl⟩⟩))
   go_ret
   exact⟨by first|rfl|(simp;done)|(simp[*];done),by repeat(first|exact Drawn0.refl _|apply Drawn0.step)⟩
 ·replace l:=Bool.eq_false_iff.mpr l;subst l;replace H:=iF H;obtain rfl:=Option.some.inj H;go_enter Tryz.func57,Tryz.ntmps57
  go_wp2_with (first|((with_reducible refine gF 81 ?_);refine goZ (some 6) Tryz.func81 #[.int .i64 a,.int .i64 0,.int .i64 5] ?_;(with_reducible refine(impl_within.calls a 0 5 false _ X.out).mono ?_);rintro e w' ⟨rfl,⟨nd,rfl⟩⟩;refine⟨_,rfl,?_⟩))
  go_ret
  exact⟨by first|rfl|(simp;done)|(simp[*];done),by repeat(first|exact Drawn0.refl _|apply Drawn0.step)⟩
def impl_Decimal.l0:Nat→Int→ByteArray→Int→Option (ByteArray)
  | 0,_,_,_=>none
  | k+1,G,Y,m=>if m=0 then(if G<0 then(if 1+Y.size≤9223372036854775807 then(some ((⟨#[45]⟩ :ByteArray) ++ Y))else(none))else(some Y))else(if 0≤(mx (Int.tmod m 10) (wrap64 (-(Int.tmod m 10))))then(if(mx (Int.tmod m 10) (wrap64 (-(Int.tmod m 10))))≤(wrap64 ((mx (Int.tmod m 10) (wrap64 (-(Int.tmod m 10))))+1))then(if(wrap64 ((mx (Int.tmod m 10) (wrap64 (-(Int.tmod m 10))))+1))≤16 then(if((⟨#[48,49,50,51,52,53,54,55,56,57,97,98,99,100,101,102]⟩ :ByteArray).extract ((mx (Int.tmod m 10) (wrap64 (-(Int.tmod m 10)))):Int).toNat ((wrap64 ((mx (Int.tmod m 10) (wrap64 (-(Int.tmod m 10))))+1)):Int).toNat).size+Y.size≤9223372036854775807 then(impl_Decimal.l0 k G (((⟨#[48,49,50,51,52,53,54,55,56,57,97,98,99,100,101,102]⟩ :ByteArray).extract ((mx (Int.tmod m 10) (wrap64 (-(Int.tmod m 10)))):Int).toNat ((wrap64 ((mx (Int.tmod m 10) (wrap64 (-(Int.tmod m 10))))+1)):Int).toNat) ++ Y) (wrap64 (Int.tdiv m 10)))else(none))else(none))else(none))else(none))
def impl_Decimal.f (k:Nat) (a:Int):Option (ByteArray):=if a=0 then(some (⟨#[48]⟩ :ByteArray))else(impl_Decimal.l0 k a (⟨#[]⟩ :ByteArray) a)
set_option maxHeartbeats 8000000 in
set_option maxRecDepth 100000 in
theorem impl_Decimal.calls (k:Nat) (a:Int) (r:ByteArray) (w:World) (h:impl_Decimal.f k a=some r) :
 Calls Tryz.prog 94 #[.int .i64 a] w fun e w'=>e= .returned (.string r)∧Below w.heap.size w w':=by
 have HB:=aM (Below.refl w.heap.size w);have H:(if a=0 then(some (⟨#[48]⟩ :ByteArray))else(impl_Decimal.l0 k a (⟨#[]⟩ :ByteArray) a))=some r:=h;clear h;by_cases M:a=0
 ·rw[if_pos M]at H;obtain⟨ay,az⟩:=eT M;clear M;obtain rfl:=Option.some.inj H;go_enter Tryz.func94,Tryz.ntmps94;go_wp2;go_ret;exact⟨rE,cB⟩
 ·rw[if_neg M]at H;obtain⟨ay,az⟩:=eF M;have H':=aM H;clear H;go_enter Tryz.func94,Tryz.ntmps94;go_wp2
  go_loopg [3,4] k (fun kq aN aO w'=> ∃ (y:ByteArray) (p:Int),aN= .string y∧aO= .int .i64 p∧Aside0 (impl_Decimal.l0 kq a y p=some r)∧Aside0 (kq≤k)∧Aside0 (Below w.heap.size w w'))
  case atStart=>exact⟨((⟨#[]⟩ :ByteArray)),(a),rS,rS,H',⟨Nat.le_refl _⟩,⟨cB⟩⟩
  case round=>
   clear H';(try clear M);(try clear ay);(try clear az);obtain⟨y,p,rfl,rfl,HA,HK1,HB⟩:=hrel
   cases gk with
   | zero=>exact absurd HA.out (by simp[impl_Decimal.l0])
   | succ k1=>
    have H:=HA.out;clear HA;simp only[impl_Decimal.l0]at H;by_cases g:p=0
    ·rw[if_pos g]at H;obtain⟨ac,aP⟩:=eT g;clear g;by_cases l:a<0
     ·rw[if_pos l]at H;have ab:=decide_eq_true l;clear l;replace H:=gC H;obtain⟨z,H⟩:=H;have aF:=eq_true z;have bu:decide (1+y.size≤9223372036854775807)=true:=decide_eq_true z
      try have bv:(9223372036854775807<1+y.size)=False:=eq_false (Nat.not_lt.2 z)
      obtain rfl:=Option.some.inj H;go_wp2;go_ret;exact⟨rE,cB⟩
     ·rw[if_neg l]at H;have ab:=decide_eq_false l;clear l;obtain rfl:=Option.some.inj H;go_wp2;go_ret;exact⟨rE,cB⟩
    ·rw[if_neg g]at H;obtain⟨ac,aP⟩:=eF g;obtain⟨ji6,hji6⟩ : ∃ j_:Int,(mx (Int.tmod p 10) (wrap64 (-(Int.tmod p 10))))=j_:=⟨_,rfl⟩
     (first|rw[hji6]at H|simp only[hji6]at H)
     have hji6_:(if(Int.tmod p 10)<(wrap64 (-(Int.tmod p 10)))then(wrap64 (-(Int.tmod p 10)))else(Int.tmod p 10))=ji6:=hji6;replace H:=gC H;obtain⟨A,H⟩:=H;have bw:=eq_true A;have bx:decide (0≤(ji6))=true:=decide_eq_true A;clear A;replace H:=gC H;obtain⟨aA,H⟩:=H;have bz:=eq_true aA;have bA:decide ((ji6)≤(wrap64 ((ji6)+1)))=true:=decide_eq_true aA;replace H:=gC H;obtain⟨aB,H⟩:=H;have bB:=eq_true aB;have bC:decide ((wrap64 ((ji6)+1))≤16)=true:=decide_eq_true aB;replace H:=gC H;obtain⟨ah,H⟩:=H;have bD:=eq_true ah;have bF:decide (((⟨#[48,49,50,51,52,53,54,55,56,57,97,98,99,100,101,102]⟩ :ByteArray).extract ((ji6):Int).toNat ((wrap64 ((ji6)+1)):Int).toNat).size+y.size≤9223372036854775807)=true:=decide_eq_true ah
     try have bG:(9223372036854775807<((⟨#[48,49,50,51,52,53,54,55,56,57,97,98,99,100,101,102]⟩ :ByteArray).extract ((ji6):Int).toNat ((wrap64 ((ji6)+1)):Int).toNat).size+y.size)=False:=eq_false (Nat.not_lt.2 ah)
     have H':=aM H;clear H;go_wp2;go_roundg k1
     case measure=>have:=HK1.out;omega
     case rel=>exact⟨(((⟨#[48,49,50,51,52,53,54,55,56,57,97,98,99,100,101,102]⟩ :ByteArray).extract ((ji6):Int).toNat ((wrap64 ((ji6)+1)):Int).toNat) ++ y),(wrap64 (Int.tdiv p 10)),(by first|rfl|(simp;done)|(simp only[← hji6] <;> (first|rfl|simp))|(simp[*];done)),rS,H',⟨by have:=HK1.out;omega⟩,⟨cB⟩⟩
def impl_ask.f (a:Int) (b:Int) (o:ByteArray) (O:ByteArray):Option (ByteArray×Int×Int×Int×Int×ByteArray×ByteArray):=some ((⟨#[]⟩ :ByteArray),a,b,0,0,o,O)
set_option maxHeartbeats 8000000 in
set_option maxRecDepth 100000 in
theorem impl_ask.calls (a:Int) (b:Int) (o:ByteArray) (O:ByteArray) (r1:ByteArray) (r2:Int) (r3:Int) (r4:Int) (r5:Int) (r6:ByteArray) (r7:ByteArray) (w:World) (h:impl_ask.f a b o O=some (r1,r2,r3,r4,r5,r6,r7)) :
 Calls Tryz.prog 61 #[.int .i64 a,.int .i64 b,.string o,.string O] w fun e w'=>e= .returned (.agg #[.string r1,.int .i64 r2,.int .i64 r3,.int .i64 r4,.int .i64 r5,.string r6,.string r7])∧Below w.heap.size w w':=by
 have hu86:=Tryz.underlying86;have hu71:=Tryz.underlying71;have HB:=aM (Below.refl w.heap.size w);have H:(some ((⟨#[]⟩ :ByteArray),a,b,0,0,o,O))=some (r1,r2,r3,r4,r5,r6,r7):=h;clear h;simp only[Option.some.injEq,Prod.mk.injEq]at H;obtain⟨rfl,rfl,rfl,rfl,rfl,rfl,rfl⟩:=H;go_enter Tryz.func61,Tryz.ntmps61
 go_wp2_with (first|((with_reducible refine gN 8 ?_);refine boxZ 8 #[.string (⟨#[]⟩ :ByteArray),.int .i64 0,.int .i64 0,.int .i64 0,.int .i64 0,.string (⟨#[]⟩ :ByteArray),.string (⟨#[]⟩ :ByteArray)] 86 ?_;intro aQ hg aR hbox hb;have aC:=aM (hbox);have GW107:=gS hg;have GE107:=gS hg;replace HB:=sB hb;clear hb hbox hg;obtain⟨aS,aT,bH,bI,bJ,bL,bM,aU,aV,bN,bO,bP,bQ,bR⟩:=cz7 aC))
 refine bodyPost_ret (results_cell_row rfl _ _ aQ 86 #[.string (⟨#[]⟩ :ByteArray),.int .i64 a,.int .i64 b,.int .i64 0,.int .i64 0,.string o,.string O] (0,0) _ rfl (kS aC _) Tryz.underlying86 rfl (by kernel_rfl)) rfl ?_
 exact⟨rE,cB⟩
def impl_HalfOk.f (a:Int):Option (Bool):=(impl_within.f a 0 4294967295).bind fun ai=>(some ai)
set_option maxHeartbeats 8000000 in
set_option maxRecDepth 100000 in
theorem impl_HalfOk.calls (a:Int) (r:Bool) (w:World) (h:impl_HalfOk.f a=some r) :
 Calls Tryz.prog 75 #[.int .i64 a] w fun e w'=>e= .returned (.bool r)∧Drawn0 w w':=by
 unfold impl_HalfOk.f at h;have H:=h
 clear h;replace H:=bE H;obtain⟨ai,v,H⟩:=H;obtain rfl:=Option.some.inj H;go_enter Tryz.func75,Tryz.ntmps75
 go_wp2_with (first|((with_reducible refine gF 81 ?_);refine goZ (some 4) Tryz.func81 #[.int .i64 a,.int .i64 0,.int .i64 4294967295] ?_;(with_reducible refine(impl_within.calls a 0 4294967295 ai _ v.out).mono ?_);rintro e w' ⟨rfl,⟨nd,rfl⟩⟩;refine⟨_,rfl,?_⟩))
 go_ret
 exact⟨by first|rfl|(simp;done)|(simp[*];done),by repeat(first|exact Drawn0.refl _|apply Drawn0.step)⟩
def impl_WideOk.f (c:Int) (j:Int):Option (Bool):=(impl_HalfOk.f c).bind fun aj=>(if aj=true then((impl_HalfOk.f j).bind fun ak=>(some ak))else(some false))
set_option maxHeartbeats 8000000 in
set_option maxRecDepth 100000 in
theorem impl_WideOk.calls (c:Int) (j:Int) (r:Bool) (w:World) (h:impl_WideOk.f c j=some r) :
 Calls Tryz.prog 136 #[.agg #[.int .i64 c,.int .i64 j]] w fun e w'=>e= .returned (.bool r)∧Below w.heap.size w w':=by
 have hu105:=Tryz.underlying105;have HB:=aM (Below.refl w.heap.size w)
 unfold impl_WideOk.f at h;have H:=h
 clear h;replace H:=bE H;obtain⟨aj,v,H⟩:=H;by_cases g:aj=true
 ·subst g;replace H:=iT H;replace H:=bE H;obtain⟨ak,aa,H⟩:=H;obtain rfl:=Option.some.inj H;go_enter Tryz.func136,Tryz.ntmps136
  go_wp2_with (first|((with_reducible refine gN 1 ?_);refine boxZ 1 #[.int .i64 c,.int .i64 j] 105 ?_;intro aW hg aR hbox hb;have al:=aM (hbox);have GW109:=gS hg;have GE109:=gS hg;replace HB:=sB hb;clear hb hbox hg;obtain⟨aS,aT,aU,aV⟩:=cz2 al)|((with_reducible refine gF 75 ?_);refine goZ (some 5) Tryz.func75 #[.int .i64 c] ?_;(with_reducible refine(impl_HalfOk.calls c true _ v.out).mono ?_);rintro e w' ⟨rfl,⟨nd,rfl⟩⟩;refine⟨_,rfl,?_⟩)|(go_at_call 75;(with_reducible refine(impl_HalfOk.calls j ak _ aa.out).mono ?_);rintro e w' ⟨rfl,⟨nd,rfl⟩⟩))
  go_ret;exact⟨rE,cB⟩
 ·replace g:=Bool.eq_false_iff.mpr g;subst g;replace H:=iF H;obtain rfl:=Option.some.inj H;go_enter Tryz.func136,Tryz.ntmps136
  go_wp2_with (first|((with_reducible refine gN 1 ?_);refine boxZ 1 #[.int .i64 c,.int .i64 j] 105 ?_;intro aW hg bS hbox hb;have al:=aM (hbox);have GW109:=gS hg;have GE109:=gS hg;replace HB:=sB hb;clear hb hbox hg;obtain⟨bT,bU,bV,bW⟩:=cz2 al)|((with_reducible refine gF 75 ?_);refine goZ (some 5) Tryz.func75 #[.int .i64 c] ?_;(with_reducible refine(impl_HalfOk.calls c false _ v.out).mono ?_);rintro e w' ⟨rfl,⟨nd,rfl⟩⟩;refine⟨_,rfl,?_⟩))
  go_ret;exact⟨rE,cB⟩
def impl_CondOk.f (c:Int) (j:Int) (q:Int) (x:Int) (t:Int) (u:Int):Option (Bool):=(impl_within.f c 0 2).bind fun am=>(if am=true then((impl_WideOk.f j q).bind fun an=>(if an=true then((impl_WideOk.f t u).bind fun ao=>(if ao=true then((impl_within.f x 1 6).bind fun ap=>(some ap))else(some false)))else(some false)))else(some false))
set_option maxHeartbeats 8000000 in
set_option maxRecDepth 100000 in
theorem impl_CondOk.calls (c:Int) (j:Int) (q:Int) (x:Int) (t:Int) (u:Int) (r:Bool) (w:World) (h:impl_CondOk.f c j q x t u=some r) :
 Calls Tryz.prog 107 #[.agg #[.int .i64 c,.int .i64 j,.int .i64 q,.int .i64 x,.int .i64 t,.int .i64 u]] w fun e w'=>e= .returned (.bool r)∧Below w.heap.size w w':=by
 have hu118:=Tryz.underlying118;have hu105:=Tryz.underlying105;have HB:=aM (Below.refl w.heap.size w)
 unfold impl_CondOk.f at h;have H:=h
 clear h;replace H:=bE H;obtain⟨am,v,H⟩:=H;by_cases g:am=true
 ·subst g;replace H:=iT H;replace H:=bE H;obtain⟨an,aa,H⟩:=H;by_cases z:an=true
  ·subst z;replace H:=iT H;replace H:=bE H;obtain⟨ao,aD,H⟩:=H;by_cases A:ao=true
   ·subst A;replace H:=iT H;replace H:=bE H;obtain⟨ap,aX,H⟩:=H;obtain rfl:=Option.some.inj H;go_enter Tryz.func107,Tryz.ntmps107
    go_wp2_with (first|((with_reducible refine gN 1 ?_);refine boxZ 1 #[.int .i64 c,.int .i64 j,.int .i64 q,.int .i64 x,.int .i64 t,.int .i64 u] 118 ?_;intro aq hg bX hbox hb;have i:=aM (hbox);have GW112:=gS hg;have GE112:=gS hg;replace HB:=sB hb;clear hb hbox hg;obtain⟨bY,bZ,b0,b1,b5,b8,b9,ca,cb,cc,cd,ce⟩:=cz6 i)|((with_reducible refine gF 81 ?_);refine goZ (some 5) Tryz.func81 #[.int .i64 c,.int .i64 0,.int .i64 2] ?_;(with_reducible refine(impl_within.calls c 0 2 true _ v.out).mono ?_);rintro e w' ⟨rfl,⟨nd,rfl⟩⟩;refine⟨_,rfl,?_⟩)|(go_at_call 136;(with_reducible refine(impl_WideOk.calls j q true _ aa.out).mono ?_);rintro e cf ⟨rfl,hb⟩;replace i:=kB i hb;replace HB:=sB hb;(try clear hb);obtain⟨cg,ch,ci,cj,ck,cl,cm,cn,co,cp,cq,cr⟩:=cz6 i)|(go_at_call 136;(with_reducible refine(impl_WideOk.calls t u true _ aD.out).mono ?_);rintro e cs ⟨rfl,hb⟩;replace i:=kB i hb;replace HB:=sB hb;(try clear hb);obtain⟨ct,cu,cv,cw,cx,cy,cz,cA,cD,cE,cF,cG⟩:=cz6 i)|(go_at_call 81;(with_reducible refine(impl_within.calls x 1 6 ap _ aX.out).mono ?_);rintro e w' ⟨rfl,⟨nd,rfl⟩⟩))
    go_ret;exact⟨rE,cB⟩
   ·replace A:=Bool.eq_false_iff.mpr A;subst A;replace H:=iF H;obtain rfl:=Option.some.inj H;go_enter Tryz.func107,Tryz.ntmps107
    go_wp2_with (first|((with_reducible refine gN 1 ?_);refine boxZ 1 #[.int .i64 c,.int .i64 j,.int .i64 q,.int .i64 x,.int .i64 t,.int .i64 u] 118 ?_;intro aq hg cH hbox hb;have i:=aM (hbox);have GW112:=gS hg;have GE112:=gS hg;replace HB:=sB hb;clear hb hbox hg;obtain⟨cI,cJ,cL,cM,cN,cO,cP,cQ,cR,cS,cT,cU⟩:=cz6 i)|((with_reducible refine gF 81 ?_);refine goZ (some 5) Tryz.func81 #[.int .i64 c,.int .i64 0,.int .i64 2] ?_;(with_reducible refine(impl_within.calls c 0 2 true _ v.out).mono ?_);rintro e w' ⟨rfl,⟨nd,rfl⟩⟩;refine⟨_,rfl,?_⟩)|(go_at_call 136;(with_reducible refine(impl_WideOk.calls j q true _ aa.out).mono ?_);rintro e cV ⟨rfl,hb⟩;replace i:=kB i hb;replace HB:=sB hb;(try clear hb);obtain⟨cW,cX,cY,cZ,c0,c1,c2,c3,c4,c5,c6,c7⟩:=cz6 i)|(go_at_call 136;(with_reducible refine(impl_WideOk.calls t u false _ aD.out).mono ?_);rintro e c8 ⟨rfl,hb⟩;replace i:=kB i hb;replace HB:=sB hb;(try clear hb)))
    go_ret;exact⟨rE,cB⟩
  ·replace z:=Bool.eq_false_iff.mpr z;subst z;replace H:=iF H;obtain rfl:=Option.some.inj H;go_enter Tryz.func107,Tryz.ntmps107
   go_wp2_with (first|((with_reducible refine gN 1 ?_);refine boxZ 1 #[.int .i64 c,.int .i64 j,.int .i64 q,.int .i64 x,.int .i64 t,.int .i64 u] 118 ?_;intro aq hg c9 hbox hb;have i:=aM (hbox);have GW112:=gS hg;have GE112:=gS hg;replace HB:=sB hb;clear hb hbox hg;obtain⟨da,db,dc,dd,de,df,dg,dh,di,dj,dk,dl⟩:=cz6 i)|((with_reducible refine gF 81 ?_);refine goZ (some 5) Tryz.func81 #[.int .i64 c,.int .i64 0,.int .i64 2] ?_;(with_reducible refine(impl_within.calls c 0 2 true _ v.out).mono ?_);rintro e w' ⟨rfl,⟨nd,rfl⟩⟩;refine⟨_,rfl,?_⟩)|(go_at_call 136;(with_reducible refine(impl_WideOk.calls j q false _ aa.out).mono ?_);rintro e dm ⟨rfl,hb⟩;replace i:=kB i hb;replace HB:=sB hb;(try clear hb)))
   go_ret;exact⟨rE,cB⟩
 ·replace g:=Bool.eq_false_iff.mpr g;subst g;replace H:=iF H;obtain rfl:=Option.some.inj H;go_enter Tryz.func107,Tryz.ntmps107
  go_wp2_with (first|((with_reducible refine gN 1 ?_);refine boxZ 1 #[.int .i64 c,.int .i64 j,.int .i64 q,.int .i64 x,.int .i64 t,.int .i64 u] 118 ?_;intro aq hg dn hbox hb;have i:=aM (hbox);have GW112:=gS hg;have GE112:=gS hg;replace HB:=sB hb;clear hb hbox hg;obtain⟨dp,dq,dr,ds,dt,du,dv,dw,dx,dy,dz,dB⟩:=cz6 i)|((with_reducible refine gF 81 ?_);refine goZ (some 5) Tryz.func81 #[.int .i64 c,.int .i64 0,.int .i64 2] ?_;(with_reducible refine(impl_within.calls c 0 2 false _ v.out).mono ?_);rintro e w' ⟨rfl,⟨nd,rfl⟩⟩;refine⟨_,rfl,?_⟩))
  go_ret;exact⟨rE,cB⟩
end Go.Proofs.YtpbalojiaghfhaaGreat.PFnExactCompile
