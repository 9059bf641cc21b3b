import Derived.Test.YtpbalojiaghfhaaGreatPFnCompilesy0
import Derived.Test.YtpbalojiaghfhaaGreatPFnCompilesy4
namespace Go.Proofs.YtpbalojiaghfhaaGreat.PFnCompiles
open Go.RowKit Go.Proofs.YtpbalojiaghfhaaGreatW.PrintWords Go.Proofs.YtpbalojiaghfhaaGreatW.PrintLast Go.Proofs.YtpbalojiaghfhaaGreatW.PrintMore Go.Proofs.YtpbalojiaghfhaaGreatW.Z
open Kd
attribute [local go_sem] isS max2_int min2_int max_two min_two max_three min_three max_four min_four
set_option linter.unusedVariables false
set_option linter.unusedSimpArgs false
def slices_Contains_int_int.f (k:Nat) (y:List Int) (b:Int):Option (Bool):=(slices_Index_int_int.f k y b).bind fun ac=>(some (decide (ac≥0)))
set_option maxHeartbeats 8000000 in
set_option maxRecDepth 100000 in
theorem slices_Contains_int_int.calls {k:Nat}{ad:Option Addr}{ae:Nat}{y:List Int}{b:Int}{r:Bool}{w:World}(h:slices_Contains_int_int.f k y b=some r)(af:Kd.C (Kd.int .i64) w ad y.length y)(ag:y.length≤ae) :
 Calls Tryz.prog 53 #[.slice ad y.length ae,.int .i64 b] w fun e w'=>e= .returned (.bool r)∧Drawn0 w w':=by
 have HR0:=aM af;have HC0:=aM ag;clear af ag
 unfold slices_Contains_int_int.f at h;have H:=h
 clear h;replace H:=bE H;obtain⟨ac,D,H⟩:=H;obtain rfl:=Option.some.inj H;go_enter Tryz.func53,Tryz.ntmps53
 go_wp2_with (first|((with_reducible refine gF 93 ?_);refine gX (some 7) Tryz.func93 (slices_Index_int_int.calls D.out (cC HR0.out) HC0.out) ?_;rintro w' ⟨nd,rfl⟩))
 go_ret
 exact⟨by first|rfl|(simp;done)|(simp[*];done),by repeat(first|exact Drawn0.refl _|apply Drawn0.step)⟩
def impl_place.f (a:ByteArray):Option (ByteArray×Int×Int×Int×Int×ByteArray×ByteArray):=some (a,0,0,0,0,(⟨#[]⟩ :ByteArray),(⟨#[]⟩ :ByteArray))
set_option maxHeartbeats 8000000 in
set_option maxRecDepth 100000 in
theorem impl_place.calls {a:ByteArray}{r1:ByteArray}{r2:Int}{r3:Int}{r4:Int}{r5:Int}{r6:ByteArray}{r7:ByteArray}{w:World}(h:impl_place.f a=some (r1,r2,r3,r4,r5,r6,r7)) :
 Calls Tryz.prog 55 #[.string a] w fun e w'=>e= .returned (.agg #[.string r1,.int .i64 r2,.int .i64 r3,.int .i64 r4,.int .i64 r5,.string r6,.string r7])∧Below w.heap.size w w':=by
 have hu86:=Tryz.underlying86;have HB:=rW w;have H:(some (a,0,0,0,0,(⟨#[]⟩ :ByteArray),(⟨#[]⟩ :ByteArray)))=some (r1,r2,r3,r4,r5,r6,r7):=h;clear h;simp only[Option.some.injEq,Prod.mk.injEq]at H;obtain⟨rfl,rfl,rfl,rfl,rfl,rfl,rfl⟩:=H;go_enter Tryz.func55,Tryz.ntmps55
 go_wp2_with (first|((with_reducible refine gN 2 ?_);refine boxZ 2 #[.string (⟨#[]⟩ :ByteArray),.int .i64 0,.int .i64 0,.int .i64 0,.int .i64 0,.string (⟨#[]⟩ :ByteArray),.string (⟨#[]⟩ :ByteArray)] 86 ?_;intro aw hg aK hbox hb;have ah:=aM hbox;have GW273:=gS hg;have GE273:=gS hg;replace HB:=sB hb;clear hb hbox hg;obtain⟨aL,aN,aO,aP,aQ,aR,aS,aT,aU,aV,aW,aX,aY,aZ⟩:=cz7 ah))
 refine bodyPost_ret (results_cell_row rfl _ _ aw 86 #[.string a,.int .i64 0,.int .i64 0,.int .i64 0,.int .i64 0,.string (⟨#[]⟩ :ByteArray),.string (⟨#[]⟩ :ByteArray)] (0,0) _ rfl (kS ah _) Tryz.underlying86 rfl (by kernel_rfl)) rfl ?_
 exact⟨rE,cB⟩
def impl_word.f (a:Int) (b:Int):Option (ByteArray×Int×Int×Int×Int×ByteArray×ByteArray):=some ((⟨#[]⟩ :ByteArray),a,b,0,0,(⟨#[]⟩ :ByteArray),(⟨#[]⟩ :ByteArray))
set_option maxHeartbeats 8000000 in
set_option maxRecDepth 100000 in
theorem impl_word.calls {a:Int}{b:Int}{r1:ByteArray}{r2:Int}{r3:Int}{r4:Int}{r5:Int}{r6:ByteArray}{r7:ByteArray}{w:World}(h:impl_word.f a b=some (r1,r2,r3,r4,r5,r6,r7)) :
 Calls Tryz.prog 56 #[.int .i64 a,.int .i64 b] w fun e w'=>e= .returned (.agg #[.string r1,.int .i64 r2,.int .i64 r3,.int .i64 r4,.int .i64 r5,.string r6,.string r7])∧Below w.heap.size w w':=by
 have hu86:=Tryz.underlying86;have hu71:=Tryz.underlying71;have HB:=rW w;have H:(some ((⟨#[]⟩ :ByteArray),a,b,0,0,(⟨#[]⟩ :ByteArray),(⟨#[]⟩ :ByteArray)))=some (r1,r2,r3,r4,r5,r6,r7):=h;clear h;simp only[Option.some.injEq,Prod.mk.injEq]at H;obtain⟨rfl,rfl,rfl,rfl,rfl,rfl,rfl⟩:=H;go_enter Tryz.func56,Tryz.ntmps56
 go_wp2_with (first|((with_reducible refine gN 4 ?_);refine boxZ 4 #[.string (⟨#[]⟩ :ByteArray),.int .i64 0,.int .i64 0,.int .i64 0,.int .i64 0,.string (⟨#[]⟩ :ByteArray),.string (⟨#[]⟩ :ByteArray)] 86 ?_;intro ax hg a0 hbox hb;have ai:=aM hbox;have GW274:=gS hg;have GE274:=gS hg;replace HB:=sB hb;clear hb hbox hg;obtain⟨a1,a2,a3,a4,a5,a6,a7,a8,a9,ba,bb,bd,be,bf⟩:=cz7 ai))
 refine bodyPost_ret (results_cell_row rfl _ _ ax 86 #[.string (⟨#[]⟩ :ByteArray),.int .i64 a,.int .i64 b,.int .i64 0,.int .i64 0,.string (⟨#[]⟩ :ByteArray),.string (⟨#[]⟩ :ByteArray)] (0,0) _ rfl (kS ai _) Tryz.underlying86 rfl (by kernel_rfl)) rfl ?_
 exact⟨rE,cB⟩
def impl_within.f (a:Int) (b:Int) (m:Int):Option (Bool):=if a≥b then(some (decide (a≤m)))else(some false)
set_option maxHeartbeats 8000000 in
set_option maxRecDepth 100000 in
theorem impl_within.calls {a:Int}{b:Int}{m:Int}{r:Bool}{w:World}(h:impl_within.f a b m=some r) :
 Calls Tryz.prog 81 #[.int .i64 a,.int .i64 b,.int .i64 m] w fun e w'=>e= .returned (.bool r)∧Drawn0 w w':=by
 have H:(if a≥b then(some (decide (a≤m)))else(some false))=some r:=h;clear h;by_cases d:a≥b
 ·rw[if_pos d]at H;have J:decide (b≤a)=true:=decide_eq_true d;clear d;obtain rfl:=Option.some.inj H;go_enter Tryz.func81,Tryz.ntmps81;go_wp2;go_ret
  exact⟨by first|rfl|(simp;done)|(simp[*];done),by repeat(first|exact Drawn0.refl _|apply Drawn0.step)⟩
 ·rw[if_neg d]at H;have J:decide (b≤a)=false:=decide_eq_false d;clear d;obtain rfl:=Option.some.inj H;go_enter Tryz.func81,Tryz.ntmps81;go_wp2;go_ret
  exact⟨by first|rfl|(simp;done)|(simp[*];done),by repeat(first|exact Drawn0.refl _|apply Drawn0.step)⟩
def impl_ResultOf.f (a:Int) (b:Int):Option (Int):=(impl_within.f a 0 5).bind fun L=>(if L=true then((impl_within.f b 0 65535).bind fun M=>(if M=true then(some (wrap64 ((wrap64 (65536*a))+b)))else(some 0)))else(some 0))
set_option maxHeartbeats 8000000 in
set_option maxRecDepth 100000 in
theorem impl_ResultOf.calls {a:Int}{b:Int}{r:Int}{w:World}(h:impl_ResultOf.f a b=some r) :
 Calls Tryz.prog 57 #[.int .i64 a,.int .i64 b] w fun e w'=>e= .returned (.int .i64 r)∧Drawn0 w w':=by
 unfold impl_ResultOf.f at h;have H:=h
 clear h;replace H:=bE H;obtain⟨L,D,H⟩:=H;by_cases d:L=true
 ·subst d;replace H:=iT H;replace H:=bE H;obtain⟨M,aj,H⟩:=H;by_cases I:M=true
  ·subst I;replace H:=iT H;obtain rfl:=Option.some.inj H;go_enter Tryz.func57,Tryz.ntmps57
   go_wp2_with (first|((with_reducible refine gF 81 ?_);refine gX (some 6) Tryz.func81 (impl_within.calls D.out) ?_;rintro w' ⟨nd,rfl⟩)|(go_at_call 81;(with_reducible refine(impl_within.calls aj.out).mono ?_);rintro e w' ⟨rfl,⟨nd,rfl⟩⟩))
   go_ret
   exact⟨by first|rfl|(simp;done)|(simp[*];done),by repeat(first|exact Drawn0.refl _|apply Drawn0.step)⟩
  ·replace I:=Bool.eq_false_iff.mpr I;subst I;replace H:=iF H;obtain rfl:=Option.some.inj H;go_enter Tryz.func57,Tryz.ntmps57
   go_wp2_with (first|((with_reducible refine gF 81 ?_);refine gX (some 6) Tryz.func81 (impl_within.calls D.out) ?_;rintro w' ⟨nd,rfl⟩)|(go_at_call 81;(with_reducible refine(impl_within.calls aj.out).mono ?_);rintro e w' ⟨rfl,⟨nd,rfl⟩⟩))
   go_ret
   exact⟨by first|rfl|(simp;done)|(simp[*];done),by repeat(first|exact Drawn0.refl _|apply Drawn0.step)⟩
 ·replace d:=Bool.eq_false_iff.mpr d;subst d;replace H:=iF H;obtain rfl:=Option.some.inj H;go_enter Tryz.func57,Tryz.ntmps57
  go_wp2_with (first|((with_reducible refine gF 81 ?_);refine gX (some 6) Tryz.func81 (impl_within.calls D.out) ?_;rintro w' ⟨nd,rfl⟩))
  go_ret
  exact⟨by first|rfl|(simp;done)|(simp[*];done),by repeat(first|exact Drawn0.refl _|apply Drawn0.step)⟩
def impl_Decimal.l0:Nat→Int→ByteArray→Int→Option (ByteArray)
  | 0,_,_,_=>none
  | k+1,ak,E,g=>if g=0 then(if ak<0 then(if 1+E.size≤9223372036854775807 then(some ((⟨#[45]⟩ :ByteArray) ++ E))else(none))else(some E))else(if 0≤(mx (Int.tmod g 10) (wrap64 (-(Int.tmod g 10))))then(if(mx (Int.tmod g 10) (wrap64 (-(Int.tmod g 10))))≤(wrap64 ((mx (Int.tmod g 10) (wrap64 (-(Int.tmod g 10))))+1))then(if(wrap64 ((mx (Int.tmod g 10) (wrap64 (-(Int.tmod g 10))))+1))≤16 then(if((⟨#[48,49,50,51,52,53,54,55,56,57,97,98,99,100,101,102]⟩ :ByteArray).extract ((mx (Int.tmod g 10) (wrap64 (-(Int.tmod g 10)))):Int).toNat ((wrap64 ((mx (Int.tmod g 10) (wrap64 (-(Int.tmod g 10))))+1)):Int).toNat).size+E.size≤9223372036854775807 then(impl_Decimal.l0 k ak (((⟨#[48,49,50,51,52,53,54,55,56,57,97,98,99,100,101,102]⟩ :ByteArray).extract ((mx (Int.tmod g 10) (wrap64 (-(Int.tmod g 10)))):Int).toNat ((wrap64 ((mx (Int.tmod g 10) (wrap64 (-(Int.tmod g 10))))+1)):Int).toNat) ++ E) (wrap64 (Int.tdiv g 10)))else(none))else(none))else(none))else(none))
def impl_Decimal.f (k:Nat) (a:Int):Option (ByteArray):=if a=0 then(some (⟨#[48]⟩ :ByteArray))else(impl_Decimal.l0 k a (⟨#[]⟩ :ByteArray) a)
set_option maxHeartbeats 8000000 in
set_option maxRecDepth 100000 in
theorem impl_Decimal.calls {k:Nat}{a:Int}{r:ByteArray}{w:World}(h:impl_Decimal.f k a=some r) :
 Calls Tryz.prog 94 #[.int .i64 a] w fun e w'=>e= .returned (.string r)∧Below w.heap.size w w':=by
 have HB:=rW w;have H:(if a=0 then(some (⟨#[48]⟩ :ByteArray))else(impl_Decimal.l0 k a (⟨#[]⟩ :ByteArray) a))=some r:=h;clear h;by_cases z:a=0
 ·rw[if_pos z]at H;obtain⟨al,am⟩:=eT z;clear z;obtain rfl:=Option.some.inj H;go_enter Tryz.func94,Tryz.ntmps94;go_wp2;go_ret;exact⟨rE,cB⟩
 ·rw[if_neg z]at H;obtain⟨al,am⟩:=eF z;have H':=aM H;clear H;go_enter Tryz.func94,Tryz.ntmps94;go_wp2
  go_loopg [3,4] k (fun kq ay az w'=> ∃ (p:ByteArray) (n:Int),ay= .string p∧az= .int .i64 n∧Aside0 (impl_Decimal.l0 kq a p n=some r)∧Aside0 (kq≤k)∧Aside0 (Below w.heap.size w w'))
  case atStart=>exact⟨((⟨#[]⟩ :ByteArray)),(a),rS,rS,H',⟨Nat.le_refl _⟩,⟨cB⟩⟩
  case round=>
   clear H';(try clear z);(try clear al);(try clear am);obtain⟨p,n,rfl,rfl,HA,HK1,HB⟩:=hrel
   cases gk with
   | zero=>exact absurd HA.out (by simp[impl_Decimal.l0])
   | succ k1=>
    have H:=HA.out;clear HA;simp only[impl_Decimal.l0]at H;by_cases i:n=0
    ·rw[if_pos i]at H;obtain⟨aA,aB⟩:=eT i;clear i;by_cases d:a<0
     ·rw[if_pos d]at H;have J:=decide_eq_true d;clear d;replace H:=gC H;obtain⟨q,H⟩:=H;have bg:=eq_true q;have bh:decide (1+p.size≤9223372036854775807)=true:=decide_eq_true q
      try have bi:(9223372036854775807<1+p.size)=False:=eq_false (Nat.not_lt.2 q)
      obtain rfl:=Option.some.inj H;go_wp2;go_ret;exact⟨rE,cB⟩
     ·rw[if_neg d]at H;have J:=decide_eq_false d;clear d;obtain rfl:=Option.some.inj H;go_wp2;go_ret;exact⟨rE,cB⟩
    ·rw[if_neg i]at H;obtain⟨aA,aB⟩:=eF i;obtain⟨ji6,hji6⟩ : ∃ j_:Int,(mx (Int.tmod n 10) (wrap64 (-(Int.tmod n 10))))=j_:=⟨_,rfl⟩
     (first|rw[hji6]at H|simp only[hji6]at H)
     have hji6_:(if(Int.tmod n 10)<(wrap64 (-(Int.tmod n 10)))then(wrap64 (-(Int.tmod n 10)))else(Int.tmod n 10))=ji6:=hji6;replace H:=gC H;obtain⟨s,H⟩:=H;have bj:=eq_true s;have bk:decide (0≤(ji6))=true:=decide_eq_true s;clear s;replace H:=gC H;obtain⟨an,H⟩:=H;have bl:=eq_true an;have bm:decide ((ji6)≤(wrap64 ((ji6)+1)))=true:=decide_eq_true an;replace H:=gC H;obtain⟨ao,H⟩:=H;have bn:=eq_true ao;have bo:decide ((wrap64 ((ji6)+1))≤16)=true:=decide_eq_true ao;replace H:=gC H;obtain⟨O,H⟩:=H;have bp:=eq_true O;have bq:decide (((⟨#[48,49,50,51,52,53,54,55,56,57,97,98,99,100,101,102]⟩ :ByteArray).extract ((ji6):Int).toNat ((wrap64 ((ji6)+1)):Int).toNat).size+p.size≤9223372036854775807)=true:=decide_eq_true O
     try have br:(9223372036854775807<((⟨#[48,49,50,51,52,53,54,55,56,57,97,98,99,100,101,102]⟩ :ByteArray).extract ((ji6):Int).toNat ((wrap64 ((ji6)+1)):Int).toNat).size+p.size)=False:=eq_false (Nat.not_lt.2 O)
     have H':=aM H;clear H;go_wp2;go_roundg k1
     case measure=>exact oK
     case rel=>exact⟨(((⟨#[48,49,50,51,52,53,54,55,56,57,97,98,99,100,101,102]⟩ :ByteArray).extract ((ji6):Int).toNat ((wrap64 ((ji6)+1)):Int).toNat) ++ p),(wrap64 (Int.tdiv n 10)),(by first|rfl|(simp;done)|(simp only[← hji6] <;> (first|rfl|simp))|(simp[*];done)),rS,H',⟨oK⟩,⟨cB⟩⟩
def impl_ask.f (a:Int) (b:Int) (m:ByteArray) (A:ByteArray):Option (ByteArray×Int×Int×Int×Int×ByteArray×ByteArray):=some ((⟨#[]⟩ :ByteArray),a,b,0,0,m,A)
set_option maxHeartbeats 8000000 in
set_option maxRecDepth 100000 in
theorem impl_ask.calls {a:Int}{b:Int}{m:ByteArray}{A:ByteArray}{r1:ByteArray}{r2:Int}{r3:Int}{r4:Int}{r5:Int}{r6:ByteArray}{r7:ByteArray}{w:World}(h:impl_ask.f a b m A=some (r1,r2,r3,r4,r5,r6,r7)) :
 Calls Tryz.prog 61 #[.int .i64 a,.int .i64 b,.string m,.string A] w fun e w'=>e= .returned (.agg #[.string r1,.int .i64 r2,.int .i64 r3,.int .i64 r4,.int .i64 r5,.string r6,.string r7])∧Below w.heap.size w w':=by
 have hu86:=Tryz.underlying86;have hu71:=Tryz.underlying71;have HB:=rW w;have H:(some ((⟨#[]⟩ :ByteArray),a,b,0,0,m,A))=some (r1,r2,r3,r4,r5,r6,r7):=h;clear h;simp only[Option.some.injEq,Prod.mk.injEq]at H;obtain⟨rfl,rfl,rfl,rfl,rfl,rfl,rfl⟩:=H;go_enter Tryz.func61,Tryz.ntmps61
 go_wp2_with (first|((with_reducible refine gN 8 ?_);refine boxZ 8 #[.string (⟨#[]⟩ :ByteArray),.int .i64 0,.int .i64 0,.int .i64 0,.int .i64 0,.string (⟨#[]⟩ :ByteArray),.string (⟨#[]⟩ :ByteArray)] 86 ?_;intro aC hg aD hbox hb;have ap:=aM hbox;have GW277:=gS hg;have GE277:=gS hg;replace HB:=sB hb;clear hb hbox hg;obtain⟨aE,aF,bs,bu,bv,bw,bx,aG,aH,bz,bA,bB,bC,bD⟩:=cz7 ap))
 refine bodyPost_ret (results_cell_row rfl _ _ aC 86 #[.string (⟨#[]⟩ :ByteArray),.int .i64 a,.int .i64 b,.int .i64 0,.int .i64 0,.string m,.string A] (0,0) _ rfl (kS ap _) Tryz.underlying86 rfl (by kernel_rfl)) rfl ?_
 exact⟨rE,cB⟩
def impl_HalfOk.f (a:Int):Option (Bool):=(impl_within.f a 0 4294967295).bind fun aq=>(some aq)
set_option maxHeartbeats 8000000 in
set_option maxRecDepth 100000 in
theorem impl_HalfOk.calls {a:Int}{r:Bool}{w:World}(h:impl_HalfOk.f a=some r) :
 Calls Tryz.prog 75 #[.int .i64 a] w fun e w'=>e= .returned (.bool r)∧Drawn0 w w':=by
 unfold impl_HalfOk.f at h;have H:=h
 clear h;replace H:=bE H;obtain⟨aq,o,H⟩:=H;obtain rfl:=Option.some.inj H;go_enter Tryz.func75,Tryz.ntmps75
 go_wp2_with (first|((with_reducible refine gF 81 ?_);refine gX (some 4) Tryz.func81 (impl_within.calls o.out) ?_;rintro w' ⟨nd,rfl⟩))
 go_ret
 exact⟨by first|rfl|(simp;done)|(simp[*];done),by repeat(first|exact Drawn0.refl _|apply Drawn0.step)⟩
def impl_WideOk.f (j:Int) (l:Int):Option (Bool):=(impl_HalfOk.f j).bind fun U=>(if U=true then((impl_HalfOk.f l).bind fun ar=>(some ar))else(some false))
set_option maxHeartbeats 8000000 in
set_option maxRecDepth 100000 in
theorem impl_WideOk.calls {j:Int}{l:Int}{r:Bool}{w:World}(h:impl_WideOk.f j l=some r) :
 Calls Tryz.prog 136 #[.agg #[.int .i64 j,.int .i64 l]] w fun e w'=>e= .returned (.bool r)∧Below w.heap.size w w':=by
 have hu105:=Tryz.underlying105;have HB:=rW w
 unfold impl_WideOk.f at h;have H:=h
 clear h;replace H:=bE H;obtain⟨U,o,H⟩:=H;by_cases i:U=true
 ·subst i;replace H:=iT H;replace H:=bE H;obtain⟨ar,G,H⟩:=H;obtain rfl:=Option.some.inj H;go_enter Tryz.func136,Tryz.ntmps136
  go_wp2_with (first|((with_reducible refine gN 1 ?_);refine boxZ 1 #[.int .i64 j,.int .i64 l] 105 ?_;intro aI hg aD hbox hb;have W:=aM hbox;have GW279:=gS hg;have GE279:=gS hg;replace HB:=sB hb;clear hb hbox hg;obtain⟨aE,aF,aG,aH⟩:=cz2 W)|((with_reducible refine gF 75 ?_);refine gX (some 5) Tryz.func75 (impl_HalfOk.calls o.out) ?_;rintro w' ⟨nd,rfl⟩)|(go_at_call 75;(with_reducible refine(impl_HalfOk.calls G.out).mono ?_);rintro e w' ⟨rfl,⟨nd,rfl⟩⟩))
  go_ret;exact⟨rE,cB⟩
 ·replace i:=Bool.eq_false_iff.mpr i;subst i;replace H:=iF H;obtain rfl:=Option.some.inj H;go_enter Tryz.func136,Tryz.ntmps136
  go_wp2_with (first|((with_reducible refine gN 1 ?_);refine boxZ 1 #[.int .i64 j,.int .i64 l] 105 ?_;intro aI hg bF hbox hb;have W:=aM hbox;have GW279:=gS hg;have GE279:=gS hg;replace HB:=sB hb;clear hb hbox hg;obtain⟨bG,bH,bI,bJ⟩:=cz2 W)|((with_reducible refine gF 75 ?_);refine gX (some 5) Tryz.func75 (impl_HalfOk.calls o.out) ?_;rintro w' ⟨nd,rfl⟩))
  go_ret;exact⟨rE,cB⟩
def impl_CondOk.f (j:Int) (l:Int) (t:Int) (u:Int) (v:Int) (x:Int):Option (Bool):=(impl_within.f j 0 2).bind fun X=>(if X=true then((impl_WideOk.f l t).bind fun Y=>(if Y=true then((impl_WideOk.f v x).bind fun aa=>(if aa=true then((impl_within.f u 1 6).bind fun au=>(some au))else(some false)))else(some false)))else(some false))
set_option maxHeartbeats 8000000 in
set_option maxRecDepth 100000 in
theorem impl_CondOk.calls {j:Int}{l:Int}{t:Int}{u:Int}{v:Int}{x:Int}{r:Bool}{w:World}(h:impl_CondOk.f j l t u v x=some r) :
 Calls Tryz.prog 107 #[.agg #[.int .i64 j,.int .i64 l,.int .i64 t,.int .i64 u,.int .i64 v,.int .i64 x]] w fun e w'=>e= .returned (.bool r)∧Below w.heap.size w w':=by
 have hu118:=Tryz.underlying118;have hu105:=Tryz.underlying105;have HB:=rW w
 unfold impl_CondOk.f at h;have H:=h
 clear h;replace H:=bE H;obtain⟨X,o,H⟩:=H;by_cases i:X=true
 ·subst i;replace H:=iT H;replace H:=bE H;obtain⟨Y,G,H⟩:=H;by_cases q:Y=true
  ·subst q;replace H:=iT H;replace H:=bE H;obtain⟨aa,av,H⟩:=H;by_cases s:aa=true
   ·subst s;replace H:=iT H;replace H:=bE H;obtain⟨au,aJ,H⟩:=H;obtain rfl:=Option.some.inj H;go_enter Tryz.func107,Tryz.ntmps107
    go_wp2_with (first|((with_reducible refine gN 1 ?_);refine boxZ 1 #[.int .i64 j,.int .i64 l,.int .i64 t,.int .i64 u,.int .i64 v,.int .i64 x] 118 ?_;intro ab hg bL hbox hb;have c:=aM hbox;have GW282:=gS hg;have GE282:=gS hg;replace HB:=sB hb;clear hb hbox hg;obtain⟨bM,bN,bO,bP,bQ,bR,bS,bT,bU,bV,bW,bX⟩:=cz6 c)|((with_reducible refine gF 81 ?_);refine gX (some 5) Tryz.func81 (impl_within.calls o.out) ?_;rintro w' ⟨nd,rfl⟩)|(go_at_call 136;(with_reducible refine(impl_WideOk.calls G.out).mono ?_);rintro e bY ⟨rfl,hb⟩;replace c:=kB c hb;replace HB:=sB hb;(try clear hb);obtain⟨bZ,b0,b1,b5,b8,b9,ca,cb,cc,cd,ce,cf⟩:=cz6 c)|(go_at_call 136;(with_reducible refine(impl_WideOk.calls av.out).mono ?_);rintro e cg ⟨rfl,hb⟩;replace c:=kB c hb;replace HB:=sB hb;(try clear hb);obtain⟨ch,ci,cj,ck,cl,cm,cn,co,cp,cq,cr,cs⟩:=cz6 c)|(go_at_call 81;(with_reducible refine(impl_within.calls aJ.out).mono ?_);rintro e w' ⟨rfl,⟨nd,rfl⟩⟩))
    go_ret;exact⟨rE,cB⟩
   ·replace s:=Bool.eq_false_iff.mpr s;subst s;replace H:=iF H;obtain rfl:=Option.some.inj H;go_enter Tryz.func107,Tryz.ntmps107
    go_wp2_with (first|((with_reducible refine gN 1 ?_);refine boxZ 1 #[.int .i64 j,.int .i64 l,.int .i64 t,.int .i64 u,.int .i64 v,.int .i64 x] 118 ?_;intro ab hg ct hbox hb;have c:=aM hbox;have GW282:=gS hg;have GE282:=gS hg;replace HB:=sB hb;clear hb hbox hg;obtain⟨cu,cv,cw,cx,cy,cz,cA,cD,cE,cF,cG,cI⟩:=cz6 c)|((with_reducible refine gF 81 ?_);refine gX (some 5) Tryz.func81 (impl_within.calls o.out) ?_;rintro w' ⟨nd,rfl⟩)|(go_at_call 136;(with_reducible refine(impl_WideOk.calls G.out).mono ?_);rintro e cJ ⟨rfl,hb⟩;replace c:=kB c hb;replace HB:=sB hb;(try clear hb);obtain⟨cL,cM,cN,cO,cP,cQ,cR,cS,cT,cU,cV,cW⟩:=cz6 c)|(go_at_call 136;(with_reducible refine(impl_WideOk.calls av.out).mono ?_);rintro e cX ⟨rfl,hb⟩;replace c:=kB c hb;replace HB:=sB hb;(try clear hb)))
    go_ret;exact⟨rE,cB⟩
  ·replace q:=Bool.eq_false_iff.mpr q;subst q;replace H:=iF H;obtain rfl:=Option.some.inj H;go_enter Tryz.func107,Tryz.ntmps107
   go_wp2_with (first|((with_reducible refine gN 1 ?_);refine boxZ 1 #[.int .i64 j,.int .i64 l,.int .i64 t,.int .i64 u,.int .i64 v,.int .i64 x] 118 ?_;intro ab hg cY hbox hb;have c:=aM hbox;have GW282:=gS hg;have GE282:=gS hg;replace HB:=sB hb;clear hb hbox hg;obtain⟨cZ,c0,c1,c2,c3,c4,c5,c6,c7,c8,c9,da⟩:=cz6 c)|((with_reducible refine gF 81 ?_);refine gX (some 5) Tryz.func81 (impl_within.calls o.out) ?_;rintro w' ⟨nd,rfl⟩)|(go_at_call 136;(with_reducible refine(impl_WideOk.calls G.out).mono ?_);rintro e db ⟨rfl,hb⟩;replace c:=kB c hb;replace HB:=sB hb;(try clear hb)))
   go_ret;exact⟨rE,cB⟩
 ·replace i:=Bool.eq_false_iff.mpr i;subst i;replace H:=iF H;obtain rfl:=Option.some.inj H;go_enter Tryz.func107,Tryz.ntmps107
  go_wp2_with (first|((with_reducible refine gN 1 ?_);refine boxZ 1 #[.int .i64 j,.int .i64 l,.int .i64 t,.int .i64 u,.int .i64 v,.int .i64 x] 118 ?_;intro ab hg dc hbox hb;have c:=aM hbox;have GW282:=gS hg;have GE282:=gS hg;replace HB:=sB hb;clear hb hbox hg;obtain⟨dd,de,df,dg,dh,di,dj,dk,dl,dm,dn,dp⟩:=cz6 c)|((with_reducible refine gF 81 ?_);refine gX (some 5) Tryz.func81 (impl_within.calls o.out) ?_;rintro w' ⟨nd,rfl⟩))
  go_ret;exact⟨rE,cB⟩
end Go.Proofs.YtpbalojiaghfhaaGreat.PFnCompiles
