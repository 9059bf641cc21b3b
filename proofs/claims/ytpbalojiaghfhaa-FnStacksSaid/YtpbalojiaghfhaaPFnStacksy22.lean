import Derived.Test.YtpbalojiaghfhaaPFnStacksy0
import Derived.Test.YtpbalojiaghfhaaPFnStacksy20
namespace Go.Proofs.Ytpbalojiaghfhaa.PFnStacks
open Go.RowKit Go.Proofs.YtpbalojiaghfhaaW.PrintWords Go.Proofs.YtpbalojiaghfhaaW.PrintLast Go.Proofs.YtpbalojiaghfhaaW.PrintMore Go.Proofs.YtpbalojiaghfhaaW.Z
open Kd
attribute [local go_sem] isS max2_int min2_int max_two min_two max_three min_three max_four min_four
set_option linter.unusedVariables false
set_option linter.unusedSimpArgs false
def impl_WideOk.f (a:Int) (b:Int):Option (Bool):=(impl_HalfOk.f a).bind fun ab=>(if ab=true then((impl_HalfOk.f b).bind fun aw=>(some aw))else(some false))
set_option maxHeartbeats 8000000 in
set_option maxRecDepth 100000 in
theorem impl_WideOk.calls {a:Int}{b:Int}{r:Bool}{w:World}(h:impl_WideOk.f a b=some r) :
 Calls Try.prog 99 #[.agg #[.int .i64 a,.int .i64 b]] w fun e w'=>e= .returned (.bool r)∧Below w.heap.size w w':=by
 have hu93:=Try.underlying93;have HB:=rW w
 unfold impl_WideOk.f at h;have H:=h
 clear h;replace H:=bE H;obtain⟨ab,ax,H⟩:=H;by_cases n:ab=true
 ·subst n;replace H:=iT H;replace H:=bE H;obtain⟨aw,aG,H⟩:=H;obtain rfl:=Option.some.inj H;go_enter Try.func99,Try.ntmps99
  go_wp2_with (first|((with_reducible refine gN 1 ?_);refine boxZ 1 #[.int .i64 a,.int .i64 b] 93 ?_;intro aH hg bD hbox hb;have ac:=aM hbox;have GW1034:=gS hg;have GE1034:=gS hg;replace HB:=sB hb;clear hb hbox hg;obtain⟨bF,bG,bH,bI⟩:=cz2 ac)|((with_reducible refine gF 83 ?_);refine gX (some 5) Try.func83 (impl_HalfOk.calls ax.out) ?_;rintro w' ⟨nd,rfl⟩)|(go_at_call 83;(with_reducible refine(impl_HalfOk.calls aG.out).mono ?_);rintro e w' ⟨rfl,⟨nd,rfl⟩⟩))
  go_ret;exact⟨rE,cB⟩
 ·replace n:=Bool.eq_false_iff.mpr n;subst n;replace H:=iF H;obtain rfl:=Option.some.inj H;go_enter Try.func99,Try.ntmps99
  go_wp2_with (first|((with_reducible refine gN 1 ?_);refine boxZ 1 #[.int .i64 a,.int .i64 b] 93 ?_;intro aH hg aI hbox hb;have ac:=aM hbox;have GW1034:=gS hg;have GE1034:=gS hg;replace HB:=sB hb;clear hb hbox hg;obtain⟨ad,ae,af,ag⟩:=cz2 ac)|((with_reducible refine gF 83 ?_);refine gX (some 5) Try.func83 (impl_HalfOk.calls ax.out) ?_;rintro w' ⟨nd,rfl⟩))
  go_ret;exact⟨rE,cB⟩
def impl_CallOk.l0:Nat→List (S93)→Int→Int→Int→Int→List (S93)→Option (Bool)
  | 0,_,_,_,_,_,_=>none
  | k+1,L,ay,x,az,aA,aB=>if x<ay then(if 0≤x then(if x<(L.length:Int)then((impl_WideOk.f ((rd_T93 L x).f0) ((rd_T93 L x).f1)).bind fun ah=>(if ah=true then(impl_CallOk.l0 k L ay (wrap64 (x+1)) az aA aB)else(some false)))else(none))else(none))else((impl_HalfOk.f az).bind fun ai=>(if ai=true then((impl_HalfOk.f aA).bind fun aj=>(if aj=true then(some ((aB.length:Int) == 3))else(some false)))else(some false)))
def impl_CallOk.f (k:Nat) (a:Int) (b:Int) (c:List (S93)):Option (Bool):=impl_CallOk.l0 k c (c.length:Int) 0 a b c
set_option maxHeartbeats 8000000 in
set_option maxRecDepth 100000 in
theorem impl_CallOk.calls {k:Nat}{a:Int}{b:Int}{o:Option Addr}{p:Nat}{c:List (S93)}{r:Bool}{w:World}(h:impl_CallOk.f k a b c=some r)(y:Kd.C k93 w o c.length c)(z:c.length≤p) :
 Calls Try.prog 61 #[.agg #[.int .i64 a,.int .i64 b,.slice o c.length p]] w fun e w'=>e= .returned (.bool r)∧Below w.heap.size w w':=by
 have hu28:=Try.underlying28;have hu93:=Try.underlying93;have HR0_2:=aM y;have HC0_2:=aM z;clear y z;have HB:=rW w;have H:(impl_CallOk.l0 k c (c.length:Int) 0 a b c)=some r:=h;clear h;have H':=aM H;clear H;go_enter Try.func61,Try.ntmps61
 go_wp2_with (first|((with_reducible refine gN 1 ?_);(try(refine gate_guard (by rfl) ?_;dsimp only));refine boxZ 1 #[.int .i64 a,.int .i64 b,.slice o c.length p] 28 ?_;intro aJ hg bJ hbox hb;have g:=aM hbox;have GW1037:=gS hg;have GE1037:=gS hg;replace HB:=sB hb;clear hb hbox hg;obtain⟨aK,aL,aN,aO,aP,aQ⟩:=cz3 g))
 go_loopg [8] k (fun kq aR w'=> ∃ (l:Int),aR= .int .i64 l∧Aside0 (impl_CallOk.l0 kq c (c.length:Int) l a b c=some r)∧Aside0 (kq≤k)∧Aside0 (w'.heap[aJ]?=some (.cells #[.int .i64 a,.int .i64 b,(.slice o c.length p)] 28 (0,0)))∧Aside0 (Below w.heap.size w w'))
 case atStart=>exact⟨(0),rS,H',⟨Nat.le_refl _⟩,⟨mK g⟩,⟨cB⟩⟩
 case round=>
  clear H';(try clear aK aL aN);(try clear aO aP aQ);obtain⟨l,rfl,HA,HK1,g,HB⟩:=hrel
  cases gk with
  | zero=>exact absurd HA.out (by simp[impl_CallOk.l0])
  | succ k1=>
   have H:=HA.out;clear HA;simp only[impl_CallOk.l0]at H;by_cases m:l<(c.length:Int)
   ·rw[if_pos m]at H;have aS:=decide_eq_true m;clear m;replace H:=gD H;obtain⟨bL,H⟩:=H;replace H:=gD H;obtain⟨aC,H⟩:=H;replace H:=bE H;obtain⟨ah,M,H⟩:=H;by_cases O:ah=true
    ·subst O;replace H:=iT H;have H':=aM H;clear H;obtain⟨aT,aU,aV,ak,aW,aX⟩:=b2 HB (at_T93 HR0_2.out l);cases ak
     go_wp2_with (first|((with_reducible refine gN 4 ?_);(try(refine gate_guard (by rfl) ?_;dsimp only));refine boxZ 4 #[.int .i64 0,.int .i64 0] 93 ?_;intro aY hg aZ hbox hb;have s:=aM hbox;have GW1039:=gS hg;have GE1039:=gS hg;replace HB:=sB hb;have al:=nL hg g;have am:=nG hg g;replace g:=kB g hb;clear hb hbox hg;have hnb10:=am.out;have hnc10:=al.out;obtain⟨a0,a1,a2,a3⟩:=cz2 s)|((with_reducible refine gF 99 ?_);refine gX (some 13) Try.func99 (impl_WideOk.calls M.out) ?_;intro a4 hb;replace g:=kB g hb;replace s:=kP s hb (.cells #[.int .i64 ((rd_T93 c l).f0),.int .i64 ((rd_T93 c l).f1)] 93 (0,0));replace HB:=sB hb;(try clear hb)))
     go_roundg k1
     case measure=>exact oK
     case rel=>exact⟨(wrap64 (l+1)),rS,H',⟨oK⟩,⟨mK g⟩,⟨cB⟩⟩
    ·replace O:=Bool.eq_false_iff.mpr O;subst O;replace H:=iF H;obtain rfl:=Option.some.inj H;obtain⟨aT,aU,aV,ak,aW,aX⟩:=b2 HB (at_T93 HR0_2.out l);cases ak
     go_wp2_with (first|((with_reducible refine gN 4 ?_);(try(refine gate_guard (by rfl) ?_;dsimp only));refine boxZ 4 #[.int .i64 0,.int .i64 0] 93 ?_;intro aY hg bM hbox hb;have s:=aM hbox;have GW1039:=gS hg;have GE1039:=gS hg;replace HB:=sB hb;have al:=nL hg g;have am:=nG hg g;replace g:=kB g hb;clear hb hbox hg;have hnb14:=am.out;have hnc14:=al.out;obtain⟨bN,bO,bP,bQ⟩:=cz2 s)|((with_reducible refine gF 99 ?_);refine gX (some 13) Try.func99 (impl_WideOk.calls M.out) ?_;intro bR hb;replace g:=kB g hb;replace s:=kP s hb (.cells #[.int .i64 ((rd_T93 c l).f0),.int .i64 ((rd_T93 c l).f1)] 93 (0,0));replace HB:=sB hb;(try clear hb)))
     go_ret;exact⟨rE,cB⟩
   ·rw[if_neg m]at H;have aS:=decide_eq_false m;clear m;replace H:=bE H;obtain⟨ai,an,H⟩:=H;by_cases U:ai=true
    ·subst U;replace H:=iT H;replace H:=bE H;obtain⟨aj,aD,H⟩:=H;by_cases W:aj=true
     ·subst W;replace H:=iT H;obtain rfl:=Option.some.inj H;obtain⟨a5,a6,a7,a8,a9,ba⟩:=cz3 g
      go_wp2_with (first|((with_reducible refine gF 83 ?_);refine gX (some 18) Try.func83 (impl_HalfOk.calls an.out) ?_;rintro w' ⟨nd,rfl⟩)|(go_at_call 83;(with_reducible refine(impl_HalfOk.calls aD.out).mono ?_);rintro e w' ⟨rfl,⟨nd,rfl⟩⟩))
      go_ret;exact⟨rE,cB⟩
     ·replace W:=Bool.eq_false_iff.mpr W;subst W;replace H:=iF H;obtain rfl:=Option.some.inj H;obtain⟨bS,bT,bU,bV,bW,bX⟩:=cz3 g
      go_wp2_with (first|((with_reducible refine gF 83 ?_);refine gX (some 18) Try.func83 (impl_HalfOk.calls an.out) ?_;rintro w' ⟨nd,rfl⟩)|(go_at_call 83;(with_reducible refine(impl_HalfOk.calls aD.out).mono ?_);rintro e w' ⟨rfl,⟨nd,rfl⟩⟩))
      go_ret;exact⟨rE,cB⟩
    ·replace U:=Bool.eq_false_iff.mpr U;subst U;replace H:=iF H;obtain rfl:=Option.some.inj H;obtain⟨bY,bZ,b0,b1,b5,b8⟩:=cz3 g
     go_wp2_with (first|((with_reducible refine gF 83 ?_);refine gX (some 18) Try.func83 (impl_HalfOk.calls an.out) ?_;rintro w' ⟨nd,rfl⟩))
     go_ret;exact⟨rE,cB⟩
def impl_ResultOf.f (A:Int) (d:Int):Option (Int):=(impl_within.f A 0 5).bind fun ao=>(if ao=true then((impl_within.f d 0 65535).bind fun ap=>(if ap=true then(some (wrap64 ((wrap64 (65536*A))+d)))else(some 0)))else(some 0))
set_option maxHeartbeats 8000000 in
set_option maxRecDepth 100000 in
theorem impl_ResultOf.calls {A:Int}{d:Int}{r:Int}{w:World}(h:impl_ResultOf.f A d=some r) :
 Calls Try.prog 62 #[.int .i64 A,.int .i64 d] w fun e w'=>e= .returned (.int .i64 r)∧Drawn0 w w':=by
 unfold impl_ResultOf.f at h;have H:=h
 clear h;replace H:=bE H;obtain⟨ao,aq,H⟩:=H;by_cases m:ao=true
 ·subst m;replace H:=iT H;replace H:=bE H;obtain⟨ap,D,H⟩:=H;by_cases i:ap=true
  ·subst i;replace H:=iT H;obtain rfl:=Option.some.inj H;go_enter Try.func62,Try.ntmps62
   go_wp2_with (first|((with_reducible refine gF 68 ?_);refine gX (some 6) Try.func68 (impl_within.calls aq.out) ?_;rintro w' ⟨nd,rfl⟩)|(go_at_call 68;(with_reducible refine(impl_within.calls D.out).mono ?_);rintro e w' ⟨rfl,⟨nd,rfl⟩⟩))
   go_ret
   exact⟨by first|rfl|(simp;done)|(simp[*];done),by repeat(first|exact Drawn0.refl _|apply Drawn0.step)⟩
  ·replace i:=Bool.eq_false_iff.mpr i;subst i;replace H:=iF H;obtain rfl:=Option.some.inj H;go_enter Try.func62,Try.ntmps62
   go_wp2_with (first|((with_reducible refine gF 68 ?_);refine gX (some 6) Try.func68 (impl_within.calls aq.out) ?_;rintro w' ⟨nd,rfl⟩)|(go_at_call 68;(with_reducible refine(impl_within.calls D.out).mono ?_);rintro e w' ⟨rfl,⟨nd,rfl⟩⟩))
   go_ret
   exact⟨by first|rfl|(simp;done)|(simp[*];done),by repeat(first|exact Drawn0.refl _|apply Drawn0.step)⟩
 ·replace m:=Bool.eq_false_iff.mpr m;subst m;replace H:=iF H;obtain rfl:=Option.some.inj H;go_enter Try.func62,Try.ntmps62
  go_wp2_with (first|((with_reducible refine gF 68 ?_);refine gX (some 6) Try.func68 (impl_within.calls aq.out) ?_;rintro w' ⟨nd,rfl⟩))
  go_ret
  exact⟨by first|rfl|(simp;done)|(simp[*];done),by repeat(first|exact Drawn0.refl _|apply Drawn0.step)⟩
def impl_FieldAt.j0:Nat→Int→Bool→Int→Int→List (S93)→Option (Int×Bool)
  | 0,_,_,_,_,_=>none
  | k+1,q,bb,bd,be,X=>if bb=true then(some (0,false))else(if q=0 then(some (be,true))else(if q=1 then(some (bd,true))else(if(Int.tmod q 2)=0 then(if 0≤(wrap64 ((wrap64 (Int.tdiv q 2)) - 1))then(if(wrap64 ((wrap64 (Int.tdiv q 2)) - 1))<(X.length:Int)then(some ((rd_T93 X (wrap64 ((wrap64 (Int.tdiv q 2)) - 1))).f1,true))else(none))else(none))else(if 0≤(wrap64 ((wrap64 (Int.tdiv q 2)) - 1))then(if(wrap64 ((wrap64 (Int.tdiv q 2)) - 1))<(X.length:Int)then(some ((rd_T93 X (wrap64 ((wrap64 (Int.tdiv q 2)) - 1))).f0,true))else(none))else(none)))))
def impl_FieldAt.f (k:Nat) (a:Int) (b:Int) (c:List (S93)) (d:Int):Option (Int×Bool):=(impl_CallOk.f k a b c).bind fun ar=>(if ar=true then((impl_within.f d 0 7).bind fun au=>(impl_FieldAt.j0 k d (!au) a b c))else(impl_FieldAt.j0 k d true a b c))
set_option maxHeartbeats 8000000 in
set_option maxRecDepth 100000 in
theorem impl_FieldAt.calls {k:Nat}{a:Int}{b:Int}{o:Option Addr}{p:Nat}{c:List (S93)}{d:Int}{r1:Int}{r2:Bool}{w:World}(h:impl_FieldAt.f k a b c d=some (r1,r2))(y:Kd.C k93 w o c.length c)(z:c.length≤p) :
 Calls Try.prog 100 #[.agg #[.int .i64 a,.int .i64 b,.slice o c.length p],.int .i64 d] w fun e w'=>e= .returned (.tuple #[.int .i64 r1,.bool r2])∧Below w.heap.size w w':=by
 have hu28:=Try.underlying28;have HR0_2:=aM y;have HC0_2:=aM z;clear y z;have HB:=rW w
 unfold impl_FieldAt.f at h;have H:=h
 clear h;have HC3:=aM H;clear H;go_enter Try.func100,Try.ntmps100
 go_upto_region 1 with(first|((with_reducible refine gN 2 ?_);refine boxZ 2 #[.int .i64 a,.int .i64 b,.slice o c.length p] 28 ?_;intro bf hg bg hbox hb;have j:=aM hbox;have GW1045:=gS hg;have GE1045:=gS hg;replace HB:=sB hb;clear hb hbox hg))
 (try simp only[Act.put,List.setIfInBounds_toArray,List.set_cons_zero,List.set_cons_succ])
 go_cut [13] (fun bh wc=> ∃ (kq:Nat) (Y:Bool),bh= .bool Y∧Aside0 (impl_FieldAt.j0 kq d Y a b c=some (r1,r2))∧Aside0 (kq≤k)∧Aside0 (wc.heap[bf]?=some (.cells #[.int .i64 a,.int .i64 b,(.slice o c.length p)] 28 (0,0)))∧Aside0 (Below w.heap.size w wc))
 case first=>
  have H:=HC3.out;clear HC3;replace H:=bE H;obtain⟨ar,D,H⟩:=H;by_cases i:ar=true
  ·subst i;replace H:=iT H;replace H:=bE H;obtain⟨au,M,H⟩:=H;have H':=aM H;clear H;obtain⟨ad,ae,aE,af,ag,aF⟩:=cz3 j
   go_wp2_with (first|((with_reducible refine gF 61 ?_);refine gX (some 7) Try.func61 (impl_CallOk.calls D.out (cH HR0_2) HC0_2.out) ?_;intro aZ hb;replace j:=kB j hb;replace HB:=sB hb;(try clear hb))|(go_at_call 68;(with_reducible refine(impl_within.calls M.out).mono ?_);rintro e w' ⟨rfl,⟨nd,rfl⟩⟩))
   go_meet
   case rel=>exact⟨_,(!au),rS,H',⟨oL⟩,⟨mK j⟩,⟨cB⟩⟩
  ·replace i:=Bool.eq_false_iff.mpr i;subst i;replace H:=iF H;have H':=aM H;clear H;obtain⟨bi,bj,bk,bl,bm,bn⟩:=cz3 j
   go_wp2_with (first|((with_reducible refine gF 61 ?_);refine gX (some 7) Try.func61 (impl_CallOk.calls D.out (cH HR0_2) HC0_2.out) ?_;intro b9 hb;replace j:=kB j hb;replace HB:=sB hb;(try clear hb)))
   go_meet
   case rel=>exact⟨_,(true),rS,H',⟨oL⟩,⟨mK j⟩,⟨cB⟩⟩
 case rest=>
  clear HC3;(try clear i);(try clear bi bj bk);(try clear ad ae aE);(try clear bl bm bn);(try clear af ag aF);obtain⟨kq,Y,rfl,HA,HJ2,j,HB⟩:=hcut
  cases kq with
  | zero=>exact absurd HA.out (by simp[impl_FieldAt.j0])
  | succ kj2=>
   have H:=HA.out;clear HA;simp only[impl_FieldAt.j0]at H;by_cases aa:Y=true
   ·subst aa;replace H:=iT H;simp only[Option.some.injEq,Prod.mk.injEq]at H;obtain⟨rfl,rfl⟩:=H;go_wp2;go_ret2;exact⟨rE,cB⟩
   ·replace aa:=Bool.eq_false_iff.mpr aa;subst aa;replace H:=iF H;by_cases E:d=0
    ·rw[if_pos E]at H;obtain⟨bo,bp⟩:=eT E;clear E;simp only[Option.some.injEq,Prod.mk.injEq]at H;obtain⟨rfl,rfl⟩:=H;obtain⟨ca,cb,cc,cd,ce,cf⟩:=cz3 j;go_wp2;go_ret2;exact⟨rE,cB⟩
    ·rw[if_neg E]at H;obtain⟨bo,bp⟩:=eF E;by_cases G:d=1
     ·rw[if_pos G]at H;obtain⟨bq,br⟩:=eT G;clear G;simp only[Option.some.injEq,Prod.mk.injEq]at H;obtain⟨rfl,rfl⟩:=H;obtain⟨cg,ch,ci,cj,ck,cl⟩:=cz3 j;go_wp2;go_ret2;exact⟨rE,cB⟩
     ·rw[if_neg G]at H;obtain⟨bq,br⟩:=eF G;by_cases I:(Int.tmod d 2)=0
      ·rw[if_pos I]at H;obtain⟨bs,bu⟩:=eT I;clear I;obtain⟨ji18,hji18⟩ : ∃ j_:Int,(wrap64 ((wrap64 (Int.tdiv d 2)) - 1))=j_:=⟨_,rfl⟩
       (first|rw[hji18]at H|simp only[hji18]at H)
       have hji18w:(IntKind.i64.wrap ((wrap64 (Int.tdiv d 2)) - 1))=ji18:=(i64_w _).trans hji18;replace H:=gD H;obtain⟨cm,H⟩:=H;replace H:=gD H;obtain⟨cn,H⟩:=H;simp only[Option.some.injEq,Prod.mk.injEq]at H;obtain⟨rfl,rfl⟩:=H;obtain⟨a5,a6,a7,a8,a9,ba⟩:=cz3 j;obtain⟨co,cp,cq,bv,cr,cs⟩:=b2 HB (at_T93 HR0_2.out (ji18));cases bv;go_wp2;go_ret2
       exact⟨by first|rfl|(simp[errW_none,errW_some] <;> rfl)|(simp only[← hji18];first|rfl|(simp[errW_none,errW_some] <;> rfl))|(simp[*,errW_none,errW_some] <;> rfl),cB⟩
      ·rw[if_neg I]at H;obtain⟨bs,bu⟩:=eF I;obtain⟨ji22,hji22⟩ : ∃ j_:Int,(wrap64 ((wrap64 (Int.tdiv d 2)) - 1))=j_:=⟨_,rfl⟩
       (first|rw[hji22]at H|simp only[hji22]at H)
       have hji22w:(IntKind.i64.wrap ((wrap64 (Int.tdiv d 2)) - 1))=ji22:=(i64_w _).trans hji22;replace H:=gD H;obtain⟨ct,H⟩:=H;replace H:=gD H;obtain⟨cu,H⟩:=H;simp only[Option.some.injEq,Prod.mk.injEq]at H;obtain⟨rfl,rfl⟩:=H;obtain⟨cv,cw,cx,cy,cz,cA⟩:=cz3 j;obtain⟨cD,cE,cF,bw,cG,cI⟩:=b2 HB (at_T93 HR0_2.out (ji22));cases bw;go_wp2;go_ret2
       exact⟨by first|rfl|(simp[errW_none,errW_some] <;> rfl)|(simp only[← hji22];first|rfl|(simp[errW_none,errW_some] <;> rfl))|(simp[*,errW_none,errW_some] <;> rfl),cB⟩
def impl_Ins_holds.f (a:Int) (b:Int) (t:Int) (u:Int) (d:Int):Option (Bool):=if a=3 then(some (d == b))else(if a=4 then(some (decide (d>b)))else(if a=5 then(some (decide (d≥b)))else(some ((Go.bits .and .i64 d b) !=0))))
set_option maxHeartbeats 8000000 in
set_option maxRecDepth 100000 in
theorem impl_Ins_holds.calls {a:Int}{b:Int}{t:Int}{u:Int}{d:Int}{r:Bool}{w:World}(h:impl_Ins_holds.f a b t u d=some r) :
 Calls Try.prog 101 #[.agg #[.int .i64 a,.int .i64 b,.int .i64 t,.int .i64 u],.int .i64 d] w fun e w'=>e= .returned (.bool r)∧Below w.heap.size w w':=by
 have hu34:=Try.underlying34;have HB:=rW w;have H:(if a=3 then(some (d == b))else(if a=4 then(some (decide (d>b)))else(if a=5 then(some (decide (d≥b)))else(some ((Go.bits .and .i64 d b) !=0)))))=some r:=h;clear h;by_cases n:a=3
 ·rw[if_pos n]at H;obtain⟨bx,bz⟩:=eT n;clear n;obtain rfl:=Option.some.inj H;go_enter Try.func101,Try.ntmps101
  go_wp2_with (first|((with_reducible refine gN 2 ?_);refine boxZ 2 #[.int .i64 a,.int .i64 b,.int .i64 t,.int .i64 u] 34 ?_;intro av hg bg hbox hb;have v:=aM hbox;have GW1050:=gS hg;have GE1050:=gS hg;replace HB:=sB hb;clear hb hbox hg;obtain⟨cJ,cL,cM,cN,cO,cP,cQ,cR⟩:=cz4 v))
  go_ret;exact⟨rE,cB⟩
 ·rw[if_neg n]at H;obtain⟨bx,bz⟩:=eF n;by_cases i:a=4
  ·rw[if_pos i]at H;obtain⟨aC,bA⟩:=eT i;clear i;obtain rfl:=Option.some.inj H;go_enter Try.func101,Try.ntmps101
   go_wp2_with (first|((with_reducible refine gN 2 ?_);refine boxZ 2 #[.int .i64 a,.int .i64 b,.int .i64 t,.int .i64 u] 34 ?_;intro av hg aI hbox hb;have v:=aM hbox;have GW1050:=gS hg;have GE1050:=gS hg;replace HB:=sB hb;clear hb hbox hg;obtain⟨ad,ae,aE,cS,af,ag,aF,cT⟩:=cz4 v))
   go_ret;exact⟨rE,cB⟩
  ·rw[if_neg i]at H;obtain⟨aC,bA⟩:=eF i;by_cases J:a=5
   ·rw[if_pos J]at H;obtain⟨bB,bC⟩:=eT J;clear J;obtain rfl:=Option.some.inj H;go_enter Try.func101,Try.ntmps101
    go_wp2_with (first|((with_reducible refine gN 2 ?_);refine boxZ 2 #[.int .i64 a,.int .i64 b,.int .i64 t,.int .i64 u] 34 ?_;intro av hg cU hbox hb;have v:=aM hbox;have GW1050:=gS hg;have GE1050:=gS hg;replace HB:=sB hb;clear hb hbox hg;obtain⟨a0,a1,cV,cW,a2,a3,cX,cY⟩:=cz4 v))
    go_ret;exact⟨rE,cB⟩
   ·rw[if_neg J]at H;obtain⟨bB,bC⟩:=eF J;obtain rfl:=Option.some.inj H;go_enter Try.func101,Try.ntmps101
    go_wp2_with (first|((with_reducible refine gN 2 ?_);refine boxZ 2 #[.int .i64 a,.int .i64 b,.int .i64 t,.int .i64 u] 34 ?_;intro av hg a4 hbox hb;have v:=aM hbox;have GW1050:=gS hg;have GE1050:=gS hg;replace HB:=sB hb;clear hb hbox hg;obtain⟨cZ,c0,c1,c3,c4,c6,c8,c9⟩:=cz4 v))
    go_ret;exact⟨rE,cB⟩
end Go.Proofs.Ytpbalojiaghfhaa.PFnStacks
