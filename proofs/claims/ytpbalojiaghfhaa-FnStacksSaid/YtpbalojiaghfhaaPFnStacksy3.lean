import Derived.Test.YtpbalojiaghfhaaPFnStacksy0
import Derived.Test.YtpbalojiaghfhaaPFnStacksy2
namespace Go.Proofs.Ytpbalojiaghfhaa.PFnStacks
open Go.RowKit Go.Proofs.YtpbalojiaghfhaaW.PrintWords Go.Proofs.YtpbalojiaghfhaaW.PrintLast Go.Proofs.YtpbalojiaghfhaaW.PrintMore Go.Proofs.YtpbalojiaghfhaaW.Z
open Kd
attribute [local go_sem] isS max2_int min2_int max_two min_two max_three min_three max_four min_four
set_option linter.unusedVariables false
set_option linter.unusedSimpArgs false
mutual
def spec_InsOk.j0:Nat→Bool→Int→Int→Int→Int→Option (Bool)
  | 0,_,_,_,_,_=>none
  | k+1,bp,t,v,G,I=>if bp=true then(some false)else((spec_l06Ask.f t).bind fun ah=>(if ah=true then(spec_InsOk.j1 k false t v G I)else(if G=0 then(spec_InsOk.j1 k (I !=0) t v G I)else(spec_InsOk.j1 k true t v G I))))
def spec_InsOk.j1:Nat→Bool→Int→Int→Int→Int→Option (Bool)
  | 0,_,_,_,_,_=>none
  | k+1,bq,t,v,G,I=>if bq=true then(some false)else(if t=1 then(some (decide (v<8)))else(if t=7 then(some (decide (v<400)))else(some true)))
end
def spec_InsOk.f (k:Nat) (a:Int) (b:Int) (c:Int) (d:Int):Option (Bool):=(spec_l01In.f a 1 8).bind fun ai=>(if ai=true then((spec_HalfOk.f b).bind fun aj=>(if aj=true then((spec_l01In.f c 0 15).bind fun ak=>(if ak=true then((spec_l01In.f d 0 15).bind fun al=>(spec_InsOk.j0 k (!al) a b c d))else(spec_InsOk.j0 k true a b c d)))else(spec_InsOk.j0 k true a b c d)))else(spec_InsOk.j0 k true a b c d))
set_option maxHeartbeats 8000000 in
set_option maxRecDepth 100000 in
theorem spec_InsOk.calls {k:Nat}{a:Int}{b:Int}{c:Int}{d:Int}{r:Bool}{w:World}(h:spec_InsOk.f k a b c d=some r) :
 Calls Try.prog 42 #[.agg #[.int .i64 a,.int .i64 b,.int .i64 c,.int .i64 d]] w fun e w'=>e= .returned (.bool r)∧Below w.heap.size w w':=by
 have hu34:=Try.underlying34;have HB:=rW w
 unfold spec_InsOk.f at h;have H:=h
 clear h;have HC2:=aM H;clear H;go_enter Try.func42,Try.ntmps42
 go_upto_region 1 with(first|((with_reducible refine gN 1 ?_);refine boxZ 1 #[.int .i64 a,.int .i64 b,.int .i64 c,.int .i64 d] 34 ?_;intro aB hg br hbox hb;have g:=aM hbox;have GW183:=gS hg;have GE183:=gS hg;replace HB:=sB hb;clear hb hbox hg))
 (try simp only[Act.put,List.setIfInBounds_toArray,List.set_cons_zero,List.set_cons_succ])
 go_cut [24] (fun bs wc=> ∃ (kq:Nat) (ad:Bool),bs= .bool ad∧Aside0 (spec_InsOk.j0 kq ad a b c d=some r)∧Aside0 (kq≤k)∧Aside0 (wc.heap[aB]?=some (.cells #[.int .i64 a,.int .i64 b,.int .i64 c,.int .i64 d] 34 (0,0)))∧Aside0 (Below w.heap.size w wc))
 case first=>
  have H:=HC2.out;clear HC2;replace H:=bE H;obtain⟨ai,x,H⟩:=H;by_cases n:ai=true
  ·subst n;replace H:=iT H;replace H:=bE H;obtain⟨aj,q,H⟩:=H;by_cases o:aj=true
   ·subst o;replace H:=iT H;replace H:=bE H;obtain⟨ak,aC,H⟩:=H;by_cases y:ak=true
    ·subst y;replace H:=iT H;replace H:=bE H;obtain⟨al,ae,H⟩:=H;have H':=aM H;clear H;obtain⟨aD,aE,aF,aG,aH,aI,aJ,aK⟩:=cz4 g
     go_wp2_with (first|((with_reducible refine gF 41 ?_);refine gX (some 5) Try.func41 (spec_l01In.calls x.out) ?_;rintro w' ⟨nd,rfl⟩)|(go_at_call 77;(with_reducible refine(spec_HalfOk.calls q.out).mono ?_);rintro e w' ⟨rfl,⟨nd,rfl⟩⟩)|(go_at_call 41;(with_reducible refine(spec_l01In.calls aC.out).mono ?_);rintro e w' ⟨rfl,⟨nd,rfl⟩⟩)|(go_at_call 41;(with_reducible refine(spec_l01In.calls ae.out).mono ?_);rintro e w' ⟨rfl,⟨nd,rfl⟩⟩))
     go_meet
     case rel=>exact⟨_,(!al),rS,H',⟨oL⟩,⟨mK g⟩,⟨cB⟩⟩
    ·replace y:=Bool.eq_false_iff.mpr y;subst y;replace H:=iF H;have H':=aM H;clear H;obtain⟨aL,aN,aO,aP,aQ,aR,aS,aT⟩:=cz4 g
     go_wp2_with (first|((with_reducible refine gF 41 ?_);refine gX (some 5) Try.func41 (spec_l01In.calls x.out) ?_;rintro w' ⟨nd,rfl⟩)|(go_at_call 77;(with_reducible refine(spec_HalfOk.calls q.out).mono ?_);rintro e w' ⟨rfl,⟨nd,rfl⟩⟩)|(go_at_call 41;(with_reducible refine(spec_l01In.calls aC.out).mono ?_);rintro e w' ⟨rfl,⟨nd,rfl⟩⟩))
     go_meet
     case rel=>exact⟨_,(true),rS,H',⟨oL⟩,⟨mK g⟩,⟨cB⟩⟩
   ·replace o:=Bool.eq_false_iff.mpr o;subst o;replace H:=iF H;have H':=aM H;clear H;obtain⟨aU,aV,aW,aX,aY,aZ,a0,a1⟩:=cz4 g
    go_wp2_with (first|((with_reducible refine gF 41 ?_);refine gX (some 5) Try.func41 (spec_l01In.calls x.out) ?_;rintro w' ⟨nd,rfl⟩)|(go_at_call 77;(with_reducible refine(spec_HalfOk.calls q.out).mono ?_);rintro e w' ⟨rfl,⟨nd,rfl⟩⟩))
    go_meet
    case rel=>exact⟨_,(true),rS,H',⟨oL⟩,⟨mK g⟩,⟨cB⟩⟩
  ·replace n:=Bool.eq_false_iff.mpr n;subst n;replace H:=iF H;have H':=aM H;clear H;obtain⟨a2,a3,a4,a5,a6,a7,a8,a9⟩:=cz4 g
   go_wp2_with (first|((with_reducible refine gF 41 ?_);refine gX (some 5) Try.func41 (spec_l01In.calls x.out) ?_;rintro w' ⟨nd,rfl⟩))
   go_meet
   case rel=>exact⟨_,(true),rS,H',⟨oL⟩,⟨mK g⟩,⟨cB⟩⟩
 case rest=>
  clear HC2;(try clear n);(try clear o);(try clear y);(try clear aD aE aF aG);(try clear aL aN aO aP);(try clear aU aV aW aX);(try clear a2 a3 a4 a5);(try clear aH aI aJ aK);(try clear aQ aR aS aT);(try clear aY aZ a0 a1);(try clear a6 a7 a8 a9);obtain⟨kq,ad,rfl,HA,HJ1,g,HB⟩:=hcut
  cases kq with
  | zero=>exact absurd HA.out (by simp[spec_InsOk.j0])
  | succ kj1=>
   have H:=HA.out;clear HA;simp only[spec_InsOk.j0]at H;by_cases J:ad=true
   ·subst J;replace H:=iT H;obtain rfl:=Option.some.inj H;go_wp2;go_ret;exact⟨rE,cB⟩
   ·replace J:=Bool.eq_false_iff.mpr J;subst J;replace H:=iF H;have HC16:=aM H;clear H
    go_upto_region 3 with(fail)
    go_cut [38] (fun bu wc=> ∃ (kq:Nat) (af:Bool),bu= .bool af∧Aside0 (spec_InsOk.j1 kq af a b c d=some r)∧Aside0 (kq≤kj1)∧Aside0 (wc.heap[aB]?=some (.cells #[.int .i64 a,.int .i64 b,.int .i64 c,.int .i64 d] 34 (0,0)))∧Aside0 (Below w.heap.size w wc))
    case first=>
     have H:=HC16.out;clear HC16;replace H:=bE H;obtain⟨ah,am,H⟩:=H;by_cases L:ah=true
     ·subst L;replace H:=iT H;have H':=aM H;clear H;obtain⟨bv,bw,bx,bz,bA,bB,bC,bD⟩:=cz4 g
      go_wp2_with (first|((with_reducible refine gF 78 ?_);refine gX (some 27) Try.func78 (spec_l06Ask.calls am.out) ?_;rintro w' ⟨nd,rfl⟩))
      go_meet
      case rel=>exact⟨_,(false),rS,H',⟨by have:=HJ1.out;first|omega|exact Nat.le_refl _⟩,⟨mK g⟩,⟨cB⟩⟩
     ·replace L:=Bool.eq_false_iff.mpr L;subst L;replace H:=iF H;by_cases z:c=0
      ·rw[if_pos z]at H;obtain⟨A,ba⟩:=eT z;clear z
       (first|rw[A]|(simp only[i64_w,i32_w];rw[A])|skip)
       have H':=aM H;clear H;obtain⟨bF,bG,bH,bI,bJ,bL,bM,bN⟩:=cz4 g
       go_wp2_with (first|((with_reducible refine gF 78 ?_);refine gX (some 27) Try.func78 (spec_l06Ask.calls am.out) ?_;rintro w' ⟨nd,rfl⟩))
       go_meet
       case rel=>exact⟨_,((d !=0)),rS,H',⟨by have:=HJ1.out;first|omega|exact Nat.le_refl _⟩,⟨mK g⟩,⟨cB⟩⟩
      ·rw[if_neg z]at H;obtain⟨A,ba⟩:=eF z
       (first|rw[A]|(simp only[i64_w,i32_w];rw[A])|skip)
       have H':=aM H;clear H;obtain⟨bO,bP,bQ,bR,bS,bT,bU,bV⟩:=cz4 g
       go_wp2_with (first|((with_reducible refine gF 78 ?_);refine gX (some 27) Try.func78 (spec_l06Ask.calls am.out) ?_;rintro w' ⟨nd,rfl⟩))
       go_meet
       case rel=>exact⟨_,(true),rS,H',⟨by have:=HJ1.out;first|omega|exact Nat.le_refl _⟩,⟨mK g⟩,⟨cB⟩⟩
    case rest=>
     clear HC16;(try clear n);(try clear o);(try clear y);(try clear J);(try clear L);(try clear z);(try clear A);(try clear ba);(try clear aD aE aF aG);(try clear aL aN aO aP);(try clear aU aV aW aX);(try clear a2 a3 a4 a5);(try clear bv bw bx bz);(try clear bF bG bH bI);(try clear bO bP bQ bR);(try clear aH aI aJ aK);(try clear aQ aR aS aT);(try clear aY aZ a0 a1);(try clear a6 a7 a8 a9);(try clear bA bB bC bD);(try clear bJ bL bM bN);(try clear bS bT bU bV);obtain⟨kq,af,rfl,HA,HJ15,g,HB⟩:=hcut
     cases kq with
     | zero=>exact absurd HA.out (by simp[spec_InsOk.j1])
     | succ kj15=>
      have H:=HA.out;clear HA;simp only[spec_InsOk.j1]at H;by_cases ag:af=true
      ·subst ag;replace H:=iT H;obtain rfl:=Option.some.inj H;go_wp2;go_ret;exact⟨rE,cB⟩
      ·replace ag:=Bool.eq_false_iff.mpr ag;subst ag;replace H:=iF H;by_cases M:a=1
       ·rw[if_pos M]at H;obtain⟨bW,bX⟩:=eT M;clear M;obtain rfl:=Option.some.inj H;obtain⟨ck,cl,cm,cn,co,cp,cq,cr⟩:=cz4 g;go_wp2;go_ret;exact⟨rE,cB⟩
       ·rw[if_neg M]at H;obtain⟨bW,bX⟩:=eF M;by_cases O:a=7
        ·rw[if_pos O]at H;obtain⟨bY,bZ⟩:=eT O;clear O;obtain rfl:=Option.some.inj H;obtain⟨cs,ct,cu,cv,cw,cx,cy,cz⟩:=cz4 g;go_wp2;go_ret;exact⟨rE,cB⟩
        ·rw[if_neg O]at H;obtain⟨bY,bZ⟩:=eF O;obtain rfl:=Option.some.inj H;obtain⟨cA,cD,cE,cF,cG,cI,cJ,cL⟩:=cz4 g;go_wp2;go_ret;exact⟨rE,cB⟩
def spec_l07Far.f (a:Int) (b:Int) (c:Int) (d:Int):Option (Int):=if a=7 then(some b)else(if c>d then(some c)else(some d))
set_option maxHeartbeats 8000000 in
set_option maxRecDepth 100000 in
theorem spec_l07Far.calls {a:Int}{b:Int}{c:Int}{d:Int}{r:Int}{w:World}(h:spec_l07Far.f a b c d=some r) :
 Calls Try.prog 43 #[.agg #[.int .i64 a,.int .i64 b,.int .i64 c,.int .i64 d]] w fun e w'=>e= .returned (.int .i64 r)∧Below w.heap.size w w':=by
 have hu34:=Try.underlying34;have HB:=rW w;have H:(if a=7 then(some b)else(if c>d then(some c)else(some d)))=some r:=h;clear h;by_cases U:a=7
 ·rw[if_pos U]at H;obtain⟨b0,b1⟩:=eT U;clear U;obtain rfl:=Option.some.inj H;go_enter Try.func43,Try.ntmps43
  go_wp2_with (first|((with_reducible refine gN 1 ?_);refine boxZ 1 #[.int .i64 a,.int .i64 b,.int .i64 c,.int .i64 d] 34 ?_;intro bb hg br hbox hb;have W:=aM hbox;have GW189:=gS hg;have GE189:=gS hg;replace HB:=sB hb;clear hb hbox hg;obtain⟨cM,cN,cO,cP,cQ,cR,cS,cT⟩:=cz4 W))
  go_ret;exact⟨rE,cB⟩
 ·rw[if_neg U]at H;obtain⟨b0,b1⟩:=eF U;by_cases n:c>d
  ·rw[if_pos n]at H;have bd:decide (d<c)=true:=decide_eq_true n;clear n;obtain rfl:=Option.some.inj H;go_enter Try.func43,Try.ntmps43
   go_wp2_with (first|((with_reducible refine gN 1 ?_);refine boxZ 1 #[.int .i64 a,.int .i64 b,.int .i64 c,.int .i64 d] 34 ?_;intro bb hg cU hbox hb;have W:=aM hbox;have GW189:=gS hg;have GE189:=gS hg;replace HB:=sB hb;clear hb hbox hg;obtain⟨cV,cW,cX,cY,cZ,c0,c1,c2⟩:=cz4 W))
   go_ret;exact⟨rE,cB⟩
  ·rw[if_neg n]at H;have bd:decide (d<c)=false:=decide_eq_false n;clear n;obtain rfl:=Option.some.inj H;go_enter Try.func43,Try.ntmps43
   go_wp2_with (first|((with_reducible refine gN 1 ?_);refine boxZ 1 #[.int .i64 a,.int .i64 b,.int .i64 c,.int .i64 d] 34 ?_;intro bb hg c3 hbox hb;have W:=aM hbox;have GW189:=gS hg;have GE189:=gS hg;replace HB:=sB hb;clear hb hbox hg;obtain⟨c4,c5,c7,c8,c9,da,db,dc⟩:=cz4 W))
   go_ret;exact⟨rE,cB⟩
def spec_CheckProgram.l0:Nat→List (S34)→Int→Option (Bool)
  | 0,_,_=>none
  | k+1,j,m=>if m<(j.length:Int)then(if 0≤m then((spec_InsOk.f k ((rd_T34 j m).f0) ((rd_T34 j m).f1) ((rd_T34 j m).f2) ((rd_T34 j m).f3)).bind fun an=>(if an=true then(if((rd_T34 j m).f0)=8 then(spec_CheckProgram.l0 k j (wrap64 (m+1)))else((spec_l07Far.f ((rd_T34 j m).f0) ((rd_T34 j m).f1) ((rd_T34 j m).f2) ((rd_T34 j m).f3)).bind fun X=>(if(wrap64 ((wrap64 (m+1))+X))≥(j.length:Int)then(some false)else(spec_CheckProgram.l0 k j (wrap64 (m+1))))))else(some false)))else(none))else(if 0≤(wrap64 ((j.length:Int) - 1))then(if(wrap64 ((j.length:Int) - 1))<(j.length:Int)then(some (((rd_T34 j (wrap64 ((j.length:Int) - 1))).f0) == 8))else(none))else(none))
def spec_CheckProgram.f (k:Nat) (l:List (S34)):Option (Bool):=(spec_l01In.f (l.length:Int) 1 400).bind fun ao=>(if ao=true then(spec_CheckProgram.l0 k l 0)else(some false))
set_option maxHeartbeats 8000000 in
set_option maxRecDepth 100000 in
theorem spec_CheckProgram.calls {k:Nat}{be:Option Addr}{bf:Nat}{l:List (S34)}{r:Bool}{w:World}(h:spec_CheckProgram.f k l=some r)(bg:Kd.C k34 w be l.length l)(bh:l.length≤bf) :
 Calls Try.prog 12 #[.slice be l.length bf] w fun e w'=>e= .returned (.bool r)∧Below w.heap.size w w':=by
 have hu34:=Try.underlying34;have HR0:=aM bg;have HC0:=aM bh;clear bg bh;have HB:=rW w
 unfold spec_CheckProgram.f at h;have H:=h
 clear h;replace H:=bE H;obtain⟨ao,Y,H⟩:=H;by_cases p:ao=true
 ·subst p;replace H:=iT H;have H':=aM H;clear H;go_enter Try.func12,Try.ntmps12
  go_wp2_with (first|((with_reducible refine gF 41 ?_);refine gX (some 6) Try.func41 (spec_l01In.calls Y.out) ?_;rintro w' ⟨nd,rfl⟩))
  go_loopg [3] k (fun kq b5 w'=> ∃ (i:Int),b5= .int .i64 i∧Aside0 (spec_CheckProgram.l0 kq l i=some r)∧Aside0 (kq≤k)∧Aside0 (Below w.heap.size w w'))
  case atStart=>exact⟨(0),rS,H',⟨Nat.le_refl _⟩,⟨cB⟩⟩
  case round=>
   clear H';(try clear p);obtain⟨i,rfl,HA,HK1,HB⟩:=hrel
   cases gk with
   | zero=>exact absurd HA.out (by simp[spec_CheckProgram.l0])
   | succ k1=>
    have H:=HA.out;clear HA;simp only[spec_CheckProgram.l0]at H;by_cases D:i<(l.length:Int)
    ·rw[if_pos D]at H;have b8:=decide_eq_true D;clear D;replace H:=gD H;obtain⟨bd,H⟩:=H;replace H:=bE H;obtain⟨an,q,H⟩:=H;by_cases o:an=true
     ·subst o;replace H:=iT H;by_cases aa:((rd_T34 l i).f0)=8
      ·rw[if_pos aa]at H;obtain⟨b9,ca⟩:=eT aa;clear aa;have H':=aM H;clear H;obtain⟨ap,aq,s,u,ar,au,av,aw⟩:=b4 HB (at_T34 HR0.out i);cases u
       go_wp2_with (first|((with_reducible refine gF 42 ?_);refine gX (some 18) Try.func42 (spec_InsOk.calls q.out) ?_;intro dd hb;replace HB:=sB hb;(try clear hb);obtain⟨bi,bj,ab,ac,bk,bl,bm,bn⟩:=b4 HB (at_T34 HR0.out i);obtain rfl:s=ab:=(by injection ac)))
       go_roundg k1
       case measure=>exact oK
       case rel=>exact⟨(wrap64 (i+1)),rS,H',⟨oK⟩,⟨cB⟩⟩
      ·rw[if_neg aa]at H;obtain⟨b9,ca⟩:=eF aa;replace H:=bE H;obtain⟨X,ae,H⟩:=H;by_cases E:(wrap64 ((wrap64 (i+1))+X))≥(l.length:Int)
       ·rw[if_pos E]at H;have cb:decide ((l.length:Int)≤(wrap64 ((wrap64 (i+1))+X)))=true:=decide_eq_true E;clear E;obtain rfl:=Option.some.inj H;obtain⟨ap,aq,s,u,ar,au,av,aw⟩:=b4 HB (at_T34 HR0.out i);cases u
        go_wp2_with (first|((with_reducible refine gF 42 ?_);refine gX (some 18) Try.func42 (spec_InsOk.calls q.out) ?_;intro de hb;replace HB:=sB hb;(try clear hb);obtain⟨bi,bj,ab,ac,bk,bl,bm,bn⟩:=b4 HB (at_T34 HR0.out i);obtain rfl:s=ab:=(by injection ac);obtain⟨cc,cd,ax,ay,ce,cf,cg,ch⟩:=b4 HB (at_T34 HR0.out i);obtain rfl:s=ax:=(by injection ay))|(go_at_call 43;(with_reducible refine(spec_l07Far.calls ae.out).mono ?_);rintro e df ⟨rfl,hb⟩;replace HB:=sB hb;(try clear hb)))
        go_ret;exact⟨rE,cB⟩
       ·rw[if_neg E]at H;have cb:decide ((l.length:Int)≤(wrap64 ((wrap64 (i+1))+X)))=false:=decide_eq_false E;clear E;have H':=aM H;clear H;obtain⟨ap,aq,s,u,ar,au,av,aw⟩:=b4 HB (at_T34 HR0.out i);cases u
        go_wp2_with (first|((with_reducible refine gF 42 ?_);refine gX (some 18) Try.func42 (spec_InsOk.calls q.out) ?_;intro dg hb;replace HB:=sB hb;(try clear hb);obtain⟨bi,bj,ab,ac,bk,bl,bm,bn⟩:=b4 HB (at_T34 HR0.out i);obtain rfl:s=ab:=(by injection ac);obtain⟨cc,cd,ax,ay,ce,cf,cg,ch⟩:=b4 HB (at_T34 HR0.out i);obtain rfl:s=ax:=(by injection ay))|(go_at_call 43;(with_reducible refine(spec_l07Far.calls ae.out).mono ?_);rintro e dh ⟨rfl,hb⟩;replace HB:=sB hb;(try clear hb)))
        go_roundg k1
        case measure=>exact oK
        case rel=>exact⟨(wrap64 (i+1)),rS,H',⟨oK⟩,⟨cB⟩⟩
     ·replace o:=Bool.eq_false_iff.mpr o;subst o;replace H:=iF H;obtain rfl:=Option.some.inj H;obtain⟨ap,aq,s,u,ar,au,av,aw⟩:=b4 HB (at_T34 HR0.out i);cases u
      go_wp2_with (first|((with_reducible refine gF 42 ?_);refine gX (some 18) Try.func42 (spec_InsOk.calls q.out) ?_;intro di hb;replace HB:=sB hb;(try clear hb)))
      go_ret;exact⟨rE,cB⟩
    ·rw[if_neg D]at H;have b8:=decide_eq_false D;clear D;obtain⟨ji17,hji17⟩ : ∃ j_:Int,(wrap64 ((l.length:Int) - 1))=j_:=⟨_,rfl⟩
     (first|rw[hji17]at H|simp only[hji17]at H)
     have hji17w:(IntKind.i64.wrap ((l.length:Int) - 1))=ji17:=(i64_w _).trans hji17;replace H:=gD H;obtain⟨dj,H⟩:=H;replace H:=gD H;obtain⟨dk,H⟩:=H;obtain rfl:=Option.some.inj H;obtain⟨dl,dm,dn,ci,dp,dq,dr,ds⟩:=b4 HB (at_T34 HR0.out (ji17));cases ci;go_wp2;go_ret
     exact⟨by first|rfl|(simp[errW_none,errW_some] <;> rfl)|(simp only[← hji17];first|rfl|(simp[errW_none,errW_some] <;> rfl))|(simp[*,errW_none,errW_some] <;> rfl),cB⟩
 ·replace p:=Bool.eq_false_iff.mpr p;subst p;replace H:=iF H;obtain rfl:=Option.some.inj H;go_enter Try.func12,Try.ntmps12
  go_wp2_with (first|((with_reducible refine gF 41 ?_);refine gX (some 6) Try.func41 (spec_l01In.calls Y.out) ?_;rintro w' ⟨nd,rfl⟩))
  go_ret;exact⟨rE,cB⟩
def spec_WideOk.f (a:Int) (b:Int):Option (Bool):=(spec_HalfOk.f a).bind fun az=>(if az=true then((spec_HalfOk.f b).bind fun bo=>(some bo))else(some false))
set_option maxHeartbeats 8000000 in
set_option maxRecDepth 100000 in
theorem spec_WideOk.calls {a:Int}{b:Int}{r:Bool}{w:World}(h:spec_WideOk.f a b=some r) :
 Calls Try.prog 79 #[.agg #[.int .i64 a,.int .i64 b]] w fun e w'=>e= .returned (.bool r)∧Below w.heap.size w w':=by
 have hu93:=Try.underlying93;have HB:=rW w
 unfold spec_WideOk.f at h;have H:=h
 clear h;replace H:=bE H;obtain⟨az,Y,H⟩:=H;by_cases p:az=true
 ·subst p;replace H:=iT H;replace H:=bE H;obtain⟨bo,x,H⟩:=H;obtain rfl:=Option.some.inj H;go_enter Try.func79,Try.ntmps79
  go_wp2_with (first|((with_reducible refine gN 1 ?_);refine boxZ 1 #[.int .i64 a,.int .i64 b] 93 ?_;intro cj hg dt hbox hb;have aA:=aM hbox;have GW197:=gS hg;have GE197:=gS hg;replace HB:=sB hb;clear hb hbox hg;obtain⟨du,dv,dw,dx⟩:=cz2 aA)|((with_reducible refine gF 77 ?_);refine gX (some 5) Try.func77 (spec_HalfOk.calls Y.out) ?_;rintro w' ⟨nd,rfl⟩)|(go_at_call 77;(with_reducible refine(spec_HalfOk.calls x.out).mono ?_);rintro e w' ⟨rfl,⟨nd,rfl⟩⟩))
  go_ret;exact⟨rE,cB⟩
 ·replace p:=Bool.eq_false_iff.mpr p;subst p;replace H:=iF H;obtain rfl:=Option.some.inj H;go_enter Try.func79,Try.ntmps79
  go_wp2_with (first|((with_reducible refine gN 1 ?_);refine boxZ 1 #[.int .i64 a,.int .i64 b] 93 ?_;intro cj hg dy hbox hb;have aA:=aM hbox;have GW197:=gS hg;have GE197:=gS hg;replace HB:=sB hb;clear hb hbox hg;obtain⟨dz,dC,dD,dE⟩:=cz2 aA)|((with_reducible refine gF 77 ?_);refine gX (some 5) Try.func77 (spec_HalfOk.calls Y.out) ?_;rintro w' ⟨nd,rfl⟩))
  go_ret;exact⟨rE,cB⟩
end Go.Proofs.Ytpbalojiaghfhaa.PFnStacks
