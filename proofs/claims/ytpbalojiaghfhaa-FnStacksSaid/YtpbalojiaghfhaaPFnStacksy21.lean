import Derived.Test.YtpbalojiaghfhaaPFnStacksy0
import Derived.Test.YtpbalojiaghfhaaPFnStacksy20
namespace Go.Proofs.Ytpbalojiaghfhaa.PFnStacks
open Go.RowKit Go.Proofs.YtpbalojiaghfhaaW.PrintWords Go.Proofs.YtpbalojiaghfhaaW.PrintLast Go.Proofs.YtpbalojiaghfhaaW.PrintMore Go.Proofs.YtpbalojiaghfhaaW.Z
open Kd
attribute [local go_sem] isS max2_int min2_int max_two min_two max_three min_three max_four min_four
set_option linter.unusedVariables false
set_option linter.unusedSimpArgs false
def impl_InsOk.j0:Nat→Bool→Int→Int→Int→Int→Option (Bool)
  | 0,_,_,_,_,_=>none
  | k+1,bR,ai,aj,c2,c3=>if bR=true then(some false)else(if ai=1 then((impl_within.f aj 0 7).bind fun aF=>(some aF))else(if ai=7 then((impl_within.f aj 0 399).bind fun aG=>(some aG))else(if ai=2 then((impl_HalfOk.f aj).bind fun aH=>(some aH))else(if ai=8 then((impl_HalfOk.f aj).bind fun aI=>(some aI))else(some false)))))
def impl_InsOk.f (k:Nat) (g:Int) (i:Int) (c:Int) (d:Int):Option (Bool):=(impl_Ins_asks.f g i c d).bind fun au=>(if au=true then((impl_HalfOk.f i).bind fun av=>(if av=true then((impl_within.f c 0 15).bind fun aw=>(if aw=true then((impl_within.f d 0 15).bind fun aJ=>(some aJ))else(some false)))else(some false)))else(if c=0 then(impl_InsOk.j0 k (d !=0) g i c d)else(impl_InsOk.j0 k true g i c d)))
set_option maxHeartbeats 8000000 in
set_option maxRecDepth 100000 in
theorem impl_InsOk.calls {k:Nat}{g:Int}{i:Int}{c:Int}{d:Int}{r:Bool}{w:World}(h:impl_InsOk.f k g i c d=some r) :
 Calls Try.prog 74 #[.agg #[.int .i64 g,.int .i64 i,.int .i64 c,.int .i64 d]] w fun e w'=>e= .returned (.bool r)∧Below w.heap.size w w':=by
 have hu34:=Try.underlying34;have HB:=rW w
 unfold impl_InsOk.f at h;have H:=h
 clear h;replace H:=bE H;obtain⟨au,ak,H⟩:=H;by_cases I:au=true
 ·subst I;replace H:=iT H;replace H:=bE H;obtain⟨av,ax,H⟩:=H;by_cases J:av=true
  ·subst J;replace H:=iT H;replace H:=bE H;obtain⟨aw,aK,H⟩:=H;by_cases t:aw=true
   ·subst t;replace H:=iT H;replace H:=bE H;obtain⟨aJ,bS,H⟩:=H;obtain rfl:=Option.some.inj H;go_enter Try.func74,Try.ntmps74
    go_wp2_with (first|((with_reducible refine gN 1 ?_);refine boxZ 1 #[.int .i64 g,.int .i64 i,.int .i64 c,.int .i64 d] 34 ?_;intro al hg c4 hbox hb;have b:=aM hbox;have GW1015:=gS hg;have GE1015:=gS hg;replace HB:=sB hb;clear hb hbox hg;obtain⟨bT,bU,bV,bW,bX,bY,bZ,b0⟩:=cz4 b)|((with_reducible refine gF 40 ?_);refine gX (some 4) Try.func40 (impl_Ins_asks.calls ak.out) ?_;intro b1 hb;replace b:=kB b hb;replace HB:=sB hb;(try clear hb);obtain⟨aL,aN,aO,aP,aQ,aR,aS,aT⟩:=cz4 b)|((with_reducible refine gF 83 ?_);refine gX (some 7) Try.func83 (impl_HalfOk.calls ax.out) ?_;rintro w' ⟨nd,rfl⟩)|(go_at_call 68;(with_reducible refine(impl_within.calls aK.out).mono ?_);rintro e w' ⟨rfl,⟨nd,rfl⟩⟩)|(go_at_call 68;(with_reducible refine(impl_within.calls bS.out).mono ?_);rintro e w' ⟨rfl,⟨nd,rfl⟩⟩))
    go_ret;exact⟨rE,cB⟩
   ·replace t:=Bool.eq_false_iff.mpr t;subst t;replace H:=iF H;obtain rfl:=Option.some.inj H;go_enter Try.func74,Try.ntmps74
    go_wp2_with (first|((with_reducible refine gN 1 ?_);refine boxZ 1 #[.int .i64 g,.int .i64 i,.int .i64 c,.int .i64 d] 34 ?_;intro al hg b5 hbox hb;have b:=aM hbox;have GW1015:=gS hg;have GE1015:=gS hg;replace HB:=sB hb;clear hb hbox hg;obtain⟨aU,aV,aW,aX,aY,aZ,a0,a1⟩:=cz4 b)|((with_reducible refine gF 40 ?_);refine gX (some 4) Try.func40 (impl_Ins_asks.calls ak.out) ?_;intro b8 hb;replace b:=kB b hb;replace HB:=sB hb;(try clear hb);obtain⟨a2,a3,a4,a5,a6,a7,a8,a9⟩:=cz4 b)|((with_reducible refine gF 83 ?_);refine gX (some 7) Try.func83 (impl_HalfOk.calls ax.out) ?_;rintro w' ⟨nd,rfl⟩)|(go_at_call 68;(with_reducible refine(impl_within.calls aK.out).mono ?_);rintro e w' ⟨rfl,⟨nd,rfl⟩⟩))
    go_ret;exact⟨rE,cB⟩
  ·replace J:=Bool.eq_false_iff.mpr J;subst J;replace H:=iF H;obtain rfl:=Option.some.inj H;go_enter Try.func74,Try.ntmps74
   go_wp2_with (first|((with_reducible refine gN 1 ?_);refine boxZ 1 #[.int .i64 g,.int .i64 i,.int .i64 c,.int .i64 d] 34 ?_;intro al hg b9 hbox hb;have b:=aM hbox;have GW1015:=gS hg;have GE1015:=gS hg;replace HB:=sB hb;clear hb hbox hg;obtain⟨ba,bb,bd,be,bf,bg,bh,bi⟩:=cz4 b)|((with_reducible refine gF 40 ?_);refine gX (some 4) Try.func40 (impl_Ins_asks.calls ak.out) ?_;intro c5 hb;replace b:=kB b hb;replace HB:=sB hb;(try clear hb);obtain⟨ca,cb,cc,cd,ce,cf,cg,ch⟩:=cz4 b)|((with_reducible refine gF 83 ?_);refine gX (some 7) Try.func83 (impl_HalfOk.calls ax.out) ?_;rintro w' ⟨nd,rfl⟩))
   go_ret;exact⟨rE,cB⟩
 ·replace I:=Bool.eq_false_iff.mpr I;subst I;replace H:=iF H;have HC21:=aM H;clear H;go_enter Try.func74,Try.ntmps74
  go_upto_region 3 with(first|((with_reducible refine gN 1 ?_);refine boxZ 1 #[.int .i64 g,.int .i64 i,.int .i64 c,.int .i64 d] 34 ?_;intro al hg c6 hbox hb;have b:=aM hbox;have GW1015:=gS hg;have GE1015:=gS hg;replace HB:=sB hb;clear hb hbox hg;obtain⟨ci,cj,ck,cl,cm,cn,co,cp⟩:=cz4 b)|((with_reducible refine gF 40 ?_);refine gX (some 4) Try.func40 (impl_Ins_asks.calls ak.out) ?_;intro c7 hb;replace b:=kB b hb;replace HB:=sB hb;(try clear hb)))
  (try simp only[Act.put,List.setIfInBounds_toArray,List.set_cons_zero,List.set_cons_succ])
  go_cut [25] (fun cq wc=> ∃ (kq:Nat) (am:Bool),cq= .bool am∧Aside0 (impl_InsOk.j0 kq am g i c d=some r)∧Aside0 (kq≤k)∧Aside0 (wc.heap[al]?=some (.cells #[.int .i64 g,.int .i64 i,.int .i64 c,.int .i64 d] 34 (0,0)))∧Aside0 (Below w.heap.size w wc))
  case first=>
   have H:=HC21.out;clear HC21;by_cases x:c=0
   ·rw[if_pos x]at H;obtain⟨y,bj⟩:=eT x;clear x
    (first|rw[y]|(simp only[i64_w,i32_w];rw[y])|skip)
    have H':=aM H;clear H;obtain⟨cr,cs,ct,cu,cv,cw,cx,cy⟩:=cz4 b;go_wp2;go_meet
    case rel=>exact⟨_,((d !=0)),rS,H',⟨oL⟩,⟨mK b⟩,⟨cB⟩⟩
   ·rw[if_neg x]at H;obtain⟨y,bj⟩:=eF x
    (first|rw[y]|(simp only[i64_w,i32_w];rw[y])|skip)
    have H':=aM H;clear H;obtain⟨bk,bl,bm,bn,bo,bp,bq,br⟩:=cz4 b;go_wp2;go_meet
    case rel=>exact⟨_,(true),rS,H',⟨oL⟩,⟨mK b⟩,⟨cB⟩⟩
  case rest=>
   clear HC21;(try clear I);(try clear J);(try clear t);(try clear x);(try clear y);(try clear bj);(try clear bT bU bV bW);(try clear aL aN aO aP);(try clear aU aV aW aX);(try clear a2 a3 a4 a5);(try clear ba bb bd be);(try clear ca cb cc cd);(try clear ci cj ck cl);(try clear cr cs ct cu);(try clear bk bl bm bn);(try clear bX bY bZ b0);(try clear aQ aR aS aT);(try clear aY aZ a0 a1);(try clear a6 a7 a8 a9);(try clear bf bg bh bi);(try clear ce cf cg ch);(try clear cm cn co cp);(try clear cv cw cx cy);(try clear bo bp bq br);obtain⟨kq,am,rfl,HA,HJ20,b,HB⟩:=hcut
   cases kq with
   | zero=>exact absurd HA.out (by simp[impl_InsOk.j0])
   | succ kj20=>
    have H:=HA.out;clear HA;simp only[impl_InsOk.j0]at H;by_cases an:am=true
    ·subst an;replace H:=iT H;obtain rfl:=Option.some.inj H;go_wp2;go_ret;exact⟨rE,cB⟩
    ·replace an:=Bool.eq_false_iff.mpr an;subst an;replace H:=iF H;by_cases L:g=1
     ·rw[if_pos L]at H;obtain⟨cz,cA⟩:=eT L;clear L;replace H:=bE H;obtain⟨aF,cD,H⟩:=H;obtain rfl:=Option.some.inj H;obtain⟨c8,c9,da,db,dc,dd,de,df⟩:=cz4 b
      go_wp2_with (first|((with_reducible refine gF 68 ?_);refine gX (some 32) Try.func68 (impl_within.calls cD.out) ?_;rintro w' ⟨nd,rfl⟩))
      go_ret;exact⟨rE,cB⟩
     ·rw[if_neg L]at H;obtain⟨cz,cA⟩:=eF L;by_cases M:g=7
      ·rw[if_pos M]at H;obtain⟨cE,cF⟩:=eT M;clear M;replace H:=bE H;obtain⟨aG,cG,H⟩:=H;obtain rfl:=Option.some.inj H;obtain⟨dg,dh,di,dj,dk,dl,dm,dn⟩:=cz4 b
       go_wp2_with (first|((with_reducible refine gF 68 ?_);refine gX (some 37) Try.func68 (impl_within.calls cG.out) ?_;rintro w' ⟨nd,rfl⟩))
       go_ret;exact⟨rE,cB⟩
      ·rw[if_neg M]at H;obtain⟨cE,cF⟩:=eF M;by_cases O:g=2
       ·rw[if_pos O]at H;obtain⟨cI,cJ⟩:=eT O;clear O;replace H:=bE H;obtain⟨aH,cL,H⟩:=H;obtain rfl:=Option.some.inj H;obtain⟨dp,dq,dr,ds,dt,du,dv,dw⟩:=cz4 b
        go_wp2_with (first|((with_reducible refine gF 83 ?_);refine gX (some 43) Try.func83 (impl_HalfOk.calls cL.out) ?_;rintro w' ⟨nd,rfl⟩))
        go_ret;exact⟨rE,cB⟩
       ·rw[if_neg O]at H;obtain⟨cI,cJ⟩:=eF O;by_cases U:g=8
        ·rw[if_pos U]at H;obtain⟨cM,cN⟩:=eT U;clear U;replace H:=bE H;obtain⟨aI,cO,H⟩:=H;obtain rfl:=Option.some.inj H;obtain⟨dx,dy,dz,dC,dD,dE,dF,dG⟩:=cz4 b
         go_wp2_with (first|((with_reducible refine gF 83 ?_);refine gX (some 43) Try.func83 (impl_HalfOk.calls cO.out) ?_;rintro w' ⟨nd,rfl⟩))
         go_ret;exact⟨rE,cB⟩
        ·rw[if_neg U]at H;obtain⟨cM,cN⟩:=eF U;obtain rfl:=Option.some.inj H;obtain⟨dH,dI,dJ,dK,dL,dM,dN,dO⟩:=cz4 b;go_wp2;go_ret;exact⟨rE,cB⟩
def impl_farthest.f (g:Int) (i:Int) (c:Int) (d:Int) (z:Int):Option (Int):=(impl_Ins_asks.f g i c d).bind fun ay=>(if ay=true then(some (wrap64 ((wrap64 (z+1))+(mx c d))))else(if g=7 then(some (wrap64 ((wrap64 (z+1))+i)))else(some z)))
set_option maxHeartbeats 8000000 in
set_option maxRecDepth 100000 in
theorem impl_farthest.calls {g:Int}{i:Int}{c:Int}{d:Int}{z:Int}{r:Int}{w:World}(h:impl_farthest.f g i c d z=some r) :
 Calls Try.prog 75 #[.agg #[.int .i64 g,.int .i64 i,.int .i64 c,.int .i64 d],.int .i64 z] w fun e w'=>e= .returned (.int .i64 r)∧Below w.heap.size w w':=by
 have hu34:=Try.underlying34;have HB:=rW w
 unfold impl_farthest.f at h;have H:=h
 clear h;replace H:=bE H;obtain⟨ay,s,H⟩:=H;by_cases o:ay=true
 ·subst o;replace H:=iT H;obtain⟨ji5,hji5⟩ : ∃ j_:Int,(mx c d)=j_:=⟨_,rfl⟩
  (first|rw[hji5]at H|simp only[hji5]at H)
  (try rw[hji5]at s);have hji5_:(if c<d then d else c)=ji5:=hji5;obtain rfl:=Option.some.inj H;go_enter Try.func75,Try.ntmps75
  go_wp2_with (first|((with_reducible refine gN 2 ?_);refine boxZ 2 #[.int .i64 g,.int .i64 i,.int .i64 c,.int .i64 d] 34 ?_;intro bs hg dP hbox hb;have m:=aM hbox;have GW1024:=gS hg;have GE1024:=gS hg;replace HB:=sB hb;clear hb hbox hg;obtain⟨dQ,dS,dT,dU,dV,dX,dY,dZ⟩:=cz4 m)|((with_reducible refine gF 40 ?_);refine gX (some 7) Try.func40 (impl_Ins_asks.calls s.out) ?_;intro cP hb;replace m:=kB m hb;replace HB:=sB hb;(try clear hb);obtain⟨d0,d1,d2,d3,d4,d5,d6,d7⟩:=cz4 m))
  go_ret
  exact⟨by first|rfl|(simp[errW_none,errW_some] <;> rfl)|(simp only[← hji5];first|rfl|(simp[errW_none,errW_some] <;> rfl))|(simp[*,errW_none,errW_some] <;> rfl),cB⟩
 ·replace o:=Bool.eq_false_iff.mpr o;subst o;replace H:=iF H;by_cases W:g=7
  ·rw[if_pos W]at H;obtain⟨bu,cQ⟩:=eT W;clear W;obtain rfl:=Option.some.inj H;go_enter Try.func75,Try.ntmps75
   go_wp2_with (first|((with_reducible refine gN 2 ?_);refine boxZ 2 #[.int .i64 g,.int .i64 i,.int .i64 c,.int .i64 d] 34 ?_;intro bs hg b1 hbox hb;have m:=aM hbox;have GW1024:=gS hg;have GE1024:=gS hg;replace HB:=sB hb;clear hb hbox hg;obtain⟨aL,aN,aO,aP,aQ,aR,aS,aT⟩:=cz4 m)|((with_reducible refine gF 40 ?_);refine gX (some 7) Try.func40 (impl_Ins_asks.calls s.out) ?_;intro b5 hb;replace m:=kB m hb;replace HB:=sB hb;(try clear hb);obtain⟨aU,aV,aW,aX,aY,aZ,a0,a1⟩:=cz4 m))
   go_ret;exact⟨rE,cB⟩
  ·rw[if_neg W]at H;obtain⟨bu,cQ⟩:=eF W;obtain rfl:=Option.some.inj H;go_enter Try.func75,Try.ntmps75
   go_wp2_with (first|((with_reducible refine gN 2 ?_);refine boxZ 2 #[.int .i64 g,.int .i64 i,.int .i64 c,.int .i64 d] 34 ?_;intro bs hg b8 hbox hb;have m:=aM hbox;have GW1024:=gS hg;have GE1024:=gS hg;replace HB:=sB hb;clear hb hbox hg;obtain⟨a2,a3,a4,a5,a6,a7,a8,a9⟩:=cz4 m)|((with_reducible refine gF 40 ?_);refine gX (some 7) Try.func40 (impl_Ins_asks.calls s.out) ?_;intro b9 hb;replace m:=kB m hb;replace HB:=sB hb;(try clear hb);obtain⟨ba,bb,bd,be,bf,bg,bh,bi⟩:=cz4 m))
   go_ret;exact⟨rE,cB⟩
mutual
def impl_CheckProgram.j0:Nat→List (S34)→Int→Bool→Option (Bool)
  | 0,_,_,_=>none
  | k+1,X,ao,cR=>if cR=true then(some false)else(impl_CheckProgram.l0 k ao X (X.length:Int) 0)
def impl_CheckProgram.l0:Nat→Int→List (S34)→Int→Int→Option (Bool)
  | 0,_,_,_,_=>none
  | k+1,ao,q,bv,n=>if n<bv then(if 0≤n then(if n<(q.length:Int)then((impl_InsOk.f k ((rd_T34 q n).f0) ((rd_T34 q n).f1) ((rd_T34 q n).f2) ((rd_T34 q n).f3)).bind fun az=>(if az=true then((impl_farthest.f ((rd_T34 q n).f0) ((rd_T34 q n).f1) ((rd_T34 q n).f2) ((rd_T34 q n).f3) n).bind fun Y=>(if Y≥ao then(some false)else(impl_CheckProgram.l0 k ao q bv (wrap64 (n+1)))))else(some false)))else(none))else(none))else(some true)
end
def impl_CheckProgram.f (k:Nat) (a:List (S34)):Option (Bool):=(impl_within.f (a.length:Int) 1 400).bind fun aA=>(if aA=true then(if 0≤(wrap64 ((a.length:Int) - 1))then(if(wrap64 ((a.length:Int) - 1))<(a.length:Int)then(impl_CheckProgram.j0 k a (a.length:Int) (((rd_T34 a (wrap64 ((a.length:Int) - 1))).f0) !=8))else(none))else(none))else(impl_CheckProgram.j0 k a (a.length:Int) true))
set_option maxHeartbeats 8000000 in
set_option maxRecDepth 100000 in
theorem impl_CheckProgram.calls {k:Nat}{aa:Option Addr}{ab:Nat}{a:List (S34)}{r:Bool}{w:World}(h:impl_CheckProgram.f k a=some r)(ac:Kd.C k34 w aa a.length a)(ad:a.length≤ab) :
 Calls Try.prog 38 #[.slice aa a.length ab] w fun e w'=>e= .returned (.bool r)∧Below w.heap.size w w':=by
 have hu34:=Try.underlying34;have HR0:=aM ac;have HC0:=aM ad;clear ac ad;have HB:=rW w
 unfold impl_CheckProgram.f at h;have H:=h
 clear h;have HC2:=aM H;clear H;go_enter Try.func38,Try.ntmps38
 go_upto_region 2 with(fail)
 go_cut [19] (fun cS wc=> ∃ (kq:Nat) (ap:Bool),cS= .bool ap∧Aside0 (impl_CheckProgram.j0 kq a (a.length:Int) ap=some r)∧Aside0 (kq≤k)∧Aside0 (Below w.heap.size w wc))
 case first=>
  have H:=HC2.out;clear HC2;replace H:=bE H;obtain⟨aA,s,H⟩:=H;by_cases o:aA=true
  ·subst o;replace H:=iT H;obtain⟨ji5,hji5⟩ : ∃ j_:Int,(wrap64 ((a.length:Int) - 1))=j_:=⟨_,rfl⟩
   (first|rw[hji5]at H|simp only[hji5]at H)
   (try rw[hji5]at s);have hji5w:(IntKind.i64.wrap ((a.length:Int) - 1))=ji5:=(i64_w _).trans hji5;replace H:=gD H;obtain⟨aq,H⟩:=H
   (first|rw[aq]|(simp only[i64_w,i32_w];rw[aq])|skip)
   replace H:=gD H;obtain⟨bw,H⟩:=H;have H':=aM H;clear H
   go_wp2_with (first|((with_reducible refine gF 68 ?_);refine gX (some 9) Try.func68 (impl_within.calls s.out) ?_;rintro w' ⟨nd,rfl⟩;obtain⟨bx,bz,d8,cT,bA,bB,bC,bD⟩:=b4 HB (at_T34 HR0.out (ji5));cases cT))
   go_meet
   case rel=>exact⟨_,((((rd_T34 a (ji5)).f0) !=8)),(by first|rfl|(simp;done)|(simp only[← hji5] <;> (first|rfl|simp))|(simp[*];done)),H',⟨oL⟩,⟨cB⟩⟩
  ·replace o:=Bool.eq_false_iff.mpr o;subst o;replace H:=iF H;have H':=aM H;clear H
   go_wp2_with (first|((with_reducible refine gF 68 ?_);refine gX (some 9) Try.func68 (impl_within.calls s.out) ?_;rintro w' ⟨nd,rfl⟩))
   go_meet
   case rel=>exact⟨_,(true),rS,H',⟨oL⟩,⟨cB⟩⟩
 case rest=>
  clear HC2;(try clear o);(try clear A);(try clear aq);(try clear t);(try clear bw);(try clear bA bB bC bD);(try clear bx);(try clear bz);obtain⟨kq,ap,rfl,HA,HJ1,HB⟩:=hcut
  cases kq with
  | zero=>exact absurd HA.out (by simp[impl_CheckProgram.j0])
  | succ kj1=>
   have H:=HA.out;clear HA;simp only[impl_CheckProgram.j0]at H;by_cases ae:ap=true
   ·subst ae;replace H:=iT H;obtain rfl:=Option.some.inj H;go_wp2;go_ret;exact⟨rE,cB⟩
   ·replace ae:=Bool.eq_false_iff.mpr ae;subst ae;replace H:=iF H;have H':=aM H;clear H;go_wp2
    go_loopg [22] kj1 (fun kq cU w'=> ∃ (j:Int),cU= .int .i64 j∧Aside0 (impl_CheckProgram.l0 kq (a.length:Int) a (a.length:Int) j=some r)∧Aside0 (kq≤kj1)∧Aside0 (Below w.heap.size w w'))
    case atStart=>exact⟨(0),rS,H',⟨Nat.le_refl _⟩,⟨cB⟩⟩
    case round=>
     clear H';(try clear o);(try clear A);(try clear aq);(try clear t);(try clear bw);(try clear ae);(try clear bA bB bC bD);(try clear bx);(try clear bz);obtain⟨j,rfl,HA,HK2,HB⟩:=hrel
     cases gk with
     | zero=>exact absurd HA.out (by simp[impl_CheckProgram.l0])
     | succ k2=>
      have H:=HA.out;clear HA;simp only[impl_CheckProgram.l0]at H;by_cases D:j<(a.length:Int)
      ·rw[if_pos D]at H;have cV:=decide_eq_true D;clear D;replace H:=gD H;obtain⟨bu,H⟩:=H;replace H:=gD H;obtain⟨d9,H⟩:=H;replace H:=bE H;obtain⟨az,aB,H⟩:=H;by_cases ar:az=true
       ·subst ar;replace H:=iT H;replace H:=bE H;obtain⟨Y,bF,H⟩:=H;by_cases E:Y≥(a.length:Int)
        ·rw[if_pos E]at H;have cW:decide ((a.length:Int)≤Y)=true:=decide_eq_true E;clear E;obtain rfl:=Option.some.inj H;obtain⟨bG,bH,bI,af,bJ,bL,bM,bN⟩:=b4 HB (at_T34 HR0.out j);cases af
         go_wp2_with (first|((with_reducible refine gN 5 ?_);refine boxZ 5 #[.int .i64 0,.int .i64 0,.int .i64 0,.int .i64 0] 34 ?_;intro bO hg ea hbox hb;have l:=aM hbox;have GW1029:=gS hg;have GE1029:=gS hg;replace HB:=sB hb;clear hb hbox hg;obtain⟨eb,ec,ed,ee,ef,eg,eh,ei⟩:=cz4 l)|((with_reducible refine gF 74 ?_);refine gX (some 28) Try.func74 (impl_InsOk.calls aB.out) ?_;intro ej hb;replace l:=kP l hb (.cells #[.int .i64 ((rd_T34 a j).f0),.int .i64 ((rd_T34 a j).f1),.int .i64 ((rd_T34 a j).f2),.int .i64 ((rd_T34 a j).f3)] 34 (0,0));replace HB:=sB hb;(try clear hb);obtain⟨ek,el,em,en,eo,ep,eq,er⟩:=cz4 l)|(go_at_call 75;(with_reducible refine(impl_farthest.calls bF.out).mono ?_);rintro e es ⟨rfl,hb⟩;replace l:=kB l hb;replace HB:=sB hb;(try clear hb)))
         go_ret;exact⟨rE,cB⟩
        ·rw[if_neg E]at H;have cW:decide ((a.length:Int)≤Y)=false:=decide_eq_false E;clear E;have H':=aM H;clear H;obtain⟨bG,bH,bI,af,bJ,bL,bM,bN⟩:=b4 HB (at_T34 HR0.out j);cases af
         go_wp2_with (first|((with_reducible refine gN 5 ?_);refine boxZ 5 #[.int .i64 0,.int .i64 0,.int .i64 0,.int .i64 0] 34 ?_;intro bO hg et hbox hb;have l:=aM hbox;have GW1029:=gS hg;have GE1029:=gS hg;replace HB:=sB hb;clear hb hbox hg;obtain⟨eu,ev,ew,ex,ey,ez,eA,eC⟩:=cz4 l)|((with_reducible refine gF 74 ?_);refine gX (some 28) Try.func74 (impl_InsOk.calls aB.out) ?_;intro eD hb;replace l:=kP l hb (.cells #[.int .i64 ((rd_T34 a j).f0),.int .i64 ((rd_T34 a j).f1),.int .i64 ((rd_T34 a j).f2),.int .i64 ((rd_T34 a j).f3)] 34 (0,0));replace HB:=sB hb;(try clear hb);obtain⟨eE,eG,eH,eI,eJ,eK,eL,eM⟩:=cz4 l)|(go_at_call 75;(with_reducible refine(impl_farthest.calls bF.out).mono ?_);rintro e eN ⟨rfl,hb⟩;replace l:=kB l hb;replace HB:=sB hb;(try clear hb)))
         go_roundg k2
         case measure=>have:=HJ1.out;have:=HK2.out;omega
         case rel=>exact⟨(wrap64 (j+1)),rS,H',⟨by have:=HJ1.out;have:=HK2.out;omega⟩,⟨cB⟩⟩
       ·replace ar:=Bool.eq_false_iff.mpr ar;subst ar;replace H:=iF H;obtain rfl:=Option.some.inj H;obtain⟨bG,bH,bI,af,bJ,bL,bM,bN⟩:=b4 HB (at_T34 HR0.out j);cases af
        go_wp2_with (first|((with_reducible refine gN 5 ?_);refine boxZ 5 #[.int .i64 0,.int .i64 0,.int .i64 0,.int .i64 0] 34 ?_;intro bO hg eO hbox hb;have l:=aM hbox;have GW1029:=gS hg;have GE1029:=gS hg;replace HB:=sB hb;clear hb hbox hg;obtain⟨bk,bl,bm,bn,bo,bp,bq,br⟩:=cz4 l)|((with_reducible refine gF 74 ?_);refine gX (some 28) Try.func74 (impl_InsOk.calls aB.out) ?_;intro eP hb;replace l:=kP l hb (.cells #[.int .i64 ((rd_T34 a j).f0),.int .i64 ((rd_T34 a j).f1),.int .i64 ((rd_T34 a j).f2),.int .i64 ((rd_T34 a j).f3)] 34 (0,0));replace HB:=sB hb;(try clear hb)))
        go_ret;exact⟨rE,cB⟩
      ·rw[if_neg D]at H;have cV:=decide_eq_false D;clear D;obtain rfl:=Option.some.inj H;go_wp2;go_ret;exact⟨rE,cB⟩
def impl_StackOk.l0:Nat→List (List (S34))→List (List (S34))→Int→Int→Option (Bool)
  | 0,_,_,_,_=>none
  | k+1,X,aC,bP,ag=>if ag<bP then(if 0≤ag then(if ag<(aC.length:Int)then((impl_CheckProgram.f k (rd_L10 aC ag)).bind fun aD=>(if aD=true then(impl_StackOk.l0 k X aC bP (wrap64 (ag+1)))else(some false)))else(none))else(none))else(some (decide ((X.length:Int)≤3)))
def impl_StackOk.f (k:Nat) (a:List (List (S34))):Option (Bool):=impl_StackOk.l0 k a a (a.length:Int) 0
set_option maxHeartbeats 8000000 in
set_option maxRecDepth 100000 in
theorem impl_StackOk.calls {k:Nat}{aa:Option Addr}{ab:Nat}{a:List (List (S34))}{r:Bool}{w:World}(h:impl_StackOk.f k a=some r)(ac:Kd.C (Kd.slice 34 k34) w aa a.length a)(ad:a.length≤ab) :
 Calls Try.prog 30 #[.slice aa a.length ab] w fun e w'=>e= .returned (.bool r)∧Below w.heap.size w w':=by
 have HR0:=aM ac;have HC0:=aM ad;clear ac ad;have HB:=rW w;have H:(impl_StackOk.l0 k a a (a.length:Int) 0)=some r:=h;clear h;have H':=aM H;clear H;go_enter Try.func30,Try.ntmps30;go_wp2
 go_loopg [7] k (fun kq cX w'=> ∃ (p:Int),cX= .int .i64 p∧Aside0 (impl_StackOk.l0 kq a a (a.length:Int) p=some r)∧Aside0 (kq≤k)∧Aside0 (Below w.heap.size w w'))
 case atStart=>exact⟨(0),rS,H',⟨Nat.le_refl _⟩,⟨cB⟩⟩
 case round=>
  clear H';obtain⟨p,rfl,HA,HK1,HB⟩:=hrel
  cases gk with
  | zero=>exact absurd HA.out (by simp[impl_StackOk.l0])
  | succ k1=>
   have H:=HA.out;clear HA;simp only[impl_StackOk.l0]at H;by_cases G:p<(a.length:Int)
   ·rw[if_pos G]at H;have cY:=decide_eq_true G;clear G;replace H:=gD H;obtain⟨eQ,H⟩:=H;replace H:=gD H;obtain⟨eR,H⟩:=H;replace H:=bE H;obtain⟨aD,bQ,H⟩:=H;by_cases A:aD=true
    ·subst A;replace H:=iT H;have H':=aM H;clear H;have u:0≤(p:Int):=dA;have v:p<(a.length:Int):=dA;obtain⟨cZ,c0,c1,aE,ah,hl1032_0,hi1032_0⟩:=at_L10 HR0.out p u v;cases aE;replace ah:=(bc HB ah :);have HR1032_0:=aM hi1032_0;have HC1032_0:=aM hl1032_0;clear hi1032_0 hl1032_0;replace u:=eq_true u;replace v:=eq_true v
     go_wp2_with (first|((with_reducible refine gF 38 ?_);refine gX (some 12) Try.func38 (impl_CheckProgram.calls bQ.out (cH HR1032_0) HC1032_0.out) ?_;intro eS hb;replace HB:=sB hb;(try clear hb)))
     go_roundg k1
     case measure=>exact oK
     case rel=>exact⟨(wrap64 (p+1)),rS,H',⟨oK⟩,⟨cB⟩⟩
    ·replace A:=Bool.eq_false_iff.mpr A;subst A;replace H:=iF H;obtain rfl:=Option.some.inj H;have u:0≤(p:Int):=dA;have v:p<(a.length:Int):=dA;obtain⟨cZ,c0,c1,aE,ah,hl1032_0,hi1032_0⟩:=at_L10 HR0.out p u v;cases aE;replace ah:=(bc HB ah :);have HR1032_0:=aM hi1032_0;have HC1032_0:=aM hl1032_0;clear hi1032_0 hl1032_0;replace u:=eq_true u;replace v:=eq_true v
     go_wp2_with (first|((with_reducible refine gF 38 ?_);refine gX (some 12) Try.func38 (impl_CheckProgram.calls bQ.out (cH HR1032_0) HC1032_0.out) ?_;intro cP hb;replace HB:=sB hb;(try clear hb)))
     go_ret;exact⟨rE,cB⟩
   ·rw[if_neg G]at H;have cY:=decide_eq_false G;clear G;obtain rfl:=Option.some.inj H;go_wp2;go_ret;exact⟨rE,cB⟩
end Go.Proofs.Ytpbalojiaghfhaa.PFnStacks
