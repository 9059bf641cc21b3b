import Derived.Test.YtpbalojiaghfhaaPFnShortery0
import Derived.Test.YtpbalojiaghfhaaPFnShortery19
namespace Go.Proofs.Ytpbalojiaghfhaa.PFnShorter
open Go.RowKit Go.Proofs.YtpbalojiaghfhaaW.PrintWords Go.Proofs.YtpbalojiaghfhaaW.PrintLast Go.Proofs.YtpbalojiaghfhaaW.PrintMore Go.Proofs.YtpbalojiaghfhaaW.Z
open Kd
attribute [local go_sem] isS max2_int min2_int max_two min_two max_three min_three max_four min_four
set_option linter.unusedVariables false
set_option linter.unusedSimpArgs false
def impl_InsOk.j0:Nat→Bool→Int→Int→Int→Int→Option (Bool)
  | 0,_,_,_,_,_=>none
  | k+1,bD,U,W,cL,cM=>if bD=true then(some false)else(if U=1 then((impl_within.f W 0 7).bind fun ao=>(some ao))else(if U=7 then((impl_within.f W 0 399).bind fun ap=>(some ap))else(if U=2 then((impl_HalfOk.f W).bind fun aq=>(some aq))else(if U=8 then((impl_HalfOk.f W).bind fun ar=>(some ar))else(some false)))))
def impl_InsOk.f (k:Nat) (g:Int) (i:Int) (c:Int) (d:Int):Option (Bool):=(impl_Ins_asks.f g i c d).bind fun ag=>(if ag=true then((impl_HalfOk.f i).bind fun ah=>(if ah=true then((impl_within.f c 0 15).bind fun ai=>(if ai=true then((impl_within.f d 0 15).bind fun au=>(some au))else(some false)))else(some false)))else(if c=0 then(impl_InsOk.j0 k (d !=0) g i c d)else(impl_InsOk.j0 k true g i c d)))
set_option maxHeartbeats 8000000 in
set_option maxRecDepth 100000 in
theorem impl_InsOk.calls {k:Nat}{g:Int}{i:Int}{c:Int}{d:Int}{r:Bool}{w:World}(h:impl_InsOk.f k g i c d=some r) :
 Calls Try.prog 74 #[.agg #[.int .i64 g,.int .i64 i,.int .i64 c,.int .i64 d]] w fun e w'=>e= .returned (.bool r)∧Below w.heap.size w w':=by
 have hu34:=Try.underlying34;have HB:=rW w
 unfold impl_InsOk.f at h;have H:=h
 clear h;replace H:=bE H;obtain⟨ag,X,H⟩:=H;by_cases z:ag=true
 ·subst z;replace H:=iT H;replace H:=bE H;obtain⟨ah,aj,H⟩:=H;by_cases A:ah=true
  ·subst A;replace H:=iT H;replace H:=bE H;obtain⟨ai,av,H⟩:=H;by_cases s:ai=true
   ·subst s;replace H:=iT H;replace H:=bE H;obtain⟨au,bF,H⟩:=H;obtain rfl:=Option.some.inj H;go_enter Try.func74,Try.ntmps74
    go_wp2_with (first|((with_reducible refine gN 1 ?_);refine boxZ 1 #[.int .i64 g,.int .i64 i,.int .i64 c,.int .i64 d] 34 ?_;intro Y hg cN hbox hb;have b:=aM hbox;have GW934:=gS hg;have GE934:=gS hg;replace HB:=sB hb;clear hb hbox hg;obtain⟨bG,bH,bI,bJ,bL,bM,bN,bO⟩:=cz4 b)|((with_reducible refine gF 40 ?_);refine gX (some 4) Try.func40 (impl_Ins_asks.calls X.out) ?_;intro bP hb;replace b:=kB b hb;replace HB:=sB hb;(try clear hb);obtain⟨aw,ax,ay,az,aA,aB,aC,aD⟩:=cz4 b)|((with_reducible refine gF 83 ?_);refine gX (some 7) Try.func83 (impl_HalfOk.calls aj.out) ?_;rintro w' ⟨nd,rfl⟩)|(go_at_call 68;(with_reducible refine(impl_within.calls av.out).mono ?_);rintro e w' ⟨rfl,⟨nd,rfl⟩⟩)|(go_at_call 68;(with_reducible refine(impl_within.calls bF.out).mono ?_);rintro e w' ⟨rfl,⟨nd,rfl⟩⟩))
    go_ret;exact⟨rE,cB⟩
   ·replace s:=Bool.eq_false_iff.mpr s;subst s;replace H:=iF H;obtain rfl:=Option.some.inj H;go_enter Try.func74,Try.ntmps74
    go_wp2_with (first|((with_reducible refine gN 1 ?_);refine boxZ 1 #[.int .i64 g,.int .i64 i,.int .i64 c,.int .i64 d] 34 ?_;intro Y hg bQ hbox hb;have b:=aM hbox;have GW934:=gS hg;have GE934:=gS hg;replace HB:=sB hb;clear hb hbox hg;obtain⟨aE,aF,aG,aH,aI,aJ,aK,aL⟩:=cz4 b)|((with_reducible refine gF 40 ?_);refine gX (some 4) Try.func40 (impl_Ins_asks.calls X.out) ?_;intro bR hb;replace b:=kB b hb;replace HB:=sB hb;(try clear hb);obtain⟨aN,aO,aP,aQ,aR,aS,aT,aU⟩:=cz4 b)|((with_reducible refine gF 83 ?_);refine gX (some 7) Try.func83 (impl_HalfOk.calls aj.out) ?_;rintro w' ⟨nd,rfl⟩)|(go_at_call 68;(with_reducible refine(impl_within.calls av.out).mono ?_);rintro e w' ⟨rfl,⟨nd,rfl⟩⟩))
    go_ret;exact⟨rE,cB⟩
  ·replace A:=Bool.eq_false_iff.mpr A;subst A;replace H:=iF H;obtain rfl:=Option.some.inj H;go_enter Try.func74,Try.ntmps74
   go_wp2_with (first|((with_reducible refine gN 1 ?_);refine boxZ 1 #[.int .i64 g,.int .i64 i,.int .i64 c,.int .i64 d] 34 ?_;intro Y hg bS hbox hb;have b:=aM hbox;have GW934:=gS hg;have GE934:=gS hg;replace HB:=sB hb;clear hb hbox hg;obtain⟨aV,aW,aX,aY,aZ,a0,a1,a2⟩:=cz4 b)|((with_reducible refine gF 40 ?_);refine gX (some 4) Try.func40 (impl_Ins_asks.calls X.out) ?_;intro cO hb;replace b:=kB b hb;replace HB:=sB hb;(try clear hb);obtain⟨bT,bU,bV,bW,bX,bY,bZ,b0⟩:=cz4 b)|((with_reducible refine gF 83 ?_);refine gX (some 7) Try.func83 (impl_HalfOk.calls aj.out) ?_;rintro w' ⟨nd,rfl⟩))
   go_ret;exact⟨rE,cB⟩
 ·replace z:=Bool.eq_false_iff.mpr z;subst z;replace H:=iF H;have HC21:=aM H;clear H;go_enter Try.func74,Try.ntmps74
  go_upto_region 3 with(first|((with_reducible refine gN 1 ?_);refine boxZ 1 #[.int .i64 g,.int .i64 i,.int .i64 c,.int .i64 d] 34 ?_;intro Y hg cP hbox hb;have b:=aM hbox;have GW934:=gS hg;have GE934:=gS hg;replace HB:=sB hb;clear hb hbox hg;obtain⟨b1,b5,b8,b9,ca,cb,cc,cd⟩:=cz4 b)|((with_reducible refine gF 40 ?_);refine gX (some 4) Try.func40 (impl_Ins_asks.calls X.out) ?_;intro cQ hb;replace b:=kB b hb;replace HB:=sB hb;(try clear hb)))
  (try simp only[Act.put,List.setIfInBounds_toArray,List.set_cons_zero,List.set_cons_succ])
  go_cut [25] (fun ce wc=> ∃ (kq:Nat) (aa:Bool),ce= .bool aa∧Aside0 (impl_InsOk.j0 kq aa g i c d=some r)∧Aside0 (kq≤k)∧Aside0 (wc.heap[Y]?=some (.cells #[.int .i64 g,.int .i64 i,.int .i64 c,.int .i64 d] 34 (0,0)))∧Aside0 (Below w.heap.size w wc))
  case first=>
   have H:=HC21.out;clear HC21;by_cases t:c=0
   ·rw[if_pos t]at H;obtain⟨u,a3⟩:=eT t;clear t
    (first|rw[u]|(simp only[i64_w,i32_w];rw[u])|skip)
    have H':=aM H;clear H;obtain⟨cf,cg,ch,ci,cj,ck,cl,cm⟩:=cz4 b;go_wp2;go_meet
    case rel=>exact⟨_,((d !=0)),rS,H',⟨oL⟩,⟨mK b⟩,⟨cB⟩⟩
   ·rw[if_neg t]at H;obtain⟨u,a3⟩:=eF t
    (first|rw[u]|(simp only[i64_w,i32_w];rw[u])|skip)
    have H':=aM H;clear H;obtain⟨a4,a5,a6,a7,a8,a9,ba,bb⟩:=cz4 b;go_wp2;go_meet
    case rel=>exact⟨_,(true),rS,H',⟨oL⟩,⟨mK b⟩,⟨cB⟩⟩
  case rest=>
   clear HC21;(try clear z);(try clear A);(try clear s);(try clear t);(try clear u);(try clear a3);(try clear bG bH bI bJ);(try clear aw ax ay az);(try clear aE aF aG aH);(try clear aN aO aP aQ);(try clear aV aW aX aY);(try clear bT bU bV bW);(try clear b1 b5 b8 b9);(try clear cf cg ch ci);(try clear a4 a5 a6 a7);(try clear bL bM bN bO);(try clear aA aB aC aD);(try clear aI aJ aK aL);(try clear aR aS aT aU);(try clear aZ a0 a1 a2);(try clear bX bY bZ b0);(try clear ca cb cc cd);(try clear cj ck cl cm);(try clear a8 a9 ba bb);obtain⟨kq,aa,rfl,HA,HJ20,b,HB⟩:=hcut
   cases kq with
   | zero=>exact absurd HA.out (by simp[impl_InsOk.j0])
   | succ kj20=>
    have H:=HA.out;clear HA;simp only[impl_InsOk.j0]at H;by_cases ab:aa=true
    ·subst ab;replace H:=iT H;obtain rfl:=Option.some.inj H;go_wp2;go_ret;exact⟨rE,cB⟩
    ·replace ab:=Bool.eq_false_iff.mpr ab;subst ab;replace H:=iF H;by_cases D:g=1
     ·rw[if_pos D]at H;obtain⟨cn,co⟩:=eT D;clear D;replace H:=bE H;obtain⟨ao,cp,H⟩:=H;obtain rfl:=Option.some.inj H;obtain⟨cR,cS,cT,cU,cV,cW,cX,cY⟩:=cz4 b
      go_wp2_with (first|((with_reducible refine gF 68 ?_);refine gX (some 32) Try.func68 (impl_within.calls cp.out) ?_;rintro w' ⟨nd,rfl⟩))
      go_ret;exact⟨rE,cB⟩
     ·rw[if_neg D]at H;obtain⟨cn,co⟩:=eF D;by_cases E:g=7
      ·rw[if_pos E]at H;obtain⟨cq,cr⟩:=eT E;clear E;replace H:=bE H;obtain⟨ap,cs,H⟩:=H;obtain rfl:=Option.some.inj H;obtain⟨cZ,c0,c1,c3,c4,c5,c6,c7⟩:=cz4 b
       go_wp2_with (first|((with_reducible refine gF 68 ?_);refine gX (some 37) Try.func68 (impl_within.calls cs.out) ?_;rintro w' ⟨nd,rfl⟩))
       go_ret;exact⟨rE,cB⟩
      ·rw[if_neg E]at H;obtain⟨cq,cr⟩:=eF E;by_cases G:g=2
       ·rw[if_pos G]at H;obtain⟨ct,cu⟩:=eT G;clear G;replace H:=bE H;obtain⟨aq,cv,H⟩:=H;obtain rfl:=Option.some.inj H;obtain⟨c8,c9,da,db,dc,dd,de,df⟩:=cz4 b
        go_wp2_with (first|((with_reducible refine gF 83 ?_);refine gX (some 43) Try.func83 (impl_HalfOk.calls cv.out) ?_;rintro w' ⟨nd,rfl⟩))
        go_ret;exact⟨rE,cB⟩
       ·rw[if_neg G]at H;obtain⟨ct,cu⟩:=eF G;by_cases I:g=8
        ·rw[if_pos I]at H;obtain⟨cw,cx⟩:=eT I;clear I;replace H:=bE H;obtain⟨ar,cy,H⟩:=H;obtain rfl:=Option.some.inj H;obtain⟨dg,dh,di,dj,dk,dl,dm,dn⟩:=cz4 b
         go_wp2_with (first|((with_reducible refine gF 83 ?_);refine gX (some 43) Try.func83 (impl_HalfOk.calls cy.out) ?_;rintro w' ⟨nd,rfl⟩))
         go_ret;exact⟨rE,cB⟩
        ·rw[if_neg I]at H;obtain⟨cw,cx⟩:=eF I;obtain rfl:=Option.some.inj H;obtain⟨dp,dq,dr,ds,dt,du,dv,dw⟩:=cz4 b;go_wp2;go_ret;exact⟨rE,cB⟩
def impl_farthest.f (g:Int) (i:Int) (c:Int) (d:Int) (v:Int):Option (Int):=(impl_Ins_asks.f g i c d).bind fun ak=>(if ak=true then(some (wrap64 ((wrap64 (v+1))+(mx c d))))else(if g=7 then(some (wrap64 ((wrap64 (v+1))+i)))else(some v)))
set_option maxHeartbeats 8000000 in
set_option maxRecDepth 100000 in
theorem impl_farthest.calls {g:Int}{i:Int}{c:Int}{d:Int}{v:Int}{r:Int}{w:World}(h:impl_farthest.f g i c d v=some r) :
 Calls Try.prog 75 #[.agg #[.int .i64 g,.int .i64 i,.int .i64 c,.int .i64 d],.int .i64 v] w fun e w'=>e= .returned (.int .i64 r)∧Below w.heap.size w w':=by
 have hu34:=Try.underlying34;have HB:=rW w
 unfold impl_farthest.f at h;have H:=h
 clear h;replace H:=bE H;obtain⟨ak,q,H⟩:=H;by_cases o:ak=true
 ·subst o;replace H:=iT H;obtain⟨ji5,hji5⟩ : ∃ j_:Int,(mx c d)=j_:=⟨_,rfl⟩
  (first|rw[hji5]at H|simp only[hji5]at H)
  (try rw[hji5]at q);have hji5_:(if c<d then d else c)=ji5:=hji5;obtain rfl:=Option.some.inj H;go_enter Try.func75,Try.ntmps75
  go_wp2_with (first|((with_reducible refine gN 2 ?_);refine boxZ 2 #[.int .i64 g,.int .i64 i,.int .i64 c,.int .i64 d] 34 ?_;intro bd hg dx hbox hb;have m:=aM hbox;have GW943:=gS hg;have GE943:=gS hg;replace HB:=sB hb;clear hb hbox hg;obtain⟨dy,dz,dC,dD,dE,dF,dG,dH⟩:=cz4 m)|((with_reducible refine gF 40 ?_);refine gX (some 7) Try.func40 (impl_Ins_asks.calls q.out) ?_;intro dI hb;replace m:=kB m hb;replace HB:=sB hb;(try clear hb);obtain⟨dJ,dK,dL,dM,dN,dO,dP,dQ⟩:=cz4 m))
  go_ret
  exact⟨by first|rfl|(simp[errW_none,errW_some] <;> rfl)|(simp only[← hji5];first|rfl|(simp[errW_none,errW_some] <;> rfl))|(simp[*,errW_none,errW_some] <;> rfl),cB⟩
 ·replace o:=Bool.eq_false_iff.mpr o;subst o;replace H:=iF H;by_cases J:g=7
  ·rw[if_pos J]at H;obtain⟨be,cz⟩:=eT J;clear J;obtain rfl:=Option.some.inj H;go_enter Try.func75,Try.ntmps75
   go_wp2_with (first|((with_reducible refine gN 2 ?_);refine boxZ 2 #[.int .i64 g,.int .i64 i,.int .i64 c,.int .i64 d] 34 ?_;intro bd hg bP hbox hb;have m:=aM hbox;have GW943:=gS hg;have GE943:=gS hg;replace HB:=sB hb;clear hb hbox hg;obtain⟨aw,ax,ay,az,aA,aB,aC,aD⟩:=cz4 m)|((with_reducible refine gF 40 ?_);refine gX (some 7) Try.func40 (impl_Ins_asks.calls q.out) ?_;intro bQ hb;replace m:=kB m hb;replace HB:=sB hb;(try clear hb);obtain⟨aE,aF,aG,aH,aI,aJ,aK,aL⟩:=cz4 m))
   go_ret;exact⟨rE,cB⟩
  ·rw[if_neg J]at H;obtain⟨be,cz⟩:=eF J;obtain rfl:=Option.some.inj H;go_enter Try.func75,Try.ntmps75
   go_wp2_with (first|((with_reducible refine gN 2 ?_);refine boxZ 2 #[.int .i64 g,.int .i64 i,.int .i64 c,.int .i64 d] 34 ?_;intro bd hg bR hbox hb;have m:=aM hbox;have GW943:=gS hg;have GE943:=gS hg;replace HB:=sB hb;clear hb hbox hg;obtain⟨aN,aO,aP,aQ,aR,aS,aT,aU⟩:=cz4 m)|((with_reducible refine gF 40 ?_);refine gX (some 7) Try.func40 (impl_Ins_asks.calls q.out) ?_;intro bS hb;replace m:=kB m hb;replace HB:=sB hb;(try clear hb);obtain⟨aV,aW,aX,aY,aZ,a0,a1,a2⟩:=cz4 m))
   go_ret;exact⟨rE,cB⟩
mutual
def impl_CheckProgram.j0:Nat→List (S34)→Int→Bool→Option (Bool)
  | 0,_,_,_=>none
  | k+1,bf,ac,cA=>if cA=true then(some false)else(impl_CheckProgram.l0 k ac bf (bf.length:Int) 0)
def impl_CheckProgram.l0:Nat→Int→List (S34)→Int→Int→Option (Bool)
  | 0,_,_,_,_=>none
  | k+1,ac,p,bg,n=>if n<bg then(if 0≤n then(if n<(p.length:Int)then((impl_InsOk.f k ((rd_T34 p n).f0) ((rd_T34 p n).f1) ((rd_T34 p n).f2) ((rd_T34 p n).f3)).bind fun al=>(if al=true then((impl_farthest.f ((rd_T34 p n).f0) ((rd_T34 p n).f1) ((rd_T34 p n).f2) ((rd_T34 p n).f3) n).bind fun L=>(if L≥ac then(some false)else(impl_CheckProgram.l0 k ac p bg (wrap64 (n+1)))))else(some false)))else(none))else(none))else(some true)
end
def impl_CheckProgram.f (k:Nat) (a:List (S34)):Option (Bool):=(impl_within.f (a.length:Int) 1 400).bind fun am=>(if am=true then(if 0≤(wrap64 ((a.length:Int) - 1))then(if(wrap64 ((a.length:Int) - 1))<(a.length:Int)then(impl_CheckProgram.j0 k a (a.length:Int) (((rd_T34 a (wrap64 ((a.length:Int) - 1))).f0) !=8))else(none))else(none))else(impl_CheckProgram.j0 k a (a.length:Int) true))
set_option maxHeartbeats 8000000 in
set_option maxRecDepth 100000 in
theorem impl_CheckProgram.calls {k:Nat}{bh:Option Addr}{bi:Nat}{a:List (S34)}{r:Bool}{w:World}(h:impl_CheckProgram.f k a=some r)(bj:Kd.C k34 w bh a.length a)(bk:a.length≤bi) :
 Calls Try.prog 38 #[.slice bh a.length bi] w fun e w'=>e= .returned (.bool r)∧Below w.heap.size w w':=by
 have hu34:=Try.underlying34;have HR0:=aM bj;have HC0:=aM bk;clear bj bk;have HB:=rW w
 unfold impl_CheckProgram.f at h;have H:=h
 clear h;have HC2:=aM H;clear H;go_enter Try.func38,Try.ntmps38
 go_upto_region 2 with(fail)
 go_cut [19] (fun cD wc=> ∃ (kq:Nat) (ad:Bool),cD= .bool ad∧Aside0 (impl_CheckProgram.j0 kq a (a.length:Int) ad=some r)∧Aside0 (kq≤k)∧Aside0 (Below w.heap.size w wc))
 case first=>
  have H:=HC2.out;clear HC2;replace H:=bE H;obtain⟨am,q,H⟩:=H;by_cases o:am=true
  ·subst o;replace H:=iT H;obtain⟨ji5,hji5⟩ : ∃ j_:Int,(wrap64 ((a.length:Int) - 1))=j_:=⟨_,rfl⟩
   (first|rw[hji5]at H|simp only[hji5]at H)
   (try rw[hji5]at q);have hji5w:(IntKind.i64.wrap ((a.length:Int) - 1))=ji5:=(i64_w _).trans hji5;replace H:=gD H;obtain⟨ae,H⟩:=H
   (first|rw[ae]|(simp only[i64_w,i32_w];rw[ae])|skip)
   replace H:=gD H;obtain⟨bl,H⟩:=H;have H':=aM H;clear H
   go_wp2_with (first|((with_reducible refine gF 68 ?_);refine gX (some 9) Try.func68 (impl_within.calls q.out) ?_;rintro w' ⟨nd,rfl⟩;obtain⟨bm,bn,dS,cE,bo,bp,bq,br⟩:=b4 HB (at_T34 HR0.out (ji5));cases cE))
   go_meet
   case rel=>exact⟨_,((((rd_T34 a (ji5)).f0) !=8)),(by first|rfl|(simp;done)|(simp only[← hji5] <;> (first|rfl|simp))|(simp[*];done)),H',⟨oL⟩,⟨cB⟩⟩
  ·replace o:=Bool.eq_false_iff.mpr o;subst o;replace H:=iF H;have H':=aM H;clear H
   go_wp2_with (first|((with_reducible refine gF 68 ?_);refine gX (some 9) Try.func68 (impl_within.calls q.out) ?_;rintro w' ⟨nd,rfl⟩))
   go_meet
   case rel=>exact⟨_,(true),rS,H',⟨oL⟩,⟨cB⟩⟩
 case rest=>
  clear HC2;(try clear o);(try clear cF);(try clear ae);(try clear s);(try clear bl);(try clear bo bp bq br);(try clear bm);(try clear bn);obtain⟨kq,ad,rfl,HA,HJ1,HB⟩:=hcut
  cases kq with
  | zero=>exact absurd HA.out (by simp[impl_CheckProgram.j0])
  | succ kj1=>
   have H:=HA.out;clear HA;simp only[impl_CheckProgram.j0]at H;by_cases M:ad=true
   ·subst M;replace H:=iT H;obtain rfl:=Option.some.inj H;go_wp2;go_ret;exact⟨rE,cB⟩
   ·replace M:=Bool.eq_false_iff.mpr M;subst M;replace H:=iF H;have H':=aM H;clear H;go_wp2
    go_loopg [22] kj1 (fun kq cG w'=> ∃ (j:Int),cG= .int .i64 j∧Aside0 (impl_CheckProgram.l0 kq (a.length:Int) a (a.length:Int) j=some r)∧Aside0 (kq≤kj1)∧Aside0 (Below w.heap.size w w'))
    case atStart=>exact⟨(0),rS,H',⟨Nat.le_refl _⟩,⟨cB⟩⟩
    case round=>
     clear H';(try clear o);(try clear cF);(try clear ae);(try clear s);(try clear bl);(try clear M);(try clear bo bp bq br);(try clear bm);(try clear bn);obtain⟨j,rfl,HA,HK2,HB⟩:=hrel
     cases gk with
     | zero=>exact absurd HA.out (by simp[impl_CheckProgram.l0])
     | succ k2=>
      have H:=HA.out;clear HA;simp only[impl_CheckProgram.l0]at H;by_cases x:j<(a.length:Int)
      ·rw[if_pos x]at H;have cI:=decide_eq_true x;clear x;replace H:=gD H;obtain⟨be,H⟩:=H;replace H:=gD H;obtain⟨dT,H⟩:=H;replace H:=bE H;obtain⟨al,an,H⟩:=H;by_cases af:al=true
       ·subst af;replace H:=iT H;replace H:=bE H;obtain⟨L,bs,H⟩:=H;by_cases y:L≥(a.length:Int)
        ·rw[if_pos y]at H;have cJ:decide ((a.length:Int)≤L)=true:=decide_eq_true y;clear y;obtain rfl:=Option.some.inj H;obtain⟨bu,bv,bw,O,bx,bz,bA,bB⟩:=b4 HB (at_T34 HR0.out j);cases O
         go_wp2_with (first|((with_reducible refine gN 5 ?_);refine boxZ 5 #[.int .i64 0,.int .i64 0,.int .i64 0,.int .i64 0] 34 ?_;intro bC hg dU hbox hb;have l:=aM hbox;have GW948:=gS hg;have GE948:=gS hg;replace HB:=sB hb;clear hb hbox hg;obtain⟨dV,dX,dY,dZ,d0,d1,d2,d3⟩:=cz4 l)|((with_reducible refine gF 74 ?_);refine gX (some 28) Try.func74 (impl_InsOk.calls an.out) ?_;intro d4 hb;replace l:=kP l hb (.cells #[.int .i64 ((rd_T34 a j).f0),.int .i64 ((rd_T34 a j).f1),.int .i64 ((rd_T34 a j).f2),.int .i64 ((rd_T34 a j).f3)] 34 (0,0));replace HB:=sB hb;(try clear hb);obtain⟨d5,d6,d7,d8,d9,ea,eb,ec⟩:=cz4 l)|(go_at_call 75;(with_reducible refine(impl_farthest.calls bs.out).mono ?_);rintro e ed ⟨rfl,hb⟩;replace l:=kB l hb;replace HB:=sB hb;(try clear hb)))
         go_ret;exact⟨rE,cB⟩
        ·rw[if_neg y]at H;have cJ:decide ((a.length:Int)≤L)=false:=decide_eq_false y;clear y;have H':=aM H;clear H;obtain⟨bu,bv,bw,O,bx,bz,bA,bB⟩:=b4 HB (at_T34 HR0.out j);cases O
         go_wp2_with (first|((with_reducible refine gN 5 ?_);refine boxZ 5 #[.int .i64 0,.int .i64 0,.int .i64 0,.int .i64 0] 34 ?_;intro bC hg ee hbox hb;have l:=aM hbox;have GW948:=gS hg;have GE948:=gS hg;replace HB:=sB hb;clear hb hbox hg;obtain⟨ef,eg,eh,ei,ej,ek,el,em⟩:=cz4 l)|((with_reducible refine gF 74 ?_);refine gX (some 28) Try.func74 (impl_InsOk.calls an.out) ?_;intro en hb;replace l:=kP l hb (.cells #[.int .i64 ((rd_T34 a j).f0),.int .i64 ((rd_T34 a j).f1),.int .i64 ((rd_T34 a j).f2),.int .i64 ((rd_T34 a j).f3)] 34 (0,0));replace HB:=sB hb;(try clear hb);obtain⟨eo,ep,eq,er,es,et,eu,ev⟩:=cz4 l)|(go_at_call 75;(with_reducible refine(impl_farthest.calls bs.out).mono ?_);rintro e ew ⟨rfl,hb⟩;replace l:=kB l hb;replace HB:=sB hb;(try clear hb)))
         go_roundg k2
         case measure=>have:=HJ1.out;have:=HK2.out;omega
         case rel=>exact⟨(wrap64 (j+1)),rS,H',⟨by have:=HJ1.out;have:=HK2.out;omega⟩,⟨cB⟩⟩
       ·replace af:=Bool.eq_false_iff.mpr af;subst af;replace H:=iF H;obtain rfl:=Option.some.inj H;obtain⟨bu,bv,bw,O,bx,bz,bA,bB⟩:=b4 HB (at_T34 HR0.out j);cases O
        go_wp2_with (first|((with_reducible refine gN 5 ?_);refine boxZ 5 #[.int .i64 0,.int .i64 0,.int .i64 0,.int .i64 0] 34 ?_;intro bC hg ex hbox hb;have l:=aM hbox;have GW948:=gS hg;have GE948:=gS hg;replace HB:=sB hb;clear hb hbox hg;obtain⟨a4,a5,a6,a7,a8,a9,ba,bb⟩:=cz4 l)|((with_reducible refine gF 74 ?_);refine gX (some 28) Try.func74 (impl_InsOk.calls an.out) ?_;intro ey hb;replace l:=kP l hb (.cells #[.int .i64 ((rd_T34 a j).f0),.int .i64 ((rd_T34 a j).f1),.int .i64 ((rd_T34 a j).f2),.int .i64 ((rd_T34 a j).f3)] 34 (0,0));replace HB:=sB hb;(try clear hb)))
        go_ret;exact⟨rE,cB⟩
      ·rw[if_neg x]at H;have cI:=decide_eq_false x;clear x;obtain rfl:=Option.some.inj H;go_wp2;go_ret;exact⟨rE,cB⟩
end Go.Proofs.Ytpbalojiaghfhaa.PFnShorter
