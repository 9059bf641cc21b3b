import Derived.Test.YtpbalojiaghfhaaGreatPFnExactCompiley0
import Derived.Test.YtpbalojiaghfhaaGreatPFnExactCompiley2
import Derived.Test.YtpbalojiaghfhaaGreatPFnExactCompiley7
namespace Go.Proofs.YtpbalojiaghfhaaGreat.PFnExactCompile
open Go.RowKit Go.Proofs.YtpbalojiaghfhaaGreatW.PrintWords Go.Proofs.YtpbalojiaghfhaaGreatW.PrintLast Go.Proofs.YtpbalojiaghfhaaGreatW.PrintMore Go.Proofs.YtpbalojiaghfhaaGreatW.Z
open Kd
attribute [local go_sem] isS max2_int min2_int max_two min_two max_three min_three max_four min_four
set_option linter.unusedVariables false
set_option linter.unusedSimpArgs false
def impl_between.l0:Nat→List Int→Int→Int→Int→Option (Int)
  | 0,_,_,_,_=>none
  | k+1,O,al,am,t=>if t<am then(if 0≤t then(if t<(O.length:Int)then(impl_between.l0 k O (wrap64 (al+(rd O t))) am (wrap64 (t+1)))else(none))else(none))else(some al)
def impl_between.f (k:Nat) (l:List (S86)) (j:List Int) (n:Int) (o:ByteArray):Option (Int):=(impl_placeOf.f k l o n).bind fun u=>(impl_between.l0 k j 0 u (wrap64 (n+1)))
set_option maxHeartbeats 8000000 in
set_option maxRecDepth 100000 in
theorem impl_between.calls (k:Nat) (U:Option Addr) (W:Nat) (l:List (S86)) (an:Option Addr) (X:Nat) (j:List Int) (n:Int) (o:ByteArray) (r:Int) (w:World) (ao:Kd.C k86 w U l.length l) (ap:l.length≤W) (aq:Kd.C (Kd.int .i64) w an j.length j) (ar:j.length≤X) (h:impl_between.f k l j n o=some r) :
 Calls Tryz.prog 79 #[.slice U l.length W,.slice an j.length X,.int .i64 n,.string o] w fun e w'=>e= .returned (.int .i64 r)∧Below w.heap.size w w':=by
 have HR0:=aM ao;have HC0:=aM ap;clear ao ap;have HR1:=aM aq;have HC1:=aM ar;clear aq ar;have HB:=aM (Below.refl w.heap.size w)
 unfold impl_between.f at h;have H:=h
 clear h;replace H:=bE H;obtain⟨u,ax,H⟩:=H;have H':=aM H;clear H;go_enter Tryz.func79,Tryz.ntmps79
 go_wp2_with (first|((with_reducible refine gF 109 ?_);refine goZ (some 15) Tryz.func109 #[.slice U l.length W,.string o,.int .i64 n] ?_;(with_reducible refine(impl_placeOf.calls k _ _ l o n u _ ?side1 ?side2 ax.out).mono ?_);(case side1=>exact cC HR0.out);(case side2=>exact HC0.out);rintro e cd ⟨rfl,hb⟩;refine⟨_,rfl,?_⟩;replace HB:=sB hb;(try clear hb)))
 go_loopg [9,11] k (fun kq ay az w'=> ∃ (E:Int) (m:Int),ay= .int .i64 E∧az= .int .i64 m∧Aside0 (impl_between.l0 kq j E u m=some r)∧Aside0 (kq≤k)∧Aside0 (Below w.heap.size w w'))
 case atStart=>exact⟨(0),(wrap64 (n+1)),rS,rS,H',⟨Nat.le_refl _⟩,⟨cB⟩⟩
 case round=>
  clear H';(try clear X);obtain⟨E,m,rfl,rfl,HA,HK1,HB⟩:=hrel
  cases gk with
  | zero=>exact absurd HA.out (by simp[impl_between.l0])
  | succ k1=>
   have H:=HA.out;clear HA;simp only[impl_between.l0]at H;by_cases i:m<u
   ·rw[if_pos i]at H;have aA:=decide_eq_true i;clear i;replace H:=gD H;obtain⟨ce,H⟩:=H;replace H:=gD H;obtain⟨cf,H⟩:=H;have H':=aM H;clear H;have Y:0≤(m:Int):=dA;have aa:m<(j.length:Int):=dA;obtain⟨cg,aB,au⟩:=at_int HR1.out m Y aa;cases aB;replace au:=(bc HB au :);replace Y:=eq_true Y;replace aa:=eq_true aa;go_wp2;go_roundg k1
    case measure=>have:=HK1.out;omega
    case rel=>exact⟨(wrap64 (E+(rd j m))),(wrap64 (m+1)),rS,rS,H',⟨by have:=HK1.out;omega⟩,⟨cB⟩⟩
   ·rw[if_neg i]at H;have aA:=decide_eq_false i;clear i;obtain rfl:=Option.some.inj H;go_wp2;go_ret;exact⟨rE,cB⟩
def impl_Ins_asks.f (b:Int) (a:Int) (c:Int) (d:Int):Option (Bool):=(impl_within.f b 3 6).bind fun ab=>(some ab)
set_option maxHeartbeats 8000000 in
set_option maxRecDepth 100000 in
theorem impl_Ins_asks.calls (b:Int) (a:Int) (c:Int) (d:Int) (r:Bool) (w:World) (h:impl_Ins_asks.f b a c d=some r) :
 Calls Tryz.prog 80 #[.agg #[.int .i64 b,.int .i64 a,.int .i64 c,.int .i64 d]] w fun e w'=>e= .returned (.bool r)∧Below w.heap.size w w':=by
 have hu71:=Tryz.underlying71;have HB:=aM (Below.refl w.heap.size w)
 unfold impl_Ins_asks.f at h;have H:=h
 clear h;replace H:=bE H;obtain⟨ab,p,H⟩:=H;obtain rfl:=Option.some.inj H;go_enter Tryz.func80,Tryz.ntmps80
 go_wp2_with (first|((with_reducible refine gN 1 ?_);refine boxZ 1 #[.int .i64 b,.int .i64 a,.int .i64 c,.int .i64 d] 71 ?_;intro ch hg ci hbox hb;have aC:=aM (hbox);have GW518:=gS hg;have GE518:=gS hg;replace HB:=sB hb;clear hb hbox hg;obtain⟨cj,ck,cl,cm,cn,co,cp,cq⟩:=cz4 aC)|((with_reducible refine gF 81 ?_);refine goZ (some 5) Tryz.func81 #[.int .i64 b,.int .i64 3,.int .i64 6] ?_;(with_reducible refine(impl_within.calls b 3 6 ab _ p.out).mono ?_);rintro e w' ⟨rfl,⟨nd,rfl⟩⟩;refine⟨_,rfl,?_⟩))
 go_ret;exact⟨rE,cB⟩
def impl_InsOk.j0:Nat→Bool→Int→Int→Int→Int→Option (Bool)
  | 0,_,_,_,_,_=>none
  | k+1,aD,G,I,cr,cs=>if aD=true then(some false)else(if G=1 then((impl_within.f I 0 7).bind fun ac=>(some ac))else(if G=7 then((impl_within.f I 0 399).bind fun ad=>(some ad))else(if G=2 then((impl_HalfOk.f I).bind fun ae=>(some ae))else(if G=8 then((impl_HalfOk.f I).bind fun af=>(some af))else(some false)))))
def impl_InsOk.f (k:Nat) (b:Int) (a:Int) (c:Int) (d:Int):Option (Bool):=(impl_Ins_asks.f b a c d).bind fun ag=>(if ag=true then((impl_HalfOk.f a).bind fun ah=>(if ah=true then((impl_within.f c 0 15).bind fun ai=>(if ai=true then((impl_within.f d 0 15).bind fun aj=>(some aj))else(some false)))else(some false)))else(if c=0 then(impl_InsOk.j0 k (d !=0) b a c d)else(impl_InsOk.j0 k true b a c d)))
set_option maxHeartbeats 8000000 in
set_option maxRecDepth 100000 in
theorem impl_InsOk.calls (k:Nat) (b:Int) (a:Int) (c:Int) (d:Int) (r:Bool) (w:World) (h:impl_InsOk.f k b a c d=some r) :
 Calls Tryz.prog 149 #[.agg #[.int .i64 b,.int .i64 a,.int .i64 c,.int .i64 d]] w fun e w'=>e= .returned (.bool r)∧Below w.heap.size w w':=by
 have hu71:=Tryz.underlying71;have HB:=aM (Below.refl w.heap.size w)
 unfold impl_InsOk.f at h;have H:=h
 clear h;replace H:=bE H;obtain⟨ag,p,H⟩:=H;by_cases v:ag=true
 ·subst v;replace H:=iT H;replace H:=bE H;obtain⟨ah,ak,H⟩:=H;by_cases x:ah=true
  ·subst x;replace H:=iT H;replace H:=bE H;obtain⟨ai,av,H⟩:=H;by_cases i:ai=true
   ·subst i;replace H:=iT H;replace H:=bE H;obtain⟨aj,aE,H⟩:=H;obtain rfl:=Option.some.inj H;go_enter Tryz.func149,Tryz.ntmps149
    go_wp2_with (first|((with_reducible refine gN 1 ?_);refine boxZ 1 #[.int .i64 b,.int .i64 a,.int .i64 c,.int .i64 d] 71 ?_;intro J hg ct hbox hb;have g:=aM (hbox);have GW520:=gS hg;have GE520:=gS hg;replace HB:=sB hb;clear hb hbox hg;obtain⟨aF,aG,aH,aI,aJ,aK,aL,aN⟩:=cz4 g)|((with_reducible refine gF 80 ?_);refine goZ (some 4) Tryz.func80 #[.agg #[.int .i64 b,.int .i64 a,.int .i64 c,.int .i64 d]] ?_;(with_reducible refine(impl_Ins_asks.calls b a c d true _ p.out).mono ?_);rintro e cu ⟨rfl,hb⟩;refine⟨_,rfl,?_⟩;replace g:=kB g hb;replace HB:=sB hb;(try clear hb);obtain⟨aO,aP,aQ,aR,aS,aT,aU,aV⟩:=cz4 g)|((with_reducible refine gF 75 ?_);refine goZ (some 7) Tryz.func75 #[.int .i64 a] ?_;(with_reducible refine(impl_HalfOk.calls a true _ ak.out).mono ?_);rintro e w' ⟨rfl,⟨nd,rfl⟩⟩;refine⟨_,rfl,?_⟩)|(go_at_call 81;(with_reducible refine(impl_within.calls c 0 15 true _ av.out).mono ?_);rintro e w' ⟨rfl,⟨nd,rfl⟩⟩)|(go_at_call 81;(with_reducible refine(impl_within.calls d 0 15 aj _ aE.out).mono ?_);rintro e w' ⟨rfl,⟨nd,rfl⟩⟩))
    go_ret;exact⟨rE,cB⟩
   ·replace i:=Bool.eq_false_iff.mpr i;subst i;replace H:=iF H;obtain rfl:=Option.some.inj H;go_enter Tryz.func149,Tryz.ntmps149
    go_wp2_with (first|((with_reducible refine gN 1 ?_);refine boxZ 1 #[.int .i64 b,.int .i64 a,.int .i64 c,.int .i64 d] 71 ?_;intro J hg cv hbox hb;have g:=aM (hbox);have GW520:=gS hg;have GE520:=gS hg;replace HB:=sB hb;clear hb hbox hg;obtain⟨aW,aX,aY,aZ,a0,a1,a2,a3⟩:=cz4 g)|((with_reducible refine gF 80 ?_);refine goZ (some 4) Tryz.func80 #[.agg #[.int .i64 b,.int .i64 a,.int .i64 c,.int .i64 d]] ?_;(with_reducible refine(impl_Ins_asks.calls b a c d true _ p.out).mono ?_);rintro e cw ⟨rfl,hb⟩;refine⟨_,rfl,?_⟩;replace g:=kB g hb;replace HB:=sB hb;(try clear hb);obtain⟨a4,a5,a6,a7,a8,a9,ba,bb⟩:=cz4 g)|((with_reducible refine gF 75 ?_);refine goZ (some 7) Tryz.func75 #[.int .i64 a] ?_;(with_reducible refine(impl_HalfOk.calls a true _ ak.out).mono ?_);rintro e w' ⟨rfl,⟨nd,rfl⟩⟩;refine⟨_,rfl,?_⟩)|(go_at_call 81;(with_reducible refine(impl_within.calls c 0 15 false _ av.out).mono ?_);rintro e w' ⟨rfl,⟨nd,rfl⟩⟩))
    go_ret;exact⟨rE,cB⟩
  ·replace x:=Bool.eq_false_iff.mpr x;subst x;replace H:=iF H;obtain rfl:=Option.some.inj H;go_enter Tryz.func149,Tryz.ntmps149
   go_wp2_with (first|((with_reducible refine gN 1 ?_);refine boxZ 1 #[.int .i64 b,.int .i64 a,.int .i64 c,.int .i64 d] 71 ?_;intro J hg cx hbox hb;have g:=aM (hbox);have GW520:=gS hg;have GE520:=gS hg;replace HB:=sB hb;clear hb hbox hg;obtain⟨bd,be,bf,bg,bh,bi,bj,bk⟩:=cz4 g)|((with_reducible refine gF 80 ?_);refine goZ (some 4) Tryz.func80 #[.agg #[.int .i64 b,.int .i64 a,.int .i64 c,.int .i64 d]] ?_;(with_reducible refine(impl_Ins_asks.calls b a c d true _ p.out).mono ?_);rintro e cy ⟨rfl,hb⟩;refine⟨_,rfl,?_⟩;replace g:=kB g hb;replace HB:=sB hb;(try clear hb);obtain⟨bl,bm,bn,bo,bp,bq,br,bs⟩:=cz4 g)|((with_reducible refine gF 75 ?_);refine goZ (some 7) Tryz.func75 #[.int .i64 a] ?_;(with_reducible refine(impl_HalfOk.calls a false _ ak.out).mono ?_);rintro e w' ⟨rfl,⟨nd,rfl⟩⟩;refine⟨_,rfl,?_⟩))
   go_ret;exact⟨rE,cB⟩
 ·replace v:=Bool.eq_false_iff.mpr v;subst v;replace H:=iF H;have HC21:=aM H;clear H;go_enter Tryz.func149,Tryz.ntmps149
  go_upto_region 3 with(first|((with_reducible refine gN 1 ?_);refine boxZ 1 #[.int .i64 b,.int .i64 a,.int .i64 c,.int .i64 d] 71 ?_;intro J hg cz hbox hb;have g:=aM (hbox);have GW520:=gS hg;have GE520:=gS hg;replace HB:=sB hb;clear hb hbox hg;obtain⟨bu,bv,bw,bx,bz,bA,bB,bC⟩:=cz4 g)|((with_reducible refine gF 80 ?_);refine goZ (some 4) Tryz.func80 #[.agg #[.int .i64 b,.int .i64 a,.int .i64 c,.int .i64 d]] ?_;(with_reducible refine(impl_Ins_asks.calls b a c d false _ p.out).mono ?_);rintro e cA ⟨rfl,hb⟩;refine⟨_,rfl,?_⟩;replace g:=kB g hb;replace HB:=sB hb;(try clear hb)))
  (try simp only[Act.put,List.setIfInBounds_toArray,List.set_cons_zero,List.set_cons_succ])
  go_cut [25] (fun bD wc=> ∃ (kq:Nat) (L:Bool),bD= .bool L∧Aside0 (impl_InsOk.j0 kq L b a c d=some r)∧Aside0 (kq≤k)∧Aside0 (wc.heap[J]?=some (.cells #[.int .i64 b,.int .i64 a,.int .i64 c,.int .i64 d] 71 (0,0)))∧Aside0 (Below w.heap.size w wc))
  case first=>
   have H:=HC21.out;clear HC21;by_cases q:c=0
   ·rw[if_pos q]at H;obtain⟨s,aw⟩:=eT q;clear q
    (first|rw[s]|(simp only[i64_w,i32_w];rw[s])|skip)
    have H':=aM H;clear H;obtain⟨bF,bG,bH,bI,bJ,bL,bM,bN⟩:=cz4 g;go_wp2;go_meet
    case rel=>exact⟨_,((d !=0)),rS,H',⟨oL⟩,⟨mK g⟩,⟨cB⟩⟩
   ·rw[if_neg q]at H;obtain⟨s,aw⟩:=eF q
    (first|rw[s]|(simp only[i64_w,i32_w];rw[s])|skip)
    have H':=aM H;clear H;obtain⟨bO,bP,bQ,bR,bS,bT,bU,bV⟩:=cz4 g;go_wp2;go_meet
    case rel=>exact⟨_,(true),rS,H',⟨oL⟩,⟨mK g⟩,⟨cB⟩⟩
  case rest=>
   clear HC21;(try clear v);(try clear x);(try clear i);(try clear q);(try clear s);(try clear aw);(try clear aF aG aH aI);(try clear aO aP aQ aR);(try clear aW aX aY aZ);(try clear a4 a5 a6 a7);(try clear bd be bf bg);(try clear bl bm bn bo);(try clear bu bv bw bx);(try clear bF bG bH bI);(try clear bO bP bQ bR);(try clear aJ aK aL aN);(try clear aS aT aU aV);(try clear a0 a1 a2 a3);(try clear a8 a9 ba bb);(try clear bh bi bj bk);(try clear bp bq br bs);(try clear bz bA bB bC);(try clear bJ bL bM bN);(try clear bS bT bU bV);obtain⟨kq,L,rfl,HA,HJ20,g,HB⟩:=hcut
   cases kq with
   | zero=>exact absurd HA.out (by simp[impl_InsOk.j0])
   | succ kj20=>
    have H:=HA.out;clear HA;simp only[impl_InsOk.j0]at H;by_cases M:L=true
    ·subst M;replace H:=iT H;obtain rfl:=Option.some.inj H;go_wp2;go_ret;exact⟨rE,cB⟩
    ·replace M:=Bool.eq_false_iff.mpr M;subst M;replace H:=iF H;by_cases y:b=1
     ·rw[if_pos y]at H;obtain⟨bW,bX⟩:=eT y;clear y;replace H:=bE H;obtain⟨ac,bY,H⟩:=H;obtain rfl:=Option.some.inj H;obtain⟨cD,cE,cF,cG,cH,cI,cJ,cL⟩:=cz4 g
      go_wp2_with (first|((with_reducible refine gF 81 ?_);refine goZ (some 32) Tryz.func81 #[.int .i64 a,.int .i64 0,.int .i64 7] ?_;(with_reducible refine(impl_within.calls a 0 7 ac _ bY.out).mono ?_);rintro e w' ⟨rfl,⟨nd,rfl⟩⟩;refine⟨_,rfl,?_⟩))
      go_ret;exact⟨rE,cB⟩
     ·rw[if_neg y]at H;obtain⟨bW,bX⟩:=eF y;by_cases z:b=7
      ·rw[if_pos z]at H;obtain⟨bZ,b0⟩:=eT z;clear z;replace H:=bE H;obtain⟨ad,b1,H⟩:=H;obtain rfl:=Option.some.inj H;obtain⟨cM,cN,cO,cP,cQ,cR,cS,cT⟩:=cz4 g
       go_wp2_with (first|((with_reducible refine gF 81 ?_);refine goZ (some 37) Tryz.func81 #[.int .i64 a,.int .i64 0,.int .i64 399] ?_;(with_reducible refine(impl_within.calls a 0 399 ad _ b1.out).mono ?_);rintro e w' ⟨rfl,⟨nd,rfl⟩⟩;refine⟨_,rfl,?_⟩))
       go_ret;exact⟨rE,cB⟩
      ·rw[if_neg z]at H;obtain⟨bZ,b0⟩:=eF z;by_cases A:b=2
       ·rw[if_pos A]at H;obtain⟨b5,b8⟩:=eT A;clear A;replace H:=bE H;obtain⟨ae,b9,H⟩:=H;obtain rfl:=Option.some.inj H;obtain⟨cU,cV,cW,cX,cY,cZ,c0,c1⟩:=cz4 g
        go_wp2_with (first|((with_reducible refine gF 75 ?_);refine goZ (some 43) Tryz.func75 #[.int .i64 a] ?_;(with_reducible refine(impl_HalfOk.calls a ae _ b9.out).mono ?_);rintro e w' ⟨rfl,⟨nd,rfl⟩⟩;refine⟨_,rfl,?_⟩))
        go_ret;exact⟨rE,cB⟩
       ·rw[if_neg A]at H;obtain⟨b5,b8⟩:=eF A;by_cases D:b=8
        ·rw[if_pos D]at H;obtain⟨ca,cb⟩:=eT D;clear D;replace H:=bE H;obtain⟨af,cc,H⟩:=H;obtain rfl:=Option.some.inj H;obtain⟨c3,c5,c7,da,db,dc,dd,de⟩:=cz4 g
         go_wp2_with (first|((with_reducible refine gF 75 ?_);refine goZ (some 43) Tryz.func75 #[.int .i64 a] ?_;(with_reducible refine(impl_HalfOk.calls a af _ cc.out).mono ?_);rintro e w' ⟨rfl,⟨nd,rfl⟩⟩;refine⟨_,rfl,?_⟩))
         go_ret;exact⟨rE,cB⟩
        ·rw[if_neg D]at H;obtain⟨ca,cb⟩:=eF D;obtain rfl:=Option.some.inj H;obtain⟨df,dg,dh,di,dj,dk,dl,dm⟩:=cz4 g;go_wp2;go_ret;exact⟨rE,cB⟩
end Go.Proofs.YtpbalojiaghfhaaGreat.PFnExactCompile
