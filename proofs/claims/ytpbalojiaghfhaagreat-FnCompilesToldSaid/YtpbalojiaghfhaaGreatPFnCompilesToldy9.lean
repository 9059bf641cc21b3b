import Derived.Test.YtpbalojiaghfhaaGreatPFnCompilesToldy0
import Derived.Test.YtpbalojiaghfhaaGreatPFnCompilesToldy3
import Derived.Test.YtpbalojiaghfhaaGreatPFnCompilesToldy8
namespace Go.Proofs.YtpbalojiaghfhaaGreat.PFnCompilesTold
open Go.RowKit Go.Proofs.YtpbalojiaghfhaaGreatW.PrintWords Go.Proofs.YtpbalojiaghfhaaGreatW.PrintLast Go.Proofs.YtpbalojiaghfhaaGreatW.PrintMore Go.Proofs.YtpbalojiaghfhaaGreatW.Z
open Kd
attribute [local go_sem] isS max2_int min2_int max_two min_two max_three min_three max_four min_four
set_option linter.unusedVariables false
set_option linter.unusedSimpArgs false
def impl_between.l0:Nat→List Int→Int→Int→Int→Option (Int)
  | 0,_,_,_,_=>none
  | k+1,O,ad,ae,s=>if s<ae then(if 0≤s then(if s<(O.length:Int)then(impl_between.l0 k O (wrap64 (ad+(rd O s))) ae (wrap64 (s+1)))else(none))else(none))else(some ad)
def impl_between.f (k:Nat) (m:List (S86)) (j:List Int) (n:Int) (A:ByteArray):Option (Int):=(impl_placeOf.f k m A n).bind fun D=>(impl_between.l0 k j 0 D (wrap64 (n+1)))
set_option maxHeartbeats 8000000 in
set_option maxRecDepth 100000 in
theorem impl_between.calls {k:Nat}{af:Option Addr}{ag:Nat}{m:List (S86)}{ah:Option Addr}{U:Nat}{j:List Int}{n:Int}{A:ByteArray}{r:Int}{w:World}(h:impl_between.f k m j n A=some r)(ai:Kd.C k86 w af m.length m)(aj:m.length≤ag)(ak:Kd.C (Kd.int .i64) w ah j.length j)(al:j.length≤U) :
 Calls Tryz.prog 79 #[.slice af m.length ag,.slice ah j.length U,.int .i64 n,.string A] w fun e w'=>e= .returned (.int .i64 r)∧Below w.heap.size w w':=by
 have HR0:=aM ai;have HC0:=aM aj;clear ai aj;have HR1:=aM ak;have HC1:=aM al;clear ak al;have HB:=rW w
 unfold impl_between.f at h;have H:=h
 clear h;replace H:=bE H;obtain⟨D,ax,H⟩:=H;have H':=aM H;clear H;go_enter Tryz.func79,Tryz.ntmps79
 go_wp2_with (first|((with_reducible refine gF 109 ?_);refine gX (some 15) Tryz.func109 (impl_placeOf.calls ax.out (cC HR0.out) HC0.out) ?_;intro cd hb;replace HB:=sB hb;(try clear hb)))
 go_loopg [9,11] k (fun kq ay az w'=> ∃ (E:Int) (l:Int),ay= .int .i64 E∧az= .int .i64 l∧Aside0 (impl_between.l0 kq j E D l=some r)∧Aside0 (kq≤k)∧Aside0 (Below w.heap.size w w'))
 case atStart=>exact⟨(0),(wrap64 (n+1)),rS,rS,H',⟨Nat.le_refl _⟩,⟨cB⟩⟩
 case round=>
  clear H';(try clear U);obtain⟨E,l,rfl,rfl,HA,HK1,HB⟩:=hrel
  cases gk with
  | zero=>exact absurd HA.out (by simp[impl_between.l0])
  | succ k1=>
   have H:=HA.out;clear HA;simp only[impl_between.l0]at H;by_cases i:l<D
   ·rw[if_pos i]at H;have aA:=decide_eq_true i;clear i;replace H:=gD H;obtain⟨ce,H⟩:=H;replace H:=gD H;obtain⟨cf,H⟩:=H;have H':=aM H;clear H;have W:0≤(l:Int):=dA;have X:l<(j.length:Int):=dA;obtain⟨cg,aB,am⟩:=at_int HR1.out l W X;cases aB;replace am:=(bc HB am :);replace W:=eq_true W;replace X:=eq_true X;go_wp2;go_roundg k1
    case measure=>exact oK
    case rel=>exact⟨(wrap64 (E+(rd j l))),(wrap64 (l+1)),rS,rS,H',⟨oK⟩,⟨cB⟩⟩
   ·rw[if_neg i]at H;have aA:=decide_eq_false i;clear i;obtain rfl:=Option.some.inj H;go_wp2;go_ret;exact⟨rE,cB⟩
def impl_Ins_asks.f (b:Int) (g:Int) (c:Int) (d:Int):Option (Bool):=(impl_within.f b 3 6).bind fun an=>(some an)
set_option maxHeartbeats 8000000 in
set_option maxRecDepth 100000 in
theorem impl_Ins_asks.calls {b:Int}{g:Int}{c:Int}{d:Int}{r:Bool}{w:World}(h:impl_Ins_asks.f b g c d=some r) :
 Calls Tryz.prog 80 #[.agg #[.int .i64 b,.int .i64 g,.int .i64 c,.int .i64 d]] w fun e w'=>e= .returned (.bool r)∧Below w.heap.size w w':=by
 have hu71:=Tryz.underlying71;have HB:=rW w
 unfold impl_Ins_asks.f at h;have H:=h
 clear h;replace H:=bE H;obtain⟨an,o,H⟩:=H;obtain rfl:=Option.some.inj H;go_enter Tryz.func80,Tryz.ntmps80
 go_wp2_with (first|((with_reducible refine gN 1 ?_);refine boxZ 1 #[.int .i64 b,.int .i64 g,.int .i64 c,.int .i64 d] 71 ?_;intro ch hg ci hbox hb;have aC:=aM hbox;have GW518:=gS hg;have GE518:=gS hg;replace HB:=sB hb;clear hb hbox hg;obtain⟨cj,ck,cl,cm,cn,co,cp,cq⟩:=cz4 aC)|((with_reducible refine gF 81 ?_);refine gX (some 5) Tryz.func81 (impl_within.calls o.out) ?_;rintro w' ⟨nd,rfl⟩))
 go_ret;exact⟨rE,cB⟩
def impl_InsOk.j0:Nat→Bool→Int→Int→Int→Int→Option (Bool)
  | 0,_,_,_,_,_=>none
  | k+1,aD,G,I,cr,cs=>if aD=true then(some false)else(if G=1 then((impl_within.f I 0 7).bind fun ao=>(some ao))else(if G=7 then((impl_within.f I 0 399).bind fun ap=>(some ap))else(if G=2 then((impl_HalfOk.f I).bind fun aq=>(some aq))else(if G=8 then((impl_HalfOk.f I).bind fun ar=>(some ar))else(some false)))))
def impl_InsOk.f (k:Nat) (b:Int) (g:Int) (c:Int) (d:Int):Option (Bool):=(impl_Ins_asks.f b g c d).bind fun Y=>(if Y=true then((impl_HalfOk.f g).bind fun aa=>(if aa=true then((impl_within.f c 0 15).bind fun ab=>(if ab=true then((impl_within.f d 0 15).bind fun au=>(some au))else(some false)))else(some false)))else(if c=0 then(impl_InsOk.j0 k (d !=0) b g c d)else(impl_InsOk.j0 k true b g c d)))
set_option maxHeartbeats 8000000 in
set_option maxRecDepth 100000 in
theorem impl_InsOk.calls {k:Nat}{b:Int}{g:Int}{c:Int}{d:Int}{r:Bool}{w:World}(h:impl_InsOk.f k b g c d=some r) :
 Calls Tryz.prog 149 #[.agg #[.int .i64 b,.int .i64 g,.int .i64 c,.int .i64 d]] w fun e w'=>e= .returned (.bool r)∧Below w.heap.size w w':=by
 have hu71:=Tryz.underlying71;have HB:=rW w
 unfold impl_InsOk.f at h;have H:=h
 clear h;replace H:=bE H;obtain⟨Y,o,H⟩:=H;by_cases t:Y=true
 ·subst t;replace H:=iT H;replace H:=bE H;obtain⟨aa,ac,H⟩:=H;by_cases u:aa=true
  ·subst u;replace H:=iT H;replace H:=bE H;obtain⟨ab,av,H⟩:=H;by_cases i:ab=true
   ·subst i;replace H:=iT H;replace H:=bE H;obtain⟨au,aE,H⟩:=H;obtain rfl:=Option.some.inj H;go_enter Tryz.func149,Tryz.ntmps149
    go_wp2_with (first|((with_reducible refine gN 1 ?_);refine boxZ 1 #[.int .i64 b,.int .i64 g,.int .i64 c,.int .i64 d] 71 ?_;intro J hg ct hbox hb;have a:=aM hbox;have GW520:=gS hg;have GE520:=gS hg;replace HB:=sB hb;clear hb hbox hg;obtain⟨aF,aG,aH,aI,aJ,aK,aL,aN⟩:=cz4 a)|((with_reducible refine gF 80 ?_);refine gX (some 4) Tryz.func80 (impl_Ins_asks.calls o.out) ?_;intro cu hb;replace a:=kB a hb;replace HB:=sB hb;(try clear hb);obtain⟨aO,aP,aQ,aR,aS,aT,aU,aV⟩:=cz4 a)|((with_reducible refine gF 75 ?_);refine gX (some 7) Tryz.func75 (impl_HalfOk.calls ac.out) ?_;rintro w' ⟨nd,rfl⟩)|(go_at_call 81;(with_reducible refine(impl_within.calls av.out).mono ?_);rintro e w' ⟨rfl,⟨nd,rfl⟩⟩)|(go_at_call 81;(with_reducible refine(impl_within.calls aE.out).mono ?_);rintro e w' ⟨rfl,⟨nd,rfl⟩⟩))
    go_ret;exact⟨rE,cB⟩
   ·replace i:=Bool.eq_false_iff.mpr i;subst i;replace H:=iF H;obtain rfl:=Option.some.inj H;go_enter Tryz.func149,Tryz.ntmps149
    go_wp2_with (first|((with_reducible refine gN 1 ?_);refine boxZ 1 #[.int .i64 b,.int .i64 g,.int .i64 c,.int .i64 d] 71 ?_;intro J hg cv hbox hb;have a:=aM hbox;have GW520:=gS hg;have GE520:=gS hg;replace HB:=sB hb;clear hb hbox hg;obtain⟨aW,aX,aY,aZ,a0,a1,a2,a3⟩:=cz4 a)|((with_reducible refine gF 80 ?_);refine gX (some 4) Tryz.func80 (impl_Ins_asks.calls o.out) ?_;intro cw hb;replace a:=kB a hb;replace HB:=sB hb;(try clear hb);obtain⟨a4,a5,a6,a7,a8,a9,ba,bb⟩:=cz4 a)|((with_reducible refine gF 75 ?_);refine gX (some 7) Tryz.func75 (impl_HalfOk.calls ac.out) ?_;rintro w' ⟨nd,rfl⟩)|(go_at_call 81;(with_reducible refine(impl_within.calls av.out).mono ?_);rintro e w' ⟨rfl,⟨nd,rfl⟩⟩))
    go_ret;exact⟨rE,cB⟩
  ·replace u:=Bool.eq_false_iff.mpr u;subst u;replace H:=iF H;obtain rfl:=Option.some.inj H;go_enter Tryz.func149,Tryz.ntmps149
   go_wp2_with (first|((with_reducible refine gN 1 ?_);refine boxZ 1 #[.int .i64 b,.int .i64 g,.int .i64 c,.int .i64 d] 71 ?_;intro J hg cx hbox hb;have a:=aM hbox;have GW520:=gS hg;have GE520:=gS hg;replace HB:=sB hb;clear hb hbox hg;obtain⟨bd,be,bf,bg,bh,bi,bj,bk⟩:=cz4 a)|((with_reducible refine gF 80 ?_);refine gX (some 4) Tryz.func80 (impl_Ins_asks.calls o.out) ?_;intro cy hb;replace a:=kB a hb;replace HB:=sB hb;(try clear hb);obtain⟨bl,bm,bn,bo,bp,bq,br,bs⟩:=cz4 a)|((with_reducible refine gF 75 ?_);refine gX (some 7) Tryz.func75 (impl_HalfOk.calls ac.out) ?_;rintro w' ⟨nd,rfl⟩))
   go_ret;exact⟨rE,cB⟩
 ·replace t:=Bool.eq_false_iff.mpr t;subst t;replace H:=iF H;have HC21:=aM H;clear H;go_enter Tryz.func149,Tryz.ntmps149
  go_upto_region 3 with(first|((with_reducible refine gN 1 ?_);refine boxZ 1 #[.int .i64 b,.int .i64 g,.int .i64 c,.int .i64 d] 71 ?_;intro J hg cz hbox hb;have a:=aM hbox;have GW520:=gS hg;have GE520:=gS hg;replace HB:=sB hb;clear hb hbox hg;obtain⟨bu,bv,bw,bx,bz,bA,bB,bC⟩:=cz4 a)|((with_reducible refine gF 80 ?_);refine gX (some 4) Tryz.func80 (impl_Ins_asks.calls o.out) ?_;intro cA hb;replace a:=kB a hb;replace HB:=sB hb;(try clear hb)))
  (try simp only[Act.put,List.setIfInBounds_toArray,List.set_cons_zero,List.set_cons_succ])
  go_cut [25] (fun bD wc=> ∃ (kq:Nat) (L:Bool),bD= .bool L∧Aside0 (impl_InsOk.j0 kq L b g c d=some r)∧Aside0 (kq≤k)∧Aside0 (wc.heap[J]?=some (.cells #[.int .i64 b,.int .i64 g,.int .i64 c,.int .i64 d] 71 (0,0)))∧Aside0 (Below w.heap.size w wc))
  case first=>
   have H:=HC21.out;clear HC21;by_cases p:c=0
   ·rw[if_pos p]at H;obtain⟨q,aw⟩:=eT p;clear p
    (first|rw[q]|(simp only[i64_w,i32_w];rw[q])|skip)
    have H':=aM H;clear H;obtain⟨bF,bG,bH,bI,bJ,bL,bM,bN⟩:=cz4 a;go_wp2;go_meet
    case rel=>exact⟨_,((d !=0)),rS,H',⟨oL⟩,⟨mK a⟩,⟨cB⟩⟩
   ·rw[if_neg p]at H;obtain⟨q,aw⟩:=eF p
    (first|rw[q]|(simp only[i64_w,i32_w];rw[q])|skip)
    have H':=aM H;clear H;obtain⟨bO,bP,bQ,bR,bS,bT,bU,bV⟩:=cz4 a;go_wp2;go_meet
    case rel=>exact⟨_,(true),rS,H',⟨oL⟩,⟨mK a⟩,⟨cB⟩⟩
  case rest=>
   clear HC21;(try clear t);(try clear u);(try clear i);(try clear p);(try clear q);(try clear aw);(try clear aF aG aH aI);(try clear aO aP aQ aR);(try clear aW aX aY aZ);(try clear a4 a5 a6 a7);(try clear bd be bf bg);(try clear bl bm bn bo);(try clear bu bv bw bx);(try clear bF bG bH bI);(try clear bO bP bQ bR);(try clear aJ aK aL aN);(try clear aS aT aU aV);(try clear a0 a1 a2 a3);(try clear a8 a9 ba bb);(try clear bh bi bj bk);(try clear bp bq br bs);(try clear bz bA bB bC);(try clear bJ bL bM bN);(try clear bS bT bU bV);obtain⟨kq,L,rfl,HA,HJ20,a,HB⟩:=hcut
   cases kq with
   | zero=>exact absurd HA.out (by simp[impl_InsOk.j0])
   | succ kj20=>
    have H:=HA.out;clear HA;simp only[impl_InsOk.j0]at H;by_cases M:L=true
    ·subst M;replace H:=iT H;obtain rfl:=Option.some.inj H;go_wp2;go_ret;exact⟨rE,cB⟩
    ·replace M:=Bool.eq_false_iff.mpr M;subst M;replace H:=iF H;by_cases v:b=1
     ·rw[if_pos v]at H;obtain⟨bW,bX⟩:=eT v;clear v;replace H:=bE H;obtain⟨ao,bY,H⟩:=H;obtain rfl:=Option.some.inj H;obtain⟨cD,cE,cF,cG,cI,cJ,cL,cM⟩:=cz4 a
      go_wp2_with (first|((with_reducible refine gF 81 ?_);refine gX (some 32) Tryz.func81 (impl_within.calls bY.out) ?_;rintro w' ⟨nd,rfl⟩))
      go_ret;exact⟨rE,cB⟩
     ·rw[if_neg v]at H;obtain⟨bW,bX⟩:=eF v;by_cases x:b=7
      ·rw[if_pos x]at H;obtain⟨bZ,b0⟩:=eT x;clear x;replace H:=bE H;obtain⟨ap,b1,H⟩:=H;obtain rfl:=Option.some.inj H;obtain⟨cN,cO,cP,cQ,cR,cS,cT,cU⟩:=cz4 a
       go_wp2_with (first|((with_reducible refine gF 81 ?_);refine gX (some 37) Tryz.func81 (impl_within.calls b1.out) ?_;rintro w' ⟨nd,rfl⟩))
       go_ret;exact⟨rE,cB⟩
      ·rw[if_neg x]at H;obtain⟨bZ,b0⟩:=eF x;by_cases y:b=2
       ·rw[if_pos y]at H;obtain⟨b5,b8⟩:=eT y;clear y;replace H:=bE H;obtain⟨aq,b9,H⟩:=H;obtain rfl:=Option.some.inj H;obtain⟨cV,cW,cX,cY,cZ,c0,c1,c3⟩:=cz4 a
        go_wp2_with (first|((with_reducible refine gF 75 ?_);refine gX (some 43) Tryz.func75 (impl_HalfOk.calls b9.out) ?_;rintro w' ⟨nd,rfl⟩))
        go_ret;exact⟨rE,cB⟩
       ·rw[if_neg y]at H;obtain⟨b5,b8⟩:=eF y;by_cases z:b=8
        ·rw[if_pos z]at H;obtain⟨ca,cb⟩:=eT z;clear z;replace H:=bE H;obtain⟨ar,cc,H⟩:=H;obtain rfl:=Option.some.inj H;obtain⟨c5,c7,da,db,dc,dd,de,df⟩:=cz4 a
         go_wp2_with (first|((with_reducible refine gF 75 ?_);refine gX (some 43) Tryz.func75 (impl_HalfOk.calls cc.out) ?_;rintro w' ⟨nd,rfl⟩))
         go_ret;exact⟨rE,cB⟩
        ·rw[if_neg z]at H;obtain⟨ca,cb⟩:=eF z;obtain rfl:=Option.some.inj H;obtain⟨dg,dh,di,dj,dk,dl,dm,dn⟩:=cz4 a;go_wp2;go_ret;exact⟨rE,cB⟩
end Go.Proofs.YtpbalojiaghfhaaGreat.PFnCompilesTold
