import Derived.Test.YtpbalojiaghfhaaGreatPFnCompilesy0
import Derived.Test.YtpbalojiaghfhaaGreatPFnCompilesy5
import Derived.Test.YtpbalojiaghfhaaGreatPFnCompilesy10
namespace Go.Proofs.YtpbalojiaghfhaaGreat.PFnCompiles
open Go.RowKit Go.Proofs.YtpbalojiaghfhaaGreatW.PrintWords Go.Proofs.YtpbalojiaghfhaaGreatW.PrintLast Go.Proofs.YtpbalojiaghfhaaGreatW.PrintMore Go.Proofs.YtpbalojiaghfhaaGreatW.Z
open Kd
attribute [local go_sem] isS max2_int min2_int max_two min_two max_three min_three max_four min_four
set_option linter.unusedVariables false
set_option linter.unusedSimpArgs false
def impl_InsOk.j0:Nat→Bool→Int→Int→Int→Int→Option (Bool)
  | 0,_,_,_,_,_=>none
  | k+1,X,t,u,bD,bF=>if X=true then(some false)else(if t=1 then((impl_within.f u 0 7).bind fun I=>(some I))else(if t=7 then((impl_within.f u 0 399).bind fun J=>(some J))else(if t=2 then((impl_HalfOk.f u).bind fun L=>(some L))else(if t=8 then((impl_HalfOk.f u).bind fun M=>(some M))else(some false)))))
def impl_InsOk.f (k:Nat) (b:Int) (g:Int) (c:Int) (d:Int):Option (Bool):=(impl_Ins_asks.f b g c d).bind fun A=>(if A=true then((impl_HalfOk.f g).bind fun D=>(if D=true then((impl_within.f c 0 15).bind fun E=>(if E=true then((impl_within.f d 0 15).bind fun O=>(some O))else(some false)))else(some false)))else(if c=0 then(impl_InsOk.j0 k (d !=0) b g c d)else(impl_InsOk.j0 k true b g c d)))
set_option maxHeartbeats 8000000 in
set_option maxRecDepth 100000 in
theorem impl_InsOk.calls {k:Nat}{b:Int}{g:Int}{c:Int}{d:Int}{r:Bool}{w:World}(h:impl_InsOk.f k b g c d=some r) :
 Calls Tryz.prog 149 #[.agg #[.int .i64 b,.int .i64 g,.int .i64 c,.int .i64 d]] w fun e w'=>e= .returned (.bool r)∧Below w.heap.size w w':=by
 have hu71:=Tryz.underlying71;have HB:=rW w
 unfold impl_InsOk.f at h;have H:=h
 clear h;replace H:=bE H;obtain⟨A,v,H⟩:=H;by_cases l:A=true
 ·subst l;replace H:=iT H;replace H:=bE H;obtain⟨D,G,H⟩:=H;by_cases m:D=true
  ·subst m;replace H:=iT H;replace H:=bE H;obtain⟨E,U,H⟩:=H;by_cases n:E=true
   ·subst n;replace H:=iT H;replace H:=bE H;obtain⟨O,Y,H⟩:=H;obtain rfl:=Option.some.inj H;go_enter Tryz.func149,Tryz.ntmps149
    go_wp2_with (first|((with_reducible refine gN 1 ?_);refine boxZ 1 #[.int .i64 b,.int .i64 g,.int .i64 c,.int .i64 d] 71 ?_;intro x hg bG hbox hb;have a:=aM hbox;have GW690:=gS hg;have GE690:=gS hg;replace HB:=sB hb;clear hb hbox hg;obtain⟨aa,ab,ac,ad,ae,af,ag,ah⟩:=cz4 a)|((with_reducible refine gF 80 ?_);refine gX (some 4) Tryz.func80 (impl_Ins_asks.calls v.out) ?_;intro bH hb;replace a:=kB a hb;replace HB:=sB hb;(try clear hb);obtain⟨ai,aj,ak,al,am,an,ao,ap⟩:=cz4 a)|((with_reducible refine gF 75 ?_);refine gX (some 7) Tryz.func75 (impl_HalfOk.calls G.out) ?_;rintro w' ⟨nd,rfl⟩)|(go_at_call 81;(with_reducible refine(impl_within.calls U.out).mono ?_);rintro e w' ⟨rfl,⟨nd,rfl⟩⟩)|(go_at_call 81;(with_reducible refine(impl_within.calls Y.out).mono ?_);rintro e w' ⟨rfl,⟨nd,rfl⟩⟩))
    go_ret;exact⟨rE,cB⟩
   ·replace n:=Bool.eq_false_iff.mpr n;subst n;replace H:=iF H;obtain rfl:=Option.some.inj H;go_enter Tryz.func149,Tryz.ntmps149
    go_wp2_with (first|((with_reducible refine gN 1 ?_);refine boxZ 1 #[.int .i64 b,.int .i64 g,.int .i64 c,.int .i64 d] 71 ?_;intro x hg bI hbox hb;have a:=aM hbox;have GW690:=gS hg;have GE690:=gS hg;replace HB:=sB hb;clear hb hbox hg;obtain⟨aq,ar,au,av,aw,ax,ay,az⟩:=cz4 a)|((with_reducible refine gF 80 ?_);refine gX (some 4) Tryz.func80 (impl_Ins_asks.calls v.out) ?_;intro bJ hb;replace a:=kB a hb;replace HB:=sB hb;(try clear hb);obtain⟨aA,aB,aC,aD,aE,aF,aG,aH⟩:=cz4 a)|((with_reducible refine gF 75 ?_);refine gX (some 7) Tryz.func75 (impl_HalfOk.calls G.out) ?_;rintro w' ⟨nd,rfl⟩)|(go_at_call 81;(with_reducible refine(impl_within.calls U.out).mono ?_);rintro e w' ⟨rfl,⟨nd,rfl⟩⟩))
    go_ret;exact⟨rE,cB⟩
  ·replace m:=Bool.eq_false_iff.mpr m;subst m;replace H:=iF H;obtain rfl:=Option.some.inj H;go_enter Tryz.func149,Tryz.ntmps149
   go_wp2_with (first|((with_reducible refine gN 1 ?_);refine boxZ 1 #[.int .i64 b,.int .i64 g,.int .i64 c,.int .i64 d] 71 ?_;intro x hg bL hbox hb;have a:=aM hbox;have GW690:=gS hg;have GE690:=gS hg;replace HB:=sB hb;clear hb hbox hg;obtain⟨aI,aJ,aK,aL,aN,aO,aP,aQ⟩:=cz4 a)|((with_reducible refine gF 80 ?_);refine gX (some 4) Tryz.func80 (impl_Ins_asks.calls v.out) ?_;intro bM hb;replace a:=kB a hb;replace HB:=sB hb;(try clear hb);obtain⟨aR,aS,aT,aU,aV,aW,aX,aY⟩:=cz4 a)|((with_reducible refine gF 75 ?_);refine gX (some 7) Tryz.func75 (impl_HalfOk.calls G.out) ?_;rintro w' ⟨nd,rfl⟩))
   go_ret;exact⟨rE,cB⟩
 ·replace l:=Bool.eq_false_iff.mpr l;subst l;replace H:=iF H;have HC21:=aM H;clear H;go_enter Tryz.func149,Tryz.ntmps149
  go_upto_region 3 with(first|((with_reducible refine gN 1 ?_);refine boxZ 1 #[.int .i64 b,.int .i64 g,.int .i64 c,.int .i64 d] 71 ?_;intro x hg bN hbox hb;have a:=aM hbox;have GW690:=gS hg;have GE690:=gS hg;replace HB:=sB hb;clear hb hbox hg;obtain⟨aZ,a0,a1,a2,a3,a4,a5,a6⟩:=cz4 a)|((with_reducible refine gF 80 ?_);refine gX (some 4) Tryz.func80 (impl_Ins_asks.calls v.out) ?_;intro bO hb;replace a:=kB a hb;replace HB:=sB hb;(try clear hb)))
  (try simp only[Act.put,List.setIfInBounds_toArray,List.set_cons_zero,List.set_cons_succ])
  go_cut [25] (fun a7 wc=> ∃ (kq:Nat) (y:Bool),a7= .bool y∧Aside0 (impl_InsOk.j0 kq y b g c d=some r)∧Aside0 (kq≤k)∧Aside0 (wc.heap[x]?=some (.cells #[.int .i64 b,.int .i64 g,.int .i64 c,.int .i64 d] 71 (0,0)))∧Aside0 (Below w.heap.size w wc))
  case first=>
   have H:=HC21.out;clear HC21;by_cases i:c=0
   ·rw[if_pos i]at H;obtain⟨j,W⟩:=eT i;clear i
    (first|rw[j]|(simp only[i64_w,i32_w];rw[j])|skip)
    have H':=aM H;clear H;obtain⟨a8,a9,ba,bb,bd,be,bf,bg⟩:=cz4 a;go_wp2;go_meet
    case rel=>exact⟨_,((d !=0)),rS,H',⟨oL⟩,⟨mK a⟩,⟨cB⟩⟩
   ·rw[if_neg i]at H;obtain⟨j,W⟩:=eF i
    (first|rw[j]|(simp only[i64_w,i32_w];rw[j])|skip)
    have H':=aM H;clear H;obtain⟨bh,bi,bj,bk,bl,bm,bn,bo⟩:=cz4 a;go_wp2;go_meet
    case rel=>exact⟨_,(true),rS,H',⟨oL⟩,⟨mK a⟩,⟨cB⟩⟩
  case rest=>
   clear HC21;(try clear l);(try clear m);(try clear n);(try clear i);(try clear j);(try clear W);(try clear aa ab ac ad);(try clear ai aj ak al);(try clear aq ar au av);(try clear aA aB aC aD);(try clear aI aJ aK aL);(try clear aR aS aT aU);(try clear aZ a0 a1 a2);(try clear a8 a9 ba bb);(try clear bh bi bj bk);(try clear ae af ag ah);(try clear am an ao ap);(try clear aw ax ay az);(try clear aE aF aG aH);(try clear aN aO aP aQ);(try clear aV aW aX aY);(try clear a3 a4 a5 a6);(try clear bd be bf bg);(try clear bl bm bn bo);obtain⟨kq,y,rfl,HA,HJ20,a,HB⟩:=hcut
   cases kq with
   | zero=>exact absurd HA.out (by simp[impl_InsOk.j0])
   | succ kj20=>
    have H:=HA.out;clear HA;simp only[impl_InsOk.j0]at H;by_cases z:y=true
    ·subst z;replace H:=iT H;obtain rfl:=Option.some.inj H;go_wp2;go_ret;exact⟨rE,cB⟩
    ·replace z:=Bool.eq_false_iff.mpr z;subst z;replace H:=iF H;by_cases o:b=1
     ·rw[if_pos o]at H;obtain⟨bp,bq⟩:=eT o;clear o;replace H:=bE H;obtain⟨I,br,H⟩:=H;obtain rfl:=Option.some.inj H;obtain⟨bP,bQ,bR,bS,bT,bU,bV,bW⟩:=cz4 a
      go_wp2_with (first|((with_reducible refine gF 81 ?_);refine gX (some 32) Tryz.func81 (impl_within.calls br.out) ?_;rintro w' ⟨nd,rfl⟩))
      go_ret;exact⟨rE,cB⟩
     ·rw[if_neg o]at H;obtain⟨bp,bq⟩:=eF o;by_cases p:b=7
      ·rw[if_pos p]at H;obtain⟨bs,bu⟩:=eT p;clear p;replace H:=bE H;obtain⟨J,bv,H⟩:=H;obtain rfl:=Option.some.inj H;obtain⟨bX,bY,bZ,b0,b1,b5,b8,b9⟩:=cz4 a
       go_wp2_with (first|((with_reducible refine gF 81 ?_);refine gX (some 37) Tryz.func81 (impl_within.calls bv.out) ?_;rintro w' ⟨nd,rfl⟩))
       go_ret;exact⟨rE,cB⟩
      ·rw[if_neg p]at H;obtain⟨bs,bu⟩:=eF p;by_cases q:b=2
       ·rw[if_pos q]at H;obtain⟨bw,bx⟩:=eT q;clear q;replace H:=bE H;obtain⟨L,bz,H⟩:=H;obtain rfl:=Option.some.inj H;obtain⟨ca,cb,cc,cd,ce,cf,cg,ch⟩:=cz4 a
        go_wp2_with (first|((with_reducible refine gF 75 ?_);refine gX (some 43) Tryz.func75 (impl_HalfOk.calls bz.out) ?_;rintro w' ⟨nd,rfl⟩))
        go_ret;exact⟨rE,cB⟩
       ·rw[if_neg q]at H;obtain⟨bw,bx⟩:=eF q;by_cases s:b=8
        ·rw[if_pos s]at H;obtain⟨bA,bB⟩:=eT s;clear s;replace H:=bE H;obtain⟨M,bC,H⟩:=H;obtain rfl:=Option.some.inj H;obtain⟨ci,cj,ck,cl,cm,cn,co,cp⟩:=cz4 a
         go_wp2_with (first|((with_reducible refine gF 75 ?_);refine gX (some 43) Tryz.func75 (impl_HalfOk.calls bC.out) ?_;rintro w' ⟨nd,rfl⟩))
         go_ret;exact⟨rE,cB⟩
        ·rw[if_neg s]at H;obtain⟨bA,bB⟩:=eF s;obtain rfl:=Option.some.inj H;obtain⟨cq,cr,cs,ct,cu,cv,cw,cx⟩:=cz4 a;go_wp2;go_ret;exact⟨rE,cB⟩
end Go.Proofs.YtpbalojiaghfhaaGreat.PFnCompiles
