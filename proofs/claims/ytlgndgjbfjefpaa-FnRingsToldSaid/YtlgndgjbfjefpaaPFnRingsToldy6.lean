import Derived.Test.YtlgndgjbfjefpaaPFnRingsToldy0
import Derived.Test.YtlgndgjbfjefpaaPFnRingsToldy5
namespace Go.Proofs.Ytlgndgjbfjefpaa.PFnRingsTold
open Go.RowKit Go.Proofs.YtlgndgjbfjefpaaW.PrintWords Go.Proofs.YtlgndgjbfjefpaaW.PrintLast Go.Proofs.YtlgndgjbfjefpaaW.PrintMore Go.Proofs.YtlgndgjbfjefpaaW.Z
open Kd
attribute [local go_sem] isS max2_int min2_int max_two min_two max_three min_three max_four min_four
set_option linter.unusedVariables false
set_option linter.unusedSimpArgs false
mutual
def spec_RingOk.j0:Nat→Bool→List (S33)→Int→Int→Int→Option (Bool)
  | 0,_,_,_,_,_=>none
  | k+1,aN,i,D,v,x=>if aN=true then(some false)else(spec_RingOk.l0 k v 0 i D v x)
def spec_RingOk.l0:Nat→Int→Int→List (S33)→Int→Int→Int→Option (Bool)
  | 0,_,_,_,_,_,_=>none
  | k+1,W,j,i,D,v,x=>if j<(i.length:Int)then(if 0≤j then((spec_ItemOk.f ((rd_T33 i j).f0) ((rd_T33 i j).f1) ((rd_T33 i j).f2) ((rd_T33 i j).f3)).bind fun E=>(if E=true then((spec_l16Length.f ((rd_T33 i j).f0) ((rd_T33 i j).f1) ((rd_T33 i j).f2) ((rd_T33 i j).f3)).bind fun G=>(spec_RingOk.l0 k (wrap64 (W+G)) (wrap64 (j+1)) i D v x))else(some false)))else(none))else(some (decide (W≤x)))
end
def spec_RingOk.f (k:Nat) (b:List (S33)) (d:Int) (c:Int) (g:Int):Option (Bool):=if(b.length:Int)>4 then(spec_RingOk.j0 k true b d c g)else((spec_l01In.f d 0 5).bind fun I=>(if I=true then((spec_l01In.f c 0 1000000000).bind fun J=>(if J=true then((spec_l01In.f g 0 1000000000).bind fun L=>(spec_RingOk.j0 k (!L) b d c g))else(spec_RingOk.j0 k true b d c g)))else(spec_RingOk.j0 k true b d c g)))
set_option maxHeartbeats 8000000 in
set_option maxRecDepth 100000 in
theorem spec_RingOk.calls {k:Nat}{s:Option Addr}{t:Nat}{b:List (S33)}{d:Int}{c:Int}{g:Int}{r:Bool}{w:World}(h:spec_RingOk.f k b d c g=some r)(X:Kd.C k33 w s b.length b)(Y:b.length≤t) :
 Calls Try.prog 28 #[.agg #[.slice s b.length t,.int .i64 d,.int .i64 c,.int .i64 g]] w fun e w'=>e= .returned (.bool r)∧Below w.heap.size w w':=by
 have hu28:=Try.underlying28;have hu33:=Try.underlying33;have HR0_0:=aM X;have HC0_0:=aM Y;clear X Y;have HB:=rW w
 unfold spec_RingOk.f at h;have H:=h
 clear h;have HC2:=aM H;clear H;go_enter Try.func28,Try.ntmps28
 go_upto_region 1 with(first|((with_reducible refine gN 1 ?_);refine boxZ 1 #[.slice s b.length t,.int .i64 d,.int .i64 c,.int .i64 g] 28 ?_;intro aa hg ba hbox hb;have a:=aM hbox;have GW216:=gS hg;have GE216:=gS hg;replace HB:=sB hb;clear hb hbox hg))
 (try simp only[Act.put,List.setIfInBounds_toArray,List.set_cons_zero,List.set_cons_succ])
 go_cut [26] (fun aO wc=> ∃ (kq:Nat) (y:Bool),aO= .bool y∧Aside0 (spec_RingOk.j0 kq y b d c g=some r)∧Aside0 (kq≤k)∧Aside0 (wc.heap[aa]?=some (.cells #[(.slice s b.length t),.int .i64 d,.int .i64 c,.int .i64 g] 28 (0,0)))∧Aside0 (Below w.heap.size w wc))
 case first=>
  have H:=HC2.out;clear HC2;by_cases l:(b.length:Int)>4
  ·rw[if_pos l]at H;have n:decide (4<(b.length:Int))=true:=decide_eq_true l
   have M:decide (4<b.length)=true:=decide_eq_true (by omega)
   clear l
   (first|rw[n]|(simp only[i64_w,i32_w];rw[n])|skip)
   have H':=aM H;clear H;obtain⟨ab,ac,ad,ae,af,ag,ah,ai⟩:=cz4 a;go_wp2;go_meet
   case rel=>exact⟨_,(true),rS,H',⟨oL⟩,⟨mK a⟩,⟨cB⟩⟩
  ·rw[if_neg l]at H;have n:decide (4<(b.length:Int))=false:=decide_eq_false l
   have M:decide (4<b.length)=false:=decide_eq_false (by omega)
   clear l
   (first|rw[n]|(simp only[i64_w,i32_w];rw[n])|skip)
   replace H:=bE H;obtain⟨I,O,H⟩:=H;by_cases o:I=true
   ·subst o;replace H:=iT H;replace H:=bE H;obtain⟨J,aj,H⟩:=H;by_cases p:J=true
    ·subst p;replace H:=iT H;replace H:=bE H;obtain⟨L,aP,H⟩:=H;have H':=aM H;clear H;obtain⟨ak,al,am,an,ao,ap,aq,ar⟩:=cz4 a
     go_wp2_with (first|(go_at_call 100;(with_reducible refine(spec_l01In.calls O.out).mono ?_);rintro e w' ⟨rfl,⟨nd,rfl⟩⟩)|(go_at_call 100;(with_reducible refine(spec_l01In.calls aj.out).mono ?_);rintro e w' ⟨rfl,⟨nd,rfl⟩⟩)|(go_at_call 100;(with_reducible refine(spec_l01In.calls aP.out).mono ?_);rintro e w' ⟨rfl,⟨nd,rfl⟩⟩))
     go_meet
     case rel=>exact⟨_,(!L),rS,H',⟨oL⟩,⟨mK a⟩,⟨cB⟩⟩
    ·replace p:=Bool.eq_false_iff.mpr p;subst p;replace H:=iF H;have H':=aM H;clear H;obtain⟨au,av,aw,ax,ay,az,aA,aB⟩:=cz4 a
     go_wp2_with (first|(go_at_call 100;(with_reducible refine(spec_l01In.calls O.out).mono ?_);rintro e w' ⟨rfl,⟨nd,rfl⟩⟩)|(go_at_call 100;(with_reducible refine(spec_l01In.calls aj.out).mono ?_);rintro e w' ⟨rfl,⟨nd,rfl⟩⟩))
     go_meet
     case rel=>exact⟨_,(true),rS,H',⟨oL⟩,⟨mK a⟩,⟨cB⟩⟩
   ·replace o:=Bool.eq_false_iff.mpr o;subst o;replace H:=iF H;have H':=aM H;clear H;obtain⟨aC,aD,aE,aF,aG,aH,aI,aJ⟩:=cz4 a
    go_wp2_with (first|(go_at_call 100;(with_reducible refine(spec_l01In.calls O.out).mono ?_);rintro e w' ⟨rfl,⟨nd,rfl⟩⟩))
    go_meet
    case rel=>exact⟨_,(true),rS,H',⟨oL⟩,⟨mK a⟩,⟨cB⟩⟩
 case rest=>
  clear HC2;(try clear l);(try clear n);(try clear M);(try clear o);(try clear p);(try clear ak al am an);(try clear au av aw ax);(try clear aC aD aE aF);(try clear ab ac ad ae);(try clear ao ap aq ar);(try clear ay az aA aB);(try clear aG aH aI aJ);(try clear af ag ah ai);obtain⟨kq,y,rfl,HA,HJ1,a,HB⟩:=hcut
  cases kq with
  | zero=>exact absurd HA.out (by simp[spec_RingOk.j0])
  | succ kj1=>
   have H:=HA.out;clear HA;simp only[spec_RingOk.j0]at H;by_cases u:y=true
   ·subst u;replace H:=iT H;obtain rfl:=Option.some.inj H;go_wp2;go_ret;exact⟨rE,cB⟩
   ·replace u:=Bool.eq_false_iff.mpr u;subst u;replace H:=iF H;have H':=aM H;clear H;obtain⟨aQ,aR,aS,aT,aU,aV,aW,aX⟩:=cz4 a;go_wp2
    go_loopg [3,4] kj1 (fun kq aY aZ w'=> ∃ (z:Int) (m:Int),aY= .int .i64 z∧aZ= .int .i64 m∧Aside0 (spec_RingOk.l0 kq z m b d c g=some r)∧Aside0 (kq≤kj1)∧Aside0 (w'.heap[aa]?=some (.cells #[(.slice s b.length t),.int .i64 d,.int .i64 c,.int .i64 g] 28 (0,0)))∧Aside0 (Below w.heap.size w w'))
    case atStart=>exact⟨(c),(0),rS,rS,H',⟨Nat.le_refl _⟩,⟨mK a⟩,⟨cB⟩⟩
    case round=>
     clear H';(try clear l);(try clear n);(try clear M);(try clear o);(try clear p);(try clear u);(try clear ak al am an);(try clear au av aw ax);(try clear aC aD aE aF);(try clear aQ aR aS aT);(try clear ab ac ad ae);(try clear ao ap aq ar);(try clear ay az aA aB);(try clear aG aH aI aJ);(try clear aU aV aW aX);(try clear af ag ah ai);obtain⟨z,m,rfl,rfl,HA,HK2,a,HB⟩:=hrel
     cases gk with
     | zero=>exact absurd HA.out (by simp[spec_RingOk.l0])
     | succ k2=>
      have H:=HA.out;clear HA;simp only[spec_RingOk.l0]at H;by_cases q:m<(b.length:Int)
      ·rw[if_pos q]at H;have a0:=decide_eq_true q;clear q;replace H:=gD H;obtain⟨bb,H⟩:=H;replace H:=bE H;obtain⟨E,aK,H⟩:=H;by_cases A:E=true
       ·subst A;replace H:=iT H;replace H:=bE H;obtain⟨G,a1,H⟩:=H;have H':=aM H;clear H;obtain⟨bd,be,bf,bg,bh,bi,bj,bk⟩:=cz4 a;obtain⟨a2,a3,aL,U,a4,a5,a6,a7⟩:=b4 HB (at_T33 HR0_0.out m);cases U
        go_wp2_with (first|((with_reducible refine gF 30 ?_);refine gX (some 41) Try.func30 (spec_ItemOk.calls aK.out) ?_;intro bl hb;replace a:=kB a hb;replace HB:=sB hb;(try clear hb);obtain⟨bm,bn,bo,bp,bq,br,bs,bu⟩:=cz4 a;obtain⟨bv,bw,a8,a9,bx,bz,bA,bB⟩:=b4 HB (at_T33 HR0_0.out m);obtain rfl:aL=a8:=(by injection a9))|((with_reducible refine gF 101 ?_);refine gX (some 49) Try.func101 (spec_l16Length.calls a1.out) ?_;intro bC hb;replace a:=kB a hb;replace HB:=sB hb;(try clear hb)))
        go_roundg k2
        case measure=>have:=HJ1.out;have:=HK2.out;omega
        case rel=>exact⟨(wrap64 (z+G)),(wrap64 (m+1)),rS,rS,H',⟨by have:=HJ1.out;have:=HK2.out;omega⟩,⟨mK a⟩,⟨cB⟩⟩
       ·replace A:=Bool.eq_false_iff.mpr A;subst A;replace H:=iF H;obtain rfl:=Option.some.inj H;obtain⟨bD,bF,bG,bH,bI,bJ,bL,bM⟩:=cz4 a;obtain⟨a2,a3,aL,U,a4,a5,a6,a7⟩:=b4 HB (at_T33 HR0_0.out m);cases U
        go_wp2_with (first|((with_reducible refine gF 30 ?_);refine gX (some 41) Try.func30 (spec_ItemOk.calls aK.out) ?_;intro bN hb;replace a:=kB a hb;replace HB:=sB hb;(try clear hb)))
        go_ret;exact⟨rE,cB⟩
      ·rw[if_neg q]at H;have a0:=decide_eq_false q;clear q;obtain rfl:=Option.some.inj H;obtain⟨bO,bP,bQ,bR,bS,bT,bU,bV⟩:=cz4 a;go_wp2;go_ret;exact⟨rE,cB⟩
end Go.Proofs.Ytlgndgjbfjefpaa.PFnRingsTold
