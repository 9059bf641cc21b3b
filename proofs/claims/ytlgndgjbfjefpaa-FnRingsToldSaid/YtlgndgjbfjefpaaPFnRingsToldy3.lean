import Derived.Test.YtlgndgjbfjefpaaPFnRingsToldy0
import Derived.Test.YtlgndgjbfjefpaaPFnRingsToldy2
namespace Go.Proofs.Ytlgndgjbfjefpaa.PFnRingsTold
open Go.RowKit Go.Proofs.YtlgndgjbfjefpaaW.PrintWords Go.Proofs.YtlgndgjbfjefpaaW.PrintLast Go.Proofs.YtlgndgjbfjefpaaW.PrintMore Go.Proofs.YtlgndgjbfjefpaaW.Z
open Kd
attribute [local go_sem] isS max2_int min2_int max_two min_two max_three min_three max_four min_four
set_option linter.unusedVariables false
set_option linter.unusedSimpArgs false
mutual
def impl_RingOk.j0:Nat→Bool→List (S33)→Int→Int→Int→Option (Bool)
  | 0,_,_,_,_,_=>none
  | k+1,bo,n,E,t,u=>if bo=true then(some false)else(impl_RingOk.l0 k t n (n.length:Int) 0 n E t u)
def impl_RingOk.l0:Nat→Int→List (S33)→Int→Int→List (S33)→Int→Int→Int→Option (Bool)
  | 0,_,_,_,_,_,_,_,_=>none
  | k+1,J,v,L,l,n,E,t,u=>if l<L then(if 0≤l then(if l<(v.length:Int)then(if((rd_T33 v l).f0)=1 then(impl_RingOk.l0 k (wrap64 (J+1)) v L (wrap64 (l+1)) n E t u)else(impl_RingOk.l0 k (wrap64 (J+((rd_T33 v l).f3))) v L (wrap64 (l+1)) n E t u))else(none))else(none))else(some (decide (J≤u)))
end
def impl_RingOk.f (k:Nat) (b:List (S33)) (d:Int) (c:Int) (g:Int):Option (Bool):=if(b.length:Int)>4 then(impl_RingOk.j0 k true b d c g)else((impl_areItems.f k b).bind fun M=>(if M=true then((impl_within.f d 0 5).bind fun O=>(if O=true then((impl_within.f c 0 1000000000).bind fun U=>(if U=true then((impl_within.f g 0 1000000000).bind fun W=>(impl_RingOk.j0 k (!W) b d c g))else(impl_RingOk.j0 k true b d c g)))else(impl_RingOk.j0 k true b d c g)))else(impl_RingOk.j0 k true b d c g)))
set_option maxHeartbeats 8000000 in
set_option maxRecDepth 100000 in
theorem impl_RingOk.calls {k:Nat}{x:Option Addr}{y:Nat}{b:List (S33)}{d:Int}{c:Int}{g:Int}{r:Bool}{w:World}(h:impl_RingOk.f k b d c g=some r)(ae:Kd.C k33 w x b.length b)(af:b.length≤y) :
 Calls Try.prog 18 #[.agg #[.slice x b.length y,.int .i64 d,.int .i64 c,.int .i64 g]] w fun e w'=>e= .returned (.bool r)∧Below w.heap.size w w':=by
 have hu28:=Try.underlying28;have hu33:=Try.underlying33;have HR0_0:=aM ae;have HC0_0:=aM af;clear ae af;have HB:=rW w
 unfold impl_RingOk.f at h;have H:=h
 clear h;have HC2:=aM H;clear H;go_enter Try.func18,Try.ntmps18
 go_upto_region 1 with(first|((with_reducible refine gN 1 ?_);refine boxZ 1 #[.slice x b.length y,.int .i64 d,.int .i64 c,.int .i64 g] 28 ?_;intro ag hg bQ hbox hb;have a:=aM hbox;have GW150:=gS hg;have GE150:=gS hg;replace HB:=sB hb;clear hb hbox hg))
 (try simp only[Act.put,List.setIfInBounds_toArray,List.set_cons_zero,List.set_cons_succ])
 go_cut [33] (fun bp wc=> ∃ (kq:Nat) (G:Bool),bp= .bool G∧Aside0 (impl_RingOk.j0 kq G b d c g=some r)∧Aside0 (kq≤k)∧Aside0 (wc.heap[ag]?=some (.cells #[(.slice x b.length y),.int .i64 d,.int .i64 c,.int .i64 g] 28 (0,0)))∧Aside0 (Below w.heap.size w wc))
 case first=>
  have H:=HC2.out;clear HC2;by_cases j:(b.length:Int)>4
  ·rw[if_pos j]at H;have m:decide (4<(b.length:Int))=true:=decide_eq_true j
   have X:decide (4<b.length)=true:=decide_eq_true (by omega)
   clear j
   (first|rw[m]|(simp only[i64_w,i32_w];rw[m])|skip)
   have H':=aM H;clear H;obtain⟨ah,ai,aj,ak,al,am,an,ao⟩:=cz4 a;go_wp2;go_meet
   case rel=>exact⟨_,(true),rS,H',⟨oL⟩,⟨mK a⟩,⟨cB⟩⟩
  ·rw[if_neg j]at H;have m:decide (4<(b.length:Int))=false:=decide_eq_false j
   have X:decide (4<b.length)=false:=decide_eq_false (by omega)
   clear j
   (first|rw[m]|(simp only[i64_w,i32_w];rw[m])|skip)
   replace H:=bE H;obtain⟨M,I,H⟩:=H;by_cases o:M=true
   ·subst o;replace H:=iT H;replace H:=bE H;obtain⟨O,Y,H⟩:=H;by_cases p:O=true
    ·subst p;replace H:=iT H;replace H:=bE H;obtain⟨U,ap,H⟩:=H;by_cases q:U=true
     ·subst q;replace H:=iT H;replace H:=bE H;obtain⟨W,bq,H⟩:=H;have H':=aM H;clear H;obtain⟨aq,ar,au,av,aw,ax,ay,az⟩:=cz4 a
      go_wp2_with (first|(go_at_call 91;(with_reducible refine(impl_areItems.calls I.out ?side1 ?side2).mono ?_);(case side1=>exact cH HR0_0);(case side2=>exact HC0_0.out);rintro e bR ⟨rfl,hb⟩;replace a:=kB a hb;replace HB:=sB hb;(try clear hb);obtain⟨aA,aB,aC,aD,aE,aF,aG,aH⟩:=cz4 a)|(go_at_call 92;(with_reducible refine(impl_within.calls Y.out).mono ?_);rintro e w' ⟨rfl,⟨nd,rfl⟩⟩)|(go_at_call 92;(with_reducible refine(impl_within.calls ap.out).mono ?_);rintro e w' ⟨rfl,⟨nd,rfl⟩⟩)|(go_at_call 92;(with_reducible refine(impl_within.calls bq.out).mono ?_);rintro e w' ⟨rfl,⟨nd,rfl⟩⟩))
      go_meet
      case rel=>exact⟨_,(!W),rS,H',⟨oL⟩,⟨mK a⟩,⟨cB⟩⟩
     ·replace q:=Bool.eq_false_iff.mpr q;subst q;replace H:=iF H;have H':=aM H;clear H;obtain⟨aI,aJ,aK,aL,aN,aO,aP,aQ⟩:=cz4 a
      go_wp2_with (first|(go_at_call 91;(with_reducible refine(impl_areItems.calls I.out ?side1 ?side2).mono ?_);(case side1=>exact cH HR0_0);(case side2=>exact HC0_0.out);rintro e bS ⟨rfl,hb⟩;replace a:=kB a hb;replace HB:=sB hb;(try clear hb);obtain⟨aR,aS,aT,aU,aV,aW,aX,aY⟩:=cz4 a)|(go_at_call 92;(with_reducible refine(impl_within.calls Y.out).mono ?_);rintro e w' ⟨rfl,⟨nd,rfl⟩⟩)|(go_at_call 92;(with_reducible refine(impl_within.calls ap.out).mono ?_);rintro e w' ⟨rfl,⟨nd,rfl⟩⟩))
      go_meet
      case rel=>exact⟨_,(true),rS,H',⟨oL⟩,⟨mK a⟩,⟨cB⟩⟩
    ·replace p:=Bool.eq_false_iff.mpr p;subst p;replace H:=iF H;have H':=aM H;clear H;obtain⟨aZ,a0,a1,a2,a3,a4,a5,a6⟩:=cz4 a
     go_wp2_with (first|(go_at_call 91;(with_reducible refine(impl_areItems.calls I.out ?side1 ?side2).mono ?_);(case side1=>exact cH HR0_0);(case side2=>exact HC0_0.out);rintro e bT ⟨rfl,hb⟩;replace a:=kB a hb;replace HB:=sB hb;(try clear hb);obtain⟨a7,a8,a9,ba,bb,bd,be,bf⟩:=cz4 a)|(go_at_call 92;(with_reducible refine(impl_within.calls Y.out).mono ?_);rintro e w' ⟨rfl,⟨nd,rfl⟩⟩))
     go_meet
     case rel=>exact⟨_,(true),rS,H',⟨oL⟩,⟨mK a⟩,⟨cB⟩⟩
   ·replace o:=Bool.eq_false_iff.mpr o;subst o;replace H:=iF H;have H':=aM H;clear H;obtain⟨bg,bh,bi,bj,bk,bl,bm,bn⟩:=cz4 a
    go_wp2_with (first|(go_at_call 91;(with_reducible refine(impl_areItems.calls I.out ?side1 ?side2).mono ?_);(case side1=>exact cH HR0_0);(case side2=>exact HC0_0.out);rintro e bU ⟨rfl,hb⟩;replace a:=kB a hb;replace HB:=sB hb;(try clear hb)))
    go_meet
    case rel=>exact⟨_,(true),rS,H',⟨oL⟩,⟨mK a⟩,⟨cB⟩⟩
 case rest=>
  clear HC2;(try clear j);(try clear m);(try clear X);(try clear o);(try clear p);(try clear q);(try clear aq ar au av);(try clear aA aB aC aD);(try clear aI aJ aK aL);(try clear aR aS aT aU);(try clear aZ a0 a1 a2);(try clear a7 a8 a9 ba);(try clear bg bh bi bj);(try clear ah ai aj ak);(try clear aw ax ay az);(try clear aE aF aG aH);(try clear aN aO aP aQ);(try clear aV aW aX aY);(try clear a3 a4 a5 a6);(try clear bb bd be bf);(try clear bk bl bm bn);(try clear al am an ao);obtain⟨kq,G,rfl,HA,HJ1,a,HB⟩:=hcut
  cases kq with
  | zero=>exact absurd HA.out (by simp[impl_RingOk.j0])
  | succ kj1=>
   have H:=HA.out;clear HA;simp only[impl_RingOk.j0]at H;by_cases z:G=true
   ·subst z;replace H:=iT H;obtain rfl:=Option.some.inj H;go_wp2;go_ret;exact⟨rE,cB⟩
   ·replace z:=Bool.eq_false_iff.mpr z;subst z;replace H:=iF H;have H':=aM H;clear H;obtain⟨br,bs,bu,bv,bw,bx,bz,bA⟩:=cz4 a;go_wp2
    go_loopg [3,39] kj1 (fun kq bB bC w'=> ∃ (A:Int) (i:Int),bB= .int .i64 A∧bC= .int .i64 i∧Aside0 (impl_RingOk.l0 kq A b (b.length:Int) i b d c g=some r)∧Aside0 (kq≤kj1)∧Aside0 (w'.heap[ag]?=some (.cells #[(.slice x b.length y),.int .i64 d,.int .i64 c,.int .i64 g] 28 (0,0)))∧Aside0 (Below w.heap.size w w'))
    case atStart=>exact⟨(c),(0),rS,rS,H',⟨Nat.le_refl _⟩,⟨mK a⟩,⟨cB⟩⟩
    case round=>
     clear H';(try clear j);(try clear m);(try clear X);(try clear o);(try clear p);(try clear q);(try clear z);(try clear aq ar au av);(try clear aA aB aC aD);(try clear aI aJ aK aL);(try clear aR aS aT aU);(try clear aZ a0 a1 a2);(try clear a7 a8 a9 ba);(try clear bg bh bi bj);(try clear br bs bu bv);(try clear ah ai aj ak);(try clear aw ax ay az);(try clear aE aF aG aH);(try clear aN aO aP aQ);(try clear aV aW aX aY);(try clear a3 a4 a5 a6);(try clear bb bd be bf);(try clear bk bl bm bn);(try clear bw bx bz bA);(try clear al am an ao);obtain⟨A,i,rfl,rfl,HA,HK2,a,HB⟩:=hrel
     cases gk with
     | zero=>exact absurd HA.out (by simp[impl_RingOk.l0])
     | succ k2=>
      have H:=HA.out;clear HA;simp only[impl_RingOk.l0]at H;by_cases s:i<(b.length:Int)
      ·rw[if_pos s]at H;have bD:=decide_eq_true s;clear s;replace H:=gD H;obtain⟨bV,H⟩:=H;replace H:=gD H;obtain⟨bW,H⟩:=H;by_cases D:((rd_T33 b i).f0)=1
       ·rw[if_pos D]at H;obtain⟨bF,bG⟩:=eT D;clear D;have H':=aM H;clear H;obtain⟨bH,bI,bJ,aa,bL,bM,bN,bO⟩:=b4 HB (at_T33 HR0_0.out i);cases aa
        go_wp2_with (first|((with_reducible refine gN 5 ?_);refine boxZ 5 #[.int .i64 0,.int .i64 0,.int .i64 0,.int .i64 0] 33 ?_;intro bP hg bX hbox hb;have ab:=aM hbox;have GW156:=gS hg;have GE156:=gS hg;replace HB:=sB hb;have ac:=nL hg a;have ad:=nG hg a;replace a:=kB a hb;clear hb hbox hg;have hnb31:=ad.out;have hnc31:=ac.out;obtain⟨bY,bZ,b0,b1,b5,b8,b9,ca⟩:=cz4 ab))
        go_roundg k2
        case measure=>have:=HJ1.out;have:=HK2.out;omega
        case rel=>exact⟨(wrap64 (A+1)),(wrap64 (i+1)),rS,rS,H',⟨by have:=HJ1.out;have:=HK2.out;omega⟩,⟨mK a⟩,⟨cB⟩⟩
       ·rw[if_neg D]at H;obtain⟨bF,bG⟩:=eF D;have H':=aM H;clear H;obtain⟨bH,bI,bJ,aa,bL,bM,bN,bO⟩:=b4 HB (at_T33 HR0_0.out i);cases aa
        go_wp2_with (first|((with_reducible refine gN 5 ?_);refine boxZ 5 #[.int .i64 0,.int .i64 0,.int .i64 0,.int .i64 0] 33 ?_;intro bP hg cb hbox hb;have ab:=aM hbox;have GW156:=gS hg;have GE156:=gS hg;replace HB:=sB hb;have ac:=nL hg a;have ad:=nG hg a;replace a:=kB a hb;clear hb hbox hg;have hnb34:=ad.out;have hnc34:=ac.out;obtain⟨cc,cd,ce,cf,cg,ch,ci,cj⟩:=cz4 ab))
        go_roundg k2
        case measure=>have:=HJ1.out;have:=HK2.out;omega
        case rel=>exact⟨(wrap64 (A+((rd_T33 b i).f3))),(wrap64 (i+1)),rS,rS,H',⟨by have:=HJ1.out;have:=HK2.out;omega⟩,⟨mK a⟩,⟨cB⟩⟩
      ·rw[if_neg s]at H;have bD:=decide_eq_false s;clear s;obtain rfl:=Option.some.inj H;obtain⟨ck,cl,cm,cn,co,cp,cq,cr⟩:=cz4 a;go_wp2;go_ret;exact⟨rE,cB⟩
end Go.Proofs.Ytlgndgjbfjefpaa.PFnRingsTold
