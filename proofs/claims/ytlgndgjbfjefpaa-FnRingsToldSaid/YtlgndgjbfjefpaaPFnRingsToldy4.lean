import Derived.Test.YtlgndgjbfjefpaaPFnRingsToldy0
import Derived.Test.YtlgndgjbfjefpaaPFnRingsToldy2
import Derived.Test.YtlgndgjbfjefpaaPFnRingsToldy3
namespace Go.Proofs.Ytlgndgjbfjefpaa.PFnRingsTold
open Go.RowKit Go.Proofs.YtlgndgjbfjefpaaW.PrintWords Go.Proofs.YtlgndgjbfjefpaaW.PrintLast Go.Proofs.YtlgndgjbfjefpaaW.PrintMore Go.Proofs.YtlgndgjbfjefpaaW.Z
open Kd
attribute [local go_sem] isS max2_int min2_int max_two min_two max_three min_three max_four min_four
set_option linter.unusedVariables false
set_option linter.unusedSimpArgs false
mutual
def impl_Offered.j0:Nat→Int→Int→Bool→List (S33)→Int→Int→Int→List (S33)→Int→Int→Int→Option ((List (S33))×Int×Int×Int×Bool)
  | 0,_,_,_,_,_,_,_,_,_,_,_=>none
  | k+1,L,M,cw,U,W,I,ae,x,E,J,G=>if cw=true then(some (x,E,J,G,false))else(if I>0 then(impl_Offered.j1 k L M 2 U W I ae x E J (wrap64 (G+1)))else(impl_Offered.j1 k L M 1 U W I ae x E J (wrap64 (G+1))))
def impl_Offered.j1:Nat→Int→Int→Int→List (S33)→Int→Int→Int→List (S33)→Int→Int→Int→Option ((List (S33))×Int×Int×Int×Bool)
  | 0,_,_,_,_,_,_,_,_,_,_,_=>none
  | k+1,L,M,cx,U,W,I,ae,x,E,J,G=>if W=0 then(impl_Offered.j2 k L M true U W I ae x E J G)else(impl_Offered.j2 k L M (decide ((wrap64 ((U.length:Int)+cx))>4)) U W I ae x E J G)
def impl_Offered.j2:Nat→Int→Int→Bool→List (S33)→Int→Int→Int→List (S33)→Int→Int→Int→Option ((List (S33))×Int×Int×Int×Bool)
  | 0,_,_,_,_,_,_,_,_,_,_,_=>none
  | k+1,L,M,cy,U,W,I,ae,x,E,J,G=>if cy=true then(some (x,E,wrap64 (J+1),G,false))else(if I>0 then(if x.length<4398046511104 then((some (x ++ [(⟨2,0,0,I⟩ :S33)] :List (S33))).bind fun X=>(if X.length<4398046511104 then(some ((X ++ [(⟨1,L,M,0⟩ :S33)]),wrap64 (E - 1),0,G,true))else(none)))else(none))else(if x.length<4398046511104 then(some ((x ++ [(⟨1,L,M,0⟩ :S33)]),wrap64 (E - 1),J,G,true))else(none)))
end
def impl_Offered.f (k:Nat) (i:List (S33)) (o:Int) (d:Int) (m:Int) (j:Int) (l:Int):Option ((List (S33))×Int×Int×Int×Bool):=(impl_copyRing.f i o d m).bind fun r=>((impl_RingOk.f k i o d m).bind fun av=>(if av=true then((impl_HalfOk.f j).bind fun aw=>(if aw=true then((impl_HalfOk.f l).bind fun ax=>(if ax=true then(impl_Offered.j0 k j l (m == 1000000000) i o d m r.1 r.2.1 r.2.2.1 r.2.2.2)else(impl_Offered.j0 k j l true i o d m r.1 r.2.1 r.2.2.1 r.2.2.2)))else(impl_Offered.j0 k j l true i o d m r.1 r.2.1 r.2.2.1 r.2.2.2)))else(impl_Offered.j0 k j l true i o d m r.1 r.2.1 r.2.2.1 r.2.2.2)))
set_option maxHeartbeats 8000000 in
set_option maxRecDepth 100000 in
theorem impl_Offered.calls {k:Nat}{af:Option Addr}{ag:Nat}{i:List (S33)}{o:Int}{d:Int}{m:Int}{j:Int}{l:Int}{r1:List (S33)}{r2:Int}{r3:Int}{r4:Int}{r5:Bool}{w:World}(h:impl_Offered.f k i o d m j l=some (r1,r2,r3,r4,r5))(bG:Kd.C k33 w af i.length i)(bH:i.length≤ag) :
 Calls Try.prog 17 #[.agg #[.slice af i.length ag,.int .i64 o,.int .i64 d,.int .i64 m],.int .i64 j,.int .i64 l] w fun e w'=> ∃ v0_:Value,e= .returned (.tuple #[.agg #[v0_,.int .i64 r2,.int .i64 r3,.int .i64 r4],.bool r5])∧Kd.R k33 33 w' w.heap.size (fun _=>True) v0_ r1∧Below w.heap.size w w':=by
 have hu28:=Try.underlying28;have hu33:=Try.underlying33;have HR0_0:=aM bG;have HC0_0:=aM bH;clear bG bH;have HB:=rW w
 unfold impl_Offered.f at h;have H:=h
 clear h;replace H:=bE H;obtain⟨⟨g,p,u,q⟩,cz,H⟩:=H;(try dsimp only at H);have HC5:=aM H;clear H;go_enter Try.func17,Try.ntmps17
 go_upto_region 2 with(first|((with_reducible refine gN 3 ?_);(try(refine gate_guard (by rfl) ?_;dsimp only));refine boxZ 3 #[.slice af i.length ag,.int .i64 o,.int .i64 d,.int .i64 m] 28 ?_;intro ay hg dk hbox hb;have a:=aM hbox;have GW157:=gS hg;have GE157:=gS hg;replace HB:=sB hb;clear hb hbox hg)|((with_reducible refine gN 6 ?_);(try(refine gate_guard (by rfl) ?_;dsimp only));refine boxZ 6 #[.slice none 0 0,.int .i64 0,.int .i64 0,.int .i64 0] 28 ?_;intro Y hg dl hbox hb;have c:=aM hbox;have GW158:=gS hg;have GE158:=gS hg;replace HB:=sB hb;have y:=nL hg a;have z:=nG hg a;replace a:=kB a hb;clear hb hbox hg;have hnb8:=y.out;have hnc8:=z.out;obtain⟨az,aA,aC,aD,aE,aG,aH,aI⟩:=cz4 a)|((with_reducible refine gF 88 ?_);refine gY (some 11) Try.func88 (impl_copyRing.calls cz.out (cH HR0_0) HC0_0.out) ?_;rintro dm dn ⟨bI,hb⟩;have v:=rL bI;replace a:=kB a hb;replace c:=kB c hb;replace HB:=sB hb;(try clear hb);(try clear bI))|((with_reducible refine gN 8 ?_);(try(refine gate_guard (by rfl) ?_;dsimp only));refine boxZ 8 #[.slice none 0 0,.int .i64 0,.int .i64 0,.int .i64 0] 28 ?_;intro aJ hg dp hbox hb;replace v:=rB v hb;have b:=aM hbox;have GW165:=gS hg;have GE165:=gS hg;replace HB:=sB hb;have A:=nL hg a;have D:=nG hg a;replace a:=kB a hb;have ah:=nL hg c;have ai:=nG hg c;replace c:=kB c hb;clear hb hbox hg;obtain⟨s,t,cA⟩:=R_slice v.out;subst cA;have hnb13:=D.out;have hnc13:=A.out;have hnb14:=ai.out;have hnc14:=ah.out;obtain⟨aK,aN,aQ,aR,aT,aU,aV,aW⟩:=cz4 b))
 (try simp only[Act.put,List.setIfInBounds_toArray,List.set_cons_zero,List.set_cons_succ])
 go_cut [29] (fun cD wc=> ∃ (kq:Nat) (ao:Bool),cD= .bool ao∧Aside0 (impl_Offered.j0 kq j l ao i o d m g p u q=some (r1,r2,r3,r4,r5))∧Aside0 (kq≤k)∧Aside0 (Kd.R k33 33 wc w.heap.size (fun _=>True) (.slice s g.length t) g)∧Aside0 (wc.heap[ay]?=some (.cells #[(.slice af i.length ag),.int .i64 o,.int .i64 d,.int .i64 m] 28 (0,0)))∧Aside0 (wc.heap[Y]?=some (.cells #[(.slice none 0 0),.int .i64 0,.int .i64 0,.int .i64 0] 28 (0,0)))∧Aside0 (wc.heap[aJ]?=some (.cells #[(.slice s g.length t),.int .i64 p,.int .i64 u,.int .i64 q] 28 (0,0)))∧Aside0 (Below w.heap.size w wc))
 case first=>
  have H:=HC5.out;clear HC5;replace H:=bE H;obtain⟨av,ap,H⟩:=H;by_cases aa:av=true
  ·subst aa;replace H:=iT H;replace H:=bE H;obtain⟨aw,aX,H⟩:=H;by_cases ab:aw=true
   ·subst ab;replace H:=iT H;replace H:=bE H;obtain⟨ax,bJ,H⟩:=H;by_cases ac:ax=true
    ·subst ac;replace H:=iT H;have H':=aM H;clear H;have hnb22:=y.out;have hnc22:=z.out;have hnb23:=A.out;have hnc23:=D.out;obtain⟨aY,aZ,a0,a1,a2,a3,a4,a5⟩:=cz4 a
     go_wp2_with (first|((with_reducible refine gF 18 ?_);refine gX (some 13) Try.func18 (impl_RingOk.calls ap.out (C_below HR0_0.out cB) HC0_0.out) ?_;intro dq hb;replace v:=aM (R_below (by(with_reducible repeat(first|apply R_alloc|apply R_drewN|apply R_drew));exact(fR (R_types v.out b.out (by decide)) (fun _ h_=>h_.1))) hb);replace a:=kB a hb;replace c:=kB c hb;replace b:=kP b hb (.cells #[.slice s g.length t,.int .i64 p,.int .i64 u,.int .i64 q] 28 (0,0));replace HB:=sB hb;(try clear hb))|(go_at_call 90;(with_reducible refine(impl_HalfOk.calls aX.out).mono ?_);rintro e w' ⟨rfl,⟨nd,rfl⟩⟩)|(go_at_call 90;(with_reducible refine(impl_HalfOk.calls bJ.out).mono ?_);rintro e w' ⟨rfl,⟨nd,rfl⟩⟩;obtain⟨a6,a7,a8,a9,ba,bb,bd,be⟩:=cz4 a))
     go_meet
     case rel=>exact⟨_,((m == 1000000000)),rS,H',⟨oL⟩,⟨mR v⟩,⟨mK a⟩,⟨mK c⟩,⟨mK b⟩,⟨cB⟩⟩
    ·replace ac:=Bool.eq_false_iff.mpr ac;subst ac;replace H:=iF H;have H':=aM H;clear H;have hnb27:=y.out;have hnc27:=z.out;have hnb28:=A.out;have hnc28:=D.out;obtain⟨bf,bg,bh,bi,bj,bk,bl,bm⟩:=cz4 a
     go_wp2_with (first|((with_reducible refine gF 18 ?_);refine gX (some 13) Try.func18 (impl_RingOk.calls ap.out (C_below HR0_0.out cB) HC0_0.out) ?_;intro dr hb;replace v:=aM (R_below (by(with_reducible repeat(first|apply R_alloc|apply R_drewN|apply R_drew));exact(fR (R_types v.out b.out (by decide)) (fun _ h_=>h_.1))) hb);replace a:=kB a hb;replace c:=kB c hb;replace b:=kP b hb (.cells #[.slice s g.length t,.int .i64 p,.int .i64 u,.int .i64 q] 28 (0,0));replace HB:=sB hb;(try clear hb))|(go_at_call 90;(with_reducible refine(impl_HalfOk.calls aX.out).mono ?_);rintro e w' ⟨rfl,⟨nd,rfl⟩⟩)|(go_at_call 90;(with_reducible refine(impl_HalfOk.calls bJ.out).mono ?_);rintro e w' ⟨rfl,⟨nd,rfl⟩⟩))
     go_meet
     case rel=>exact⟨_,(true),rS,H',⟨oL⟩,⟨mR v⟩,⟨mK a⟩,⟨mK c⟩,⟨mK b⟩,⟨cB⟩⟩
   ·replace ab:=Bool.eq_false_iff.mpr ab;subst ab;replace H:=iF H;have H':=aM H;clear H;have hnb31:=y.out;have hnc31:=z.out;have hnb32:=A.out;have hnc32:=D.out;obtain⟨bn,bo,bp,bq,br,bs,bu,bv⟩:=cz4 a
    go_wp2_with (first|((with_reducible refine gF 18 ?_);refine gX (some 13) Try.func18 (impl_RingOk.calls ap.out (C_below HR0_0.out cB) HC0_0.out) ?_;intro ds hb;replace v:=aM (R_below (by(with_reducible repeat(first|apply R_alloc|apply R_drewN|apply R_drew));exact(fR (R_types v.out b.out (by decide)) (fun _ h_=>h_.1))) hb);replace a:=kB a hb;replace c:=kB c hb;replace b:=kP b hb (.cells #[.slice s g.length t,.int .i64 p,.int .i64 u,.int .i64 q] 28 (0,0));replace HB:=sB hb;(try clear hb))|(go_at_call 90;(with_reducible refine(impl_HalfOk.calls aX.out).mono ?_);rintro e w' ⟨rfl,⟨nd,rfl⟩⟩))
    go_meet
    case rel=>exact⟨_,(true),rS,H',⟨oL⟩,⟨mR v⟩,⟨mK a⟩,⟨mK c⟩,⟨mK b⟩,⟨cB⟩⟩
  ·replace aa:=Bool.eq_false_iff.mpr aa;subst aa;replace H:=iF H;have H':=aM H;clear H;have hnb35:=y.out;have hnc35:=z.out;have hnb36:=A.out;have hnc36:=D.out;obtain⟨bw,bx,bz,bA,bB,bC,bD,bF⟩:=cz4 a
   go_wp2_with (first|((with_reducible refine gF 18 ?_);refine gX (some 13) Try.func18 (impl_RingOk.calls ap.out (C_below HR0_0.out cB) HC0_0.out) ?_;intro dt hb;replace v:=aM (R_below (by(with_reducible repeat(first|apply R_alloc|apply R_drewN|apply R_drew));exact(fR (R_types v.out b.out (by decide)) (fun _ h_=>h_.1))) hb);replace a:=kB a hb;replace c:=kB c hb;replace b:=kP b hb (.cells #[.slice s g.length t,.int .i64 p,.int .i64 u,.int .i64 q] 28 (0,0));replace HB:=sB hb;(try clear hb)))
   go_meet
   case rel=>exact⟨_,(true),rS,H',⟨oL⟩,⟨mR v⟩,⟨mK a⟩,⟨mK c⟩,⟨mK b⟩,⟨cB⟩⟩
 case rest=>
  clear HC5;(try clear aa);(try clear ab);(try clear ac);(try clear aK aN aQ aR);(try clear aY aZ a0 a1);(try clear a6 a7 a8 a9);(try clear bf bg bh bi);(try clear bn bo bp bq);(try clear bw bx bz bA);(try clear az aA aC aD);(try clear aT aU aV aW);(try clear a2 a3 a4 a5);(try clear ba bb bd be);(try clear bj bk bl bm);(try clear br bs bu bv);(try clear bB bC bD bF);(try clear aE aG aH aI);obtain⟨kq,ao,rfl,HA,HJ4,n,a,c,b,HB⟩:=hcut
  cases kq with
  | zero=>exact absurd HA.out (by simp[impl_Offered.j0])
  | succ kj4=>
   have H:=HA.out;clear HA;simp only[impl_Offered.j0]at H;by_cases aj:ao=true
   ·subst aj;replace H:=iT H;simp only[Option.some.injEq,Prod.mk.injEq]at H;obtain⟨rfl,rfl,rfl,rfl,rfl⟩:=H;have hnb40:=D.out;have hnc40:=A.out;have hnb41:=ai.out;have hnc41:=ah.out;obtain⟨bL,bM,bN,bO,bP,bQ,bR,bS⟩:=cz4 b;have hnb43:=z.out;have hnc43:=y.out;obtain⟨bT,bU,bV,bW,bX,bY,bZ,b0⟩:=cz4 c;go_wp2
    refine bodyPost_ret (results_ct rfl _ _ Y 28 #[.slice s g.length t,.int .i64 p,.int .i64 u,.int .i64 q] (0,0) _ rfl (kS c _) Try.underlying28 rfl (by kernel_rfl)) rfl ?_
    exact⟨_,rE,fR (R_types n.out c.out (by decide)) (fun _ hk=>trivial),cB⟩
   ·replace aj:=Bool.eq_false_iff.mpr aj;subst aj;replace H:=iF H;have HC45:=aM H;clear H;have hnb46:=D.out;have hnc46:=A.out;have hnb47:=ai.out;have hnc47:=ah.out;obtain⟨b1,b5,b8,b9,ca,cb,cc,cd⟩:=cz4 b;have hnb49:=y.out;have hnc49:=z.out;obtain⟨ce,cf,cg,ch,ci,cj,ck,cl⟩:=cz4 a
    go_upto_if 37 with(fail)
    go_cut [9] (fun cE wc=> ∃ (kq:Nat) (aq:Int),cE= .int .i64 aq∧Aside0 (impl_Offered.j1 kq j l aq i o d m g p u (wrap64 (q+1))=some (r1,r2,r3,r4,r5))∧Aside0 (kq≤kj4)∧Aside0 (Kd.R k33 33 wc w.heap.size (fun _=>True) (.slice s g.length t) g)∧Aside0 (wc.heap[ay]?=some (.cells #[(.slice af i.length ag),.int .i64 o,.int .i64 d,.int .i64 m] 28 (0,0)))∧Aside0 (wc.heap[Y]?=some (.cells #[(.slice none 0 0),.int .i64 0,.int .i64 0,.int .i64 0] 28 (0,0)))∧Aside0 (wc.heap[aJ]?=some (.cells #[(.slice s g.length t),.int .i64 p,.int .i64 u,.int .i64 (wrap64 (q+1))] 28 (0,0)))∧Aside0 (Below w.heap.size w wc))
    case first=>
     have H:=HC45.out;clear HC45;by_cases O:d>0
     ·rw[if_pos O]at H;have ad:decide (0<d)=true:=decide_eq_true O;clear O
      (first|rw[ad]|(simp only[i64_w,i32_w];rw[ad])|skip)
      have H':=aM H;clear H;go_wp2;go_meet
      case rel=>exact⟨_,(2),rS,H',⟨by have:=HJ4.out;first|omega|exact Nat.le_refl _⟩,⟨fR (R_types n.out b.out (by decide)) (fun _ hk=>trivial)⟩,⟨mK a⟩,⟨mK c⟩,⟨kS b _⟩,⟨cB⟩⟩
     ·rw[if_neg O]at H;have ad:decide (0<d)=false:=decide_eq_false O;clear O
      (first|rw[ad]|(simp only[i64_w,i32_w];rw[ad])|skip)
      have H':=aM H;clear H;go_wp2;go_meet
      case rel=>exact⟨_,(1),rS,H',⟨by have:=HJ4.out;first|omega|exact Nat.le_refl _⟩,⟨fR (R_types n.out b.out (by decide)) (fun _ hk=>trivial)⟩,⟨mK a⟩,⟨mK c⟩,⟨kS b _⟩,⟨cB⟩⟩
    case rest=>
     clear HC45;(try clear aa);(try clear ab);(try clear ac);(try clear aj);(try clear O);(try clear ad);(try clear aK aN aQ aR);(try clear aY aZ a0 a1);(try clear a6 a7 a8 a9);(try clear bf bg bh bi);(try clear bn bo bp bq);(try clear bw bx bz bA);(try clear bL bM bN bO);(try clear bT bU bV bW);(try clear b1 b5 b8 b9);(try clear ce cf cg ch);(try clear az aA aC aD);(try clear aT aU aV aW);(try clear a2 a3 a4 a5);(try clear ba bb bd be);(try clear bj bk bl bm);(try clear br bs bu bv);(try clear bB bC bD bF);(try clear bP bQ bR bS);(try clear bX bY bZ b0);(try clear ca cb cc cd);(try clear ci cj ck cl);(try clear aE aG aH aI);obtain⟨kq,aq,rfl,HA,HJ44,n,a,c,b,HB⟩:=hcut
     cases kq with
     | zero=>exact absurd HA.out (by simp[impl_Offered.j1])
     | succ kj44=>
      have H:=HA.out;clear HA;simp only[impl_Offered.j1]at H;have HC52:=aM H;clear H
      go_upto_region 8 with(fail)
      go_cut [48] (fun cF wc=> ∃ (kq:Nat) (ar:Bool),cF= .bool ar∧Aside0 (impl_Offered.j2 kq j l ar i o d m g p u (wrap64 (q+1))=some (r1,r2,r3,r4,r5))∧Aside0 (kq≤kj44)∧Aside0 (Kd.R k33 33 wc w.heap.size (fun _=>True) (.slice s g.length t) g)∧Aside0 (wc.heap[ay]?=some (.cells #[(.slice af i.length ag),.int .i64 o,.int .i64 d,.int .i64 m] 28 (0,0)))∧Aside0 (wc.heap[Y]?=some (.cells #[(.slice none 0 0),.int .i64 0,.int .i64 0,.int .i64 0] 28 (0,0)))∧Aside0 (wc.heap[aJ]?=some (.cells #[(.slice s g.length t),.int .i64 p,.int .i64 u,.int .i64 (wrap64 (q+1))] 28 (0,0)))∧Aside0 (Below w.heap.size w wc))
      case first=>
       have H:=HC52.out;clear HC52;by_cases ak:o=0
       ·rw[if_pos ak]at H;obtain⟨al,cm⟩:=eT ak;clear ak
        (first|rw[al]|(simp only[i64_w,i32_w];rw[al])|skip)
        have H':=aM H;clear H;have hnb54:=y.out;have hnc54:=z.out;have hnb55:=A.out;have hnc55:=D.out;obtain⟨cG,cI,cJ,cL,cM,cN,cO,cP⟩:=cz4 a;go_wp2;go_meet
        case rel=>exact⟨_,(true),rS,H',⟨by have:=HJ4.out;have:=HJ44.out;first|omega|exact Nat.le_refl _⟩,⟨mR n⟩,⟨mK a⟩,⟨mK c⟩,⟨mK b⟩,⟨cB⟩⟩
       ·rw[if_neg ak]at H;obtain⟨al,cm⟩:=eF ak
        (first|rw[al]|(simp only[i64_w,i32_w];rw[al])|skip)
        have H':=aM H;clear H;have hnb57:=y.out;have hnc57:=z.out;have hnb58:=A.out;have hnc58:=D.out;obtain⟨cQ,cR,cS,cT,cU,cV,cW,cX⟩:=cz4 a;go_wp2;go_meet
        case rel=>exact⟨_,(decide ((wrap64 ((i.length:Int)+aq))>4)),rS,H',⟨by have:=HJ4.out;have:=HJ44.out;first|omega|exact Nat.le_refl _⟩,⟨mR n⟩,⟨mK a⟩,⟨mK c⟩,⟨mK b⟩,⟨cB⟩⟩
      case rest=>
       clear HC52;(try clear aa);(try clear ab);(try clear ac);(try clear aj);(try clear O);(try clear ad);(try clear ak);(try clear al);(try clear cm);(try clear aK aN aQ aR);(try clear aY aZ a0 a1);(try clear a6 a7 a8 a9);(try clear bf bg bh bi);(try clear bn bo bp bq);(try clear bw bx bz bA);(try clear bL bM bN bO);(try clear bT bU bV bW);(try clear b1 b5 b8 b9);(try clear ce cf cg ch);(try clear cG cI cJ cL);(try clear cQ cR cS cT);(try clear az aA aC aD);(try clear aT aU aV aW);(try clear a2 a3 a4 a5);(try clear ba bb bd be);(try clear bj bk bl bm);(try clear br bs bu bv);(try clear bB bC bD bF);(try clear bP bQ bR bS);(try clear bX bY bZ b0);(try clear ca cb cc cd);(try clear ci cj ck cl);(try clear cM cN cO cP);(try clear cU cV cW cX);(try clear aE aG aH aI);obtain⟨kq,ar,rfl,HA,HJ51,n,a,c,b,HB⟩:=hcut
       cases kq with
       | zero=>exact absurd HA.out (by simp[impl_Offered.j2])
       | succ kj51=>
        have H:=HA.out;clear HA;simp only[impl_Offered.j2]at H;by_cases au:ar=true
        ·subst au;replace H:=iT H;simp only[Option.some.injEq,Prod.mk.injEq]at H;obtain⟨rfl,rfl,rfl,rfl,rfl⟩:=H;have hnb61:=D.out;have hnc61:=A.out;have hnb62:=ai.out;have hnc62:=ah.out;obtain⟨du,dv,dw,dx,dy,dz,dC,dD⟩:=cz4 b;have hnb64:=z.out;have hnc64:=y.out;obtain⟨dE,dF,dG,dH,dI,dJ,dK,dL⟩:=cz4 c;go_wp2
         refine bodyPost_ret (results_ct rfl _ _ Y 28 #[.slice s g.length t,.int .i64 p,.int .i64 (wrap64 (u+1)),.int .i64 (wrap64 (q+1))] (0,0) _ rfl (kS c _) Try.underlying28 rfl (by kernel_rfl)) rfl ?_
         exact⟨_,rE,fR (R_types (R_types n.out b.out (by decide)) c.out (by decide)) (fun _ hk=>trivial),cB⟩
        ·replace au:=Bool.eq_false_iff.mpr au;subst au;replace H:=iF H;by_cases am:d>0
         ·rw[if_pos am]at H;have cY:decide (0<d)=true:=decide_eq_true am;clear am;replace H:=gC H;obtain⟨cn,H⟩:=H;have cZ:=aM cn;clear cn;replace H:=nE H;obtain⟨X,c0,H⟩:=H;replace H:=gC H;obtain⟨co,H⟩:=H;have c1:=aM co;clear co;obtain⟨da,cp⟩ : ∃ y_:List (S33),Aside0 (y_=(X ++ [(⟨1,j,l,0⟩ :S33)])):=⟨_,⟨rfl⟩⟩;rw[← cp.out]at H;simp only[Option.some.injEq,Prod.mk.injEq]at H;obtain⟨rfl,rfl,rfl,rfl,rfl⟩:=H;have hnb69:=D.out;have hnc69:=A.out;have hnb70:=ai.out;have hnc70:=ah.out;obtain⟨dM,dN,dO,dP,dQ,dS,dT,dU⟩:=cz4 b;have hnb72:=y.out;have hnc72:=z.out;obtain⟨dV,dX,dY,dZ,d0,d1,d2,d3⟩:=cz4 a
          go_wp2_with (first|((with_reducible refine gA 62 66 ?_);(try(refine gate_guard (by rfl) ?_;dsimp only));at_builtin;refine R_append k33 (w0:=w) w.heap.size rfl (.tmp 62) (.tmp 66) 26 33 (.agg #[(.int .i64 0),(.int .i64 0),(.int .i64 0),(.int .i64 0)]) 32 rfl Try.underlying26 info33 rfl (by decide) (by omega) (.slice s g.length t) g (⟨2,0,0,d⟩ :S33) [.int .i64 2,.int .i64 0,.int .i64 0,.int .i64 d] (fun _=>True) (fun _=>False) rfl (by first|(go_simp;done)|(go_simp;rfl)) ?aP (fun _ hk=>hk.elim) ?aF ?aO ?aB ?aS ?aL ?_;(case aP=>exact k33_mkM _ _ _ (⟨2,0,0,d⟩ :S33));(case aB=>exact cB);(case aF=>exact(fun _ _=>trivial));(case aO=>exact(fR (R_types n.out b.out (by decide)) (fun _ hk=>trivial)));(case aS=>exact(below_size cB));(case aL=>have:=cZ.out;omega);intro d4 d5 ho hb hg hat;rw[← c0.out]at ho;replace a:=kN a hg n a;replace c:=kN c hg n c;replace b:=kG b hg (R_ne n.out b.out (by decide)) (.cells #[.slice s g.length t,.int .i64 (wrap64 (p - 1)),.int .i64 u,.int .i64 (wrap64 (q+1))] 28 (0,0));replace HB:=aM hb;have an:=aM ho;clear n ho hb hg hat;obtain⟨cq,cr,db⟩:=R_slice an.out;subst db;obtain⟨d6,d7,d8,d9,ea,eb,ec,ed⟩:=cz4 b)|((with_reducible refine gA 71 75 ?_);(try(refine gate_guard (by rfl) ?_;dsimp only));at_builtin;refine R_append k33 (w0:=w) w.heap.size rfl (.tmp 71) (.tmp 75) 26 33 (.agg #[(.int .i64 0),(.int .i64 0),(.int .i64 0),(.int .i64 0)]) 32 rfl Try.underlying26 info33 rfl (by decide) (by omega) (.slice cq X.length cr) X (⟨1,j,l,0⟩ :S33) [.int .i64 1,.int .i64 j,.int .i64 l,.int .i64 0] (fun _=>True) (fun _=>False) rfl (by first|(go_simp;done)|(go_simp;rfl)) ?aP (fun _ hk=>hk.elim) ?aF ?aO ?aB ?aS ?aL ?_;(case aP=>exact k33_mkM _ _ _ (⟨1,j,l,0⟩ :S33));(case aB=>exact cB);(case aF=>exact(fun _ _=>trivial));(case aO=>exact(fR (R_types an.out b.out (by decide)) (fun _ hk=>trivial)));(case aS=>exact(below_size cB));(case aL=>have:=c1.out;omega);intro ee ef ho hb hg hat;rw[← cp.out]at ho;replace a:=kN a hg an a;replace c:=kN c hg an c;replace b:=kG b hg (R_ne an.out b.out (by decide)) (.cells #[.slice cq X.length cr,.int .i64 (wrap64 (p - 1)),.int .i64 0,.int .i64 (wrap64 (q+1))] 28 (0,0));replace HB:=aM hb;have cs:=aM ho;clear an ho hb hg hat;obtain⟨dc,dd,de⟩:=R_slice cs.out;subst de;obtain⟨eg,eh,ei,ej,ek,el,em,en⟩:=cz4 b;obtain⟨eo,ep,eq,er,es,et,eu,ev⟩:=cz4 c))
          refine bodyPost_ret (results_ct rfl _ _ Y 28 #[.slice dc da.length dd,.int .i64 (wrap64 (p - 1)),.int .i64 0,.int .i64 (wrap64 (q+1))] (0,0) _ rfl (kS c _) Try.underlying28 rfl (by kernel_rfl)) rfl ?_
          exact⟨_,rE,fR (R_types (R_types cs.out b.out (by decide)) c.out (by decide)) (fun _ hk=>trivial),cB⟩
         ·rw[if_neg am]at H;have cY:decide (0<d)=false:=decide_eq_false am;clear am;replace H:=gC H;obtain⟨ct,H⟩:=H;have df:=aM ct;clear ct;obtain⟨dg,cu⟩ : ∃ y_:List (S33),Aside0 (y_=(g ++ [(⟨1,j,l,0⟩ :S33)])):=⟨_,⟨rfl⟩⟩;rw[← cu.out]at H;simp only[Option.some.injEq,Prod.mk.injEq]at H;obtain⟨rfl,rfl,rfl,rfl,rfl⟩:=H;have hnb82:=D.out;have hnc82:=A.out;have hnb83:=ai.out;have hnc83:=ah.out;obtain⟨ew,ex,ey,ez,eA,eC,eD,eE⟩:=cz4 b;have hnb85:=y.out;have hnc85:=z.out;obtain⟨eG,eH,eI,eJ,eK,eL,eM,eN⟩:=cz4 a
          go_wp2_with (first|((with_reducible refine gA 71 75 ?_);(try(refine gate_guard (by rfl) ?_;dsimp only));at_builtin;refine R_append k33 (w0:=w) w.heap.size rfl (.tmp 71) (.tmp 75) 26 33 (.agg #[(.int .i64 0),(.int .i64 0),(.int .i64 0),(.int .i64 0)]) 32 rfl Try.underlying26 info33 rfl (by decide) (by omega) (.slice s g.length t) g (⟨1,j,l,0⟩ :S33) [.int .i64 1,.int .i64 j,.int .i64 l,.int .i64 0] (fun _=>True) (fun _=>False) rfl (by first|(go_simp;done)|(go_simp;rfl)) ?aP (fun _ hk=>hk.elim) ?aF ?aO ?aB ?aS ?aL ?_;(case aP=>exact k33_mkM _ _ _ (⟨1,j,l,0⟩ :S33));(case aB=>exact cB);(case aF=>exact(fun _ _=>trivial));(case aO=>exact(fR (R_types n.out b.out (by decide)) (fun _ hk=>trivial)));(case aS=>exact(below_size cB));(case aL=>have:=df.out;omega);intro eO eP ho hb hg hat;rw[← cu.out]at ho;replace a:=kN a hg n a;replace c:=kN c hg n c;replace b:=kG b hg (R_ne n.out b.out (by decide)) (.cells #[.slice s g.length t,.int .i64 (wrap64 (p - 1)),.int .i64 u,.int .i64 (wrap64 (q+1))] 28 (0,0));replace HB:=aM hb;have cv:=aM ho;clear n ho hb hg hat;obtain⟨dh,di,dj⟩:=R_slice cv.out;subst dj;obtain⟨eQ,eR,eS,eU,eW,eZ,e0,e1⟩:=cz4 b;obtain⟨e2,e3,e4,e5,e6,e7,e8,e9⟩:=cz4 c))
          refine bodyPost_ret (results_ct rfl _ _ Y 28 #[.slice dh dg.length di,.int .i64 (wrap64 (p - 1)),.int .i64 u,.int .i64 (wrap64 (q+1))] (0,0) _ rfl (kS c _) Try.underlying28 rfl (by kernel_rfl)) rfl ?_
          exact⟨_,rE,fR (R_types (R_types cv.out b.out (by decide)) c.out (by decide)) (fun _ hk=>trivial),cB⟩
end Go.Proofs.Ytlgndgjbfjefpaa.PFnRingsTold
