import Derived.Test.YtlgndgjbfjefpaaPFnCondsy0
import Derived.Test.YtlgndgjbfjefpaaPFnCondsy2
namespace Go.Proofs.Ytlgndgjbfjefpaa.PFnConds
open Go.RowKit Go.Proofs.YtlgndgjbfjefpaaW.PrintWords Go.Proofs.YtlgndgjbfjefpaaW.PrintLast Go.Proofs.YtlgndgjbfjefpaaW.PrintMore Go.Proofs.YtlgndgjbfjefpaaW.Z
open Kd
attribute [local go_sem] isS max2_int min2_int max_two min_two max_three min_three max_four min_four
set_option linter.unusedVariables false
set_option linter.unusedSimpArgs false
def impl_CallOk.l0:Nat→List (S48)→Int→Int→Int→Int→List (S48)→Option (Bool)
  | 0,_,_,_,_,_,_=>none
  | k+1,I,an,v,ao,ap,aq=>if v<an then(if 0≤v then(if v<(I.length:Int)then((impl_WideOk.f ((rd_T48 I v).f0) ((rd_T48 I v).f1)).bind fun X=>(if X=true then(impl_CallOk.l0 k I an (wrap64 (v+1)) ao ap aq)else(some false)))else(none))else(none))else((impl_HalfOk.f ao).bind fun Y=>(if Y=true then((impl_HalfOk.f ap).bind fun aa=>(if aa=true then(some ((aq.length:Int) == 3))else(some false)))else(some false)))
def impl_CallOk.f (k:Nat) (b:Int) (d:Int) (g:List (S48)):Option (Bool):=impl_CallOk.l0 k g (g.length:Int) 0 b d g
set_option maxHeartbeats 8000000 in
set_option maxRecDepth 100000 in
theorem impl_CallOk.calls {k:Nat}{b:Int}{d:Int}{J:Option Addr}{L:Nat}{g:List (S48)}{r:Bool}{w:World}(h:impl_CallOk.f k b d g=some r)(ar:Kd.C k48 w J g.length g)(au:g.length≤L) :
 Calls Try.prog 106 #[.agg #[.int .i64 b,.int .i64 d,.slice J g.length L]] w fun e w'=>e= .returned (.bool r)∧Below w.heap.size w w':=by
 have hu53:=Try.underlying53;have hu48:=Try.underlying48;have HR0_2:=aM ar;have HC0_2:=aM au;clear ar au;have HB:=rW w;have H:(impl_CallOk.l0 k g (g.length:Int) 0 b d g)=some r:=h;clear h;have H':=aM H;clear H;go_enter Try.func106,Try.ntmps106
 go_wp2_with (first|((with_reducible refine gN 1 ?_);(try(refine gate_guard (by rfl) ?_;dsimp only));refine boxZ 1 #[.int .i64 b,.int .i64 d,.slice J g.length L] 53 ?_;intro aG hg a4 hbox hb;have i:=aM hbox;have GW239:=gS hg;have GE239:=gS hg;replace HB:=sB hb;clear hb hbox hg;obtain⟨aH,aI,aJ,aK,aL,aN⟩:=cz3 i))
 go_loopg [8] k (fun kq aO w'=> ∃ (p:Int),aO= .int .i64 p∧Aside0 (impl_CallOk.l0 kq g (g.length:Int) p b d g=some r)∧Aside0 (kq≤k)∧Aside0 (w'.heap[aG]?=some (.cells #[.int .i64 b,.int .i64 d,(.slice J g.length L)] 53 (0,0)))∧Aside0 (Below w.heap.size w w'))
 case atStart=>exact⟨(0),rS,H',⟨Nat.le_refl _⟩,⟨mK i⟩,⟨cB⟩⟩
 case round=>
  clear H';(try clear aH aI aJ);(try clear aK aL aN);obtain⟨p,rfl,HA,HK1,i,HB⟩:=hrel
  cases gk with
  | zero=>exact absurd HA.out (by simp[impl_CallOk.l0])
  | succ k1=>
   have H:=HA.out;clear HA;simp only[impl_CallOk.l0]at H;by_cases j:p<(g.length:Int)
   ·rw[if_pos j]at H;have ab:=decide_eq_true j;clear j;replace H:=gD H;obtain⟨a5,H⟩:=H;replace H:=gD H;obtain⟨a6,H⟩:=H;replace H:=bE H;obtain⟨X,av,H⟩:=H;by_cases M:X=true
    ·subst M;replace H:=iT H;have H':=aM H;clear H;obtain⟨aP,aQ,aR,ac,aS,aT⟩:=b2 HB (at_T48 HR0_2.out p);cases ac
     go_wp2_with (first|((with_reducible refine gN 4 ?_);(try(refine gate_guard (by rfl) ?_;dsimp only));refine boxZ 4 #[.int .i64 0,.int .i64 0] 48 ?_;intro aU hg aV hbox hb;have u:=aM hbox;have GW241:=gS hg;have GE241:=gS hg;replace HB:=sB hb;have ad:=nL hg i;have ae:=nG hg i;replace i:=kB i hb;clear hb hbox hg;have hnb10:=ae.out;have hnc10:=ad.out;obtain⟨a7,a8,a9,ba⟩:=cz2 u)|((with_reducible refine gF 113 ?_);refine gX (some 13) Try.func113 (impl_WideOk.calls av.out) ?_;intro aW hb;replace i:=kB i hb;replace u:=kP u hb (.cells #[.int .i64 ((rd_T48 g p).f0),.int .i64 ((rd_T48 g p).f1)] 48 (0,0));replace HB:=sB hb;(try clear hb)))
     go_roundg k1
     case measure=>exact oK
     case rel=>exact⟨(wrap64 (p+1)),rS,H',⟨oK⟩,⟨mK i⟩,⟨cB⟩⟩
    ·replace M:=Bool.eq_false_iff.mpr M;subst M;replace H:=iF H;obtain rfl:=Option.some.inj H;obtain⟨aP,aQ,aR,ac,aS,aT⟩:=b2 HB (at_T48 HR0_2.out p);cases ac
     go_wp2_with (first|((with_reducible refine gN 4 ?_);(try(refine gate_guard (by rfl) ?_;dsimp only));refine boxZ 4 #[.int .i64 0,.int .i64 0] 48 ?_;intro aU hg aX hbox hb;have u:=aM hbox;have GW241:=gS hg;have GE241:=gS hg;replace HB:=sB hb;have ad:=nL hg i;have ae:=nG hg i;replace i:=kB i hb;clear hb hbox hg;have hnb14:=ae.out;have hnc14:=ad.out;obtain⟨aw,ax,ay,az⟩:=cz2 u)|((with_reducible refine gF 113 ?_);refine gX (some 13) Try.func113 (impl_WideOk.calls av.out) ?_;intro aY hb;replace i:=kB i hb;replace u:=kP u hb (.cells #[.int .i64 ((rd_T48 g p).f0),.int .i64 ((rd_T48 g p).f1)] 48 (0,0));replace HB:=sB hb;(try clear hb)))
     go_ret;exact⟨rE,cB⟩
   ·rw[if_neg j]at H;have ab:=decide_eq_false j;clear j;replace H:=bE H;obtain⟨Y,af,H⟩:=H;by_cases O:Y=true
    ·subst O;replace H:=iT H;replace H:=bE H;obtain⟨aa,aA,H⟩:=H;by_cases U:aa=true
     ·subst U;replace H:=iT H;obtain rfl:=Option.some.inj H;obtain⟨bb,bd,be,bf,bg,bh⟩:=cz3 i
      go_wp2_with (first|((with_reducible refine gF 90 ?_);refine gX (some 18) Try.func90 (impl_HalfOk.calls af.out) ?_;rintro w' ⟨nd,rfl⟩)|(go_at_call 90;(with_reducible refine(impl_HalfOk.calls aA.out).mono ?_);rintro e w' ⟨rfl,⟨nd,rfl⟩⟩))
      go_ret;exact⟨rE,cB⟩
     ·replace U:=Bool.eq_false_iff.mpr U;subst U;replace H:=iF H;obtain rfl:=Option.some.inj H;obtain⟨bi,bj,bk,bl,bm,bn⟩:=cz3 i
      go_wp2_with (first|((with_reducible refine gF 90 ?_);refine gX (some 18) Try.func90 (impl_HalfOk.calls af.out) ?_;rintro w' ⟨nd,rfl⟩)|(go_at_call 90;(with_reducible refine(impl_HalfOk.calls aA.out).mono ?_);rintro e w' ⟨rfl,⟨nd,rfl⟩⟩))
      go_ret;exact⟨rE,cB⟩
    ·replace O:=Bool.eq_false_iff.mpr O;subst O;replace H:=iF H;obtain rfl:=Option.some.inj H;obtain⟨bo,bp,bq,br,bs,bu⟩:=cz3 i
     go_wp2_with (first|((with_reducible refine gF 90 ?_);refine gX (some 18) Try.func90 (impl_HalfOk.calls af.out) ?_;rintro w' ⟨nd,rfl⟩))
     go_ret;exact⟨rE,cB⟩
def impl_compare.f (q:Int) (s:Int):Option (Int):=if q<s then(some (-1))else(if q>s then(some 1)else(some 0))
set_option maxHeartbeats 8000000 in
set_option maxRecDepth 100000 in
theorem impl_compare.calls {q:Int}{s:Int}{r:Int}{w:World}(h:impl_compare.f q s=some r) :
 Calls Try.prog 156 #[.int .i64 q,.int .i64 s] w fun e w'=>e= .returned (.int .i64 r)∧Drawn0 w w':=by
 have H:(if q<s then(some (-1))else(if q>s then(some 1)else(some 0)))=some r:=h;clear h;by_cases o:q<s
 ·rw[if_pos o]at H;have ag:=decide_eq_true o;clear o;obtain rfl:=Option.some.inj H;go_enter Try.func156,Try.ntmps156;go_wp2;go_ret
  exact⟨by first|rfl|(simp;done)|(simp[*];done),by repeat(first|exact Drawn0.refl _|apply Drawn0.step)⟩
 ·rw[if_neg o]at H;have ag:=decide_eq_false o;clear o;by_cases j:q>s
  ·rw[if_pos j]at H;have ab:decide (s<q)=true:=decide_eq_true j;clear j;obtain rfl:=Option.some.inj H;go_enter Try.func156,Try.ntmps156;go_wp2;go_ret
   exact⟨by first|rfl|(simp;done)|(simp[*];done),by repeat(first|exact Drawn0.refl _|apply Drawn0.step)⟩
  ·rw[if_neg j]at H;have ab:decide (s<q)=false:=decide_eq_false j;clear j;obtain rfl:=Option.some.inj H;go_enter Try.func156,Try.ntmps156;go_wp2;go_ret
   exact⟨by first|rfl|(simp;done)|(simp[*];done),by repeat(first|exact Drawn0.refl _|apply Drawn0.step)⟩
def impl_WideCmp.f (b:Int) (d:Int) (l:Int) (n:Int):Option (Int):=if b=l then((impl_compare.f d n).bind fun aB=>(some aB))else((impl_compare.f b l).bind fun aC=>(some aC))
set_option maxHeartbeats 8000000 in
set_option maxRecDepth 100000 in
theorem impl_WideCmp.calls {b:Int}{d:Int}{l:Int}{n:Int}{r:Int}{w:World}(h:impl_WideCmp.f b d l n=some r) :
 Calls Try.prog 107 #[.agg #[.int .i64 b,.int .i64 d],.agg #[.int .i64 l,.int .i64 n]] w fun e w'=>e= .returned (.int .i64 r)∧Below w.heap.size w w':=by
 have hu48:=Try.underlying48;have HB:=rW w
 unfold impl_WideCmp.f at h;have H:=h
 clear h;by_cases o:b=l
 ·rw[if_pos o]at H;obtain⟨ag,aZ⟩:=eT o;clear o;replace H:=bE H;obtain⟨aB,a0,H⟩:=H;obtain rfl:=Option.some.inj H;go_enter Try.func107,Try.ntmps107
  go_wp2_with (first|((with_reducible refine gN 2 ?_);refine boxZ 2 #[.int .i64 b,.int .i64 d] 48 ?_;intro a1 hg bv hbox hb;have t:=aM hbox;have GW245:=gS hg;have GE245:=gS hg;replace HB:=sB hb;clear hb hbox hg)|((with_reducible refine gN 3 ?_);refine boxZ 3 #[.int .i64 l,.int .i64 n] 48 ?_;intro a2 hg bw hbox hb;have ah:=aM hbox;have GW246:=gS hg;have GE246:=gS hg;replace HB:=sB hb;have ai:=nL hg t;have aj:=nG hg t;replace t:=kB t hb;clear hb hbox hg;have hnb7:=ai.out;have hnc7:=aj.out;obtain⟨bx,bz,bA,bB⟩:=cz2 t;obtain⟨bC,bD,bF,bG⟩:=cz2 ah)|((with_reducible refine gF 156 ?_);refine gX (some 19) Try.func156 (impl_compare.calls a0.out) ?_;rintro w' ⟨nd,rfl⟩))
  go_ret;exact⟨rE,cB⟩
 ·rw[if_neg o]at H;obtain⟨ag,aZ⟩:=eF o;replace H:=bE H;obtain⟨aC,a3,H⟩:=H;obtain rfl:=Option.some.inj H;go_enter Try.func107,Try.ntmps107
  go_wp2_with (first|((with_reducible refine gN 2 ?_);refine boxZ 2 #[.int .i64 b,.int .i64 d] 48 ?_;intro a1 hg bH hbox hb;have t:=aM hbox;have GW245:=gS hg;have GE245:=gS hg;replace HB:=sB hb;clear hb hbox hg)|((with_reducible refine gN 3 ?_);refine boxZ 3 #[.int .i64 l,.int .i64 n] 48 ?_;intro a2 hg aW hbox hb;have ah:=aM hbox;have GW246:=gS hg;have GE246:=gS hg;replace HB:=sB hb;have ai:=nL hg t;have aj:=nG hg t;replace t:=kB t hb;clear hb hbox hg;have hnb13:=ai.out;have hnc13:=aj.out;obtain⟨bI,bJ,bL,bM⟩:=cz2 t;obtain⟨aw,ax,ay,az⟩:=cz2 ah)|((with_reducible refine gF 156 ?_);refine gX (some 14) Try.func156 (impl_compare.calls a3.out) ?_;rintro w' ⟨nd,rfl⟩))
  go_ret;exact⟨rE,cB⟩
def impl_WideAnd.f (b:Int) (d:Int) (l:Int) (n:Int):Option (Int×Int):=(impl_WideOk.f b d).bind fun ak=>(if ak=true then((impl_WideOk.f l n).bind fun al=>(if al=true then(some (Go.bits .and .i64 b l,Go.bits .and .i64 d n))else(some (0,0))))else(some (0,0)))
set_option maxHeartbeats 8000000 in
set_option maxRecDepth 100000 in
theorem impl_WideAnd.calls {b:Int}{d:Int}{l:Int}{n:Int}{r1:Int}{r2:Int}{w:World}(h:impl_WideAnd.f b d l n=some (r1,r2)) :
 Calls Try.prog 108 #[.agg #[.int .i64 b,.int .i64 d],.agg #[.int .i64 l,.int .i64 n]] w fun e w'=>e= .returned (.agg #[.int .i64 r1,.int .i64 r2])∧Below w.heap.size w w':=by
 have hu48:=Try.underlying48;have HB:=rW w
 unfold impl_WideAnd.f at h;have H:=h
 clear h;replace H:=bE H;obtain⟨ak,am,H⟩:=H;by_cases j:ak=true
 ·subst j;replace H:=iT H;replace H:=bE H;obtain⟨al,aD,H⟩:=H;by_cases W:al=true
  ·subst W;replace H:=iT H;simp only[Option.some.injEq,Prod.mk.injEq]at H;obtain⟨rfl,rfl⟩:=H;go_enter Try.func108,Try.ntmps108
   go_wp2_with (first|((with_reducible refine gN 2 ?_);refine boxZ 2 #[.int .i64 b,.int .i64 d] 48 ?_;intro aE hg bN hbox hb;have a:=aM hbox;have GW249:=gS hg;have GE249:=gS hg;replace HB:=sB hb;clear hb hbox hg)|((with_reducible refine gN 3 ?_);refine boxZ 3 #[.int .i64 l,.int .i64 n] 48 ?_;intro aF hg bO hbox hb;have c:=aM hbox;have GW250:=gS hg;have GE250:=gS hg;replace HB:=sB hb;have x:=nL hg a;have y:=nG hg a;replace a:=kB a hb;clear hb hbox hg)|((with_reducible refine gN 4 ?_);refine boxZ 4 #[.int .i64 0,.int .i64 0] 48 ?_;intro z hg aV hbox hb;have m:=aM hbox;have GW251:=gS hg;have GE251:=gS hg;replace HB:=sB hb;have A:=nL hg a;have D:=nG hg a;replace a:=kB a hb;have E:=nL hg c;have G:=nG hg c;replace c:=kB c hb;clear hb hbox hg;have hnb10:=x.out;have hnc10:=y.out;have hnb11:=A.out;have hnc11:=D.out;obtain⟨bP,bQ,bR,bS⟩:=cz2 a)|((with_reducible refine gF 113 ?_);refine gX (some 6) Try.func113 (impl_WideOk.calls am.out) ?_;intro aX hb;replace a:=kB a hb;replace c:=kB c hb;replace m:=kB m hb;replace HB:=sB hb;(try clear hb);have hnb14:=E.out;have hnc14:=G.out;obtain⟨aw,ax,ay,az⟩:=cz2 c)|(go_at_call 113;(with_reducible refine(impl_WideOk.calls aD.out).mono ?_);rintro e aY ⟨rfl,hb⟩;replace a:=kB a hb;replace c:=kB c hb;replace m:=kB m hb;replace HB:=sB hb;(try clear hb);obtain⟨bT,bU,bV,bW⟩:=cz2 a;obtain⟨bX,bY,bZ,b0⟩:=cz2 c;obtain⟨b1,b5,b8,b9⟩:=cz2 m))
   refine bodyPost_ret (results_cell_row rfl _ _ z 48 #[.int .i64 (Go.bits .and .i64 b l),.int .i64 (Go.bits .and .i64 d n)] (0,0) _ rfl (kS m _) Try.underlying48 rfl (by kernel_rfl)) rfl ?_
   exact⟨rE,cB⟩
  ·replace W:=Bool.eq_false_iff.mpr W;subst W;replace H:=iF H;simp only[Option.some.injEq,Prod.mk.injEq]at H;obtain⟨rfl,rfl⟩:=H;go_enter Try.func108,Try.ntmps108
   go_wp2_with (first|((with_reducible refine gN 2 ?_);refine boxZ 2 #[.int .i64 b,.int .i64 d] 48 ?_;intro aE hg ca hbox hb;have a:=aM hbox;have GW249:=gS hg;have GE249:=gS hg;replace HB:=sB hb;clear hb hbox hg)|((with_reducible refine gN 3 ?_);refine boxZ 3 #[.int .i64 l,.int .i64 n] 48 ?_;intro aF hg cb hbox hb;have c:=aM hbox;have GW250:=gS hg;have GE250:=gS hg;replace HB:=sB hb;have x:=nL hg a;have y:=nG hg a;replace a:=kB a hb;clear hb hbox hg)|((with_reducible refine gN 4 ?_);refine boxZ 4 #[.int .i64 0,.int .i64 0] 48 ?_;intro z hg cc hbox hb;have m:=aM hbox;have GW251:=gS hg;have GE251:=gS hg;replace HB:=sB hb;have A:=nL hg a;have D:=nG hg a;replace a:=kB a hb;have E:=nL hg c;have G:=nG hg c;replace c:=kB c hb;clear hb hbox hg;have hnb23:=x.out;have hnc23:=y.out;have hnb24:=A.out;have hnc24:=D.out;obtain⟨cd,ce,cf,cg⟩:=cz2 a)|((with_reducible refine gF 113 ?_);refine gX (some 6) Try.func113 (impl_WideOk.calls am.out) ?_;intro ch hb;replace a:=kB a hb;replace c:=kB c hb;replace m:=kB m hb;replace HB:=sB hb;(try clear hb);have hnb27:=E.out;have hnc27:=G.out;obtain⟨ci,cj,ck,cl⟩:=cz2 c)|(go_at_call 113;(with_reducible refine(impl_WideOk.calls aD.out).mono ?_);rintro e cm ⟨rfl,hb⟩;replace a:=kB a hb;replace c:=kB c hb;replace m:=kB m hb;replace HB:=sB hb;(try clear hb);obtain⟨cn,co,cp,cq⟩:=cz2 m))
   refine bodyPost_ret (results_cell_row rfl _ _ z 48 #[.int .i64 0,.int .i64 0] (0,0) _ rfl (kS m _) Try.underlying48 rfl (by kernel_rfl)) rfl ?_
   exact⟨rE,cB⟩
 ·replace j:=Bool.eq_false_iff.mpr j;subst j;replace H:=iF H;simp only[Option.some.injEq,Prod.mk.injEq]at H;obtain⟨rfl,rfl⟩:=H;go_enter Try.func108,Try.ntmps108
  go_wp2_with (first|((with_reducible refine gN 2 ?_);refine boxZ 2 #[.int .i64 b,.int .i64 d] 48 ?_;intro aE hg cr hbox hb;have a:=aM hbox;have GW249:=gS hg;have GE249:=gS hg;replace HB:=sB hb;clear hb hbox hg)|((with_reducible refine gN 3 ?_);refine boxZ 3 #[.int .i64 l,.int .i64 n] 48 ?_;intro aF hg cs hbox hb;have c:=aM hbox;have GW250:=gS hg;have GE250:=gS hg;replace HB:=sB hb;have x:=nL hg a;have y:=nG hg a;replace a:=kB a hb;clear hb hbox hg)|((with_reducible refine gN 4 ?_);refine boxZ 4 #[.int .i64 0,.int .i64 0] 48 ?_;intro z hg ct hbox hb;have m:=aM hbox;have GW251:=gS hg;have GE251:=gS hg;replace HB:=sB hb;have A:=nL hg a;have D:=nG hg a;replace a:=kB a hb;have E:=nL hg c;have G:=nG hg c;replace c:=kB c hb;clear hb hbox hg;have hnb34:=x.out;have hnc34:=y.out;have hnb35:=A.out;have hnc35:=D.out;obtain⟨cu,cv,cw,cx⟩:=cz2 a)|((with_reducible refine gF 113 ?_);refine gX (some 6) Try.func113 (impl_WideOk.calls am.out) ?_;intro cy hb;replace a:=kB a hb;replace c:=kB c hb;replace m:=kB m hb;replace HB:=sB hb;(try clear hb);have hnb38:=G.out;have hnc38:=E.out;obtain⟨cz,cA,cD,cE⟩:=cz2 m))
  refine bodyPost_ret (results_cell_row rfl _ _ z 48 #[.int .i64 0,.int .i64 0] (0,0) _ rfl (kS m _) Try.underlying48 rfl (by kernel_rfl)) rfl ?_
  exact⟨rE,cB⟩
end Go.Proofs.Ytlgndgjbfjefpaa.PFnConds
