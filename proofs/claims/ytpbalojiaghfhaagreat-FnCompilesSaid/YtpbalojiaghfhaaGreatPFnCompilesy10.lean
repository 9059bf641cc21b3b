import Derived.Test.YtpbalojiaghfhaaGreatPFnCompilesy0
import Derived.Test.YtpbalojiaghfhaaGreatPFnCompilesy5
import Derived.Test.YtpbalojiaghfhaaGreatPFnCompilesy9
namespace Go.Proofs.YtpbalojiaghfhaaGreat.PFnCompiles
open Go.RowKit Go.Proofs.YtpbalojiaghfhaaGreatW.PrintWords Go.Proofs.YtpbalojiaghfhaaGreatW.PrintLast Go.Proofs.YtpbalojiaghfhaaGreatW.PrintMore Go.Proofs.YtpbalojiaghfhaaGreatW.Z
open Kd
attribute [local go_sem] isS max2_int min2_int max_two min_two max_three min_three max_four min_four
set_option linter.unusedVariables false
set_option linter.unusedSimpArgs false
def impl_PolicyOk.l0:Nat→List (S78)→Int→Int→Int→Int→Int→List (S78)→Option (Bool)
  | 0,_,_,_,_,_,_,_=>none
  | k+1,G,l,x,aH,aI,aJ,aK=>if x<l then(if 0≤x then(if x<(G.length:Int)then((impl_ruleOk.f k ((rd_T78 G x).f0) ((rd_T78 G x).f1) ((rd_T78 G x).f2) ((rd_T78 G x).f3)).bind fun am=>(if am=true then(impl_PolicyOk.l0 k G l (wrap64 (x+1)) aH aI aJ aK)else(some false)))else(none))else(none))else((impl_HalfOk.f aH).bind fun an=>(if an=true then((impl_actionOk.f aI aJ).bind fun ao=>(if ao=true then(some (decide ((aK.length:Int)≤10)))else(some false)))else(some false)))
def impl_PolicyOk.f (k:Nat) (c:Int) (b:Int) (j:Int) (a:List (S78)):Option (Bool):=impl_PolicyOk.l0 k a (a.length:Int) 0 c b j a
set_option maxHeartbeats 8000000 in
set_option maxRecDepth 100000 in
theorem impl_PolicyOk.calls {k:Nat}{c:Int}{b:Int}{j:Int}{ab:Option Addr}{ac:Nat}{a:List (S78)}{r:Bool}{w:World}(h:impl_PolicyOk.f k c b j a=some r)(aL:Kd.C k78 w ab a.length a)(aN:a.length≤ac) :
 Calls Tryz.prog 38 #[.agg #[.int .i64 c,.int .i64 b,.int .i64 j,.slice ab a.length ac]] w fun e w'=>e= .returned (.bool r)∧Below w.heap.size w w':=by
 have hu26:=Tryz.underlying26;have hu78:=Tryz.underlying78;have HR0_3:=aM aL;have HC0_3:=aM aN;clear aL aN;have HB:=rW w;have H:(impl_PolicyOk.l0 k a (a.length:Int) 0 c b j a)=some r:=h;clear h;have H':=aM H;clear H;go_enter Tryz.func38,Tryz.ntmps38
 go_wp2_with (first|((with_reducible refine gN 1 ?_);(try(refine gate_guard (by rfl) ?_;dsimp only));refine boxZ 1 #[.int .i64 c,.int .i64 b,.int .i64 j,.slice ab a.length ac] 26 ?_;intro bg hg bh hbox hb;have d:=aM hbox;have GW676:=gS hg;have GE676:=gS hg;replace HB:=sB hb;clear hb hbox hg;obtain⟨aO,aP,aQ,aR,aS,aT,aU,aV⟩:=cz4 d))
 go_loopg [8] k (fun kq bi w'=> ∃ (g:Int),bi= .int .i64 g∧Aside0 (impl_PolicyOk.l0 kq a (a.length:Int) g c b j a=some r)∧Aside0 (kq≤k)∧Aside0 (w'.heap[bg]?=some (.cells #[.int .i64 c,.int .i64 b,.int .i64 j,(.slice ab a.length ac)] 26 (0,0)))∧Aside0 (Below w.heap.size w w'))
 case atStart=>exact⟨(0),rS,H',⟨Nat.le_refl _⟩,⟨mK d⟩,⟨cB⟩⟩
 case round=>
  clear H';(try clear aO aP aQ aR);(try clear aS aT aU aV);obtain⟨g,rfl,HA,HK1,d,HB⟩:=hrel
  cases gk with
  | zero=>exact absurd HA.out (by simp[impl_PolicyOk.l0])
  | succ k1=>
   have H:=HA.out;clear HA;simp only[impl_PolicyOk.l0]at H;by_cases m:g<(a.length:Int)
   ·rw[if_pos m]at H;have ap:=decide_eq_true m;clear m;replace H:=gD H;obtain⟨bj,H⟩:=H;replace H:=gD H;obtain⟨bJ,H⟩:=H;replace H:=bE H;obtain⟨am,aW,H⟩:=H;by_cases s:am=true
    ·subst s;replace H:=iT H;have H':=aM H;clear H;have y:0≤(g:Int):=dA;have z:g<(a.length:Int):=dA;obtain⟨bk,aq,ar,au,av,aw,I,J,L,M,hl677_0,hi677_0,hl677_1,hi677_1⟩:=at_T78 HR0_3.out g y z;cases aw;replace I:=(bc HB I :);replace J:=(bc HB J :);replace L:=(bc HB L :);replace M:=(bc HB M :);have HR677_0:=aM hi677_0;have HC677_0:=aM hl677_0;clear hi677_0 hl677_0;have HR677_1:=aM hi677_1;have HC677_1:=aM hl677_1;clear hi677_1 hl677_1;replace y:=eq_true y;replace z:=eq_true z
     go_wp2_with (first|((with_reducible refine gN 4 ?_);(try(refine gate_guard (by rfl) ?_;dsimp only));refine boxZ 4 #[.slice none 0 0,.slice none 0 0,.int .i64 0,.int .i64 0] 78 ?_;intro bl hg bm hbox hb;have A:=aM hbox;have GW678:=gS hg;have GE678:=gS hg;replace HB:=sB hb;have ax:=nL hg d;have ay:=nG hg d;replace d:=kB d hb;clear hb hbox hg;have hnb10:=ay.out;have hnc10:=ax.out;obtain⟨bL,bM,bN,bO,bP,bQ,bR,bS⟩:=cz4 A)|((with_reducible refine gF 74 ?_);refine gX (some 13) Tryz.func74 (impl_ruleOk.calls aW.out (C_below HR677_0.out cB) HC677_0.out (C_below HR677_1.out cB) HC677_1.out) ?_;intro bT hb;replace d:=kB d hb;replace A:=kP A hb (.cells #[.slice aq ((rd_T78 a g).f0).length ar,.slice au ((rd_T78 a g).f1).length av,.int .i64 ((rd_T78 a g).f2),.int .i64 ((rd_T78 a g).f3)] 78 (0,0));replace HB:=sB hb;(try clear hb)))
     go_roundg k1
     case measure=>exact oK
     case rel=>exact⟨(wrap64 (g+1)),rS,H',⟨oK⟩,⟨mK d⟩,⟨cB⟩⟩
    ·replace s:=Bool.eq_false_iff.mpr s;subst s;replace H:=iF H;obtain rfl:=Option.some.inj H;have y:0≤(g:Int):=dA;have z:g<(a.length:Int):=dA;obtain⟨bk,aq,ar,au,av,aw,I,J,L,M,hl677_0,hi677_0,hl677_1,hi677_1⟩:=at_T78 HR0_3.out g y z;cases aw;replace I:=(bc HB I :);replace J:=(bc HB J :);replace L:=(bc HB L :);replace M:=(bc HB M :);have HR677_0:=aM hi677_0;have HC677_0:=aM hl677_0;clear hi677_0 hl677_0;have HR677_1:=aM hi677_1;have HC677_1:=aM hl677_1;clear hi677_1 hl677_1;replace y:=eq_true y;replace z:=eq_true z
     go_wp2_with (first|((with_reducible refine gN 4 ?_);(try(refine gate_guard (by rfl) ?_;dsimp only));refine boxZ 4 #[.slice none 0 0,.slice none 0 0,.int .i64 0,.int .i64 0] 78 ?_;intro bl hg bU hbox hb;have A:=aM hbox;have GW678:=gS hg;have GE678:=gS hg;replace HB:=sB hb;have ax:=nL hg d;have ay:=nG hg d;replace d:=kB d hb;clear hb hbox hg;have hnb14:=ay.out;have hnc14:=ax.out;obtain⟨bV,bW,bX,bY,bZ,b0,b1,b5⟩:=cz4 A)|((with_reducible refine gF 74 ?_);refine gX (some 13) Tryz.func74 (impl_ruleOk.calls aW.out (C_below HR677_0.out cB) HC677_0.out (C_below HR677_1.out cB) HC677_1.out) ?_;intro b8 hb;replace d:=kB d hb;replace A:=kP A hb (.cells #[.slice aq ((rd_T78 a g).f0).length ar,.slice au ((rd_T78 a g).f1).length av,.int .i64 ((rd_T78 a g).f2),.int .i64 ((rd_T78 a g).f3)] 78 (0,0));replace HB:=sB hb;(try clear hb)))
     go_ret;exact⟨rE,cB⟩
   ·rw[if_neg m]at H;have ap:=decide_eq_false m;clear m;replace H:=bE H;obtain⟨an,az,H⟩:=H;by_cases ad:an=true
    ·subst ad;replace H:=iT H;replace H:=bE H;obtain⟨ao,aX,H⟩:=H;by_cases ae:ao=true
     ·subst ae;replace H:=iT H;obtain rfl:=Option.some.inj H;obtain⟨b9,ca,cb,cc,cd,ce,cf,cg⟩:=cz4 d
      go_wp2_with (first|((with_reducible refine gF 75 ?_);refine gX (some 18) Tryz.func75 (impl_HalfOk.calls az.out) ?_;rintro w' ⟨nd,rfl⟩)|(go_at_call 76;(with_reducible refine(impl_actionOk.calls aX.out).mono ?_);rintro e w' ⟨rfl,⟨nd,rfl⟩⟩))
      go_ret;exact⟨rE,cB⟩
     ·replace ae:=Bool.eq_false_iff.mpr ae;subst ae;replace H:=iF H;obtain rfl:=Option.some.inj H;obtain⟨ch,ci,cj,ck,cl,cm,cn,co⟩:=cz4 d
      go_wp2_with (first|((with_reducible refine gF 75 ?_);refine gX (some 18) Tryz.func75 (impl_HalfOk.calls az.out) ?_;rintro w' ⟨nd,rfl⟩)|(go_at_call 76;(with_reducible refine(impl_actionOk.calls aX.out).mono ?_);rintro e w' ⟨rfl,⟨nd,rfl⟩⟩))
      go_ret;exact⟨rE,cB⟩
    ·replace ad:=Bool.eq_false_iff.mpr ad;subst ad;replace H:=iF H;obtain rfl:=Option.some.inj H;obtain⟨cp,cq,cr,cs,ct,cu,cv,cw⟩:=cz4 d
     go_wp2_with (first|((with_reducible refine gF 75 ?_);refine gX (some 18) Tryz.func75 (impl_HalfOk.calls az.out) ?_;rintro w' ⟨nd,rfl⟩))
     go_ret;exact⟨rE,cB⟩
def impl_Line_isPlace.f (c:ByteArray) (b:Int) (j:Int) (u:Int) (af:Int) (ag:ByteArray) (ah:ByteArray):Option (Bool):=some (b == 0)
set_option maxHeartbeats 8000000 in
set_option maxRecDepth 100000 in
theorem impl_Line_isPlace.calls {c:ByteArray}{b:Int}{j:Int}{u:Int}{af:Int}{ag:ByteArray}{ah:ByteArray}{r:Bool}{w:World}(h:impl_Line_isPlace.f c b j u af ag ah=some r) :
 Calls Tryz.prog 78 #[.agg #[.string c,.int .i64 b,.int .i64 j,.int .i64 u,.int .i64 af,.string ag,.string ah]] w fun e w'=>e= .returned (.bool r)∧Below w.heap.size w w':=by
 have hu86:=Tryz.underlying86;have HB:=rW w;have H:(some (b == 0))=some r:=h;clear h;obtain rfl:=Option.some.inj H;go_enter Tryz.func78,Tryz.ntmps78
 go_wp2_with (first|((with_reducible refine gN 1 ?_);refine boxZ 1 #[.string c,.int .i64 b,.int .i64 j,.int .i64 u,.int .i64 af,.string ag,.string ah] 86 ?_;intro cx hg bh hbox hb;have bn:=aM hbox;have GW682:=gS hg;have GE682:=gS hg;replace HB:=sB hb;clear hb hbox hg;obtain⟨aO,aP,aQ,aR,cy,cz,cA,aS,aT,aU,aV,cD,cE,cF⟩:=cz7 bn))
 go_ret;exact⟨rE,cB⟩
def impl_placeOf.l0:Nat→List (S86)→ByteArray→Int→Option (Int)
  | 0,_,_,_=>none
  | k+1,p,D,l=>if l<(p.length:Int)then(if 0≤l then((impl_Line_isPlace.f ((rd_T86 p l).f0) ((rd_T86 p l).f1.f0) ((rd_T86 p l).f1.f1) ((rd_T86 p l).f1.f2) ((rd_T86 p l).f1.f3) ((rd_T86 p l).f2) ((rd_T86 p l).f3)).bind fun aA=>(if aA=true then(if((rd_T86 p l).f0).toList=D.toList then(some l)else(impl_placeOf.l0 k p D (wrap64 (l+1))))else(impl_placeOf.l0 k p D (wrap64 (l+1)))))else(none))else(some (-1))
def impl_placeOf.f (k:Nat) (i:List (S86)) (E:ByteArray) (n:Int):Option (Int):=impl_placeOf.l0 k i E (wrap64 (n+1))
set_option maxHeartbeats 8000000 in
set_option maxRecDepth 100000 in
theorem impl_placeOf.calls {k:Nat}{O:Option Addr}{U:Nat}{i:List (S86)}{E:ByteArray}{n:Int}{r:Int}{w:World}(h:impl_placeOf.f k i E n=some r)(W:Kd.C k86 w O i.length i)(X:i.length≤U) :
 Calls Tryz.prog 109 #[.slice O i.length U,.string E,.int .i64 n] w fun e w'=>e= .returned (.int .i64 r)∧Below w.heap.size w w':=by
 have hu86:=Tryz.underlying86;have HR0:=aM W;have HC0:=aM X;clear W X;have HB:=rW w;have H:(impl_placeOf.l0 k i E (wrap64 (n+1)))=some r:=h;clear h;have H':=aM H;clear H;go_enter Tryz.func109,Tryz.ntmps109;go_wp2
 go_loopg [7] k (fun kq bo w'=> ∃ (o:Int),bo= .int .i64 o∧Aside0 (impl_placeOf.l0 kq i E o=some r)∧Aside0 (kq≤k)∧Aside0 (Below w.heap.size w w'))
 case atStart=>exact⟨(wrap64 (n+1)),rS,H',⟨Nat.le_refl _⟩,⟨cB⟩⟩
 case round=>
  clear H';obtain⟨o,rfl,HA,HK1,HB⟩:=hrel
  cases gk with
  | zero=>exact absurd HA.out (by simp[impl_placeOf.l0])
  | succ k1=>
   have H:=HA.out;clear HA;simp only[impl_placeOf.l0]at H;by_cases m:o<(i.length:Int)
   ·rw[if_pos m]at H;have ap:=decide_eq_true m;clear m;replace H:=gD H;obtain⟨bj,H⟩:=H;replace H:=bE H;obtain⟨aA,aB,H⟩:=H;by_cases q:aA=true
    ·subst q;replace H:=iT H;by_cases s:((rd_T86 i o).f0).toList=E.toList
     ·rw[if_pos s]at H;obtain⟨aY,bp⟩:=eT s;clear s;obtain rfl:=Option.some.inj H;obtain⟨aZ,a0,ai,Y,a1,a2,a3,a4,a5,a6,a7⟩:=b7 HB (at_T86 HR0.out o);cases Y
      go_wp2_with (first|((with_reducible refine gF 78 ?_);refine gX (some 20) Tryz.func78 (impl_Line_isPlace.calls aB.out) ?_;intro bm hb;replace HB:=sB hb;(try clear hb);obtain⟨bq,br,aC,aD,bs,bu,bv,bw,bx,bz,bA⟩:=b7 HB (at_T86 HR0.out o);obtain rfl:ai=aC:=(by injection aD)))
      go_ret;exact⟨rE,cB⟩
     ·rw[if_neg s]at H;obtain⟨aY,bp⟩:=eF s;have H':=aM H;clear H;obtain⟨aZ,a0,ai,Y,a1,a2,a3,a4,a5,a6,a7⟩:=b7 HB (at_T86 HR0.out o);cases Y
      go_wp2_with (first|((with_reducible refine gF 78 ?_);refine gX (some 20) Tryz.func78 (impl_Line_isPlace.calls aB.out) ?_;intro cG hb;replace HB:=sB hb;(try clear hb);obtain⟨bq,br,aC,aD,bs,bu,bv,bw,bx,bz,bA⟩:=b7 HB (at_T86 HR0.out o);obtain rfl:ai=aC:=(by injection aD)))
      go_roundg k1
      case measure=>exact oK
      case rel=>exact⟨(wrap64 (o+1)),rS,H',⟨oK⟩,⟨cB⟩⟩
    ·replace q:=Bool.eq_false_iff.mpr q;subst q;replace H:=iF H;have H':=aM H;clear H;obtain⟨aZ,a0,ai,Y,a1,a2,a3,a4,a5,a6,a7⟩:=b7 HB (at_T86 HR0.out o);cases Y
     go_wp2_with (first|((with_reducible refine gF 78 ?_);refine gX (some 20) Tryz.func78 (impl_Line_isPlace.calls aB.out) ?_;intro cI hb;replace HB:=sB hb;(try clear hb)))
     go_roundg k1
     case measure=>exact oK
     case rel=>exact⟨(wrap64 (o+1)),rS,H',⟨oK⟩,⟨cB⟩⟩
   ·rw[if_neg m]at H;have ap:=decide_eq_false m;clear m;obtain rfl:=Option.some.inj H;go_wp2;go_ret;exact⟨rE,cB⟩
def impl_between.l0:Nat→List Int→Int→Int→Int→Option (Int)
  | 0,_,_,_,_=>none
  | k+1,D,a8,a9,aa=>if aa<a9 then(if 0≤aa then(if aa<(D.length:Int)then(impl_between.l0 k D (wrap64 (a8+(rd D aa))) a9 (wrap64 (aa+1)))else(none))else(none))else(some a8)
def impl_between.f (k:Nat) (i:List (S86)) (t:List Int) (n:Int) (aj:ByteArray):Option (Int):=(impl_placeOf.f k i aj n).bind fun ak=>(impl_between.l0 k t 0 ak (wrap64 (n+1)))
set_option maxHeartbeats 8000000 in
set_option maxRecDepth 100000 in
theorem impl_between.calls {k:Nat}{O:Option Addr}{U:Nat}{i:List (S86)}{ba:Option Addr}{aE:Nat}{t:List Int}{n:Int}{aj:ByteArray}{r:Int}{w:World}(h:impl_between.f k i t n aj=some r)(W:Kd.C k86 w O i.length i)(X:i.length≤U)(bb:Kd.C (Kd.int .i64) w ba t.length t)(bd:t.length≤aE) :
 Calls Tryz.prog 79 #[.slice O i.length U,.slice ba t.length aE,.int .i64 n,.string aj] w fun e w'=>e= .returned (.int .i64 r)∧Below w.heap.size w w':=by
 have HR0:=aM W;have HC0:=aM X;clear W X;have HR1:=aM bb;have HC1:=aM bd;clear bb bd;have HB:=rW w
 unfold impl_between.f at h;have H:=h
 clear h;replace H:=bE H;obtain⟨ak,bB,H⟩:=H;have H':=aM H;clear H;go_enter Tryz.func79,Tryz.ntmps79
 go_wp2_with (first|((with_reducible refine gF 109 ?_);refine gX (some 15) Tryz.func109 (impl_placeOf.calls bB.out (cC HR0.out) HC0.out) ?_;intro cJ hb;replace HB:=sB hb;(try clear hb)))
 go_loopg [9,11] k (fun kq bC bD w'=> ∃ (al:Int) (v:Int),bC= .int .i64 al∧bD= .int .i64 v∧Aside0 (impl_between.l0 kq t al ak v=some r)∧Aside0 (kq≤k)∧Aside0 (Below w.heap.size w w'))
 case atStart=>exact⟨(0),(wrap64 (n+1)),rS,rS,H',⟨Nat.le_refl _⟩,⟨cB⟩⟩
 case round=>
  clear H';(try clear aE);obtain⟨al,v,rfl,rfl,HA,HK1,HB⟩:=hrel
  cases gk with
  | zero=>exact absurd HA.out (by simp[impl_between.l0])
  | succ k1=>
   have H:=HA.out;clear HA;simp only[impl_between.l0]at H;by_cases q:v<ak
   ·rw[if_pos q]at H;have bF:=decide_eq_true q;clear q;replace H:=gD H;obtain⟨aY,H⟩:=H;replace H:=gD H;obtain⟨cL,H⟩:=H;have H':=aM H;clear H;have aF:0≤(v:Int):=dA;have aG:v<(t.length:Int):=dA;obtain⟨cM,bG,be⟩:=at_int HR1.out v aF aG;cases bG;replace be:=(bc HB be :);replace aF:=eq_true aF;replace aG:=eq_true aG;go_wp2;go_roundg k1
    case measure=>exact oK
    case rel=>exact⟨(wrap64 (al+(rd t v))),(wrap64 (v+1)),rS,rS,H',⟨oK⟩,⟨cB⟩⟩
   ·rw[if_neg q]at H;have bF:=decide_eq_false q;clear q;obtain rfl:=Option.some.inj H;go_wp2;go_ret;exact⟨rE,cB⟩
def impl_Ins_asks.f (c:Int) (b:Int) (j:Int) (u:Int):Option (Bool):=(impl_within.f c 3 6).bind fun bf=>(some bf)
set_option maxHeartbeats 8000000 in
set_option maxRecDepth 100000 in
theorem impl_Ins_asks.calls {c:Int}{b:Int}{j:Int}{u:Int}{r:Bool}{w:World}(h:impl_Ins_asks.f c b j u=some r) :
 Calls Tryz.prog 80 #[.agg #[.int .i64 c,.int .i64 b,.int .i64 j,.int .i64 u]] w fun e w'=>e= .returned (.bool r)∧Below w.heap.size w w':=by
 have hu71:=Tryz.underlying71;have HB:=rW w
 unfold impl_Ins_asks.f at h;have H:=h
 clear h;replace H:=bE H;obtain⟨bf,bH,H⟩:=H;obtain rfl:=Option.some.inj H;go_enter Tryz.func80,Tryz.ntmps80
 go_wp2_with (first|((with_reducible refine gN 1 ?_);refine boxZ 1 #[.int .i64 c,.int .i64 b,.int .i64 j,.int .i64 u] 71 ?_;intro cN hg cO hbox hb;have bI:=aM hbox;have GW688:=gS hg;have GE688:=gS hg;replace HB:=sB hb;clear hb hbox hg;obtain⟨cP,cQ,cR,cS,cT,cU,cV,cW⟩:=cz4 bI)|((with_reducible refine gF 81 ?_);refine gX (some 5) Tryz.func81 (impl_within.calls bH.out) ?_;rintro w' ⟨nd,rfl⟩))
 go_ret;exact⟨rE,cB⟩
end Go.Proofs.YtpbalojiaghfhaaGreat.PFnCompiles
