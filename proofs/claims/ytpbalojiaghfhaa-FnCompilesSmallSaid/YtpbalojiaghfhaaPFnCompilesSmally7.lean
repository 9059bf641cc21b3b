import Derived.Test.YtpbalojiaghfhaaVSortC
import Derived.Test.YtpbalojiaghfhaaPFnCompilesSmally0
import Derived.Test.YtpbalojiaghfhaaPFnCompilesSmally6
namespace Go.Proofs.Ytpbalojiaghfhaa.PFnCompilesSmall
open Go.RowKit Go.Proofs.YtpbalojiaghfhaaW.PrintWords Go.Proofs.YtpbalojiaghfhaaW.PrintLast Go.Proofs.YtpbalojiaghfhaaW.PrintMore Go.Proofs.YtpbalojiaghfhaaW.Z
open Kd
attribute [local go_sem] isS max2_int min2_int max_two min_two max_three min_three max_four min_four
set_option linter.unusedVariables false
set_option linter.unusedSimpArgs false
mutual
def impl_ruleOk.l0:Nat→List Int→Int→Int→List Int→List (S114)→Int→Int→Option (Bool)
  | 0,_,_,_,_,_,_,_=>none
  | k+1,l,al,q,X,Y,am,an=>if q<al then(if 0≤q then(if q<(l.length:Int)then((impl_HalfOk.f (rd l q)).bind fun a8=>(if a8=true then(if q>0 then(if 0≤(wrap64 (q - 1))then(if(wrap64 (q - 1))<(X.length:Int)then(if(rd X (wrap64 (q - 1)))≥(rd l q)then(some false)else(impl_ruleOk.l0 k l al (wrap64 (q+1)) X Y am an))else(none))else(none))else(impl_ruleOk.l0 k l al (wrap64 (q+1)) X Y am an))else(some false)))else(none))else(none))else(impl_ruleOk.l1 k Y (Y.length:Int) 0 X Y am an)
def impl_ruleOk.l1:Nat→List (S114)→Int→Int→List Int→List (S114)→Int→Int→Option (Bool)
  | 0,_,_,_,_,_,_,_=>none
  | k+1,aa,bA,I,X,Y,am,an=>if I<bA then(if 0≤I then(if I<(aa.length:Int)then((impl_CondOk.f ((rd_T114 aa I).f0) ((rd_T114 aa I).f1.f0) ((rd_T114 aa I).f1.f1) ((rd_T114 aa I).f2) ((rd_T114 aa I).f3.f0) ((rd_T114 aa I).f3.f1)).bind fun a9=>(if a9=true then(impl_ruleOk.l1 k aa bA (wrap64 (I+1)) X Y am an)else(some false)))else(none))else(none))else(if(X.length:Int)≤4 then(if(Y.length:Int)≤3 then((impl_actionOk.f am an).bind fun bB=>(some bB))else(some false))else(some false))
end
def impl_ruleOk.f (k:Nat) (c:List Int) (d:List (S114)) (i:Int) (J:Int):Option (Bool):=impl_ruleOk.l0 k c (c.length:Int) 0 c d i J
set_option maxHeartbeats 8000000 in
set_option maxRecDepth 100000 in
theorem impl_ruleOk.calls {k:Nat}{ay:Option Addr}{az:Nat}{c:List Int}{aA:Option Addr}{aC:Nat}{d:List (S114)}{i:Int}{J:Int}{r:Bool}{w:World}(h:impl_ruleOk.f k c d i J=some r)(bC:Kd.C (Kd.int .i64) w ay c.length c)(bD:c.length≤az)(bF:Kd.C k114 w aA d.length d)(bG:d.length≤aC) :
 Calls Try.prog 82 #[.agg #[.slice ay c.length az,.slice aA d.length aC,.int .i64 i,.int .i64 J]] w fun e w'=>e= .returned (.bool r)∧Below w.heap.size w w':=by
 have hu81:=Try.underlying81;have hu114:=Try.underlying114;have HR0_0:=aM bC;have HC0_0:=aM bD;clear bC bD;have HR0_1:=aM bF;have HC0_1:=aM bG;clear bF bG;have HB:=rW w;have H:(impl_ruleOk.l0 k c (c.length:Int) 0 c d i J)=some r:=h;clear h;have H':=aM H;clear H;go_enter Try.func82,Try.ntmps82
 go_wp2_with (first|((with_reducible refine gN 1 ?_);(try(refine gate_guard (by rfl) ?_;dsimp only));refine boxZ 1 #[.slice ay c.length az,.slice aA d.length aC,.int .i64 i,.int .i64 J] 81 ?_;intro bH hg ba hbox hb;have g:=aM hbox;have GW320:=gS hg;have GE320:=gS hg;replace HB:=sB hb;clear hb hbox hg;obtain⟨aD,aE,aG,aH,aI,aJ,aK,aN⟩:=cz4 g))
 go_loopg [10] k (fun kq bb w'=> ∃ (b:Int),bb= .int .i64 b∧Aside0 (impl_ruleOk.l0 kq c (c.length:Int) b c d i J=some r)∧Aside0 (kq≤k)∧Aside0 (w'.heap[bH]?=some (.cells #[(.slice ay c.length az),(.slice aA d.length aC),.int .i64 i,.int .i64 J] 81 (0,0)))∧Aside0 (Below w.heap.size w w'))
 case atStart=>exact⟨(0),rS,H',⟨Nat.le_refl _⟩,⟨mK g⟩,⟨cB⟩⟩
 case round=>
  clear H';(try clear aD aE aG aH);(try clear aI aJ aK aN);obtain⟨b,rfl,HA,HK1,g,HB⟩:=hrel
  cases gk with
  | zero=>exact absurd HA.out (by simp[impl_ruleOk.l0])
  | succ k1=>
   have H:=HA.out;clear HA;simp only[impl_ruleOk.l0]at H;by_cases u:b<(c.length:Int)
   ·rw[if_pos u]at H;have a0:=decide_eq_true u;clear u;replace H:=gD H;obtain⟨bI,H⟩:=H;replace H:=gD H;obtain⟨a1,H⟩:=H;replace H:=bE H;obtain⟨a8,ab,H⟩:=H;by_cases L:a8=true
    ·subst L;replace H:=iT H;by_cases M:b>0
     ·rw[if_pos M]at H;have bJ:decide (0<b)=true:=decide_eq_true M;clear M;obtain⟨ji10,hji10⟩ : ∃ j_:Int,(wrap64 (b - 1))=j_:=⟨_,rfl⟩
      (first|rw[hji10]at H|simp only[hji10]at H)
      (try rw[hji10]at ab);have hji10w:(IntKind.i64.wrap (b - 1))=ji10:=(i64_w _).trans hji10;replace H:=gD H;obtain⟨ce,H⟩:=H;replace H:=gD H;obtain⟨cf,H⟩:=H;by_cases ae:(rd c (ji10))≥(rd c b)
      ·rw[if_pos ae]at H;have bL:decide ((rd c b)≤(rd c (ji10)))=true:=decide_eq_true ae;clear ae;obtain rfl:=Option.some.inj H;have s:0≤(b:Int):=dA;have t:b<(c.length:Int):=dA;obtain⟨aP,af,E⟩:=at_int HR0_0.out b s t;cases af;replace E:=(bc HB E :);replace s:=eq_true s;replace t:=eq_true t
       go_wp2_with (first|((with_reducible refine gF 83 ?_);refine gX (some 16) Try.func83 (impl_HalfOk.calls ab.out) ?_;rintro w' ⟨nd,rfl⟩;obtain⟨cg,ch,ci,cj,ck,cl,cm,cn⟩:=cz4 g;have ac:0≤((ji10):Int):=dA;have ad:(ji10)<(c.length:Int):=dA;obtain⟨bd,be,ao⟩:=at_int HR0_0.out (ji10) ac ad;obtain rfl:aP=bd:=(by injection be);replace ao:=(bc HB ao :);replace ac:=eq_true ac;replace ad:=eq_true ad))
       go_ret
       exact⟨by first|rfl|(simp[errW_none,errW_some] <;> rfl)|(simp only[← hji10];first|rfl|(simp[errW_none,errW_some] <;> rfl))|(simp[*,errW_none,errW_some] <;> rfl),cB⟩
      ·rw[if_neg ae]at H;have bL:decide ((rd c b)≤(rd c (ji10)))=false:=decide_eq_false ae;clear ae;have H':=aM H;clear H;have s:0≤(b:Int):=dA;have t:b<(c.length:Int):=dA;obtain⟨aP,af,E⟩:=at_int HR0_0.out b s t;cases af;replace E:=(bc HB E :);replace s:=eq_true s;replace t:=eq_true t
       go_wp2_with (first|((with_reducible refine gF 83 ?_);refine gX (some 16) Try.func83 (impl_HalfOk.calls ab.out) ?_;rintro w' ⟨nd,rfl⟩;obtain⟨bM,bN,bO,bP,bQ,bR,bS,bT⟩:=cz4 g;have ac:0≤((ji10):Int):=dA;have ad:(ji10)<(c.length:Int):=dA;obtain⟨bd,be,ao⟩:=at_int HR0_0.out (ji10) ac ad;obtain rfl:aP=bd:=(by injection be);replace ao:=(bc HB ao :);replace ac:=eq_true ac;replace ad:=eq_true ad))
       go_roundg k1
       case measure=>exact oK
       case rel=>exact⟨(wrap64 (b+1)),rS,H',⟨oK⟩,⟨mK g⟩,⟨cB⟩⟩
     ·rw[if_neg M]at H;have bJ:decide (0<b)=false:=decide_eq_false M;clear M;have H':=aM H;clear H;have s:0≤(b:Int):=dA;have t:b<(c.length:Int):=dA;obtain⟨aP,af,E⟩:=at_int HR0_0.out b s t;cases af;replace E:=(bc HB E :);replace s:=eq_true s;replace t:=eq_true t
      go_wp2_with (first|((with_reducible refine gF 83 ?_);refine gX (some 16) Try.func83 (impl_HalfOk.calls ab.out) ?_;rintro w' ⟨nd,rfl⟩))
      go_roundg k1
      case measure=>exact oK
      case rel=>exact⟨(wrap64 (b+1)),rS,H',⟨oK⟩,⟨mK g⟩,⟨cB⟩⟩
    ·replace L:=Bool.eq_false_iff.mpr L;subst L;replace H:=iF H;obtain rfl:=Option.some.inj H;have s:0≤(b:Int):=dA;have t:b<(c.length:Int):=dA;obtain⟨aP,af,E⟩:=at_int HR0_0.out b s t;cases af;replace E:=(bc HB E :);replace s:=eq_true s;replace t:=eq_true t
     go_wp2_with (first|((with_reducible refine gF 83 ?_);refine gX (some 16) Try.func83 (impl_HalfOk.calls ab.out) ?_;rintro w' ⟨nd,rfl⟩))
     go_ret;exact⟨rE,cB⟩
   ·rw[if_neg u]at H;have a0:=decide_eq_false u;clear u;have H':=aM H;clear H;obtain⟨co,cp,cq,cr,cs,ct,cu,cv⟩:=cz4 g;go_wp2
    go_loopg [36] k1 (fun kq cw w'=> ∃ (m:Int),cw= .int .i64 m∧Aside0 (impl_ruleOk.l1 kq d (d.length:Int) m c d i J=some r)∧Aside0 (kq≤k1)∧Aside0 (w'.heap[bH]?=some (.cells #[(.slice ay c.length az),(.slice aA d.length aC),.int .i64 i,.int .i64 J] 81 (0,0)))∧Aside0 (Below w.heap.size w w'))
    case atStart=>exact⟨(0),rS,H',⟨Nat.le_refl _⟩,⟨mK g⟩,⟨cB⟩⟩
    case round=>
     clear H';(try clear u);(try clear a0);(try clear du);(try clear bI);(try clear ag);(try clear a1);(try clear L);(try clear M);(try clear bJ);(try clear dv);(try clear ce);(try clear dw);(try clear cf);(try clear ae);(try clear bL);(try clear cg ch ci cj);(try clear bM bN bO bP);(try clear co cp cq cr);(try clear aD aE aG aH);(try clear ck cl cm cn);(try clear bQ bR bS bT);(try clear cs ct cu cv);(try clear aI aJ aK aN);(try clear E);(try clear ao);(try clear s);(try clear ac);(try clear t);(try clear ad);obtain⟨m,rfl,HA,HK2,g,HB⟩:=hrel
     cases gk with
     | zero=>exact absurd HA.out (by simp[impl_ruleOk.l1])
     | succ k2=>
      have H:=HA.out;clear HA;simp only[impl_ruleOk.l1]at H;by_cases ap:m<(d.length:Int)
      ·rw[if_pos ap]at H;have cx:=decide_eq_true ap;clear ap;replace H:=gD H;obtain⟨dx,H⟩:=H;replace H:=gD H;obtain⟨dy,H⟩:=H;replace H:=bE H;obtain⟨a9,bU,H⟩:=H;by_cases a2:a9=true
       ·subst a2;replace H:=iT H;have H':=aM H;clear H;obtain⟨cy,cz,cA,bf,cD,cE,cF,cG,cI,cJ⟩:=b6 HB (at_T114 HR0_1.out m);cases bf
        go_wp2_with (first|((with_reducible refine gN 6 ?_);(try(refine gate_guard (by rfl) ?_;dsimp only));refine boxZ 6 #[.int .i64 0,.int .i64 0,.int .i64 0,.int .i64 0,.int .i64 0,.int .i64 0] 114 ?_;intro cL hg dz hbox hb;have ah:=aM hbox;have GW325:=gS hg;have GE325:=gS hg;replace HB:=sB hb;have bg:=nL hg g;have bh:=nG hg g;replace g:=kB g hb;clear hb hbox hg;have hnb23:=bh.out;have hnc23:=bg.out;obtain⟨dC,dD,dE,dF,dG,dH,dI,dJ,dK,dL,dM,dN⟩:=cz6 ah)|((with_reducible refine gF 107 ?_);refine gX (some 41) Try.func107 (impl_CondOk.calls bU.out) ?_;intro dO hb;replace g:=kB g hb;replace ah:=kP ah hb (.cells #[.int .i64 ((rd_T114 d m).f0),.int .i64 ((rd_T114 d m).f1.f0),.int .i64 ((rd_T114 d m).f1.f1),.int .i64 ((rd_T114 d m).f2),.int .i64 ((rd_T114 d m).f3.f0),.int .i64 ((rd_T114 d m).f3.f1)] 114 (0,0));replace HB:=sB hb;(try clear hb)))
        go_roundg k2
        case measure=>have:=HK1.out;have:=HK2.out;omega
        case rel=>exact⟨(wrap64 (m+1)),rS,H',⟨by have:=HK1.out;have:=HK2.out;omega⟩,⟨mK g⟩,⟨cB⟩⟩
       ·replace a2:=Bool.eq_false_iff.mpr a2;subst a2;replace H:=iF H;obtain rfl:=Option.some.inj H;obtain⟨cy,cz,cA,bf,cD,cE,cF,cG,cI,cJ⟩:=b6 HB (at_T114 HR0_1.out m);cases bf
        go_wp2_with (first|((with_reducible refine gN 6 ?_);(try(refine gate_guard (by rfl) ?_;dsimp only));refine boxZ 6 #[.int .i64 0,.int .i64 0,.int .i64 0,.int .i64 0,.int .i64 0,.int .i64 0] 114 ?_;intro cL hg dP hbox hb;have ah:=aM hbox;have GW325:=gS hg;have GE325:=gS hg;replace HB:=sB hb;have bg:=nL hg g;have bh:=nG hg g;replace g:=kB g hb;clear hb hbox hg;have hnb27:=bh.out;have hnc27:=bg.out;obtain⟨dQ,dS,dT,dU,dV,dX,dY,dZ,d0,d1,d2,d3⟩:=cz6 ah)|((with_reducible refine gF 107 ?_);refine gX (some 41) Try.func107 (impl_CondOk.calls bU.out) ?_;intro d4 hb;replace g:=kB g hb;replace ah:=kP ah hb (.cells #[.int .i64 ((rd_T114 d m).f0),.int .i64 ((rd_T114 d m).f1.f0),.int .i64 ((rd_T114 d m).f1.f1),.int .i64 ((rd_T114 d m).f2),.int .i64 ((rd_T114 d m).f3.f0),.int .i64 ((rd_T114 d m).f3.f1)] 114 (0,0));replace HB:=sB hb;(try clear hb)))
        go_ret;exact⟨rE,cB⟩
      ·rw[if_neg ap]at H;have cx:=decide_eq_false ap;clear ap;by_cases aq:(c.length:Int)≤4
       ·rw[if_pos aq]at H;have cM:=decide_eq_true aq
        have cN:decide (c.length≤4)=true:=decide_eq_true (by omega)
        clear aq;by_cases ar:(d.length:Int)≤3
        ·rw[if_pos ar]at H;have cO:=decide_eq_true ar
         have cP:decide (d.length≤3)=true:=decide_eq_true (by omega)
         clear ar;replace H:=bE H;obtain⟨bB,cQ,H⟩:=H;obtain rfl:=Option.some.inj H;obtain⟨d5,d6,d7,d8,d9,ea,eb,ec⟩:=cz4 g
         go_wp2_with (first|(go_at_call 84;(with_reducible refine(impl_actionOk.calls cQ.out).mono ?_);rintro e w' ⟨rfl,⟨nd,rfl⟩⟩))
         go_ret;exact⟨rE,cB⟩
        ·rw[if_neg ar]at H;have cO:=decide_eq_false ar
         have cP:decide (d.length≤3)=false:=decide_eq_false (by omega)
         clear ar;obtain rfl:=Option.some.inj H;obtain⟨ed,ee,ef,eg,eh,ei,ej,ek⟩:=cz4 g;go_wp2;go_ret;exact⟨rE,cB⟩
       ·rw[if_neg aq]at H;have cM:=decide_eq_false aq
        have cN:decide (c.length≤4)=false:=decide_eq_false (by omega)
        clear aq;obtain rfl:=Option.some.inj H;obtain⟨el,em,en,eo,ep,eq,er,es⟩:=cz4 g;go_wp2;go_ret;exact⟨rE,cB⟩
def impl_PolicyOk.l0:Nat→List (S81)→Int→Int→Int→Int→Int→List (S81)→Option (Bool)
  | 0,_,_,_,_,_,_,_=>none
  | k+1,au,bV,l,bW,bX,bY,bZ=>if l<bV then(if 0≤l then(if l<(au.length:Int)then((impl_ruleOk.f k ((rd_T81 au l).f0) ((rd_T81 au l).f1) ((rd_T81 au l).f2) ((rd_T81 au l).f3)).bind fun bi=>(if bi=true then(impl_PolicyOk.l0 k au bV (wrap64 (l+1)) bW bX bY bZ)else(some false)))else(none))else(none))else((impl_HalfOk.f bW).bind fun bj=>(if bj=true then((impl_actionOk.f bX bY).bind fun bk=>(if bk=true then(some (decide ((bZ.length:Int)≤10)))else(some false)))else(some false)))
def impl_PolicyOk.f (k:Nat) (v:Int) (z:Int) (i:Int) (a:List (S81)):Option (Bool):=impl_PolicyOk.l0 k a (a.length:Int) 0 v z i a
set_option maxHeartbeats 8000000 in
set_option maxRecDepth 100000 in
theorem impl_PolicyOk.calls {k:Nat}{v:Int}{z:Int}{i:Int}{U:Option Addr}{W:Nat}{a:List (S81)}{r:Bool}{w:World}(h:impl_PolicyOk.f k v z i a=some r)(aQ:Kd.C k81 w U a.length a)(aT:a.length≤W) :
 Calls Try.prog 50 #[.agg #[.int .i64 v,.int .i64 z,.int .i64 i,.slice U a.length W]] w fun e w'=>e= .returned (.bool r)∧Below w.heap.size w w':=by
 have hu41:=Try.underlying41;have hu81:=Try.underlying81;have HR0_3:=aM aQ;have HC0_3:=aM aT;clear aQ aT;have HB:=rW w;have H:(impl_PolicyOk.l0 k a (a.length:Int) 0 v z i a)=some r:=h;clear h;have H':=aM H;clear H;go_enter Try.func50,Try.ntmps50
 go_wp2_with (first|((with_reducible refine gN 1 ?_);(try(refine gate_guard (by rfl) ?_;dsimp only));refine boxZ 1 #[.int .i64 v,.int .i64 z,.int .i64 i,.slice U a.length W] 41 ?_;intro cR hg ba hbox hb;have n:=aM hbox;have GW328:=gS hg;have GE328:=gS hg;replace HB:=sB hb;clear hb hbox hg;obtain⟨aD,aE,aG,aH,aI,aJ,aK,aN⟩:=cz4 n))
 go_loopg [8] k (fun kq cS w'=> ∃ (o:Int),cS= .int .i64 o∧Aside0 (impl_PolicyOk.l0 kq a (a.length:Int) o v z i a=some r)∧Aside0 (kq≤k)∧Aside0 (w'.heap[cR]?=some (.cells #[.int .i64 v,.int .i64 z,.int .i64 i,(.slice U a.length W)] 41 (0,0)))∧Aside0 (Below w.heap.size w w'))
 case atStart=>exact⟨(0),rS,H',⟨Nat.le_refl _⟩,⟨mK n⟩,⟨cB⟩⟩
 case round=>
  clear H';(try clear aD aE aG aH);(try clear aI aJ aK aN);obtain⟨o,rfl,HA,HK1,n,HB⟩:=hrel
  cases gk with
  | zero=>exact absurd HA.out (by simp[impl_PolicyOk.l0])
  | succ k1=>
   have H:=HA.out;clear HA;simp only[impl_PolicyOk.l0]at H;by_cases u:o<(a.length:Int)
   ·rw[if_pos u]at H;have a0:=decide_eq_true u;clear u;replace H:=gD H;obtain⟨bI,H⟩:=H;replace H:=gD H;obtain⟨a1,H⟩:=H;replace H:=bE H;obtain⟨bi,ab,H⟩:=H;by_cases L:bi=true
    ·subst L;replace H:=iT H;have H':=aM H;clear H;have ai:0≤(o:Int):=dA;have aj:o<(a.length:Int):=dA;obtain⟨cT,bl,bm,bn,bo,bp,aU,aV,aW,aX,hl329_0,hi329_0,hl329_1,hi329_1⟩:=at_T81 HR0_3.out o ai aj;cases bp;replace aU:=(bc HB aU :);replace aV:=(bc HB aV :);replace aW:=(bc HB aW :);replace aX:=(bc HB aX :);have HR329_0:=aM hi329_0;have HC329_0:=aM hl329_0;clear hi329_0 hl329_0;have HR329_1:=aM hi329_1;have HC329_1:=aM hl329_1;clear hi329_1 hl329_1;replace ai:=eq_true ai;replace aj:=eq_true aj
     go_wp2_with (first|((with_reducible refine gN 4 ?_);(try(refine gate_guard (by rfl) ?_;dsimp only));refine boxZ 4 #[.slice none 0 0,.slice none 0 0,.int .i64 0,.int .i64 0] 81 ?_;intro cU hg et hbox hb;have ak:=aM hbox;have GW330:=gS hg;have GE330:=gS hg;replace HB:=sB hb;have bq:=nL hg n;have br:=nG hg n;replace n:=kB n hb;clear hb hbox hg;have hnb10:=br.out;have hnc10:=bq.out;obtain⟨eu,ev,ew,ex,ey,ez,eA,eC⟩:=cz4 ak)|((with_reducible refine gF 82 ?_);refine gX (some 13) Try.func82 (impl_ruleOk.calls ab.out (C_below HR329_0.out cB) HC329_0.out (C_below HR329_1.out cB) HC329_1.out) ?_;intro eD hb;replace n:=kB n hb;replace ak:=kP ak hb (.cells #[.slice bl ((rd_T81 a o).f0).length bm,.slice bn ((rd_T81 a o).f1).length bo,.int .i64 ((rd_T81 a o).f2),.int .i64 ((rd_T81 a o).f3)] 81 (0,0));replace HB:=sB hb;(try clear hb)))
     go_roundg k1
     case measure=>exact oK
     case rel=>exact⟨(wrap64 (o+1)),rS,H',⟨oK⟩,⟨mK n⟩,⟨cB⟩⟩
    ·replace L:=Bool.eq_false_iff.mpr L;subst L;replace H:=iF H;obtain rfl:=Option.some.inj H;have ai:0≤(o:Int):=dA;have aj:o<(a.length:Int):=dA;obtain⟨cT,bl,bm,bn,bo,bp,aU,aV,aW,aX,hl329_0,hi329_0,hl329_1,hi329_1⟩:=at_T81 HR0_3.out o ai aj;cases bp;replace aU:=(bc HB aU :);replace aV:=(bc HB aV :);replace aW:=(bc HB aW :);replace aX:=(bc HB aX :);have HR329_0:=aM hi329_0;have HC329_0:=aM hl329_0;clear hi329_0 hl329_0;have HR329_1:=aM hi329_1;have HC329_1:=aM hl329_1;clear hi329_1 hl329_1;replace ai:=eq_true ai;replace aj:=eq_true aj
     go_wp2_with (first|((with_reducible refine gN 4 ?_);(try(refine gate_guard (by rfl) ?_;dsimp only));refine boxZ 4 #[.slice none 0 0,.slice none 0 0,.int .i64 0,.int .i64 0] 81 ?_;intro cU hg cV hbox hb;have ak:=aM hbox;have GW330:=gS hg;have GE330:=gS hg;replace HB:=sB hb;have bq:=nL hg n;have br:=nG hg n;replace n:=kB n hb;clear hb hbox hg;have hnb14:=br.out;have hnc14:=bq.out;obtain⟨bM,bN,bO,bP,bQ,bR,bS,bT⟩:=cz4 ak)|((with_reducible refine gF 82 ?_);refine gX (some 13) Try.func82 (impl_ruleOk.calls ab.out (C_below HR329_0.out cB) HC329_0.out (C_below HR329_1.out cB) HC329_1.out) ?_;intro eE hb;replace n:=kB n hb;replace ak:=kP ak hb (.cells #[.slice bl ((rd_T81 a o).f0).length bm,.slice bn ((rd_T81 a o).f1).length bo,.int .i64 ((rd_T81 a o).f2),.int .i64 ((rd_T81 a o).f3)] 81 (0,0));replace HB:=sB hb;(try clear hb)))
     go_ret;exact⟨rE,cB⟩
   ·rw[if_neg u]at H;have a0:=decide_eq_false u;clear u;replace H:=bE H;obtain⟨bj,bs,H⟩:=H;by_cases a3:bj=true
    ·subst a3;replace H:=iT H;replace H:=bE H;obtain⟨bk,b0,H⟩:=H;by_cases a4:bk=true
     ·subst a4;replace H:=iT H;obtain rfl:=Option.some.inj H;obtain⟨eG,eH,eI,eJ,eK,eL,eM,eN⟩:=cz4 n
      go_wp2_with (first|((with_reducible refine gF 83 ?_);refine gX (some 18) Try.func83 (impl_HalfOk.calls bs.out) ?_;rintro w' ⟨nd,rfl⟩)|(go_at_call 84;(with_reducible refine(impl_actionOk.calls b0.out).mono ?_);rintro e w' ⟨rfl,⟨nd,rfl⟩⟩))
      go_ret;exact⟨rE,cB⟩
     ·replace a4:=Bool.eq_false_iff.mpr a4;subst a4;replace H:=iF H;obtain rfl:=Option.some.inj H;obtain⟨eO,eP,eQ,eR,eS,eU,eW,eZ⟩:=cz4 n
      go_wp2_with (first|((with_reducible refine gF 83 ?_);refine gX (some 18) Try.func83 (impl_HalfOk.calls bs.out) ?_;rintro w' ⟨nd,rfl⟩)|(go_at_call 84;(with_reducible refine(impl_actionOk.calls b0.out).mono ?_);rintro e w' ⟨rfl,⟨nd,rfl⟩⟩))
      go_ret;exact⟨rE,cB⟩
    ·replace a3:=Bool.eq_false_iff.mpr a3;subst a3;replace H:=iF H;obtain rfl:=Option.some.inj H;obtain⟨e0,e1,e2,e3,e4,e5,e6,e7⟩:=cz4 n
     go_wp2_with (first|((with_reducible refine gF 83 ?_);refine gX (some 18) Try.func83 (impl_HalfOk.calls bs.out) ?_;rintro w' ⟨nd,rfl⟩))
     go_ret;exact⟨rE,cB⟩
def slices_Sort_int_int.f (G:List Int):Option (List Int):=if G.length<4611686018427387904 then some (G.mergeSort fun x y=>decide (x≤y))else none
theorem slices_Sort_int_int.calls (P0_:Nat→Prop) (u9000_:Value) (G:List Int) (r:List Int) (w0 w:World) (hB:Below w0.heap.size w0 w) (av:Kd.R (Kd.int .i64) 3 w w0.heap.size P0_ u9000_ G) (h:slices_Sort_int_int.f G=some r) :
 Calls Try.prog 56 #[u9000_] w fun e w'=>e= .returned (.tuple #[])∧Kd.R (Kd.int .i64) 3 w' w0.heap.size (fun k_=>(P0_ k_∨w.heap.size≤k_)) u9000_ r∧Below w0.heap.size w0 w'∧Kept w w' (fun k_=>P0_ k_):=by
 unfold slices_Sort_int_int.f at h;split at h
 ·obtain rfl:=Option.some.inj h
  exact Go.Proofs.YtpbalojiaghfhaaW.PK.sort_own P0_ u9000_ G w0 w hB av (by assumption)
 ·cases h
def slices_Compact_int_int.f (G:List Int):Option (List Int):=some (Go.Lib.compact G)
theorem slices_Compact_int_int.calls (P0_:Nat→Prop) (u9000_:Value) (G:List Int) (r:List Int) (w0 w:World) (hB:Below w0.heap.size w0 w) (av:Kd.R (Kd.int .i64) 3 w w0.heap.size P0_ u9000_ G) (h:slices_Compact_int_int.f G=some r) :
 Calls Try.prog 57 #[u9000_] w fun e w'=> ∃ v0_:Value,e= .returned (v0_)∧Kd.R (Kd.int .i64) 3 w' w0.heap.size (fun k_=>(P0_ k_∨w.heap.size≤k_)) v0_ r∧Below w0.heap.size w0 w'∧Kept w w' (fun k_=>P0_ k_):=by
 obtain rfl:=Option.some.inj h;exact Go.Proofs.YtpbalojiaghfhaaW.PK.compact_own P0_ u9000_ G w0 w hB av
def impl_NumsOf.l0:Nat→List Int→List (S81)→Int→Int→Option (List Int)
  | 0,_,_,_,_=>none
  | k+1,bu,l,al,q=>if q<al then(if 0≤q then(if q<(l.length:Int)then(if bu.length+((rd_T81 l q).f0).length<17592186044416 then(impl_NumsOf.l0 k (bu ++ ((rd_T81 l q).f0)) l al (wrap64 (q+1)))else(none))else(none))else(none))else((slices_Sort_int_int.f bu).bind fun a5=>((slices_Compact_int_int.f a5).bind fun bv=>(some bv)))
def impl_NumsOf.f (k:Nat) (v:Int) (z:Int) (i:Int) (a:List (S81)):Option (List Int):=impl_NumsOf.l0 k (([] :List Int)) a (a.length:Int) 0
set_option maxHeartbeats 8000000 in
set_option maxRecDepth 100000 in
theorem impl_NumsOf.calls {k:Nat}{v:Int}{z:Int}{i:Int}{U:Option Addr}{W:Nat}{a:List (S81)}{r:List Int}{w:World}(h:impl_NumsOf.f k v z i a=some r)(aQ:Kd.C k81 w U a.length a)(aT:a.length≤W) :
 Calls Try.prog 22 #[.agg #[.int .i64 v,.int .i64 z,.int .i64 i,.slice U a.length W]] w fun e w'=> ∃ v0_:Value,e= .returned (v0_)∧Kd.R (Kd.int .i64) 3 w' w.heap.size (fun _=>True) v0_ r∧Below w.heap.size w w':=by
 have hu41:=Try.underlying41;have hu81:=Try.underlying81;have HR0_3:=aM aQ;have HC0_3:=aM aT;clear aQ aT;have HB:=rW w;have H:(impl_NumsOf.l0 k (([] :List Int)) a (a.length:Int) 0)=some r:=h;clear h;obtain⟨cW,bw⟩ : ∃ y_:List Int,Aside0 (y_=(([] :List Int))):=⟨_,⟨rfl⟩⟩;rw[← bw.out]at H;have H':=aM H;clear H;go_enter Try.func22,Try.ntmps22
 go_wp2_with (first|((with_reducible refine gN 1 ?_);refine boxZ 1 #[.int .i64 v,.int .i64 z,.int .i64 i,.slice U a.length W] 41 ?_;intro cX hg ba hbox hb;have p:=aM hbox;have GW334:=gS hg;have GE334:=gS hg;replace HB:=sB hb;clear hb hbox hg)|((with_reducible refine gN 6 ?_);refine R_lit (Kd.int .i64) _ 3 ?hg (N:=6) ?hd (xs:=([] :List Int)) (inner:=[]) (ok:=fun _=>True) (okp:=fun _=>True) ?hr ?hp (fun _ hk=>hk) trivial (Below.refl _ _) (Nat.le_refl _) (by simp) ?_;(case hd=>rfl);(case hg=>rfl);(case hr=>exact rG);(case hp=>exact(Reps.none _ _));intro e8 cY aY hb hg_ hnew_;clear hg_ hnew_;(first|rw[← bw.out]at aY|(simp only[Int.reduceToNat]at aY;rw[← bw.out]at aY));have cZ:=rL aY;replace p:=kB p hb;replace HB:=sB hb;clear hb aY;obtain⟨c0,c1,c4,c5,c6,c8,c9,da⟩:=cz4 p))
 go_loopg [3,10] k (fun kq db bb w'=> ∃ (O:List Int) (b:Int),bb= .int .i64 b∧Aside0 (impl_NumsOf.l0 kq O a (a.length:Int) b=some r)∧Aside0 (kq≤k)∧Aside0 (Kd.R (Kd.int .i64) 3 w' w.heap.size (fun _=>True) db O)∧Aside0 (w'.heap[cX]?=some (.cells #[.int .i64 v,.int .i64 z,.int .i64 i,(.slice U a.length W)] 41 (0,0)))∧Aside0 (Below w.heap.size w w'))
 case atStart=>exact⟨(cW),(0),rS,H',⟨Nat.le_refl _⟩,⟨mR cZ⟩,⟨mK p⟩,⟨cB⟩⟩
 case round=>
  clear H';(try clear c0 c1 c4 c5);(try clear c6 c8 c9 da);obtain⟨O,b,rfl,HA,HK1,A,p,HB⟩:=hrel
  cases gk with
  | zero=>exact absurd HA.out (by simp[impl_NumsOf.l0])
  | succ k1=>
   have H:=HA.out;clear HA;simp only[impl_NumsOf.l0]at H;by_cases ag:b<(a.length:Int)
   ·rw[if_pos ag]at H;have a1:=decide_eq_true ag;clear ag;replace H:=gD H;obtain⟨e9,H⟩:=H;replace H:=gD H;obtain⟨fa,H⟩:=H;replace H:=gC H;obtain⟨M,H⟩:=H;have dc:=aM M;clear M;obtain⟨dd,b1⟩ : ∃ y_:List Int,Aside0 (y_=(O ++ ((rd_T81 a b).f0))):=⟨_,⟨rfl⟩⟩;rw[← b1.out]at H;have H':=aM H;clear H;have bx:0≤(b:Int):=dA;have bz:b<(a.length:Int):=dA;obtain⟨fb,de,df,dg,dh,di,b5,b8,b9,ca,hl338_0,hi338_0,hl338_1,hi338_1⟩:=at_T81 HR0_3.out b bx bz;cases di;replace b5:=(bc HB b5 :);replace b8:=(bc HB b8 :);replace b9:=(bc HB b9 :);replace ca:=(bc HB ca :);have HR338_0:=aM hi338_0;have HC338_0:=aM hl338_0;clear hi338_0 hl338_0;have HR338_1:=aM hi338_1;have HC338_1:=aM hl338_1;clear hi338_1 hl338_1;replace bx:=eq_true bx;replace bz:=eq_true bz
    go_wp2_with (first|((with_reducible refine gN 5 ?_);refine boxZ 5 #[.slice none 0 0,.slice none 0 0,.int .i64 0,.int .i64 0] 81 ?_;intro fc hg fd hbox hb;replace A:=rB A hb;have aZ:=aM hbox;have GW339:=gS hg;have GE339:=gS hg;replace HB:=sB hb;have dj:=nL hg p;have dk:=nG hg p;replace p:=kB p hb;clear hb hbox hg;have hnb11:=dk.out;have hnc11:=dj.out;obtain⟨fe,ff,fg,fh,fi,fj,fk,fl⟩:=cz4 aZ)|((with_reducible refine gA 14 16 ?_);at_builtin;refine R_append_rows (Kd.int .i64) (w0:=w) w.heap.size rfl (.tmp 14) (.tmp 16) 46 3 (.int .i64 0) 8 rfl Try.underlying46 info3 rfl (by decide) (by omega) u3 O ((rd_T81 a b).f0) _ _ _ (fun _=>True) (fun _=>False) rfl rfl ?aO ?aR (fun _ _ h=>h) (fun _ h=>h.elim) ?aF ?aB ?aS ?aL ?_;(case aR=>exact C_below HR338_0.out cB);(case aB=>exact cB);(case aF=>exact(fun _ _=>trivial));(case aO=>exact(fR (R_types A.out aZ.out (by decide)) (fun _ hk=>trivial)));(case aS=>exact(below_size cB));(case aL=>have:=dc.out;omega);intro fm cV ho hb hg hat;rw[← b1.out]at ho;replace p:=kN p hg A p;replace aZ:=kG aZ hg (R_ne A.out aZ.out (by decide)) (.cells #[.slice de ((rd_T81 a b).f0).length df,.slice dg ((rd_T81 a b).f1).length dh,.int .i64 ((rd_T81 a b).f2),.int .i64 ((rd_T81 a b).f3)] 81 (0,0));replace HB:=aM hb;have dl:=aM ho;clear A ho hb hg hat))
    go_roundg k1
    case measure=>exact oK
    case rel=>exact⟨(dd),(wrap64 (b+1)),rS,H',⟨oK⟩,⟨mR dl⟩,⟨mK p⟩,⟨cB⟩⟩
   ·rw[if_neg ag]at H;have a1:=decide_eq_false ag;clear ag;replace H:=bE H;obtain⟨a5,dm,H⟩:=H;replace H:=bE H;obtain⟨bv,dn,H⟩:=H;obtain rfl:=Option.some.inj H;obtain⟨a6,a7,dp⟩:=R_slice A.out;subst dp
    go_wp2_with (first|((with_reducible refine gF 56 ?_);refine gX (some 20) Try.func56 (slices_Sort_int_int.calls (fun k_=>some k_=(.slice a6 O.length a7:Value).ownBlock) (.slice a6 O.length a7) O a5 w _ cB (R_tight rfl A.out) dm.out) ?_;rintro fn ⟨hy0,hb,hkp⟩;replace p:=aM (blk_kept (mK p) hkp (fun hs_=>(fun e_=>(R_ne A.out p.out (by decide)) e_) hs_));replace A:=aM (R_reok rfl hy0 (fun k_ e_=>A.out.1 k_ e_));replace HB:=aM hb;(try clear hb);(try clear hkp);(try clear hy0))|((with_reducible refine gF 57 ?_);refine gY (some 22) Try.func57 (slices_Compact_int_int.calls (fun k_=>some k_=(.slice a6 O.length a7:Value).ownBlock) (.slice a6 O.length a7) a5 bv w _ cB (R_tight rfl A.out) dn.out) ?_;rintro fo fp ⟨av,hb,hkp⟩;replace p:=aM (blk_kept (mK p) hkp (fun hs_=>(fun e_=>(R_ne A.out p.out (by decide)) e_) hs_));have dq:=aM (R_mono (ok':=fun k_=>True) av (fun k_ hk_=>trivial));replace HB:=aM hb;clear A;(try clear hb);(try clear hkp);(try clear av)))
    go_ret;exact⟨_,rE,mR dq,cB⟩
def impl_word.f (j:Int) (D:Int):Option (ByteArray×Int×Int×Int×Int×ByteArray×ByteArray):=some ((⟨#[]⟩ :ByteArray),j,D,0,0,(⟨#[]⟩ :ByteArray),(⟨#[]⟩ :ByteArray))
set_option maxHeartbeats 8000000 in
set_option maxRecDepth 100000 in
theorem impl_word.calls {j:Int}{D:Int}{r1:ByteArray}{r2:Int}{r3:Int}{r4:Int}{r5:Int}{r6:ByteArray}{r7:ByteArray}{w:World}(h:impl_word.f j D=some (r1,r2,r3,r4,r5,r6,r7)) :
 Calls Try.prog 85 #[.int .i64 j,.int .i64 D] w fun e w'=>e= .returned (.agg #[.string r1,.int .i64 r2,.int .i64 r3,.int .i64 r4,.int .i64 r5,.string r6,.string r7])∧Below w.heap.size w w':=by
 have hu104:=Try.underlying104;have hu34:=Try.underlying34;have HB:=rW w;have H:(some ((⟨#[]⟩ :ByteArray),j,D,0,0,(⟨#[]⟩ :ByteArray),(⟨#[]⟩ :ByteArray)))=some (r1,r2,r3,r4,r5,r6,r7):=h;clear h;simp only[Option.some.injEq,Prod.mk.injEq]at H;obtain⟨rfl,rfl,rfl,rfl,rfl,rfl,rfl⟩:=H;go_enter Try.func85,Try.ntmps85
 go_wp2_with (first|((with_reducible refine gN 4 ?_);refine boxZ 4 #[.string (⟨#[]⟩ :ByteArray),.int .i64 0,.int .i64 0,.int .i64 0,.int .i64 0,.string (⟨#[]⟩ :ByteArray),.string (⟨#[]⟩ :ByteArray)] 104 ?_;intro dr hg cY hbox hb;have cb:=aM hbox;have GW347:=gS hg;have GE347:=gS hg;replace HB:=sB hb;clear hb hbox hg;obtain⟨fq,fr,fs,ft,fu,fv,fw,fx,fy,fz,fA,fB,fC,fD⟩:=cz7 cb))
 refine bodyPost_ret (results_cell_row rfl _ _ dr 104 #[.string (⟨#[]⟩ :ByteArray),.int .i64 j,.int .i64 D,.int .i64 0,.int .i64 0,.string (⟨#[]⟩ :ByteArray),.string (⟨#[]⟩ :ByteArray)] (0,0) _ rfl (kS cb _) Try.underlying104 rfl (by kernel_rfl)) rfl ?_
 exact⟨rE,cB⟩
def impl_ask.f (j:Int) (D:Int) (aw:ByteArray) (ax:ByteArray):Option (ByteArray×Int×Int×Int×Int×ByteArray×ByteArray):=some ((⟨#[]⟩ :ByteArray),j,D,0,0,aw,ax)
set_option maxHeartbeats 8000000 in
set_option maxRecDepth 100000 in
theorem impl_ask.calls {j:Int}{D:Int}{aw:ByteArray}{ax:ByteArray}{r1:ByteArray}{r2:Int}{r3:Int}{r4:Int}{r5:Int}{r6:ByteArray}{r7:ByteArray}{w:World}(h:impl_ask.f j D aw ax=some (r1,r2,r3,r4,r5,r6,r7)) :
 Calls Try.prog 86 #[.int .i64 j,.int .i64 D,.string aw,.string ax] w fun e w'=>e= .returned (.agg #[.string r1,.int .i64 r2,.int .i64 r3,.int .i64 r4,.int .i64 r5,.string r6,.string r7])∧Below w.heap.size w w':=by
 have hu104:=Try.underlying104;have hu34:=Try.underlying34;have HB:=rW w;have H:(some ((⟨#[]⟩ :ByteArray),j,D,0,0,aw,ax))=some (r1,r2,r3,r4,r5,r6,r7):=h;clear h;simp only[Option.some.injEq,Prod.mk.injEq]at H;obtain⟨rfl,rfl,rfl,rfl,rfl,rfl,rfl⟩:=H;go_enter Try.func86,Try.ntmps86
 go_wp2_with (first|((with_reducible refine gN 8 ?_);refine boxZ 8 #[.string (⟨#[]⟩ :ByteArray),.int .i64 0,.int .i64 0,.int .i64 0,.int .i64 0,.string (⟨#[]⟩ :ByteArray),.string (⟨#[]⟩ :ByteArray)] 104 ?_;intro ds hg fE hbox hb;have cc:=aM hbox;have GW348:=gS hg;have GE348:=gS hg;replace HB:=sB hb;clear hb hbox hg;obtain⟨fF,fG,fH,fI,fJ,fK,fL,fM,fN,fO,fP,fS,fT,fU⟩:=cz7 cc))
 refine bodyPost_ret (results_cell_row rfl _ _ ds 104 #[.string (⟨#[]⟩ :ByteArray),.int .i64 j,.int .i64 D,.int .i64 0,.int .i64 0,.string aw,.string ax] (0,0) _ rfl (kS cc _) Try.underlying104 rfl (by kernel_rfl)) rfl ?_
 exact⟨rE,cB⟩
def impl_place.f (j:ByteArray):Option (ByteArray×Int×Int×Int×Int×ByteArray×ByteArray):=some (j,0,0,0,0,(⟨#[]⟩ :ByteArray),(⟨#[]⟩ :ByteArray))
set_option maxHeartbeats 8000000 in
set_option maxRecDepth 100000 in
theorem impl_place.calls {j:ByteArray}{r1:ByteArray}{r2:Int}{r3:Int}{r4:Int}{r5:Int}{r6:ByteArray}{r7:ByteArray}{w:World}(h:impl_place.f j=some (r1,r2,r3,r4,r5,r6,r7)) :
 Calls Try.prog 87 #[.string j] w fun e w'=>e= .returned (.agg #[.string r1,.int .i64 r2,.int .i64 r3,.int .i64 r4,.int .i64 r5,.string r6,.string r7])∧Below w.heap.size w w':=by
 have hu104:=Try.underlying104;have HB:=rW w;have H:(some (j,0,0,0,0,(⟨#[]⟩ :ByteArray),(⟨#[]⟩ :ByteArray)))=some (r1,r2,r3,r4,r5,r6,r7):=h;clear h;simp only[Option.some.injEq,Prod.mk.injEq]at H;obtain⟨rfl,rfl,rfl,rfl,rfl,rfl,rfl⟩:=H;go_enter Try.func87,Try.ntmps87
 go_wp2_with (first|((with_reducible refine gN 2 ?_);refine boxZ 2 #[.string (⟨#[]⟩ :ByteArray),.int .i64 0,.int .i64 0,.int .i64 0,.int .i64 0,.string (⟨#[]⟩ :ByteArray),.string (⟨#[]⟩ :ByteArray)] 104 ?_;intro dt hg ba hbox hb;have cd:=aM hbox;have GW349:=gS hg;have GE349:=gS hg;replace HB:=sB hb;clear hb hbox hg;obtain⟨aD,aE,aG,aH,fV,fW,fX,aI,aJ,aK,aN,fY,fZ,f4⟩:=cz7 cd))
 refine bodyPost_ret (results_cell_row rfl _ _ dt 104 #[.string j,.int .i64 0,.int .i64 0,.int .i64 0,.int .i64 0,.string (⟨#[]⟩ :ByteArray),.string (⟨#[]⟩ :ByteArray)] (0,0) _ rfl (kS cd _) Try.underlying104 rfl (by kernel_rfl)) rfl ?_
 exact⟨rE,cB⟩
end Go.Proofs.Ytpbalojiaghfhaa.PFnCompilesSmall
