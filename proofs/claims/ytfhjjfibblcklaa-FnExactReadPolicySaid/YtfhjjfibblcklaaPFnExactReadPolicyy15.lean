import Derived.Test.YtfhjjfibblcklaaPFnExactReadPolicyy0
import Derived.Test.YtfhjjfibblcklaaPFnExactReadPolicyy14
namespace Go.Proofs.Ytfhjjfibblcklaa.PFnExactReadPolicy
open Go.RowKit Go.Proofs.YtfhjjfibblcklaaW.PrintWords Go.Proofs.YtfhjjfibblcklaaW.PrintLast Go.Proofs.YtfhjjfibblcklaaW.PrintMore Go.Proofs.YtfhjjfibblcklaaW.Z
open Kd
attribute [local go_sem] isS max2_int min2_int max_two min_two max_three min_three max_four min_four
set_option linter.unusedVariables false
set_option linter.unusedSimpArgs false
mutual
def impl_ruleOk.l0:Nat→List Int→Int→Int→List Int→List (S66)→Int→Int→Option (Bool)
  | 0,_,_,_,_,_,_,_=>none
  | k+1,p,aG,t,y,z,aa,ab=>if t<aG then(if 0≤t then(if t<(p.length:Int)then((impl_HalfOk.f (rd p t)).bind fun aH=>(if aH=true then(if t>0 then(if 0≤(wrap64 (t - 1))then(if(wrap64 (t - 1))<(y.length:Int)then(if(rd y (wrap64 (t - 1)))≥(rd p t)then(some false)else(impl_ruleOk.l0 k p aG (wrap64 (t+1)) y z aa ab))else(none))else(none))else(impl_ruleOk.l0 k p aG (wrap64 (t+1)) y z aa ab))else(some false)))else(none))else(none))else(impl_ruleOk.l1 k z (z.length:Int) 0 y z aa ab)
def impl_ruleOk.l1:Nat→List (S66)→Int→Int→List Int→List (S66)→Int→Int→Option (Bool)
  | 0,_,_,_,_,_,_,_=>none
  | k+1,A,a0,u,y,z,aa,ab=>if u<a0 then(if 0≤u then(if u<(A.length:Int)then((impl_CondOk.f ((rd_T66 A u).f0) ((rd_T66 A u).f1.f0) ((rd_T66 A u).f1.f1) ((rd_T66 A u).f2) ((rd_T66 A u).f3.f0) ((rd_T66 A u).f3.f1)).bind fun aI=>(if aI=true then(impl_ruleOk.l1 k A a0 (wrap64 (u+1)) y z aa ab)else(some false)))else(none))else(none))else(if(y.length:Int)≤4 then(if(z.length:Int)≤3 then((impl_actionOk.f aa ab).bind fun a1=>(some a1))else(some false))else(some false))
end
def impl_ruleOk.f (k:Nat) (a:List Int) (b:List (S66)) (i:Int) (v:Int):Option (Bool):=impl_ruleOk.l0 k a (a.length:Int) 0 a b i v
set_option maxHeartbeats 8000000 in
set_option maxRecDepth 100000 in
theorem impl_ruleOk.calls {k:Nat}{ah:Option Addr}{ai:Nat}{a:List Int}{aj:Option Addr}{ak:Nat}{b:List (S66)}{i:Int}{v:Int}{r:Bool}{w:World}(h:impl_ruleOk.f k a b i v=some r)(a2:Kd.C (Kd.int .i64) w ah a.length a)(a3:a.length≤ai)(a4:Kd.C k66 w aj b.length b)(a5:b.length≤ak) :
 Calls Try.prog 46 #[.agg #[.slice ah a.length ai,.slice aj b.length ak,.int .i64 i,.int .i64 v]] w fun e w'=>e= .returned (.bool r)∧Below w.heap.size w w':=by
 have hu43:=Try.underlying43;have hu66:=Try.underlying66;have HR0_0:=aM a2;have HC0_0:=aM a3;clear a2 a3;have HR0_1:=aM a4;have HC0_1:=aM a5;clear a4 a5;have HB:=rW w;have H:(impl_ruleOk.l0 k a (a.length:Int) 0 a b i v)=some r:=h;clear h;have H':=aM H;clear H;go_enter Try.func46,Try.ntmps46
 go_wp2_with (first|((with_reducible refine gN 1 ?_);(try(refine gate_guard (by rfl) ?_;dsimp only));refine boxZ 1 #[.slice ah a.length ai,.slice aj b.length ak,.int .i64 i,.int .i64 v] 43 ?_;intro a6 hg bu hbox hb;have d:=aM hbox;have GW581:=gS hg;have GE581:=gS hg;replace HB:=sB hb;clear hb hbox hg;obtain⟨aq,ar,au,av,aw,ax,ay,az⟩:=cz4 d))
 go_loopg [10] k (fun kq bv w'=> ∃ (g:Int),bv= .int .i64 g∧Aside0 (impl_ruleOk.l0 kq a (a.length:Int) g a b i v=some r)∧Aside0 (kq≤k)∧Aside0 (w'.heap[a6]?=some (.cells #[(.slice ah a.length ai),(.slice aj b.length ak),.int .i64 i,.int .i64 v] 43 (0,0)))∧Aside0 (Below w.heap.size w w'))
 case atStart=>exact⟨(0),rS,H',⟨Nat.le_refl _⟩,⟨mK d⟩,⟨cB⟩⟩
 case round=>
  clear H';(try clear aq ar au av);(try clear aw ax ay az);obtain⟨g,rfl,HA,HK1,d,HB⟩:=hrel
  cases gk with
  | zero=>exact absurd HA.out (by simp[impl_ruleOk.l0])
  | succ k1=>
   have H:=HA.out;clear HA;simp only[impl_ruleOk.l0]at H;by_cases q:g<(a.length:Int)
   ·rw[if_pos q]at H;have aA:=decide_eq_true q;clear q;replace H:=gD H;obtain⟨a7,H⟩:=H;replace H:=gD H;obtain⟨a8,H⟩:=H;replace H:=bE H;obtain⟨aH,D,H⟩:=H;by_cases x:aH=true
    ·subst x;replace H:=iT H;by_cases L:g>0
     ·rw[if_pos L]at H;have a9:decide (0<g)=true:=decide_eq_true L;clear L;obtain⟨ji10,hji10⟩ : ∃ j_:Int,(wrap64 (g - 1))=j_:=⟨_,rfl⟩
      (first|rw[hji10]at H|simp only[hji10]at H)
      (try rw[hji10]at D);have hji10w:(IntKind.i64.wrap (g - 1))=ji10:=(i64_w _).trans hji10;replace H:=gD H;obtain⟨bw,H⟩:=H;replace H:=gD H;obtain⟨bx,H⟩:=H;by_cases M:(rd a (ji10))≥(rd a g)
      ·rw[if_pos M]at H;have ba:decide ((rd a g)≤(rd a (ji10)))=true:=decide_eq_true M;clear M;obtain rfl:=Option.some.inj H;have n:0≤(g:Int):=dA;have o:g<(a.length:Int):=dA;obtain⟨al,O,s⟩:=at_int HR0_0.out g n o;cases O;replace s:=(bc HB s :);replace n:=eq_true n;replace o:=eq_true o
       go_wp2_with (first|((with_reducible refine gF 47 ?_);refine gX (some 16) Try.func47 (impl_HalfOk.calls D.out) ?_;rintro w' ⟨nd,rfl⟩;obtain⟨bz,bA,bB,bC,bD,bF,bG,bH⟩:=cz4 d;have E:0≤((ji10):Int):=dA;have G:(ji10)<(a.length:Int):=dA;obtain⟨aJ,aK,ac⟩:=at_int HR0_0.out (ji10) E G;obtain rfl:al=aJ:=(by injection aK);replace ac:=(bc HB ac :);replace E:=eq_true E;replace G:=eq_true G))
       go_ret
       exact⟨by first|rfl|(simp[errW_none,errW_some] <;> rfl)|(simp only[← hji10];first|rfl|(simp[errW_none,errW_some] <;> rfl))|(simp[*,errW_none,errW_some] <;> rfl),cB⟩
      ·rw[if_neg M]at H;have ba:decide ((rd a g)≤(rd a (ji10)))=false:=decide_eq_false M;clear M;have H':=aM H;clear H;have n:0≤(g:Int):=dA;have o:g<(a.length:Int):=dA;obtain⟨al,O,s⟩:=at_int HR0_0.out g n o;cases O;replace s:=(bc HB s :);replace n:=eq_true n;replace o:=eq_true o
       go_wp2_with (first|((with_reducible refine gF 47 ?_);refine gX (some 16) Try.func47 (impl_HalfOk.calls D.out) ?_;rintro w' ⟨nd,rfl⟩;obtain⟨bb,bd,be,bf,bg,bh,bi,bj⟩:=cz4 d;have E:0≤((ji10):Int):=dA;have G:(ji10)<(a.length:Int):=dA;obtain⟨aJ,aK,ac⟩:=at_int HR0_0.out (ji10) E G;obtain rfl:al=aJ:=(by injection aK);replace ac:=(bc HB ac :);replace E:=eq_true E;replace G:=eq_true G))
       go_roundg k1
       case measure=>exact oK
       case rel=>exact⟨(wrap64 (g+1)),rS,H',⟨oK⟩,⟨mK d⟩,⟨cB⟩⟩
     ·rw[if_neg L]at H;have a9:decide (0<g)=false:=decide_eq_false L;clear L;have H':=aM H;clear H;have n:0≤(g:Int):=dA;have o:g<(a.length:Int):=dA;obtain⟨al,O,s⟩:=at_int HR0_0.out g n o;cases O;replace s:=(bc HB s :);replace n:=eq_true n;replace o:=eq_true o
      go_wp2_with (first|((with_reducible refine gF 47 ?_);refine gX (some 16) Try.func47 (impl_HalfOk.calls D.out) ?_;rintro w' ⟨nd,rfl⟩))
      go_roundg k1
      case measure=>exact oK
      case rel=>exact⟨(wrap64 (g+1)),rS,H',⟨oK⟩,⟨mK d⟩,⟨cB⟩⟩
    ·replace x:=Bool.eq_false_iff.mpr x;subst x;replace H:=iF H;obtain rfl:=Option.some.inj H;have n:0≤(g:Int):=dA;have o:g<(a.length:Int):=dA;obtain⟨al,O,s⟩:=at_int HR0_0.out g n o;cases O;replace s:=(bc HB s :);replace n:=eq_true n;replace o:=eq_true o
     go_wp2_with (first|((with_reducible refine gF 47 ?_);refine gX (some 16) Try.func47 (impl_HalfOk.calls D.out) ?_;rintro w' ⟨nd,rfl⟩))
     go_ret;exact⟨rE,cB⟩
   ·rw[if_neg q]at H;have aA:=decide_eq_false q;clear q;have H':=aM H;clear H;obtain⟨bI,bJ,bL,bM,bN,bO,bP,bQ⟩:=cz4 d;go_wp2
    go_loopg [36] k1 (fun kq bR w'=> ∃ (j:Int),bR= .int .i64 j∧Aside0 (impl_ruleOk.l1 kq b (b.length:Int) j a b i v=some r)∧Aside0 (kq≤k1)∧Aside0 (w'.heap[a6]?=some (.cells #[(.slice ah a.length ai),(.slice aj b.length ak),.int .i64 i,.int .i64 v] 43 (0,0)))∧Aside0 (Below w.heap.size w w'))
    case atStart=>exact⟨(0),rS,H',⟨Nat.le_refl _⟩,⟨mK d⟩,⟨cB⟩⟩
    case round=>
     clear H';(try clear q);(try clear aA);(try clear ch);(try clear a7);(try clear ci);(try clear a8);(try clear x);(try clear L);(try clear a9);(try clear cj);(try clear bw);(try clear ck);(try clear bx);(try clear M);(try clear ba);(try clear bz bA bB bC);(try clear bb bd be bf);(try clear bI bJ bL bM);(try clear aq ar au av);(try clear bD bF bG bH);(try clear bg bh bi bj);(try clear bN bO bP bQ);(try clear aw ax ay az);(try clear s);(try clear ac);(try clear n);(try clear E);(try clear o);(try clear G);obtain⟨j,rfl,HA,HK2,d,HB⟩:=hrel
     cases gk with
     | zero=>exact absurd HA.out (by simp[impl_ruleOk.l1])
     | succ k2=>
      have H:=HA.out;clear HA;simp only[impl_ruleOk.l1]at H;by_cases ad:j<(b.length:Int)
      ·rw[if_pos ad]at H;have bS:=decide_eq_true ad;clear ad;replace H:=gD H;obtain⟨cl,H⟩:=H;replace H:=gD H;obtain⟨cm,H⟩:=H;replace H:=bE H;obtain⟨aI,bk,H⟩:=H;by_cases aB:aI=true
       ·subst aB;replace H:=iT H;have H':=aM H;clear H;obtain⟨bT,bU,bV,aL,bW,bX,bY,bZ,b0,b1⟩:=b6 HB (at_T66 HR0_1.out j);cases aL
        go_wp2_with (first|((with_reducible refine gN 6 ?_);(try(refine gate_guard (by rfl) ?_;dsimp only));refine boxZ 6 #[.int .i64 0,.int .i64 0,.int .i64 0,.int .i64 0,.int .i64 0,.int .i64 0] 66 ?_;intro b5 hg cn hbox hb;have U:=aM hbox;have GW586:=gS hg;have GE586:=gS hg;replace HB:=sB hb;have aN:=nL hg d;have aO:=nG hg d;replace d:=kB d hb;clear hb hbox hg;have hnb23:=aO.out;have hnc23:=aN.out;obtain⟨co,cp,cq,cr,cs,ct,cu,cv,cw,cx,cy,cz⟩:=cz6 U)|((with_reducible refine gF 71 ?_);refine gX (some 41) Try.func71 (impl_CondOk.calls bk.out) ?_;intro cA hb;replace d:=kB d hb;replace U:=kP U hb (.cells #[.int .i64 ((rd_T66 b j).f0),.int .i64 ((rd_T66 b j).f1.f0),.int .i64 ((rd_T66 b j).f1.f1),.int .i64 ((rd_T66 b j).f2),.int .i64 ((rd_T66 b j).f3.f0),.int .i64 ((rd_T66 b j).f3.f1)] 66 (0,0));replace HB:=sB hb;(try clear hb)))
        go_roundg k2
        case measure=>have:=HK1.out;have:=HK2.out;omega
        case rel=>exact⟨(wrap64 (j+1)),rS,H',⟨by have:=HK1.out;have:=HK2.out;omega⟩,⟨mK d⟩,⟨cB⟩⟩
       ·replace aB:=Bool.eq_false_iff.mpr aB;subst aB;replace H:=iF H;obtain rfl:=Option.some.inj H;obtain⟨bT,bU,bV,aL,bW,bX,bY,bZ,b0,b1⟩:=b6 HB (at_T66 HR0_1.out j);cases aL
        go_wp2_with (first|((with_reducible refine gN 6 ?_);(try(refine gate_guard (by rfl) ?_;dsimp only));refine boxZ 6 #[.int .i64 0,.int .i64 0,.int .i64 0,.int .i64 0,.int .i64 0,.int .i64 0] 66 ?_;intro b5 hg cD hbox hb;have U:=aM hbox;have GW586:=gS hg;have GE586:=gS hg;replace HB:=sB hb;have aN:=nL hg d;have aO:=nG hg d;replace d:=kB d hb;clear hb hbox hg;have hnb27:=aO.out;have hnc27:=aN.out;obtain⟨cE,cF,cG,cI,cJ,cL,cM,cN,cO,cP,cQ,cR⟩:=cz6 U)|((with_reducible refine gF 71 ?_);refine gX (some 41) Try.func71 (impl_CondOk.calls bk.out) ?_;intro cS hb;replace d:=kB d hb;replace U:=kP U hb (.cells #[.int .i64 ((rd_T66 b j).f0),.int .i64 ((rd_T66 b j).f1.f0),.int .i64 ((rd_T66 b j).f1.f1),.int .i64 ((rd_T66 b j).f2),.int .i64 ((rd_T66 b j).f3.f0),.int .i64 ((rd_T66 b j).f3.f1)] 66 (0,0));replace HB:=sB hb;(try clear hb)))
        go_ret;exact⟨rE,cB⟩
      ·rw[if_neg ad]at H;have bS:=decide_eq_false ad;clear ad;by_cases ae:(a.length:Int)≤4
       ·rw[if_pos ae]at H;have b8:=decide_eq_true ae
        have b9:decide (a.length≤4)=true:=decide_eq_true (by omega)
        clear ae;by_cases af:(b.length:Int)≤3
        ·rw[if_pos af]at H;have ca:=decide_eq_true af
         have cb:decide (b.length≤3)=true:=decide_eq_true (by omega)
         clear af;replace H:=bE H;obtain⟨a1,cc,H⟩:=H;obtain rfl:=Option.some.inj H;obtain⟨cT,cU,cV,cW,cX,cY,cZ,c0⟩:=cz4 d
         go_wp2_with (first|(go_at_call 48;(with_reducible refine(impl_actionOk.calls cc.out).mono ?_);rintro e w' ⟨rfl,⟨nd,rfl⟩⟩))
         go_ret;exact⟨rE,cB⟩
        ·rw[if_neg af]at H;have ca:=decide_eq_false af
         have cb:decide (b.length≤3)=false:=decide_eq_false (by omega)
         clear af;obtain rfl:=Option.some.inj H;obtain⟨c1,c4,c5,c6,c8,c9,da,db⟩:=cz4 d;go_wp2;go_ret;exact⟨rE,cB⟩
       ·rw[if_neg ae]at H;have b8:=decide_eq_false ae
        have b9:decide (a.length≤4)=false:=decide_eq_false (by omega)
        clear ae;obtain rfl:=Option.some.inj H;obtain⟨dc,dd,de,df,dg,dh,di,dj⟩:=cz4 d;go_wp2;go_ret;exact⟨rE,cB⟩
def impl_PolicyOk.l0:Nat→List (S43)→Int→Int→Int→Int→Int→List (S43)→Option (Bool)
  | 0,_,_,_,_,_,_,_=>none
  | k+1,ag,bl,p,bm,bn,bo,bp=>if p<bl then(if 0≤p then(if p<(ag.length:Int)then((impl_ruleOk.f k ((rd_T43 ag p).f0) ((rd_T43 ag p).f1) ((rd_T43 ag p).f2) ((rd_T43 ag p).f3)).bind fun aP=>(if aP=true then(impl_PolicyOk.l0 k ag bl (wrap64 (p+1)) bm bn bo bp)else(some false)))else(none))else(none))else((impl_HalfOk.f bm).bind fun aQ=>(if aQ=true then((impl_actionOk.f bn bo).bind fun aR=>(if aR=true then(some (decide ((bp.length:Int)≤10)))else(some false)))else(some false)))
def impl_PolicyOk.f (k:Nat) (I:Int) (J:Int) (i:Int) (c:List (S43)):Option (Bool):=impl_PolicyOk.l0 k c (c.length:Int) 0 I J i c
set_option maxHeartbeats 8000000 in
set_option maxRecDepth 100000 in
theorem impl_PolicyOk.calls {k:Nat}{I:Int}{J:Int}{i:Int}{aC:Option Addr}{aD:Nat}{c:List (S43)}{r:Bool}{w:World}(h:impl_PolicyOk.f k I J i c=some r)(bq:Kd.C k43 w aC c.length c)(br:c.length≤aD) :
 Calls Try.prog 20 #[.agg #[.int .i64 I,.int .i64 J,.int .i64 i,.slice aC c.length aD]] w fun e w'=>e= .returned (.bool r)∧Below w.heap.size w w':=by
 have hu24:=Try.underlying24;have hu43:=Try.underlying43;have HR0_3:=aM bq;have HC0_3:=aM br;clear bq br;have HB:=rW w;have H:(impl_PolicyOk.l0 k c (c.length:Int) 0 I J i c)=some r:=h;clear h;have H':=aM H;clear H;go_enter Try.func20,Try.ntmps20
 go_wp2_with (first|((with_reducible refine gN 1 ?_);(try(refine gate_guard (by rfl) ?_;dsimp only));refine boxZ 1 #[.int .i64 I,.int .i64 J,.int .i64 i,.slice aC c.length aD] 24 ?_;intro cd hg bu hbox hb;have l:=aM hbox;have GW589:=gS hg;have GE589:=gS hg;replace HB:=sB hb;clear hb hbox hg;obtain⟨aq,ar,au,av,aw,ax,ay,az⟩:=cz4 l))
 go_loopg [8] k (fun kq ce w'=> ∃ (m:Int),ce= .int .i64 m∧Aside0 (impl_PolicyOk.l0 kq c (c.length:Int) m I J i c=some r)∧Aside0 (kq≤k)∧Aside0 (w'.heap[cd]?=some (.cells #[.int .i64 I,.int .i64 J,.int .i64 i,(.slice aC c.length aD)] 24 (0,0)))∧Aside0 (Below w.heap.size w w'))
 case atStart=>exact⟨(0),rS,H',⟨Nat.le_refl _⟩,⟨mK l⟩,⟨cB⟩⟩
 case round=>
  clear H';(try clear aq ar au av);(try clear aw ax ay az);obtain⟨m,rfl,HA,HK1,l,HB⟩:=hrel
  cases gk with
  | zero=>exact absurd HA.out (by simp[impl_PolicyOk.l0])
  | succ k1=>
   have H:=HA.out;clear HA;simp only[impl_PolicyOk.l0]at H;by_cases q:m<(c.length:Int)
   ·rw[if_pos q]at H;have aA:=decide_eq_true q;clear q;replace H:=gD H;obtain⟨a7,H⟩:=H;replace H:=gD H;obtain⟨a8,H⟩:=H;replace H:=bE H;obtain⟨aP,D,H⟩:=H;by_cases x:aP=true
    ·subst x;replace H:=iT H;have H':=aM H;clear H;have W:0≤(m:Int):=dA;have X:m<(c.length:Int):=dA;obtain⟨cf,aS,aT,aU,aV,aW,am,an,ao,ap,hl590_0,hi590_0,hl590_1,hi590_1⟩:=at_T43 HR0_3.out m W X;cases aW;replace am:=(bc HB am :);replace an:=(bc HB an :);replace ao:=(bc HB ao :);replace ap:=(bc HB ap :);have HR590_0:=aM hi590_0;have HC590_0:=aM hl590_0;clear hi590_0 hl590_0;have HR590_1:=aM hi590_1;have HC590_1:=aM hl590_1;clear hi590_1 hl590_1;replace W:=eq_true W;replace X:=eq_true X
     go_wp2_with (first|((with_reducible refine gN 4 ?_);(try(refine gate_guard (by rfl) ?_;dsimp only));refine boxZ 4 #[.slice none 0 0,.slice none 0 0,.int .i64 0,.int .i64 0] 43 ?_;intro cg hg dk hbox hb;have Y:=aM hbox;have GW591:=gS hg;have GE591:=gS hg;replace HB:=sB hb;have aX:=nL hg l;have aY:=nG hg l;replace l:=kB l hb;clear hb hbox hg;have hnb10:=aY.out;have hnc10:=aX.out;obtain⟨dl,dm,dn,dp,dq,dr,ds,dt⟩:=cz4 Y)|((with_reducible refine gF 46 ?_);refine gX (some 13) Try.func46 (impl_ruleOk.calls D.out (C_below HR590_0.out cB) HC590_0.out (C_below HR590_1.out cB) HC590_1.out) ?_;intro du hb;replace l:=kB l hb;replace Y:=kP Y hb (.cells #[.slice aS ((rd_T43 c m).f0).length aT,.slice aU ((rd_T43 c m).f1).length aV,.int .i64 ((rd_T43 c m).f2),.int .i64 ((rd_T43 c m).f3)] 43 (0,0));replace HB:=sB hb;(try clear hb)))
     go_roundg k1
     case measure=>exact oK
     case rel=>exact⟨(wrap64 (m+1)),rS,H',⟨oK⟩,⟨mK l⟩,⟨cB⟩⟩
    ·replace x:=Bool.eq_false_iff.mpr x;subst x;replace H:=iF H;obtain rfl:=Option.some.inj H;have W:0≤(m:Int):=dA;have X:m<(c.length:Int):=dA;obtain⟨cf,aS,aT,aU,aV,aW,am,an,ao,ap,hl590_0,hi590_0,hl590_1,hi590_1⟩:=at_T43 HR0_3.out m W X;cases aW;replace am:=(bc HB am :);replace an:=(bc HB an :);replace ao:=(bc HB ao :);replace ap:=(bc HB ap :);have HR590_0:=aM hi590_0;have HC590_0:=aM hl590_0;clear hi590_0 hl590_0;have HR590_1:=aM hi590_1;have HC590_1:=aM hl590_1;clear hi590_1 hl590_1;replace W:=eq_true W;replace X:=eq_true X
     go_wp2_with (first|((with_reducible refine gN 4 ?_);(try(refine gate_guard (by rfl) ?_;dsimp only));refine boxZ 4 #[.slice none 0 0,.slice none 0 0,.int .i64 0,.int .i64 0] 43 ?_;intro cg hg dv hbox hb;have Y:=aM hbox;have GW591:=gS hg;have GE591:=gS hg;replace HB:=sB hb;have aX:=nL hg l;have aY:=nG hg l;replace l:=kB l hb;clear hb hbox hg;have hnb14:=aY.out;have hnc14:=aX.out;obtain⟨bb,bd,be,bf,bg,bh,bi,bj⟩:=cz4 Y)|((with_reducible refine gF 46 ?_);refine gX (some 13) Try.func46 (impl_ruleOk.calls D.out (C_below HR590_0.out cB) HC590_0.out (C_below HR590_1.out cB) HC590_1.out) ?_;intro dw hb;replace l:=kB l hb;replace Y:=kP Y hb (.cells #[.slice aS ((rd_T43 c m).f0).length aT,.slice aU ((rd_T43 c m).f1).length aV,.int .i64 ((rd_T43 c m).f2),.int .i64 ((rd_T43 c m).f3)] 43 (0,0));replace HB:=sB hb;(try clear hb)))
     go_ret;exact⟨rE,cB⟩
   ·rw[if_neg q]at H;have aA:=decide_eq_false q;clear q;replace H:=bE H;obtain⟨aQ,aZ,H⟩:=H;by_cases aE:aQ=true
    ·subst aE;replace H:=iT H;replace H:=bE H;obtain⟨aR,bs,H⟩:=H;by_cases aF:aR=true
     ·subst aF;replace H:=iT H;obtain rfl:=Option.some.inj H;obtain⟨dx,dy,dz,dC,dD,dE,dF,dG⟩:=cz4 l
      go_wp2_with (first|((with_reducible refine gF 47 ?_);refine gX (some 18) Try.func47 (impl_HalfOk.calls aZ.out) ?_;rintro w' ⟨nd,rfl⟩)|(go_at_call 48;(with_reducible refine(impl_actionOk.calls bs.out).mono ?_);rintro e w' ⟨rfl,⟨nd,rfl⟩⟩))
      go_ret;exact⟨rE,cB⟩
     ·replace aF:=Bool.eq_false_iff.mpr aF;subst aF;replace H:=iF H;obtain rfl:=Option.some.inj H;obtain⟨dH,dI,dJ,dK,dL,dM,dN,dO⟩:=cz4 l
      go_wp2_with (first|((with_reducible refine gF 47 ?_);refine gX (some 18) Try.func47 (impl_HalfOk.calls aZ.out) ?_;rintro w' ⟨nd,rfl⟩)|(go_at_call 48;(with_reducible refine(impl_actionOk.calls bs.out).mono ?_);rintro e w' ⟨rfl,⟨nd,rfl⟩⟩))
      go_ret;exact⟨rE,cB⟩
    ·replace aE:=Bool.eq_false_iff.mpr aE;subst aE;replace H:=iF H;obtain rfl:=Option.some.inj H;obtain⟨dP,dQ,dS,dT,dU,dV,dX,dY⟩:=cz4 l
     go_wp2_with (first|((with_reducible refine gF 47 ?_);refine gX (some 18) Try.func47 (impl_HalfOk.calls aZ.out) ?_;rintro w' ⟨nd,rfl⟩))
     go_ret;exact⟨rE,cB⟩
end Go.Proofs.Ytfhjjfibblcklaa.PFnExactReadPolicy
