import Derived.Test.YtpbalojiaghfhaaGreatPFnCompilesToldy0
import Derived.Test.YtpbalojiaghfhaaGreatPFnCompilesToldy3
import Derived.Test.YtpbalojiaghfhaaGreatPFnCompilesToldy7
namespace Go.Proofs.YtpbalojiaghfhaaGreat.PFnCompilesTold
open Go.RowKit Go.Proofs.YtpbalojiaghfhaaGreatW.PrintWords Go.Proofs.YtpbalojiaghfhaaGreatW.PrintLast Go.Proofs.YtpbalojiaghfhaaGreatW.PrintMore Go.Proofs.YtpbalojiaghfhaaGreatW.Z
open Kd
attribute [local go_sem] isS max2_int min2_int max_two min_two max_three min_three max_four min_four
set_option linter.unusedVariables false
set_option linter.unusedSimpArgs false
mutual
def impl_ruleOk.l0:Nat→List Int→Int→Int→List Int→List (S118)→Int→Int→Option (Bool)
  | 0,_,_,_,_,_,_,_=>none
  | k+1,v,aT,A,I,J,af,ag=>if A<aT then(if 0≤A then(if A<(v.length:Int)then((impl_HalfOk.f (rd v A)).bind fun aU=>(if aU=true then(if A>0 then(if 0≤(wrap64 (A - 1))then(if(wrap64 (A - 1))<(I.length:Int)then(if(rd I (wrap64 (A - 1)))≥(rd v A)then(some false)else(impl_ruleOk.l0 k v aT (wrap64 (A+1)) I J af ag))else(none))else(none))else(impl_ruleOk.l0 k v aT (wrap64 (A+1)) I J af ag))else(some false)))else(none))else(none))else(impl_ruleOk.l1 k J (J.length:Int) 0 I J af ag)
def impl_ruleOk.l1:Nat→List (S118)→Int→Int→List Int→List (S118)→Int→Int→Option (Bool)
  | 0,_,_,_,_,_,_,_=>none
  | k+1,L,bj,G,I,J,af,ag=>if G<bj then(if 0≤G then(if G<(L.length:Int)then((impl_CondOk.f ((rd_T118 L G).f0) ((rd_T118 L G).f1.f0) ((rd_T118 L G).f1.f1) ((rd_T118 L G).f2) ((rd_T118 L G).f3.f0) ((rd_T118 L G).f3.f1)).bind fun aV=>(if aV=true then(impl_ruleOk.l1 k L bj (wrap64 (G+1)) I J af ag)else(some false)))else(none))else(none))else(if(I.length:Int)≤4 then(if(J.length:Int)≤3 then((impl_actionOk.f af ag).bind fun bk=>(some bk))else(some false))else(some false))
end
def impl_ruleOk.f (k:Nat) (a:List Int) (b:List (S118)) (i:Int) (t:Int):Option (Bool):=impl_ruleOk.l0 k a (a.length:Int) 0 a b i t
set_option maxHeartbeats 8000000 in
set_option maxRecDepth 100000 in
theorem impl_ruleOk.calls {k:Nat}{ao:Option Addr}{ap:Nat}{a:List Int}{aq:Option Addr}{ar:Nat}{b:List (S118)}{i:Int}{t:Int}{r:Bool}{w:World}(h:impl_ruleOk.f k a b i t=some r)(bl:Kd.C (Kd.int .i64) w ao a.length a)(bm:a.length≤ap)(bn:Kd.C k118 w aq b.length b)(bo:b.length≤ar) :
 Calls Tryz.prog 74 #[.agg #[.slice ao a.length ap,.slice aq b.length ar,.int .i64 i,.int .i64 t]] w fun e w'=>e= .returned (.bool r)∧Below w.heap.size w w':=by
 have hu78:=Tryz.underlying78;have hu118:=Tryz.underlying118;have HR0_0:=aM bl;have HC0_0:=aM bm;clear bl bm;have HR0_1:=aM bn;have HC0_1:=aM bo;clear bn bo;have HB:=rW w;have H:(impl_ruleOk.l0 k a (a.length:Int) 0 a b i t)=some r:=h;clear h;have H':=aM H;clear H;go_enter Tryz.func74,Tryz.ntmps74
 go_wp2_with (first|((with_reducible refine gN 1 ?_);(try(refine gate_guard (by rfl) ?_;dsimp only));refine boxZ 1 #[.slice ao a.length ap,.slice aq b.length ar,.int .i64 i,.int .i64 t] 78 ?_;intro bp hg bq hbox hb;have d:=aM hbox;have GW498:=gS hg;have GE498:=gS hg;replace HB:=sB hb;clear hb hbox hg;obtain⟨au,av,aw,ax,ay,az,aA,aB⟩:=cz4 d))
 go_loopg [10] k (fun kq b1 w'=> ∃ (g:Int),b1= .int .i64 g∧Aside0 (impl_ruleOk.l0 kq a (a.length:Int) g a b i t=some r)∧Aside0 (kq≤k)∧Aside0 (w'.heap[bp]?=some (.cells #[(.slice ao a.length ap),(.slice aq b.length ar),.int .i64 i,.int .i64 t] 78 (0,0)))∧Aside0 (Below w.heap.size w w'))
 case atStart=>exact⟨(0),rS,H',⟨Nat.le_refl _⟩,⟨mK d⟩,⟨cB⟩⟩
 case round=>
  clear H';(try clear au av aw ax);(try clear ay az aA aB);obtain⟨g,rfl,HA,HK1,d,HB⟩:=hrel
  cases gk with
  | zero=>exact absurd HA.out (by simp[impl_ruleOk.l0])
  | succ k1=>
   have H:=HA.out;clear HA;simp only[impl_ruleOk.l0]at H;by_cases j:g<(a.length:Int)
   ·rw[if_pos j]at H;have ah:=decide_eq_true j;clear j;replace H:=gD H;obtain⟨aW,H⟩:=H;replace H:=gD H;obtain⟨br,H⟩:=H;replace H:=bE H;obtain⟨aU,M,H⟩:=H;by_cases o:aU=true
    ·subst o;replace H:=iT H;by_cases W:g>0
     ·rw[if_pos W]at H;have bs:decide (0<g)=true:=decide_eq_true W;clear W;obtain⟨ji10,hji10⟩ : ∃ j_:Int,(wrap64 (g - 1))=j_:=⟨_,rfl⟩
      (first|rw[hji10]at H|simp only[hji10]at H)
      (try rw[hji10]at M);have hji10w:(IntKind.i64.wrap (g - 1))=ji10:=(i64_w _).trans hji10;replace H:=gD H;obtain⟨b5,H⟩:=H;replace H:=gD H;obtain⟨b8,H⟩:=H;by_cases X:(rd a (ji10))≥(rd a g)
      ·rw[if_pos X]at H;have bu:decide ((rd a g)≤(rd a (ji10)))=true:=decide_eq_true X;clear X;obtain rfl:=Option.some.inj H;have p:0≤(g:Int):=dA;have q:g<(a.length:Int):=dA;obtain⟨aC,Y,y⟩:=at_int HR0_0.out g p q;cases Y;replace y:=(bc HB y :);replace p:=eq_true p;replace q:=eq_true q
       go_wp2_with (first|((with_reducible refine gF 75 ?_);refine gX (some 16) Tryz.func75 (impl_HalfOk.calls M.out) ?_;rintro w' ⟨nd,rfl⟩;obtain⟨b9,ca,cb,cc,cd,ce,cf,cg⟩:=cz4 d;have O:0≤((ji10):Int):=dA;have U:(ji10)<(a.length:Int):=dA;obtain⟨aX,aY,ai⟩:=at_int HR0_0.out (ji10) O U;obtain rfl:aC=aX:=(by injection aY);replace ai:=(bc HB ai :);replace O:=eq_true O;replace U:=eq_true U))
       go_ret
       exact⟨by first|rfl|(simp[errW_none,errW_some] <;> rfl)|(simp only[← hji10];first|rfl|(simp[errW_none,errW_some] <;> rfl))|(simp[*,errW_none,errW_some] <;> rfl),cB⟩
      ·rw[if_neg X]at H;have bu:decide ((rd a g)≤(rd a (ji10)))=false:=decide_eq_false X;clear X;have H':=aM H;clear H;have p:0≤(g:Int):=dA;have q:g<(a.length:Int):=dA;obtain⟨aC,Y,y⟩:=at_int HR0_0.out g p q;cases Y;replace y:=(bc HB y :);replace p:=eq_true p;replace q:=eq_true q
       go_wp2_with (first|((with_reducible refine gF 75 ?_);refine gX (some 16) Tryz.func75 (impl_HalfOk.calls M.out) ?_;rintro w' ⟨nd,rfl⟩;obtain⟨bv,bw,bx,bz,bA,bB,bC,bD⟩:=cz4 d;have O:0≤((ji10):Int):=dA;have U:(ji10)<(a.length:Int):=dA;obtain⟨aX,aY,ai⟩:=at_int HR0_0.out (ji10) O U;obtain rfl:aC=aX:=(by injection aY);replace ai:=(bc HB ai :);replace O:=eq_true O;replace U:=eq_true U))
       go_roundg k1
       case measure=>exact oK
       case rel=>exact⟨(wrap64 (g+1)),rS,H',⟨oK⟩,⟨mK d⟩,⟨cB⟩⟩
     ·rw[if_neg W]at H;have bs:decide (0<g)=false:=decide_eq_false W;clear W;have H':=aM H;clear H;have p:0≤(g:Int):=dA;have q:g<(a.length:Int):=dA;obtain⟨aC,Y,y⟩:=at_int HR0_0.out g p q;cases Y;replace y:=(bc HB y :);replace p:=eq_true p;replace q:=eq_true q
      go_wp2_with (first|((with_reducible refine gF 75 ?_);refine gX (some 16) Tryz.func75 (impl_HalfOk.calls M.out) ?_;rintro w' ⟨nd,rfl⟩))
      go_roundg k1
      case measure=>exact oK
      case rel=>exact⟨(wrap64 (g+1)),rS,H',⟨oK⟩,⟨mK d⟩,⟨cB⟩⟩
    ·replace o:=Bool.eq_false_iff.mpr o;subst o;replace H:=iF H;obtain rfl:=Option.some.inj H;have p:0≤(g:Int):=dA;have q:g<(a.length:Int):=dA;obtain⟨aC,Y,y⟩:=at_int HR0_0.out g p q;cases Y;replace y:=(bc HB y :);replace p:=eq_true p;replace q:=eq_true q
     go_wp2_with (first|((with_reducible refine gF 75 ?_);refine gX (some 16) Tryz.func75 (impl_HalfOk.calls M.out) ?_;rintro w' ⟨nd,rfl⟩))
     go_ret;exact⟨rE,cB⟩
   ·rw[if_neg j]at H;have ah:=decide_eq_false j;clear j;have H':=aM H;clear H;obtain⟨ch,ci,cj,ck,cl,cm,cn,co⟩:=cz4 d;go_wp2
    go_loopg [36] k1 (fun kq cp w'=> ∃ (l:Int),cp= .int .i64 l∧Aside0 (impl_ruleOk.l1 kq b (b.length:Int) l a b i t=some r)∧Aside0 (kq≤k1)∧Aside0 (w'.heap[bp]?=some (.cells #[(.slice ao a.length ap),(.slice aq b.length ar),.int .i64 i,.int .i64 t] 78 (0,0)))∧Aside0 (Below w.heap.size w w'))
    case atStart=>exact⟨(0),rS,H',⟨Nat.le_refl _⟩,⟨mK d⟩,⟨cB⟩⟩
    case round=>
     clear H';(try clear j);(try clear ah);(try clear c4);(try clear aW);(try clear c5);(try clear br);(try clear o);(try clear W);(try clear bs);(try clear c6);(try clear b5);(try clear c7);(try clear b8);(try clear X);(try clear bu);(try clear b9 ca cb cc);(try clear bv bw bx bz);(try clear ch ci cj ck);(try clear au av aw ax);(try clear cd ce cf cg);(try clear bA bB bC bD);(try clear cl cm cn co);(try clear ay az aA aB);(try clear y);(try clear ai);(try clear p);(try clear O);(try clear q);(try clear U);obtain⟨l,rfl,HA,HK2,d,HB⟩:=hrel
     cases gk with
     | zero=>exact absurd HA.out (by simp[impl_ruleOk.l1])
     | succ k2=>
      have H:=HA.out;clear HA;simp only[impl_ruleOk.l1]at H;by_cases aj:l<(b.length:Int)
      ·rw[if_pos aj]at H;have cq:=decide_eq_true aj;clear aj;replace H:=gD H;obtain⟨c8,H⟩:=H;replace H:=gD H;obtain⟨c9,H⟩:=H;replace H:=bE H;obtain⟨aV,bF,H⟩:=H;by_cases aI:aV=true
       ·subst aI;replace H:=iT H;have H':=aM H;clear H;obtain⟨cr,cs,ct,aZ,cu,cv,cw,cx,cy,cz⟩:=b6 HB (at_T118 HR0_1.out l);cases aZ
        go_wp2_with (first|((with_reducible refine gN 6 ?_);(try(refine gate_guard (by rfl) ?_;dsimp only));refine boxZ 6 #[.int .i64 0,.int .i64 0,.int .i64 0,.int .i64 0,.int .i64 0,.int .i64 0] 118 ?_;intro cA hg da hbox hb;have aa:=aM hbox;have GW503:=gS hg;have GE503:=gS hg;replace HB:=sB hb;have a0:=nL hg d;have a1:=nG hg d;replace d:=kB d hb;clear hb hbox hg;have hnb23:=a1.out;have hnc23:=a0.out;obtain⟨db,dc,dd,de,df,dg,dh,di,dj,dk,dl,dm⟩:=cz6 aa)|((with_reducible refine gF 107 ?_);refine gX (some 41) Tryz.func107 (impl_CondOk.calls bF.out) ?_;intro dn hb;replace d:=kB d hb;replace aa:=kP aa hb (.cells #[.int .i64 ((rd_T118 b l).f0),.int .i64 ((rd_T118 b l).f1.f0),.int .i64 ((rd_T118 b l).f1.f1),.int .i64 ((rd_T118 b l).f2),.int .i64 ((rd_T118 b l).f3.f0),.int .i64 ((rd_T118 b l).f3.f1)] 118 (0,0));replace HB:=sB hb;(try clear hb)))
        go_roundg k2
        case measure=>have:=HK1.out;have:=HK2.out;omega
        case rel=>exact⟨(wrap64 (l+1)),rS,H',⟨by have:=HK1.out;have:=HK2.out;omega⟩,⟨mK d⟩,⟨cB⟩⟩
       ·replace aI:=Bool.eq_false_iff.mpr aI;subst aI;replace H:=iF H;obtain rfl:=Option.some.inj H;obtain⟨cr,cs,ct,aZ,cu,cv,cw,cx,cy,cz⟩:=b6 HB (at_T118 HR0_1.out l);cases aZ
        go_wp2_with (first|((with_reducible refine gN 6 ?_);(try(refine gate_guard (by rfl) ?_;dsimp only));refine boxZ 6 #[.int .i64 0,.int .i64 0,.int .i64 0,.int .i64 0,.int .i64 0,.int .i64 0] 118 ?_;intro cA hg dp hbox hb;have aa:=aM hbox;have GW503:=gS hg;have GE503:=gS hg;replace HB:=sB hb;have a0:=nL hg d;have a1:=nG hg d;replace d:=kB d hb;clear hb hbox hg;have hnb27:=a1.out;have hnc27:=a0.out;obtain⟨dq,dr,ds,dt,du,dv,dw,dx,dy,dz,dC,dD⟩:=cz6 aa)|((with_reducible refine gF 107 ?_);refine gX (some 41) Tryz.func107 (impl_CondOk.calls bF.out) ?_;intro dE hb;replace d:=kB d hb;replace aa:=kP aa hb (.cells #[.int .i64 ((rd_T118 b l).f0),.int .i64 ((rd_T118 b l).f1.f0),.int .i64 ((rd_T118 b l).f1.f1),.int .i64 ((rd_T118 b l).f2),.int .i64 ((rd_T118 b l).f3.f0),.int .i64 ((rd_T118 b l).f3.f1)] 118 (0,0));replace HB:=sB hb;(try clear hb)))
        go_ret;exact⟨rE,cB⟩
      ·rw[if_neg aj]at H;have cq:=decide_eq_false aj;clear aj;by_cases ak:(a.length:Int)≤4
       ·rw[if_pos ak]at H;have cD:=decide_eq_true ak
        have cE:decide (a.length≤4)=true:=decide_eq_true (by omega)
        clear ak;by_cases al:(b.length:Int)≤3
        ·rw[if_pos al]at H;have cF:=decide_eq_true al
         have cG:decide (b.length≤3)=true:=decide_eq_true (by omega)
         clear al;replace H:=bE H;obtain⟨bk,cI,H⟩:=H;obtain rfl:=Option.some.inj H;obtain⟨dF,dG,dH,dI,dJ,dK,dL,dM⟩:=cz4 d
         go_wp2_with (first|(go_at_call 76;(with_reducible refine(impl_actionOk.calls cI.out).mono ?_);rintro e w' ⟨rfl,⟨nd,rfl⟩⟩))
         go_ret;exact⟨rE,cB⟩
        ·rw[if_neg al]at H;have cF:=decide_eq_false al
         have cG:decide (b.length≤3)=false:=decide_eq_false (by omega)
         clear al;obtain rfl:=Option.some.inj H;obtain⟨dN,dO,dP,dQ,dS,dT,dU,dV⟩:=cz4 d;go_wp2;go_ret;exact⟨rE,cB⟩
       ·rw[if_neg ak]at H;have cD:=decide_eq_false ak
        have cE:decide (a.length≤4)=false:=decide_eq_false (by omega)
        clear ak;obtain rfl:=Option.some.inj H;obtain⟨dX,dY,dZ,d0,d1,d2,d3,d4⟩:=cz4 d;go_wp2;go_ret;exact⟨rE,cB⟩
def impl_PolicyOk.l0:Nat→List (S78)→Int→Int→Int→Int→Int→List (S78)→Option (Bool)
  | 0,_,_,_,_,_,_,_=>none
  | k+1,am,s,v,bG,bH,bI,bJ=>if v<s then(if 0≤v then(if v<(am.length:Int)then((impl_ruleOk.f k ((rd_T78 am v).f0) ((rd_T78 am v).f1) ((rd_T78 am v).f2) ((rd_T78 am v).f3)).bind fun a2=>(if a2=true then(impl_PolicyOk.l0 k am s (wrap64 (v+1)) bG bH bI bJ)else(some false)))else(none))else(none))else((impl_HalfOk.f bG).bind fun a3=>(if a3=true then((impl_actionOk.f bH bI).bind fun a4=>(if a4=true then(some (decide ((bJ.length:Int)≤10)))else(some false)))else(some false)))
def impl_PolicyOk.f (k:Nat) (x:Int) (u:Int) (i:Int) (c:List (S78)):Option (Bool):=impl_PolicyOk.l0 k c (c.length:Int) 0 x u i c
set_option maxHeartbeats 8000000 in
set_option maxRecDepth 100000 in
theorem impl_PolicyOk.calls {k:Nat}{x:Int}{u:Int}{i:Int}{aJ:Option Addr}{aK:Nat}{c:List (S78)}{r:Bool}{w:World}(h:impl_PolicyOk.f k x u i c=some r)(bL:Kd.C k78 w aJ c.length c)(bM:c.length≤aK) :
 Calls Tryz.prog 38 #[.agg #[.int .i64 x,.int .i64 u,.int .i64 i,.slice aJ c.length aK]] w fun e w'=>e= .returned (.bool r)∧Below w.heap.size w w':=by
 have hu26:=Tryz.underlying26;have hu78:=Tryz.underlying78;have HR0_3:=aM bL;have HC0_3:=aM bM;clear bL bM;have HB:=rW w;have H:(impl_PolicyOk.l0 k c (c.length:Int) 0 x u i c)=some r:=h;clear h;have H':=aM H;clear H;go_enter Tryz.func38,Tryz.ntmps38
 go_wp2_with (first|((with_reducible refine gN 1 ?_);(try(refine gate_guard (by rfl) ?_;dsimp only));refine boxZ 1 #[.int .i64 x,.int .i64 u,.int .i64 i,.slice aJ c.length aK] 26 ?_;intro cJ hg bq hbox hb;have m:=aM hbox;have GW506:=gS hg;have GE506:=gS hg;replace HB:=sB hb;clear hb hbox hg;obtain⟨au,av,aw,ax,ay,az,aA,aB⟩:=cz4 m))
 go_loopg [8] k (fun kq cL w'=> ∃ (n:Int),cL= .int .i64 n∧Aside0 (impl_PolicyOk.l0 kq c (c.length:Int) n x u i c=some r)∧Aside0 (kq≤k)∧Aside0 (w'.heap[cJ]?=some (.cells #[.int .i64 x,.int .i64 u,.int .i64 i,(.slice aJ c.length aK)] 26 (0,0)))∧Aside0 (Below w.heap.size w w'))
 case atStart=>exact⟨(0),rS,H',⟨Nat.le_refl _⟩,⟨mK m⟩,⟨cB⟩⟩
 case round=>
  clear H';(try clear au av aw ax);(try clear ay az aA aB);obtain⟨n,rfl,HA,HK1,m,HB⟩:=hrel
  cases gk with
  | zero=>exact absurd HA.out (by simp[impl_PolicyOk.l0])
  | succ k1=>
   have H:=HA.out;clear HA;simp only[impl_PolicyOk.l0]at H;by_cases j:n<(c.length:Int)
   ·rw[if_pos j]at H;have ah:=decide_eq_true j;clear j;replace H:=gD H;obtain⟨aW,H⟩:=H;replace H:=gD H;obtain⟨br,H⟩:=H;replace H:=bE H;obtain⟨a2,M,H⟩:=H;by_cases o:a2=true
    ·subst o;replace H:=iT H;have H':=aM H;clear H;have ab:0≤(n:Int):=dA;have ac:n<(c.length:Int):=dA;obtain⟨cM,a5,a6,a7,a8,a9,aD,aE,aF,aG,hl507_0,hi507_0,hl507_1,hi507_1⟩:=at_T78 HR0_3.out n ab ac;cases a9;replace aD:=(bc HB aD :);replace aE:=(bc HB aE :);replace aF:=(bc HB aF :);replace aG:=(bc HB aG :);have HR507_0:=aM hi507_0;have HC507_0:=aM hl507_0;clear hi507_0 hl507_0;have HR507_1:=aM hi507_1;have HC507_1:=aM hl507_1;clear hi507_1 hl507_1;replace ab:=eq_true ab;replace ac:=eq_true ac
     go_wp2_with (first|((with_reducible refine gN 4 ?_);(try(refine gate_guard (by rfl) ?_;dsimp only));refine boxZ 4 #[.slice none 0 0,.slice none 0 0,.int .i64 0,.int .i64 0] 78 ?_;intro cN hg cO hbox hb;have ad:=aM hbox;have GW508:=gS hg;have GE508:=gS hg;replace HB:=sB hb;have ba:=nL hg m;have bb:=nG hg m;replace m:=kB m hb;clear hb hbox hg;have hnb10:=bb.out;have hnc10:=ba.out;obtain⟨d5,d6,d7,d8,d9,ea,eb,ec⟩:=cz4 ad)|((with_reducible refine gF 74 ?_);refine gX (some 13) Tryz.func74 (impl_ruleOk.calls M.out (C_below HR507_0.out cB) HC507_0.out (C_below HR507_1.out cB) HC507_1.out) ?_;intro ed hb;replace m:=kB m hb;replace ad:=kP ad hb (.cells #[.slice a5 ((rd_T78 c n).f0).length a6,.slice a7 ((rd_T78 c n).f1).length a8,.int .i64 ((rd_T78 c n).f2),.int .i64 ((rd_T78 c n).f3)] 78 (0,0));replace HB:=sB hb;(try clear hb)))
     go_roundg k1
     case measure=>exact oK
     case rel=>exact⟨(wrap64 (n+1)),rS,H',⟨oK⟩,⟨mK m⟩,⟨cB⟩⟩
    ·replace o:=Bool.eq_false_iff.mpr o;subst o;replace H:=iF H;obtain rfl:=Option.some.inj H;have ab:0≤(n:Int):=dA;have ac:n<(c.length:Int):=dA;obtain⟨cM,a5,a6,a7,a8,a9,aD,aE,aF,aG,hl507_0,hi507_0,hl507_1,hi507_1⟩:=at_T78 HR0_3.out n ab ac;cases a9;replace aD:=(bc HB aD :);replace aE:=(bc HB aE :);replace aF:=(bc HB aF :);replace aG:=(bc HB aG :);have HR507_0:=aM hi507_0;have HC507_0:=aM hl507_0;clear hi507_0 hl507_0;have HR507_1:=aM hi507_1;have HC507_1:=aM hl507_1;clear hi507_1 hl507_1;replace ab:=eq_true ab;replace ac:=eq_true ac
     go_wp2_with (first|((with_reducible refine gN 4 ?_);(try(refine gate_guard (by rfl) ?_;dsimp only));refine boxZ 4 #[.slice none 0 0,.slice none 0 0,.int .i64 0,.int .i64 0] 78 ?_;intro cN hg ee hbox hb;have ad:=aM hbox;have GW508:=gS hg;have GE508:=gS hg;replace HB:=sB hb;have ba:=nL hg m;have bb:=nG hg m;replace m:=kB m hb;clear hb hbox hg;have hnb14:=bb.out;have hnc14:=ba.out;obtain⟨bv,bw,bx,bz,bA,bB,bC,bD⟩:=cz4 ad)|((with_reducible refine gF 74 ?_);refine gX (some 13) Tryz.func74 (impl_ruleOk.calls M.out (C_below HR507_0.out cB) HC507_0.out (C_below HR507_1.out cB) HC507_1.out) ?_;intro ef hb;replace m:=kB m hb;replace ad:=kP ad hb (.cells #[.slice a5 ((rd_T78 c n).f0).length a6,.slice a7 ((rd_T78 c n).f1).length a8,.int .i64 ((rd_T78 c n).f2),.int .i64 ((rd_T78 c n).f3)] 78 (0,0));replace HB:=sB hb;(try clear hb)))
     go_ret;exact⟨rE,cB⟩
   ·rw[if_neg j]at H;have ah:=decide_eq_false j;clear j;replace H:=bE H;obtain⟨a3,bd,H⟩:=H;by_cases aL:a3=true
    ·subst aL;replace H:=iT H;replace H:=bE H;obtain⟨a4,bN,H⟩:=H;by_cases aN:a4=true
     ·subst aN;replace H:=iT H;obtain rfl:=Option.some.inj H;obtain⟨eg,eh,ei,ej,ek,el,em,en⟩:=cz4 m
      go_wp2_with (first|((with_reducible refine gF 75 ?_);refine gX (some 18) Tryz.func75 (impl_HalfOk.calls bd.out) ?_;rintro w' ⟨nd,rfl⟩)|(go_at_call 76;(with_reducible refine(impl_actionOk.calls bN.out).mono ?_);rintro e w' ⟨rfl,⟨nd,rfl⟩⟩))
      go_ret;exact⟨rE,cB⟩
     ·replace aN:=Bool.eq_false_iff.mpr aN;subst aN;replace H:=iF H;obtain rfl:=Option.some.inj H;obtain⟨eo,ep,eq,er,es,et,eu,ev⟩:=cz4 m
      go_wp2_with (first|((with_reducible refine gF 75 ?_);refine gX (some 18) Tryz.func75 (impl_HalfOk.calls bd.out) ?_;rintro w' ⟨nd,rfl⟩)|(go_at_call 76;(with_reducible refine(impl_actionOk.calls bN.out).mono ?_);rintro e w' ⟨rfl,⟨nd,rfl⟩⟩))
      go_ret;exact⟨rE,cB⟩
    ·replace aL:=Bool.eq_false_iff.mpr aL;subst aL;replace H:=iF H;obtain rfl:=Option.some.inj H;obtain⟨ew,ex,ey,ez,eA,eC,eD,eE⟩:=cz4 m
     go_wp2_with (first|((with_reducible refine gF 75 ?_);refine gX (some 18) Tryz.func75 (impl_HalfOk.calls bd.out) ?_;rintro w' ⟨nd,rfl⟩))
     go_ret;exact⟨rE,cB⟩
def impl_Line_isPlace.f (x:ByteArray) (u:Int) (i:Int) (t:Int) (aO:Int) (aP:ByteArray) (aQ:ByteArray):Option (Bool):=some (u == 0)
set_option maxHeartbeats 8000000 in
set_option maxRecDepth 100000 in
theorem impl_Line_isPlace.calls {x:ByteArray}{u:Int}{i:Int}{t:Int}{aO:Int}{aP:ByteArray}{aQ:ByteArray}{r:Bool}{w:World}(h:impl_Line_isPlace.f x u i t aO aP aQ=some r) :
 Calls Tryz.prog 78 #[.agg #[.string x,.int .i64 u,.int .i64 i,.int .i64 t,.int .i64 aO,.string aP,.string aQ]] w fun e w'=>e= .returned (.bool r)∧Below w.heap.size w w':=by
 have hu86:=Tryz.underlying86;have HB:=rW w;have H:(some (u == 0))=some r:=h;clear h;obtain rfl:=Option.some.inj H;go_enter Tryz.func78,Tryz.ntmps78
 go_wp2_with (first|((with_reducible refine gN 1 ?_);refine boxZ 1 #[.string x,.int .i64 u,.int .i64 i,.int .i64 t,.int .i64 aO,.string aP,.string aQ] 86 ?_;intro eG hg bq hbox hb;have cP:=aM hbox;have GW512:=gS hg;have GE512:=gS hg;replace HB:=sB hb;clear hb hbox hg;obtain⟨au,av,aw,ax,eH,eI,eJ,ay,az,aA,aB,eK,eL,eM⟩:=cz7 cP))
 go_ret;exact⟨rE,cB⟩
def impl_placeOf.l0:Nat→List (S86)→ByteArray→Int→Option (Int)
  | 0,_,_,_=>none
  | k+1,D,be,s=>if s<(D.length:Int)then(if 0≤s then((impl_Line_isPlace.f ((rd_T86 D s).f0) ((rd_T86 D s).f1.f0) ((rd_T86 D s).f1.f1) ((rd_T86 D s).f1.f2) ((rd_T86 D s).f1.f3) ((rd_T86 D s).f2) ((rd_T86 D s).f3)).bind fun bf=>(if bf=true then(if((rd_T86 D s).f0).toList=be.toList then(some s)else(impl_placeOf.l0 k D be (wrap64 (s+1))))else(impl_placeOf.l0 k D be (wrap64 (s+1)))))else(none))else(some (-1))
def impl_placeOf.f (k:Nat) (E:List (S86)) (ae:ByteArray) (an:Int):Option (Int):=impl_placeOf.l0 k E ae (wrap64 (an+1))
set_option maxHeartbeats 8000000 in
set_option maxRecDepth 100000 in
theorem impl_placeOf.calls {k:Nat}{bO:Option Addr}{bP:Nat}{E:List (S86)}{ae:ByteArray}{an:Int}{r:Int}{w:World}(h:impl_placeOf.f k E ae an=some r)(bQ:Kd.C k86 w bO E.length E)(bR:E.length≤bP) :
 Calls Tryz.prog 109 #[.slice bO E.length bP,.string ae,.int .i64 an] w fun e w'=>e= .returned (.int .i64 r)∧Below w.heap.size w w':=by
 have hu86:=Tryz.underlying86;have HR0:=aM bQ;have HC0:=aM bR;clear bQ bR;have HB:=rW w;have H:(impl_placeOf.l0 k E ae (wrap64 (an+1)))=some r:=h;clear h;have H':=aM H;clear H;go_enter Tryz.func109,Tryz.ntmps109;go_wp2
 go_loopg [7] k (fun kq cQ w'=> ∃ (z:Int),cQ= .int .i64 z∧Aside0 (impl_placeOf.l0 kq E ae z=some r)∧Aside0 (kq≤k)∧Aside0 (Below w.heap.size w w'))
 case atStart=>exact⟨(wrap64 (an+1)),rS,H',⟨Nat.le_refl _⟩,⟨cB⟩⟩
 case round=>
  clear H';obtain⟨z,rfl,HA,HK1,HB⟩:=hrel
  cases gk with
  | zero=>exact absurd HA.out (by simp[impl_placeOf.l0])
  | succ k1=>
   have H:=HA.out;clear HA;simp only[impl_placeOf.l0]at H;by_cases j:z<(E.length:Int)
   ·rw[if_pos j]at H;have ah:=decide_eq_true j;clear j;replace H:=gD H;obtain⟨aW,H⟩:=H;replace H:=bE H;obtain⟨bf,bg,H⟩:=H;by_cases aR:bf=true
    ·subst aR;replace H:=iT H;by_cases o:((rd_T86 E z).f0).toList=ae.toList
     ·rw[if_pos o]at H;obtain⟨cR,cS⟩:=eT o;clear o;obtain rfl:=Option.some.inj H;obtain⟨bS,bT,aS,aH,bU,bV,bW,bX,bY,bZ,b0⟩:=b7 HB (at_T86 HR0.out z);cases aH
      go_wp2_with (first|((with_reducible refine gF 78 ?_);refine gX (some 20) Tryz.func78 (impl_Line_isPlace.calls bg.out) ?_;intro cO hb;replace HB:=sB hb;(try clear hb);obtain⟨cT,cU,bh,bi,cV,cW,cX,cY,cZ,c0,c1⟩:=b7 HB (at_T86 HR0.out z);obtain rfl:aS=bh:=(by injection bi)))
      go_ret;exact⟨rE,cB⟩
     ·rw[if_neg o]at H;obtain⟨cR,cS⟩:=eF o;have H':=aM H;clear H;obtain⟨bS,bT,aS,aH,bU,bV,bW,bX,bY,bZ,b0⟩:=b7 HB (at_T86 HR0.out z);cases aH
      go_wp2_with (first|((with_reducible refine gF 78 ?_);refine gX (some 20) Tryz.func78 (impl_Line_isPlace.calls bg.out) ?_;intro eN hb;replace HB:=sB hb;(try clear hb);obtain⟨cT,cU,bh,bi,cV,cW,cX,cY,cZ,c0,c1⟩:=b7 HB (at_T86 HR0.out z);obtain rfl:aS=bh:=(by injection bi)))
      go_roundg k1
      case measure=>exact oK
      case rel=>exact⟨(wrap64 (z+1)),rS,H',⟨oK⟩,⟨cB⟩⟩
    ·replace aR:=Bool.eq_false_iff.mpr aR;subst aR;replace H:=iF H;have H':=aM H;clear H;obtain⟨bS,bT,aS,aH,bU,bV,bW,bX,bY,bZ,b0⟩:=b7 HB (at_T86 HR0.out z);cases aH
     go_wp2_with (first|((with_reducible refine gF 78 ?_);refine gX (some 20) Tryz.func78 (impl_Line_isPlace.calls bg.out) ?_;intro eO hb;replace HB:=sB hb;(try clear hb)))
     go_roundg k1
     case measure=>exact oK
     case rel=>exact⟨(wrap64 (z+1)),rS,H',⟨oK⟩,⟨cB⟩⟩
   ·rw[if_neg j]at H;have ah:=decide_eq_false j;clear j;obtain rfl:=Option.some.inj H;go_wp2;go_ret;exact⟨rE,cB⟩
end Go.Proofs.YtpbalojiaghfhaaGreat.PFnCompilesTold
