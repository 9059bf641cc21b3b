import Derived.Test.YtpbalojiaghfhaaGreatPFnExactCompiley0
import Derived.Test.YtpbalojiaghfhaaGreatPFnExactCompiley2
import Derived.Test.YtpbalojiaghfhaaGreatPFnExactCompiley6
namespace Go.Proofs.YtpbalojiaghfhaaGreat.PFnExactCompile
open Go.RowKit Go.Proofs.YtpbalojiaghfhaaGreatW.PrintWords Go.Proofs.YtpbalojiaghfhaaGreatW.PrintLast Go.Proofs.YtpbalojiaghfhaaGreatW.PrintMore Go.Proofs.YtpbalojiaghfhaaGreatW.Z
open Kd
attribute [local go_sem] isS max2_int min2_int max_two min_two max_three min_three max_four min_four
set_option linter.unusedVariables false
set_option linter.unusedSimpArgs false
mutual
def impl_ruleOk.l0:Nat→List Int→Int→Int→List Int→List (S118)→Int→Int→Option (Bool)
  | 0,_,_,_,_,_,_,_=>none
  | k+1,z,aX,D,I,J,af,ag=>if D<aX then(if 0≤D then(if D<(z.length:Int)then((impl_HalfOk.f (rd z D)).bind fun aY=>(if aY=true then(if D>0 then(if 0≤(wrap64 (D - 1))then(if(wrap64 (D - 1))<(I.length:Int)then(if(rd I (wrap64 (D - 1)))≥(rd z D)then(some false)else(impl_ruleOk.l0 k z aX (wrap64 (D+1)) I J af ag))else(none))else(none))else(impl_ruleOk.l0 k z aX (wrap64 (D+1)) I J af ag))else(some false)))else(none))else(none))else(impl_ruleOk.l1 k J (J.length:Int) 0 I J af ag)
def impl_ruleOk.l1:Nat→List (S118)→Int→Int→List Int→List (S118)→Int→Int→Option (Bool)
  | 0,_,_,_,_,_,_,_=>none
  | k+1,L,bk,G,I,J,af,ag=>if G<bk then(if 0≤G then(if G<(L.length:Int)then((impl_CondOk.f ((rd_T118 L G).f0) ((rd_T118 L G).f1.f0) ((rd_T118 L G).f1.f1) ((rd_T118 L G).f2) ((rd_T118 L G).f3.f0) ((rd_T118 L G).f3.f1)).bind fun aZ=>(if aZ=true then(impl_ruleOk.l1 k L bk (wrap64 (G+1)) I J af ag)else(some false)))else(none))else(none))else(if(I.length:Int)≤4 then(if(J.length:Int)≤3 then((impl_actionOk.f af ag).bind fun a0=>(some a0))else(some false))else(some false))
end
def impl_ruleOk.f (k:Nat) (g:List Int) (a:List (S118)) (m:Int) (t:Int):Option (Bool):=impl_ruleOk.l0 k g (g.length:Int) 0 g a m t
set_option maxHeartbeats 8000000 in
set_option maxRecDepth 100000 in
theorem impl_ruleOk.calls (k:Nat) (ao:Option Addr) (ap:Nat) (g:List Int) (aq:Option Addr) (ar:Nat) (a:List (S118)) (m:Int) (t:Int) (r:Bool) (w:World) (bl:Kd.C (Kd.int .i64) w ao g.length g) (bm:g.length≤ap) (bn:Kd.C k118 w aq a.length a) (bo:a.length≤ar) (h:impl_ruleOk.f k g a m t=some r) :
 Calls Tryz.prog 74 #[.agg #[.slice ao g.length ap,.slice aq a.length ar,.int .i64 m,.int .i64 t]] w fun e w'=>e= .returned (.bool r)∧Below w.heap.size w w':=by
 have hu78:=Tryz.underlying78;have hu118:=Tryz.underlying118;have HR0_0:=aM bl;have HC0_0:=aM bm;clear bl bm;have HR0_1:=aM bn;have HC0_1:=aM bo;clear bn bo;have HB:=aM (Below.refl w.heap.size w);have H:(impl_ruleOk.l0 k g (g.length:Int) 0 g a m t)=some r:=h;clear h;have H':=aM H;clear H;go_enter Tryz.func74,Tryz.ntmps74
 go_wp2_with (first|((with_reducible refine gN 1 ?_);(try(refine gate_guard (by rfl) ?_;dsimp only));refine boxZ 1 #[.slice ao g.length ap,.slice aq a.length ar,.int .i64 m,.int .i64 t] 78 ?_;intro bp hg bq hbox hb;have n:=aM (hbox);have GW498:=gS hg;have GE498:=gS hg;replace HB:=sB hb;clear hb hbox hg;obtain⟨au,av,aw,ax,ay,az,aA,aB⟩:=cz4 n))
 go_loopg [10] k (fun kq b1 w'=> ∃ (l:Int),b1= .int .i64 l∧Aside0 (impl_ruleOk.l0 kq g (g.length:Int) l g a m t=some r)∧Aside0 (kq≤k)∧Aside0 (w'.heap[bp]?=some (.cells #[(.slice ao g.length ap),(.slice aq a.length ar),.int .i64 m,.int .i64 t] 78 (0,0)))∧Aside0 (Below w.heap.size w w'))
 case atStart=>exact⟨(0),rS,H',⟨Nat.le_refl _⟩,⟨mK n⟩,⟨cB⟩⟩
 case round=>
  clear H';(try clear au av aw ax);(try clear ay az aA aB);obtain⟨l,rfl,HA,HK1,n,HB⟩:=hrel
  cases gk with
  | zero=>exact absurd HA.out (by simp[impl_ruleOk.l0])
  | succ k1=>
   have H:=HA.out;clear HA;simp only[impl_ruleOk.l0]at H;by_cases o:l<(g.length:Int)
   ·rw[if_pos o]at H;have ah:=decide_eq_true o;clear o;replace H:=gD H;obtain⟨a1,H⟩:=H;replace H:=gD H;obtain⟨br,H⟩:=H;replace H:=bE H;obtain⟨aY,M,H⟩:=H;by_cases u:aY=true
    ·subst u;replace H:=iT H;by_cases W:l>0
     ·rw[if_pos W]at H;have bs:decide (0<l)=true:=decide_eq_true W;clear W;obtain⟨ji10,hji10⟩ : ∃ j_:Int,(wrap64 (l - 1))=j_:=⟨_,rfl⟩
      (first|rw[hji10]at H|simp only[hji10]at H)
      (try rw[hji10]at M);have hji10w:(IntKind.i64.wrap (l - 1))=ji10:=(i64_w _).trans hji10;replace H:=gD H;obtain⟨b5,H⟩:=H;replace H:=gD H;obtain⟨b8,H⟩:=H;by_cases X:(rd g (ji10))≥(rd g l)
      ·rw[if_pos X]at H;have bu:decide ((rd g l)≤(rd g (ji10)))=true:=decide_eq_true X;clear X;obtain rfl:=Option.some.inj H;have v:0≤(l:Int):=dA;have x:l<(g.length:Int):=dA;obtain⟨aC,Y,A⟩:=at_int HR0_0.out l v x;cases Y;replace A:=(bc HB A :);replace v:=eq_true v;replace x:=eq_true x
       go_wp2_with (first|((with_reducible refine gF 75 ?_);refine goZ (some 16) Tryz.func75 #[.int .i64 (rd g l)] ?_;(with_reducible refine(impl_HalfOk.calls (rd g l) true _ M.out).mono ?_);rintro e w' ⟨rfl,⟨nd,rfl⟩⟩;refine⟨_,rfl,?_⟩;obtain⟨b9,ca,cb,cc,cd,ce,cf,cg⟩:=cz4 n;have O:0≤((ji10):Int):=dA;have U:(ji10)<(g.length:Int):=dA;obtain⟨a2,a3,ai⟩:=at_int HR0_0.out (ji10) O U;obtain rfl:aC=a2:=(by injection a3);replace ai:=(bc HB ai :);replace O:=eq_true O;replace U:=eq_true U))
       go_ret
       exact⟨by first|rfl|(simp[errW_none,errW_some] <;> rfl)|(simp only[← hji10];first|rfl|(simp[errW_none,errW_some] <;> rfl))|(simp[*,errW_none,errW_some] <;> rfl),cB⟩
      ·rw[if_neg X]at H;have bu:decide ((rd g l)≤(rd g (ji10)))=false:=decide_eq_false X;clear X;have H':=aM H;clear H;have v:0≤(l:Int):=dA;have x:l<(g.length:Int):=dA;obtain⟨aC,Y,A⟩:=at_int HR0_0.out l v x;cases Y;replace A:=(bc HB A :);replace v:=eq_true v;replace x:=eq_true x
       go_wp2_with (first|((with_reducible refine gF 75 ?_);refine goZ (some 16) Tryz.func75 #[.int .i64 (rd g l)] ?_;(with_reducible refine(impl_HalfOk.calls (rd g l) true _ M.out).mono ?_);rintro e w' ⟨rfl,⟨nd,rfl⟩⟩;refine⟨_,rfl,?_⟩;obtain⟨bv,bw,bx,bz,bA,bB,bC,bD⟩:=cz4 n;have O:0≤((ji10):Int):=dA;have U:(ji10)<(g.length:Int):=dA;obtain⟨a2,a3,ai⟩:=at_int HR0_0.out (ji10) O U;obtain rfl:aC=a2:=(by injection a3);replace ai:=(bc HB ai :);replace O:=eq_true O;replace U:=eq_true U))
       go_roundg k1
       case measure=>have:=HK1.out;omega
       case rel=>exact⟨(wrap64 (l+1)),rS,H',⟨by have:=HK1.out;omega⟩,⟨mK n⟩,⟨cB⟩⟩
     ·rw[if_neg W]at H;have bs:decide (0<l)=false:=decide_eq_false W;clear W;have H':=aM H;clear H;have v:0≤(l:Int):=dA;have x:l<(g.length:Int):=dA;obtain⟨aC,Y,A⟩:=at_int HR0_0.out l v x;cases Y;replace A:=(bc HB A :);replace v:=eq_true v;replace x:=eq_true x
      go_wp2_with (first|((with_reducible refine gF 75 ?_);refine goZ (some 16) Tryz.func75 #[.int .i64 (rd g l)] ?_;(with_reducible refine(impl_HalfOk.calls (rd g l) true _ M.out).mono ?_);rintro e w' ⟨rfl,⟨nd,rfl⟩⟩;refine⟨_,rfl,?_⟩))
      go_roundg k1
      case measure=>have:=HK1.out;omega
      case rel=>exact⟨(wrap64 (l+1)),rS,H',⟨by have:=HK1.out;omega⟩,⟨mK n⟩,⟨cB⟩⟩
    ·replace u:=Bool.eq_false_iff.mpr u;subst u;replace H:=iF H;obtain rfl:=Option.some.inj H;have v:0≤(l:Int):=dA;have x:l<(g.length:Int):=dA;obtain⟨aC,Y,A⟩:=at_int HR0_0.out l v x;cases Y;replace A:=(bc HB A :);replace v:=eq_true v;replace x:=eq_true x
     go_wp2_with (first|((with_reducible refine gF 75 ?_);refine goZ (some 16) Tryz.func75 #[.int .i64 (rd g l)] ?_;(with_reducible refine(impl_HalfOk.calls (rd g l) false _ M.out).mono ?_);rintro e w' ⟨rfl,⟨nd,rfl⟩⟩;refine⟨_,rfl,?_⟩))
     go_ret;exact⟨rE,cB⟩
   ·rw[if_neg o]at H;have ah:=decide_eq_false o;clear o;have H':=aM H;clear H;obtain⟨ch,ci,cj,ck,cl,cm,cn,co⟩:=cz4 n;go_wp2
    go_loopg [36] k1 (fun kq cp w'=> ∃ (i:Int),cp= .int .i64 i∧Aside0 (impl_ruleOk.l1 kq a (a.length:Int) i g a m t=some r)∧Aside0 (kq≤k1)∧Aside0 (w'.heap[bp]?=some (.cells #[(.slice ao g.length ap),(.slice aq a.length ar),.int .i64 m,.int .i64 t] 78 (0,0)))∧Aside0 (Below w.heap.size w w'))
    case atStart=>exact⟨(0),rS,H',⟨Nat.le_refl _⟩,⟨mK n⟩,⟨cB⟩⟩
    case round=>
     clear H';(try clear o);(try clear ah);(try clear c1);(try clear a1);(try clear c4);(try clear br);(try clear u);(try clear W);(try clear bs);(try clear c5);(try clear b5);(try clear c6);(try clear b8);(try clear X);(try clear bu);(try clear b9 ca cb cc);(try clear bv bw bx bz);(try clear ch ci cj ck);(try clear au av aw ax);(try clear cd ce cf cg);(try clear bA bB bC bD);(try clear cl cm cn co);(try clear ay az aA aB);(try clear A);(try clear ai);(try clear v);(try clear O);(try clear x);(try clear U);obtain⟨i,rfl,HA,HK2,n,HB⟩:=hrel
     cases gk with
     | zero=>exact absurd HA.out (by simp[impl_ruleOk.l1])
     | succ k2=>
      have H:=HA.out;clear HA;simp only[impl_ruleOk.l1]at H;by_cases aj:i<(a.length:Int)
      ·rw[if_pos aj]at H;have cq:=decide_eq_true aj;clear aj;replace H:=gD H;obtain⟨c7,H⟩:=H;replace H:=gD H;obtain⟨c8,H⟩:=H;replace H:=bE H;obtain⟨aZ,bF,H⟩:=H;by_cases aN:aZ=true
       ·subst aN;replace H:=iT H;have H':=aM H;clear H;obtain⟨cr,cs,ct,a4,cu,cv,cw,cx,cy,cz⟩:=b6 HB (at_T118 HR0_1.out i);cases a4
        go_wp2_with (first|((with_reducible refine gN 6 ?_);(try(refine gate_guard (by rfl) ?_;dsimp only));refine boxZ 6 #[.int .i64 0,.int .i64 0,.int .i64 0,.int .i64 0,.int .i64 0,.int .i64 0] 118 ?_;intro cA hg c9 hbox hb;have aa:=aM (hbox);have GW503:=gS hg;have GE503:=gS hg;replace HB:=sB hb;have a5:=nL hg n;have a6:=nG hg n;replace n:=kB n hb;clear hb hbox hg;have hnb23:=a6.out;have hnc23:=a5.out;obtain⟨da,db,dc,dd,de,df,dg,dh,di,dj,dk,dl⟩:=cz6 aa)|((with_reducible refine gF 107 ?_);refine goZ (some 41) Tryz.func107 #[.agg #[.int .i64 ((rd_T118 a i).f0),.int .i64 ((rd_T118 a i).f1.f0),.int .i64 ((rd_T118 a i).f1.f1),.int .i64 ((rd_T118 a i).f2),.int .i64 ((rd_T118 a i).f3.f0),.int .i64 ((rd_T118 a i).f3.f1)]] ?_;(with_reducible refine(impl_CondOk.calls ((rd_T118 a i).f0) ((rd_T118 a i).f1.f0) ((rd_T118 a i).f1.f1) ((rd_T118 a i).f2) ((rd_T118 a i).f3.f0) ((rd_T118 a i).f3.f1) true _ bF.out).mono ?_);rintro e dm ⟨rfl,hb⟩;refine⟨_,rfl,?_⟩;replace n:=kB n hb;replace aa:=kP aa hb (.cells #[.int .i64 ((rd_T118 a i).f0),.int .i64 ((rd_T118 a i).f1.f0),.int .i64 ((rd_T118 a i).f1.f1),.int .i64 ((rd_T118 a i).f2),.int .i64 ((rd_T118 a i).f3.f0),.int .i64 ((rd_T118 a i).f3.f1)] 118 (0,0));replace HB:=sB hb;(try clear hb)))
        go_roundg k2
        case measure=>have:=HK1.out;have:=HK2.out;omega
        case rel=>exact⟨(wrap64 (i+1)),rS,H',⟨by have:=HK1.out;have:=HK2.out;omega⟩,⟨mK n⟩,⟨cB⟩⟩
       ·replace aN:=Bool.eq_false_iff.mpr aN;subst aN;replace H:=iF H;obtain rfl:=Option.some.inj H;obtain⟨cr,cs,ct,a4,cu,cv,cw,cx,cy,cz⟩:=b6 HB (at_T118 HR0_1.out i);cases a4
        go_wp2_with (first|((with_reducible refine gN 6 ?_);(try(refine gate_guard (by rfl) ?_;dsimp only));refine boxZ 6 #[.int .i64 0,.int .i64 0,.int .i64 0,.int .i64 0,.int .i64 0,.int .i64 0] 118 ?_;intro cA hg dn hbox hb;have aa:=aM (hbox);have GW503:=gS hg;have GE503:=gS hg;replace HB:=sB hb;have a5:=nL hg n;have a6:=nG hg n;replace n:=kB n hb;clear hb hbox hg;have hnb27:=a6.out;have hnc27:=a5.out;obtain⟨dp,dq,dr,ds,dt,du,dv,dw,dx,dy,dz,dB⟩:=cz6 aa)|((with_reducible refine gF 107 ?_);refine goZ (some 41) Tryz.func107 #[.agg #[.int .i64 ((rd_T118 a i).f0),.int .i64 ((rd_T118 a i).f1.f0),.int .i64 ((rd_T118 a i).f1.f1),.int .i64 ((rd_T118 a i).f2),.int .i64 ((rd_T118 a i).f3.f0),.int .i64 ((rd_T118 a i).f3.f1)]] ?_;(with_reducible refine(impl_CondOk.calls ((rd_T118 a i).f0) ((rd_T118 a i).f1.f0) ((rd_T118 a i).f1.f1) ((rd_T118 a i).f2) ((rd_T118 a i).f3.f0) ((rd_T118 a i).f3.f1) false _ bF.out).mono ?_);rintro e dC ⟨rfl,hb⟩;refine⟨_,rfl,?_⟩;replace n:=kB n hb;replace aa:=kP aa hb (.cells #[.int .i64 ((rd_T118 a i).f0),.int .i64 ((rd_T118 a i).f1.f0),.int .i64 ((rd_T118 a i).f1.f1),.int .i64 ((rd_T118 a i).f2),.int .i64 ((rd_T118 a i).f3.f0),.int .i64 ((rd_T118 a i).f3.f1)] 118 (0,0));replace HB:=sB hb;(try clear hb)))
        go_ret;exact⟨rE,cB⟩
      ·rw[if_neg aj]at H;have cq:=decide_eq_false aj;clear aj;by_cases ak:(g.length:Int)≤4
       ·rw[if_pos ak]at H;have cD:=decide_eq_true ak
        have cE:decide (g.length≤4)=true:=decide_eq_true (by omega)
        clear ak;by_cases al:(a.length:Int)≤3
        ·rw[if_pos al]at H;have cF:=decide_eq_true al
         have cG:decide (a.length≤3)=true:=decide_eq_true (by omega)
         clear al;replace H:=bE H;obtain⟨a0,cH,H⟩:=H;obtain rfl:=Option.some.inj H;obtain⟨dD,dE,dF,dG,dH,dI,dJ,dK⟩:=cz4 n
         go_wp2_with (first|(go_at_call 76;(with_reducible refine(impl_actionOk.calls m t a0 _ cH.out).mono ?_);rintro e w' ⟨rfl,⟨nd,rfl⟩⟩))
         go_ret;exact⟨rE,cB⟩
        ·rw[if_neg al]at H;have cF:=decide_eq_false al
         have cG:decide (a.length≤3)=false:=decide_eq_false (by omega)
         clear al;obtain rfl:=Option.some.inj H;obtain⟨dL,dM,dN,dO,dP,dQ,dR,dS⟩:=cz4 n;go_wp2;go_ret;exact⟨rE,cB⟩
       ·rw[if_neg ak]at H;have cD:=decide_eq_false ak
        have cE:decide (g.length≤4)=false:=decide_eq_false (by omega)
        clear ak;obtain rfl:=Option.some.inj H;obtain⟨dT,dU,dV,dW,dX,dY,dZ,d0⟩:=cz4 n;go_wp2;go_ret;exact⟨rE,cB⟩
def impl_PolicyOk.l0:Nat→List (S78)→Int→Int→Int→Int→Int→List (S78)→Option (Bool)
  | 0,_,_,_,_,_,_,_=>none
  | k+1,am,y,z,bG,bH,bI,bJ=>if z<y then(if 0≤z then(if z<(am.length:Int)then((impl_ruleOk.f k ((rd_T78 am z).f0) ((rd_T78 am z).f1) ((rd_T78 am z).f2) ((rd_T78 am z).f3)).bind fun a7=>(if a7=true then(impl_PolicyOk.l0 k am y (wrap64 (z+1)) bG bH bI bJ)else(some false)))else(none))else(none))else((impl_HalfOk.f bG).bind fun a8=>(if a8=true then((impl_actionOk.f bH bI).bind fun a9=>(if a9=true then(some (decide ((bJ.length:Int)≤10)))else(some false)))else(some false)))
def impl_PolicyOk.f (k:Nat) (p:Int) (s:Int) (m:Int) (d:List (S78)):Option (Bool):=impl_PolicyOk.l0 k d (d.length:Int) 0 p s m d
set_option maxHeartbeats 8000000 in
set_option maxRecDepth 100000 in
theorem impl_PolicyOk.calls (k:Nat) (p:Int) (s:Int) (m:Int) (aO:Option Addr) (aP:Nat) (d:List (S78)) (r:Bool) (w:World) (bL:Kd.C k78 w aO d.length d) (bM:d.length≤aP) (h:impl_PolicyOk.f k p s m d=some r) :
 Calls Tryz.prog 38 #[.agg #[.int .i64 p,.int .i64 s,.int .i64 m,.slice aO d.length aP]] w fun e w'=>e= .returned (.bool r)∧Below w.heap.size w w':=by
 have hu26:=Tryz.underlying26;have hu78:=Tryz.underlying78;have HR0_3:=aM bL;have HC0_3:=aM bM;clear bL bM;have HB:=aM (Below.refl w.heap.size w);have H:(impl_PolicyOk.l0 k d (d.length:Int) 0 p s m d)=some r:=h;clear h;have H':=aM H;clear H;go_enter Tryz.func38,Tryz.ntmps38
 go_wp2_with (first|((with_reducible refine gN 1 ?_);(try(refine gate_guard (by rfl) ?_;dsimp only));refine boxZ 1 #[.int .i64 p,.int .i64 s,.int .i64 m,.slice aO d.length aP] 26 ?_;intro cI hg bq hbox hb;have q:=aM (hbox);have GW506:=gS hg;have GE506:=gS hg;replace HB:=sB hb;clear hb hbox hg;obtain⟨au,av,aw,ax,ay,az,aA,aB⟩:=cz4 q))
 go_loopg [8] k (fun kq cJ w'=> ∃ (j:Int),cJ= .int .i64 j∧Aside0 (impl_PolicyOk.l0 kq d (d.length:Int) j p s m d=some r)∧Aside0 (kq≤k)∧Aside0 (w'.heap[cI]?=some (.cells #[.int .i64 p,.int .i64 s,.int .i64 m,(.slice aO d.length aP)] 26 (0,0)))∧Aside0 (Below w.heap.size w w'))
 case atStart=>exact⟨(0),rS,H',⟨Nat.le_refl _⟩,⟨mK q⟩,⟨cB⟩⟩
 case round=>
  clear H';(try clear au av aw ax);(try clear ay az aA aB);obtain⟨j,rfl,HA,HK1,q,HB⟩:=hrel
  cases gk with
  | zero=>exact absurd HA.out (by simp[impl_PolicyOk.l0])
  | succ k1=>
   have H:=HA.out;clear HA;simp only[impl_PolicyOk.l0]at H;by_cases o:j<(d.length:Int)
   ·rw[if_pos o]at H;have ah:=decide_eq_true o;clear o;replace H:=gD H;obtain⟨a1,H⟩:=H;replace H:=gD H;obtain⟨br,H⟩:=H;replace H:=bE H;obtain⟨a7,M,H⟩:=H;by_cases u:a7=true
    ·subst u;replace H:=iT H;have H':=aM H;clear H;have ab:0≤(j:Int):=dA;have ac:j<(d.length:Int):=dA;obtain⟨cL,aD,aE,aF,aG,ba,aH,aI,aJ,aK,hl507_0,hi507_0,hl507_1,hi507_1⟩:=at_T78 HR0_3.out j ab ac;cases ba;replace aH:=(bc HB aH :);replace aI:=(bc HB aI :);replace aJ:=(bc HB aJ :);replace aK:=(bc HB aK :);have HR507_0:=aM hi507_0;have HC507_0:=aM hl507_0;clear hi507_0 hl507_0;have HR507_1:=aM hi507_1;have HC507_1:=aM hl507_1;clear hi507_1 hl507_1;replace ab:=eq_true ab;replace ac:=eq_true ac
     go_wp2_with (first|((with_reducible refine gN 4 ?_);(try(refine gate_guard (by rfl) ?_;dsimp only));refine boxZ 4 #[.slice none 0 0,.slice none 0 0,.int .i64 0,.int .i64 0] 78 ?_;intro cM hg cN hbox hb;have ad:=aM (hbox);have GW508:=gS hg;have GE508:=gS hg;replace HB:=sB hb;have bb:=nL hg q;have bd:=nG hg q;replace q:=kB q hb;clear hb hbox hg;have hnb10:=bd.out;have hnc10:=bb.out;obtain⟨d1,d2,d3,d4,d5,d6,d7,d8⟩:=cz4 ad)|((with_reducible refine gF 74 ?_);refine goZ (some 13) Tryz.func74 #[.agg #[.slice aD ((rd_T78 d j).f0).length aE,.slice aF ((rd_T78 d j).f1).length aG,.int .i64 ((rd_T78 d j).f2),.int .i64 ((rd_T78 d j).f3)]] ?_;(with_reducible refine(impl_ruleOk.calls k1 _ _ ((rd_T78 d j).f0) _ _ ((rd_T78 d j).f1) ((rd_T78 d j).f2) ((rd_T78 d j).f3) true _ ?side1 ?side2 ?side3 ?side4 M.out).mono ?_);(case side1=>exact C_below HR507_0.out cB);(case side2=>exact HC507_0.out);(case side3=>exact C_below HR507_1.out cB);(case side4=>exact HC507_1.out);rintro e d9 ⟨rfl,hb⟩;refine⟨_,rfl,?_⟩;replace q:=kB q hb;replace ad:=kP ad hb (.cells #[.slice aD ((rd_T78 d j).f0).length aE,.slice aF ((rd_T78 d j).f1).length aG,.int .i64 ((rd_T78 d j).f2),.int .i64 ((rd_T78 d j).f3)] 78 (0,0));replace HB:=sB hb;(try clear hb)))
     go_roundg k1
     case measure=>have:=HK1.out;omega
     case rel=>exact⟨(wrap64 (j+1)),rS,H',⟨by have:=HK1.out;omega⟩,⟨mK q⟩,⟨cB⟩⟩
    ·replace u:=Bool.eq_false_iff.mpr u;subst u;replace H:=iF H;obtain rfl:=Option.some.inj H;have ab:0≤(j:Int):=dA;have ac:j<(d.length:Int):=dA;obtain⟨cL,aD,aE,aF,aG,ba,aH,aI,aJ,aK,hl507_0,hi507_0,hl507_1,hi507_1⟩:=at_T78 HR0_3.out j ab ac;cases ba;replace aH:=(bc HB aH :);replace aI:=(bc HB aI :);replace aJ:=(bc HB aJ :);replace aK:=(bc HB aK :);have HR507_0:=aM hi507_0;have HC507_0:=aM hl507_0;clear hi507_0 hl507_0;have HR507_1:=aM hi507_1;have HC507_1:=aM hl507_1;clear hi507_1 hl507_1;replace ab:=eq_true ab;replace ac:=eq_true ac
     go_wp2_with (first|((with_reducible refine gN 4 ?_);(try(refine gate_guard (by rfl) ?_;dsimp only));refine boxZ 4 #[.slice none 0 0,.slice none 0 0,.int .i64 0,.int .i64 0] 78 ?_;intro cM hg ea hbox hb;have ad:=aM (hbox);have GW508:=gS hg;have GE508:=gS hg;replace HB:=sB hb;have bb:=nL hg q;have bd:=nG hg q;replace q:=kB q hb;clear hb hbox hg;have hnb14:=bd.out;have hnc14:=bb.out;obtain⟨bv,bw,bx,bz,bA,bB,bC,bD⟩:=cz4 ad)|((with_reducible refine gF 74 ?_);refine goZ (some 13) Tryz.func74 #[.agg #[.slice aD ((rd_T78 d j).f0).length aE,.slice aF ((rd_T78 d j).f1).length aG,.int .i64 ((rd_T78 d j).f2),.int .i64 ((rd_T78 d j).f3)]] ?_;(with_reducible refine(impl_ruleOk.calls k1 _ _ ((rd_T78 d j).f0) _ _ ((rd_T78 d j).f1) ((rd_T78 d j).f2) ((rd_T78 d j).f3) false _ ?side1 ?side2 ?side3 ?side4 M.out).mono ?_);(case side1=>exact C_below HR507_0.out cB);(case side2=>exact HC507_0.out);(case side3=>exact C_below HR507_1.out cB);(case side4=>exact HC507_1.out);rintro e eb ⟨rfl,hb⟩;refine⟨_,rfl,?_⟩;replace q:=kB q hb;replace ad:=kP ad hb (.cells #[.slice aD ((rd_T78 d j).f0).length aE,.slice aF ((rd_T78 d j).f1).length aG,.int .i64 ((rd_T78 d j).f2),.int .i64 ((rd_T78 d j).f3)] 78 (0,0));replace HB:=sB hb;(try clear hb)))
     go_ret;exact⟨rE,cB⟩
   ·rw[if_neg o]at H;have ah:=decide_eq_false o;clear o;replace H:=bE H;obtain⟨a8,be,H⟩:=H;by_cases aQ:a8=true
    ·subst aQ;replace H:=iT H;replace H:=bE H;obtain⟨a9,bN,H⟩:=H;by_cases aR:a9=true
     ·subst aR;replace H:=iT H;obtain rfl:=Option.some.inj H;obtain⟨ec,ed,ee,ef,eg,eh,ei,ej⟩:=cz4 q
      go_wp2_with (first|((with_reducible refine gF 75 ?_);refine goZ (some 18) Tryz.func75 #[.int .i64 p] ?_;(with_reducible refine(impl_HalfOk.calls p true _ be.out).mono ?_);rintro e w' ⟨rfl,⟨nd,rfl⟩⟩;refine⟨_,rfl,?_⟩)|(go_at_call 76;(with_reducible refine(impl_actionOk.calls s m true _ bN.out).mono ?_);rintro e w' ⟨rfl,⟨nd,rfl⟩⟩))
      go_ret;exact⟨rE,cB⟩
     ·replace aR:=Bool.eq_false_iff.mpr aR;subst aR;replace H:=iF H;obtain rfl:=Option.some.inj H;obtain⟨ek,el,em,en,eo,ep,eq,er⟩:=cz4 q
      go_wp2_with (first|((with_reducible refine gF 75 ?_);refine goZ (some 18) Tryz.func75 #[.int .i64 p] ?_;(with_reducible refine(impl_HalfOk.calls p true _ be.out).mono ?_);rintro e w' ⟨rfl,⟨nd,rfl⟩⟩;refine⟨_,rfl,?_⟩)|(go_at_call 76;(with_reducible refine(impl_actionOk.calls s m false _ bN.out).mono ?_);rintro e w' ⟨rfl,⟨nd,rfl⟩⟩))
      go_ret;exact⟨rE,cB⟩
    ·replace aQ:=Bool.eq_false_iff.mpr aQ;subst aQ;replace H:=iF H;obtain rfl:=Option.some.inj H;obtain⟨es,et,eu,ev,ew,ex,ey,ez⟩:=cz4 q
     go_wp2_with (first|((with_reducible refine gF 75 ?_);refine goZ (some 18) Tryz.func75 #[.int .i64 p] ?_;(with_reducible refine(impl_HalfOk.calls p false _ be.out).mono ?_);rintro e w' ⟨rfl,⟨nd,rfl⟩⟩;refine⟨_,rfl,?_⟩))
     go_ret;exact⟨rE,cB⟩
def impl_Line_isPlace.f (p:ByteArray) (s:Int) (m:Int) (t:Int) (aS:Int) (aT:ByteArray) (aU:ByteArray):Option (Bool):=some (s == 0)
set_option maxHeartbeats 8000000 in
set_option maxRecDepth 100000 in
theorem impl_Line_isPlace.calls (p:ByteArray) (s:Int) (m:Int) (t:Int) (aS:Int) (aT:ByteArray) (aU:ByteArray) (r:Bool) (w:World) (h:impl_Line_isPlace.f p s m t aS aT aU=some r) :
 Calls Tryz.prog 78 #[.agg #[.string p,.int .i64 s,.int .i64 m,.int .i64 t,.int .i64 aS,.string aT,.string aU]] w fun e w'=>e= .returned (.bool r)∧Below w.heap.size w w':=by
 have hu86:=Tryz.underlying86;have HB:=aM (Below.refl w.heap.size w);have H:(some (s == 0))=some r:=h;clear h;obtain rfl:=Option.some.inj H;go_enter Tryz.func78,Tryz.ntmps78
 go_wp2_with (first|((with_reducible refine gN 1 ?_);refine boxZ 1 #[.string p,.int .i64 s,.int .i64 m,.int .i64 t,.int .i64 aS,.string aT,.string aU] 86 ?_;intro eA hg bq hbox hb;have cO:=aM (hbox);have GW512:=gS hg;have GE512:=gS hg;replace HB:=sB hb;clear hb hbox hg;obtain⟨au,av,aw,ax,eC,eD,eE,ay,az,aA,aB,eG,eH,eI⟩:=cz7 cO))
 go_ret;exact⟨rE,cB⟩
def impl_placeOf.l0:Nat→List (S86)→ByteArray→Int→Option (Int)
  | 0,_,_,_=>none
  | k+1,E,bf,y=>if y<(E.length:Int)then(if 0≤y then((impl_Line_isPlace.f ((rd_T86 E y).f0) ((rd_T86 E y).f1.f0) ((rd_T86 E y).f1.f1) ((rd_T86 E y).f1.f2) ((rd_T86 E y).f1.f3) ((rd_T86 E y).f2) ((rd_T86 E y).f3)).bind fun bg=>(if bg=true then(if((rd_T86 E y).f0).toList=bf.toList then(some y)else(impl_placeOf.l0 k E bf (wrap64 (y+1))))else(impl_placeOf.l0 k E bf (wrap64 (y+1)))))else(none))else(some (-1))
def impl_placeOf.f (k:Nat) (c:List (S86)) (ae:ByteArray) (an:Int):Option (Int):=impl_placeOf.l0 k c ae (wrap64 (an+1))
set_option maxHeartbeats 8000000 in
set_option maxRecDepth 100000 in
theorem impl_placeOf.calls (k:Nat) (bO:Option Addr) (bP:Nat) (c:List (S86)) (ae:ByteArray) (an:Int) (r:Int) (w:World) (bQ:Kd.C k86 w bO c.length c) (bR:c.length≤bP) (h:impl_placeOf.f k c ae an=some r) :
 Calls Tryz.prog 109 #[.slice bO c.length bP,.string ae,.int .i64 an] w fun e w'=>e= .returned (.int .i64 r)∧Below w.heap.size w w':=by
 have hu86:=Tryz.underlying86;have HR0:=aM bQ;have HC0:=aM bR;clear bQ bR;have HB:=aM (Below.refl w.heap.size w);have H:(impl_placeOf.l0 k c ae (wrap64 (an+1)))=some r:=h;clear h;have H':=aM H;clear H;go_enter Tryz.func109,Tryz.ntmps109;go_wp2
 go_loopg [7] k (fun kq cP w'=> ∃ (b:Int),cP= .int .i64 b∧Aside0 (impl_placeOf.l0 kq c ae b=some r)∧Aside0 (kq≤k)∧Aside0 (Below w.heap.size w w'))
 case atStart=>exact⟨(wrap64 (an+1)),rS,H',⟨Nat.le_refl _⟩,⟨cB⟩⟩
 case round=>
  clear H';obtain⟨b,rfl,HA,HK1,HB⟩:=hrel
  cases gk with
  | zero=>exact absurd HA.out (by simp[impl_placeOf.l0])
  | succ k1=>
   have H:=HA.out;clear HA;simp only[impl_placeOf.l0]at H;by_cases o:b<(c.length:Int)
   ·rw[if_pos o]at H;have ah:=decide_eq_true o;clear o;replace H:=gD H;obtain⟨a1,H⟩:=H;replace H:=bE H;obtain⟨bg,bh,H⟩:=H;by_cases aV:bg=true
    ·subst aV;replace H:=iT H;by_cases u:((rd_T86 c b).f0).toList=ae.toList
     ·rw[if_pos u]at H;obtain⟨cQ,cR⟩:=eT u;clear u;obtain rfl:=Option.some.inj H;obtain⟨bS,bT,aW,aL,bU,bV,bW,bX,bY,bZ,b0⟩:=b7 HB (at_T86 HR0.out b);cases aL
      go_wp2_with (first|((with_reducible refine gF 78 ?_);refine goZ (some 20) Tryz.func78 #[.agg #[.string ((rd_T86 c b).f0),.int .i64 ((rd_T86 c b).f1.f0),.int .i64 ((rd_T86 c b).f1.f1),.int .i64 ((rd_T86 c b).f1.f2),.int .i64 ((rd_T86 c b).f1.f3),.string ((rd_T86 c b).f2),.string ((rd_T86 c b).f3)]] ?_;(with_reducible refine(impl_Line_isPlace.calls ((rd_T86 c b).f0) ((rd_T86 c b).f1.f0) ((rd_T86 c b).f1.f1) ((rd_T86 c b).f1.f2) ((rd_T86 c b).f1.f3) ((rd_T86 c b).f2) ((rd_T86 c b).f3) true _ bh.out).mono ?_);rintro e cN ⟨rfl,hb⟩;refine⟨_,rfl,?_⟩;replace HB:=sB hb;(try clear hb);obtain⟨cS,cT,bi,bj,cU,cV,cW,cX,cY,cZ,c0⟩:=b7 HB (at_T86 HR0.out b);obtain rfl:aW=bi:=(by injection bj)))
      go_ret;exact⟨rE,cB⟩
     ·rw[if_neg u]at H;obtain⟨cQ,cR⟩:=eF u;have H':=aM H;clear H;obtain⟨bS,bT,aW,aL,bU,bV,bW,bX,bY,bZ,b0⟩:=b7 HB (at_T86 HR0.out b);cases aL
      go_wp2_with (first|((with_reducible refine gF 78 ?_);refine goZ (some 20) Tryz.func78 #[.agg #[.string ((rd_T86 c b).f0),.int .i64 ((rd_T86 c b).f1.f0),.int .i64 ((rd_T86 c b).f1.f1),.int .i64 ((rd_T86 c b).f1.f2),.int .i64 ((rd_T86 c b).f1.f3),.string ((rd_T86 c b).f2),.string ((rd_T86 c b).f3)]] ?_;(with_reducible refine(impl_Line_isPlace.calls ((rd_T86 c b).f0) ((rd_T86 c b).f1.f0) ((rd_T86 c b).f1.f1) ((rd_T86 c b).f1.f2) ((rd_T86 c b).f1.f3) ((rd_T86 c b).f2) ((rd_T86 c b).f3) true _ bh.out).mono ?_);rintro e eJ ⟨rfl,hb⟩;refine⟨_,rfl,?_⟩;replace HB:=sB hb;(try clear hb);obtain⟨cS,cT,bi,bj,cU,cV,cW,cX,cY,cZ,c0⟩:=b7 HB (at_T86 HR0.out b);obtain rfl:aW=bi:=(by injection bj)))
      go_roundg k1
      case measure=>have:=HK1.out;omega
      case rel=>exact⟨(wrap64 (b+1)),rS,H',⟨by have:=HK1.out;omega⟩,⟨cB⟩⟩
    ·replace aV:=Bool.eq_false_iff.mpr aV;subst aV;replace H:=iF H;have H':=aM H;clear H;obtain⟨bS,bT,aW,aL,bU,bV,bW,bX,bY,bZ,b0⟩:=b7 HB (at_T86 HR0.out b);cases aL
     go_wp2_with (first|((with_reducible refine gF 78 ?_);refine goZ (some 20) Tryz.func78 #[.agg #[.string ((rd_T86 c b).f0),.int .i64 ((rd_T86 c b).f1.f0),.int .i64 ((rd_T86 c b).f1.f1),.int .i64 ((rd_T86 c b).f1.f2),.int .i64 ((rd_T86 c b).f1.f3),.string ((rd_T86 c b).f2),.string ((rd_T86 c b).f3)]] ?_;(with_reducible refine(impl_Line_isPlace.calls ((rd_T86 c b).f0) ((rd_T86 c b).f1.f0) ((rd_T86 c b).f1.f1) ((rd_T86 c b).f1.f2) ((rd_T86 c b).f1.f3) ((rd_T86 c b).f2) ((rd_T86 c b).f3) false _ bh.out).mono ?_);rintro e eK ⟨rfl,hb⟩;refine⟨_,rfl,?_⟩;replace HB:=sB hb;(try clear hb)))
     go_roundg k1
     case measure=>have:=HK1.out;omega
     case rel=>exact⟨(wrap64 (b+1)),rS,H',⟨by have:=HK1.out;omega⟩,⟨cB⟩⟩
   ·rw[if_neg o]at H;have ah:=decide_eq_false o;clear o;obtain rfl:=Option.some.inj H;go_wp2;go_ret;exact⟨rE,cB⟩
end Go.Proofs.YtpbalojiaghfhaaGreat.PFnExactCompile
