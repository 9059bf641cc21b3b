import Derived.Test.YtfhjjfibblcklaaPFnExactReadPolicyy0
import Derived.Test.YtfhjjfibblcklaaPFnExactReadPolicyy1
import Derived.Test.YtfhjjfibblcklaaPFnExactReadPolicyy7
namespace Go.Proofs.Ytfhjjfibblcklaa.PFnExactReadPolicy
open Go.RowKit Go.Proofs.YtfhjjfibblcklaaW.PrintWords Go.Proofs.YtfhjjfibblcklaaW.PrintLast Go.Proofs.YtfhjjfibblcklaaW.PrintMore Go.Proofs.YtfhjjfibblcklaaW.Z
open Kd
attribute [local go_sem] isS max2_int min2_int max_two min_two max_three min_three max_four min_four
set_option linter.unusedVariables false
set_option linter.unusedSimpArgs false
mutual
def spec_l09Rule.l0:Nat→Int→List Int→List (S66)→Int→Int→Option (Bool)
  | 0,_,_,_,_,_=>none
  | k+1,n,G,z,ak,al=>if n<(G.length:Int)then(if 0≤n then((spec_HalfOk.f (rd G n)).bind fun aD=>(if aD=true then(if n>0 then(if 0≤(wrap64 (n - 1))then(if(wrap64 (n - 1))<(G.length:Int)then(if(rd G (wrap64 (n - 1)))≥(rd G n)then(some false)else(spec_l09Rule.l0 k (wrap64 (n+1)) G z ak al))else(none))else(none))else(spec_l09Rule.l0 k (wrap64 (n+1)) G z ak al))else(some false)))else(none))else(spec_l09Rule.l1 k 0 G z ak al)
def spec_l09Rule.l1:Nat→Int→List Int→List (S66)→Int→Int→Option (Bool)
  | 0,_,_,_,_,_=>none
  | k+1,U,G,z,ak,al=>if U<(z.length:Int)then(if 0≤U then((spec_CondOk.f ((rd_T66 z U).f0) ((rd_T66 z U).f1.f0) ((rd_T66 z U).f1.f1) ((rd_T66 z U).f2) ((rd_T66 z U).f3.f0) ((rd_T66 z U).f3.f1)).bind fun aE=>(if aE=true then(spec_l09Rule.l1 k (wrap64 (U+1)) G z ak al)else(some false)))else(none))else(if(G.length:Int)≤4 then(if(z.length:Int)≤3 then((spec_l09Act.f ak al).bind fun aP=>(some aP))else(some false))else(some false))
end
def spec_l09Rule.f (k:Nat) (b:List Int) (m:List (S66)) (l:Int) (A:Int):Option (Bool):=spec_l09Rule.l0 k 0 b m l A
set_option maxHeartbeats 8000000 in
set_option maxRecDepth 100000 in
theorem spec_l09Rule.calls {k:Nat}{Y:Option Addr}{aa:Nat}{b:List Int}{ab:Option Addr}{ac:Nat}{m:List (S66)}{l:Int}{A:Int}{r:Bool}{w:World}(h:spec_l09Rule.f k b m l A=some r)(aQ:Kd.C (Kd.int .i64) w Y b.length b)(aR:b.length≤aa)(aS:Kd.C k66 w ab m.length m)(aT:m.length≤ac) :
 Calls Try.prog 33 #[.agg #[.slice Y b.length aa,.slice ab m.length ac,.int .i64 l,.int .i64 A]] w fun e w'=>e= .returned (.bool r)∧Below w.heap.size w w':=by
 have hu43:=Try.underlying43;have hu66:=Try.underlying66;have HR0_0:=aM aQ;have HC0_0:=aM aR;clear aQ aR;have HR0_1:=aM aS;have HC0_1:=aM aT;clear aS aT;have HB:=rW w;have H:(spec_l09Rule.l0 k 0 b m l A)=some r:=h;clear h;have H':=aM H;clear H;go_enter Try.func33,Try.ntmps33
 go_wp2_with (first|((with_reducible refine gN 1 ?_);(try(refine gate_guard (by rfl) ?_;dsimp only));refine boxZ 1 #[.slice Y b.length aa,.slice ab m.length ac,.int .i64 l,.int .i64 A] 43 ?_;intro aw hg aF hbox hb;have c:=aM hbox;have GW307:=gS hg;have GE307:=gS hg;replace HB:=sB hb;clear hb hbox hg))
 repeat(go_quiet (first|((with_reducible refine gate_dst (N:=1) rfl ?_);(try(refine gate_guard (by rfl) ?_;dsimp only));refine box_event ?hg (N:=1) ?hd (cs:= #[.slice Y b.length aa,.slice ab m.length ac,.int .i64 l,.int .i64 A]) (t:=43) ?hr ?_;(case hd=>rfl);(case hg=>rfl);(case hr=>first|(go_simp;done)|(go_simp;rfl));intro aw hg aF hbox hb;have n0_:=sB hb;have n1_:=aM hbox;have n2_:=gS hg;have n3_:=gS hg;clear HB;have HB:=n0_;have c:=n1_;have GW307:=n2_;have GE307:=n3_;clear n0_ n1_ n2_ n3_;clear hb hbox hg));try go_wp2_with (first|((with_reducible refine gate_dst (N:=1) rfl ?_);(try(refine gate_guard (by rfl) ?_;dsimp only));refine box_event ?hg (N:=1) ?hd (cs:= #[.slice Y b.length aa,.slice ab m.length ac,.int .i64 l,.int .i64 A]) (t:=43) ?hr ?_;(case hd=>rfl);(case hg=>rfl);(case hr=>first|(go_simp;done)|(go_simp;rfl));intro aw hg aF hbox hb;have n0_:=sB hb;have n1_:=aM hbox;have n2_:=gS hg;have n3_:=gS hg;clear HB;have HB:=n0_;have c:=n1_;have GW307:=n2_;have GE307:=n3_;clear n0_ n1_ n2_ n3_;clear hb hbox hg)))
 go_loopg [3] k (fun kq aG w'=> ∃ (a:Int),aG= .int .i64 a∧Aside0 (spec_l09Rule.l0 kq a b m l A=some r)∧Aside0 (kq≤k)∧Aside0 (w'.heap[aw]?=some (.cells #[(.slice Y b.length aa),(.slice ab m.length ac),.int .i64 l,.int .i64 A] 43 (0,0)))∧Aside0 (Below w.heap.size w w'))
 case atStart=>exact⟨(0),rS,H',⟨Nat.le_refl _⟩,⟨mK c⟩,⟨cB⟩⟩
 case round=>
  clear H';obtain⟨a,rfl,HA,HK1,c,HB⟩:=hrel
  cases gk with
  | zero=>exact absurd HA.out (by simp[spec_l09Rule.l0])
  | succ k1=>
   have H:=HA.out;clear HA;simp only[spec_l09Rule.l0]at H;by_cases x:a<(b.length:Int)
   ·rw[if_pos x]at H;have ax:=decide_eq_true x;clear x;replace H:=gD H;obtain⟨aU,H⟩:=H;replace H:=bE H;obtain⟨aD,q,H⟩:=H;by_cases O:aD=true
    ·subst O;replace H:=iT H;by_cases ad:a>0
     ·rw[if_pos ad]at H;have aV:decide (0<a)=true:=decide_eq_true ad;clear ad;obtain⟨ji8,hji8⟩ : ∃ j_:Int,(wrap64 (a - 1))=j_:=⟨_,rfl⟩
      (first|rw[hji8]at H|simp only[hji8]at H)
      (try rw[hji8]at q);have hji8w:(IntKind.i64.wrap (a - 1))=ji8:=(i64_w _).trans hji8;replace H:=gD H;obtain⟨bm,H⟩:=H;replace H:=gD H;obtain⟨bn,H⟩:=H;by_cases ae:(rd b (ji8))≥(rd b a)
      ·rw[if_pos ae]at H;have aW:decide ((rd b a)≤(rd b (ji8)))=true:=decide_eq_true ae;clear ae;obtain rfl:=Option.some.inj H;obtain⟨bo,bp,bq,br,bs,bu,bv,bw⟩:=cz4 c;have s:0≤(a:Int):=dA;have u:a<(b.length:Int):=dA;obtain⟨v,af,D⟩:=at_int HR0_0.out a s u;cases af;replace D:=(bc HB D :);replace s:=eq_true s;replace u:=eq_true u
       go_wp2_with (first|(go_at_call 25;(with_reducible refine(spec_HalfOk.calls q.out).mono ?_);rintro e w' ⟨rfl,⟨nd,rfl⟩⟩;(try first|exact⟨rfl,_,World.drewN_drewN _ _ _⟩|exact⟨rfl,_,Eq.trans (World.drewN_drewN _ _ _) (congrArg (World.drewN _) (Nat.add_assoc _ _ _))⟩);have d:0≤((ji8):Int):=dA;have g:(ji8)<(b.length:Int):=dA;obtain⟨I,J,o⟩:=at_int HR0_0.out (ji8) d g;obtain rfl:v=I:=(by injection J);replace o:=(bc HB o :);replace d:=eq_true d;replace g:=eq_true g;have i:0≤(a:Int):=dA;have j:a<(b.length:Int):=dA;obtain⟨L,M,p⟩:=at_int HR0_0.out a i j;obtain rfl:v=L:=(by injection M);replace p:=(bc HB p :);replace i:=eq_true i;replace j:=eq_true j))
       repeat(go_quiet (first|(go_at_call 25;(with_reducible refine(spec_HalfOk.calls q.out).mono ?_);rintro e w' ⟨rfl,⟨nd,rfl⟩⟩;(try first|exact⟨rfl,_,World.drewN_drewN _ _ _⟩|exact⟨rfl,_,Eq.trans (World.drewN_drewN _ _ _) (congrArg (World.drewN _) (Nat.add_assoc _ _ _))⟩);have d:0≤((ji8):Int):=dA;have g:(ji8)<(b.length:Int):=dA;obtain⟨I,J,o⟩:=at_int HR0_0.out (ji8) d g;obtain rfl:v=I:=(by injection J);replace o:=(bc HB o :);replace d:=eq_true d;replace g:=eq_true g;have i:0≤(a:Int):=dA;have j:a<(b.length:Int):=dA;obtain⟨L,M,p⟩:=at_int HR0_0.out a i j;obtain rfl:v=L:=(by injection M);replace p:=(bc HB p :);replace i:=eq_true i;replace j:=eq_true j));try go_wp2_with (first|(go_at_call 25;(with_reducible refine(spec_HalfOk.calls q.out).mono ?_);rintro e w' ⟨rfl,⟨nd,rfl⟩⟩;(try first|exact⟨rfl,_,World.drewN_drewN _ _ _⟩|exact⟨rfl,_,Eq.trans (World.drewN_drewN _ _ _) (congrArg (World.drewN _) (Nat.add_assoc _ _ _))⟩);have d:0≤((ji8):Int):=dA;have g:(ji8)<(b.length:Int):=dA;obtain⟨I,J,o⟩:=at_int HR0_0.out (ji8) d g;obtain rfl:v=I:=(by injection J);replace o:=(bc HB o :);replace d:=eq_true d;replace g:=eq_true g;have i:0≤(a:Int):=dA;have j:a<(b.length:Int):=dA;obtain⟨L,M,p⟩:=at_int HR0_0.out a i j;obtain rfl:v=L:=(by injection M);replace p:=(bc HB p :);replace i:=eq_true i;replace j:=eq_true j)))
       go_ret
       exact⟨by first|rfl|(simp[errW_none,errW_some] <;> rfl)|(simp only[← hji8];first|rfl|(simp[errW_none,errW_some] <;> rfl))|(simp[*,errW_none,errW_some] <;> rfl),cB⟩
      ·rw[if_neg ae]at H;have aW:decide ((rd b a)≤(rd b (ji8)))=false:=decide_eq_false ae;clear ae;have H':=aM H;clear H;obtain⟨bx,bz,bA,bB,bC,bD,bF,bG⟩:=cz4 c;have s:0≤(a:Int):=dA;have u:a<(b.length:Int):=dA;obtain⟨v,af,D⟩:=at_int HR0_0.out a s u;cases af;replace D:=(bc HB D :);replace s:=eq_true s;replace u:=eq_true u
       go_wp2_with (first|(go_at_call 25;(with_reducible refine(spec_HalfOk.calls q.out).mono ?_);rintro e w' ⟨rfl,⟨nd,rfl⟩⟩;(try first|exact⟨rfl,_,World.drewN_drewN _ _ _⟩|exact⟨rfl,_,Eq.trans (World.drewN_drewN _ _ _) (congrArg (World.drewN _) (Nat.add_assoc _ _ _))⟩);have d:0≤((ji8):Int):=dA;have g:(ji8)<(b.length:Int):=dA;obtain⟨I,J,o⟩:=at_int HR0_0.out (ji8) d g;obtain rfl:v=I:=(by injection J);replace o:=(bc HB o :);replace d:=eq_true d;replace g:=eq_true g;have i:0≤(a:Int):=dA;have j:a<(b.length:Int):=dA;obtain⟨L,M,p⟩:=at_int HR0_0.out a i j;obtain rfl:v=L:=(by injection M);replace p:=(bc HB p :);replace i:=eq_true i;replace j:=eq_true j))
       repeat(go_quiet (first|(go_at_call 25;(with_reducible refine(spec_HalfOk.calls q.out).mono ?_);rintro e w' ⟨rfl,⟨nd,rfl⟩⟩;(try first|exact⟨rfl,_,World.drewN_drewN _ _ _⟩|exact⟨rfl,_,Eq.trans (World.drewN_drewN _ _ _) (congrArg (World.drewN _) (Nat.add_assoc _ _ _))⟩);have d:0≤((ji8):Int):=dA;have g:(ji8)<(b.length:Int):=dA;obtain⟨I,J,o⟩:=at_int HR0_0.out (ji8) d g;obtain rfl:v=I:=(by injection J);replace o:=(bc HB o :);replace d:=eq_true d;replace g:=eq_true g;have i:0≤(a:Int):=dA;have j:a<(b.length:Int):=dA;obtain⟨L,M,p⟩:=at_int HR0_0.out a i j;obtain rfl:v=L:=(by injection M);replace p:=(bc HB p :);replace i:=eq_true i;replace j:=eq_true j));try go_wp2_with (first|(go_at_call 25;(with_reducible refine(spec_HalfOk.calls q.out).mono ?_);rintro e w' ⟨rfl,⟨nd,rfl⟩⟩;(try first|exact⟨rfl,_,World.drewN_drewN _ _ _⟩|exact⟨rfl,_,Eq.trans (World.drewN_drewN _ _ _) (congrArg (World.drewN _) (Nat.add_assoc _ _ _))⟩);have d:0≤((ji8):Int):=dA;have g:(ji8)<(b.length:Int):=dA;obtain⟨I,J,o⟩:=at_int HR0_0.out (ji8) d g;obtain rfl:v=I:=(by injection J);replace o:=(bc HB o :);replace d:=eq_true d;replace g:=eq_true g;have i:0≤(a:Int):=dA;have j:a<(b.length:Int):=dA;obtain⟨L,M,p⟩:=at_int HR0_0.out a i j;obtain rfl:v=L:=(by injection M);replace p:=(bc HB p :);replace i:=eq_true i;replace j:=eq_true j)))
       go_roundg k1
       case measure=>exact oK
       case rel=>exact⟨(wrap64 (a+1)),rS,H',⟨oK⟩,⟨mK c⟩,⟨cB⟩⟩
     ·rw[if_neg ad]at H;have aV:decide (0<a)=false:=decide_eq_false ad;clear ad;have H':=aM H;clear H;obtain⟨bH,bI,bJ,bL,bM,bN,bO,bP⟩:=cz4 c;have s:0≤(a:Int):=dA;have u:a<(b.length:Int):=dA;obtain⟨v,af,D⟩:=at_int HR0_0.out a s u;cases af;replace D:=(bc HB D :);replace s:=eq_true s;replace u:=eq_true u
      go_wp2_with (first|(go_at_call 25;(with_reducible refine(spec_HalfOk.calls q.out).mono ?_);rintro e w' ⟨rfl,⟨nd,rfl⟩⟩;(try first|exact⟨rfl,_,World.drewN_drewN _ _ _⟩|exact⟨rfl,_,Eq.trans (World.drewN_drewN _ _ _) (congrArg (World.drewN _) (Nat.add_assoc _ _ _))⟩)))
      repeat(go_quiet (first|(go_at_call 25;(with_reducible refine(spec_HalfOk.calls q.out).mono ?_);rintro e w' ⟨rfl,⟨nd,rfl⟩⟩;(try first|exact⟨rfl,_,World.drewN_drewN _ _ _⟩|exact⟨rfl,_,Eq.trans (World.drewN_drewN _ _ _) (congrArg (World.drewN _) (Nat.add_assoc _ _ _))⟩)));try go_wp2_with (first|(go_at_call 25;(with_reducible refine(spec_HalfOk.calls q.out).mono ?_);rintro e w' ⟨rfl,⟨nd,rfl⟩⟩;(try first|exact⟨rfl,_,World.drewN_drewN _ _ _⟩|exact⟨rfl,_,Eq.trans (World.drewN_drewN _ _ _) (congrArg (World.drewN _) (Nat.add_assoc _ _ _))⟩))))
      go_roundg k1
      case measure=>exact oK
      case rel=>exact⟨(wrap64 (a+1)),rS,H',⟨oK⟩,⟨mK c⟩,⟨cB⟩⟩
    ·replace O:=Bool.eq_false_iff.mpr O;subst O;replace H:=iF H;obtain rfl:=Option.some.inj H;obtain⟨aX,aY,aZ,a0,a1,a2,a3,a4⟩:=cz4 c;have s:0≤(a:Int):=dA;have u:a<(b.length:Int):=dA;obtain⟨v,af,D⟩:=at_int HR0_0.out a s u;cases af;replace D:=(bc HB D :);replace s:=eq_true s;replace u:=eq_true u
     go_wp2_with (first|(go_at_call 25;(with_reducible refine(spec_HalfOk.calls q.out).mono ?_);rintro e w' ⟨rfl,⟨nd,rfl⟩⟩;(try first|exact⟨rfl,_,World.drewN_drewN _ _ _⟩|exact⟨rfl,_,Eq.trans (World.drewN_drewN _ _ _) (congrArg (World.drewN _) (Nat.add_assoc _ _ _))⟩)))
     repeat(go_quiet (first|(go_at_call 25;(with_reducible refine(spec_HalfOk.calls q.out).mono ?_);rintro e w' ⟨rfl,⟨nd,rfl⟩⟩;(try first|exact⟨rfl,_,World.drewN_drewN _ _ _⟩|exact⟨rfl,_,Eq.trans (World.drewN_drewN _ _ _) (congrArg (World.drewN _) (Nat.add_assoc _ _ _))⟩)));try go_wp2_with (first|(go_at_call 25;(with_reducible refine(spec_HalfOk.calls q.out).mono ?_);rintro e w' ⟨rfl,⟨nd,rfl⟩⟩;(try first|exact⟨rfl,_,World.drewN_drewN _ _ _⟩|exact⟨rfl,_,Eq.trans (World.drewN_drewN _ _ _) (congrArg (World.drewN _) (Nat.add_assoc _ _ _))⟩))))
     go_ret;exact⟨rE,cB⟩
   ·rw[if_neg x]at H;have ax:=decide_eq_false x;clear x;have H':=aM H;clear H;obtain⟨a5,a6,a7,a8,a9,ba,bb,bd⟩:=cz4 c;go_wp2
    repeat(go_quiet (fail);try go_wp2)
    go_loopg [4] k1 (fun kq bQ w'=> ∃ (ag:Int),bQ= .int .i64 ag∧Aside0 (spec_l09Rule.l1 kq ag b m l A=some r)∧Aside0 (kq≤k1)∧Aside0 (w'.heap[aw]?=some (.cells #[(.slice Y b.length aa),(.slice ab m.length ac),.int .i64 l,.int .i64 A] 43 (0,0)))∧Aside0 (Below w.heap.size w w'))
    case atStart=>exact⟨(0),rS,H',⟨Nat.le_refl _⟩,⟨mK c⟩,⟨cB⟩⟩
    case round=>
     clear H';(try clear x);(try clear ax);(try clear cg);(try clear aU);(try clear O);(try clear ad);(try clear aV);(try clear ch);(try clear bm);(try clear ci);(try clear bn);(try clear ae);(try clear aW);(try clear bo bp bq br);(try clear bx bz bA bB);(try clear bH bI bJ bL);(try clear aX aY aZ a0);(try clear a5 a6 a7 a8);(try clear bs bu bv bw);(try clear bC bD bF bG);(try clear bM bN bO bP);(try clear a1 a2 a3 a4);(try clear a9 ba bb bd);(try clear D);(try clear o);(try clear p);(try clear s);(try clear d);(try clear i);(try clear u);(try clear g);(try clear j);obtain⟨ag,rfl,HA,HK2,c,HB⟩:=hrel
     cases gk with
     | zero=>exact absurd HA.out (by simp[spec_l09Rule.l1])
     | succ k2=>
      have H:=HA.out;clear HA;simp only[spec_l09Rule.l1]at H;by_cases am:ag<(m.length:Int)
      ·rw[if_pos am]at H;have bR:=decide_eq_true am;clear am;replace H:=gD H;obtain⟨cj,H⟩:=H;replace H:=bE H;obtain⟨aE,an,H⟩:=H;by_cases ay:aE=true
       ·subst ay;replace H:=iT H;have H':=aM H;clear H;obtain⟨ck,cl,cm,cn,co,cp,cq,cr⟩:=cz4 c;obtain⟨bS,bT,bU,aH,bV,bW,bX,bY,bZ,b0⟩:=b6 HB (at_T66 HR0_1.out ag);cases aH
        go_wp2_with (first|(go_at_call 62;(with_reducible refine(spec_CondOk.calls an.out).mono ?_);rintro e be ⟨rfl,hb⟩;replace c:=kB c hb;replace HB:=sB hb;(try clear hb)))
        repeat(go_quiet (first|(go_at_call 62;(with_reducible refine(spec_CondOk.calls an.out).mono ?_);rintro e be ⟨rfl,hb⟩;have n0_:=kB c hb;have n1_:=sB hb;clear c;clear HB;have c:=n0_;have HB:=n1_;clear n0_ n1_;(try clear hb);(try clear hb2);(try clear hk);(try clear hi)));try go_wp2_with (first|(go_at_call 62;(with_reducible refine(spec_CondOk.calls an.out).mono ?_);rintro e be ⟨rfl,hb⟩;have n0_:=kB c hb;have n1_:=sB hb;clear c;clear HB;have c:=n0_;have HB:=n1_;clear n0_ n1_;(try clear hb);(try clear hb2);(try clear hk);(try clear hi))))
        go_roundg k2
        case measure=>have:=HK1.out;have:=HK2.out;omega
        case rel=>exact⟨(wrap64 (ag+1)),rS,H',⟨by have:=HK1.out;have:=HK2.out;omega⟩,⟨mK c⟩,⟨cB⟩⟩
       ·replace ay:=Bool.eq_false_iff.mpr ay;subst ay;replace H:=iF H;obtain rfl:=Option.some.inj H;obtain⟨ct,cu,cv,cw,cx,cy,cz,cA⟩:=cz4 c;obtain⟨bS,bT,bU,aH,bV,bW,bX,bY,bZ,b0⟩:=b6 HB (at_T66 HR0_1.out ag);cases aH
        go_wp2_with (first|(go_at_call 62;(with_reducible refine(spec_CondOk.calls an.out).mono ?_);rintro e bf ⟨rfl,hb⟩;replace c:=kB c hb;replace HB:=sB hb;(try clear hb)))
        repeat(go_quiet (first|(go_at_call 62;(with_reducible refine(spec_CondOk.calls an.out).mono ?_);rintro e bf ⟨rfl,hb⟩;have n0_:=kB c hb;have n1_:=sB hb;clear c;clear HB;have c:=n0_;have HB:=n1_;clear n0_ n1_;(try clear hb);(try clear hb2);(try clear hk);(try clear hi)));try go_wp2_with (first|(go_at_call 62;(with_reducible refine(spec_CondOk.calls an.out).mono ?_);rintro e bf ⟨rfl,hb⟩;have n0_:=kB c hb;have n1_:=sB hb;clear c;clear HB;have c:=n0_;have HB:=n1_;clear n0_ n1_;(try clear hb);(try clear hb2);(try clear hk);(try clear hi))))
        go_ret;exact⟨rE,cB⟩
      ·rw[if_neg am]at H;have bR:=decide_eq_false am;clear am;by_cases ao:(b.length:Int)≤4
       ·rw[if_pos ao]at H;have b1:=decide_eq_true ao
        have b5:decide (b.length≤4)=true:=decide_eq_true (by omega)
        clear ao;by_cases ap:(m.length:Int)≤3
        ·rw[if_pos ap]at H;have b8:=decide_eq_true ap
         have b9:decide (m.length≤3)=true:=decide_eq_true (by omega)
         clear ap;replace H:=bE H;obtain⟨aP,aI,H⟩:=H;obtain rfl:=Option.some.inj H;obtain⟨cD,cE,cF,cG,cI,cJ,cL,cM⟩:=cz4 c
         go_wp2_with (first|(go_at_call 34;(with_reducible refine(spec_l09Act.calls aI.out).mono ?_);rintro e w' ⟨rfl,⟨nd,rfl⟩⟩;(try first|exact⟨rfl,_,World.drewN_drewN _ _ _⟩|exact⟨rfl,_,Eq.trans (World.drewN_drewN _ _ _) (congrArg (World.drewN _) (Nat.add_assoc _ _ _))⟩)))
         repeat(go_quiet (first|(go_at_call 34;(with_reducible refine(spec_l09Act.calls aI.out).mono ?_);rintro e w' ⟨rfl,⟨nd,rfl⟩⟩;(try first|exact⟨rfl,_,World.drewN_drewN _ _ _⟩|exact⟨rfl,_,Eq.trans (World.drewN_drewN _ _ _) (congrArg (World.drewN _) (Nat.add_assoc _ _ _))⟩)));try go_wp2_with (first|(go_at_call 34;(with_reducible refine(spec_l09Act.calls aI.out).mono ?_);rintro e w' ⟨rfl,⟨nd,rfl⟩⟩;(try first|exact⟨rfl,_,World.drewN_drewN _ _ _⟩|exact⟨rfl,_,Eq.trans (World.drewN_drewN _ _ _) (congrArg (World.drewN _) (Nat.add_assoc _ _ _))⟩))))
         go_ret;exact⟨rE,cB⟩
        ·rw[if_neg ap]at H;have b8:=decide_eq_false ap
         have b9:decide (m.length≤3)=false:=decide_eq_false (by omega)
         clear ap;obtain rfl:=Option.some.inj H;obtain⟨cN,cO,cP,cQ,cR,cS,cT,cU⟩:=cz4 c;go_wp2
         repeat(go_quiet (fail);try go_wp2)
         go_ret;exact⟨rE,cB⟩
       ·rw[if_neg ao]at H;have b1:=decide_eq_false ao
        have b5:decide (b.length≤4)=false:=decide_eq_false (by omega)
        clear ao;obtain rfl:=Option.some.inj H;obtain⟨cV,cW,cX,cY,cZ,c0,c1,c3⟩:=cz4 c;go_wp2
        repeat(go_quiet (fail);try go_wp2)
        go_ret;exact⟨rE,cB⟩
def spec_PolicyOk.l0:Nat→Int→Int→Int→Int→List (S43)→Option (Bool)
  | 0,_,_,_,_,_=>none
  | k+1,n,bg,bh,bi,ah=>if n<(ah.length:Int)then(if 0≤n then((spec_l09Rule.f k ((rd_T43 ah n).f0) ((rd_T43 ah n).f1) ((rd_T43 ah n).f2) ((rd_T43 ah n).f3)).bind fun aJ=>(if aJ=true then(spec_PolicyOk.l0 k (wrap64 (n+1)) bg bh bi ah)else(some false)))else(none))else((spec_HalfOk.f bg).bind fun aK=>(if aK=true then((spec_l09Act.f bh bi).bind fun aL=>(if aL=true then(some (decide ((ah.length:Int)≤10)))else(some false)))else(some false)))
def spec_PolicyOk.f (k:Nat) (W:Int) (X:Int) (l:Int) (y:List (S43)):Option (Bool):=spec_PolicyOk.l0 k 0 W X l y
set_option maxHeartbeats 8000000 in
set_option maxRecDepth 100000 in
theorem spec_PolicyOk.calls {k:Nat}{W:Int}{X:Int}{l:Int}{az:Option Addr}{aA:Nat}{y:List (S43)}{r:Bool}{w:World}(h:spec_PolicyOk.f k W X l y=some r)(bj:Kd.C k43 w az y.length y)(bk:y.length≤aA) :
 Calls Try.prog 14 #[.agg #[.int .i64 W,.int .i64 X,.int .i64 l,.slice az y.length aA]] w fun e w'=>e= .returned (.bool r)∧Below w.heap.size w w':=by
 have hu24:=Try.underlying24;have hu43:=Try.underlying43;have HR0_3:=aM bj;have HC0_3:=aM bk;clear bj bk;have HB:=rW w;have H:(spec_PolicyOk.l0 k 0 W X l y)=some r:=h;clear h;have H':=aM H;clear H;go_enter Try.func14,Try.ntmps14
 go_wp2_with (first|((with_reducible refine gN 1 ?_);(try(refine gate_guard (by rfl) ?_;dsimp only));refine boxZ 1 #[.int .i64 W,.int .i64 X,.int .i64 l,.slice az y.length aA] 24 ?_;intro ca hg aF hbox hb;have E:=aM hbox;have GW315:=gS hg;have GE315:=gS hg;replace HB:=sB hb;clear hb hbox hg))
 go_loopg [3] k (fun kq aG w'=> ∃ (a:Int),aG= .int .i64 a∧Aside0 (spec_PolicyOk.l0 kq a W X l y=some r)∧Aside0 (kq≤k)∧Aside0 (w'.heap[ca]?=some (.cells #[.int .i64 W,.int .i64 X,.int .i64 l,(.slice az y.length aA)] 24 (0,0)))∧Aside0 (Below w.heap.size w w'))
 case atStart=>exact⟨(0),rS,H',⟨Nat.le_refl _⟩,⟨mK E⟩,⟨cB⟩⟩
 case round=>
  clear H';obtain⟨a,rfl,HA,HK1,E,HB⟩:=hrel
  cases gk with
  | zero=>exact absurd HA.out (by simp[spec_PolicyOk.l0])
  | succ k1=>
   have H:=HA.out;clear HA;simp only[spec_PolicyOk.l0]at H;by_cases x:a<(y.length:Int)
   ·rw[if_pos x]at H;have ax:=decide_eq_true x;clear x;replace H:=gD H;obtain⟨aU,H⟩:=H;replace H:=bE H;obtain⟨aJ,q,H⟩:=H;by_cases O:aJ=true
    ·subst O;replace H:=iT H;have H':=aM H;clear H;obtain⟨c4,c6,c7,c9,da,db,dc,dd⟩:=cz4 E;have ai:0≤(a:Int):=dA;have aj:a<(y.length:Int):=dA;obtain⟨cb,cc,cd,ce,cf,aN,aq,ar,au,av,hl316_0,hi316_0,hl316_1,hi316_1⟩:=at_T43 HR0_3.out a ai aj;cases aN;replace aq:=(bc HB aq :);replace ar:=(bc HB ar :);replace au:=(bc HB au :);replace av:=(bc HB av :);have HR316_0:=aM hi316_0;have HC316_0:=aM hl316_0;clear hi316_0 hl316_0;have HR316_1:=aM hi316_1;have HC316_1:=aM hl316_1;clear hi316_1 hl316_1;replace ai:=eq_true ai;replace aj:=eq_true aj
     go_wp2_with (first|((with_reducible refine gF 33 ?_);refine gX (some 16) Try.func33 (spec_l09Rule.calls q.out (cH HR316_0) HC316_0.out (cH HR316_1) HC316_1.out) ?_;intro de hb;replace E:=kB E hb;replace HB:=sB hb;(try clear hb)))
     go_roundg k1
     case measure=>exact oK
     case rel=>exact⟨(wrap64 (a+1)),rS,H',⟨oK⟩,⟨mK E⟩,⟨cB⟩⟩
    ·replace O:=Bool.eq_false_iff.mpr O;subst O;replace H:=iF H;obtain rfl:=Option.some.inj H;obtain⟨df,dg,dh,di,dj,dk,dl,dm⟩:=cz4 E;have ai:0≤(a:Int):=dA;have aj:a<(y.length:Int):=dA;obtain⟨cb,cc,cd,ce,cf,aN,aq,ar,au,av,hl316_0,hi316_0,hl316_1,hi316_1⟩:=at_T43 HR0_3.out a ai aj;cases aN;replace aq:=(bc HB aq :);replace ar:=(bc HB ar :);replace au:=(bc HB au :);replace av:=(bc HB av :);have HR316_0:=aM hi316_0;have HC316_0:=aM hl316_0;clear hi316_0 hl316_0;have HR316_1:=aM hi316_1;have HC316_1:=aM hl316_1;clear hi316_1 hl316_1;replace ai:=eq_true ai;replace aj:=eq_true aj
     go_wp2_with (first|((with_reducible refine gF 33 ?_);refine gX (some 16) Try.func33 (spec_l09Rule.calls q.out (cH HR316_0) HC316_0.out (cH HR316_1) HC316_1.out) ?_;intro dn hb;replace E:=kB E hb;replace HB:=sB hb;(try clear hb)))
     go_ret;exact⟨rE,cB⟩
   ·rw[if_neg x]at H;have ax:=decide_eq_false x;clear x;replace H:=bE H;obtain⟨aK,aO,H⟩:=H;by_cases aB:aK=true
    ·subst aB;replace H:=iT H;replace H:=bE H;obtain⟨aL,bl,H⟩:=H;by_cases aC:aL=true
     ·subst aC;replace H:=iT H;obtain rfl:=Option.some.inj H;obtain⟨aX,aY,aZ,a0,a1,a2,a3,a4⟩:=cz4 E
      go_wp2_with (first|((with_reducible refine gF 25 ?_);refine gX (some 20) Try.func25 (spec_HalfOk.calls aO.out) ?_;rintro w' ⟨nd,rfl⟩)|(go_at_call 34;(with_reducible refine(spec_l09Act.calls bl.out).mono ?_);rintro e w' ⟨rfl,⟨nd,rfl⟩⟩))
      go_ret;exact⟨rE,cB⟩
     ·replace aC:=Bool.eq_false_iff.mpr aC;subst aC;replace H:=iF H;obtain rfl:=Option.some.inj H;obtain⟨a5,a6,a7,a8,a9,ba,bb,bd⟩:=cz4 E
      go_wp2_with (first|((with_reducible refine gF 25 ?_);refine gX (some 20) Try.func25 (spec_HalfOk.calls aO.out) ?_;rintro w' ⟨nd,rfl⟩)|(go_at_call 34;(with_reducible refine(spec_l09Act.calls bl.out).mono ?_);rintro e w' ⟨rfl,⟨nd,rfl⟩⟩))
      go_ret;exact⟨rE,cB⟩
    ·replace aB:=Bool.eq_false_iff.mpr aB;subst aB;replace H:=iF H;obtain rfl:=Option.some.inj H;obtain⟨dp,dq,dr,ds,dt,du,dv,dw⟩:=cz4 E
     go_wp2_with (first|((with_reducible refine gF 25 ?_);refine gX (some 20) Try.func25 (spec_HalfOk.calls aO.out) ?_;rintro w' ⟨nd,rfl⟩))
     go_ret;exact⟨rE,cB⟩
end Go.Proofs.Ytfhjjfibblcklaa.PFnExactReadPolicy
