import Derived.Test.YtpbalojiaghfhaaPFnStacksy0
import Derived.Test.YtpbalojiaghfhaaPFnStacksy2
import Derived.Test.YtpbalojiaghfhaaPFnStacksy7
namespace Go.Proofs.Ytpbalojiaghfhaa.PFnStacks
open Go.RowKit Go.Proofs.YtpbalojiaghfhaaW.PrintWords Go.Proofs.YtpbalojiaghfhaaW.PrintLast Go.Proofs.YtpbalojiaghfhaaW.PrintMore Go.Proofs.YtpbalojiaghfhaaW.Z
open Kd
attribute [local go_sem] isS max2_int min2_int max_two min_two max_three min_three max_four min_four
set_option linter.unusedVariables false
set_option linter.unusedSimpArgs false
mutual
def spec_l09Rule.l0:Nat→Int→List Int→List (S114)→Int→Int→Option (Bool)
  | 0,_,_,_,_,_=>none
  | k+1,o,J,z,ap,aq=>if o<(J.length:Int)then(if 0≤o then((spec_HalfOk.f (rd J o)).bind fun aK=>(if aK=true then(if o>0 then(if 0≤(wrap64 (o - 1))then(if(wrap64 (o - 1))<(J.length:Int)then(if(rd J (wrap64 (o - 1)))≥(rd J o)then(some false)else(spec_l09Rule.l0 k (wrap64 (o+1)) J z ap aq))else(none))else(none))else(spec_l09Rule.l0 k (wrap64 (o+1)) J z ap aq))else(some false)))else(none))else(spec_l09Rule.l1 k 0 J z ap aq)
def spec_l09Rule.l1:Nat→Int→List Int→List (S114)→Int→Int→Option (Bool)
  | 0,_,_,_,_,_=>none
  | k+1,X,J,z,ap,aq=>if X<(z.length:Int)then(if 0≤X then((spec_CondOk.f ((rd_T114 z X).f0) ((rd_T114 z X).f1.f0) ((rd_T114 z X).f1.f1) ((rd_T114 z X).f2) ((rd_T114 z X).f3.f0) ((rd_T114 z X).f3.f1)).bind fun aL=>(if aL=true then(spec_l09Rule.l1 k (wrap64 (X+1)) J z ap aq)else(some false)))else(none))else(if(J.length:Int)≤4 then(if(z.length:Int)≤3 then((spec_l09Act.f ap aq).bind fun aZ=>(some aZ))else(some false))else(some false))
end
def spec_l09Rule.f (k:Nat) (b:List Int) (n:List (S114)) (l:Int) (D:Int):Option (Bool):=spec_l09Rule.l0 k 0 b n l D
set_option maxHeartbeats 8000000 in
set_option maxRecDepth 100000 in
theorem spec_l09Rule.calls {k:Nat}{ab:Option Addr}{ac:Nat}{b:List Int}{ad:Option Addr}{ae:Nat}{n:List (S114)}{l:Int}{D:Int}{r:Bool}{w:World}(h:spec_l09Rule.f k b n l D=some r)(a0:Kd.C (Kd.int .i64) w ab b.length b)(a1:b.length≤ac)(a2:Kd.C k114 w ad n.length n)(a3:n.length≤ae) :
 Calls Try.prog 93 #[.agg #[.slice ab b.length ac,.slice ad n.length ae,.int .i64 l,.int .i64 D]] w fun e w'=>e= .returned (.bool r)∧Below w.heap.size w w':=by
 have hu81:=Try.underlying81;have hu114:=Try.underlying114;have HR0_0:=aM a0;have HC0_0:=aM a1;clear a0 a1;have HR0_1:=aM a2;have HC0_1:=aM a3;clear a2 a3;have HB:=rW w;have H:(spec_l09Rule.l0 k 0 b n l D)=some r:=h;clear h;have H':=aM H;clear H;go_enter Try.func93,Try.ntmps93
 go_wp2_with (first|((with_reducible refine gN 1 ?_);(try(refine gate_guard (by rfl) ?_;dsimp only));refine boxZ 1 #[.slice ab b.length ac,.slice ad n.length ae,.int .i64 l,.int .i64 D] 81 ?_;intro aD hg aN hbox hb;have c:=aM hbox;have GW435:=gS hg;have GE435:=gS hg;replace HB:=sB hb;clear hb hbox hg))
 repeat(go_quiet (first|((with_reducible refine gate_dst (N:=1) rfl ?_);(try(refine gate_guard (by rfl) ?_;dsimp only));refine box_event ?hg (N:=1) ?hd (cs:= #[.slice ab b.length ac,.slice ad n.length ae,.int .i64 l,.int .i64 D]) (t:=81) ?hr ?_;(case hd=>rfl);(case hg=>rfl);(case hr=>first|(go_simp;done)|(go_simp;rfl));intro aD hg aN hbox hb;have n0_:=sB hb;have n1_:=aM hbox;have n2_:=gS hg;have n3_:=gS hg;clear HB;have HB:=n0_;have c:=n1_;have GW435:=n2_;have GE435:=n3_;clear n0_ n1_ n2_ n3_;clear hb hbox hg));try go_wp2_with (first|((with_reducible refine gate_dst (N:=1) rfl ?_);(try(refine gate_guard (by rfl) ?_;dsimp only));refine box_event ?hg (N:=1) ?hd (cs:= #[.slice ab b.length ac,.slice ad n.length ae,.int .i64 l,.int .i64 D]) (t:=81) ?hr ?_;(case hd=>rfl);(case hg=>rfl);(case hr=>first|(go_simp;done)|(go_simp;rfl));intro aD hg aN hbox hb;have n0_:=sB hb;have n1_:=aM hbox;have n2_:=gS hg;have n3_:=gS hg;clear HB;have HB:=n0_;have c:=n1_;have GW435:=n2_;have GE435:=n3_;clear n0_ n1_ n2_ n3_;clear hb hbox hg)))
 go_loopg [3] k (fun kq aO w'=> ∃ (a:Int),aO= .int .i64 a∧Aside0 (spec_l09Rule.l0 kq a b n l D=some r)∧Aside0 (kq≤k)∧Aside0 (w'.heap[aD]?=some (.cells #[(.slice ab b.length ac),(.slice ad n.length ae),.int .i64 l,.int .i64 D] 81 (0,0)))∧Aside0 (Below w.heap.size w w'))
 case atStart=>exact⟨(0),rS,H',⟨Nat.le_refl _⟩,⟨mK c⟩,⟨cB⟩⟩
 case round=>
  clear H';obtain⟨a,rfl,HA,HK1,c,HB⟩:=hrel
  cases gk with
  | zero=>exact absurd HA.out (by simp[spec_l09Rule.l0])
  | succ k1=>
   have H:=HA.out;clear HA;simp only[spec_l09Rule.l0]at H;by_cases m:a<(b.length:Int)
   ·rw[if_pos m]at H;have ar:=decide_eq_true m;clear m;replace H:=gD H;obtain⟨aP,H⟩:=H;replace H:=bE H;obtain⟨aK,s,H⟩:=H;by_cases W:aK=true
    ·subst W;replace H:=iT H;by_cases af:a>0
     ·rw[if_pos af]at H;have a4:decide (0<a)=true:=decide_eq_true af;clear af;obtain⟨ji8,hji8⟩ : ∃ j_:Int,(wrap64 (a - 1))=j_:=⟨_,rfl⟩
      (first|rw[hji8]at H|simp only[hji8]at H)
      (try rw[hji8]at s);have hji8w:(IntKind.i64.wrap (a - 1))=ji8:=(i64_w _).trans hji8;replace H:=gD H;obtain⟨bC,H⟩:=H;replace H:=gD H;obtain⟨bD,H⟩:=H;by_cases ag:(rd b (ji8))≥(rd b a)
      ·rw[if_pos ag]at H;have a5:decide ((rd b a)≤(rd b (ji8)))=true:=decide_eq_true ag;clear ag;obtain rfl:=Option.some.inj H;obtain⟨bF,bG,bH,bI,bJ,bL,bM,bN⟩:=cz4 c;have u:0≤(a:Int):=dA;have v:a<(b.length:Int):=dA;obtain⟨x,ah,E⟩:=at_int HR0_0.out a u v;cases ah;replace E:=(bc HB E :);replace u:=eq_true u;replace v:=eq_true v
       go_wp2_with (first|(go_at_call 77;(with_reducible refine(spec_HalfOk.calls s.out).mono ?_);rintro e w' ⟨rfl,⟨nd,rfl⟩⟩;(try first|exact⟨rfl,_,World.drewN_drewN _ _ _⟩|exact⟨rfl,_,Eq.trans (World.drewN_drewN _ _ _) (congrArg (World.drewN _) (Nat.add_assoc _ _ _))⟩);have d:0≤((ji8):Int):=dA;have g:(ji8)<(b.length:Int):=dA;obtain⟨L,M,p⟩:=at_int HR0_0.out (ji8) d g;obtain rfl:x=L:=(by injection M);replace p:=(bc HB p :);replace d:=eq_true d;replace g:=eq_true g;have i:0≤(a:Int):=dA;have j:a<(b.length:Int):=dA;obtain⟨O,U,q⟩:=at_int HR0_0.out a i j;obtain rfl:x=O:=(by injection U);replace q:=(bc HB q :);replace i:=eq_true i;replace j:=eq_true j))
       repeat(go_quiet (first|(go_at_call 77;(with_reducible refine(spec_HalfOk.calls s.out).mono ?_);rintro e w' ⟨rfl,⟨nd,rfl⟩⟩;(try first|exact⟨rfl,_,World.drewN_drewN _ _ _⟩|exact⟨rfl,_,Eq.trans (World.drewN_drewN _ _ _) (congrArg (World.drewN _) (Nat.add_assoc _ _ _))⟩);have d:0≤((ji8):Int):=dA;have g:(ji8)<(b.length:Int):=dA;obtain⟨L,M,p⟩:=at_int HR0_0.out (ji8) d g;obtain rfl:x=L:=(by injection M);replace p:=(bc HB p :);replace d:=eq_true d;replace g:=eq_true g;have i:0≤(a:Int):=dA;have j:a<(b.length:Int):=dA;obtain⟨O,U,q⟩:=at_int HR0_0.out a i j;obtain rfl:x=O:=(by injection U);replace q:=(bc HB q :);replace i:=eq_true i;replace j:=eq_true j));try go_wp2_with (first|(go_at_call 77;(with_reducible refine(spec_HalfOk.calls s.out).mono ?_);rintro e w' ⟨rfl,⟨nd,rfl⟩⟩;(try first|exact⟨rfl,_,World.drewN_drewN _ _ _⟩|exact⟨rfl,_,Eq.trans (World.drewN_drewN _ _ _) (congrArg (World.drewN _) (Nat.add_assoc _ _ _))⟩);have d:0≤((ji8):Int):=dA;have g:(ji8)<(b.length:Int):=dA;obtain⟨L,M,p⟩:=at_int HR0_0.out (ji8) d g;obtain rfl:x=L:=(by injection M);replace p:=(bc HB p :);replace d:=eq_true d;replace g:=eq_true g;have i:0≤(a:Int):=dA;have j:a<(b.length:Int):=dA;obtain⟨O,U,q⟩:=at_int HR0_0.out a i j;obtain rfl:x=O:=(by injection U);replace q:=(bc HB q :);replace i:=eq_true i;replace j:=eq_true j)))
       go_ret
       exact⟨by first|rfl|(simp[errW_none,errW_some] <;> rfl)|(simp only[← hji8];first|rfl|(simp[errW_none,errW_some] <;> rfl))|(simp[*,errW_none,errW_some] <;> rfl),cB⟩
      ·rw[if_neg ag]at H;have a5:decide ((rd b a)≤(rd b (ji8)))=false:=decide_eq_false ag;clear ag;have H':=aM H;clear H;obtain⟨bO,bP,bQ,bR,bS,bT,bU,bV⟩:=cz4 c;have u:0≤(a:Int):=dA;have v:a<(b.length:Int):=dA;obtain⟨x,ah,E⟩:=at_int HR0_0.out a u v;cases ah;replace E:=(bc HB E :);replace u:=eq_true u;replace v:=eq_true v
       go_wp2_with (first|(go_at_call 77;(with_reducible refine(spec_HalfOk.calls s.out).mono ?_);rintro e w' ⟨rfl,⟨nd,rfl⟩⟩;(try first|exact⟨rfl,_,World.drewN_drewN _ _ _⟩|exact⟨rfl,_,Eq.trans (World.drewN_drewN _ _ _) (congrArg (World.drewN _) (Nat.add_assoc _ _ _))⟩);have d:0≤((ji8):Int):=dA;have g:(ji8)<(b.length:Int):=dA;obtain⟨L,M,p⟩:=at_int HR0_0.out (ji8) d g;obtain rfl:x=L:=(by injection M);replace p:=(bc HB p :);replace d:=eq_true d;replace g:=eq_true g;have i:0≤(a:Int):=dA;have j:a<(b.length:Int):=dA;obtain⟨O,U,q⟩:=at_int HR0_0.out a i j;obtain rfl:x=O:=(by injection U);replace q:=(bc HB q :);replace i:=eq_true i;replace j:=eq_true j))
       repeat(go_quiet (first|(go_at_call 77;(with_reducible refine(spec_HalfOk.calls s.out).mono ?_);rintro e w' ⟨rfl,⟨nd,rfl⟩⟩;(try first|exact⟨rfl,_,World.drewN_drewN _ _ _⟩|exact⟨rfl,_,Eq.trans (World.drewN_drewN _ _ _) (congrArg (World.drewN _) (Nat.add_assoc _ _ _))⟩);have d:0≤((ji8):Int):=dA;have g:(ji8)<(b.length:Int):=dA;obtain⟨L,M,p⟩:=at_int HR0_0.out (ji8) d g;obtain rfl:x=L:=(by injection M);replace p:=(bc HB p :);replace d:=eq_true d;replace g:=eq_true g;have i:0≤(a:Int):=dA;have j:a<(b.length:Int):=dA;obtain⟨O,U,q⟩:=at_int HR0_0.out a i j;obtain rfl:x=O:=(by injection U);replace q:=(bc HB q :);replace i:=eq_true i;replace j:=eq_true j));try go_wp2_with (first|(go_at_call 77;(with_reducible refine(spec_HalfOk.calls s.out).mono ?_);rintro e w' ⟨rfl,⟨nd,rfl⟩⟩;(try first|exact⟨rfl,_,World.drewN_drewN _ _ _⟩|exact⟨rfl,_,Eq.trans (World.drewN_drewN _ _ _) (congrArg (World.drewN _) (Nat.add_assoc _ _ _))⟩);have d:0≤((ji8):Int):=dA;have g:(ji8)<(b.length:Int):=dA;obtain⟨L,M,p⟩:=at_int HR0_0.out (ji8) d g;obtain rfl:x=L:=(by injection M);replace p:=(bc HB p :);replace d:=eq_true d;replace g:=eq_true g;have i:0≤(a:Int):=dA;have j:a<(b.length:Int):=dA;obtain⟨O,U,q⟩:=at_int HR0_0.out a i j;obtain rfl:x=O:=(by injection U);replace q:=(bc HB q :);replace i:=eq_true i;replace j:=eq_true j)))
       go_roundg k1
       case measure=>exact oK
       case rel=>exact⟨(wrap64 (a+1)),rS,H',⟨oK⟩,⟨mK c⟩,⟨cB⟩⟩
     ·rw[if_neg af]at H;have a4:decide (0<a)=false:=decide_eq_false af;clear af;have H':=aM H;clear H;obtain⟨bW,bX,bY,bZ,b0,b1,b5,b8⟩:=cz4 c;have u:0≤(a:Int):=dA;have v:a<(b.length:Int):=dA;obtain⟨x,ah,E⟩:=at_int HR0_0.out a u v;cases ah;replace E:=(bc HB E :);replace u:=eq_true u;replace v:=eq_true v
      go_wp2_with (first|(go_at_call 77;(with_reducible refine(spec_HalfOk.calls s.out).mono ?_);rintro e w' ⟨rfl,⟨nd,rfl⟩⟩;(try first|exact⟨rfl,_,World.drewN_drewN _ _ _⟩|exact⟨rfl,_,Eq.trans (World.drewN_drewN _ _ _) (congrArg (World.drewN _) (Nat.add_assoc _ _ _))⟩)))
      repeat(go_quiet (first|(go_at_call 77;(with_reducible refine(spec_HalfOk.calls s.out).mono ?_);rintro e w' ⟨rfl,⟨nd,rfl⟩⟩;(try first|exact⟨rfl,_,World.drewN_drewN _ _ _⟩|exact⟨rfl,_,Eq.trans (World.drewN_drewN _ _ _) (congrArg (World.drewN _) (Nat.add_assoc _ _ _))⟩)));try go_wp2_with (first|(go_at_call 77;(with_reducible refine(spec_HalfOk.calls s.out).mono ?_);rintro e w' ⟨rfl,⟨nd,rfl⟩⟩;(try first|exact⟨rfl,_,World.drewN_drewN _ _ _⟩|exact⟨rfl,_,Eq.trans (World.drewN_drewN _ _ _) (congrArg (World.drewN _) (Nat.add_assoc _ _ _))⟩))))
      go_roundg k1
      case measure=>exact oK
      case rel=>exact⟨(wrap64 (a+1)),rS,H',⟨oK⟩,⟨mK c⟩,⟨cB⟩⟩
    ·replace W:=Bool.eq_false_iff.mpr W;subst W;replace H:=iF H;obtain rfl:=Option.some.inj H;obtain⟨a6,a7,a8,a9,ba,bb,bd,be⟩:=cz4 c;have u:0≤(a:Int):=dA;have v:a<(b.length:Int):=dA;obtain⟨x,ah,E⟩:=at_int HR0_0.out a u v;cases ah;replace E:=(bc HB E :);replace u:=eq_true u;replace v:=eq_true v
     go_wp2_with (first|(go_at_call 77;(with_reducible refine(spec_HalfOk.calls s.out).mono ?_);rintro e w' ⟨rfl,⟨nd,rfl⟩⟩;(try first|exact⟨rfl,_,World.drewN_drewN _ _ _⟩|exact⟨rfl,_,Eq.trans (World.drewN_drewN _ _ _) (congrArg (World.drewN _) (Nat.add_assoc _ _ _))⟩)))
     repeat(go_quiet (first|(go_at_call 77;(with_reducible refine(spec_HalfOk.calls s.out).mono ?_);rintro e w' ⟨rfl,⟨nd,rfl⟩⟩;(try first|exact⟨rfl,_,World.drewN_drewN _ _ _⟩|exact⟨rfl,_,Eq.trans (World.drewN_drewN _ _ _) (congrArg (World.drewN _) (Nat.add_assoc _ _ _))⟩)));try go_wp2_with (first|(go_at_call 77;(with_reducible refine(spec_HalfOk.calls s.out).mono ?_);rintro e w' ⟨rfl,⟨nd,rfl⟩⟩;(try first|exact⟨rfl,_,World.drewN_drewN _ _ _⟩|exact⟨rfl,_,Eq.trans (World.drewN_drewN _ _ _) (congrArg (World.drewN _) (Nat.add_assoc _ _ _))⟩))))
     go_ret;exact⟨rE,cB⟩
   ·rw[if_neg m]at H;have ar:=decide_eq_false m;clear m;have H':=aM H;clear H;obtain⟨bf,bg,bh,bi,bj,bk,bl,bm⟩:=cz4 c;go_wp2
    repeat(go_quiet (fail);try go_wp2)
    go_loopg [4] k1 (fun kq b9 w'=> ∃ (ai:Int),b9= .int .i64 ai∧Aside0 (spec_l09Rule.l1 kq ai b n l D=some r)∧Aside0 (kq≤k1)∧Aside0 (w'.heap[aD]?=some (.cells #[(.slice ab b.length ac),(.slice ad n.length ae),.int .i64 l,.int .i64 D] 81 (0,0)))∧Aside0 (Below w.heap.size w w'))
    case atStart=>exact⟨(0),rS,H',⟨Nat.le_refl _⟩,⟨mK c⟩,⟨cB⟩⟩
    case round=>
     clear H';(try clear m);(try clear ar);(try clear cA);(try clear aP);(try clear W);(try clear af);(try clear a4);(try clear cD);(try clear bC);(try clear cE);(try clear bD);(try clear ag);(try clear a5);(try clear bF bG bH bI);(try clear bO bP bQ bR);(try clear bW bX bY bZ);(try clear a6 a7 a8 a9);(try clear bf bg bh bi);(try clear bJ bL bM bN);(try clear bS bT bU bV);(try clear b0 b1 b5 b8);(try clear ba bb bd be);(try clear bj bk bl bm);(try clear E);(try clear p);(try clear q);(try clear u);(try clear d);(try clear i);(try clear v);(try clear g);(try clear j);obtain⟨ai,rfl,HA,HK2,c,HB⟩:=hrel
     cases gk with
     | zero=>exact absurd HA.out (by simp[spec_l09Rule.l1])
     | succ k2=>
      have H:=HA.out;clear HA;simp only[spec_l09Rule.l1]at H;by_cases au:ai<(n.length:Int)
      ·rw[if_pos au]at H;have ca:=decide_eq_true au;clear au;replace H:=gD H;obtain⟨cF,H⟩:=H;replace H:=bE H;obtain⟨aL,av,H⟩:=H;by_cases aE:aL=true
       ·subst aE;replace H:=iT H;have H':=aM H;clear H;obtain⟨cG,cI,cJ,cL,cM,cN,cO,cP⟩:=cz4 c;obtain⟨cb,cc,cd,aQ,ce,cf,cg,ch,ci,cj⟩:=b6 HB (at_T114 HR0_1.out ai);cases aQ
        go_wp2_with (first|(go_at_call 111;(with_reducible refine(spec_CondOk.calls av.out).mono ?_);rintro e bn ⟨rfl,hb⟩;replace c:=kB c hb;replace HB:=sB hb;(try clear hb)))
        repeat(go_quiet (first|(go_at_call 111;(with_reducible refine(spec_CondOk.calls av.out).mono ?_);rintro e bn ⟨rfl,hb⟩;have n0_:=kB c hb;have n1_:=sB hb;clear c;clear HB;have c:=n0_;have HB:=n1_;clear n0_ n1_;(try clear hb);(try clear hb2);(try clear hk);(try clear hi)));try go_wp2_with (first|(go_at_call 111;(with_reducible refine(spec_CondOk.calls av.out).mono ?_);rintro e bn ⟨rfl,hb⟩;have n0_:=kB c hb;have n1_:=sB hb;clear c;clear HB;have c:=n0_;have HB:=n1_;clear n0_ n1_;(try clear hb);(try clear hb2);(try clear hk);(try clear hi))))
        go_roundg k2
        case measure=>have:=HK1.out;have:=HK2.out;omega
        case rel=>exact⟨(wrap64 (ai+1)),rS,H',⟨by have:=HK1.out;have:=HK2.out;omega⟩,⟨mK c⟩,⟨cB⟩⟩
       ·replace aE:=Bool.eq_false_iff.mpr aE;subst aE;replace H:=iF H;obtain rfl:=Option.some.inj H;obtain⟨cQ,cR,cS,cT,cU,cV,cW,cX⟩:=cz4 c;obtain⟨cb,cc,cd,aQ,ce,cf,cg,ch,ci,cj⟩:=b6 HB (at_T114 HR0_1.out ai);cases aQ
        go_wp2_with (first|(go_at_call 111;(with_reducible refine(spec_CondOk.calls av.out).mono ?_);rintro e bo ⟨rfl,hb⟩;replace c:=kB c hb;replace HB:=sB hb;(try clear hb)))
        repeat(go_quiet (first|(go_at_call 111;(with_reducible refine(spec_CondOk.calls av.out).mono ?_);rintro e bo ⟨rfl,hb⟩;have n0_:=kB c hb;have n1_:=sB hb;clear c;clear HB;have c:=n0_;have HB:=n1_;clear n0_ n1_;(try clear hb);(try clear hb2);(try clear hk);(try clear hi)));try go_wp2_with (first|(go_at_call 111;(with_reducible refine(spec_CondOk.calls av.out).mono ?_);rintro e bo ⟨rfl,hb⟩;have n0_:=kB c hb;have n1_:=sB hb;clear c;clear HB;have c:=n0_;have HB:=n1_;clear n0_ n1_;(try clear hb);(try clear hb2);(try clear hk);(try clear hi))))
        go_ret;exact⟨rE,cB⟩
      ·rw[if_neg au]at H;have ca:=decide_eq_false au;clear au;by_cases aw:(b.length:Int)≤4
       ·rw[if_pos aw]at H;have ck:=decide_eq_true aw
        have cl:decide (b.length≤4)=true:=decide_eq_true (by omega)
        clear aw;by_cases ax:(n.length:Int)≤3
        ·rw[if_pos ax]at H;have cm:=decide_eq_true ax
         have cn:decide (n.length≤3)=true:=decide_eq_true (by omega)
         clear ax;replace H:=bE H;obtain⟨aZ,aR,H⟩:=H;obtain rfl:=Option.some.inj H;obtain⟨cY,cZ,c0,c1,c3,c4,c5,c6⟩:=cz4 c
         go_wp2_with (first|(go_at_call 94;(with_reducible refine(spec_l09Act.calls aR.out).mono ?_);rintro e w' ⟨rfl,⟨nd,rfl⟩⟩;(try first|exact⟨rfl,_,World.drewN_drewN _ _ _⟩|exact⟨rfl,_,Eq.trans (World.drewN_drewN _ _ _) (congrArg (World.drewN _) (Nat.add_assoc _ _ _))⟩)))
         repeat(go_quiet (first|(go_at_call 94;(with_reducible refine(spec_l09Act.calls aR.out).mono ?_);rintro e w' ⟨rfl,⟨nd,rfl⟩⟩;(try first|exact⟨rfl,_,World.drewN_drewN _ _ _⟩|exact⟨rfl,_,Eq.trans (World.drewN_drewN _ _ _) (congrArg (World.drewN _) (Nat.add_assoc _ _ _))⟩)));try go_wp2_with (first|(go_at_call 94;(with_reducible refine(spec_l09Act.calls aR.out).mono ?_);rintro e w' ⟨rfl,⟨nd,rfl⟩⟩;(try first|exact⟨rfl,_,World.drewN_drewN _ _ _⟩|exact⟨rfl,_,Eq.trans (World.drewN_drewN _ _ _) (congrArg (World.drewN _) (Nat.add_assoc _ _ _))⟩))))
         go_ret;exact⟨rE,cB⟩
        ·rw[if_neg ax]at H;have cm:=decide_eq_false ax
         have cn:decide (n.length≤3)=false:=decide_eq_false (by omega)
         clear ax;obtain rfl:=Option.some.inj H;obtain⟨c7,c9,da,db,dc,dd,de,df⟩:=cz4 c;go_wp2
         repeat(go_quiet (fail);try go_wp2)
         go_ret;exact⟨rE,cB⟩
       ·rw[if_neg aw]at H;have ck:=decide_eq_false aw
        have cl:decide (b.length≤4)=false:=decide_eq_false (by omega)
        clear aw;obtain rfl:=Option.some.inj H;obtain⟨dg,dh,di,dj,dk,dl,dm,dn⟩:=cz4 c;go_wp2
        repeat(go_quiet (fail);try go_wp2)
        go_ret;exact⟨rE,cB⟩
def spec_PolicyOk.l0:Nat→Int→Int→Int→Int→List (S81)→Option (Bool)
  | 0,_,_,_,_,_=>none
  | k+1,o,bp,bq,br,aj=>if o<(aj.length:Int)then(if 0≤o then((spec_l09Rule.f k ((rd_T81 aj o).f0) ((rd_T81 aj o).f1) ((rd_T81 aj o).f2) ((rd_T81 aj o).f3)).bind fun aS=>(if aS=true then(spec_PolicyOk.l0 k (wrap64 (o+1)) bp bq br aj)else(some false)))else(none))else((spec_HalfOk.f bp).bind fun aT=>(if aT=true then((spec_l09Act.f bq br).bind fun aU=>(if aU=true then(some (decide ((aj.length:Int)≤10)))else(some false)))else(some false)))
def spec_PolicyOk.f (k:Nat) (Y:Int) (aa:Int) (l:Int) (y:List (S81)):Option (Bool):=spec_PolicyOk.l0 k 0 Y aa l y
set_option maxHeartbeats 8000000 in
set_option maxRecDepth 100000 in
theorem spec_PolicyOk.calls {k:Nat}{Y:Int}{aa:Int}{l:Int}{aF:Option Addr}{aG:Nat}{y:List (S81)}{r:Bool}{w:World}(h:spec_PolicyOk.f k Y aa l y=some r)(bs:Kd.C k81 w aF y.length y)(bu:y.length≤aG) :
 Calls Try.prog 54 #[.agg #[.int .i64 Y,.int .i64 aa,.int .i64 l,.slice aF y.length aG]] w fun e w'=>e= .returned (.bool r)∧Below w.heap.size w w':=by
 have hu41:=Try.underlying41;have hu81:=Try.underlying81;have HR0_3:=aM bs;have HC0_3:=aM bu;clear bs bu;have HB:=rW w;have H:(spec_PolicyOk.l0 k 0 Y aa l y)=some r:=h;clear h;have H':=aM H;clear H;go_enter Try.func54,Try.ntmps54
 go_wp2_with (first|((with_reducible refine gN 1 ?_);(try(refine gate_guard (by rfl) ?_;dsimp only));refine boxZ 1 #[.int .i64 Y,.int .i64 aa,.int .i64 l,.slice aF y.length aG] 41 ?_;intro co hg aN hbox hb;have G:=aM hbox;have GW443:=gS hg;have GE443:=gS hg;replace HB:=sB hb;clear hb hbox hg))
 go_loopg [3] k (fun kq aO w'=> ∃ (a:Int),aO= .int .i64 a∧Aside0 (spec_PolicyOk.l0 kq a Y aa l y=some r)∧Aside0 (kq≤k)∧Aside0 (w'.heap[co]?=some (.cells #[.int .i64 Y,.int .i64 aa,.int .i64 l,(.slice aF y.length aG)] 41 (0,0)))∧Aside0 (Below w.heap.size w w'))
 case atStart=>exact⟨(0),rS,H',⟨Nat.le_refl _⟩,⟨mK G⟩,⟨cB⟩⟩
 case round=>
  clear H';obtain⟨a,rfl,HA,HK1,G,HB⟩:=hrel
  cases gk with
  | zero=>exact absurd HA.out (by simp[spec_PolicyOk.l0])
  | succ k1=>
   have H:=HA.out;clear HA;simp only[spec_PolicyOk.l0]at H;by_cases m:a<(y.length:Int)
   ·rw[if_pos m]at H;have ar:=decide_eq_true m;clear m;replace H:=gD H;obtain⟨aP,H⟩:=H;replace H:=bE H;obtain⟨aS,s,H⟩:=H;by_cases W:aS=true
    ·subst W;replace H:=iT H;have H':=aM H;clear H;obtain⟨dp,dq,dr,ds,dt,du,dv,dw⟩:=cz4 G;have ak:0≤(a:Int):=dA;have al:a<(y.length:Int):=dA;obtain⟨cp,cq,cr,ct,cu,aV,ay,az,aA,aB,hl444_0,hi444_0,hl444_1,hi444_1⟩:=at_T81 HR0_3.out a ak al;cases aV;replace ay:=(bc HB ay :);replace az:=(bc HB az :);replace aA:=(bc HB aA :);replace aB:=(bc HB aB :);have HR444_0:=aM hi444_0;have HC444_0:=aM hl444_0;clear hi444_0 hl444_0;have HR444_1:=aM hi444_1;have HC444_1:=aM hl444_1;clear hi444_1 hl444_1;replace ak:=eq_true ak;replace al:=eq_true al
     go_wp2_with (first|((with_reducible refine gF 93 ?_);refine gX (some 16) Try.func93 (spec_l09Rule.calls s.out (cH HR444_0) HC444_0.out (cH HR444_1) HC444_1.out) ?_;intro dx hb;replace G:=kB G hb;replace HB:=sB hb;(try clear hb)))
     go_roundg k1
     case measure=>exact oK
     case rel=>exact⟨(wrap64 (a+1)),rS,H',⟨oK⟩,⟨mK G⟩,⟨cB⟩⟩
    ·replace W:=Bool.eq_false_iff.mpr W;subst W;replace H:=iF H;obtain rfl:=Option.some.inj H;obtain⟨dy,dz,dC,dD,dE,dF,dG,dH⟩:=cz4 G;have ak:0≤(a:Int):=dA;have al:a<(y.length:Int):=dA;obtain⟨cp,cq,cr,ct,cu,aV,ay,az,aA,aB,hl444_0,hi444_0,hl444_1,hi444_1⟩:=at_T81 HR0_3.out a ak al;cases aV;replace ay:=(bc HB ay :);replace az:=(bc HB az :);replace aA:=(bc HB aA :);replace aB:=(bc HB aB :);have HR444_0:=aM hi444_0;have HC444_0:=aM hl444_0;clear hi444_0 hl444_0;have HR444_1:=aM hi444_1;have HC444_1:=aM hl444_1;clear hi444_1 hl444_1;replace ak:=eq_true ak;replace al:=eq_true al
     go_wp2_with (first|((with_reducible refine gF 93 ?_);refine gX (some 16) Try.func93 (spec_l09Rule.calls s.out (cH HR444_0) HC444_0.out (cH HR444_1) HC444_1.out) ?_;intro dI hb;replace G:=kB G hb;replace HB:=sB hb;(try clear hb)))
     go_ret;exact⟨rE,cB⟩
   ·rw[if_neg m]at H;have ar:=decide_eq_false m;clear m;replace H:=bE H;obtain⟨aT,aW,H⟩:=H;by_cases aH:aT=true
    ·subst aH;replace H:=iT H;replace H:=bE H;obtain⟨aU,bv,H⟩:=H;by_cases aI:aU=true
     ·subst aI;replace H:=iT H;obtain rfl:=Option.some.inj H;obtain⟨a6,a7,a8,a9,ba,bb,bd,be⟩:=cz4 G
      go_wp2_with (first|((with_reducible refine gF 77 ?_);refine gX (some 20) Try.func77 (spec_HalfOk.calls aW.out) ?_;rintro w' ⟨nd,rfl⟩)|(go_at_call 94;(with_reducible refine(spec_l09Act.calls bv.out).mono ?_);rintro e w' ⟨rfl,⟨nd,rfl⟩⟩))
      go_ret;exact⟨rE,cB⟩
     ·replace aI:=Bool.eq_false_iff.mpr aI;subst aI;replace H:=iF H;obtain rfl:=Option.some.inj H;obtain⟨bf,bg,bh,bi,bj,bk,bl,bm⟩:=cz4 G
      go_wp2_with (first|((with_reducible refine gF 77 ?_);refine gX (some 20) Try.func77 (spec_HalfOk.calls aW.out) ?_;rintro w' ⟨nd,rfl⟩)|(go_at_call 94;(with_reducible refine(spec_l09Act.calls bv.out).mono ?_);rintro e w' ⟨rfl,⟨nd,rfl⟩⟩))
      go_ret;exact⟨rE,cB⟩
    ·replace aH:=Bool.eq_false_iff.mpr aH;subst aH;replace H:=iF H;obtain rfl:=Option.some.inj H;obtain⟨dJ,dK,dL,dM,dN,dO,dP,dQ⟩:=cz4 G
     go_wp2_with (first|((with_reducible refine gF 77 ?_);refine gX (some 20) Try.func77 (spec_HalfOk.calls aW.out) ?_;rintro w' ⟨nd,rfl⟩))
     go_ret;exact⟨rE,cB⟩
def spec_l09In.l0:Nat→List Int→Int→Int→Option (Bool)
  | 0,_,_,_=>none
  | k+1,aX,bw,aJ=>if aJ<(aX.length:Int)then(if 0≤aJ then(if(rd aX aJ)=bw then(some true)else(spec_l09In.l0 k aX bw (wrap64 (aJ+1))))else(none))else(some false)
def spec_l09In.f (k:Nat) (A:List Int) (am:Int):Option (Bool):=spec_l09In.l0 k A am 0
set_option maxHeartbeats 8000000 in
set_option maxRecDepth 100000 in
theorem spec_l09In.calls {k:Nat}{bx:Option Addr}{bz:Nat}{A:List Int}{am:Int}{r:Bool}{w:World}(h:spec_l09In.f k A am=some r)(bA:Kd.C (Kd.int .i64) w bx A.length A)(bB:A.length≤bz) :
 Calls Try.prog 92 #[.slice bx A.length bz,.int .i64 am] w fun e w'=>e= .returned (.bool r)∧Drawn0 w w':=by
 have HR0:=aM bA;have HC0:=aM bB;clear bA bB;have H:(spec_l09In.l0 k A am 0)=some r:=h;clear h;have H':=aM H;clear H;go_enter Try.func92,Try.ntmps92;go_wp2
 go_loopg [5] k (fun kq cv w'=> ∃ (I:Int),cv= .int .i64 I∧Aside0 (spec_l09In.l0 kq A am I=some r)∧Aside0 (kq≤k)∧Drawn0 w w')
 case atStart=>exact⟨(0),rS,H',⟨Nat.le_refl _⟩,by repeat(first|exact Drawn0.refl _|apply Drawn0.step)⟩
 case round=>
  clear H';obtain⟨I,rfl,HA,HK1,⟨m1,rfl⟩⟩:=hrel
  cases gk with
  | zero=>exact absurd HA.out (by simp[spec_l09In.l0])
  | succ k1=>
   have H:=HA.out;clear HA;simp only[spec_l09In.l0]at H;by_cases m:I<(A.length:Int)
   ·rw[if_pos m]at H;have ar:=decide_eq_true m;clear m;replace H:=gD H;obtain⟨aP,H⟩:=H;by_cases aC:(rd A I)=am
    ·rw[if_pos aC]at H;obtain⟨cw,cx⟩:=eT aC;clear aC;obtain rfl:=Option.some.inj H;have an:0≤(I:Int):=dA;have ao:I<(A.length:Int):=dA;obtain⟨cy,aY,cz⟩:=at_int HR0.out I an ao;cases aY;replace an:=eq_true an;replace ao:=eq_true ao;go_wp2;go_ret
     exact⟨by first|rfl|(simp;done)|(simp[*];done),by repeat(first|exact Drawn0.refl _|apply Drawn0.step)⟩
    ·rw[if_neg aC]at H;obtain⟨cw,cx⟩:=eF aC;have H':=aM H;clear H;have an:0≤(I:Int):=dA;have ao:I<(A.length:Int):=dA;obtain⟨cy,aY,cz⟩:=at_int HR0.out I an ao;cases aY;replace an:=eq_true an;replace ao:=eq_true ao;go_wp2;go_roundg k1
     case measure=>exact oK
     case rel=>exact⟨(wrap64 (I+1)),rS,H',⟨oK⟩,by repeat(first|exact Drawn0.refl _|apply Drawn0.step)⟩
   ·rw[if_neg m]at H;have ar:=decide_eq_false m;clear m;obtain rfl:=Option.some.inj H;go_wp2;go_ret
    exact⟨by first|rfl|(simp;done)|(simp[*];done),by repeat(first|exact Drawn0.refl _|apply Drawn0.step)⟩
end Go.Proofs.Ytpbalojiaghfhaa.PFnStacks
