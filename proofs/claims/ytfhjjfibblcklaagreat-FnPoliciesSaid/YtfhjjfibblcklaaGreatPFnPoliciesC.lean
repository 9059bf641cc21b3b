/- FnPolicies: functions that it reaches, step by step. No conditions. -/
import Derived.Test.YtfhjjfibblcklaaGreatPFnPoliciesA
import Derived.Test.YtfhjjfibblcklaaGreatPFnPoliciesB
namespace Go.Proofs.YtfhjjfibblcklaaGreat.PFnPolicies
open Go.RowKit Go.Proofs.YtfhjjfibblcklaaGreatW.PrintWords Go.Proofs.YtfhjjfibblcklaaGreatW.PrintLast Go.Proofs.YtfhjjfibblcklaaGreatW.PrintMore Go.Proofs.YtfhjjfibblcklaaGreatW.Z
open Kd
attribute [local go_sem] isS max2_int min2_int max_two min_two max_three min_three max_four min_four
set_option maxHeartbeats 8000000
set_option maxRecDepth 100000
set_option linter.unusedVariables false
set_option linter.unusedSimpArgs false
mutual
def AV.l0:Nat→Int→List Int→List (S54)→Int→Int→Option (Bool)
  | 0,_,_,_,_,_=>none
  | k+1,l,J,A,aq,ar=>if l<(J.length:Int)then(if 0≤l then((Ab.f (rd J l)).bind fun aT=>(if aT=true then(if l>0 then(if 0≤(wrap64 (l - 1))then(if(wrap64 (l - 1))<(J.length:Int)then(if(rd J (wrap64 (l - 1)))≥(rd J l)then(some false)else(AV.l0 k (wrap64 (l+1)) J A aq ar))else(none))else(none))else(AV.l0 k (wrap64 (l+1)) J A aq ar))else(some false)))else(none))else(AV.l1 k 0 J A aq ar)
def AV.l1:Nat→Int→List Int→List (S54)→Int→Int→Option (Bool)
  | 0,_,_,_,_,_=>none
  | k+1,Y,J,A,aq,ar=>if Y<(A.length:Int)then(if 0≤Y then((BL.f ((rd_T54 A Y).f0) ((rd_T54 A Y).f1.f0) ((rd_T54 A Y).f1.f1) ((rd_T54 A Y).f2) ((rd_T54 A Y).f3.f0) ((rd_T54 A Y).f3.f1)).bind fun aU=>(if aU=true then(AV.l1 k (wrap64 (Y+1)) J A aq ar)else(some false)))else(none))else(if(J.length:Int)≤4 then(if(A.length:Int)≤3 then((BF.f aq ar).bind fun a6=>(some a6))else(some false))else(some false))
end
def AV.f (k:Nat) (b:List Int) (o:List (S54)) (n:Int) (D:Int):Option (Bool):=AV.l0 k 0 b o n D
theorem AV.calls {k:Nat}{ae:Option Addr}{af:Nat}{b:List Int}{ag:Option Addr}{ah:Nat}{o:List (S54)}{n:Int}{D:Int}{r:Bool}{w:World}(h:AV.f k b o n D=some r)(a7:Kd.C (Kd.int .i64) w ae b.length b)(a8:b.length≤af)(a9:Kd.C k54 w ag o.length o)(ba:o.length≤ah) :
 Calls Tryz.prog 76 #[.agg #[.slice ae b.length af,.slice ag o.length ah,.int .i64 n,.int .i64 D]] w fun e w'=>e= .returned (.bool r)∧Below w.heap.size w w':=by
 have hu50:=Tryz.underlying50;have hu54:=Tryz.underlying54;have HR0_0:=aM a7;have HC0_0:=aM a8;clear a7 a8;have HR0_1:=aM a9;have HC0_1:=aM ba;clear a9 ba;have HB:=rW w;have H:(AV.l0 k 0 b o n D)=some r:=h;clear h;have H':=aM H;clear H;go_enter Tryz.func76,Tryz.ntmps76
 go_wp2_with (first|((with_reducible refine gN 1 ?_);(try(refine gate_guard (by rfl) ?_;dsimp only));refine boxZ 1 #[.slice ae b.length af,.slice ag o.length ah,.int .i64 n,.int .i64 D] 50 ?_;intro aJ hg aV hbox hb;have c:=aM hbox;have GW582:=gS hg;have GE582:=gS hg;replace HB:=sB hb;clear hb hbox hg))
 repeat(go_quiet (first|((with_reducible refine gate_dst (N:=1) rfl ?_);(try(refine gate_guard (by rfl) ?_;dsimp only));refine box_event ?hg (N:=1) ?hd (cs:= #[.slice ae b.length af,.slice ag o.length ah,.int .i64 n,.int .i64 D]) (t:=50) ?hr ?_;(case hd=>rfl);(case hg=>rfl);(case hr=>first|(go_simp;done)|(go_simp;rfl));intro aJ hg aV hbox hb;have n0_:=sB hb;have n1_:=aM hbox;have n2_:=gS hg;have n3_:=gS hg;clear HB;have HB:=n0_;have c:=n1_;have GW582:=n2_;have GE582:=n3_;clear n0_ n1_ n2_ n3_;clear hb hbox hg));try go_wp2_with (first|((with_reducible refine gate_dst (N:=1) rfl ?_);(try(refine gate_guard (by rfl) ?_;dsimp only));refine box_event ?hg (N:=1) ?hd (cs:= #[.slice ae b.length af,.slice ag o.length ah,.int .i64 n,.int .i64 D]) (t:=50) ?hr ?_;(case hd=>rfl);(case hg=>rfl);(case hr=>first|(go_simp;done)|(go_simp;rfl));intro aJ hg aV hbox hb;have n0_:=sB hb;have n1_:=aM hbox;have n2_:=gS hg;have n3_:=gS hg;clear HB;have HB:=n0_;have c:=n1_;have GW582:=n2_;have GE582:=n3_;clear n0_ n1_ n2_ n3_;clear hb hbox hg)))
 go_loopg [3] k (fun kq aA w'=> ∃ (a:Int),aA= .int .i64 a∧Aside0 (AV.l0 kq a b o n D=some r)∧Aside0 (kq≤k)∧Aside0 (w'.heap[aJ]?=some (.cells #[(.slice ae b.length af),(.slice ag o.length ah),.int .i64 n,.int .i64 D] 50 (0,0)))∧Aside0 (Below w.heap.size w w'))
 case atStart=>exact⟨(0),rS,H',⟨Nat.le_refl _⟩,⟨mK c⟩,⟨cB⟩⟩
 case round=>
  clear H';obtain⟨a,rfl,HA,HK1,c,HB⟩:=hrel
  cases gk with
  | zero=>exact absurd HA.out (by simp[AV.l0])
  | succ k1=>
   have H:=HA.out;clear HA;simp only[AV.l0]at H;by_cases m:a<(b.length:Int)
   ·rw[if_pos m]at H;have E:=decide_eq_true m;clear m;replace H:=gD H;obtain⟨aK,H⟩:=H;replace H:=bE H;obtain⟨aT,s,H⟩:=H;by_cases X:aT=true
    ·subst X;replace H:=iT H;by_cases ai:a>0
     ·rw[if_pos ai]at H;have bb:decide (0<a)=true:=decide_eq_true ai;clear ai;obtain⟨ji8,hji8⟩ : ∃ j_:Int,(wrap64 (a - 1))=j_:=⟨_,rfl⟩
      (first|rw[hji8]at H|simp only[hji8]at H)
      (try rw[hji8]at s);have hji8w:(IntKind.i64.wrap (a - 1))=ji8:=(i64_w _).trans hji8;replace H:=gD H;obtain⟨bd,H⟩:=H;replace H:=gD H;obtain⟨bI,H⟩:=H;by_cases aj:(rd b (ji8))≥(rd b a)
      ·rw[if_pos aj]at H;have be:decide ((rd b a)≤(rd b (ji8)))=true:=decide_eq_true aj;clear aj;obtain rfl:=Option.some.inj H;obtain⟨bJ,bL,bM,bN,bO,bP,bQ,bR⟩:=cz4 c;have u:0≤(a:Int):=dA;have v:a<(b.length:Int):=dA;obtain⟨x,ak,G⟩:=at_int HR0_0.out a u v;cases ak;replace G:=(bc HB G :);replace u:=eq_true u;replace v:=eq_true v
       go_wp2_with (first|(go_at_call 68;(with_reducible refine(Ab.calls s.out).mono ?_);rintro e w' ⟨rfl,⟨nd,rfl⟩⟩;(try first|exact⟨rfl,_,World.drewN_drewN _ _ _⟩|exact⟨rfl,_,Eq.trans (World.drewN_drewN _ _ _) (congrArg (World.drewN _) (Nat.add_assoc _ _ _))⟩);have d:0≤((ji8):Int):=dA;have g:(ji8)<(b.length:Int):=dA;obtain⟨L,O,p⟩:=at_int HR0_0.out (ji8) d g;obtain rfl:x=L:=(by injection O);replace p:=(bc HB p :);replace d:=eq_true d;replace g:=eq_true g;have i:0≤(a:Int):=dA;have j:a<(b.length:Int):=dA;obtain⟨U,W,q⟩:=at_int HR0_0.out a i j;obtain rfl:x=U:=(by injection W);replace q:=(bc HB q :);replace i:=eq_true i;replace j:=eq_true j))
       repeat(go_quiet (first|(go_at_call 68;(with_reducible refine(Ab.calls s.out).mono ?_);rintro e w' ⟨rfl,⟨nd,rfl⟩⟩;(try first|exact⟨rfl,_,World.drewN_drewN _ _ _⟩|exact⟨rfl,_,Eq.trans (World.drewN_drewN _ _ _) (congrArg (World.drewN _) (Nat.add_assoc _ _ _))⟩);have d:0≤((ji8):Int):=dA;have g:(ji8)<(b.length:Int):=dA;obtain⟨L,O,p⟩:=at_int HR0_0.out (ji8) d g;obtain rfl:x=L:=(by injection O);replace p:=(bc HB p :);replace d:=eq_true d;replace g:=eq_true g;have i:0≤(a:Int):=dA;have j:a<(b.length:Int):=dA;obtain⟨U,W,q⟩:=at_int HR0_0.out a i j;obtain rfl:x=U:=(by injection W);replace q:=(bc HB q :);replace i:=eq_true i;replace j:=eq_true j));try go_wp2_with (first|(go_at_call 68;(with_reducible refine(Ab.calls s.out).mono ?_);rintro e w' ⟨rfl,⟨nd,rfl⟩⟩;(try first|exact⟨rfl,_,World.drewN_drewN _ _ _⟩|exact⟨rfl,_,Eq.trans (World.drewN_drewN _ _ _) (congrArg (World.drewN _) (Nat.add_assoc _ _ _))⟩);have d:0≤((ji8):Int):=dA;have g:(ji8)<(b.length:Int):=dA;obtain⟨L,O,p⟩:=at_int HR0_0.out (ji8) d g;obtain rfl:x=L:=(by injection O);replace p:=(bc HB p :);replace d:=eq_true d;replace g:=eq_true g;have i:0≤(a:Int):=dA;have j:a<(b.length:Int):=dA;obtain⟨U,W,q⟩:=at_int HR0_0.out a i j;obtain rfl:x=U:=(by injection W);replace q:=(bc HB q :);replace i:=eq_true i;replace j:=eq_true j)))
       go_ret
       exact⟨by first|rfl|(simp[errW_none,errW_some] <;> rfl)|(simp only[← hji8];first|rfl|(simp[errW_none,errW_some] <;> rfl))|(simp[*,errW_none,errW_some] <;> rfl),cB⟩
      ·rw[if_neg aj]at H;have be:decide ((rd b a)≤(rd b (ji8)))=false:=decide_eq_false aj;clear aj;have H':=aM H;clear H;obtain⟨bS,bT,bU,bV,bW,bX,bY,bZ⟩:=cz4 c;have u:0≤(a:Int):=dA;have v:a<(b.length:Int):=dA;obtain⟨x,ak,G⟩:=at_int HR0_0.out a u v;cases ak;replace G:=(bc HB G :);replace u:=eq_true u;replace v:=eq_true v
       go_wp2_with (first|(go_at_call 68;(with_reducible refine(Ab.calls s.out).mono ?_);rintro e w' ⟨rfl,⟨nd,rfl⟩⟩;(try first|exact⟨rfl,_,World.drewN_drewN _ _ _⟩|exact⟨rfl,_,Eq.trans (World.drewN_drewN _ _ _) (congrArg (World.drewN _) (Nat.add_assoc _ _ _))⟩);have d:0≤((ji8):Int):=dA;have g:(ji8)<(b.length:Int):=dA;obtain⟨L,O,p⟩:=at_int HR0_0.out (ji8) d g;obtain rfl:x=L:=(by injection O);replace p:=(bc HB p :);replace d:=eq_true d;replace g:=eq_true g;have i:0≤(a:Int):=dA;have j:a<(b.length:Int):=dA;obtain⟨U,W,q⟩:=at_int HR0_0.out a i j;obtain rfl:x=U:=(by injection W);replace q:=(bc HB q :);replace i:=eq_true i;replace j:=eq_true j))
       repeat(go_quiet (first|(go_at_call 68;(with_reducible refine(Ab.calls s.out).mono ?_);rintro e w' ⟨rfl,⟨nd,rfl⟩⟩;(try first|exact⟨rfl,_,World.drewN_drewN _ _ _⟩|exact⟨rfl,_,Eq.trans (World.drewN_drewN _ _ _) (congrArg (World.drewN _) (Nat.add_assoc _ _ _))⟩);have d:0≤((ji8):Int):=dA;have g:(ji8)<(b.length:Int):=dA;obtain⟨L,O,p⟩:=at_int HR0_0.out (ji8) d g;obtain rfl:x=L:=(by injection O);replace p:=(bc HB p :);replace d:=eq_true d;replace g:=eq_true g;have i:0≤(a:Int):=dA;have j:a<(b.length:Int):=dA;obtain⟨U,W,q⟩:=at_int HR0_0.out a i j;obtain rfl:x=U:=(by injection W);replace q:=(bc HB q :);replace i:=eq_true i;replace j:=eq_true j));try go_wp2_with (first|(go_at_call 68;(with_reducible refine(Ab.calls s.out).mono ?_);rintro e w' ⟨rfl,⟨nd,rfl⟩⟩;(try first|exact⟨rfl,_,World.drewN_drewN _ _ _⟩|exact⟨rfl,_,Eq.trans (World.drewN_drewN _ _ _) (congrArg (World.drewN _) (Nat.add_assoc _ _ _))⟩);have d:0≤((ji8):Int):=dA;have g:(ji8)<(b.length:Int):=dA;obtain⟨L,O,p⟩:=at_int HR0_0.out (ji8) d g;obtain rfl:x=L:=(by injection O);replace p:=(bc HB p :);replace d:=eq_true d;replace g:=eq_true g;have i:0≤(a:Int):=dA;have j:a<(b.length:Int):=dA;obtain⟨U,W,q⟩:=at_int HR0_0.out a i j;obtain rfl:x=U:=(by injection W);replace q:=(bc HB q :);replace i:=eq_true i;replace j:=eq_true j)))
       go_roundg k1
       case measure=>exact oK
       case rel=>exact⟨(wrap64 (a+1)),rS,H',⟨oK⟩,⟨mK c⟩,⟨cB⟩⟩
     ·rw[if_neg ai]at H;have bb:decide (0<a)=false:=decide_eq_false ai;clear ai;have H':=aM H;clear H;obtain⟨b0,b1,b5,b8,b9,ca,cb,cc⟩:=cz4 c;have u:0≤(a:Int):=dA;have v:a<(b.length:Int):=dA;obtain⟨x,ak,G⟩:=at_int HR0_0.out a u v;cases ak;replace G:=(bc HB G :);replace u:=eq_true u;replace v:=eq_true v
      go_wp2_with (first|(go_at_call 68;(with_reducible refine(Ab.calls s.out).mono ?_);rintro e w' ⟨rfl,⟨nd,rfl⟩⟩;(try first|exact⟨rfl,_,World.drewN_drewN _ _ _⟩|exact⟨rfl,_,Eq.trans (World.drewN_drewN _ _ _) (congrArg (World.drewN _) (Nat.add_assoc _ _ _))⟩)))
      repeat(go_quiet (first|(go_at_call 68;(with_reducible refine(Ab.calls s.out).mono ?_);rintro e w' ⟨rfl,⟨nd,rfl⟩⟩;(try first|exact⟨rfl,_,World.drewN_drewN _ _ _⟩|exact⟨rfl,_,Eq.trans (World.drewN_drewN _ _ _) (congrArg (World.drewN _) (Nat.add_assoc _ _ _))⟩)));try go_wp2_with (first|(go_at_call 68;(with_reducible refine(Ab.calls s.out).mono ?_);rintro e w' ⟨rfl,⟨nd,rfl⟩⟩;(try first|exact⟨rfl,_,World.drewN_drewN _ _ _⟩|exact⟨rfl,_,Eq.trans (World.drewN_drewN _ _ _) (congrArg (World.drewN _) (Nat.add_assoc _ _ _))⟩))))
      go_roundg k1
      case measure=>exact oK
      case rel=>exact⟨(wrap64 (a+1)),rS,H',⟨oK⟩,⟨mK c⟩,⟨cB⟩⟩
    ·replace X:=Bool.eq_false_iff.mpr X;subst X;replace H:=iF H;obtain rfl:=Option.some.inj H;obtain⟨bf,bg,bh,bi,bj,bk,bl,bm⟩:=cz4 c;have u:0≤(a:Int):=dA;have v:a<(b.length:Int):=dA;obtain⟨x,ak,G⟩:=at_int HR0_0.out a u v;cases ak;replace G:=(bc HB G :);replace u:=eq_true u;replace v:=eq_true v
     go_wp2_with (first|(go_at_call 68;(with_reducible refine(Ab.calls s.out).mono ?_);rintro e w' ⟨rfl,⟨nd,rfl⟩⟩;(try first|exact⟨rfl,_,World.drewN_drewN _ _ _⟩|exact⟨rfl,_,Eq.trans (World.drewN_drewN _ _ _) (congrArg (World.drewN _) (Nat.add_assoc _ _ _))⟩)))
     repeat(go_quiet (first|(go_at_call 68;(with_reducible refine(Ab.calls s.out).mono ?_);rintro e w' ⟨rfl,⟨nd,rfl⟩⟩;(try first|exact⟨rfl,_,World.drewN_drewN _ _ _⟩|exact⟨rfl,_,Eq.trans (World.drewN_drewN _ _ _) (congrArg (World.drewN _) (Nat.add_assoc _ _ _))⟩)));try go_wp2_with (first|(go_at_call 68;(with_reducible refine(Ab.calls s.out).mono ?_);rintro e w' ⟨rfl,⟨nd,rfl⟩⟩;(try first|exact⟨rfl,_,World.drewN_drewN _ _ _⟩|exact⟨rfl,_,Eq.trans (World.drewN_drewN _ _ _) (congrArg (World.drewN _) (Nat.add_assoc _ _ _))⟩))))
     go_ret;exact⟨rE,cB⟩
   ·rw[if_neg m]at H;have E:=decide_eq_false m;clear m;have H':=aM H;clear H;obtain⟨bn,bo,bp,bq,br,bs,bu,bv⟩:=cz4 c;go_wp2
    repeat(go_quiet (fail);try go_wp2)
    go_loopg [4] k1 (fun kq cd w'=> ∃ (al:Int),cd= .int .i64 al∧Aside0 (AV.l1 kq al b o n D=some r)∧Aside0 (kq≤k1)∧Aside0 (w'.heap[aJ]?=some (.cells #[(.slice ae b.length af),(.slice ag o.length ah),.int .i64 n,.int .i64 D] 50 (0,0)))∧Aside0 (Below w.heap.size w w'))
    case atStart=>exact⟨(0),rS,H',⟨Nat.le_refl _⟩,⟨mK c⟩,⟨cB⟩⟩
    case round=>
     clear H';(try clear m);(try clear E);(try clear am);(try clear aK);(try clear X);(try clear ai);(try clear bb);(try clear aL);(try clear bd);(try clear cF);(try clear bI);(try clear aj);(try clear be);(try clear bJ bL bM bN);(try clear bS bT bU bV);(try clear b0 b1 b5 b8);(try clear bf bg bh bi);(try clear bn bo bp bq);(try clear bO bP bQ bR);(try clear bW bX bY bZ);(try clear b9 ca cb cc);(try clear bj bk bl bm);(try clear br bs bu bv);(try clear G);(try clear p);(try clear q);(try clear u);(try clear d);(try clear i);(try clear v);(try clear g);(try clear j);obtain⟨al,rfl,HA,HK2,c,HB⟩:=hrel
     cases gk with
     | zero=>exact absurd HA.out (by simp[AV.l1])
     | succ k2=>
      have H:=HA.out;clear HA;simp only[AV.l1]at H;by_cases au:al<(o.length:Int)
      ·rw[if_pos au]at H;have ce:=decide_eq_true au;clear au;replace H:=gD H;obtain⟨cG,H⟩:=H;replace H:=bE H;obtain⟨aU,av,H⟩:=H;by_cases aN:aU=true
       ·subst aN;replace H:=iT H;have H':=aM H;clear H;obtain⟨cI,cJ,cL,cM,cN,cO,cP,cQ⟩:=cz4 c;obtain⟨cf,cg,ch,aW,ci,cj,ck,cl,cm,cn⟩:=b6 HB (at_T54 HR0_1.out al);cases aW
        go_wp2_with (first|(go_at_call 99;(with_reducible refine(BL.calls av.out).mono ?_);rintro e bw ⟨rfl,hb⟩;replace c:=kB c hb;replace HB:=sB hb;clear hb))
        repeat(go_quiet (first|(go_at_call 99;(with_reducible refine(BL.calls av.out).mono ?_);rintro e bw ⟨rfl,hb⟩;have n0_:=kB c hb;have n1_:=sB hb;clear c;clear HB;have c:=n0_;have HB:=n1_;clear n0_ n1_;(try clear hb);(try clear hb2);(try clear hk);(try clear hi)));try go_wp2_with (first|(go_at_call 99;(with_reducible refine(BL.calls av.out).mono ?_);rintro e bw ⟨rfl,hb⟩;have n0_:=kB c hb;have n1_:=sB hb;clear c;clear HB;have c:=n0_;have HB:=n1_;clear n0_ n1_;(try clear hb);(try clear hb2);(try clear hk);(try clear hi))))
        go_roundg k2
        case measure=>have:=HK1.out;have:=HK2.out;omega
        case rel=>exact⟨(wrap64 (al+1)),rS,H',⟨by have:=HK1.out;have:=HK2.out;omega⟩,⟨mK c⟩,⟨cB⟩⟩
       ·replace aN:=Bool.eq_false_iff.mpr aN;subst aN;replace H:=iF H;obtain rfl:=Option.some.inj H;obtain⟨cR,cS,cT,cU,cV,cW,cX,cY⟩:=cz4 c;obtain⟨cf,cg,ch,aW,ci,cj,ck,cl,cm,cn⟩:=b6 HB (at_T54 HR0_1.out al);cases aW
        go_wp2_with (first|(go_at_call 99;(with_reducible refine(BL.calls av.out).mono ?_);rintro e bx ⟨rfl,hb⟩;replace c:=kB c hb;replace HB:=sB hb;clear hb))
        repeat(go_quiet (first|(go_at_call 99;(with_reducible refine(BL.calls av.out).mono ?_);rintro e bx ⟨rfl,hb⟩;have n0_:=kB c hb;have n1_:=sB hb;clear c;clear HB;have c:=n0_;have HB:=n1_;clear n0_ n1_;(try clear hb);(try clear hb2);(try clear hk);(try clear hi)));try go_wp2_with (first|(go_at_call 99;(with_reducible refine(BL.calls av.out).mono ?_);rintro e bx ⟨rfl,hb⟩;have n0_:=kB c hb;have n1_:=sB hb;clear c;clear HB;have c:=n0_;have HB:=n1_;clear n0_ n1_;(try clear hb);(try clear hb2);(try clear hk);(try clear hi))))
        go_ret;exact⟨rE,cB⟩
      ·rw[if_neg au]at H;have ce:=decide_eq_false au;clear au;by_cases aw:(b.length:Int)≤4
       ·rw[if_pos aw]at H;have co:=decide_eq_true aw
        have cp:decide (b.length≤4)=true:=decide_eq_true (by omega)
        clear aw;by_cases ax:(o.length:Int)≤3
        ·rw[if_pos ax]at H;have cq:=decide_eq_true ax
         have cr:decide (o.length≤3)=true:=decide_eq_true (by omega)
         clear ax;replace H:=bE H;obtain⟨a6,aX,H⟩:=H;obtain rfl:=Option.some.inj H;obtain⟨cZ,c0,c1,c3,c4,c5,c6,c7⟩:=cz4 c
         go_wp2_with (first|(go_at_call 77;(with_reducible refine(BF.calls aX.out).mono ?_);rintro e w' ⟨rfl,⟨nd,rfl⟩⟩;(try first|exact⟨rfl,_,World.drewN_drewN _ _ _⟩|exact⟨rfl,_,Eq.trans (World.drewN_drewN _ _ _) (congrArg (World.drewN _) (Nat.add_assoc _ _ _))⟩)))
         repeat(go_quiet (first|(go_at_call 77;(with_reducible refine(BF.calls aX.out).mono ?_);rintro e w' ⟨rfl,⟨nd,rfl⟩⟩;(try first|exact⟨rfl,_,World.drewN_drewN _ _ _⟩|exact⟨rfl,_,Eq.trans (World.drewN_drewN _ _ _) (congrArg (World.drewN _) (Nat.add_assoc _ _ _))⟩)));try go_wp2_with (first|(go_at_call 77;(with_reducible refine(BF.calls aX.out).mono ?_);rintro e w' ⟨rfl,⟨nd,rfl⟩⟩;(try first|exact⟨rfl,_,World.drewN_drewN _ _ _⟩|exact⟨rfl,_,Eq.trans (World.drewN_drewN _ _ _) (congrArg (World.drewN _) (Nat.add_assoc _ _ _))⟩))))
         go_ret;exact⟨rE,cB⟩
        ·rw[if_neg ax]at H;have cq:=decide_eq_false ax
         have cr:decide (o.length≤3)=false:=decide_eq_false (by omega)
         clear ax;obtain rfl:=Option.some.inj H;obtain⟨c9,da,db,dc,dd,de,df,dg⟩:=cz4 c;go_wp2
         repeat(go_quiet (fail);try go_wp2)
         go_ret;exact⟨rE,cB⟩
       ·rw[if_neg aw]at H;have co:=decide_eq_false aw
        have cp:decide (b.length≤4)=false:=decide_eq_false (by omega)
        clear aw;obtain rfl:=Option.some.inj H;obtain⟨dh,di,dj,dk,dl,dm,dn,dp⟩:=cz4 c;go_wp2
        repeat(go_quiet (fail);try go_wp2)
        go_ret;exact⟨rE,cB⟩
def AZ.l0:Nat→Int→Int→Int→Int→List (S50)→Option (Bool)
  | 0,_,_,_,_,_=>none
  | k+1,l,bz,bA,bB,an=>if l<(an.length:Int)then(if 0≤l then((AV.f k ((rd_T50 an l).f0) ((rd_T50 an l).f1) ((rd_T50 an l).f2) ((rd_T50 an l).f3)).bind fun aY=>(if aY=true then(AZ.l0 k (wrap64 (l+1)) bz bA bB an)else(some false)))else(none))else((Ab.f bz).bind fun aZ=>(if aZ=true then((BF.f bA bB).bind fun a0=>(if a0=true then(some (decide ((an.length:Int)≤10)))else(some false)))else(some false)))
def AZ.f (k:Nat) (ab:Int) (ac:Int) (n:Int) (z:List (S50)):Option (Bool):=AZ.l0 k 0 ab ac n z
theorem AZ.calls {k:Nat}{ab:Int}{ac:Int}{n:Int}{aO:Option Addr}{aP:Nat}{z:List (S50)}{r:Bool}{w:World}(h:AZ.f k ab ac n z=some r)(bC:Kd.C k50 w aO z.length z)(bD:z.length≤aP) :
 Calls Tryz.prog 36 #[.agg #[.int .i64 ab,.int .i64 ac,.int .i64 n,.slice aO z.length aP]] w fun e w'=>e= .returned (.bool r)∧Below w.heap.size w w':=by
 have hu26:=Tryz.underlying26;have hu50:=Tryz.underlying50;have HR0_3:=aM bC;have HC0_3:=aM bD;clear bC bD;have HB:=rW w;have H:(AZ.l0 k 0 ab ac n z)=some r:=h;clear h;have H':=aM H;clear H;go_enter Tryz.func36,Tryz.ntmps36
 go_wp2_with (first|((with_reducible refine gN 1 ?_);(try(refine gate_guard (by rfl) ?_;dsimp only));refine boxZ 1 #[.int .i64 ab,.int .i64 ac,.int .i64 n,.slice aO z.length aP] 26 ?_;intro ct hg aV hbox hb;have I:=aM hbox;have GW590:=gS hg;have GE590:=gS hg;replace HB:=sB hb;clear hb hbox hg))
 go_loopg [3] k (fun kq aA w'=> ∃ (a:Int),aA= .int .i64 a∧Aside0 (AZ.l0 kq a ab ac n z=some r)∧Aside0 (kq≤k)∧Aside0 (w'.heap[ct]?=some (.cells #[.int .i64 ab,.int .i64 ac,.int .i64 n,(.slice aO z.length aP)] 26 (0,0)))∧Aside0 (Below w.heap.size w w'))
 case atStart=>exact⟨(0),rS,H',⟨Nat.le_refl _⟩,⟨mK I⟩,⟨cB⟩⟩
 case round=>
  clear H';obtain⟨a,rfl,HA,HK1,I,HB⟩:=hrel
  cases gk with
  | zero=>exact absurd HA.out (by simp[AZ.l0])
  | succ k1=>
   have H:=HA.out;clear HA;simp only[AZ.l0]at H;by_cases m:a<(z.length:Int)
   ·rw[if_pos m]at H;have E:=decide_eq_true m;clear m;replace H:=gD H;obtain⟨aK,H⟩:=H;replace H:=bE H;obtain⟨aY,s,H⟩:=H;by_cases X:aY=true
    ·subst X;replace H:=iT H;have H':=aM H;clear H;obtain⟨dq,dr,ds,dt,du,dv,dw,dx⟩:=cz4 I;have ao:0≤(a:Int):=dA;have ap:a<(z.length:Int):=dA;obtain⟨cu,cv,cw,cx,cy,a1,aB,aC,aD,aE,hl591_0,hi591_0,hl591_1,hi591_1⟩:=at_T50 HR0_3.out a ao ap;cases a1;replace aB:=(bc HB aB :);replace aC:=(bc HB aC :);replace aD:=(bc HB aD :);replace aE:=(bc HB aE :);have HR591_0:=aM hi591_0;have HC591_0:=aM hl591_0;clear hi591_0 hl591_0;have HR591_1:=aM hi591_1;have HC591_1:=aM hl591_1;clear hi591_1 hl591_1;replace ao:=eq_true ao;replace ap:=eq_true ap
     go_wp2_with (first|((with_reducible refine gF 76 ?_);refine gX (some 16) Tryz.func76 (AV.calls s.out (cH HR591_0) HC591_0.out (cH HR591_1) HC591_1.out) ?_;intro dy hb;replace I:=kB I hb;replace HB:=sB hb;clear hb))
     go_roundg k1
     case measure=>exact oK
     case rel=>exact⟨(wrap64 (a+1)),rS,H',⟨oK⟩,⟨mK I⟩,⟨cB⟩⟩
    ·replace X:=Bool.eq_false_iff.mpr X;subst X;replace H:=iF H;obtain rfl:=Option.some.inj H;obtain⟨dz,dC,dD,dE,dF,dG,dH,dI⟩:=cz4 I;have ao:0≤(a:Int):=dA;have ap:a<(z.length:Int):=dA;obtain⟨cu,cv,cw,cx,cy,a1,aB,aC,aD,aE,hl591_0,hi591_0,hl591_1,hi591_1⟩:=at_T50 HR0_3.out a ao ap;cases a1;replace aB:=(bc HB aB :);replace aC:=(bc HB aC :);replace aD:=(bc HB aD :);replace aE:=(bc HB aE :);have HR591_0:=aM hi591_0;have HC591_0:=aM hl591_0;clear hi591_0 hl591_0;have HR591_1:=aM hi591_1;have HC591_1:=aM hl591_1;clear hi591_1 hl591_1;replace ao:=eq_true ao;replace ap:=eq_true ap
     go_wp2_with (first|((with_reducible refine gF 76 ?_);refine gX (some 16) Tryz.func76 (AV.calls s.out (cH HR591_0) HC591_0.out (cH HR591_1) HC591_1.out) ?_;intro cz hb;replace I:=kB I hb;replace HB:=sB hb;clear hb))
     go_ret;exact⟨rE,cB⟩
   ·rw[if_neg m]at H;have E:=decide_eq_false m;clear m;replace H:=bE H;obtain⟨aZ,a2,H⟩:=H;by_cases aQ:aZ=true
    ·subst aQ;replace H:=iT H;replace H:=bE H;obtain⟨a0,bF,H⟩:=H;by_cases aR:a0=true
     ·subst aR;replace H:=iT H;obtain rfl:=Option.some.inj H;obtain⟨bf,bg,bh,bi,bj,bk,bl,bm⟩:=cz4 I
      go_wp2_with (first|((with_reducible refine gF 68 ?_);refine gX (some 20) Tryz.func68 (Ab.calls a2.out) ?_;rintro w' ⟨nd,rfl⟩)|(go_at_call 77;(with_reducible refine(BF.calls bF.out).mono ?_);rintro e w' ⟨rfl,⟨nd,rfl⟩⟩))
      go_ret;exact⟨rE,cB⟩
     ·replace aR:=Bool.eq_false_iff.mpr aR;subst aR;replace H:=iF H;obtain rfl:=Option.some.inj H;obtain⟨bn,bo,bp,bq,br,bs,bu,bv⟩:=cz4 I
      go_wp2_with (first|((with_reducible refine gF 68 ?_);refine gX (some 20) Tryz.func68 (Ab.calls a2.out) ?_;rintro w' ⟨nd,rfl⟩)|(go_at_call 77;(with_reducible refine(BF.calls bF.out).mono ?_);rintro e w' ⟨rfl,⟨nd,rfl⟩⟩))
      go_ret;exact⟨rE,cB⟩
    ·replace aQ:=Bool.eq_false_iff.mpr aQ;subst aQ;replace H:=iF H;obtain rfl:=Option.some.inj H;obtain⟨dJ,dK,dL,dM,dN,dO,dP,dQ⟩:=cz4 I
     go_wp2_with (first|((with_reducible refine gF 68 ?_);refine gX (some 20) Tryz.func68 (Ab.calls a2.out) ?_;rintro w' ⟨nd,rfl⟩))
     go_ret;exact⟨rE,cB⟩
mutual
def AQ.j0:Nat→Int→Option (ByteArray)
  | 0,_=>none
  | k+1,ay=>AQ.l0 k ay (⟨#[]⟩ :ByteArray)
def AQ.l0:Nat→Int→ByteArray→Option (ByteArray)
  | 0,_,_=>none
  | k+1,ay,l=>if ay>9 then((some (([(wrap64 (48+(Int.tmod ay 10))) % 256] :List Int):List Int)).bind fun az=>(if(strOfNums az).size+l.size≤9223372036854775807 then(AQ.l0 k (wrap64 (Int.tdiv ay 10)) ((strOfNums az) ++ l))else(none)))else((some (([(wrap64 (48+ay)) % 256] :List Int):List Int)).bind fun aF=>(if(strOfNums aF).size+l.size≤9223372036854775807 then(some ((strOfNums aF) ++ l))else(none)))
end
def AQ.f (k:Nat) (aa:Int):Option (ByteArray):=if aa<0 then(AQ.j0 k 0)else(AQ.j0 k aa)
theorem AQ.calls {k:Nat}{aa:Int}{r:ByteArray}{w:World}(h:AQ.f k aa=some r) :
 Calls Tryz.prog 40 #[.int .i64 aa] w fun e w'=>e= .returned (.string r)∧Below w.heap.size w w':=by
 have HB:=rW w;have H:(if aa<0 then(AQ.j0 k 0)else(AQ.j0 k aa))=some r:=h;clear h;have HC2:=aM H;clear H;go_enter Tryz.func40,Tryz.ntmps40
 go_upto_if 5 with(fail)
 go_cut [0] (fun a3 wc=> ∃ (kq:Nat) (aS:Int),a3= .int .i64 aS∧Aside0 (AQ.j0 kq aS=some r)∧Aside0 (kq≤k)∧Aside0 (Below w.heap.size w wc))
 case first=>
  have H:=HC2.out;clear HC2;by_cases m:aa<0
  ·rw[if_pos m]at H;have E:=decide_eq_true m;clear m
   (first|rw[E]|(simp only[i64_w,i32_w];rw[E])|skip)
   have H':=aM H;clear H;go_wp2;go_meet
   case rel=>exact⟨_,(0),rS,H',⟨oL⟩,⟨cB⟩⟩
  ·rw[if_neg m]at H;have E:=decide_eq_false m;clear m
   (first|rw[E]|(simp only[i64_w,i32_w];rw[E])|skip)
   have H':=aM H;clear H;go_wp2;go_meet
   case rel=>exact⟨_,(aa),rS,H',⟨oL⟩,⟨cB⟩⟩
 case rest=>
  clear HC2;(try clear m);(try clear E);obtain⟨kq,aS,rfl,HA,HJ1,HB⟩:=hcut
  cases kq with
  | zero=>exact absurd HA.out (by simp[AQ.j0])
  | succ kj1=>
   have H:=HA.out;clear HA;simp only[AQ.j0]at H;have H':=aM H;clear H;go_wp2
   go_loopg [0,3] kj1 (fun kq a3 aA w'=> ∃ (y:Int) (ad:ByteArray),a3= .int .i64 y∧aA= .string ad∧Aside0 (AQ.l0 kq y ad=some r)∧Aside0 (kq≤kj1)∧Aside0 (Below w.heap.size w w'))
   case atStart=>exact⟨(aS),((⟨#[]⟩ :ByteArray)),rS,rS,H',⟨Nat.le_refl _⟩,⟨cB⟩⟩
   case round=>
    clear H';(try clear m);(try clear E);obtain⟨y,ad,rfl,rfl,HA,HK2,HB⟩:=hrel
    cases gk with
    | zero=>exact absurd HA.out (by simp[AQ.l0])
    | succ k2=>
     have H:=HA.out;clear HA;simp only[AQ.l0]at H;by_cases am:y>9
     ·rw[if_pos am]at H;have aK:decide (9<y)=true:=decide_eq_true am;clear am;replace H:=nE H;obtain⟨az,bG,H⟩:=H;replace H:=gC H;obtain⟨a4,H⟩:=H;have dS:=eq_true a4;have dT:decide ((strOfNums az).size+ad.size≤9223372036854775807)=true:=decide_eq_true a4
      try have dU:(9223372036854775807<(strOfNums az).size+ad.size)=False:=eq_false (Nat.not_lt.2 a4)
      have H':=aM H;clear H
      go_wp2_with (first|((with_reducible refine gN 12 ?_);refine R_lit (Kd.int .u8) _ 5 ?hg (N:=12) ?hd (xs:=([(wrap64 (48+(Int.tmod y 10))) % 256] :List Int)) (inner:=[.int .u8 ((wrap64 (48+(Int.tmod y 10))) % 256)]) (ok:=fun _=>True) (okp:=fun _=>True) ?hr ?hp (fun _ hk=>hk) trivial (Below.refl _ _) (Nat.le_refl _) (by simp) ?_;(case hd=>rfl);(case hg=>rfl);(case hr=>exact rG);(case hp=>exact(Reps.one (show Kd.M (Kd.int .u8) _ _ _ ((wrap64 (48+(Int.tmod y 10))) % 256) [.int .u8 ((wrap64 (48+(Int.tmod y 10))) % 256)]from rfl) (Reps.none _ _)));intro dV dX aG hb hg_ hnew_;clear hg_ hnew_;(first|rw[← bG.out]at aG|(simp only[Int.reduceToNat]at aG;rw[← bG.out]at aG));have cA:=rL aG;replace HB:=sB hb;clear hb aG;have hcv8:=own_string (P:=Tryz.prog) Tryz.underlying22 Tryz.underlying5 Tryz.underlying9 (own_of_R cA.out)))
      go_roundg k2
      case measure=>have:=HJ1.out;have:=HK2.out;omega
      case rel=>exact⟨(wrap64 (Int.tdiv y 10)),((strOfNums az) ++ ad),rS,rS,H',⟨by have:=HJ1.out;have:=HK2.out;omega⟩,⟨cB⟩⟩
     ·rw[if_neg am]at H;have aK:decide (9<y)=false:=decide_eq_false am;clear am;replace H:=nE H;obtain⟨aF,bH,H⟩:=H;replace H:=gC H;obtain⟨aL,H⟩:=H;have bd:=eq_true aL;have dY:decide ((strOfNums aF).size+ad.size≤9223372036854775807)=true:=decide_eq_true aL
      try have dZ:(9223372036854775807<(strOfNums aF).size+ad.size)=False:=eq_false (Nat.not_lt.2 aL)
      obtain rfl:=Option.some.inj H
      go_wp2_with (first|((with_reducible refine gN 21 ?_);refine R_lit (Kd.int .u8) _ 5 ?hg (N:=21) ?hd (xs:=([(wrap64 (48+y)) % 256] :List Int)) (inner:=[.int .u8 ((wrap64 (48+y)) % 256)]) (ok:=fun _=>True) (okp:=fun _=>True) ?hr ?hp (fun _ hk=>hk) trivial (Below.refl _ _) (Nat.le_refl _) (by simp) ?_;(case hd=>rfl);(case hg=>rfl);(case hr=>exact rG);(case hp=>exact(Reps.one (show Kd.M (Kd.int .u8) _ _ _ ((wrap64 (48+y)) % 256) [.int .u8 ((wrap64 (48+y)) % 256)]from rfl) (Reps.none _ _)));intro d0 cz aH hb hg_ hnew_;clear hg_ hnew_;(first|rw[← bH.out]at aH|(simp only[Int.reduceToNat]at aH;rw[← bH.out]at aH));have cD:=rL aH;replace HB:=sB hb;clear hb aH;have hcv12:=own_string (P:=Tryz.prog) Tryz.underlying22 Tryz.underlying5 Tryz.underlying9 (own_of_R cD.out)))
      go_ret;exact⟨rE,cB⟩
def BW.f  :Option (List ByteArray):=some (([(⟨#[107,105,108,108]⟩ :ByteArray),(⟨#[116,114,97,112]⟩ :ByteArray),(⟨#[101,114,114]⟩ :ByteArray),(⟨#[116,114,97,99,101]⟩ :ByteArray),(⟨#[108,111,103]⟩ :ByteArray),(⟨#[97,108,108,111,119]⟩ :ByteArray)] :List ByteArray))
theorem BW.calls {r:List ByteArray}{w:World}(h:BW.f  = some r) :
 Calls Tryz.prog 73 #[] w fun e w'=> ∃ v0_:Value,e= .returned (v0_)∧Kd.R Kd.string 9 w' w.heap.size (fun _=>True) v0_ r∧Below w.heap.size w w':=by
 have HB:=rW w;have H:(some (([(⟨#[107,105,108,108]⟩ :ByteArray),(⟨#[116,114,97,112]⟩ :ByteArray),(⟨#[101,114,114]⟩ :ByteArray),(⟨#[116,114,97,99,101]⟩ :ByteArray),(⟨#[108,111,103]⟩ :ByteArray),(⟨#[97,108,108,111,119]⟩ :ByteArray)] :List ByteArray)))=some r:=h;clear h;obtain⟨d1,a5⟩ : ∃ y_:List ByteArray,Aside0 (y_=(([(⟨#[107,105,108,108]⟩ :ByteArray),(⟨#[116,114,97,112]⟩ :ByteArray),(⟨#[101,114,114]⟩ :ByteArray),(⟨#[116,114,97,99,101]⟩ :ByteArray),(⟨#[108,111,103]⟩ :ByteArray),(⟨#[97,108,108,111,119]⟩ :ByteArray)] :List ByteArray))):=⟨_,⟨rfl⟩⟩;rw[← a5.out]at H;obtain rfl:=Option.some.inj H;go_enter Tryz.func73,Tryz.ntmps73
 go_wp2_with (first|((with_reducible refine gN 1 ?_);refine R_lit Kd.string _ 9 ?hg (N:=1) ?hd (xs:=([(⟨#[107,105,108,108]⟩ :ByteArray),(⟨#[116,114,97,112]⟩ :ByteArray),(⟨#[101,114,114]⟩ :ByteArray),(⟨#[116,114,97,99,101]⟩ :ByteArray),(⟨#[108,111,103]⟩ :ByteArray),(⟨#[97,108,108,111,119]⟩ :ByteArray)] :List ByteArray)) (inner:=[.string (⟨#[107,105,108,108]⟩ :ByteArray),.string (⟨#[116,114,97,112]⟩ :ByteArray),.string (⟨#[101,114,114]⟩ :ByteArray),.string (⟨#[116,114,97,99,101]⟩ :ByteArray),.string (⟨#[108,111,103]⟩ :ByteArray),.string (⟨#[97,108,108,111,119]⟩ :ByteArray)]) (ok:=fun _=>True) (okp:=fun _=>True) ?hr ?hp (fun _ hk=>hk) trivial (Below.refl _ _) (Nat.le_refl _) (by simp) ?_;(case hd=>rfl);(case hg=>rfl);(case hr=>exact rG);(case hp=>exact(Reps.one (zMS ⟨#[107,105,108,108]⟩) (Reps.one (zMS ⟨#[116,114,97,112]⟩) (Reps.one (zMS ⟨#[101,114,114]⟩) (Reps.one (zMS ⟨#[116,114,97,99,101]⟩) (Reps.one (zMS ⟨#[108,111,103]⟩) (Reps.one (zMS ⟨#[97,108,108,111,119]⟩) (Reps.none _ _))))))));intro d2 d3 aI hb hg_ hnew_;clear hg_ hnew_;(first|rw[← a5.out]at aI|(simp only[Int.reduceToNat]at aI;rw[← a5.out]at aI));have cE:=rL aI;replace HB:=sB hb;clear hb aI))
 go_ret;exact⟨_,rE,mR cE,cB⟩
def Bm.f (a:Int):Option (ByteArray):=(Ao.f a 0 5).bind fun u=>(if u=true then((BW.f).bind fun o=>(if 0≤a then(if a<(o.length:Int)then(some (rdOf ByteArray.empty o a))else(none))else(none)))else(some (⟨#[]⟩ :ByteArray)))
theorem Bm.calls {a:Int}{r:ByteArray}{w:World}(h:Bm.f a=some r) :
 Calls Tryz.prog 78 #[.int .i64 a] w fun e w'=>e= .returned (.string r)∧Below w.heap.size w w':=by
 have HB:=rW w
 unfold Bm.f at h;have H:=h
 clear h;replace H:=bE H;obtain⟨u,p,H⟩:=H;by_cases g:u=true
 ·subst g;replace H:=iT H;replace H:=bE H;obtain⟨o,v,H⟩:=H;replace H:=gD H;obtain⟨L,H⟩:=H;replace H:=gD H;obtain⟨O,H⟩:=H;obtain rfl:=Option.some.inj H;go_enter Tryz.func78,Tryz.ntmps78
  go_wp2_with (first|((with_reducible refine gF 92 ?_);refine gX (some 4) Tryz.func92 (Ao.calls p.out) ?_;rintro w' ⟨nd,rfl⟩)|((with_reducible refine gF 73 ?_);refine gY (some 6) Tryz.func73 (BW.calls v.out) ?_;rintro ad E ⟨G,hb⟩;have I:=rL G;replace HB:=sB hb;(try clear hb);(try clear G);obtain⟨ae,af,U⟩:=R_slice I.out;subst U;have x:0≤(a:Int):=dA;have z:a<(o.length:Int):=dA;obtain⟨ag,W,ah⟩:=at_string (R_reads' I.out).2.2 a x z;cases W;replace x:=eq_true x;replace z:=eq_true z))
  go_ret;exact⟨rE,cB⟩
 ·replace g:=Bool.eq_false_iff.mpr g;subst g;replace H:=iF H;obtain rfl:=Option.some.inj H;go_enter Tryz.func78,Tryz.ntmps78
  go_wp2_with (first|((with_reducible refine gF 92 ?_);refine gX (some 4) Tryz.func92 (Ao.calls p.out) ?_;rintro w' ⟨nd,rfl⟩))
  go_ret;exact⟨rE,cB⟩
def BX.f (k:Nat) (a:Int) (q:Int):Option (ByteArray):=(Bm.f a).bind fun c=>(if c.size+1≤9223372036854775807 then((AQ.f k q).bind fun i=>(if(c ++ (⟨#[32]⟩ :ByteArray)).size+i.size≤9223372036854775807 then(some ((c ++ (⟨#[32]⟩ :ByteArray)) ++ i))else(none)))else(none))
theorem BX.calls {k:Nat}{a:Int}{q:Int}{r:ByteArray}{w:World}(h:BX.f k a q=some r) :
 Calls Tryz.prog 41 #[.int .i64 a,.int .i64 q] w fun e w'=>e= .returned (.string r)∧Below w.heap.size w w':=by
 have HB:=rW w
 unfold BX.f at h;have H:=h
 clear h;replace H:=bE H;obtain⟨c,X,H⟩:=H;replace H:=gC H;obtain⟨A,H⟩:=H;have ai:=eq_true A;have aj:decide (c.size+1≤9223372036854775807)=true:=decide_eq_true A
 try have ak:(9223372036854775807<c.size+1)=False:=eq_false (Nat.not_lt.2 A)
 replace H:=bE H;obtain⟨i,Y,H⟩:=H;replace H:=gC H;obtain⟨s,H⟩:=H;have O:=eq_true s;have al:decide ((c ++ (⟨#[32]⟩ :ByteArray)).size+i.size≤9223372036854775807)=true:=decide_eq_true s
 try have am:(9223372036854775807<(c ++ (⟨#[32]⟩ :ByteArray)).size+i.size)=False:=eq_false (Nat.not_lt.2 s)
 try have an:(9223372036854775807<c.size+1+i.size)=False:=eq_false (Nat.not_lt.2 (by have h_:=s;simp only[ByteArray.size_append]at h_;exact h_))
 obtain rfl:=Option.some.inj H;go_enter Tryz.func41,Tryz.ntmps41
 go_wp2_with (first|((with_reducible refine gF 78 ?_);refine gX (some 6) Tryz.func78 (Bm.calls X.out) ?_;intro E hb;replace HB:=sB hb;clear hb)|((with_reducible refine gF 40 ?_);refine gX (some 9) Tryz.func40 (AQ.calls Y.out) ?_;intro aa hb;replace HB:=sB hb;clear hb))
 go_ret;exact⟨rE,cB⟩
def A3.f (k:Nat) (j:Int) (l:Int):Option (ByteArray):=(AQ.f k j).bind fun d=>(if d.size+3≤9223372036854775807 then((AQ.f k l).bind fun m=>(if(d ++ (⟨#[32,58,32]⟩ :ByteArray)).size+m.size≤9223372036854775807 then(some ((d ++ (⟨#[32,58,32]⟩ :ByteArray)) ++ m))else(none)))else(none))
def A3.T1:Bool×List (List Nat×List Nat):=(true,[([],[]),([0],[0]),([1],[1]),([2],[2]),([],[]),([4],[4]),([5,2],[5]),([3,6],[3,6]),([7,6,0,1,2,3,4,5,6,7],[7])])
def A3.B1:List Nat:=[0,1,3,7,0,16,55,127,255]
theorem A3.tab1:rtab .any (opsOf Tryz.f79 1)=A3.T1:=by kernel_rfl
theorem A3.bits1:waitsOk A3.T1.2 A3.B1=true:=by kernel_rfl
theorem q15x0 {P:Prop} (h:P:=by
 rintro w' ⟨s0,s1⟩
 go_simp
 with_reducible rfl):P:=h
theorem A3.calls {k:Nat}{j:Int}{l:Int}{r:ByteArray}{w:World}(h:A3.f k j l=some r) :
 Calls Tryz.prog 79 #[.agg #[.int .i64 j,.int .i64 l]] w fun e w'=>e= .returned (.string r)∧Below w.heap.size w w':=by
 have hu52:=Tryz.underlying52;have HB:=rW w
 unfold A3.f at h;have H:=h
 clear h;replace H:=bE H;obtain⟨d,p,H⟩:=H;replace H:=gC H;obtain⟨g,H⟩:=H;have ao:=eq_true g;have ap:decide (d.size+3≤9223372036854775807)=true:=decide_eq_true g
 try have aq:(9223372036854775807<d.size+3)=False:=eq_false (Nat.not_lt.2 g)
 replace H:=bE H;obtain⟨m,v,H⟩:=H;replace H:=gC H;obtain⟨t,H⟩:=H;have L:=eq_true t;have ar:decide ((d ++ (⟨#[32,58,32]⟩ :ByteArray)).size+m.size≤9223372036854775807)=true:=decide_eq_true t
 try have au:(9223372036854775807<(d ++ (⟨#[32,58,32]⟩ :ByteArray)).size+m.size)=False:=eq_false (Nat.not_lt.2 t)
 try have av:(9223372036854775807<d.size+3+m.size)=False:=eq_false (Nat.not_lt.2 (by have h_:=t;simp only[ByteArray.size_append]at h_;exact h_))
 obtain rfl:=Option.some.inj H;go_enter Tryz.func79,Tryz.ntmps79
 try go_wp2_with (first|((with_reducible refine gN 1 ?_);refine boxZ 1 #[.int .i64 j,.int .i64 l] 52 ?_;intro J hg ab hbox hb;have b:=aM hbox;have GW611:=gS hg;have GE611:=gS hg;replace HB:=sB hb;clear hb hbox hg))
 replace b:=dB b;replace HB:=dW HB
 refine sZ 9 (fun w'=>w'.cell? ⟨J,0,none⟩=some (.int .i64 j)∧w'.cell? ⟨J,1,none⟩=some (.int .i64 l)) A3.tab1 A3.bits1 ⟨(blk_cell b.out 0).trans rfl,(blk_cell b.out 1).trans rfl⟩ fun HT_ HW_ hHeld=>?_
 generalize ab.drew=E at b HB hHeld ⊢;refine pZ 0 3 1 ?_;refine pZ 4 7 17 ?_;refine tZ 1 4 19 (y:=q15x0) (h:=?_);refine tZ 5 8 51 (y:=q15x0) (h:=?_)
 refine oZ 2 5 55 fun K hK=>?_
 refine eX Tryz.func40 (AQ.calls p.out) ?_
 intro aa hb;replace b:=kB b hb;replace HB:=sB hb;clear hb
 refine hK.out _ _ ⟨(blk_cell b.out 0).trans rfl,(blk_cell b.out 1).trans rfl⟩ (fun hHeld=>?_)
 clear hK K;refine normZ (some 5) ?_
 refine pZ 3 6 63 ?_
 refine oZ 6 9 127 fun K hK=>?_
 refine eX Tryz.func40 (AQ.calls v.out) ?_
 intro aw hb;replace b:=kB b hb;replace HB:=sB hb;clear hb
 refine hK.out _ _ ⟨(blk_cell b.out 0).trans rfl,(blk_cell b.out 1).trans rfl⟩ (fun hHeld=>?_)
 clear hK K;refine normZ (some 9) ?_
 refine pZ 7 10 255 ?_;refine pZ 8 2 511 ?_
 refine done_ (done_of HT_.out (by kernel_rfl)) ?_
 try go_wp2
 go_ret;exact⟨rE,cB⟩
def Bn.f  :Option (List ByteArray):=some (([(⟨#[]⟩ :ByteArray),(⟨#[61,61]⟩ :ByteArray),(⟨#[33,61]⟩ :ByteArray),(⟨#[60]⟩ :ByteArray),(⟨#[60,61]⟩ :ByteArray),(⟨#[62]⟩ :ByteArray),(⟨#[62,61]⟩ :ByteArray)] :List ByteArray))
theorem Bn.calls {r:List ByteArray}{w:World}(h:Bn.f  = some r) :
 Calls Tryz.prog 80 #[] w fun e w'=> ∃ v0_:Value,e= .returned (v0_)∧Kd.R Kd.string 9 w' w.heap.size (fun _=>True) v0_ r∧Below w.heap.size w w':=by
 have HB:=rW w;have H:(some (([(⟨#[]⟩ :ByteArray),(⟨#[61,61]⟩ :ByteArray),(⟨#[33,61]⟩ :ByteArray),(⟨#[60]⟩ :ByteArray),(⟨#[60,61]⟩ :ByteArray),(⟨#[62]⟩ :ByteArray),(⟨#[62,61]⟩ :ByteArray)] :List ByteArray)))=some r:=h;clear h;obtain⟨ax,D⟩ : ∃ y_:List ByteArray,Aside0 (y_=(([(⟨#[]⟩ :ByteArray),(⟨#[61,61]⟩ :ByteArray),(⟨#[33,61]⟩ :ByteArray),(⟨#[60]⟩ :ByteArray),(⟨#[60,61]⟩ :ByteArray),(⟨#[62]⟩ :ByteArray),(⟨#[62,61]⟩ :ByteArray)] :List ByteArray))):=⟨_,⟨rfl⟩⟩;rw[← D.out]at H;obtain rfl:=Option.some.inj H;go_enter Tryz.func80,Tryz.ntmps80
 go_wp2_with (first|((with_reducible refine gN 1 ?_);refine R_lit Kd.string _ 9 ?hg (N:=1) ?hd (xs:=([(⟨#[]⟩ :ByteArray),(⟨#[61,61]⟩ :ByteArray),(⟨#[33,61]⟩ :ByteArray),(⟨#[60]⟩ :ByteArray),(⟨#[60,61]⟩ :ByteArray),(⟨#[62]⟩ :ByteArray),(⟨#[62,61]⟩ :ByteArray)] :List ByteArray)) (inner:=[.string (⟨#[]⟩ :ByteArray),.string (⟨#[61,61]⟩ :ByteArray),.string (⟨#[33,61]⟩ :ByteArray),.string (⟨#[60]⟩ :ByteArray),.string (⟨#[60,61]⟩ :ByteArray),.string (⟨#[62]⟩ :ByteArray),.string (⟨#[62,61]⟩ :ByteArray)]) (ok:=fun _=>True) (okp:=fun _=>True) ?hr ?hp (fun _ hk=>hk) trivial (Below.refl _ _) (Nat.le_refl _) (by simp) ?_;(case hd=>rfl);(case hg=>rfl);(case hr=>exact rG);(case hp=>exact(Reps.one (zMS ⟨#[]⟩) (Reps.one (zMS ⟨#[61,61]⟩) (Reps.one (zMS ⟨#[33,61]⟩) (Reps.one (zMS ⟨#[60]⟩) (Reps.one (zMS ⟨#[60,61]⟩) (Reps.one (zMS ⟨#[62]⟩) (Reps.one (zMS ⟨#[62,61]⟩) (Reps.none _ _)))))))));intro ay az n hb hg_ hnew_;clear hg_ hnew_;(first|rw[← D.out]at n|(simp only[Int.reduceToNat]at n;rw[← D.out]at n));have ac:=rL n;replace HB:=sB hb;clear hb n))
 go_ret;exact⟨_,rE,mR ac,cB⟩
/-- More is held from here on. -/
theorem reS_ {P:Program} {md:Region.Mode} {ops:Array Oper} {Q:Exit→Act→World→Prop} {S:World→Prop} (S1:World→Prop) (hS: ∀ w,S1 w→S w): ∀ {fuel:Nat} {l:Array Bool} {a:Act} {w:World},S1 w→wpAnyLast P md ops Q S1 [] fuel l a w→wpAnyLast P md ops Q S [] fuel l a w
  | 0,_,_,_,_,h=>h
  | fuel+1,_,_,w,h1,h=>⟨h.1,fun i hi=>wpOp_mono (fun a' w' h'=>⟨fun _ _=>hS w' (h'.1 (by simp) h1),reS_ S1 hS (h'.1 (by simp) h1) h'.2⟩) (h.2 i hi)⟩
theorem qh16x0 {P:Prop} (h:P:=by exact⟨(blk_cell g.out 0).trans rfl,(blk_cell g.out 1).trans rfl,(blk_cell g.out 2).trans rfl,(blk_cell g.out 3).trans rfl,(blk_cell g.out 4).trans rfl,(blk_cell g.out 5).trans rfl,HS6_⟩):P:=h
theorem qh16x0a {P:Prop} (h:P:=by exact⟨(blk_cell g.out 0).trans rfl,(blk_cell g.out 1).trans rfl,(blk_cell g.out 2).trans rfl,(blk_cell g.out 3).trans rfl,(blk_cell g.out 4).trans rfl,(blk_cell g.out 5).trans rfl⟩):P:=h
mutual
def AH.j0:Nat→ByteArray→List Int→List (S54)→Int→Int→Option (ByteArray)
  | 0,_,_,_,_,_=>none
  | k+1,m,A,p,G,I=>AH.l0 k m 0 A p G I
def AH.l0:Nat→ByteArray→Int→List Int→List (S54)→Int→Int→Option (ByteArray)
  | 0,_,_,_,_,_,_=>none
  | k+1,m,O,A,p,G,I=>if O<(A.length:Int)then(if O>0 then(if m.size+3≤9223372036854775807 then(if 0≤O then((AQ.f k (rd A O)).bind fun X=>(if(m ++ (⟨#[32,44,32]⟩ :ByteArray)).size+X.size≤9223372036854775807 then(AH.l0 k ((m ++ (⟨#[32,44,32]⟩ :ByteArray)) ++ X) (wrap64 (O+1)) A p G I)else(none)))else(none))else(none))else(if 0≤O then((AQ.f k (rd A O)).bind fun ag=>(if m.size+ag.size≤9223372036854775807 then(AH.l0 k (m ++ ag) (wrap64 (O+1)) A p G I)else(none)))else(none)))else(AH.l1 k m 0 A p G I)
def AH.l1:Nat→ByteArray→Int→List Int→List (S54)→Int→Int→Option (ByteArray)
  | 0,_,_,_,_,_,_=>none
  | k+1,m,s,A,p,G,I=>if s<(p.length:Int)then(if 0≤s then(if s=0 then(if m.size+4≤9223372036854775807 then(AH.j3 k (m ++ (⟨#[32,105,102,32]⟩ :ByteArray)) s A p G I ((rd_T54 p s).f0) ((rd_T54 p s).f1.f0) ((rd_T54 p s).f1.f1) ((rd_T54 p s).f2) ((rd_T54 p s).f3.f0) ((rd_T54 p s).f3.f1))else(none))else(if m.size+5≤9223372036854775807 then(AH.j3 k (m ++ (⟨#[32,97,110,100,32]⟩ :ByteArray)) s A p G I ((rd_T54 p s).f0) ((rd_T54 p s).f1.f0) ((rd_T54 p s).f1.f1) ((rd_T54 p s).f2) ((rd_T54 p s).f3.f0) ((rd_T54 p s).f3.f1))else(none)))else(none))else(if m.size+4≤9223372036854775807 then((BX.f k G I).bind fun J=>(if(m ++ (⟨#[32,100,111,32]⟩ :ByteArray)).size+J.size≤9223372036854775807 then(if((m ++ (⟨#[32,100,111,32]⟩ :ByteArray)) ++ J).size+2≤9223372036854775807 then(some (((m ++ (⟨#[32,100,111,32]⟩ :ByteArray)) ++ J) ++ (⟨#[32,59]⟩ :ByteArray)))else(none))else(none)))else(none))
def AH.j3:Nat→ByteArray→Int→List Int→List (S54)→Int→Int→Int→Int→Int→Int→Int→Int→Option (ByteArray)
  | 0,_,_,_,_,_,_,_,_,_,_,_,_=>none
  | k+1,m,s,A,p,G,I,bR,bS,bT,ah,bU,bV=>if m.size+4≤9223372036854775807 then((AQ.f k bR).bind fun j=>(if(m ++ (⟨#[97,114,103,32]⟩ :ByteArray)).size+j.size≤9223372036854775807 then(if((m ++ (⟨#[97,114,103,32]⟩ :ByteArray)) ++ j).size+3≤9223372036854775807 then((A3.f k bS bT).bind fun q=>(if(((m ++ (⟨#[97,114,103,32]⟩ :ByteArray)) ++ j) ++ (⟨#[32,38,32]⟩ :ByteArray)).size+q.size≤9223372036854775807 then(if((((m ++ (⟨#[97,114,103,32]⟩ :ByteArray)) ++ j) ++ (⟨#[32,38,32]⟩ :ByteArray)) ++ q).size+1≤9223372036854775807 then((Bn.f).bind fun t=>(if 0≤ah then(if ah<(t.length:Int)then(if(((((m ++ (⟨#[97,114,103,32]⟩ :ByteArray)) ++ j) ++ (⟨#[32,38,32]⟩ :ByteArray)) ++ q) ++ (⟨#[32]⟩ :ByteArray)).size+(rdOf ByteArray.empty t ah).size≤9223372036854775807 then(if((((((m ++ (⟨#[97,114,103,32]⟩ :ByteArray)) ++ j) ++ (⟨#[32,38,32]⟩ :ByteArray)) ++ q) ++ (⟨#[32]⟩ :ByteArray)) ++ (rdOf ByteArray.empty t ah)).size+1≤9223372036854775807 then((A3.f k bU bV).bind fun Y=>(if(((((((m ++ (⟨#[97,114,103,32]⟩ :ByteArray)) ++ j) ++ (⟨#[32,38,32]⟩ :ByteArray)) ++ q) ++ (⟨#[32]⟩ :ByteArray)) ++ (rdOf ByteArray.empty t ah)) ++ (⟨#[32]⟩ :ByteArray)).size+Y.size≤9223372036854775807 then(AH.l1 k ((((((((m ++ (⟨#[97,114,103,32]⟩ :ByteArray)) ++ j) ++ (⟨#[32,38,32]⟩ :ByteArray)) ++ q) ++ (⟨#[32]⟩ :ByteArray)) ++ (rdOf ByteArray.empty t ah)) ++ (⟨#[32]⟩ :ByteArray)) ++ Y) (wrap64 (s+1)) A p G I)else(none)))else(none))else(none))else(none))else(none)))else(none))else(none)))else(none))else(none)))else(none)
end
def AH.f (k:Nat) (o:List Int) (b:List (S54)) (v:Int) (x:Int):Option (ByteArray):=if(o.length:Int)=0 then(if 3+3≤9223372036854775807 then(AH.j0 k ((⟨#[111,110,32]⟩ :ByteArray) ++ (⟨#[97,110,121]⟩ :ByteArray)) o b v x)else(none))else(AH.j0 k (⟨#[111,110,32]⟩ :ByteArray) o b v x)
def AH.T17:Bool×List (List Nat×List Nat):=(true,[([],[]),([0],[0]),([],[]),([2],[2]),([3],[3]),([1,4],[1,4]),([5],[5]),([],[]),([7],[7]),([8,4],[8]),([6,9],[6,9]),([10],[10]),([9],[]),([],[]),([13],[13]),([12,14],[12,14]),([15],[15]),([11,16],[11,16]),([17],[17]),([],[]),([19],[19]),([20,12],[20]),([18,21],[18,21]),([22,21,0,1,2,3,4,5,6,7,8,9,10,11,12,13,14,15,16,17,18,19,20,21,22],[0,22])])
def AH.B17:List Nat:=[0,1,0,4,12,31,63,0,128,412,1023,2047,924,0,8192,29596,62364,131071,262143,0,524288,1577884,4194303,8388607]
theorem AH.tab17:rtab .any (opsOf Tryz.f42 17)=AH.T17:=by kernel_rfl
theorem AH.bits17:waitsOk AH.T17.2 AH.B17=true:=by kernel_rfl
theorem q16x0 {P:Prop} (h:P:=by
 rintro w' ⟨s0,s1,s2,s3,s4,s5,s6⟩
 go_simp
 with_reducible rfl):P:=h
theorem q16x0a {P:Prop} (h:P:=by
 rintro w' ⟨s0,s1,s2,s3,s4,s5⟩
 go_simp
 with_reducible rfl):P:=h
theorem AH.calls {k:Nat}{aa:Option Addr}{ab:Nat}{o:List Int}{ai:Option Addr}{ac:Nat}{b:List (S54)}{v:Int}{x:Int}{r:ByteArray}{w:World}(h:AH.f k o b v x=some r)(a4:Kd.C (Kd.int .i64) w aa o.length o)(a5:o.length≤ab)(a6:Kd.C k54 w ai b.length b)(a7:b.length≤ac) :
 Calls Tryz.prog 42 #[.agg #[.slice aa o.length ab,.slice ai b.length ac,.int .i64 v,.int .i64 x]] w fun e w'=>e= .returned (.string r)∧Below w.heap.size w w':=by
 have hu50:=Tryz.underlying50;have hu54:=Tryz.underlying54;have hu52:=Tryz.underlying52;have HR0_0:=aM a4;have HC0_0:=aM a5;clear a4 a5;have HR0_1:=aM a6;have HC0_1:=aM a7;clear a6 a7;have HB:=rW w;have H:(if(o.length:Int)=0 then(if 3+3≤9223372036854775807 then(AH.j0 k ((⟨#[111,110,32]⟩ :ByteArray) ++ (⟨#[97,110,121]⟩ :ByteArray)) o b v x)else(none))else(AH.j0 k (⟨#[111,110,32]⟩ :ByteArray) o b v x))=some r:=h;clear h;have HC2:=aM H;clear H;go_enter Tryz.func42,Tryz.ntmps42
 go_upto_if 10 with(first|((with_reducible refine gN 1 ?_);refine boxZ 1 #[.slice aa o.length ab,.slice ai b.length ac,.int .i64 v,.int .i64 x] 50 ?_;intro av hg cX hbox hb;have d:=aM hbox;have GW617:=gS hg;have GE617:=gS hg;replace HB:=sB hb;clear hb hbox hg;obtain⟨aw,ax,ay,az,aA,aB,aC,aD⟩:=cz4 d))
 (try simp only[Act.put,List.setIfInBounds_toArray,List.set_cons_zero,List.set_cons_succ])
 go_cut [3] (fun ad wc=> ∃ (kq:Nat) (aE:ByteArray),ad= .string aE∧Aside0 (AH.j0 kq aE o b v x=some r)∧Aside0 (kq≤k)∧Aside0 (wc.heap[av]?=some (.cells #[(.slice aa o.length ab),(.slice ai b.length ac),.int .i64 v,.int .i64 x] 50 (0,0)))∧Aside0 (Below w.heap.size w wc))
 case first=>
  have H:=HC2.out;clear HC2;by_cases L:(o.length:Int)=0
  ·rw[if_pos L]at H;obtain⟨M,am⟩:=eT L;clear L
   (first|rw[M]|(simp only[i64_w,i32_w];rw[M])|skip)
   replace H:=gC H;obtain⟨ae,H⟩:=H;have aF:=eq_true ae;have aG:decide (3+3≤9223372036854775807)=true:=decide_eq_true ae
   try have aH:(9223372036854775807<3+3)=False:=eq_false (Nat.not_lt.2 ae)
   have H':=aM H;clear H;go_wp2;go_meet
   case rel=>exact⟨_,((⟨#[111,110,32]⟩ :ByteArray) ++ (⟨#[97,110,121]⟩ :ByteArray)),rS,H',⟨oL⟩,⟨mK d⟩,⟨cB⟩⟩
  ·rw[if_neg L]at H;obtain⟨M,am⟩:=eF L
   have aI: ¬ (o= []):=fun h_=>L (by rw[h_];rfl)
   (first|rw[M]|(simp only[i64_w,i32_w];rw[M])|skip)
   have H':=aM H;clear H;go_wp2;go_meet
   case rel=>exact⟨_,((⟨#[111,110,32]⟩ :ByteArray)),rS,H',⟨oL⟩,⟨mK d⟩,⟨cB⟩⟩
 case rest=>
  clear HC2;(try clear L);(try clear M);(try clear am);(try clear aI);(try clear ae);(try clear aF);(try clear aG);(try clear aH);(try clear aw ax ay az);(try clear aA aB aC aD);obtain⟨kq,aE,rfl,HA,HJ1,d,HB⟩:=hcut
  cases kq with
  | zero=>exact absurd HA.out (by simp[AH.j0])
  | succ kj1=>
   have H:=HA.out;clear HA;simp only[AH.j0]at H;have H':=aM H;clear H;go_wp2
   go_loopg [3,4] kj1 (fun kq ad bW w'=> ∃ (D:ByteArray) (z:Int),ad= .string D∧bW= .int .i64 z∧Aside0 (AH.l0 kq D z o b v x=some r)∧Aside0 (kq≤kj1)∧Aside0 (w'.heap[av]?=some (.cells #[(.slice aa o.length ab),(.slice ai b.length ac),.int .i64 v,.int .i64 x] 50 (0,0)))∧Aside0 (Below w.heap.size w w'))
   case atStart=>exact⟨(aE),(0),rS,rS,H',⟨Nat.le_refl _⟩,⟨mK d⟩,⟨cB⟩⟩
   case round=>
    clear H';(try clear L);(try clear M);(try clear am);(try clear aI);(try clear ae);(try clear aF);(try clear aG);(try clear aH);(try clear aw ax ay az);(try clear aA aB aC aD);obtain⟨D,z,rfl,rfl,HA,HK2,d,HB⟩:=hrel
    cases gk with
    | zero=>exact absurd HA.out (by simp[AH.l0])
    | succ k2=>
     have H:=HA.out;clear HA;simp only[AH.l0]at H;by_cases U:z<(o.length:Int)
     ·rw[if_pos U]at H;have aY:=decide_eq_true U;clear U;by_cases W:z>0
      ·rw[if_pos W]at H;have aZ:decide (0<z)=true:=decide_eq_true W;clear W;replace H:=gC H;obtain⟨an,H⟩:=H;have a8:=eq_true an;have a9:decide (D.size+3≤9223372036854775807)=true:=decide_eq_true an
       try have ba:(9223372036854775807<D.size+3)=False:=eq_false (Nat.not_lt.2 an)
       replace H:=gD H;obtain⟨bb,H⟩:=H;replace H:=bE H;obtain⟨X,bX,H⟩:=H;replace H:=gC H;obtain⟨aj,H⟩:=H;have bd:=eq_true aj;have be:decide ((D ++ (⟨#[32,44,32]⟩ :ByteArray)).size+X.size≤9223372036854775807)=true:=decide_eq_true aj
       try have bf:(9223372036854775807<(D ++ (⟨#[32,44,32]⟩ :ByteArray)).size+X.size)=False:=eq_false (Nat.not_lt.2 aj)
       try have cY:(9223372036854775807<D.size+3+X.size)=False:=eq_false (Nat.not_lt.2 (by have h_:=aj;simp only[ByteArray.size_append]at h_;exact h_))
       have H':=aM H;clear H;obtain⟨bg,bh,bi,bj,bk,bl,bm,bn⟩:=cz4 d;have ao:0≤(z:Int):=dA;have ap:z<(o.length:Int):=dA;obtain⟨cZ,bY,aJ⟩:=at_int HR0_0.out z ao ap;cases bY;replace aJ:=(bc HB aJ :);replace ao:=eq_true ao;replace ap:=eq_true ap
       go_wp2_with (first|((with_reducible refine gF 40 ?_);refine gX (some 30) Tryz.func40 (AQ.calls bX.out) ?_;intro c0 hb;replace d:=kB d hb;replace HB:=sB hb;clear hb))
       go_roundg k2
       case measure=>have:=HJ1.out;have:=HK2.out;omega
       case rel=>exact⟨((D ++ (⟨#[32,44,32]⟩ :ByteArray)) ++ X),(wrap64 (z+1)),rS,rS,H',⟨by have:=HJ1.out;have:=HK2.out;omega⟩,⟨mK d⟩,⟨cB⟩⟩
      ·rw[if_neg W]at H;have aZ:decide (0<z)=false:=decide_eq_false W;clear W;replace H:=gD H;obtain⟨bo,H⟩:=H;replace H:=bE H;obtain⟨ag,bZ,H⟩:=H;replace H:=gC H;obtain⟨aq,H⟩:=H;have bp:=eq_true aq;have bq:decide (D.size+ag.size≤9223372036854775807)=true:=decide_eq_true aq
       try have br:(9223372036854775807<D.size+ag.size)=False:=eq_false (Nat.not_lt.2 aq)
       have H':=aM H;clear H;obtain⟨bs,bu,bv,bw,bx,bz,bA,bB⟩:=cz4 d;have ar:0≤(z:Int):=dA;have au:z<(o.length:Int):=dA;obtain⟨c1,b0,aK⟩:=at_int HR0_0.out z ar au;cases b0;replace aK:=(bc HB aK :);replace ar:=eq_true ar;replace au:=eq_true au
       go_wp2_with (first|((with_reducible refine gF 40 ?_);refine gX (some 30) Tryz.func40 (AQ.calls bZ.out) ?_;intro c5 hb;replace d:=kB d hb;replace HB:=sB hb;clear hb))
       go_roundg k2
       case measure=>have:=HJ1.out;have:=HK2.out;omega
       case rel=>exact⟨(D ++ ag),(wrap64 (z+1)),rS,rS,H',⟨by have:=HJ1.out;have:=HK2.out;omega⟩,⟨mK d⟩,⟨cB⟩⟩
     ·rw[if_neg U]at H;have aY:=decide_eq_false U;clear U;have H':=aM H;clear H;obtain⟨bC,bD,bF,bG,bH,bI,bJ,bL⟩:=cz4 d;go_wp2
      go_loopg [3,5] k2 (fun kq ad b1 w'=> ∃ (u:ByteArray) (c:Int),ad= .string u∧b1= .int .i64 c∧Aside0 (AH.l1 kq u c o b v x=some r)∧Aside0 (kq≤k2)∧Aside0 (w'.heap[av]?=some (.cells #[(.slice aa o.length ab),(.slice ai b.length ac),.int .i64 v,.int .i64 x] 50 (0,0)))∧Aside0 (Below w.heap.size w w'))
      case atStart=>exact⟨(D),(0),rS,rS,H',⟨Nat.le_refl _⟩,⟨mK d⟩,⟨cB⟩⟩
      case round=>
       clear H';(try clear L);(try clear M);(try clear am);(try clear aI);(try clear ae);(try clear aF);(try clear aG);(try clear aH);(try clear U);(try clear aY);(try clear W);(try clear aZ);(try clear an);(try clear a8);(try clear a9);(try clear ba);(try clear b5);(try clear bb);(try clear aj);(try clear bd);(try clear be);(try clear bf);(try clear b8);(try clear bo);(try clear aq);(try clear bp);(try clear bq);(try clear br);(try clear bg bh bi bj);(try clear bs bu bv bw);(try clear bC bD bF bG);(try clear aw ax ay az);(try clear bk bl bm bn);(try clear bx bz bA bB);(try clear bH bI bJ bL);(try clear aA aB aC aD);(try clear aJ);(try clear aK);(try clear ao);(try clear ar);(try clear ap);(try clear au);obtain⟨u,c,rfl,rfl,HA,HK3,d,HB⟩:=hrel
       cases gk with
       | zero=>exact absurd HA.out (by simp[AH.l1])
       | succ k3=>
        have H:=HA.out;clear HA;simp only[AH.l1]at H;by_cases af:c<(b.length:Int)
        ·rw[if_pos af]at H;have bM:=decide_eq_true af;clear af;replace H:=gD H;obtain⟨b9,H⟩:=H;have HC23:=aM H;clear H;obtain⟨ca,cb,cc,cd,ce,cf,cg,ch⟩:=cz4 d;obtain⟨ci,cj,ck,cl,cm,cn,co,cp,cq,cr⟩:=b6 HB (at_T54 HR0_1.out c);cases cl
         go_upto_if 45 with(first|((with_reducible refine gN 6 ?_);refine boxZ 6 #[.int .i64 0,.int .i64 0,.int .i64 0,.int .i64 0,.int .i64 0,.int .i64 0] 54 ?_;intro E hg c6 hbox hb;have g:=aM hbox;have GW624:=gS hg;have GE624:=gS hg;replace HB:=sB hb;have cs:=nL hg d;have ct:=nG hg d;replace d:=kB d hb;clear hb hbox hg;have hnb26:=ct.out;have hnc26:=cs.out;obtain⟨cu,cv,cw,cx,cy,cz,cA,cD,cE,cF,cG,cI⟩:=cz6 g))
         (try simp only[Act.put,List.setIfInBounds_toArray,List.set_cons_zero,List.set_cons_succ])
         go_cut [3] (fun ad wc=> ∃ (kq:Nat) (n:ByteArray),ad= .string n∧Aside0 (AH.j3 kq n c o b v x ((rd_T54 b c).f0) ((rd_T54 b c).f1.f0) ((rd_T54 b c).f1.f1) ((rd_T54 b c).f2) ((rd_T54 b c).f3.f0) ((rd_T54 b c).f3.f1)=some r)∧Aside0 (kq≤k3)∧Aside0 (wc.heap[av]?=some (.cells #[(.slice aa o.length ab),(.slice (some ck) b.length ac),.int .i64 v,.int .i64 x] 50 (0,0)))∧Aside0 (wc.heap[E]?=some (.cells #[.int .i64 ((rd_T54 b c).f0),.int .i64 ((rd_T54 b c).f1.f0),.int .i64 ((rd_T54 b c).f1.f1),.int .i64 ((rd_T54 b c).f2),.int .i64 ((rd_T54 b c).f3.f0),.int .i64 ((rd_T54 b c).f3.f1)] 54 (0,0)))∧Aside0 (Below w.heap.size w wc))
         case first=>
          have H:=HC23.out;clear HC23;by_cases ak:c=0
          ·rw[if_pos ak]at H;obtain⟨al,bN⟩:=eT ak;clear ak
           (first|rw[al]|(simp only[i64_w,i32_w];rw[al])|skip)
           replace H:=gC H;obtain⟨aL,H⟩:=H;have cJ:=eq_true aL;have cL:decide (u.size+4≤9223372036854775807)=true:=decide_eq_true aL
           try have cM:(9223372036854775807<u.size+4)=False:=eq_false (Nat.not_lt.2 aL)
           have H':=aM H;clear H;go_wp2;go_meet
           case rel=>exact⟨_,(u ++ (⟨#[32,105,102,32]⟩ :ByteArray)),rS,H',⟨by have:=HJ1.out;have:=HK2.out;have:=HK3.out;first|omega|exact Nat.le_refl _⟩,⟨mK d⟩,⟨kS g _⟩,⟨cB⟩⟩
          ·rw[if_neg ak]at H;obtain⟨al,bN⟩:=eF ak
           (first|rw[al]|(simp only[i64_w,i32_w];rw[al])|skip)
           replace H:=gC H;obtain⟨aN,H⟩:=H;have cN:=eq_true aN;have cO:decide (u.size+5≤9223372036854775807)=true:=decide_eq_true aN
           try have cP:(9223372036854775807<u.size+5)=False:=eq_false (Nat.not_lt.2 aN)
           have H':=aM H;clear H;go_wp2;go_meet
           case rel=>exact⟨_,(u ++ (⟨#[32,97,110,100,32]⟩ :ByteArray)),rS,H',⟨by have:=HJ1.out;have:=HK2.out;have:=HK3.out;first|omega|exact Nat.le_refl _⟩,⟨mK d⟩,⟨kS g _⟩,⟨cB⟩⟩
         case rest=>
          clear HC23;(try clear L);(try clear M);(try clear am);(try clear aI);(try clear ae);(try clear aF);(try clear aG);(try clear aH);(try clear U);(try clear aY);(try clear W);(try clear aZ);(try clear an);(try clear a8);(try clear a9);(try clear ba);(try clear b5);(try clear bb);(try clear aj);(try clear bd);(try clear be);(try clear bf);(try clear b8);(try clear bo);(try clear aq);(try clear bp);(try clear bq);(try clear br);(try clear af);(try clear bM);(try clear c7);(try clear b9);(try clear ak);(try clear al);(try clear bN);(try clear aL);(try clear cJ);(try clear cL);(try clear cM);(try clear aN);(try clear cN);(try clear cO);(try clear cP);(try clear bg bh bi bj);(try clear bs bu bv bw);(try clear bC bD bF bG);(try clear ca cb cc cd);(try clear cu cv cw cx cy cz);(try clear aw ax ay az);(try clear bk bl bm bn);(try clear bx bz bA bB);(try clear bH bI bJ bL);(try clear ce cf cg ch);(try clear cA cD cE cF cG cI);(try clear aA aB aC aD);(try clear aJ);(try clear aK);(try clear cm cn co cp cq cr);(try clear ao);(try clear ar);(try clear ci);(try clear ap);(try clear au);(try clear cj);obtain⟨kq,n,rfl,HA,HJ22,d,g,HB⟩:=hcut
          cases kq with
          | zero=>exact absurd HA.out (by simp[AH.j3])
          | succ kj22=>
           have H:=HA.out;clear HA;simp only[AH.j3]at H;replace H:=gC H;obtain⟨a0,H⟩:=H;have c8:=eq_true a0;have c9:decide (n.size+4≤9223372036854775807)=true:=decide_eq_true a0
           try have da:(9223372036854775807<n.size+4)=False:=eq_false (Nat.not_lt.2 a0)
           replace H:=bE H;obtain⟨j,cQ,H⟩:=H;replace H:=gC H;obtain⟨aO,H⟩:=H;have db:=eq_true aO;have dc:decide ((n ++ (⟨#[97,114,103,32]⟩ :ByteArray)).size+j.size≤9223372036854775807)=true:=decide_eq_true aO
           try have dd:(9223372036854775807<(n ++ (⟨#[97,114,103,32]⟩ :ByteArray)).size+j.size)=False:=eq_false (Nat.not_lt.2 aO)
           try have de:(9223372036854775807<n.size+4+j.size)=False:=eq_false (Nat.not_lt.2 (by have h_:=aO;simp only[ByteArray.size_append]at h_;exact h_))
           replace H:=gC H;obtain⟨aP,H⟩:=H;have df:=eq_true aP;have dg:decide (((n ++ (⟨#[97,114,103,32]⟩ :ByteArray)) ++ j).size+3≤9223372036854775807)=true:=decide_eq_true aP
           try have dh:(9223372036854775807<((n ++ (⟨#[97,114,103,32]⟩ :ByteArray)) ++ j).size+3)=False:=eq_false (Nat.not_lt.2 aP)
           try have di:(9223372036854775807<n.size+4+j.size+3)=False:=eq_false (Nat.not_lt.2 (by have h_:=aP;simp only[ByteArray.size_append]at h_;exact h_))
           replace H:=bE H;obtain⟨q,cR,H⟩:=H;replace H:=gC H;obtain⟨aQ,H⟩:=H;have dj:=eq_true aQ;have dk:decide ((((n ++ (⟨#[97,114,103,32]⟩ :ByteArray)) ++ j) ++ (⟨#[32,38,32]⟩ :ByteArray)).size+q.size≤9223372036854775807)=true:=decide_eq_true aQ
           try have dl:(9223372036854775807<(((n ++ (⟨#[97,114,103,32]⟩ :ByteArray)) ++ j) ++ (⟨#[32,38,32]⟩ :ByteArray)).size+q.size)=False:=eq_false (Nat.not_lt.2 aQ)
           try have dm:(9223372036854775807<n.size+4+j.size+3+q.size)=False:=eq_false (Nat.not_lt.2 (by have h_:=aQ;simp only[ByteArray.size_append]at h_;exact h_))
           replace H:=gC H;obtain⟨aR,H⟩:=H;have dn:=eq_true aR;have dp:decide (((((n ++ (⟨#[97,114,103,32]⟩ :ByteArray)) ++ j) ++ (⟨#[32,38,32]⟩ :ByteArray)) ++ q).size+1≤9223372036854775807)=true:=decide_eq_true aR
           try have dq:(9223372036854775807<((((n ++ (⟨#[97,114,103,32]⟩ :ByteArray)) ++ j) ++ (⟨#[32,38,32]⟩ :ByteArray)) ++ q).size+1)=False:=eq_false (Nat.not_lt.2 aR)
           try have dr:(9223372036854775807<n.size+4+j.size+3+q.size+1)=False:=eq_false (Nat.not_lt.2 (by have h_:=aR;simp only[ByteArray.size_append]at h_;exact h_))
           replace H:=bE H;obtain⟨t,cS,H⟩:=H;replace H:=gD H;obtain⟨ds,H⟩:=H;replace H:=gD H;obtain⟨dt,H⟩:=H;replace H:=gC H;obtain⟨aS,H⟩:=H;have du:=eq_true aS;have dv:decide ((((((n ++ (⟨#[97,114,103,32]⟩ :ByteArray)) ++ j) ++ (⟨#[32,38,32]⟩ :ByteArray)) ++ q) ++ (⟨#[32]⟩ :ByteArray)).size+(rdOf ByteArray.empty t ((rd_T54 b c).f2)).size≤9223372036854775807)=true:=decide_eq_true aS
           try have dw:(9223372036854775807<(((((n ++ (⟨#[97,114,103,32]⟩ :ByteArray)) ++ j) ++ (⟨#[32,38,32]⟩ :ByteArray)) ++ q) ++ (⟨#[32]⟩ :ByteArray)).size+(rdOf ByteArray.empty t ((rd_T54 b c).f2)).size)=False:=eq_false (Nat.not_lt.2 aS)
           try have dx:(9223372036854775807<n.size+4+j.size+3+q.size+1+(rdOf ByteArray.empty t ((rd_T54 b c).f2)).size)=False:=eq_false (Nat.not_lt.2 (by have h_:=aS;simp only[ByteArray.size_append]at h_;exact h_))
           replace H:=gC H;obtain⟨aT,H⟩:=H;have dy:=eq_true aT;have dz:decide (((((((n ++ (⟨#[97,114,103,32]⟩ :ByteArray)) ++ j) ++ (⟨#[32,38,32]⟩ :ByteArray)) ++ q) ++ (⟨#[32]⟩ :ByteArray)) ++ (rdOf ByteArray.empty t ((rd_T54 b c).f2))).size+1≤9223372036854775807)=true:=decide_eq_true aT
           try have dC:(9223372036854775807<((((((n ++ (⟨#[97,114,103,32]⟩ :ByteArray)) ++ j) ++ (⟨#[32,38,32]⟩ :ByteArray)) ++ q) ++ (⟨#[32]⟩ :ByteArray)) ++ (rdOf ByteArray.empty t ((rd_T54 b c).f2))).size+1)=False:=eq_false (Nat.not_lt.2 aT)
           try have dD:(9223372036854775807<n.size+4+j.size+3+q.size+1+(rdOf ByteArray.empty t ((rd_T54 b c).f2)).size+1)=False:=eq_false (Nat.not_lt.2 (by have h_:=aT;simp only[ByteArray.size_append]at h_;exact h_))
           replace H:=bE H;obtain⟨Y,cT,H⟩:=H;replace H:=gC H;obtain⟨aU,H⟩:=H;have dE:=eq_true aU;have dF:decide ((((((((n ++ (⟨#[97,114,103,32]⟩ :ByteArray)) ++ j) ++ (⟨#[32,38,32]⟩ :ByteArray)) ++ q) ++ (⟨#[32]⟩ :ByteArray)) ++ (rdOf ByteArray.empty t ((rd_T54 b c).f2))) ++ (⟨#[32]⟩ :ByteArray)).size+Y.size≤9223372036854775807)=true:=decide_eq_true aU
           try have dG:(9223372036854775807<(((((((n ++ (⟨#[97,114,103,32]⟩ :ByteArray)) ++ j) ++ (⟨#[32,38,32]⟩ :ByteArray)) ++ q) ++ (⟨#[32]⟩ :ByteArray)) ++ (rdOf ByteArray.empty t ((rd_T54 b c).f2))) ++ (⟨#[32]⟩ :ByteArray)).size+Y.size)=False:=eq_false (Nat.not_lt.2 aU)
           try have dH:(9223372036854775807<n.size+4+j.size+3+q.size+1+(rdOf ByteArray.empty t ((rd_T54 b c).f2)).size+1+Y.size)=False:=eq_false (Nat.not_lt.2 (by have h_:=aU;simp only[ByteArray.size_append]at h_;exact h_))
           have H':=aM H;clear H
           try go_wp2
           replace d:=dB d;replace g:=dB g;replace HB:=dW HB
           refine sZ 24 (fun w'=>w'.cell? ⟨E,0,none⟩=some (.int .i64 ((rd_T54 b c).f0))∧w'.cell? ⟨E,1,none⟩=some (.int .i64 ((rd_T54 b c).f1.f0))∧w'.cell? ⟨E,2,none⟩=some (.int .i64 ((rd_T54 b c).f1.f1))∧w'.cell? ⟨E,3,none⟩=some (.int .i64 ((rd_T54 b c).f2))∧w'.cell? ⟨E,4,none⟩=some (.int .i64 ((rd_T54 b c).f3.f0))∧w'.cell? ⟨E,5,none⟩=some (.int .i64 ((rd_T54 b c).f3.f1))) AH.tab17 AH.bits17 ⟨(blk_cell g.out 0).trans rfl,(blk_cell g.out 1).trans rfl,(blk_cell g.out 2).trans rfl,(blk_cell g.out 3).trans rfl,(blk_cell g.out 4).trans rfl,(blk_cell g.out 5).trans rfl⟩ fun HT_ HW_ hHeld=>?_
           generalize wc.drew=dI at d g HB hHeld ⊢;refine pZ 0 50 1 ?_;refine pZ 1 51 3 ?_;refine pZ 2 52 7 ?_;refine pZ 7 57 135 ?_;refine pZ 13 63 8327 ?_;refine pZ 19 69 532615 ?_;refine tZ 3 53 532623 (y:=q16x0a) (h:=?_);refine tZ 8 58 532879 (y:=q16x0a) (h:=?_);refine tZ 14 64 549263 (y:=q16x0a) (h:=?_);refine tZ 20 70 1597839 (y:=q16x0a) (h:=?_)
           refine oZ 4 54 1597855 fun K hK=>?_
           refine eX Tryz.func40 (AQ.calls cQ.out) ?_
           intro dJ hb;replace d:=kB d hb;replace g:=kB g hb;replace HB:=sB hb;clear hb
           refine hK.out _ _ qh16x0a (fun hHeld=>?_)
           clear hK K;refine normZ (some 54) ?_
           refine pZ 5 55 1597887 ?_;refine pZ 6 56 1597951 ?_
           refine oZ 9 59 1598463 fun K hK=>?_
           refine eX Tryz.func79 (A3.calls cR.out) ?_
           intro dK hb;replace d:=kB d hb;replace g:=kB g hb;replace HB:=sB hb;clear hb
           refine hK.out _ _ qh16x0a (fun hHeld=>?_)
           clear hK K;refine normZ (some 59) ?_
           refine pZ 10 60 1599487 ?_;refine pZ 11 61 1601535 ?_
           refine oZ 12 62 1605631 fun K hK=>?_
           refine eY Tryz.func80 (Bn.calls cS.out) ?_
           rintro dL dM ⟨bO,hb⟩;have aV:=rL bO;replace d:=kB d hb;replace g:=kB g hb;replace HB:=sB hb;(try clear hb);(try clear bO);obtain⟨dN,dO,bP⟩:=R_slice aV.out
           (first|subst bP|(injection bP with f1_ f2_ f3_;have f4_:=f1_.symm;have f5_:=f3_.symm;clear f1_ f2_ f3_;subst f4_;subst f5_))
           have a1:0≤(((rd_T54 b c).f2):Int):=dA;have a2:((rd_T54 b c).f2)<(t.length:Int):=dA;obtain⟨cU,cV,bQ⟩:=at_string (R_reads' aV.out).2.2 ((rd_T54 b c).f2) a1 a2;cases cV;replace a1:=eq_true a1;replace a2:=eq_true a2
           refine hK.out _ _ qh16x0a (fun hHeld=>?_)
           clear hK K;refine normZ (some 62) ?_
           refine reS_ (fun w'=>w'.cell? ⟨E,0,none⟩=some (.int .i64 ((rd_T54 b c).f0))∧w'.cell? ⟨E,1,none⟩=some (.int .i64 ((rd_T54 b c).f1.f0))∧w'.cell? ⟨E,2,none⟩=some (.int .i64 ((rd_T54 b c).f1.f1))∧w'.cell? ⟨E,3,none⟩=some (.int .i64 ((rd_T54 b c).f2))∧w'.cell? ⟨E,4,none⟩=some (.int .i64 ((rd_T54 b c).f3.f0))∧w'.cell? ⟨E,5,none⟩=some (.int .i64 ((rd_T54 b c).f3.f1))∧w'.cell? (cU.add (((rd_T54 b c).f2)).toNat)=some (.string (rdOf ByteArray.empty t ((rd_T54 b c).f2)))) (fun w' h=>⟨h.1,h.2.1,h.2.2.1,h.2.2.2.1,h.2.2.2.2.1,h.2.2.2.2.2.1⟩) ⟨hHeld.1,hHeld.2.1,hHeld.2.2.1,hHeld.2.2.2.1,hHeld.2.2.2.2.1,hHeld.2.2.2.2.2,bQ⟩ ?_;replace hHeld:=(⟨hHeld.1,hHeld.2.1,hHeld.2.2.1,hHeld.2.2.2.1,hHeld.2.2.2.2.1,hHeld.2.2.2.2.2,bQ⟩ :_∧_∧_∧_∧_∧_∧_)
           refine pZ 15 65 1638399 ?_;refine tZ 16 66 1703935 (y:=q16x0) (h:=?_);refine pZ 17 67 1835007 ?_;refine pZ 18 68 2097151 ?_
           refine oZ 21 71 4194303 fun K hK=>?_
           refine goE Tryz.func79 #[.agg #[.int .i64 ((rd_T54 b c).f3.f0),.int .i64 ((rd_T54 b c).f3.f1)]] ?_
           with_reducible refine(A3.calls cT.out).mono ?_;rintro e dP ⟨rfl,hb⟩;have HS6_:=(hb.cell (World.block_lt_of_cell? _ _ (hHeld.2.2.2.2.2.2))).trans (hHeld.2.2.2.2.2.2);refine⟨_,rfl,?_⟩;replace aV:=rB aV hb;replace d:=kB d hb;replace g:=kB g hb;replace HB:=sB hb;clear hb
           refine hK.out _ _ qh16x0 (fun hHeld=>?_)
           clear hK K;refine normZ (some 71) ?_
           refine pZ 22 72 8388607 ?_;refine pZ 23 3 16777215 ?_
           refine done_ (done_of HT_.out (by kernel_rfl)) ?_
           try go_wp2
           go_roundg kj22
           case measure=>have:=HJ1.out;have:=HK2.out;have:=HK3.out;have:=HJ22.out;omega
           case rel=>exact⟨((((((((n ++ (⟨#[97,114,103,32]⟩ :ByteArray)) ++ j) ++ (⟨#[32,38,32]⟩ :ByteArray)) ++ q) ++ (⟨#[32]⟩ :ByteArray)) ++ (rdOf ByteArray.empty t ((rd_T54 b c).f2))) ++ (⟨#[32]⟩ :ByteArray)) ++ Y),(wrap64 (c+1)),rS,rS,H',⟨by have:=HJ1.out;have:=HK2.out;have:=HK3.out;have:=HJ22.out;omega⟩,⟨mK d⟩,⟨cB⟩⟩
        ·rw[if_neg af]at H;have bM:=decide_eq_false af;clear af;replace H:=gC H;obtain⟨a3,H⟩:=H;have dQ:=eq_true a3;have dS:decide (u.size+4≤9223372036854775807)=true:=decide_eq_true a3
         try have dT:(9223372036854775807<u.size+4)=False:=eq_false (Nat.not_lt.2 a3)
         replace H:=bE H;obtain⟨J,cW,H⟩:=H;replace H:=gC H;obtain⟨aW,H⟩:=H;have dU:=eq_true aW;have dV:decide ((u ++ (⟨#[32,100,111,32]⟩ :ByteArray)).size+J.size≤9223372036854775807)=true:=decide_eq_true aW
         try have dX:(9223372036854775807<(u ++ (⟨#[32,100,111,32]⟩ :ByteArray)).size+J.size)=False:=eq_false (Nat.not_lt.2 aW)
         try have dY:(9223372036854775807<u.size+4+J.size)=False:=eq_false (Nat.not_lt.2 (by have h_:=aW;simp only[ByteArray.size_append]at h_;exact h_))
         replace H:=gC H;obtain⟨aX,H⟩:=H;have dZ:=eq_true aX;have d0:decide (((u ++ (⟨#[32,100,111,32]⟩ :ByteArray)) ++ J).size+2≤9223372036854775807)=true:=decide_eq_true aX
         try have d1:(9223372036854775807<((u ++ (⟨#[32,100,111,32]⟩ :ByteArray)) ++ J).size+2)=False:=eq_false (Nat.not_lt.2 aX)
         try have d2:(9223372036854775807<u.size+4+J.size+2)=False:=eq_false (Nat.not_lt.2 (by have h_:=aX;simp only[ByteArray.size_append]at h_;exact h_))
         obtain rfl:=Option.some.inj H;obtain⟨d3,d4,d5,d6,d7,d8,d9,ea⟩:=cz4 d
         go_wp2_with (first|((with_reducible refine gF 41 ?_);refine gX (some 79) Tryz.func41 (BX.calls cW.out) ?_;intro eb hb;replace d:=kB d hb;replace HB:=sB hb;clear hb))
         go_ret;exact⟨rE,cB⟩
theorem qh17x0 {P:Prop} (h:P:=by exact⟨(blk_cell b.out 0).trans rfl,(blk_cell b.out 1).trans rfl,(blk_cell b.out 2).trans rfl,(blk_cell b.out 3).trans rfl⟩):P:=h
def Ac.l0:Nat→ByteArray→Int→Int→Int→Int→List (S50)→Option (ByteArray×Bool)
  | 0,_,_,_,_,_,_=>none
  | k+1,W,l,a8,a9,ba,A=>if l<(A.length:Int)then(if W.size+1≤9223372036854775807 then(if 0≤l then((AH.f k ((rd_T50 A l).f0) ((rd_T50 A l).f1) ((rd_T50 A l).f2) ((rd_T50 A l).f3)).bind fun x=>(if(W ++ (⟨#[32]⟩ :ByteArray)).size+x.size≤9223372036854775807 then(Ac.l0 k ((W ++ (⟨#[32]⟩ :ByteArray)) ++ x) (wrap64 (l+1)) a8 a9 ba A)else(none)))else(none))else(none))else(if(W.size:Int)>1200 then(some ((⟨#[]⟩ :ByteArray),false))else(some (W,true)))
def Ac.f (k:Nat) (m:Int) (n:Int) (o:Int) (d:List (S50)):Option (ByteArray×Bool):=(AZ.f k m n o d).bind fun ay=>(if ay=true then((AQ.f k m).bind fun c=>(if 5+c.size≤9223372036854775807 then(if((⟨#[97,114,99,104,32]⟩ :ByteArray) ++ c).size+11≤9223372036854775807 then((BX.f k n o).bind fun p=>(if(((⟨#[97,114,99,104,32]⟩ :ByteArray) ++ c) ++ (⟨#[32,59,32,100,101,102,97,117,108,116,32]⟩ :ByteArray)).size+p.size≤9223372036854775807 then(if((((⟨#[97,114,99,104,32]⟩ :ByteArray) ++ c) ++ (⟨#[32,59,32,100,101,102,97,117,108,116,32]⟩ :ByteArray)) ++ p).size+2≤9223372036854775807 then(Ac.l0 k (((((⟨#[97,114,99,104,32]⟩ :ByteArray) ++ c) ++ (⟨#[32,59,32,100,101,102,97,117,108,116,32]⟩ :ByteArray)) ++ p) ++ (⟨#[32,59]⟩ :ByteArray)) 0 m n o d)else(none))else(none)))else(none))else(none)))else(some ((⟨#[]⟩ :ByteArray),false)))
def Ac.T3:Bool×List (List Nat×List Nat):=(true,[([],[]),([0],[0]),([1],[1]),([2],[2]),([3],[3]),([],[]),([5],[5]),([],[]),([7],[7]),([6,8,2],[6,8]),([4,9],[4,9]),([10],[10]),([11,9,0,1,2,3,4,5,6,7,8,9,10,11],[11])])
def Ac.B3:List Nat:=[0,1,3,7,15,0,32,0,128,487,1023,2047,4095]
theorem Ac.tab3:rtab .any (opsOf Tryz.f12 3)=Ac.T3:=by kernel_rfl
theorem Ac.bits3:waitsOk Ac.T3.2 Ac.B3=true:=by kernel_rfl
theorem q17x0 {P:Prop} (h:P:=by
 rintro w' ⟨s0,s1,s2,s3⟩
 go_simp
 with_reducible rfl):P:=h
theorem Ac.calls {k:Nat}{m:Int}{n:Int}{o:Int}{D:Option Addr}{E:Nat}{d:List (S50)}{r1:ByteArray}{r2:Bool}{w:World}(h:Ac.f k m n o d=some (r1,r2))(aQ:Kd.C k50 w D d.length d)(aR:d.length≤E) :
 Calls Tryz.prog 12 #[.agg #[.int .i64 m,.int .i64 n,.int .i64 o,.slice D d.length E]] w fun e w'=>e= .returned (.tuple #[.string r1,.bool r2])∧Below w.heap.size w w':=by
 have hu26:=Tryz.underlying26;have hu50:=Tryz.underlying50;have HR0_3:=aM aQ;have HC0_3:=aM aR;clear aQ aR;have HB:=rW w
 unfold Ac.f at h;have H:=h
 clear h;replace H:=bE H;obtain⟨ay,X,H⟩:=H;by_cases r:ay=true
 ·subst r;replace H:=iT H;replace H:=bE H;obtain⟨c,az,H⟩:=H;replace H:=gC H;obtain⟨ao,H⟩:=H;have aT:=eq_true ao;have bb:decide (5+c.size≤9223372036854775807)=true:=decide_eq_true ao
  try have bd:(9223372036854775807<5+c.size)=False:=eq_false (Nat.not_lt.2 ao)
  replace H:=gC H;obtain⟨Y,H⟩:=H;have be:=eq_true Y;have bf:decide (((⟨#[97,114,99,104,32]⟩ :ByteArray) ++ c).size+11≤9223372036854775807)=true:=decide_eq_true Y
  try have bg:(9223372036854775807<((⟨#[97,114,99,104,32]⟩ :ByteArray) ++ c).size+11)=False:=eq_false (Nat.not_lt.2 Y)
  try have ck:(9223372036854775807<5+c.size+11)=False:=eq_false (Nat.not_lt.2 (by have h_:=Y;simp only[ByteArray.size_append]at h_;exact h_))
  replace H:=bE H;obtain⟨p,bh,H⟩:=H;replace H:=gC H;obtain⟨aa,H⟩:=H;have bi:=eq_true aa;have bj:decide ((((⟨#[97,114,99,104,32]⟩ :ByteArray) ++ c) ++ (⟨#[32,59,32,100,101,102,97,117,108,116,32]⟩ :ByteArray)).size+p.size≤9223372036854775807)=true:=decide_eq_true aa
  try have bk:(9223372036854775807<(((⟨#[97,114,99,104,32]⟩ :ByteArray) ++ c) ++ (⟨#[32,59,32,100,101,102,97,117,108,116,32]⟩ :ByteArray)).size+p.size)=False:=eq_false (Nat.not_lt.2 aa)
  try have cl:(9223372036854775807<5+c.size+11+p.size)=False:=eq_false (Nat.not_lt.2 (by have h_:=aa;simp only[ByteArray.size_append]at h_;exact h_))
  replace H:=gC H;obtain⟨s,H⟩:=H;have bl:=eq_true s;have bm:decide (((((⟨#[97,114,99,104,32]⟩ :ByteArray) ++ c) ++ (⟨#[32,59,32,100,101,102,97,117,108,116,32]⟩ :ByteArray)) ++ p).size+2≤9223372036854775807)=true:=decide_eq_true s
  try have bn:(9223372036854775807<((((⟨#[97,114,99,104,32]⟩ :ByteArray) ++ c) ++ (⟨#[32,59,32,100,101,102,97,117,108,116,32]⟩ :ByteArray)) ++ p).size+2)=False:=eq_false (Nat.not_lt.2 s)
  try have cm:(9223372036854775807<5+c.size+11+p.size+2)=False:=eq_false (Nat.not_lt.2 (by have h_:=s;simp only[ByteArray.size_append]at h_;exact h_))
  have H':=aM H;clear H;go_enter Tryz.func12,Tryz.ntmps12
  try go_wp2_with (first|((with_reducible refine gN 1 ?_);refine boxZ 1 #[.int .i64 m,.int .i64 n,.int .i64 o,.slice D d.length E] 26 ?_;intro G hg bo hbox hb;have b:=aM hbox;have GW632:=gS hg;have GE632:=gS hg;replace HB:=sB hb;clear hb hbox hg;obtain⟨bp,bq,br,bs,bu,bv,bw,bx⟩:=cz4 b)|((with_reducible refine gF 36 ?_);refine gX (some 7) Tryz.func36 (AZ.calls X.out (cH HR0_3) HC0_3.out) ?_;intro aU hb;replace b:=kB b hb;replace HB:=sB hb;clear hb))
  replace b:=dB b;replace HB:=dW HB
  refine sZ 13 (fun w'=>w'.cell? ⟨G,0,none⟩=some (.int .i64 m)∧w'.cell? ⟨G,1,none⟩=some (.int .i64 n)∧w'.cell? ⟨G,2,none⟩=some (.int .i64 o)∧w'.cell? ⟨G,3,none⟩=some (.slice D d.length E)) Ac.tab3 Ac.bits3 qh17x0 fun HT_ HW_ hHeld=>?_
  generalize aU.drew=bz at b HB hHeld ⊢;refine pZ 0 9 1 ?_;refine pZ 5 14 33 ?_;refine pZ 7 16 161 ?_;refine tZ 1 10 163 (y:=q17x0) (h:=?_);refine tZ 6 15 227 (y:=q17x0) (h:=?_);refine tZ 8 17 483 (y:=q17x0) (h:=?_)
  refine oZ 2 11 487 fun K hK=>?_
  refine eX Tryz.func40 (AQ.calls az.out) ?_
  intro cn hb;replace b:=kB b hb;replace HB:=sB hb;clear hb
  refine hK.out _ _ qh17x0 (fun hHeld=>?_)
  clear hK K;refine normZ (some 11) ?_
  refine pZ 3 12 495 ?_;refine pZ 4 13 511 ?_
  refine oZ 9 18 1023 fun K hK=>?_
  refine eX Tryz.func41 (BX.calls bh.out) ?_
  intro bA hb;replace b:=kB b hb;replace HB:=sB hb;clear hb
  refine hK.out _ _ qh17x0 (fun hHeld=>?_)
  clear hK K;refine normZ (some 18) ?_
  refine pZ 10 19 2047 ?_;refine pZ 11 20 4095 ?_;refine pZ 12 4 8191 ?_
  refine done_ (done_of HT_.out (by kernel_rfl)) ?_
  try go_wp2
  go_loopg [4,5] k (fun kq bB aA w'=> ∃ (i:ByteArray) (t:Int),bB= .string i∧aA= .int .i64 t∧Aside0 (Ac.l0 kq i t m n o d=some (r1,r2))∧Aside0 (kq≤k)∧Aside0 (w'.heap[G]?=some (.cells #[.int .i64 m,.int .i64 n,.int .i64 o,(.slice D d.length E)] 26 (0,0)))∧Aside0 (Below w.heap.size w w'))
  case atStart=>exact⟨(((((⟨#[97,114,99,104,32]⟩ :ByteArray) ++ c) ++ (⟨#[32,59,32,100,101,102,97,117,108,116,32]⟩ :ByteArray)) ++ p) ++ (⟨#[32,59]⟩ :ByteArray)),(0),rS,rS,H',⟨Nat.le_refl _⟩,⟨mK b⟩,⟨cB⟩⟩
  case round=>
   clear H';(try clear r);(try clear ao);(try clear aT);(try clear bb);(try clear bd);(try clear Y);(try clear be);(try clear bf);(try clear bg);(try clear aa);(try clear bi);(try clear bj);(try clear bk);(try clear s);(try clear bl);(try clear bm);(try clear bn);(try clear bp bq br bs);(try clear bu bv bw bx);obtain⟨i,t,rfl,rfl,HA,HK1,b,HB⟩:=hrel
   cases gk with
   | zero=>exact absurd HA.out (by simp[Ac.l0])
   | succ k1=>
    have H:=HA.out;clear HA;simp only[Ac.l0]at H;by_cases I:t<(d.length:Int)
    ·rw[if_pos I]at H;have bC:=decide_eq_true I;clear I;replace H:=gC H;obtain⟨aB,H⟩:=H;have co:=eq_true aB;have cp:decide (i.size+1≤9223372036854775807)=true:=decide_eq_true aB
     try have cq:(9223372036854775807<i.size+1)=False:=eq_false (Nat.not_lt.2 aB)
     replace H:=gD H;obtain⟨cr,H⟩:=H;replace H:=bE H;obtain⟨x,bD,H⟩:=H;replace H:=gC H;obtain⟨ap,H⟩:=H;have cs:=eq_true ap;have ct:decide ((i ++ (⟨#[32]⟩ :ByteArray)).size+x.size≤9223372036854775807)=true:=decide_eq_true ap
     try have cu:(9223372036854775807<(i ++ (⟨#[32]⟩ :ByteArray)).size+x.size)=False:=eq_false (Nat.not_lt.2 ap)
     try have cv:(9223372036854775807<i.size+1+x.size)=False:=eq_false (Nat.not_lt.2 (by have h_:=ap;simp only[ByteArray.size_append]at h_;exact h_))
     have H':=aM H;clear H;obtain⟨cw,cx,cy,cz,cA,cD,cE,cF⟩:=cz4 b;have aC:0≤(t:Int):=dA;have aD:t<(d.length:Int):=dA;obtain⟨cG,cI,cJ,cL,cM,bF,aV,aW,aX,aY,hl636_0,hi636_0,hl636_1,hi636_1⟩:=at_T50 HR0_3.out t aC aD;cases bF;replace aV:=(bc HB aV :);replace aW:=(bc HB aW :);replace aX:=(bc HB aX :);replace aY:=(bc HB aY :);have HR636_0:=aM hi636_0;have HC636_0:=aM hl636_0;clear hi636_0 hl636_0;have HR636_1:=aM hi636_1;have HC636_1:=aM hl636_1;clear hi636_1 hl636_1;replace aC:=eq_true aC;replace aD:=eq_true aD
     go_wp2_with (first|((with_reducible refine gF 42 ?_);refine gX (some 35) Tryz.func42 (AH.calls bD.out (cH HR636_0) HC636_0.out (cH HR636_1) HC636_1.out) ?_;intro cN hb;replace b:=kB b hb;replace HB:=sB hb;clear hb))
     go_roundg k1
     case measure=>exact oK
     case rel=>exact⟨((i ++ (⟨#[32]⟩ :ByteArray)) ++ x),(wrap64 (t+1)),rS,rS,H',⟨oK⟩,⟨mK b⟩,⟨cB⟩⟩
    ·rw[if_neg I]at H;have bC:=decide_eq_false I;clear I;by_cases J:(i.size:Int)>1200
     ·rw[if_pos J]at H;have bG:decide (1200<(i.size:Int))=true:=decide_eq_true J
      have bH:decide (1200<i.size)=true:=decide_eq_true (by omega)
      clear J;simp only[Option.some.injEq,Prod.mk.injEq]at H;obtain⟨rfl,rfl⟩:=H;obtain⟨cO,cP,cQ,cR,cS,cT,cU,cV⟩:=cz4 b;go_wp2;go_ret2;exact⟨rE,cB⟩
     ·rw[if_neg J]at H;have bG:decide (1200<(i.size:Int))=false:=decide_eq_false J
      have bH:decide (1200<i.size)=false:=decide_eq_false (by omega)
      clear J;simp only[Option.some.injEq,Prod.mk.injEq]at H;obtain⟨rfl,rfl⟩:=H;obtain⟨cW,cX,cY,cZ,c0,c1,c3,c4⟩:=cz4 b;go_wp2;go_ret2;exact⟨rE,cB⟩
 ·replace r:=Bool.eq_false_iff.mpr r;subst r;replace H:=iF H;simp only[Option.some.injEq,Prod.mk.injEq]at H;obtain⟨rfl,rfl⟩:=H;go_enter Tryz.func12,Tryz.ntmps12
  go_wp2_with (first|((with_reducible refine gN 1 ?_);refine boxZ 1 #[.int .i64 m,.int .i64 n,.int .i64 o,.slice D d.length E] 26 ?_;intro G hg c5 hbox hb;have b:=aM hbox;have GW632:=gS hg;have GE632:=gS hg;replace HB:=sB hb;clear hb hbox hg;obtain⟨c6,c7,c8,c9,da,db,dc,dd⟩:=cz4 b)|((with_reducible refine gF 36 ?_);refine gX (some 7) Tryz.func36 (AZ.calls X.out (cH HR0_3) HC0_3.out) ?_;intro de hb;replace b:=kB b hb;replace HB:=sB hb;clear hb))
  go_ret2;exact⟨rE,cB⟩
def Bc.f (s0_0:List Int) (s0_1:Int) (s0_2:Int) (j:List ByteArray):Option (ByteArray×Int×Int):=(AG.f s0_0 s0_1 s0_2 (j.length:Int)).bind fun ab=>(if 0≤ab.1 then(if ab.1<(j.length:Int)then(some (rdOf ByteArray.empty j ab.1,ab.2.1,ab.2.2))else(none))else(none))
theorem q17x1 {P:Prop} (h:P:=by repeat(first|(with_reducible first|exact HI0.out|apply IsS84.alloc|apply IsS84.drewN|apply IsS84.drew|apply IsS84.set_1|apply IsS84.set_2)|exact HI0.out)):P:=h
theorem q17x2 {P:Prop} (h:P:=by repeat(first|(with_reducible first|exact HB.out|apply below_alloc|apply pw_below_drewN|apply below_drew1|refine below_set ?_ (IsS84.ge HI0.out))|exact HB.out)):P:=h
theorem Bc.calls (g:Nat) (s0_0:List Int) (s0_1:Int) (s0_2:Int) (aE:Option Addr) (aZ:Nat) (j:List ByteArray) (r1:ByteArray) (r2:Int) (r3:Int) (a w:World) (hI:IsS84 a w g s0_0 s0_1 s0_2) (hB:Below a.heap.size a w) (a0:Kd.C Kd.string w aE j.length j) (a1:j.length≤aZ) (hf1: ∀ ad,aE=some ad→0<j.length→ad.block≠g) (h:Bc.f s0_0 s0_1 s0_2 j=some (r1,r2,r3)) :
 Calls Tryz.prog 65 #[.pointer (some ⟨g,0,none⟩),.slice aE j.length aZ] w fun e w'=>e= .returned (.string r1)∧IsS84 a w' g s0_0 r2 r3∧Below a.heap.size a w'∧KeepBut w w' g none:=by
 have HR1:=aM a0;have HC1:=aM a1;clear a0 a1;have HI0:=aM hI;have HK:=aM (KeepBut.refl w g none);have HL:=aM hB.size;clear hI;have HW0:=aM hB.size;have HB:=aM hB;clear hB
 unfold Bc.f at h;have H:=h
 clear h;replace H:=bE H;obtain⟨⟨aq,bI,bJ⟩,bL,H⟩:=H;(try dsimp only at H);replace H:=gD H;obtain⟨u,H⟩:=H;replace H:=gD H;obtain⟨aT,H⟩:=H;simp only[Option.some.injEq,Prod.mk.injEq]at H;obtain⟨rfl,rfl,rfl⟩:=H;go_enter Tryz.func65,Tryz.ntmps65
 go_wp2_with (first|((with_reducible refine gF 28 ?_);refine gX (some 9) Tryz.func28 (AG.calls g s0_0 s0_1 s0_2 (j.length:Int) aq bI bJ a _ q17x1 q17x2 bL.out) ?_;rintro bM ⟨hi,hb,hk⟩;replace HK:=tK (w:=w) hk;replace HB:=aM hb;replace HI0:=aM hi;clear hb hk hi;have aG:0≤(aq:Int):=dA;have aH:aq<(j.length:Int):=dA;obtain⟨bN,bO,a2⟩:=at_string HR1.out aq aG aH;cases bO;replace a2:=keep_cell HK.out a2 (by first|(rw[add_block];exact hf1 _ rfl (by omega))|exact hf1 _ rfl (by omega)|exact hf1 bN rfl (by omega));replace aG:=eq_true aG;replace aH:=eq_true aH))
 go_ret;exact⟨rE,q17x1,q17x2,cK⟩
def BH.f (k:Nat) (s0_0:List Int) (s0_1:Int) (s0_2:Int):Option (ByteArray×Int×Int):=(A7.f s0_0 s0_1 s0_2 3).bind fun ac=>(if ac.1=true then((Bc.f s0_0 ac.2.1 ac.2.2 (([(⟨#[97,114,99,104,32,54,50,32,59,32,100,101,102,97,117,108,116,32,97,108,108,111,119,32,59]⟩ :ByteArray),(⟨#[97,114,99,104,32,54,50,32,59,32,100,101,102,97,117,108,116,32,97,108,108,111,119,32,59,32,111,110,32,114,101,97,100,32,44,32,119,114,105,116,101,32,100,111,32,108,111,103,32,59]⟩ :ByteArray),(⟨#[97,114,99,104,32,54,50,59,100,101,102,97,117,108,116,32,107,105,108,108,59,111,110,32,97,110,121,32,105,102,32,97,114,103,32,48,32,38,32,50,53,53,32,61,61,32,55,32,100,111,32,101,114,114,32,49,51,59]⟩ :ByteArray),(⟨#[97,114,99,104,32,54,50,32,59,32,100,101,102,97,117,108,116,32,97,108,108,111,119,32,59,32,111,110,32,114,101,97,100,32,44,32,114,101,97,100,32,100,111,32,108,111,103,32,59]⟩ :ByteArray),(⟨#[97,114,99,104,32,54,50,32,59,32,100,101,102,97,117,108,116,32,119,104,97,116,32,59]⟩ :ByteArray),(⟨#[97,114,99,104,32,54,50,32,59,32,100,101,102,97,117,108,116,32,97,108,108,111,119,32,59,32,111,110,32,97,110,121,32,105,102,32,97,114,103,32,51,32,61,61,32,49,32,100,111,32,108,111,103,32,59]⟩ :ByteArray),(⟨#[97,114,99,104,32,54,50,32,59,32,100,101,102,97,117,108,116,32,97,108,108,111,119,32,59,32,111,110,32,102,111,114,107,32,105,102,32,97,114,103,32,49,32,62,61,32,49,32,58,32,48,32,97,110,100,32,97,114,103,32,50,32,33,61,32,53,32,100,111,32,116,114,97,112,32,59]⟩ :ByteArray),(⟨#[100,101,102,97,117,108,116,32,97,108,108,111,119,32,59]⟩ :ByteArray),(⟨#[97,114,99,104,32,54,50,32,59,32,100,101,102,97,117,108,116,32,97,108,108,111,119,32,59,32,111,110,32,97,110,121,32,100,111,32,108,111,103]⟩ :ByteArray)] :List ByteArray))).bind fun aI=>(some (aI.1,aI.2.1,aI.2.2)))else((AN.f k s0_0 ac.2.1 ac.2.2).bind fun L=>((Ac.f k L.1 L.2.1 L.2.2.1 L.2.2.2.1).bind fun bP=>(some (bP.1,L.2.2.2.2.1,L.2.2.2.2.2)))))
theorem BH.calls (k:Nat) (g:Nat) (s0_0:List Int) (s0_1:Int) (s0_2:Int) (r1:ByteArray) (r2:Int) (r3:Int) (a w:World) (hI:IsS84 a w g s0_0 s0_1 s0_2) (hB:Below a.heap.size a w) (h:BH.f k s0_0 s0_1 s0_2=some (r1,r2,r3)) :
 Calls Tryz.prog 29 #[.pointer (some ⟨g,0,none⟩)] w fun e w'=>e= .returned (.string r1)∧IsS84 a w' g s0_0 r2 r3∧Below a.heap.size a w'∧KeepBut w w' g none:=by
 have HI0:=aM hI;have HK:=aM (KeepBut.refl w g none);have HL:=aM hB.size;clear hI;have HW0:=aM hB.size;have HB:=aM hB;clear hB
 unfold BH.f at h;have H:=h
 clear h;replace H:=bE H;obtain⟨⟨bQ,ae,af⟩,X,H⟩:=H;(try dsimp only at H);by_cases r:bQ=true
 ·subst r;replace H:=iT H;obtain⟨bR,aJ⟩ : ∃ y_:List ByteArray,Aside0 (y_=(([(⟨#[97,114,99,104,32,54,50,32,59,32,100,101,102,97,117,108,116,32,97,108,108,111,119,32,59]⟩ :ByteArray),(⟨#[97,114,99,104,32,54,50,32,59,32,100,101,102,97,117,108,116,32,97,108,108,111,119,32,59,32,111,110,32,114,101,97,100,32,44,32,119,114,105,116,101,32,100,111,32,108,111,103,32,59]⟩ :ByteArray),(⟨#[97,114,99,104,32,54,50,59,100,101,102,97,117,108,116,32,107,105,108,108,59,111,110,32,97,110,121,32,105,102,32,97,114,103,32,48,32,38,32,50,53,53,32,61,61,32,55,32,100,111,32,101,114,114,32,49,51,59]⟩ :ByteArray),(⟨#[97,114,99,104,32,54,50,32,59,32,100,101,102,97,117,108,116,32,97,108,108,111,119,32,59,32,111,110,32,114,101,97,100,32,44,32,114,101,97,100,32,100,111,32,108,111,103,32,59]⟩ :ByteArray),(⟨#[97,114,99,104,32,54,50,32,59,32,100,101,102,97,117,108,116,32,119,104,97,116,32,59]⟩ :ByteArray),(⟨#[97,114,99,104,32,54,50,32,59,32,100,101,102,97,117,108,116,32,97,108,108,111,119,32,59,32,111,110,32,97,110,121,32,105,102,32,97,114,103,32,51,32,61,61,32,49,32,100,111,32,108,111,103,32,59]⟩ :ByteArray),(⟨#[97,114,99,104,32,54,50,32,59,32,100,101,102,97,117,108,116,32,97,108,108,111,119,32,59,32,111,110,32,102,111,114,107,32,105,102,32,97,114,103,32,49,32,62,61,32,49,32,58,32,48,32,97,110,100,32,97,114,103,32,50,32,33,61,32,53,32,100,111,32,116,114,97,112,32,59]⟩ :ByteArray),(⟨#[100,101,102,97,117,108,116,32,97,108,108,111,119,32,59]⟩ :ByteArray),(⟨#[97,114,99,104,32,54,50,32,59,32,100,101,102,97,117,108,116,32,97,108,108,111,119,32,59,32,111,110,32,97,110,121,32,100,111,32,108,111,103]⟩ :ByteArray)] :List ByteArray))):=⟨_,⟨rfl⟩⟩;rw[← aJ.out]at H;replace H:=bE H;obtain⟨⟨bS,bT,bU⟩,az,H⟩:=H;(try dsimp only at H);simp only[Option.some.injEq,Prod.mk.injEq]at H;obtain⟨rfl,rfl,rfl⟩:=H;go_enter Tryz.func29,Tryz.ntmps29
  go_wp2_with (first|((with_reducible refine gF 38 ?_);refine gX (some 6) Tryz.func38 (A7.calls g s0_0 s0_1 s0_2 3 true ae af a _ q17x1 q17x2 X.out) ?_;rintro bV ⟨hi,hb,hk⟩;replace HK:=tK (w:=w) hk;replace HB:=aM hb;replace HI0:=aM hi;clear hb hk hi)|((with_reducible refine gN 8 ?_);refine R_lit Kd.string _ 9 ?hg (N:=8) ?hd (xs:=([(⟨#[97,114,99,104,32,54,50,32,59,32,100,101,102,97,117,108,116,32,97,108,108,111,119,32,59]⟩ :ByteArray),(⟨#[97,114,99,104,32,54,50,32,59,32,100,101,102,97,117,108,116,32,97,108,108,111,119,32,59,32,111,110,32,114,101,97,100,32,44,32,119,114,105,116,101,32,100,111,32,108,111,103,32,59]⟩ :ByteArray),(⟨#[97,114,99,104,32,54,50,59,100,101,102,97,117,108,116,32,107,105,108,108,59,111,110,32,97,110,121,32,105,102,32,97,114,103,32,48,32,38,32,50,53,53,32,61,61,32,55,32,100,111,32,101,114,114,32,49,51,59]⟩ :ByteArray),(⟨#[97,114,99,104,32,54,50,32,59,32,100,101,102,97,117,108,116,32,97,108,108,111,119,32,59,32,111,110,32,114,101,97,100,32,44,32,114,101,97,100,32,100,111,32,108,111,103,32,59]⟩ :ByteArray),(⟨#[97,114,99,104,32,54,50,32,59,32,100,101,102,97,117,108,116,32,119,104,97,116,32,59]⟩ :ByteArray),(⟨#[97,114,99,104,32,54,50,32,59,32,100,101,102,97,117,108,116,32,97,108,108,111,119,32,59,32,111,110,32,97,110,121,32,105,102,32,97,114,103,32,51,32,61,61,32,49,32,100,111,32,108,111,103,32,59]⟩ :ByteArray),(⟨#[97,114,99,104,32,54,50,32,59,32,100,101,102,97,117,108,116,32,97,108,108,111,119,32,59,32,111,110,32,102,111,114,107,32,105,102,32,97,114,103,32,49,32,62,61,32,49,32,58,32,48,32,97,110,100,32,97,114,103,32,50,32,33,61,32,53,32,100,111,32,116,114,97,112,32,59]⟩ :ByteArray),(⟨#[100,101,102,97,117,108,116,32,97,108,108,111,119,32,59]⟩ :ByteArray),(⟨#[97,114,99,104,32,54,50,32,59,32,100,101,102,97,117,108,116,32,97,108,108,111,119,32,59,32,111,110,32,97,110,121,32,100,111,32,108,111,103]⟩ :ByteArray)] :List ByteArray)) (inner:=[.string (⟨#[97,114,99,104,32,54,50,32,59,32,100,101,102,97,117,108,116,32,97,108,108,111,119,32,59]⟩ :ByteArray),.string (⟨#[97,114,99,104,32,54,50,32,59,32,100,101,102,97,117,108,116,32,97,108,108,111,119,32,59,32,111,110,32,114,101,97,100,32,44,32,119,114,105,116,101,32,100,111,32,108,111,103,32,59]⟩ :ByteArray),.string (⟨#[97,114,99,104,32,54,50,59,100,101,102,97,117,108,116,32,107,105,108,108,59,111,110,32,97,110,121,32,105,102,32,97,114,103,32,48,32,38,32,50,53,53,32,61,61,32,55,32,100,111,32,101,114,114,32,49,51,59]⟩ :ByteArray),.string (⟨#[97,114,99,104,32,54,50,32,59,32,100,101,102,97,117,108,116,32,97,108,108,111,119,32,59,32,111,110,32,114,101,97,100,32,44,32,114,101,97,100,32,100,111,32,108,111,103,32,59]⟩ :ByteArray),.string (⟨#[97,114,99,104,32,54,50,32,59,32,100,101,102,97,117,108,116,32,119,104,97,116,32,59]⟩ :ByteArray),.string (⟨#[97,114,99,104,32,54,50,32,59,32,100,101,102,97,117,108,116,32,97,108,108,111,119,32,59,32,111,110,32,97,110,121,32,105,102,32,97,114,103,32,51,32,61,61,32,49,32,100,111,32,108,111,103,32,59]⟩ :ByteArray),.string (⟨#[97,114,99,104,32,54,50,32,59,32,100,101,102,97,117,108,116,32,97,108,108,111,119,32,59,32,111,110,32,102,111,114,107,32,105,102,32,97,114,103,32,49,32,62,61,32,49,32,58,32,48,32,97,110,100,32,97,114,103,32,50,32,33,61,32,53,32,100,111,32,116,114,97,112,32,59]⟩ :ByteArray),.string (⟨#[100,101,102,97,117,108,116,32,97,108,108,111,119,32,59]⟩ :ByteArray),.string (⟨#[97,114,99,104,32,54,50,32,59,32,100,101,102,97,117,108,116,32,97,108,108,111,119,32,59,32,111,110,32,97,110,121,32,100,111,32,108,111,103]⟩ :ByteArray)]) (ok:=fun _=>True) (okp:=fun _=>True) ?hr ?hp (fun _ hk=>hk) trivial (Below.refl _ _) (Nat.le_refl _) (by simp) ?_;(case hd=>rfl);(case hg=>rfl);(case hr=>exact rG);(case hp=>exact(Reps.one (zMS ⟨#[97,114,99,104,32,54,50,32,59,32,100,101,102,97,117,108,116,32,97,108,108,111,119,32,59]⟩) (Reps.one (zMS ⟨#[97,114,99,104,32,54,50,32,59,32,100,101,102,97,117,108,116,32,97,108,108,111,119,32,59,32,111,110,32,114,101,97,100,32,44,32,119,114,105,116,101,32,100,111,32,108,111,103,32,59]⟩) (Reps.one (zMS ⟨#[97,114,99,104,32,54,50,59,100,101,102,97,117,108,116,32,107,105,108,108,59,111,110,32,97,110,121,32,105,102,32,97,114,103,32,48,32,38,32,50,53,53,32,61,61,32,55,32,100,111,32,101,114,114,32,49,51,59]⟩) (Reps.one (zMS ⟨#[97,114,99,104,32,54,50,32,59,32,100,101,102,97,117,108,116,32,97,108,108,111,119,32,59,32,111,110,32,114,101,97,100,32,44,32,114,101,97,100,32,100,111,32,108,111,103,32,59]⟩) (Reps.one (zMS ⟨#[97,114,99,104,32,54,50,32,59,32,100,101,102,97,117,108,116,32,119,104,97,116,32,59]⟩) (Reps.one (zMS ⟨#[97,114,99,104,32,54,50,32,59,32,100,101,102,97,117,108,116,32,97,108,108,111,119,32,59,32,111,110,32,97,110,121,32,105,102,32,97,114,103,32,51,32,61,61,32,49,32,100,111,32,108,111,103,32,59]⟩) (Reps.one (zMS ⟨#[97,114,99,104,32,54,50,32,59,32,100,101,102,97,117,108,116,32,97,108,108,111,119,32,59,32,111,110,32,102,111,114,107,32,105,102,32,97,114,103,32,49,32,62,61,32,49,32,58,32,48,32,97,110,100,32,97,114,103,32,50,32,33,61,32,53,32,100,111,32,116,114,97,112,32,59]⟩) (Reps.one (zMS ⟨#[100,101,102,97,117,108,116,32,97,108,108,111,119,32,59]⟩) (Reps.one (zMS ⟨#[97,114,99,104,32,54,50,32,59,32,100,101,102,97,117,108,116,32,97,108,108,111,119,32,59,32,111,110,32,97,110,121,32,100,111,32,108,111,103]⟩) (Reps.none _ _)))))))))));intro df bM ag hb hg_ hnew_;clear hg_ hnew_;(first|rw[← aJ.out]at ag|(simp only[Int.reduceToNat]at ag;rw[← aJ.out]at ag));have O:=aM (R_lower ag (keep_size (w:=w) (g:=g) (row:=none) cK));replace HK:=zKT (w:=w) (g:=g) hb;replace HB:=aM (below_step q17x2 hb);replace HI0:=aM (IsS84.below q17x1 hb);clear hb ag;obtain⟨dg,dh,bW⟩:=R_slice O.out;subst bW)|((with_reducible refine gF 65 ?_);refine gX (some 9) Tryz.func65 (Bc.calls g s0_0 ae af _ _ bR bS bT bU a _ q17x1 q17x2 (rX O) ((rY O)) (far_slice (IsS84.own_ne HI0.out O.out (by decide))) az.out) ?_;rintro di ⟨hi,hb,hk⟩;replace O:=aM (R_mono (R_keep (IsS84.apart (show IsS84 a _ g s0_0 ae af from q17x1) (mR O) (by decide)) hk (fun _ h=>h.2)) (fun _ h=>h.1));replace HK:=tK (w:=w) hk;replace HB:=aM hb;replace HI0:=aM hi;clear hb hk hi))
  go_ret;exact⟨rE,q17x1,q17x2,cK⟩
 ·replace r:=Bool.eq_false_iff.mpr r;subst r;replace H:=iF H;replace H:=bE H;obtain⟨⟨bX,bY,bZ,b0,b1,b5⟩,b8,H⟩:=H;(try dsimp only at H);replace H:=bE H;obtain⟨⟨dj,dk⟩,b9,H⟩:=H;(try dsimp only at H);simp only[Option.some.injEq,Prod.mk.injEq]at H;obtain⟨rfl,rfl,rfl⟩:=H;go_enter Tryz.func29,Tryz.ntmps29
  go_wp2_with (first|((with_reducible refine gF 38 ?_);refine gX (some 6) Tryz.func38 (A7.calls g s0_0 s0_1 s0_2 3 false ae af a _ q17x1 q17x2 X.out) ?_;rintro aU ⟨hi,hb,hk⟩;replace HK:=tK (w:=w) hk;replace HB:=aM hb;replace HI0:=aM hi;clear hb hk hi)|((with_reducible refine gF 16 ?_);refine gY (some 12) Tryz.func16 (AN.calls k g s0_0 ae af bX bY bZ b0 b1 b5 a _ q17x1 q17x2 b8.out) ?_;rintro dl bz ⟨a3,hi,hb,hk⟩;have ah:=aM (S_lower a3 (keep_size (w:=w) (g:=g) (row:=none) cK));replace HK:=tK (w:=w) hk;replace HB:=aM hb;replace HI0:=aM hi;(try clear hb);(try clear hk);(try clear hi);(try clear a3);obtain⟨dm,dn,ca⟩:=S_slice ah.out;subst ca)|((with_reducible refine gF 12 ?_);refine gX (some 13) Tryz.func12 (Ac.calls b9.out (cC ((S_reads' ah.out).2.2)) ((S_reads' ah.out).2.1)) ?_;intro bA hb;replace ah:=zSW ah hb;replace HK:=zKT (w:=w) (g:=g) hb;replace HB:=aM (below_step q17x2 hb);replace HI0:=aM (IsS84.below q17x1 hb);clear hb))
  go_ret;exact⟨rE,q17x1,q17x2,cK⟩
mutual
def Ag.j0:Nat→Int→List Int→Int→Int→Option (ByteArray×Int×Int)
  | 0,_,_,_,_=>none
  | k+1,ar,au,av,aw=>Ag.l0 k ar (([] :List Int)) 0 au av aw
def Ag.l0:Nat→Int→List Int→Int→List Int→Int→Int→Option (ByteArray×Int×Int)
  | 0,_,_,_,_,_,_=>none
  | k+1,ar,l,a4,au,av,aw=>if a4<ar then((A9.f au av aw).bind fun aK=>(if l.length<140737488355328 then(Ag.l0 k ar (l ++ [(aK.1) % 256]) (wrap64 (a4+1)) au aK.2.1 aK.2.2)else(none)))else(some (strOfNums l,av,aw))
end
def Ag.f (k:Nat) (s0_0:List Int) (s0_1:Int) (s0_2:Int) (q:Int):Option (ByteArray×Int×Int):=if q>5000 then(Ag.j0 k 5000 s0_0 s0_1 s0_2)else(Ag.j0 k q s0_0 s0_1 s0_2)
theorem Ag.calls (k:Nat) (g:Nat) (s0_0:List Int) (s0_1:Int) (s0_2:Int) (q:Int) (r1:ByteArray) (r2:Int) (r3:Int) (a w:World) (hI:IsS84 a w g s0_0 s0_1 s0_2) (hB:Below a.heap.size a w) (h:Ag.f k s0_0 s0_1 s0_2 q=some (r1,r2,r3)) :
 Calls Tryz.prog 66 #[.pointer (some ⟨g,0,none⟩),.int .i64 q] w fun e w'=>e= .returned (.string r1)∧IsS84 a w' g s0_0 r2 r3∧Below a.heap.size a w'∧KeepBut w w' g none:=by
 have HI0:=aM hI;have HK:=aM (KeepBut.refl w g none);have HL:=aM hB.size;clear hI;have HW0:=aM hB.size;have HB:=aM hB;clear hB;have H:(if q>5000 then(Ag.j0 k 5000 s0_0 s0_1 s0_2)else(Ag.j0 k q s0_0 s0_1 s0_2))=some (r1,r2,r3):=h;clear h;have HC3:=aM H;clear H;go_enter Tryz.func66,Tryz.ntmps66
 go_upto_if 8 with(fail)
 go_cut [1] (fun cb wc=> ∃ (kq:Nat) (ai:Int),cb= .int .i64 ai∧Aside0 (Ag.j0 kq ai s0_0 s0_1 s0_2=some (r1,r2,r3))∧Aside0 (kq≤k)∧Aside0 (IsS84 a wc g s0_0 s0_1 s0_2)∧Aside0 (KeepBut w wc g none)∧Aside0 (Below a.heap.size a wc))
 case first=>
  have H:=HC3.out;clear HC3;by_cases v:q>5000
  ·rw[if_pos v]at H;have u:decide (5000<q)=true:=decide_eq_true v;clear v
   (first|rw[u]|(simp only[i64_w,i32_w];rw[u])|skip)
   have H':=aM H;clear H;go_wp2;go_meet
   case rel=>exact⟨_,(5000),rS,H',⟨oL⟩,⟨q17x1⟩,⟨cK⟩,⟨q17x2⟩⟩
  ·rw[if_neg v]at H;have u:decide (5000<q)=false:=decide_eq_false v;clear v
   (first|rw[u]|(simp only[i64_w,i32_w];rw[u])|skip)
   have H':=aM H;clear H;go_wp2;go_meet
   case rel=>exact⟨_,(q),rS,H',⟨oL⟩,⟨q17x1⟩,⟨cK⟩,⟨q17x2⟩⟩
 case rest=>
  clear HC3;(try clear v);(try clear u);obtain⟨kq,ai,rfl,HA,HJ2,HI0,HK,HB⟩:=hcut
  cases kq with
  | zero=>exact absurd HA.out (by simp[Ag.j0])
  | succ kj2=>
   have H:=HA.out;clear HA;simp only[Ag.j0]at H;obtain⟨cc,aN⟩ : ∃ y_:List Int,Aside0 (y_=(([] :List Int))):=⟨_,⟨rfl⟩⟩;rw[← aN.out]at H;have H':=aM H;clear H
   go_wp2_with (first|((with_reducible refine gN 9 ?_);refine R_lit (Kd.int .u8) _ 5 ?hg (N:=9) ?hd (xs:=([] :List Int)) (inner:=[]) (ok:=fun _=>True) (okp:=fun _=>True) ?hr ?hp (fun _ hk=>hk) trivial (Below.refl _ _) (Nat.le_refl _) (by simp) ?_;(case hd=>rfl);(case hg=>rfl);(case hr=>exact rG);(case hp=>exact(Reps.none _ _));intro dp bV aj hb hg_ hnew_;clear hg_ hnew_;(first|rw[← aN.out]at aj|(simp only[Int.reduceToNat]at aj;rw[← aN.out]at aj));have cd:=aM (R_lower aj (keep_size (w:=w) (g:=g) (row:=none) cK));replace HK:=zKT (w:=w) (g:=g) hb;replace HB:=aM (below_step q17x2 hb);replace HI0:=aM (IsS84.below q17x1 hb);clear hb aj))
   go_loopg [5,6] kj2 (fun kq aA ce w'=> ∃ (ak:List Int) (al:Int) (am:Int) (an:Int),ce= .int .i64 al∧Aside0 (Ag.l0 kq ai ak al s0_0 am an=some (r1,r2,r3))∧Aside0 (kq≤kj2)∧Aside0 (Kd.R (Kd.int .u8) 5 w' w.heap.size (fun _=>True) aA ak)∧Aside0 (IsS84 a w' g s0_0 am an)∧Aside0 (KeepBut w w' g none)∧Aside0 (Below a.heap.size a w'))
   case atStart=>exact⟨(cc),(0),(s0_1),(s0_2),rS,H',⟨Nat.le_refl _⟩,⟨mR cd⟩,⟨q17x1⟩,⟨cK⟩,⟨q17x2⟩⟩
   case round=>
    clear H';(try clear v);(try clear u);obtain⟨ak,al,am,an,rfl,HA,HK2,z,HI0,HK,HB⟩:=hrel
    cases gk with
    | zero=>exact absurd HA.out (by simp[Ag.l0])
    | succ k2=>
     have H:=HA.out;clear HA;simp only[Ag.l0]at H;by_cases U:al<ai
     ·rw[if_pos U]at H;have cf:=decide_eq_true U;clear U;replace H:=bE H;obtain⟨⟨ax,a5,a6⟩,cg,H⟩:=H;(try dsimp only at H);replace H:=gC H;obtain⟨s,H⟩:=H;have ch:=aM s;clear s;obtain⟨ci,a7⟩ : ∃ y_:List Int,Aside0 (y_=(ak ++ [(ax) % 256])):=⟨_,⟨rfl⟩⟩;rw[← a7.out]at H;have H':=aM H;clear H
      go_wp2_with (first|((with_reducible refine gF 64 ?_);refine gX (some 17) Tryz.func64 (A9.calls g s0_0 am an ax a5 a6 a _ q17x1 q17x2 cg.out) ?_;rintro bo ⟨hi,hb,hk⟩;replace z:=aM (R_mono (R_keep (IsS84.apart (show IsS84 a _ g s0_0 am an from q17x1) (mR z) (by decide)) hk (fun _ h=>h.2)) (fun _ h=>h.1));replace HK:=tK (w:=w) hk;replace HB:=aM hb;replace HI0:=aM hi;clear hb hk hi)|((with_reducible refine gA 15 19 ?_);at_builtin;refine R_append (Kd.int .u8) w.heap.size rfl (.tmp 15) (.tmp 19) 22 5 (.int .u8 0) 1 rfl Tryz.underlying22 info5 rfl (by decide) (by omega) u5 ak ((ax) % 256) [.int .u8 ((ax) % 256)] (fun _=>True) (fun _=>False) rfl rfl ?aP (fun _ hk=>hk.elim) ?aF ?aO (Below.refl _ _) ?aS ?aL ?_;(case aP=>exact rfl);(case aF=>exact(fun _ _=>trivial));(case aO=>exact(mR z));(case aS=>exact(keep_size (w:=w) (g:=g) (row:=none) cK));(case aL=>have:=ch.out;omega);intro dq dr ho hb hg hat;rw[← a7.out]at ho;replace HB:=aM (below_weaken q17x2 HL.out hb);replace HI0:=aM (IsS84.grown q17x1 hg (IsS84.own_ne HI0.out z.out (by decide)));replace HK:=aM (KeepBut.trans (cK:KeepBut w _ g none) (KeepBut.of_grown hg g) (R_base2 z.out));have cj:=aM ho;clear z ho hb hg hat))
      go_roundg k2
      case measure=>have:=HJ2.out;have:=HK2.out;omega
      case rel=>exact⟨(ci),(wrap64 (al+1)),(a5),(a6),rS,H',⟨by have:=HJ2.out;have:=HK2.out;omega⟩,⟨mR cj⟩,⟨q17x1⟩,⟨cK⟩,⟨q17x2⟩⟩
     ·rw[if_neg U]at H;have cf:=decide_eq_false U;clear U;simp only[Option.some.injEq,Prod.mk.injEq]at H;obtain⟨rfl,rfl,rfl⟩:=H;have hcv12:=own_string (P:=Tryz.prog) Tryz.underlying22 Tryz.underlying5 Tryz.underlying9 (own_of_R z.out);go_wp2;go_ret;exact⟨rE,q17x1,q17x2,cK⟩
def Ad.j0:Nat→ByteArray→Bool→List Int→Int→Int→Option (ByteArray×Int×Int)
  | 0,_,_,_,_,_=>none
  | k+1,d,bv,a7,aH,aI=>if bv=true then(if(d.size:Int)>0 then((AG.f a7 aH aI (d.size:Int)).bind fun q=>(if 0≤q.1 then(if q.1≤(d.size:Int)then((Ag.f k a7 q.2.1 q.2.2 1).bind fun ak=>(if(d.extract 0 (q.1:Int).toNat).size+ak.1.size≤9223372036854775807 then(if 0≤(wrap64 (q.1+1))then(if(wrap64 (q.1+1))≤(d.size:Int)then(if((d.extract 0 (q.1:Int).toNat) ++ ak.1).size+(d.extract ((wrap64 (q.1+1)):Int).toNat d.size).size≤9223372036854775807 then(some (((d.extract 0 (q.1:Int).toNat) ++ ak.1) ++ (d.extract ((wrap64 (q.1+1)):Int).toNat d.size),ak.2.1,ak.2.2))else(none))else(none))else(none))else(none)))else(none))else(none)))else(some (d,aH,aI)))else(some (d,aH,aI))
def Ad.f (k:Nat) (s0_0:List Int) (s0_1:Int) (s0_2:Int) (a:ByteArray):Option (ByteArray×Int×Int):=(AG.f s0_0 s0_1 s0_2 12).bind fun n=>(if n.1=0 then((Ag.f k s0_0 n.2.1 n.2.2 1).bind fun aw=>(if a.size+aw.1.size≤9223372036854775807 then(some (a ++ aw.1,aw.2.1,aw.2.2))else(none)))else(if n.1=1 then((AG.f s0_0 n.2.1 n.2.2 (wrap64 ((a.size:Int)+1))).bind fun al=>(if 0≤al.1 then(if al.1≤(a.size:Int)then(some (a.extract 0 (al.1:Int).toNat,al.2.1,al.2.2))else(none))else(none)))else(if n.1=2 then(Ad.j0 k a (n.1 == 2) s0_0 n.2.1 n.2.2)else(Ad.j0 k a (n.1 == 3) s0_0 n.2.1 n.2.2))))
def Ad.T10:Bool×List (List Nat×List Nat):=(true,[([],[]),([],[]),([0,1],[0,1]),([],[]),([3],[3]),([2,4],[2,4]),([],[]),([],[]),([7],[7]),([6,8],[6,8]),([5,9],[5,9]),([10,4,0,1,2,3,4,5,6,7,8,9,10],[10])])
def Ad.B10:List Nat:=[0,0,3,0,8,31,0,0,128,448,1023,2047]
theorem Ad.tab10:rtab .any (opsOf Tryz.f30 10)=Ad.T10:=by kernel_rfl
theorem Ad.bits10:waitsOk Ad.T10.2 Ad.B10=true:=by kernel_rfl
theorem q18x0 {P:Prop} (h:P:=by repeat(first|(with_reducible first|exact HI0.out|apply IsS84.alloc|apply IsS84.drewN|apply IsS84.drew|apply IsS84.set_1|apply IsS84.set_2)|exact HI0.out)):P:=h
theorem q18x1 {P:Prop} (h:P:=by repeat(first|(with_reducible first|exact HB.out|apply below_alloc|apply pw_below_drewN|apply below_drew1|refine below_set ?_ (IsS84.ge HI0.out))|exact HB.out)):P:=h
theorem Ad.calls (k:Nat) (g:Nat) (s0_0:List Int) (s0_1:Int) (s0_2:Int) (a:ByteArray) (r1:ByteArray) (r2:Int) (r3:Int) (l w:World) (hI:IsS84 l w g s0_0 s0_1 s0_2) (hB:Below l.heap.size l w) (h:Ad.f k s0_0 s0_1 s0_2 a=some (r1,r2,r3)) :
 Calls Tryz.prog 30 #[.pointer (some ⟨g,0,none⟩),.string a] w fun e w'=>e= .returned (.string r1)∧IsS84 l w' g s0_0 r2 r3∧Below l.heap.size l w'∧KeepBut w w' g none:=by
 have HI0:=aM hI;have HK:=aM (KeepBut.refl w g none);have HL:=aM hB.size;clear hI;have HW0:=aM hB.size;have HB:=aM hB;clear hB
 unfold Ad.f at h;have H:=h
 clear h;replace H:=bE H;obtain⟨⟨G,I,J⟩,u,H⟩:=H;(try dsimp only at H);by_cases ae:G=0
 ·rw[if_pos ae]at H;obtain⟨a8,a9⟩:=eT ae;clear ae;replace H:=bE H;obtain⟨⟨aJ,bw,bx⟩,bz,H⟩:=H;(try dsimp only at H);replace H:=gC H;obtain⟨ax,H⟩:=H;have aK:=eq_true ax;have bA:decide (a.size+aJ.size≤9223372036854775807)=true:=decide_eq_true ax
  try have bB:(9223372036854775807<a.size+aJ.size)=False:=eq_false (Nat.not_lt.2 ax)
  simp only[Option.some.injEq,Prod.mk.injEq]at H;obtain⟨rfl,rfl,rfl⟩:=H;go_enter Tryz.func30,Tryz.ntmps30
  go_wp2_with (first|((with_reducible refine gF 28 ?_);refine gX (some 7) Tryz.func28 (AG.calls g s0_0 s0_1 s0_2 12 G I J l _ q18x0 q18x1 u.out) ?_;rintro bC ⟨hi,hb,hk⟩;replace HK:=tK (w:=w) hk;replace HB:=aM hb;replace HI0:=aM hi;clear hb hk hi)|((with_reducible refine gF 66 ?_);refine gX (some 12) Tryz.func66 (Ag.calls k g s0_0 I J 1 aJ bw bx l _ q18x0 q18x1 bz.out) ?_;rintro bD ⟨hi,hb,hk⟩;replace HK:=tK (w:=w) hk;replace HB:=aM hb;replace HI0:=aM hi;clear hb hk hi))
  go_ret;exact⟨rE,q18x0,q18x1,cK⟩
 ·rw[if_neg ae]at H;obtain⟨a8,a9⟩:=eF ae;by_cases y:G=1
  ·rw[if_pos y]at H;obtain⟨aL,aN⟩:=eT y;clear y;replace H:=bE H;obtain⟨⟨aO,bF,bG⟩,bH,H⟩:=H;(try dsimp only at H);replace H:=gC H;obtain⟨v,H⟩:=H;have aP:=eq_true v;have aQ:decide (0≤aO)=true:=decide_eq_true v;clear v;replace H:=gC H;obtain⟨ay,H⟩:=H;have bI:=eq_true ay;have bJ:decide (aO≤(a.size:Int))=true:=decide_eq_true ay;clear ay;simp only[Option.some.injEq,Prod.mk.injEq]at H;obtain⟨rfl,rfl,rfl⟩:=H;go_enter Tryz.func30,Tryz.ntmps30
   go_wp2_with (first|((with_reducible refine gF 28 ?_);refine gX (some 7) Tryz.func28 (AG.calls g s0_0 s0_1 s0_2 12 G I J l _ q18x0 q18x1 u.out) ?_;rintro bL ⟨hi,hb,hk⟩;replace HK:=tK (w:=w) hk;replace HB:=aM hb;replace HI0:=aM hi;clear hb hk hi)|((with_reducible refine gF 28 ?_);refine gX (some 21) Tryz.func28 (AG.calls g s0_0 I J (wrap64 ((a.size:Int)+1)) aO bF bG l _ q18x0 q18x1 bH.out) ?_;rintro cf ⟨hi,hb,hk⟩;replace HK:=tK (w:=w) hk;replace HB:=aM hb;replace HI0:=aM hi;clear hb hk hi))
   go_ret;exact⟨rE,q18x0,q18x1,cK⟩
  ·rw[if_neg y]at H;obtain⟨aL,aN⟩:=eF y;have HC15:=aM H;clear H;go_enter Tryz.func30,Tryz.ntmps30
   go_upto_if 23 with(first|((with_reducible refine gF 28 ?_);refine gX (some 7) Tryz.func28 (AG.calls g s0_0 s0_1 s0_2 12 G I J l _ q18x0 q18x1 u.out) ?_;rintro cg ⟨hi,hb,hk⟩;replace HK:=tK (w:=w) hk;replace HB:=aM hb;replace HI0:=aM hi;clear hb hk hi))
   (try simp only[Act.put,List.setIfInBounds_toArray,List.set_cons_zero,List.set_cons_succ])
   go_cut [23] (fun bM wc=> ∃ (kq:Nat) (az:Bool),bM= .bool az∧Aside0 (Ad.j0 kq a az s0_0 I J=some (r1,r2,r3))∧Aside0 (kq≤k)∧Aside0 (IsS84 l wc g s0_0 I J)∧Aside0 (KeepBut w wc g none)∧Aside0 (Below l.heap.size l wc))
   case first=>
    have H:=HC15.out;clear HC15;by_cases af:G=2
    ·rw[if_pos af]at H;obtain⟨ag,ba⟩:=eT af;clear af
     (first|rw[ag]|(simp only[i64_w,i32_w];rw[ag])|skip)
     have H':=aM H;clear H;go_wp2;go_meet
     case rel=>exact⟨_,((G == 2)),rS,H',⟨oL⟩,⟨q18x0⟩,⟨cK⟩,⟨q18x1⟩⟩
    ·rw[if_neg af]at H;obtain⟨ag,ba⟩:=eF af
     (first|rw[ag]|(simp only[i64_w,i32_w];rw[ag])|skip)
     have H':=aM H;clear H;go_wp2;go_meet
     case rel=>exact⟨_,((G == 3)),rS,H',⟨oL⟩,⟨q18x0⟩,⟨cK⟩,⟨q18x1⟩⟩
   case rest=>
    clear HC15;(try clear ae);(try clear a8);(try clear a9);(try clear ax);(try clear aK);(try clear bA);(try clear bB);(try clear y);(try clear aL);(try clear aN);(try clear v);(try clear aP);(try clear aQ);(try clear ay);(try clear bI);(try clear bJ);(try clear af);(try clear ag);(try clear ba);obtain⟨kq,az,rfl,HA,HJ14,HI0,HK,HB⟩:=hcut
    cases kq with
    | zero=>exact absurd HA.out (by simp[Ad.j0])
    | succ kj14=>
     have H:=HA.out;clear HA;simp only[Ad.j0]at H;by_cases aA:az=true
     ·subst aA;replace H:=iT H;by_cases ah:(a.size:Int)>0
      ·rw[if_pos ah]at H;have bN:decide (0<(a.size:Int))=true:=decide_eq_true ah
       have bO:decide (0<a.size)=true:=decide_eq_true (by omega)
       clear ah;replace H:=bE H;obtain⟨⟨o,bb,bd⟩,be,H⟩:=H;(try dsimp only at H);replace H:=gC H;obtain⟨aR,H⟩:=H;have ch:=eq_true aR;have ci:decide (0≤o)=true:=decide_eq_true aR;clear aR;replace H:=gC H;obtain⟨aS,H⟩:=H;have bf:=eq_true aS;have cj:decide (o≤(a.size:Int))=true:=decide_eq_true aS;clear aS;replace H:=bE H;obtain⟨⟨L,bP,bQ⟩,bg,H⟩:=H;(try dsimp only at H);replace H:=gC H;obtain⟨aB,H⟩:=H;have ck:=eq_true aB;have cl:decide ((a.extract 0 (o:Int).toNat).size+L.size≤9223372036854775807)=true:=decide_eq_true aB
       try have cm:(9223372036854775807<(a.extract 0 (o:Int).toNat).size+L.size)=False:=eq_false (Nat.not_lt.2 aB)
       obtain⟨ji25,hji25⟩ : ∃ j_:Int,(wrap64 (o+1))=j_:=⟨_,rfl⟩
       (first|rw[hji25]at H|simp only[hji25]at H)
       (try rw[hji25]at be);(try rw[hji25]at bg);have hji25w:(IntKind.i64.wrap (o+1))=ji25:=(i64_w _).trans hji25;replace H:=gC H;obtain⟨aT,H⟩:=H;have cn:=eq_true aT;have co:decide (0≤(ji25))=true:=decide_eq_true aT;clear aT;replace H:=gC H;obtain⟨aU,H⟩:=H;have cp:=eq_true aU;have cq:decide ((ji25)≤(a.size:Int))=true:=decide_eq_true aU;clear aU;replace H:=gC H;obtain⟨am,H⟩:=H;have cr:=eq_true am;have cs:decide (((a.extract 0 (o:Int).toNat) ++ L).size+(a.extract ((ji25):Int).toNat a.size).size≤9223372036854775807)=true:=decide_eq_true am
       try have ct:(9223372036854775807<((a.extract 0 (o:Int).toNat) ++ L).size+(a.extract ((ji25):Int).toNat a.size).size)=False:=eq_false (Nat.not_lt.2 am)
       try have cu:(9223372036854775807<(a.extract 0 (o:Int).toNat).size+L.size+(a.extract ((ji25):Int).toNat a.size).size)=False:=eq_false (Nat.not_lt.2 (by have h_:=am;simp only[ByteArray.size_append]at h_;exact h_))
       have c28z1:(9223372036854775807<(o:Int).toNat+L.size)=False:=eq_false (by have h_:=aB;have g_:=of_eq_true bf;clear hji25 hji25w;rw[ByteArray.size_extract]at h_;omega)
       have c28z2:(9223372036854775807<(o:Int).toNat+L.size+(a.size - (ji25:Int).toNat))=False:=eq_false (by have h_:=am;have g_:=of_eq_true bf;clear hji25 hji25w;rw[ByteArray.size_append,ByteArray.size_extract,ByteArray.size_extract]at h_;omega)
       simp only[Option.some.injEq,Prod.mk.injEq]at H;obtain⟨rfl,rfl,rfl⟩:=H
       try go_wp2_with (first|((with_reducible refine gF 28 ?_);refine gX (some 32) Tryz.func28 (AG.calls g s0_0 I J (a.size:Int) o bb bd l _ q18x0 q18x1 be.out) ?_;rintro bR ⟨hi,hb,hk⟩;replace HK:=tK (w:=w) hk;replace HB:=aM hb;replace HI0:=aM hi;clear hb hk hi))
       replace HI0:=aM (IsS84.drew HI0.out);replace HK:=aM (keep_drew HK.out);replace HB:=dW HB
       refine sZ 12 (fun w'=>True) Ad.tab10 Ad.bits10 trivial fun HT_ HW_ hHeld=>?_
       generalize bR.drew=cv at HI0 HK HB hHeld ⊢;refine pZ 0 33 1 ?_;refine pZ 1 34 3 ?_;refine pZ 2 35 7 ?_;refine pZ 3 36 15 ?_;refine pZ 6 39 79 ?_;refine pZ 7 40 207 ?_;refine pZ 8 41 463 ?_;refine pZ 9 42 975 ?_
       refine oZ 4 37 991 fun K hK=>?_
       refine eX Tryz.func66 (Ag.calls kj14 g s0_0 bb bd 1 L bP bQ l _ q18x0 q18x1 bg.out) ?_
       rintro cw ⟨hi,hb,hk⟩;replace HK:=tK (w:=w) hk;replace HB:=aM hb;replace HI0:=aM hi;clear hb hk hi
       refine hK.out _ _ trivial (fun hHeld=>?_)
       clear hK K;refine normZ (some 37) ?_
       refine pZ 5 38 1023 ?_;refine pZ 10 43 2047 ?_;refine pZ 11 4 4095 ?_
       refine done_ (done_of HT_.out (by kernel_rfl)) ?_
       try go_wp2
       go_ret
       exact⟨by first|rfl|(simp[errW_none,errW_some] <;> rfl)|(simp only[← hji25];first|rfl|(simp[errW_none,errW_some] <;> rfl))|(simp[*,errW_none,errW_some] <;> rfl),q18x0,q18x1,cK⟩
      ·rw[if_neg ah]at H;have bN:decide (0<(a.size:Int))=false:=decide_eq_false ah
       have bO:decide (0<a.size)=false:=decide_eq_false (by omega)
       clear ah;simp only[Option.some.injEq,Prod.mk.injEq]at H;obtain⟨rfl,rfl,rfl⟩:=H;go_wp2;go_ret;exact⟨rE,q18x0,q18x1,cK⟩
     ·replace aA:=Bool.eq_false_iff.mpr aA;subst aA;replace H:=iF H;simp only[Option.some.injEq,Prod.mk.injEq]at H;obtain⟨rfl,rfl,rfl⟩:=H;go_wp2;go_ret;exact⟨rE,q18x0,q18x1,cK⟩
def Be.f (k:Nat) (z:List Int):Option (ByteArray):=(Ah.f k z).bind fun an=>((AG.f an.1 an.2.1 an.2.2 6).bind fun aV=>((BH.f k an.1 aV.2.1 aV.2.2).bind fun aC=>(if aV.1=0 then((Ad.f k an.1 aC.2.1 aC.2.2 aC.1).bind fun bS=>(some bS.1))else(some aC.1))))
theorem q18x2 {P:Prop} (h:P:=by repeat(first|(with_reducible first|exact HI688.out|apply IsS84.alloc|apply IsS84.drewN|apply IsS84.drew|apply IsS84.set_1|apply IsS84.set_2)|exact HI688.out)):P:=h
theorem q18x3 {P:Prop} (h:P:=by repeat(first|(with_reducible first|exact HB.out|apply below_alloc|apply pw_below_drewN|apply below_drew1|refine below_set ?_ (IsS84.ge HI688.out))|exact HB.out)):P:=h
theorem Be.calls {k:Nat}{bh:Option Addr}{bi:Nat}{z:List Int}{r:ByteArray}{w:World}(h:Be.f k z=some r)(bj:Kd.C (Kd.int .u8) w bh z.length z)(bk:z.length≤bi) :
 Calls Tryz.prog 8 #[.slice bh z.length bi] w fun e w'=>e= .returned (.string r)∧Below w.heap.size w w':=by
 have HR0:=aM bj;have HC0:=aM bk;clear bj bk;have HB:=rW w
 unfold Be.f at h;have H:=h
 clear h;replace H:=bE H;obtain⟨⟨aa,aD,aE⟩,bl,H⟩:=H;(try dsimp only at H);replace H:=bE H;obtain⟨⟨aW,aF,aG⟩,u,H⟩:=H;(try dsimp only at H);replace H:=bE H;obtain⟨⟨aX,aY,aZ⟩,bm,H⟩:=H;(try dsimp only at H);by_cases j:aW=0
 ·rw[if_pos j]at H;obtain⟨ao,bT⟩:=eT j;clear j;replace H:=bE H;obtain⟨⟨bU,bV,bW⟩,bX,H⟩:=H;(try dsimp only at H);obtain rfl:=Option.some.inj H;go_enter Tryz.func8,Tryz.ntmps8
  go_wp2_with (first|((with_reducible refine gF 15 ?_);refine gV (some 7) Tryz.func15 (Ah.calls k _ _ z aa aD aE w _ cB HR0.out HC0.out bl.out) ?_;rintro e bC ⟨g688,rfl,hi,hb,hb2⟩;refine⟨_,rfl,?_⟩;replace HB:=aM hb;have HI688:=aM hi;clear hb hb2 hi)|((with_reducible refine gF 28 ?_);refine gX (some 9) Tryz.func28 (AG.calls g688 aa aD aE 6 aW aF aG w _ q18x2 q18x3 u.out) ?_;rintro bD ⟨hi,hb,hk⟩;replace HB:=aM hb;replace HI688:=aM hi;clear hb hk hi)|((with_reducible refine gF 29 ?_);refine gX (some 11) Tryz.func29 (BH.calls k g688 aa aF aG aX aY aZ w _ q18x2 q18x3 bm.out) ?_;rintro cx ⟨hi,hb,hk⟩;replace HB:=aM hb;replace HI688:=aM hi;clear hb hk hi)|((with_reducible refine gF 30 ?_);refine gX (some 16) Tryz.func30 (Ad.calls k g688 aa aY aZ aX bU bV bW w _ q18x2 q18x3 bX.out) ?_;rintro cy ⟨hi,hb,hk⟩;replace HB:=aM hb;replace HI688:=aM hi;clear hb hk hi))
  go_ret;exact⟨rE,q18x3⟩
 ·rw[if_neg j]at H;obtain⟨ao,bT⟩:=eF j;obtain rfl:=Option.some.inj H;go_enter Tryz.func8,Tryz.ntmps8
  go_wp2_with (first|((with_reducible refine gF 15 ?_);refine gV (some 7) Tryz.func15 (Ah.calls k _ _ z aa aD aE w _ cB HR0.out HC0.out bl.out) ?_;rintro e cz ⟨g688,rfl,hi,hb,hb2⟩;refine⟨_,rfl,?_⟩;replace HB:=aM hb;have HI688:=aM hi;clear hb hb2 hi)|((with_reducible refine gF 28 ?_);refine gX (some 9) Tryz.func28 (AG.calls g688 aa aD aE 6 aW aF aG w _ q18x2 q18x3 u.out) ?_;rintro cA ⟨hi,hb,hk⟩;replace HB:=aM hb;replace HI688:=aM hi;clear hb hk hi)|((with_reducible refine gF 29 ?_);refine gX (some 11) Tryz.func29 (BH.calls k g688 aa aF aG aX aY aZ w _ q18x2 q18x3 bm.out) ?_;rintro bL ⟨hi,hb,hk⟩;replace HB:=aM hb;replace HI688:=aM hi;clear hb hk hi))
  go_ret;exact⟨rE,q18x3⟩
def Ak.l0:Nat→ByteArray→Int→Int→Int→Int→Option (Int)
  | 0,_,_,_,_,_=>none
  | k+1,A,d,bn,bo,O=>if O<(A.size:Int)then(if 0≤O then(if(bt A O)≥bn then(if(bt A O)≤bo then(Ak.l0 k A d bn bo (wrap64 (O+1)))else(some (wrap64 (O - d))))else(some (wrap64 (O - d))))else(none))else(some (wrap64 (O - d)))
def Ak.f (k:Nat) (b:ByteArray) (a:Int) (D:Int) (ab:Int):Option (Int):=Ak.l0 k b a D ab a
theorem Ak.calls {k:Nat}{b:ByteArray}{a:Int}{D:Int}{ab:Int}{r:Int}{w:World}(h:Ak.f k b a D ab=some r) :
 Calls Tryz.prog 67 #[.string b,.int .i64 a,.int .u8 D,.int .u8 ab] w fun e w'=>e= .returned (.int .i64 r)∧Drawn0 w w':=by
 have H:(Ak.l0 k b a D ab a)=some r:=h;clear h;have H':=aM H;clear H;go_enter Tryz.func67,Tryz.ntmps67;go_wp2
 go_loopg [9] k (fun kq bY w'=> ∃ (i:Int),bY= .int .i64 i∧Aside0 (Ak.l0 kq b a D ab i=some r)∧Aside0 (kq≤k)∧Drawn0 w w')
 case atStart=>exact⟨(a),rS,H',⟨Nat.le_refl _⟩,by repeat(first|exact Drawn0.refl _|apply Drawn0.step)⟩
 case round=>
  clear H';obtain⟨i,rfl,HA,HK1,⟨m1,rfl⟩⟩:=hrel
  cases gk with
  | zero=>exact absurd HA.out (by simp[Ak.l0])
  | succ k1=>
   have H:=HA.out;clear HA;simp only[Ak.l0]at H;by_cases j:i<(b.size:Int)
   ·rw[if_pos j]at H;have ao:=decide_eq_true j;clear j;replace H:=gD H;obtain⟨aK,H⟩:=H;by_cases x:(bt b i)≥D
    ·rw[if_pos x]at H;have bp:decide (D≤(bt b i))=true:=decide_eq_true x;clear x;by_cases ai:(bt b i)≤ab
     ·rw[if_pos ai]at H;have bq:=decide_eq_true ai;clear ai;have H':=aM H;clear H;have U:0≤(i:Int):=dA;have W:i<(b.size:Int):=dA;have br:=bt_at b i;replace U:=eq_true U;replace W:=eq_true W;have ap:0≤(i:Int):=dA;have aq:i<(b.size:Int):=dA;have bZ:=bt_at b i;replace ap:=eq_true ap;replace aq:=eq_true aq;go_wp2;go_roundg k1
      case measure=>exact oK
      case rel=>exact⟨(wrap64 (i+1)),rS,H',⟨oK⟩,by repeat(first|exact Drawn0.refl _|apply Drawn0.step)⟩
     ·rw[if_neg ai]at H;have bq:=decide_eq_false ai;clear ai;obtain rfl:=Option.some.inj H;have U:0≤(i:Int):=dA;have W:i<(b.size:Int):=dA;have br:=bt_at b i;replace U:=eq_true U;replace W:=eq_true W;have ap:0≤(i:Int):=dA;have aq:i<(b.size:Int):=dA;have bZ:=bt_at b i;replace ap:=eq_true ap;replace aq:=eq_true aq;go_wp2;go_ret
      exact⟨by first|rfl|(simp;done)|(simp[*];done),by repeat(first|exact Drawn0.refl _|apply Drawn0.step)⟩
    ·rw[if_neg x]at H;have bp:decide (D≤(bt b i))=false:=decide_eq_false x;clear x;obtain rfl:=Option.some.inj H;have U:0≤(i:Int):=dA;have W:i<(b.size:Int):=dA;have br:=bt_at b i;replace U:=eq_true U;replace W:=eq_true W;go_wp2;go_ret
     exact⟨by first|rfl|(simp;done)|(simp[*];done),by repeat(first|exact Drawn0.refl _|apply Drawn0.step)⟩
   ·rw[if_neg j]at H;have ao:=decide_eq_false j;clear j;obtain rfl:=Option.some.inj H;go_wp2;go_ret
    exact⟨by first|rfl|(simp;done)|(simp[*];done),by repeat(first|exact Drawn0.refl _|apply Drawn0.step)⟩
def Bo.f  :Option (List ByteArray):=some (([(⟨#[61,61]⟩ :ByteArray),(⟨#[33,61]⟩ :ByteArray),(⟨#[60,61]⟩ :ByteArray),(⟨#[62,61]⟩ :ByteArray),(⟨#[60]⟩ :ByteArray),(⟨#[62]⟩ :ByteArray),(⟨#[38]⟩ :ByteArray),(⟨#[58]⟩ :ByteArray),(⟨#[59]⟩ :ByteArray),(⟨#[44]⟩ :ByteArray)] :List ByteArray))
theorem Bo.calls {r:List ByteArray}{w:World}(h:Bo.f  = some r) :
 Calls Tryz.prog 93 #[] w fun e w'=> ∃ v0_:Value,e= .returned (v0_)∧Kd.R Kd.string 9 w' w.heap.size (fun _=>True) v0_ r∧Below w.heap.size w w':=by
 have HB:=rW w;have H:(some (([(⟨#[61,61]⟩ :ByteArray),(⟨#[33,61]⟩ :ByteArray),(⟨#[60,61]⟩ :ByteArray),(⟨#[62,61]⟩ :ByteArray),(⟨#[60]⟩ :ByteArray),(⟨#[62]⟩ :ByteArray),(⟨#[38]⟩ :ByteArray),(⟨#[58]⟩ :ByteArray),(⟨#[59]⟩ :ByteArray),(⟨#[44]⟩ :ByteArray)] :List ByteArray)))=some r:=h;clear h;obtain⟨cD,a0⟩ : ∃ y_:List ByteArray,Aside0 (y_=(([(⟨#[61,61]⟩ :ByteArray),(⟨#[33,61]⟩ :ByteArray),(⟨#[60,61]⟩ :ByteArray),(⟨#[62,61]⟩ :ByteArray),(⟨#[60]⟩ :ByteArray),(⟨#[62]⟩ :ByteArray),(⟨#[38]⟩ :ByteArray),(⟨#[58]⟩ :ByteArray),(⟨#[59]⟩ :ByteArray),(⟨#[44]⟩ :ByteArray)] :List ByteArray))):=⟨_,⟨rfl⟩⟩;rw[← a0.out]at H;obtain rfl:=Option.some.inj H;go_enter Tryz.func93,Tryz.ntmps93
 go_wp2_with (first|((with_reducible refine gN 1 ?_);refine R_lit Kd.string _ 9 ?hg (N:=1) ?hd (xs:=([(⟨#[61,61]⟩ :ByteArray),(⟨#[33,61]⟩ :ByteArray),(⟨#[60,61]⟩ :ByteArray),(⟨#[62,61]⟩ :ByteArray),(⟨#[60]⟩ :ByteArray),(⟨#[62]⟩ :ByteArray),(⟨#[38]⟩ :ByteArray),(⟨#[58]⟩ :ByteArray),(⟨#[59]⟩ :ByteArray),(⟨#[44]⟩ :ByteArray)] :List ByteArray)) (inner:=[.string (⟨#[61,61]⟩ :ByteArray),.string (⟨#[33,61]⟩ :ByteArray),.string (⟨#[60,61]⟩ :ByteArray),.string (⟨#[62,61]⟩ :ByteArray),.string (⟨#[60]⟩ :ByteArray),.string (⟨#[62]⟩ :ByteArray),.string (⟨#[38]⟩ :ByteArray),.string (⟨#[58]⟩ :ByteArray),.string (⟨#[59]⟩ :ByteArray),.string (⟨#[44]⟩ :ByteArray)]) (ok:=fun _=>True) (okp:=fun _=>True) ?hr ?hp (fun _ hk=>hk) trivial (Below.refl _ _) (Nat.le_refl _) (by simp) ?_;(case hd=>rfl);(case hg=>rfl);(case hr=>exact rG);(case hp=>exact(Reps.one (zMS ⟨#[61,61]⟩) (Reps.one (zMS ⟨#[33,61]⟩) (Reps.one (zMS ⟨#[60,61]⟩) (Reps.one (zMS ⟨#[62,61]⟩) (Reps.one (zMS ⟨#[60]⟩) (Reps.one (zMS ⟨#[62]⟩) (Reps.one (zMS ⟨#[38]⟩) (Reps.one (zMS ⟨#[58]⟩) (Reps.one (zMS ⟨#[59]⟩) (Reps.one (zMS ⟨#[44]⟩) (Reps.none _ _))))))))))));intro cE cF ar hb hg_ hnew_;clear hg_ hnew_;(first|rw[← a0.out]at ar|(simp only[Int.reduceToNat]at ar;rw[← a0.out]at ar));have b0:=rL ar;replace HB:=sB hb;clear hb ar))
 go_ret;exact⟨_,rE,mR b0,cB⟩
def As.l0:Nat→ByteArray→Int→List ByteArray→Int→Option (ByteArray)
  | 0,_,_,_,_=>none
  | k+1,A,d,X,E=>if E<(X.length:Int)then(if 0≤E then(if(wrap64 (d+((rdOf ByteArray.empty X E).size:Int)))≤(A.size:Int)then(if 0≤d then(if d≤(wrap64 (d+((rdOf ByteArray.empty X E).size:Int)))then(if(A.extract (d:Int).toNat ((wrap64 (d+((rdOf ByteArray.empty X E).size:Int))):Int).toNat).toList=(rdOf ByteArray.empty X E).toList then(some (rdOf ByteArray.empty X E))else(As.l0 k A d X (wrap64 (E+1))))else(none))else(none))else(As.l0 k A d X (wrap64 (E+1))))else(none))else(some (⟨#[]⟩ :ByteArray))
def As.f (k:Nat) (b:ByteArray) (a:Int):Option (ByteArray):=(Bo.f).bind fun m=>(As.l0 k b a m 0)
theorem As.calls {k:Nat}{b:ByteArray}{a:Int}{r:ByteArray}{w:World}(h:As.f k b a=some r) :
 Calls Tryz.prog 69 #[.string b,.int .i64 a] w fun e w'=>e= .returned (.string r)∧Below w.heap.size w w':=by
 have HB:=rW w
 unfold As.f at h;have H:=h
 clear h;replace H:=bE H;obtain⟨m,u,H⟩:=H;have H':=aM H;clear H;go_enter Tryz.func69,Tryz.ntmps69
 go_wp2_with (first|(go_at_call 93;(with_reducible refine(Bo.calls u.out).mono ?_);rintro e bs ⟨a1,rfl,Y,hb⟩;have a2:=rL Y;replace HB:=sB hb;(try clear hb);(try clear Y)))
 repeat(go_quiet (first|(go_at_call 93;(with_reducible refine(Bo.calls u.out).mono ?_);rintro e bs ⟨a1,rfl,Y,hb⟩;have n0_:=rL Y;have n1_:=sB hb;clear HB;have a2:=n0_;have HB:=n1_;clear n0_ n1_;(try clear hb);(try clear hb2);(try clear hk);(try clear hi);(try clear Y)));try go_wp2_with (first|(go_at_call 93;(with_reducible refine(Bo.calls u.out).mono ?_);rintro e bs ⟨a1,rfl,Y,hb⟩;have n0_:=rL Y;have n1_:=sB hb;clear HB;have a2:=n0_;have HB:=n1_;clear n0_ n1_;(try clear hb);(try clear hb2);(try clear hk);(try clear hi);(try clear Y))))
 go_loopg [6] k (fun kq b1 w'=> ∃ (c:Int),b1= .int .i64 c∧Aside0 (As.l0 kq b a m c=some r)∧Aside0 (kq≤k)∧Aside0 (Kd.R Kd.string 9 w' w.heap.size (fun _=>True) a1 m)∧Aside0 (Below w.heap.size w w'))
 case atStart=>exact⟨(0),rS,H',⟨Nat.le_refl _⟩,⟨mR a2⟩,⟨cB⟩⟩
 case round=>
  clear H';obtain⟨c,rfl,HA,HK1,p,HB⟩:=hrel
  cases gk with
  | zero=>exact absurd HA.out (by simp[As.l0])
  | succ k1=>
   have H:=HA.out;clear HA;simp only[As.l0]at H;by_cases j:c<(m.length:Int)
   ·rw[if_pos j]at H;have ao:=decide_eq_true j;clear j;replace H:=gD H;obtain⟨aK,H⟩:=H;by_cases aj:(wrap64 (a+((rdOf ByteArray.empty m c).size:Int)))≤(b.size:Int)
    ·rw[if_pos aj]at H;have b5:=decide_eq_true aj;clear aj;replace H:=gC H;obtain⟨x,H⟩:=H;have bp:=eq_true x;have cG:decide (0≤a)=true:=decide_eq_true x;clear x;replace H:=gC H;obtain⟨y,H⟩:=H;have aL:=eq_true y;have aN:decide (a≤(wrap64 (a+((rdOf ByteArray.empty m c).size:Int))))=true:=decide_eq_true y;have bq:=eq_true (dA:(wrap64 (a+((rdOf ByteArray.empty m c).size:Int)))≤(b.size:Int));by_cases v:(b.extract (a:Int).toNat ((wrap64 (a+((rdOf ByteArray.empty m c).size:Int))):Int).toNat).toList=(rdOf ByteArray.empty m c).toList
     ·rw[if_pos v]at H;obtain⟨aP,aQ⟩:=eT v;clear v;obtain rfl:=Option.some.inj H;obtain⟨cI,cJ,b8⟩:=R_slice p.out;subst b8;have s:0≤(c:Int):=dA;have t:c<(m.length:Int):=dA;obtain⟨au,av,bu⟩:=at_string (R_reads' p.out).2.2 c s t;cases av;replace s:=eq_true s;replace t:=eq_true t;have ac:0≤(c:Int):=dA;have ad:c<(m.length:Int):=dA;obtain⟨a3,a4,b9⟩:=at_string (R_reads' p.out).2.2 c ac ad
      obtain rfl:au=a3:=(by injection a4)
      replace ac:=eq_true ac;replace ad:=eq_true ad;have a5:0≤(c:Int):=dA;have a6:c<(m.length:Int):=dA;obtain⟨ca,cb,cL⟩:=at_string (R_reads' p.out).2.2 c a5 a6
      obtain rfl:au=ca:=(by injection cb)
      replace a5:=eq_true a5;replace a6:=eq_true a6;go_wp2
      repeat(go_quiet (fail);try go_wp2)
      go_ret;exact⟨rE,cB⟩
     ·rw[if_neg v]at H;obtain⟨aP,aQ⟩:=eF v;have H':=aM H;clear H;obtain⟨cM,cN,cc⟩:=R_slice p.out;subst cc;have s:0≤(c:Int):=dA;have t:c<(m.length:Int):=dA;obtain⟨au,av,bu⟩:=at_string (R_reads' p.out).2.2 c s t;cases av;replace s:=eq_true s;replace t:=eq_true t;have ac:0≤(c:Int):=dA;have ad:c<(m.length:Int):=dA;obtain⟨a3,a4,b9⟩:=at_string (R_reads' p.out).2.2 c ac ad
      obtain rfl:au=a3:=(by injection a4)
      replace ac:=eq_true ac;replace ad:=eq_true ad;go_wp2
      repeat(go_quiet (fail);try go_wp2)
      go_roundg k1
      case measure=>exact oK
      case rel=>exact⟨(wrap64 (c+1)),rS,H',⟨oK⟩,⟨mR p⟩,⟨cB⟩⟩
    ·rw[if_neg aj]at H;have b5:=decide_eq_false aj;clear aj;have H':=aM H;clear H;obtain⟨cO,cP,cd⟩:=R_slice p.out;subst cd;have s:0≤(c:Int):=dA;have t:c<(m.length:Int):=dA;obtain⟨au,av,bu⟩:=at_string (R_reads' p.out).2.2 c s t;cases av;replace s:=eq_true s;replace t:=eq_true t;go_wp2
     repeat(go_quiet (fail);try go_wp2)
     go_roundg k1
     case measure=>exact oK
     case rel=>exact⟨(wrap64 (c+1)),rS,H',⟨oK⟩,⟨mR p⟩,⟨cB⟩⟩
   ·rw[if_neg j]at H;have ao:=decide_eq_false j;clear j;obtain rfl:=Option.some.inj H;obtain⟨cQ,cR,ce⟩:=R_slice p.out;subst ce;go_wp2
    repeat(go_quiet (fail);try go_wp2)
    go_ret;exact⟨rE,cB⟩
mutual
def AD.l0:Nat→ByteArray→List (S95)→List (S95)→Int→Option ((List (S95))×Bool)
  | 0,_,_,_,_=>none
  | k+1,g,m,j,d=>if d<(g.size:Int)then(if 0≤d then(if(bt g d)=32 then(AD.j1 k g m j d true)else(AD.j1 k g m j d ((bt g d) == 10)))else(none))else(some (j,true))
def AD.j1:Nat→ByteArray→List (S95)→List (S95)→Int→Bool→Option ((List (S95))×Bool)
  | 0,_,_,_,_,_=>none
  | k+1,g,m,j,d,a8=>if a8=true then(AD.l0 k g m j (wrap64 (d+1)))else((Ak.f k g d 97 122).bind fun l=>(if l>0 then(if l>12 then(some (m,false))else(if 0≤d then(if d≤(wrap64 (d+l))then(if(wrap64 (d+l))≤(g.size:Int)then(if j.length<4398046511104 then(AD.l0 k g m (j ++ [(⟨1,g.extract (d:Int).toNat ((wrap64 (d+l)):Int).toNat,0⟩ :S95)]) (wrap64 (d+l)))else(none))else(none))else(none))else(none)))else((Ak.f k g d 48 57).bind fun o=>(if o>0 then(AD.l1 k g m j d o 0 d)else((As.f k g d).bind fun t=>(if t.toList=([] :List UInt8)then(some (m,false))else(if j.length<4398046511104 then(AD.l0 k g m (j ++ [(⟨3,t,0⟩ :S95)]) (wrap64 (d+(t.size:Int))))else(none))))))))
def AD.j3:Nat→ByteArray→List (S95)→List (S95)→Int→Int→Int→Option ((List (S95))×Bool)
  | 0,_,_,_,_,_,_=>none
  | k+1,g,m,j,d,r,v=>if r>10 then(AD.j4 k g m j d r v true)else((Ab.f v).bind fun aH=>(AD.j4 k g m j d r v (!aH)))
def AD.j4:Nat→ByteArray→List (S95)→List (S95)→Int→Int→Int→Bool→Option ((List (S95))×Bool)
  | 0,_,_,_,_,_,_,_=>none
  | k+1,g,m,j,d,r,v,a9=>if a9=true then(some (m,false))else(if j.length<4398046511104 then(AD.l0 k g m (j ++ [(⟨2,(⟨#[]⟩ :ByteArray),v⟩ :S95)]) (wrap64 (d+r)))else(none))
def AD.l1:Nat→ByteArray→List (S95)→List (S95)→Int→Int→Int→Int→Option ((List (S95))×Bool)
  | 0,_,_,_,_,_,_,_=>none
  | k+1,g,m,j,d,r,v,ah=>if ah<(wrap64 (d+r))then(if r≤10 then(if 0≤ah then(if ah<(g.size:Int)then(AD.l1 k g m j d r (wrap64 ((wrap64 ((wrap64 (10*v))+(wrap64 (bt g ah)))) - 48)) (wrap64 (ah+1)))else(none))else(none))else(AD.j3 k g m j d r v))else(AD.j3 k g m j d r v)
end
def AD.f (k:Nat) (b:ByteArray):Option ((List (S95))×Bool):=(some (([] :List (S95)):List (S95))).bind fun q=>(if(b.size:Int)>1200 then(some (q,false))else(AD.l0 k b q (([] :List (S95))) 0))
theorem AD.calls {k:Nat}{b:ByteArray}{r1:List (S95)}{r2:Bool}{w:World}(h:AD.f k b=some (r1,r2)) :
 Calls Tryz.prog 31 #[.string b] w fun e w'=> ∃ v0_:Value,e= .returned (.tuple #[v0_,.bool r2])∧Kd.R k95 95 w' w.heap.size (fun _=>True) v0_ r1∧Below w.heap.size w w':=by
 have hu95:=Tryz.underlying95;have HB:=rW w
 unfold AD.f at h;have H:=h
 clear h;replace H:=nE H;obtain⟨q,av,H⟩:=H;by_cases s:(b.size:Int)>1200
 ·rw[if_pos s]at H;have W:decide (1200<(b.size:Int))=true:=decide_eq_true s
  have X:decide (1200<b.size)=true:=decide_eq_true (by omega)
  clear s;simp only[Option.some.injEq,Prod.mk.injEq]at H;obtain⟨rfl,rfl⟩:=H;go_enter Tryz.func31,Tryz.ntmps31
  go_wp2_with (first|((with_reducible refine gN 11 ?_);refine R_lit k95 _ 95 ?hg (N:=11) ?hd (xs:=([] :List (S95))) (inner:=[]) (ok:=fun _=>True) (okp:=fun _=>True) ?hr ?hp (fun _ hk=>hk) trivial (Below.refl _ _) (Nat.le_refl _) (by simp) ?_;(case hd=>rfl);(case hg=>rfl);(case hr=>exact rG);(case hp=>exact(Reps.none _ _));intro p bw ai hb hg_ hnew_;clear hg_ hnew_;(first|rw[← av.out]at ai|(simp only[Int.reduceToNat]at ai;rw[← av.out]at ai));have Y:=rL ai;replace HB:=sB hb;clear hb ai))
  go_ret2;exact⟨_,rE,mR Y,cB⟩
 ·rw[if_neg s]at H;have W:decide (1200<(b.size:Int))=false:=decide_eq_false s
  have X:decide (1200<b.size)=false:=decide_eq_false (by omega)
  clear s;obtain⟨ba,aI⟩ : ∃ y_:List (S95),Aside0 (y_=(([] :List (S95)))):=⟨_,⟨rfl⟩⟩;rw[← aI.out]at H;have H':=aM H;clear H;go_enter Tryz.func31,Tryz.ntmps31
  go_wp2_with (first|((with_reducible refine gN 11 ?_);refine R_lit k95 _ 95 ?hg (N:=11) ?hd (xs:=([] :List (S95))) (inner:=[]) (ok:=fun _=>True) (okp:=fun _=>True) ?hr ?hp (fun _ hk=>hk) trivial (Below.refl _ _) (Nat.le_refl _) (by simp) ?_;(case hd=>rfl);(case hg=>rfl);(case hr=>exact rG);(case hp=>exact(Reps.none _ _));intro p bx aj hb hg_ hnew_;clear hg_ hnew_;(first|rw[← av.out]at aj|(simp only[Int.reduceToNat]at aj;rw[← av.out]at aj));have Y:=rL aj;replace HB:=sB hb;clear hb aj)|((with_reducible refine gN 16 ?_);refine R_lit k95 _ 95 ?hg (N:=16) ?hd (xs:=([] :List (S95))) (inner:=[]) (ok:=fun _=>True) (okp:=fun _=>True) ?hr ?hp (fun _ hk=>hk) trivial (Below.refl _ _) (Nat.le_refl _) (by simp) ?_;(case hd=>rfl);(case hg=>rfl);(case hr=>exact rG);(case hp=>exact(Reps.none _ _));intro bz bA aa hb hg_ hnew_;clear hg_ hnew_;(first|rw[← aI.out]at aa|(simp only[Int.reduceToNat]at aa;rw[← aI.out]at aa));have bb:=aM (R_lower (R_new' aa (R_lt (mR Y))) (below_size cB));replace Y:=eB Y (R_base aa) hb;replace HB:=sB hb;clear hb aa))
  go_loopg [5,6] k (fun kq aY bd w'=> ∃ (n:List (S95)) (a:Int),bd= .int .i64 a∧Aside0 (AD.l0 kq b q n a=some (r1,r2))∧Aside0 (kq≤k)∧Aside0 (Kd.R k95 95 w' w.heap.size (fun k_=>some k_≠(aY:Value).ownBlock) p q)∧Aside0 (Kd.R k95 95 w' w.heap.size (fun k_=>some k_≠(p:Value).ownBlock) aY n)∧Aside0 (Below w.heap.size w w'))
  case atStart=>exact⟨(ba),(0),rS,H',⟨Nat.le_refl _⟩,⟨rM Y (fun _ hk=>hk.2)⟩,⟨rM bb (fun _ hk=>hk.2)⟩,⟨cB⟩⟩
  case round=>
   clear H';(try clear s);(try clear W);(try clear X);obtain⟨n,a,rfl,HA,HK1,c,i,HB⟩:=hrel
   cases gk with
   | zero=>exact absurd HA.out (by simp[AD.l0])
   | succ k1=>
    have H:=HA.out;clear HA;simp only[AD.l0]at H;by_cases u:a<(b.size:Int)
    ·rw[if_pos u]at H;have ak:=decide_eq_true u;clear u;have HC10:=aM H;clear H
     go_upto_region 7 with(fail)
     go_cut [30] (fun be wc=> ∃ (kq:Nat) (aw:Bool),be= .bool aw∧Aside0 (AD.j1 kq b q n a aw=some (r1,r2))∧Aside0 (kq≤k1)∧Aside0 (Kd.R k95 95 wc w.heap.size (fun k_=>some k_≠(u5:Value).ownBlock) p q)∧Aside0 (Kd.R k95 95 wc w.heap.size (fun k_=>some k_≠(p:Value).ownBlock) u5 n)∧Aside0 (Below w.heap.size w wc))
     case first=>
      have H:=HC10.out;clear HC10;replace H:=gD H;obtain⟨ab,H⟩:=H
      (first|rw[ab]|(simp only[i64_w,i32_w];rw[ab])|skip)
      by_cases x:(bt b a)=32
      ·rw[if_pos x]at H;obtain⟨al,am⟩:=eT x;clear x;have H':=aM H;clear H;have y:0≤(a:Int):=dA;have z:a<(b.size:Int):=dA;have an:=bt_at b a;replace y:=eq_true y;replace z:=eq_true z;go_wp2;go_meet
       case rel=>exact⟨_,(true),rS,H',⟨by have:=HK1.out;first|omega|exact Nat.le_refl _⟩,⟨mR c⟩,⟨mR i⟩,⟨cB⟩⟩
      ·rw[if_neg x]at H;obtain⟨al,am⟩:=eF x;have H':=aM H;clear H;have y:0≤(a:Int):=dA;have z:a<(b.size:Int):=dA;have an:=bt_at b a;replace y:=eq_true y;replace z:=eq_true z;have ac:0≤(a:Int):=dA;have ad:a<(b.size:Int):=dA;have ax:=bt_at b a;replace ac:=eq_true ac;replace ad:=eq_true ad;go_wp2;go_meet
       case rel=>exact⟨_,(((bt b a) == 10)),rS,H',⟨by have:=HK1.out;first|omega|exact Nat.le_refl _⟩,⟨mR c⟩,⟨mR i⟩,⟨cB⟩⟩
     case rest=>
      clear HC10;(try clear s);(try clear W);(try clear X);(try clear u);(try clear ak);(try clear aJ);(try clear ab);(try clear y);(try clear z);(try clear an);(try clear x);(try clear al);(try clear am);(try clear ac);(try clear ad);(try clear ax);obtain⟨kq,aw,rfl,HA,HJ9,c,i,HB⟩:=hcut
      cases kq with
      | zero=>exact absurd HA.out (by simp[AD.j1])
      | succ kj9=>
       have H:=HA.out;clear HA;simp only[AD.j1]at H;by_cases M:aw=true
       ·subst M;replace H:=iT H;have H':=aM H;clear H;go_wp2;go_roundg kj9
        case measure=>have:=HK1.out;have:=HJ9.out;omega
        case rel=>exact⟨(n),(wrap64 (a+1)),rS,H',⟨by have:=HK1.out;have:=HJ9.out;omega⟩,⟨mR c⟩,⟨mR i⟩,⟨cB⟩⟩
       ·replace M:=Bool.eq_false_iff.mpr M;subst M;replace H:=iF H;replace H:=bE H;obtain⟨l,ao,H⟩:=H;by_cases A:l>0
        ·rw[if_pos A]at H;have ay:decide (0<l)=true:=decide_eq_true A;clear A;by_cases D:l>12
         ·rw[if_pos D]at H;have az:decide (12<l)=true:=decide_eq_true D;clear D;simp only[Option.some.injEq,Prod.mk.injEq]at H;obtain⟨rfl,rfl⟩:=H
          go_wp2_with (first|((with_reducible refine gF 67 ?_);refine gX (some 35) Tryz.func67 (Ak.calls ao.out) ?_;rintro w' ⟨nd,rfl⟩))
          go_ret2
          exact⟨_,rE,by(with_reducible repeat(first|apply R_alloc|apply R_drewN|apply R_drew));exact R_mono c.out (fun _ hk=>trivial),cB⟩
         ·rw[if_neg D]at H;have az:decide (12<l)=false:=decide_eq_false D;clear D;replace H:=gC H;obtain⟨ae,H⟩:=H;have aK:=eq_true ae;have aN:decide (0≤a)=true:=decide_eq_true ae;clear ae;replace H:=gC H;obtain⟨ap,H⟩:=H;have aQ:=eq_true ap;have aR:decide (a≤(wrap64 (a+l)))=true:=decide_eq_true ap;replace H:=gC H;obtain⟨aq,H⟩:=H;have aT:=eq_true aq;have aU:decide ((wrap64 (a+l))≤(b.size:Int))=true:=decide_eq_true aq;replace H:=gC H;obtain⟨ar,H⟩:=H;have bf:=aM ar;clear ar;obtain⟨bg,aZ⟩ : ∃ y_:List (S95),Aside0 (y_=(n ++ [(⟨1,b.extract (a:Int).toNat ((wrap64 (a+l)):Int).toNat,0⟩ :S95)])):=⟨_,⟨rfl⟩⟩;rw[← aZ.out]at H;have H':=aM H;clear H
          go_wp2_with (first|((with_reducible refine gF 67 ?_);refine gX (some 35) Tryz.func67 (Ak.calls ao.out) ?_;rintro w' ⟨nd,rfl⟩)|((with_reducible refine gA 41 49 ?_);at_builtin;refine R_append k95 (w0:=w) w.heap.size rfl (.tmp 41) (.tmp 49) 58 95 (.agg #[(.int .i64 0),(.string ⟨#[]⟩),(.int .i64 0)]) 32 rfl Tryz.underlying58 info95 rfl (by decide) (by omega) u5 n (⟨1,b.extract (a:Int).toNat ((wrap64 (a+l)):Int).toNat,0⟩ :S95) [.int .i64 1,.string (b.extract (a:Int).toNat ((wrap64 (a+l)):Int).toNat),.int .i64 0] (fun k_=>some k_≠(p:Value).ownBlock) (fun _=>False) rfl rfl ?aP (fun _ hk=>hk.elim) ?aF ?aO ?aB ?aS ?aL ?_;(case aP=>exact k95_mkM _ _ _ (⟨1,b.extract (a:Int).toNat ((wrap64 (a+l)):Int).toNat,0⟩ :S95));(case aB=>exact cB);(case aF=>exact(fun k_ hk=>Kd.fresh' (R_lt (mR c)) k_ hk));(case aO=>exact(mR i));(case aS=>exact(below_size cB));(case aL=>have:=bf.out;omega);intro bB bC ho hb hg hat;rw[← aZ.out]at ho;replace c:=aM (R_after (ok:=(fun _=>True)) (by exact rM c (fun _ hk=>⟨trivial,hk⟩)) hg hat);replace HB:=aM hb;have bh:=aM ho;clear i ho hb hg hat))
          go_roundg kj9
          case measure=>have:=HK1.out;have:=HJ9.out;omega
          case rel=>exact⟨(bg),(wrap64 (a+l)),rS,H',⟨by have:=HK1.out;have:=HJ9.out;omega⟩,⟨rM c (fun _ hk=>hk.2)⟩,⟨mR bh⟩,⟨cB⟩⟩
        ·rw[if_neg A]at H;have ay:decide (0<l)=false:=decide_eq_false A;clear A;replace H:=bE H;obtain⟨o,aV,H⟩:=H;by_cases E:o>0
         ·rw[if_pos E]at H;have aA:decide (0<o)=true:=decide_eq_true E;clear E;have HC26:=aM H;clear H
          go_upto_block 2 with(first|((with_reducible refine gate_callee (f:=67) rfl ?_);refine goesL_ (some 35) rfl rfl Tryz.func67 (by kernel_rfl) rfl #[.string b,.int .i64 a,.int .u8 97,.int .u8 122] rfl (by(try simp only[List.map_toArray,List.map_cons,List.map_nil]);first|done|rfl|(simp only[List.length_drop,List.length_take];rfl)) ?_;(with_reducible refine(Ak.calls ao.out).mono ?_);rintro e w' ⟨rfl,⟨nd,rfl⟩⟩;refine⟨_,rfl,?_⟩)|((with_reducible refine gate_callee (f:=67) rfl ?_);refine goesL_ (some 56) rfl rfl Tryz.func67 (by kernel_rfl) rfl #[.string b,.int .i64 a,.int .u8 48,.int .u8 57] rfl (by(try simp only[List.map_toArray,List.map_cons,List.map_nil]);first|done|rfl|(simp only[List.length_drop,List.length_take];rfl)) ?_;(with_reducible refine(Ak.calls aV.out).mono ?_);rintro e w' ⟨rfl,⟨nd,rfl⟩⟩;refine⟨_,rfl,?_⟩))
          (try simp only[Act.put,List.setIfInBounds_toArray,List.set_cons_zero,List.set_cons_succ])
          go_cut [8] (fun aW wc=> ∃ (kq:Nat) (I:Int),aW= .int .i64 I∧Aside0 (AD.j3 kq b q n a o I=some (r1,r2))∧Aside0 (kq≤kj9)∧Aside0 (Kd.R k95 95 wc w.heap.size (fun k_=>some k_≠(u5:Value).ownBlock) p q)∧Aside0 (Kd.R k95 95 wc w.heap.size (fun k_=>some k_≠(p:Value).ownBlock) u5 n)∧Aside0 (Below w.heap.size w wc))
          case first=>
           have H:=HC26.out;clear HC26;have H':=aM H;clear H;go_wp2
           go_loopg [8,9] kj9 (fun kq aW bi w'=> ∃ (af:Int) (G:Int),aW= .int .i64 af∧bi= .int .i64 G∧Aside0 (AD.l1 kq b q n a o af G=some (r1,r2))∧Aside0 (kq≤kj9)∧Aside0 (Kd.R k95 95 w' w.heap.size (fun k_=>some k_≠(u5:Value).ownBlock) p q)∧Aside0 (Kd.R k95 95 w' w.heap.size (fun k_=>some k_≠(p:Value).ownBlock) u5 n)∧Aside0 (Below w.heap.size w w'))
           case atStart=>exact⟨(0),(a),rS,rS,H',⟨Nat.le_refl _⟩,⟨mR c⟩,⟨mR i⟩,⟨cB⟩⟩
           case round=>
            clear H';(try clear s);(try clear W);(try clear X);(try clear u);(try clear ak);(try clear aJ);(try clear ab);(try clear y);(try clear z);(try clear an);(try clear x);(try clear al);(try clear am);(try clear ac);(try clear ad);(try clear ax);(try clear M);(try clear A);(try clear ay);(try clear D);(try clear az);(try clear ae);(try clear aK);(try clear aN);(try clear ap);(try clear aQ);(try clear aR);(try clear aq);(try clear aT);(try clear aU);(try clear ar);(try clear E);(try clear aA);obtain⟨af,G,rfl,rfl,HA,HK3,c,i,HB⟩:=hrel
            cases gk with
            | zero=>exact absurd HA.out (by simp[AD.l1])
            | succ k3=>
             have H:=HA.out;clear HA;simp only[AD.l1]at H;by_cases J:G<(wrap64 (a+o))
             ·rw[if_pos J]at H;have O:=decide_eq_true J;clear J
              (first|rw[O]|(simp only[i64_w,i32_w];rw[O])|skip)
              by_cases L:o≤10
              ·rw[if_pos L]at H;have aX:=decide_eq_true L;clear L;replace H:=gD H;obtain⟨a0,H⟩:=H;replace H:=gD H;obtain⟨a1,H⟩:=H;have H':=aM H;clear H;have aC:0≤(G:Int):=dA;have aD:G<(b.size:Int):=dA;have a2:=bt_at b G;replace aC:=eq_true aC;replace aD:=eq_true aD;go_wp2;go_roundg k3
               case measure=>have:=HK1.out;have:=HJ9.out;have:=HK3.out;omega
               case rel=>exact⟨(wrap64 ((wrap64 ((wrap64 (10*af))+(wrap64 (bt b G)))) - 48)),(wrap64 (G+1)),rS,rS,H',⟨by have:=HK1.out;have:=HJ9.out;have:=HK3.out;omega⟩,⟨mR c⟩,⟨mR i⟩,⟨cB⟩⟩
              ·rw[if_neg L]at H;have aX:=decide_eq_false L;clear L;have H':=aM H;clear H;go_wp2;go_meet
               case rel=>exact⟨_,(af),rS,H',⟨by have:=HK1.out;have:=HJ9.out;have:=HK3.out;first|omega|exact Nat.le_refl _⟩,⟨mR c⟩,⟨mR i⟩,⟨cB⟩⟩
             ·rw[if_neg J]at H;have O:=decide_eq_false J;clear J
              (first|rw[O]|(simp only[i64_w,i32_w];rw[O])|skip)
              have H':=aM H;clear H;go_wp2;go_meet
              case rel=>exact⟨_,(af),rS,H',⟨by have:=HK1.out;have:=HJ9.out;have:=HK3.out;first|omega|exact Nat.le_refl _⟩,⟨mR c⟩,⟨mR i⟩,⟨cB⟩⟩
          case rest=>
           clear HC26;(try clear s);(try clear W);(try clear X);(try clear u);(try clear ak);(try clear aJ);(try clear ab);(try clear y);(try clear z);(try clear an);(try clear x);(try clear al);(try clear am);(try clear ac);(try clear ad);(try clear ax);(try clear M);(try clear A);(try clear ay);(try clear D);(try clear az);(try clear ae);(try clear aK);(try clear aN);(try clear ap);(try clear aQ);(try clear aR);(try clear aq);(try clear aT);(try clear aU);(try clear ar);(try clear E);(try clear aA);(try clear J);(try clear O);(try clear L);(try clear aX);(try clear bj);(try clear a0);(try clear bk);(try clear a1);(try clear aC);(try clear aD);(try clear a2);obtain⟨kq,I,rfl,HA,HJ25,c,i,HB⟩:=hcut
           cases kq with
           | zero=>exact absurd HA.out (by simp[AD.j3])
           | succ kj25=>
            have H:=HA.out;clear HA;simp only[AD.j3]at H;have HC32:=aM H;clear H
            go_upto_region 22 with(fail)
            go_cut [85] (fun bl wc=> ∃ (kq:Nat) (aE:Bool),bl= .bool aE∧Aside0 (AD.j4 kq b q n a o I aE=some (r1,r2))∧Aside0 (kq≤kj25)∧Aside0 (Kd.R k95 95 wc w.heap.size (fun k_=>some k_≠(u5:Value).ownBlock) p q)∧Aside0 (Kd.R k95 95 wc w.heap.size (fun k_=>some k_≠(p:Value).ownBlock) u5 n)∧Aside0 (Below w.heap.size w wc))
            case first=>
             have H:=HC32.out;clear HC32;by_cases U:o>10
             ·rw[if_pos U]at H;have ag:decide (10<o)=true:=decide_eq_true U;clear U
              (first|rw[ag]|(simp only[i64_w,i32_w];rw[ag])|skip)
              have H':=aM H;clear H;go_wp2;go_meet
              case rel=>exact⟨_,(true),rS,H',⟨by have:=HK1.out;have:=HJ9.out;have:=HJ25.out;first|omega|exact Nat.le_refl _⟩,⟨mR c⟩,⟨mR i⟩,⟨cB⟩⟩
             ·rw[if_neg U]at H;have ag:decide (10<o)=false:=decide_eq_false U;clear U
              (first|rw[ag]|(simp only[i64_w,i32_w];rw[ag])|skip)
              replace H:=bE H;obtain⟨aH,bm,H⟩:=H;have H':=aM H;clear H
              go_wp2_with (first|(go_at_call 68;(with_reducible refine(Ab.calls bm.out).mono ?_);rintro e w' ⟨rfl,⟨nd,rfl⟩⟩))
              go_meet
              case rel=>exact⟨_,(!aH),rS,H',⟨by have:=HK1.out;have:=HJ9.out;have:=HJ25.out;first|omega|exact Nat.le_refl _⟩,⟨mR c⟩,⟨mR i⟩,⟨cB⟩⟩
            case rest=>
             clear HC32;(try clear s);(try clear W);(try clear X);(try clear u);(try clear ak);(try clear aJ);(try clear ab);(try clear y);(try clear z);(try clear an);(try clear x);(try clear al);(try clear am);(try clear ac);(try clear ad);(try clear ax);(try clear M);(try clear A);(try clear ay);(try clear D);(try clear az);(try clear ae);(try clear aK);(try clear aN);(try clear ap);(try clear aQ);(try clear aR);(try clear aq);(try clear aT);(try clear aU);(try clear ar);(try clear E);(try clear aA);(try clear J);(try clear O);(try clear L);(try clear aX);(try clear bj);(try clear a0);(try clear bk);(try clear a1);(try clear aC);(try clear aD);(try clear a2);(try clear U);(try clear ag);obtain⟨kq,aE,rfl,HA,HJ31,c,i,HB⟩:=hcut
             cases kq with
             | zero=>exact absurd HA.out (by simp[AD.j4])
             | succ kj31=>
              have H:=HA.out;clear HA;simp only[AD.j4]at H;by_cases aG:aE=true
              ·subst aG;replace H:=iT H;simp only[Option.some.injEq,Prod.mk.injEq]at H;obtain⟨rfl,rfl⟩:=H;go_wp2;go_ret2
               exact⟨_,rE,by(with_reducible repeat(first|apply R_alloc|apply R_drewN|apply R_drew));exact R_mono c.out (fun _ hk=>trivial),cB⟩
              ·replace aG:=Bool.eq_false_iff.mpr aG;subst aG;replace H:=iF H;replace H:=gC H;obtain⟨a3,H⟩:=H;have bn:=aM a3;clear a3;obtain⟨bo,a4⟩ : ∃ y_:List (S95),Aside0 (y_=(n ++ [(⟨2,(⟨#[]⟩ :ByteArray),I⟩ :S95)])):=⟨_,⟨rfl⟩⟩;rw[← a4.out]at H;have H':=aM H;clear H
               go_wp2_with (first|((with_reducible refine gA 87 90 ?_);at_builtin;refine R_append k95 (w0:=w) w.heap.size rfl (.tmp 87) (.tmp 90) 58 95 (.agg #[(.int .i64 0),(.string ⟨#[]⟩),(.int .i64 0)]) 32 rfl Tryz.underlying58 info95 rfl (by decide) (by omega) u5 n (⟨2,(⟨#[]⟩ :ByteArray),I⟩ :S95) [.int .i64 2,.string (⟨#[]⟩ :ByteArray),.int .i64 I] (fun k_=>some k_≠(p:Value).ownBlock) (fun _=>False) rfl rfl ?aP (fun _ hk=>hk.elim) ?aF ?aO ?aB ?aS ?aL ?_;(case aP=>exact k95_mkM _ _ _ (⟨2,(⟨#[]⟩ :ByteArray),I⟩ :S95));(case aB=>exact cB);(case aF=>exact(fun k_ hk=>Kd.fresh' (R_lt (mR c)) k_ hk));(case aO=>exact(mR i));(case aS=>exact(below_size cB));(case aL=>have:=bn.out;omega);intro bD bF ho hb hg hat;rw[← a4.out]at ho;replace c:=aM (R_after (ok:=(fun _=>True)) (by exact rM c (fun _ hk=>⟨trivial,hk⟩)) hg hat);replace HB:=aM hb;have bp:=aM ho;clear i ho hb hg hat))
               go_roundg kj31
               case measure=>have:=HK1.out;have:=HJ9.out;have:=HJ25.out;have:=HJ31.out;omega
               case rel=>exact⟨(bo),(wrap64 (a+o)),rS,H',⟨by have:=HK1.out;have:=HJ9.out;have:=HJ25.out;have:=HJ31.out;omega⟩,⟨rM c (fun _ hk=>hk.2)⟩,⟨mR bp⟩,⟨cB⟩⟩
         ·rw[if_neg E]at H;have aA:decide (0<o)=false:=decide_eq_false E;clear E;replace H:=bE H;obtain⟨t,a5,H⟩:=H;by_cases au:t.toList=([] :List UInt8)
          ·rw[if_pos au]at H;obtain⟨bq,br⟩:=eT au;clear au;simp only[Option.some.injEq,Prod.mk.injEq]at H;obtain⟨rfl,rfl⟩:=H
           go_wp2_with (first|((with_reducible refine gF 67 ?_);refine gX (some 35) Tryz.func67 (Ak.calls ao.out) ?_;rintro w' ⟨nd,rfl⟩)|((with_reducible refine gF 67 ?_);refine gX (some 56) Tryz.func67 (Ak.calls aV.out) ?_;rintro w' ⟨nd,rfl⟩)|((with_reducible refine gF 69 ?_);refine gX (some 97) Tryz.func69 (As.calls a5.out) ?_;intro bG hb;replace c:=rB c hb;replace i:=rB i hb;replace HB:=sB hb;clear hb))
           go_ret2
           exact⟨_,rE,by(with_reducible repeat(first|apply R_alloc|apply R_drewN|apply R_drew));exact R_mono c.out (fun _ hk=>trivial),cB⟩
          ·rw[if_neg au]at H;obtain⟨bq,br⟩:=eF au;replace H:=gC H;obtain⟨a6,H⟩:=H;have bs:=aM a6;clear a6;obtain⟨bu,a7⟩ : ∃ y_:List (S95),Aside0 (y_=(n ++ [(⟨3,t,0⟩ :S95)])):=⟨_,⟨rfl⟩⟩;rw[← a7.out]at H;have H':=aM H;clear H
           go_wp2_with (first|((with_reducible refine gF 67 ?_);refine gX (some 35) Tryz.func67 (Ak.calls ao.out) ?_;rintro w' ⟨nd,rfl⟩)|((with_reducible refine gF 67 ?_);refine gX (some 56) Tryz.func67 (Ak.calls aV.out) ?_;rintro w' ⟨nd,rfl⟩)|((with_reducible refine gF 69 ?_);refine gX (some 97) Tryz.func69 (As.calls a5.out) ?_;intro bH hb;replace c:=rB c hb;replace i:=rB i hb;replace HB:=sB hb;clear hb)|((with_reducible refine gA 101 104 ?_);at_builtin;refine R_append k95 (w0:=w) w.heap.size rfl (.tmp 101) (.tmp 104) 58 95 (.agg #[(.int .i64 0),(.string ⟨#[]⟩),(.int .i64 0)]) 32 rfl Tryz.underlying58 info95 rfl (by decide) (by omega) u5 n (⟨3,t,0⟩ :S95) [.int .i64 3,.string t,.int .i64 0] (fun k_=>some k_≠(p:Value).ownBlock) (fun _=>False) rfl rfl ?aP (fun _ hk=>hk.elim) ?aF ?aO ?aB ?aS ?aL ?_;(case aP=>exact k95_mkM _ _ _ (⟨3,t,0⟩ :S95));(case aB=>exact cB);(case aF=>exact(fun k_ hk=>Kd.fresh' (R_lt (mR c)) k_ hk));(case aO=>exact(mR i));(case aS=>exact(below_size cB));(case aL=>have:=bs.out;omega);intro bI bJ ho hb hg hat;rw[← a7.out]at ho;replace c:=aM (R_after (ok:=(fun _=>True)) (by exact rM c (fun _ hk=>⟨trivial,hk⟩)) hg hat);replace HB:=aM hb;have bv:=aM ho;clear i ho hb hg hat))
           go_roundg kj9
           case measure=>have:=HK1.out;have:=HJ9.out;omega
           case rel=>exact⟨(bu),(wrap64 (a+(t.size:Int))),rS,H',⟨by have:=HK1.out;have:=HJ9.out;omega⟩,⟨rM c (fun _ hk=>hk.2)⟩,⟨mR bv⟩,⟨cB⟩⟩
    ·rw[if_neg u]at H;have ak:=decide_eq_false u;clear u;simp only[Option.some.injEq,Prod.mk.injEq]at H;obtain⟨rfl,rfl⟩:=H;go_wp2;go_ret2
     exact⟨_,rE,by(with_reducible repeat(first|apply R_alloc|apply R_drewN|apply R_drew));exact R_mono i.out (fun _ hk=>trivial),cB⟩
/-- A state of type 74 at block g of W; what its slices lead to came in by b. -/
def IsS74 (b W:World) (g:Nat) (f0:List (S95)) (f1:Int) (f2:Bool):Prop:= ∃ c i,W.heap[g]?=some (.cells #[.slice c f0.length i,.int .i64 f1,.bool f2] 74 (0,0))∧b.heap.size≤g∧Kd.C k95 b c f0.length f0
theorem IsS74.grown {b W:World} {g:Nat} {f0:List (S95)} {f1:Int} {f2:Bool} {W1:World} {row:Option Nat} (h:IsS74 b W g f0 f1 f2) (hw:W.grownBy W1 row) (hne:some g≠row):IsS74 b W1 g f0 f1 f2:=by
  obtain⟨c,i,hb,hg,n⟩:=h
  exact⟨c,i,blk_grown hb hw hne,hg,n⟩
theorem IsS74.own_neN {b W:World} {g:Nat} {f0:List (S95)} {f1:Int} {f2:Bool} {α:Type} {d:Kd α} {e:Nat} {base:Nat} {ok:Nat→Prop} {v:Value} {xs:List α} (h:IsS74 b W g f0 f1 f2) (ho:Kd.N d e W base ok v xs) (ht:e≠74):some g≠v.ownBlock:=by
  obtain⟨c,i,hb,hg,n⟩:=h
  exact N_ne ho hb ht
theorem IsS74.fresh {b W:World} {g:Nat} {f0:List (S95)} {f1:Int} {f2:Bool} (h:IsS74 b W g f0 f1 f2): ∀ k,W.heap.size≤k→k≠g:=by
  obtain⟨c,i,hb,hg,n⟩:=h
  exact Kd.freshB hb
theorem IsS74.kept {b W:World} {g:Nat} {f0:List (S95)} {f1:Int} {f2:Bool} {W1:World} {S:Nat→Prop} (h:IsS74 b W g f0 f1 f2) (hk:Kept W W1 S) (hne: ¬ S g):IsS74 b W1 g f0 f1 f2:=by
  obtain⟨c,i,hb,hg,n⟩:=h
  exact⟨c,i,blk_kept hb hk hne,hg,n⟩
theorem IsS74.below {b W:World} {g:Nat} {f0:List (S95)} {f1:Int} {f2:Bool} {W1:World} (h:IsS74 b W g f0 f1 f2) (hw:Below W.heap.size W W1):IsS74 b W1 g f0 f1 f2:=h.grown (grown_of_below hw none) (by simp)
theorem IsS74.alloc {b W:World} {g:Nat} {f0:List (S95)} {f1:Int} {f2:Bool} (h:IsS74 b W g f0 f1 f2) (o:Obj):IsS74 b (W.alloc o) g f0 f1 f2:=h.below (below_alloc (Below.refl _ _) o)
theorem IsS74.drewN {b W:World} {g:Nat} {f0:List (S95)} {f1:Int} {f2:Bool} (h:IsS74 b W g f0 f1 f2) (m:Nat):IsS74 b (W.drewN m) g f0 f1 f2:=h
theorem IsS74.drew {b W:World} {g:Nat} {f0:List (S95)} {f1:Int} {f2:Bool} (h:IsS74 b W g f0 f1 f2):IsS74 b W.drew g f0 f1 f2:=h
theorem IsS74.at_ {b W:World} {g:Nat} {f0:List (S95)} {f1:Int} {f2:Bool} {w':World} {m:Nat} (hq:W.drewN m=w') (h:IsS74 b W g f0 f1 f2):IsS74 b w' g f0 f1 f2:=by subst hq;exact IsS74.drewN h m
theorem IsS74.apart {b W:World} {g:Nat} {f0:List (S95)} {f1:Int} {f2:Bool} {α:Type} {d:Kd α} {e:Nat} {base:Nat} {ok:Nat→Prop} {v:Value} {xs:List α} (h:IsS74 b W g f0 f1 f2) (ho:d.R e W base ok v xs) (ht: ∀ q,q ∈ e :: d.E→q≠74):d.R e W base (fun k=>ok k∧k≠g) v xs:=by
  obtain⟨c,i,hb,hg,n⟩:=h
  exact R_types ho hb ht
theorem IsS74.own_ne {b W:World} {g:Nat} {f0:List (S95)} {f1:Int} {f2:Bool} {α:Type} {d:Kd α} {e:Nat} {base:Nat} {ok:Nat→Prop} {v:Value} {xs:List α} (h:IsS74 b W g f0 f1 f2) (ho:d.R e W base ok v xs) (ht:e≠74):some g≠v.ownBlock:=by
  obtain⟨c,i,hb,hg,n⟩:=h
  exact R_ne ho hb ht
theorem IsS74.apartQ {b W:World} {g:Nat} {f0:List (S95)} {f1:Int} {f2:Bool} {α:Type} {d:Kd α} {e:Nat} {base:Nat} {ok:Nat→Prop} {v:Value} {xs:List α} (h:IsS74 b W g f0 f1 f2) (ho:d.Q e W base ok v xs) (ht: ∀ q,q ∈ e :: d.E→q≠74):d.Q e W base (fun k=>ok k∧k≠g) v xs:=by
  obtain⟨c,i,hb,hg,n⟩:=h
  exact Q_types ho hb ht
theorem IsS74.own_neQ {b W:World} {g:Nat} {f0:List (S95)} {f1:Int} {f2:Bool} {α:Type} {d:Kd α} {e:Nat} {base:Nat} {ok:Nat→Prop} {v:Value} {xs:List α} (h:IsS74 b W g f0 f1 f2) (ho:d.Q e W base ok v xs) (ht:e≠74):some g≠v.ownBlock:=by
  obtain⟨c,i,hb,hg,n⟩:=h
  exact Q_ne ho hb ht
theorem IsS74.apartS {b W:World} {g:Nat} {f0:List (S95)} {f1:Int} {f2:Bool} {α:Type} {d:Kd α} {e:Nat} {base:Nat} {ok:Nat→Prop} {v:Value} {xs:List α} (h:IsS74 b W g f0 f1 f2) (ho:d.S e W base ok v xs) (ht: ∀ q,q ∈ e :: d.E→q≠74):d.S e W base (fun k=>ok k∧k≠g) v xs:=by
  obtain⟨c,i,hb,hg,n⟩:=h
  exact S_types ho hb ht
theorem IsS74.own_neS {b W:World} {g:Nat} {f0:List (S95)} {f1:Int} {f2:Bool} {α:Type} {d:Kd α} {e:Nat} {base:Nat} {ok:Nat→Prop} {v:Value} {xs:List α} (h:IsS74 b W g f0 f1 f2) (ho:d.S e W base ok v xs) (ht:e≠74):some g≠v.ownBlock:=by
  obtain⟨c,i,hb,hg,n⟩:=h
  exact S_ne ho hb ht
theorem IsS74.lt {b W:World} {g:Nat} {f0:List (S95)} {f1:Int} {f2:Bool} (h:IsS74 b W g f0 f1 f2):g<W.heap.size:=by
  obtain⟨c,i,hb,hg,n⟩:=h
  exact blk_lt hb
theorem IsS74.ge {b W:World} {g:Nat} {f0:List (S95)} {f1:Int} {f2:Bool} (h:IsS74 b W g f0 f1 f2):b.heap.size≤g:=by
  obtain⟨c,i,hb,hg,n⟩:=h
  exact hg
theorem IsS74.ne_blk {b W:World} {g:Nat} {f0:List (S95)} {f1:Int} {f2:Bool} {a:Nat} {cs:Array Value} {t:TypeId} {fr:Nat×Nat} (h:IsS74 b W g f0 f1 f2) (hb2:W.heap[a]?=some (.cells cs t fr)) (ht:t≠74):g≠a:=by
  obtain⟨c,i,hb,hg,n⟩:=h
  rintro rfl
  rw[hb]at hb2
  injection hb2 with hb2
  injection hb2 with _ ht2
  exact ht ht2.symm
theorem IsS74.far {b W:World} {g:Nat} {f0:List (S95)} {f1:Int} {f2:Bool} {p:Addr} (h:IsS74 b W g f0 f1 f2) (hne:g≠p.block) (u:Value):IsS74 b (W.setCell p u) g f0 f1 f2:=by
  obtain⟨c,i,hb,hg,n⟩:=h
  exact⟨c,i,blk_far hb hne u,hg,n⟩
theorem cellS74_0 {W:World} {g:Nat} {c:Option Addr} {i:Nat} {f0:List (S95)} {f1:Int} {f2:Bool} (h:W.heap[g]?=some (.cells #[.slice c f0.length i,.int .i64 f1,.bool f2] 74 (0,0))):W.cell? ⟨g,0,none⟩=some (.slice c f0.length i):=(blk_cell h 0).trans rfl
theorem cellS74_1 {W:World} {g:Nat} {c:Option Addr} {i:Nat} {f0:List (S95)} {f1:Int} {f2:Bool} (h:W.heap[g]?=some (.cells #[.slice c f0.length i,.int .i64 f1,.bool f2] 74 (0,0))):W.cell? ⟨g,1,none⟩=some (.int .i64 f1):=(blk_cell h 1).trans rfl
theorem IsS74.set_1 {b W:World} {g:Nat} {f0:List (S95)} {f1:Int} {f2:Bool} (h:IsS74 b W g f0 f1 f2) (x:Int):IsS74 b (W.setCell ⟨g,1,none⟩ (.int .i64 x)) g f0 x f2:=by
  obtain⟨c,i,hb,hg,n⟩:=h
  exact⟨c,i,by simpa using blk_set hb 1 (.int .i64 x),hg,n⟩
theorem cellS74_2 {W:World} {g:Nat} {c:Option Addr} {i:Nat} {f0:List (S95)} {f1:Int} {f2:Bool} (h:W.heap[g]?=some (.cells #[.slice c f0.length i,.int .i64 f1,.bool f2] 74 (0,0))):W.cell? ⟨g,2,none⟩=some (.bool f2):=(blk_cell h 2).trans rfl
theorem IsS74.set_2 {b W:World} {g:Nat} {f0:List (S95)} {f1:Int} {f2:Bool} (h:IsS74 b W g f0 f1 f2) (x:Bool):IsS74 b (W.setCell ⟨g,2,none⟩ (.bool x)) g f0 f1 x:=by
  obtain⟨c,i,hb,hg,n⟩:=h
  exact⟨c,i,by simpa using blk_set hb 2 (.bool x),hg,n⟩
theorem IsS74.new (b W:World) (c:Option Addr) (i:Nat) (f0:List (S95)) (f1:Int) (f2:Bool) (hB:Below b.heap.size b W) (n:Kd.C k95 b c f0.length f0):IsS74 b (W.alloc (.cells #[.slice c f0.length i,.int .i64 f1,.bool f2] 74)) W.heap.size f0 f1 f2:=⟨c,i,by simpa using heap_alloc_new W _,hB.size,n⟩
def Bp.f (s0_0:List (S95)) (s0_1:Int) (s0_2:Bool) (s:Int) (z:ByteArray):Option (Bool×Int×Bool):=if s0_2=true then(some (false,s0_1,s0_2))else(if s0_1<(s0_0.length:Int)then(if 0≤s0_1 then(if((rd_T95 s0_0 s0_1).f0)=s then(some ((((rd_T95 s0_0 s0_1).f1).toList == z.toList),s0_1,s0_2))else(some (false,s0_1,s0_2)))else(none))else(some (false,s0_1,s0_2)))
theorem q20x0 {P:Prop} (h:P:=by repeat(first|(with_reducible first|exact HI0.out|apply IsS74.alloc|apply IsS74.drewN|apply IsS74.drew|apply IsS74.set_1|apply IsS74.set_2)|exact HI0.out)):P:=h
theorem q20x1 {P:Prop} (h:P:=by repeat(first|(with_reducible first|exact HB.out|apply below_alloc|apply pw_below_drewN|apply below_drew1|refine below_set ?_ (IsS74.ge HI0.out))|exact HB.out)):P:=h
theorem Bp.calls (g:Nat) (s0_0:List (S95)) (s0_1:Int) (s0_2:Bool) (s:Int) (z:ByteArray) (r1:Bool) (r2:Int) (r3:Bool) (b w:World) (hI:IsS74 b w g s0_0 s0_1 s0_2) (hB:Below b.heap.size b w) (h:Bp.f s0_0 s0_1 s0_2 s z=some (r1,r2,r3)) :
 Calls Tryz.prog 94 #[.pointer (some ⟨g,0,none⟩),.int .i64 s,.string z] w fun e w'=>e= .returned (.bool r1)∧IsS74 b w' g s0_0 r2 r3∧Below b.heap.size b w'∧KeepBut w w' g none:=by
 have HI0:=aM hI;have HK:=aM (KeepBut.refl w g none);have HL:=aM hB.size;clear hI;have HW0:=aM hB.size;have HB:=aM hB;clear hB;have H:(if s0_2=true then(some (false,s0_1,s0_2))else(if s0_1<(s0_0.length:Int)then(if 0≤s0_1 then(if((rd_T95 s0_0 s0_1).f0)=s then(some ((((rd_T95 s0_0 s0_1).f1).toList == z.toList),s0_1,s0_2))else(some (false,s0_1,s0_2)))else(none))else(some (false,s0_1,s0_2))))=some (r1,r2,r3):=h;clear h;by_cases D:s0_2=true
 ·subst D;replace H:=iT H;simp only[Option.some.injEq,Prod.mk.injEq]at H;obtain⟨rfl,rfl,rfl⟩:=H;obtain⟨ASz5_0,cSz5_0,HGz5,hgz5,HSz5_0⟩:=HI0.out;have bI:=cellS74_0 HGz5;have bJ:=cellS74_1 HGz5;have bL:=cellS74_2 HGz5;have bM:=blk_frozen HGz5 1;have bN:=blk_frozen HGz5 2;clear HGz5 hgz5;go_enter Tryz.func94,Tryz.ntmps94;go_wp2
  repeat(go_quiet (fail);try go_wp2)
  go_ret;exact⟨rE,q20x0,q20x1,cK⟩
 ·replace D:=Bool.eq_false_iff.mpr D;subst D;replace H:=iF H;by_cases U:s0_1<(s0_0.length:Int)
  ·rw[if_pos U]at H;have av:=decide_eq_true U;clear U;replace H:=gD H;obtain⟨bp,H⟩:=H;by_cases G:((rd_T95 s0_0 s0_1).f0)=s
   ·rw[if_pos G]at H;obtain⟨aw,ax⟩:=eT G;clear G;simp only[Option.some.injEq,Prod.mk.injEq]at H;obtain⟨rfl,rfl,rfl⟩:=H;obtain⟨ASz9_0,cSz9_0,HGz9,hgz9,HSz9_0⟩:=HI0.out;have cD:=cellS74_0 HGz9;have cE:=cellS74_1 HGz9;have cF:=cellS74_2 HGz9;have cG:=blk_frozen HGz9 1;have cI:=blk_frozen HGz9 2;clear HGz9 hgz9;have ag:0≤(s0_1:Int):=dA;have ah:s0_1<(s0_0.length:Int):=dA;obtain⟨bq,aX,ay,az,aA⟩:=at_T95 HSz9_0 s0_1 ag ah;cases aX;replace ay:=pw_cell_below HB.out ay;replace az:=pw_cell_below HB.out az;replace aA:=pw_cell_below HB.out aA;replace ag:=eq_true ag;replace ah:=eq_true ah;have aY:0≤(s0_1:Int):=dA;have aZ:s0_1<(s0_0.length:Int):=dA;obtain⟨bO,bP,br,bs,bu⟩:=at_T95 HSz9_0 s0_1 aY aZ
    obtain rfl:bq=bO:=(by injection bP)
    replace br:=pw_cell_below HB.out br;replace bs:=pw_cell_below HB.out bs;replace bu:=pw_cell_below HB.out bu;replace aY:=eq_true aY;replace aZ:=eq_true aZ;go_enter Tryz.func94,Tryz.ntmps94;go_wp2
    repeat(go_quiet (fail);try go_wp2)
    go_ret;exact⟨rE,q20x0,q20x1,cK⟩
   ·rw[if_neg G]at H;obtain⟨aw,ax⟩:=eF G;simp only[Option.some.injEq,Prod.mk.injEq]at H;obtain⟨rfl,rfl,rfl⟩:=H;obtain⟨ASz10_0,cSz10_0,HGz10,hgz10,HSz10_0⟩:=HI0.out;have a0:=cellS74_0 HGz10;have a1:=cellS74_1 HGz10;have a2:=cellS74_2 HGz10;have a3:=blk_frozen HGz10 1;have a4:=blk_frozen HGz10 2;clear HGz10 hgz10;have ag:0≤(s0_1:Int):=dA;have ah:s0_1<(s0_0.length:Int):=dA;obtain⟨bq,aX,ay,az,aA⟩:=at_T95 HSz10_0 s0_1 ag ah;cases aX;replace ay:=pw_cell_below HB.out ay;replace az:=pw_cell_below HB.out az;replace aA:=pw_cell_below HB.out aA;replace ag:=eq_true ag;replace ah:=eq_true ah;go_enter Tryz.func94,Tryz.ntmps94;go_wp2
    repeat(go_quiet (fail);try go_wp2)
    go_ret;exact⟨rE,q20x0,q20x1,cK⟩
  ·rw[if_neg U]at H;have av:=decide_eq_false U;clear U;simp only[Option.some.injEq,Prod.mk.injEq]at H;obtain⟨rfl,rfl,rfl⟩:=H;obtain⟨ASz11_0,cSz11_0,HGz11,hgz11,HSz11_0⟩:=HI0.out;have cJ:=cellS74_0 HGz11;have cL:=cellS74_1 HGz11;have cM:=cellS74_2 HGz11;have cN:=blk_frozen HGz11 1;have cO:=blk_frozen HGz11 2;clear HGz11 hgz11;go_enter Tryz.func94,Tryz.ntmps94;go_wp2
   repeat(go_quiet (fail);try go_wp2)
   go_ret;exact⟨rE,q20x0,q20x1,cK⟩
def Ae.f (s0_0:List (S95)) (s0_1:Int) (s0_2:Bool) (s:Int) (z:ByteArray):Option (Bool×Int×Bool):=(Bp.f s0_0 s0_1 s0_2 s z).bind fun aB=>(if aB.1=true then(some (true,wrap64 (aB.2.1+1),aB.2.2))else(some (false,aB.2.1,aB.2.2)))
theorem Ae.calls (g:Nat) (s0_0:List (S95)) (s0_1:Int) (s0_2:Bool) (s:Int) (z:ByteArray) (r1:Bool) (r2:Int) (r3:Bool) (b w:World) (hI:IsS74 b w g s0_0 s0_1 s0_2) (hB:Below b.heap.size b w) (h:Ae.f s0_0 s0_1 s0_2 s z=some (r1,r2,r3)) :
 Calls Tryz.prog 70 #[.pointer (some ⟨g,0,none⟩),.int .i64 s,.string z] w fun e w'=>e= .returned (.bool r1)∧IsS74 b w' g s0_0 r2 r3∧Below b.heap.size b w'∧KeepBut w w' g none:=by
 have HI0:=aM hI;have HK:=aM (KeepBut.refl w g none);have HL:=aM hB.size;clear hI;have HW0:=aM hB.size;have HB:=aM hB;clear hB
 unfold Ae.f at h;have H:=h
 clear h;replace H:=bE H;obtain⟨⟨bQ,bv,bw⟩,aC,H⟩:=H;(try dsimp only at H);by_cases ac:bQ=true
 ·subst ac;replace H:=iT H;simp only[Option.some.injEq,Prod.mk.injEq]at H;obtain⟨rfl,rfl,rfl⟩:=H;go_enter Tryz.func70,Tryz.ntmps70
  go_wp2_with (first|((with_reducible refine gF 94 ?_);refine gX (some 10) Tryz.func94 (Bp.calls g s0_0 s0_1 s0_2 s z true bv bw b _ q20x0 q20x1 aC.out) ?_;rintro bR ⟨hi,hb,hk⟩;replace HK:=tK (w:=w) hk;replace HB:=aM hb;replace HI0:=aM hi;clear hb hk hi;obtain⟨ASz7_0,cSz7_0,HGz7,hgz7,HSz7_0⟩:=HI0.out;have bS:=cellS74_0 HGz7;have bT:=cellS74_1 HGz7;have bU:=cellS74_2 HGz7;have bV:=blk_frozen HGz7 1;have bW:=blk_frozen HGz7 2;clear HGz7 hgz7))
  go_ret;exact⟨rE,q20x0,q20x1,cK⟩
 ·replace ac:=Bool.eq_false_iff.mpr ac;subst ac;replace H:=iF H;simp only[Option.some.injEq,Prod.mk.injEq]at H;obtain⟨rfl,rfl,rfl⟩:=H;go_enter Tryz.func70,Tryz.ntmps70
  go_wp2_with (first|((with_reducible refine gF 94 ?_);refine gX (some 10) Tryz.func94 (Bp.calls g s0_0 s0_1 s0_2 s z false bv bw b _ q20x0 q20x1 aC.out) ?_;rintro cP ⟨hi,hb,hk⟩;replace HK:=tK (w:=w) hk;replace HB:=aM hb;replace HI0:=aM hi;clear hb hk hi))
  go_ret;exact⟨rE,q20x0,q20x1,cK⟩
def AT.f (s0_0:List (S95)) (s0_1:Int) (s0_2:Bool) (s:Int) (z:ByteArray):Option (Int×Bool):=(Ae.f s0_0 s0_1 s0_2 s z).bind fun aO=>(if aO.1=true then(some (aO.2.1,aO.2.2))else(some (aO.2.1,true)))
theorem AT.calls (g:Nat) (s0_0:List (S95)) (s0_1:Int) (s0_2:Bool) (s:Int) (z:ByteArray) (r1:Int) (r2:Bool) (b w:World) (hI:IsS74 b w g s0_0 s0_1 s0_2) (hB:Below b.heap.size b w) (h:AT.f s0_0 s0_1 s0_2 s z=some (r1,r2)) :
 Calls Tryz.prog 32 #[.pointer (some ⟨g,0,none⟩),.int .i64 s,.string z] w fun e w'=>e= .returned (.tuple #[])∧IsS74 b w' g s0_0 r1 r2∧Below b.heap.size b w'∧KeepBut w w' g none:=by
 have HI0:=aM hI;have HK:=aM (KeepBut.refl w g none);have HL:=aM hB.size;clear hI;have HW0:=aM hB.size;have HB:=aM hB;clear hB
 unfold AT.f at h;have H:=h
 clear h;replace H:=bE H;obtain⟨⟨bX,bx,bz⟩,aC,H⟩:=H;(try dsimp only at H);by_cases ac:bX=true
 ·subst ac;replace H:=iT H;simp only[Option.some.injEq,Prod.mk.injEq]at H;obtain⟨rfl,rfl⟩:=H;go_enter Tryz.func32,Tryz.ntmps32
  go_wp2_with (first|((with_reducible refine gF 70 ?_);refine gX (some 9) Tryz.func70 (Ae.calls g s0_0 s0_1 s0_2 s z true bx bz b _ q20x0 q20x1 aC.out) ?_;rintro bR ⟨hi,hb,hk⟩;replace HK:=tK (w:=w) hk;replace HB:=aM hb;replace HI0:=aM hi;clear hb hk hi))
  first|go_end0|((try simp only[Exit.inBlock,Exit.then]);refine bodyPost_ret (results_none rfl _ _ _) rfl ?_)
  exact⟨rE,q20x0,q20x1,cK⟩
 ·replace ac:=Bool.eq_false_iff.mpr ac;subst ac;replace H:=iF H;simp only[Option.some.injEq,Prod.mk.injEq]at H;obtain⟨rfl,rfl⟩:=H;go_enter Tryz.func32,Tryz.ntmps32
  go_wp2_with (first|((with_reducible refine gF 70 ?_);refine gX (some 9) Tryz.func70 (Ae.calls g s0_0 s0_1 s0_2 s z false bx bz b _ q20x0 q20x1 aC.out) ?_;rintro X ⟨hi,hb,hk⟩;replace HK:=tK (w:=w) hk;replace HB:=aM hb;replace HI0:=aM hi;clear hb hk hi;obtain⟨ASz8_0,cSz8_0,HGz8,hgz8,HSz8_0⟩:=HI0.out;have a5:=cellS74_0 HGz8;have a6:=cellS74_1 HGz8;have a7:=cellS74_2 HGz8;have a8:=blk_frozen HGz8 1;have a9:=blk_frozen HGz8 2;clear HGz8 hgz8))
  first|go_end0|((try simp only[Exit.inBlock,Exit.then]);refine bodyPost_ret (results_none rfl _ _ _) rfl ?_)
  exact⟨rE,q20x0,q20x1,cK⟩
def BG.f (s0_0:List (S95)) (s0_1:Int) (s0_2:Bool):Option (Bool×Int×Bool):=if s0_2=true then(some (false,s0_1,s0_2))else(if s0_1<(s0_0.length:Int)then(if 0≤s0_1 then(some ((((rd_T95 s0_0 s0_1).f0) == 2),s0_1,s0_2))else(none))else(some (false,s0_1,s0_2)))
theorem BG.calls (g:Nat) (s0_0:List (S95)) (s0_1:Int) (s0_2:Bool) (r1:Bool) (r2:Int) (r3:Bool) (b w:World) (hI:IsS74 b w g s0_0 s0_1 s0_2) (hB:Below b.heap.size b w) (h:BG.f s0_0 s0_1 s0_2=some (r1,r2,r3)) :
 Calls Tryz.prog 71 #[.pointer (some ⟨g,0,none⟩)] w fun e w'=>e= .returned (.bool r1)∧IsS74 b w' g s0_0 r2 r3∧Below b.heap.size b w'∧KeepBut w w' g none:=by
 have HI0:=aM hI;have HK:=aM (KeepBut.refl w g none);have HL:=aM hB.size;clear hI;have HW0:=aM hB.size;have HB:=aM hB;clear hB;have H:(if s0_2=true then(some (false,s0_1,s0_2))else(if s0_1<(s0_0.length:Int)then(if 0≤s0_1 then(some ((((rd_T95 s0_0 s0_1).f0) == 2),s0_1,s0_2))else(none))else(some (false,s0_1,s0_2))))=some (r1,r2,r3):=h;clear h;by_cases ad:s0_2=true
 ·subst ad;replace H:=iT H;simp only[Option.some.injEq,Prod.mk.injEq]at H;obtain⟨rfl,rfl,rfl⟩:=H;obtain⟨ASz3_0,cSz3_0,HGz3,hgz3,HSz3_0⟩:=HI0.out;have bY:=cellS74_0 HGz3;have bZ:=cellS74_1 HGz3;have b0:=cellS74_2 HGz3;have b1:=blk_frozen HGz3 1;have b5:=blk_frozen HGz3 2;clear HGz3 hgz3;go_enter Tryz.func71,Tryz.ntmps71;go_wp2
  repeat(go_quiet (fail);try go_wp2)
  go_ret;exact⟨rE,q20x0,q20x1,cK⟩
 ·replace ad:=Bool.eq_false_iff.mpr ad;subst ad;replace H:=iF H;by_cases D:s0_1<(s0_0.length:Int)
  ·rw[if_pos D]at H;have ba:=decide_eq_true D;clear D;replace H:=gD H;obtain⟨b8,H⟩:=H;simp only[Option.some.injEq,Prod.mk.injEq]at H;obtain⟨rfl,rfl,rfl⟩:=H;obtain⟨ASz6_0,cSz6_0,HGz6,hgz6,HSz6_0⟩:=HI0.out;have cQ:=cellS74_0 HGz6;have cR:=cellS74_1 HGz6;have cS:=cellS74_2 HGz6;have cT:=blk_frozen HGz6 1;have cU:=blk_frozen HGz6 2;clear HGz6 hgz6;have bb:0≤(s0_1:Int):=dA;have bd:s0_1<(s0_0.length:Int):=dA;obtain⟨cV,b9,bA,bB,bC⟩:=at_T95 HSz6_0 s0_1 bb bd;cases b9;replace bA:=pw_cell_below HB.out bA;replace bB:=pw_cell_below HB.out bB;replace bC:=pw_cell_below HB.out bC;replace bb:=eq_true bb;replace bd:=eq_true bd;go_enter Tryz.func71,Tryz.ntmps71;go_wp2
   repeat(go_quiet (fail);try go_wp2)
   go_ret;exact⟨rE,q20x0,q20x1,cK⟩
  ·rw[if_neg D]at H;have ba:=decide_eq_false D;clear D;simp only[Option.some.injEq,Prod.mk.injEq]at H;obtain⟨rfl,rfl,rfl⟩:=H;obtain⟨ASz7_0,cSz7_0,HGz7,hgz7,HSz7_0⟩:=HI0.out;have bS:=cellS74_0 HGz7;have bT:=cellS74_1 HGz7;have bU:=cellS74_2 HGz7;have bV:=blk_frozen HGz7 1;have bW:=blk_frozen HGz7 2;clear HGz7 hgz7;go_enter Tryz.func71,Tryz.ntmps71;go_wp2
   repeat(go_quiet (fail);try go_wp2)
   go_ret;exact⟨rE,q20x0,q20x1,cK⟩
def A4.f (s0_0:List (S95)) (s0_1:Int) (s0_2:Bool):Option (Int×Int×Bool):=(BG.f s0_0 s0_1 s0_2).bind fun ai=>(if ai.1=true then(if 0≤(wrap64 ((wrap64 (ai.2.1+1)) - 1))then(if(wrap64 ((wrap64 (ai.2.1+1)) - 1))<(s0_0.length:Int)then(some ((rd_T95 s0_0 (wrap64 ((wrap64 (ai.2.1+1)) - 1))).f2,wrap64 (ai.2.1+1),ai.2.2))else(none))else(none))else(some (0,ai.2.1,true)))
theorem A4.calls (g:Nat) (s0_0:List (S95)) (s0_1:Int) (s0_2:Bool) (r1:Int) (r2:Int) (r3:Bool) (b w:World) (hI:IsS74 b w g s0_0 s0_1 s0_2) (hB:Below b.heap.size b w) (h:A4.f s0_0 s0_1 s0_2=some (r1,r2,r3)) :
 Calls Tryz.prog 33 #[.pointer (some ⟨g,0,none⟩)] w fun e w'=>e= .returned (.int .i64 r1)∧IsS74 b w' g s0_0 r2 r3∧Below b.heap.size b w'∧KeepBut w w' g none:=by
 have HI0:=aM hI;have HK:=aM (KeepBut.refl w g none);have HL:=aM hB.size;clear hI;have HW0:=aM hB.size;have HB:=aM hB;clear hB
 unfold A4.f at h;have H:=h
 clear h;replace H:=bE H;obtain⟨⟨ca,l,ap⟩,ae,H⟩:=H;(try dsimp only at H);by_cases aP:ca=true
 ·subst aP;replace H:=iT H;obtain⟨ji4,hji4⟩ : ∃ j_:Int,(wrap64 ((wrap64 (l+1)) - 1))=j_:=⟨_,rfl⟩
  (first|rw[hji4]at H|simp only[hji4]at H)
  (try rw[hji4]at ae);have hji4w:(IntKind.i64.wrap ((wrap64 (l+1)) - 1))=ji4:=(i64_w _).trans hji4;replace H:=gD H;obtain⟨b8,H⟩:=H;replace H:=gD H;obtain⟨av,H⟩:=H;simp only[Option.some.injEq,Prod.mk.injEq]at H;obtain⟨rfl,rfl,rfl⟩:=H;go_enter Tryz.func33,Tryz.ntmps33
  go_wp2_with (first|(go_at_call 71;(with_reducible refine(BG.calls g s0_0 s0_1 s0_2 true l ap b _ ?side1 ?side2 ae.out).mono ?_);(case side1=>exact q20x0);(case side2=>exact q20x1);rintro e X ⟨rfl,hi,hb,hk⟩;replace HK:=tK (w:=w) hk;replace HB:=aM hb;replace HI0:=aM hi;clear hb hk hi;obtain⟨ASz8_0,cSz8_0,HGz8,hgz8,HSz8_0⟩:=HI0.out;have a5:=cellS74_0 HGz8;have a6:=cellS74_1 HGz8;have a7:=cellS74_2 HGz8;have a8:=blk_frozen HGz8 1;have a9:=blk_frozen HGz8 2;clear HGz8 hgz8;have Y:0≤((ji4):Int):=dA;have aa:(ji4)<(s0_0.length:Int):=dA;obtain⟨aD,aE,y,I,J⟩:=at_T95 HSz8_0 (ji4) Y aa;cases aE;have j:aD.block≠g:=Nat.ne_of_lt (Nat.lt_of_lt_of_le (by have:=World.block_lt_of_cell? _ _ y;first|rwa [add_block]at this|exact this) (IsS74.ge HI0.out));replace y:=pw_cell_below HB.out y;replace I:=pw_cell_below HB.out I;replace J:=pw_cell_below HB.out J;replace y:=(cell_far (p:=⟨g,1,none⟩) (by first|(rw[add_block];exact j)|(show(Addr.add _ _).block≠_;rw[add_block];exact j)|exact j) (.int .i64 (wrap64 (l+1)))).trans y;replace I:=(cell_far (p:=⟨g,1,none⟩) (by first|(rw[add_block];exact j)|(show(Addr.add _ _).block≠_;rw[add_block];exact j)|exact j) (.int .i64 (wrap64 (l+1)))).trans I;replace J:=(cell_far (p:=⟨g,1,none⟩) (by first|(rw[add_block];exact j)|(show(Addr.add _ _).block≠_;rw[add_block];exact j)|exact j) (.int .i64 (wrap64 (l+1)))).trans J;(try have hy738_0:=fun (n_:Nat)=>(show(((X.drewN n_).setCell ⟨g,1,none⟩ (.int .i64 (wrap64 (l+1))))).cell? _=some _ from y));(try have hy738_1:=fun (n_:Nat)=>(show(((X.drewN n_).setCell ⟨g,1,none⟩ (.int .i64 (wrap64 (l+1))))).cell? _=some _ from I));(try have hy738_2:=fun (n_:Nat)=>(show(((X.drewN n_).setCell ⟨g,1,none⟩ (.int .i64 (wrap64 (l+1))))).cell? _=some _ from J));clear j;replace Y:=eq_true Y;replace aa:=eq_true aa))
  repeat(go_quiet (first|(go_at_call 71;(with_reducible refine(BG.calls g s0_0 s0_1 s0_2 true l ap b _ ?side1 ?side2 ae.out).mono ?_);(case side1=>repeat(first|(with_reducible first|exact HI0.out|apply IsS74.alloc|apply IsS74.drewN|apply IsS74.drew|apply IsS74.set_1|apply IsS74.set_2)|exact HI0.out));(case side2=>repeat(first|(with_reducible first|exact HB.out|apply below_alloc|apply pw_below_drewN|apply below_drew1|refine below_set ?_ (IsS74.ge HI0.out))|exact HB.out));rintro e X ⟨rfl,hi,hb,hk⟩;have n0_:=tK (w:=w) hk;have n1_:=aM hb;have n2_:=aM hi;clear HK;clear HB;clear HI0;have HK:=n0_;have HB:=n1_;have HI0:=n2_;clear n0_ n1_ n2_;(try clear hb);(try clear hb2);(try clear hk);(try clear hi);obtain⟨ASz8_0,cSz8_0,HGz8,hgz8,HSz8_0⟩:=HI0.out;have a5:=cellS74_0 HGz8;have a6:=cellS74_1 HGz8;have a7:=cellS74_2 HGz8;have a8:=blk_frozen HGz8 1;have a9:=blk_frozen HGz8 2;clear HGz8 hgz8;have Y:0≤((ji4):Int):=dA;have aa:(ji4)<(s0_0.length:Int):=dA;obtain⟨aD,aE,y,I,J⟩:=at_T95 HSz8_0 (ji4) Y aa;cases aE;have j:aD.block≠g:=Nat.ne_of_lt (Nat.lt_of_lt_of_le (by have:=World.block_lt_of_cell? _ _ y;first|rwa [add_block]at this|exact this) (IsS74.ge HI0.out));replace y:=pw_cell_below HB.out y;replace I:=pw_cell_below HB.out I;replace J:=pw_cell_below HB.out J;replace y:=(cell_far (p:=⟨g,1,none⟩) (by first|(rw[add_block];exact j)|(show(Addr.add _ _).block≠_;rw[add_block];exact j)|exact j) (.int .i64 (wrap64 (l+1)))).trans y;replace I:=(cell_far (p:=⟨g,1,none⟩) (by first|(rw[add_block];exact j)|(show(Addr.add _ _).block≠_;rw[add_block];exact j)|exact j) (.int .i64 (wrap64 (l+1)))).trans I;replace J:=(cell_far (p:=⟨g,1,none⟩) (by first|(rw[add_block];exact j)|(show(Addr.add _ _).block≠_;rw[add_block];exact j)|exact j) (.int .i64 (wrap64 (l+1)))).trans J;(try have hy738_0:=fun (n_:Nat)=>(show(((X.drewN n_).setCell ⟨g,1,none⟩ (.int .i64 (wrap64 (l+1))))).cell? _=some _ from y));(try have hy738_1:=fun (n_:Nat)=>(show(((X.drewN n_).setCell ⟨g,1,none⟩ (.int .i64 (wrap64 (l+1))))).cell? _=some _ from I));(try have hy738_2:=fun (n_:Nat)=>(show(((X.drewN n_).setCell ⟨g,1,none⟩ (.int .i64 (wrap64 (l+1))))).cell? _=some _ from J));clear j;replace Y:=eq_true Y;replace aa:=eq_true aa));try go_wp2_with (first|(go_at_call 71;(with_reducible refine(BG.calls g s0_0 s0_1 s0_2 true l ap b _ ?side1 ?side2 ae.out).mono ?_);(case side1=>repeat(first|(with_reducible first|exact HI0.out|apply IsS74.alloc|apply IsS74.drewN|apply IsS74.drew|apply IsS74.set_1|apply IsS74.set_2)|exact HI0.out));(case side2=>repeat(first|(with_reducible first|exact HB.out|apply below_alloc|apply pw_below_drewN|apply below_drew1|refine below_set ?_ (IsS74.ge HI0.out))|exact HB.out));rintro e X ⟨rfl,hi,hb,hk⟩;have n0_:=tK (w:=w) hk;have n1_:=aM hb;have n2_:=aM hi;clear HK;clear HB;clear HI0;have HK:=n0_;have HB:=n1_;have HI0:=n2_;clear n0_ n1_ n2_;(try clear hb);(try clear hb2);(try clear hk);(try clear hi);obtain⟨ASz8_0,cSz8_0,HGz8,hgz8,HSz8_0⟩:=HI0.out;have a5:=cellS74_0 HGz8;have a6:=cellS74_1 HGz8;have a7:=cellS74_2 HGz8;have a8:=blk_frozen HGz8 1;have a9:=blk_frozen HGz8 2;clear HGz8 hgz8;have Y:0≤((ji4):Int):=dA;have aa:(ji4)<(s0_0.length:Int):=dA;obtain⟨aD,aE,y,I,J⟩:=at_T95 HSz8_0 (ji4) Y aa;cases aE;have j:aD.block≠g:=Nat.ne_of_lt (Nat.lt_of_lt_of_le (by have:=World.block_lt_of_cell? _ _ y;first|rwa [add_block]at this|exact this) (IsS74.ge HI0.out));replace y:=pw_cell_below HB.out y;replace I:=pw_cell_below HB.out I;replace J:=pw_cell_below HB.out J;replace y:=(cell_far (p:=⟨g,1,none⟩) (by first|(rw[add_block];exact j)|(show(Addr.add _ _).block≠_;rw[add_block];exact j)|exact j) (.int .i64 (wrap64 (l+1)))).trans y;replace I:=(cell_far (p:=⟨g,1,none⟩) (by first|(rw[add_block];exact j)|(show(Addr.add _ _).block≠_;rw[add_block];exact j)|exact j) (.int .i64 (wrap64 (l+1)))).trans I;replace J:=(cell_far (p:=⟨g,1,none⟩) (by first|(rw[add_block];exact j)|(show(Addr.add _ _).block≠_;rw[add_block];exact j)|exact j) (.int .i64 (wrap64 (l+1)))).trans J;(try have hy738_0:=fun (n_:Nat)=>(show(((X.drewN n_).setCell ⟨g,1,none⟩ (.int .i64 (wrap64 (l+1))))).cell? _=some _ from y));(try have hy738_1:=fun (n_:Nat)=>(show(((X.drewN n_).setCell ⟨g,1,none⟩ (.int .i64 (wrap64 (l+1))))).cell? _=some _ from I));(try have hy738_2:=fun (n_:Nat)=>(show(((X.drewN n_).setCell ⟨g,1,none⟩ (.int .i64 (wrap64 (l+1))))).cell? _=some _ from J));clear j;replace Y:=eq_true Y;replace aa:=eq_true aa)))
  go_ret
  exact⟨by first|rfl|(simp[errW_none,errW_some] <;> rfl)|(simp only[← hji4];first|rfl|(simp[errW_none,errW_some] <;> rfl))|(simp[*,errW_none,errW_some] <;> rfl),q20x0,q20x1,cK⟩
 ·replace aP:=Bool.eq_false_iff.mpr aP;subst aP;replace H:=iF H;simp only[Option.some.injEq,Prod.mk.injEq]at H;obtain⟨rfl,rfl,rfl⟩:=H;go_enter Tryz.func33,Tryz.ntmps33
  go_wp2_with (first|(go_at_call 71;(with_reducible refine(BG.calls g s0_0 s0_1 s0_2 false l ap b _ ?side1 ?side2 ae.out).mono ?_);(case side1=>exact q20x0);(case side2=>exact q20x1);rintro e bD ⟨rfl,hi,hb,hk⟩;replace HK:=tK (w:=w) hk;replace HB:=aM hb;replace HI0:=aM hi;clear hb hk hi;obtain⟨ASz10_0,cSz10_0,HGz10,hgz10,HSz10_0⟩:=HI0.out;have a0:=cellS74_0 HGz10;have a1:=cellS74_1 HGz10;have a2:=cellS74_2 HGz10;have a3:=blk_frozen HGz10 1;have a4:=blk_frozen HGz10 2;clear HGz10 hgz10))
  repeat(go_quiet (first|(go_at_call 71;(with_reducible refine(BG.calls g s0_0 s0_1 s0_2 false l ap b _ ?side1 ?side2 ae.out).mono ?_);(case side1=>repeat(first|(with_reducible first|exact HI0.out|apply IsS74.alloc|apply IsS74.drewN|apply IsS74.drew|apply IsS74.set_1|apply IsS74.set_2)|exact HI0.out));(case side2=>repeat(first|(with_reducible first|exact HB.out|apply below_alloc|apply pw_below_drewN|apply below_drew1|refine below_set ?_ (IsS74.ge HI0.out))|exact HB.out));rintro e bD ⟨rfl,hi,hb,hk⟩;have n0_:=tK (w:=w) hk;have n1_:=aM hb;have n2_:=aM hi;clear HK;clear HB;clear HI0;have HK:=n0_;have HB:=n1_;have HI0:=n2_;clear n0_ n1_ n2_;(try clear hb);(try clear hb2);(try clear hk);(try clear hi);obtain⟨ASz10_0,cSz10_0,HGz10,hgz10,HSz10_0⟩:=HI0.out;have a0:=cellS74_0 HGz10;have a1:=cellS74_1 HGz10;have a2:=cellS74_2 HGz10;have a3:=blk_frozen HGz10 1;have a4:=blk_frozen HGz10 2;clear HGz10 hgz10));try go_wp2_with (first|(go_at_call 71;(with_reducible refine(BG.calls g s0_0 s0_1 s0_2 false l ap b _ ?side1 ?side2 ae.out).mono ?_);(case side1=>repeat(first|(with_reducible first|exact HI0.out|apply IsS74.alloc|apply IsS74.drewN|apply IsS74.drew|apply IsS74.set_1|apply IsS74.set_2)|exact HI0.out));(case side2=>repeat(first|(with_reducible first|exact HB.out|apply below_alloc|apply pw_below_drewN|apply below_drew1|refine below_set ?_ (IsS74.ge HI0.out))|exact HB.out));rintro e bD ⟨rfl,hi,hb,hk⟩;have n0_:=tK (w:=w) hk;have n1_:=aM hb;have n2_:=aM hi;clear HK;clear HB;clear HI0;have HK:=n0_;have HB:=n1_;have HI0:=n2_;clear n0_ n1_ n2_;(try clear hb);(try clear hb2);(try clear hk);(try clear hi);obtain⟨ASz10_0,cSz10_0,HGz10,hgz10,HSz10_0⟩:=HI0.out;have a0:=cellS74_0 HGz10;have a1:=cellS74_1 HGz10;have a2:=cellS74_2 HGz10;have a3:=blk_frozen HGz10 1;have a4:=blk_frozen HGz10 2;clear HGz10 hgz10)))
  go_ret;exact⟨rE,q20x0,q20x1,cK⟩
def BM.f (s0_0:List (S95)) (s0_1:Int) (s0_2:Bool):Option (ByteArray×Int×Bool):=if s0_2=true then(some ((⟨#[]⟩ :ByteArray),s0_1,true))else(if s0_1≥(s0_0.length:Int)then(some ((⟨#[]⟩ :ByteArray),s0_1,true))else(if 0≤s0_1 then(if s0_1<(s0_0.length:Int)then(if((rd_T95 s0_0 s0_1).f0)=1 then(if 0≤(wrap64 ((wrap64 (s0_1+1)) - 1))then(if(wrap64 ((wrap64 (s0_1+1)) - 1))<(s0_0.length:Int)then(some ((rd_T95 s0_0 (wrap64 ((wrap64 (s0_1+1)) - 1))).f1,wrap64 (s0_1+1),s0_2))else(none))else(none))else(some ((⟨#[]⟩ :ByteArray),s0_1,true)))else(none))else(none)))
theorem BM.calls (g:Nat) (s0_0:List (S95)) (s0_1:Int) (s0_2:Bool) (r1:ByteArray) (r2:Int) (r3:Bool) (b w:World) (hI:IsS74 b w g s0_0 s0_1 s0_2) (hB:Below b.heap.size b w) (h:BM.f s0_0 s0_1 s0_2=some (r1,r2,r3)) :
 Calls Tryz.prog 72 #[.pointer (some ⟨g,0,none⟩)] w fun e w'=>e= .returned (.string r1)∧IsS74 b w' g s0_0 r2 r3∧Below b.heap.size b w'∧KeepBut w w' g none:=by
 have HI0:=aM hI;have HK:=aM (KeepBut.refl w g none);have HL:=aM hB.size;clear hI;have HW0:=aM hB.size;have HB:=aM hB;clear hB;have H:(if s0_2=true then(some ((⟨#[]⟩ :ByteArray),s0_1,true))else(if s0_1≥(s0_0.length:Int)then(some ((⟨#[]⟩ :ByteArray),s0_1,true))else(if 0≤s0_1 then(if s0_1<(s0_0.length:Int)then(if((rd_T95 s0_0 s0_1).f0)=1 then(if 0≤(wrap64 ((wrap64 (s0_1+1)) - 1))then(if(wrap64 ((wrap64 (s0_1+1)) - 1))<(s0_0.length:Int)then(some ((rd_T95 s0_0 (wrap64 ((wrap64 (s0_1+1)) - 1))).f1,wrap64 (s0_1+1),s0_2))else(none))else(none))else(some ((⟨#[]⟩ :ByteArray),s0_1,true)))else(none))else(none))))=some (r1,r2,r3):=h;clear h;by_cases ad:s0_2=true
 ·subst ad;replace H:=iT H;simp only[Option.some.injEq,Prod.mk.injEq]at H;obtain⟨rfl,rfl,rfl⟩:=H;obtain⟨ASz3_0,cSz3_0,HGz3,hgz3,HSz3_0⟩:=HI0.out;have bY:=cellS74_0 HGz3;have bZ:=cellS74_1 HGz3;have b0:=cellS74_2 HGz3;have b1:=blk_frozen HGz3 1;have b5:=blk_frozen HGz3 2;clear HGz3 hgz3;go_enter Tryz.func72,Tryz.ntmps72;go_wp2
  repeat(go_quiet (fail);try go_wp2)
  go_ret;exact⟨rE,q20x0,q20x1,cK⟩
 ·replace ad:=Bool.eq_false_iff.mpr ad;subst ad;replace H:=iF H;by_cases D:s0_1≥(s0_0.length:Int)
  ·rw[if_pos D]at H;have ba:decide ((s0_0.length:Int)≤s0_1)=true:=decide_eq_true D;clear D;simp only[Option.some.injEq,Prod.mk.injEq]at H;obtain⟨rfl,rfl,rfl⟩:=H;obtain⟨ASz5_0,cSz5_0,HGz5,hgz5,HSz5_0⟩:=HI0.out;have bI:=cellS74_0 HGz5;have bJ:=cellS74_1 HGz5;have bL:=cellS74_2 HGz5;have bM:=blk_frozen HGz5 1;have bN:=blk_frozen HGz5 2;clear HGz5 hgz5;go_enter Tryz.func72,Tryz.ntmps72;go_wp2
   repeat(go_quiet (fail);try go_wp2)
   go_ret;exact⟨rE,q20x0,q20x1,cK⟩
  ·rw[if_neg D]at H;have ba:decide ((s0_0.length:Int)≤s0_1)=false:=decide_eq_false D;clear D;replace H:=gD H;obtain⟨av,H⟩:=H;replace H:=gD H;obtain⟨bp,H⟩:=H;by_cases G:((rd_T95 s0_0 s0_1).f0)=1
   ·rw[if_pos G]at H;obtain⟨aw,ax⟩:=eT G;clear G;obtain⟨ji9,hji9⟩ : ∃ j_:Int,(wrap64 ((wrap64 (s0_1+1)) - 1))=j_:=⟨_,rfl⟩
    (first|rw[hji9]at H|simp only[hji9]at H)
    have hji9w:(IntKind.i64.wrap ((wrap64 (s0_1+1)) - 1))=ji9:=(i64_w _).trans hji9;replace H:=gD H;obtain⟨cW,H⟩:=H;replace H:=gD H;obtain⟨bF,H⟩:=H;simp only[Option.some.injEq,Prod.mk.injEq]at H;obtain⟨rfl,rfl,rfl⟩:=H;obtain⟨ASz12_0,cSz12_0,HGz12,hgz12,HSz12_0⟩:=HI0.out;have cX:=cellS74_0 HGz12;have cY:=cellS74_1 HGz12;have cZ:=cellS74_2 HGz12;have c0:=blk_frozen HGz12 1;have c1:=blk_frozen HGz12 2;clear HGz12 hgz12;have aj:0≤(s0_1:Int):=dA;have ak:s0_1<(s0_0.length:Int):=dA;obtain⟨be,bf,aF,aG,aH⟩:=at_T95 HSz12_0 s0_1 aj ak;cases bf;replace aF:=pw_cell_below HB.out aF;replace aG:=pw_cell_below HB.out aG;replace aH:=pw_cell_below HB.out aH;replace aj:=eq_true aj;replace ak:=eq_true ak;have bg:0≤((ji9):Int):=dA;have bh:(ji9)<(s0_0.length:Int):=dA;obtain⟨cb,cc,aq,aI,aJ⟩:=at_T95 HSz12_0 (ji9) bg bh
    obtain rfl:be=cb:=(by injection cc)
    have ab:be.block≠g:=Nat.ne_of_lt (Nat.lt_of_lt_of_le (by have:=World.block_lt_of_cell? _ _ aq;first|rwa [add_block]at this|exact this) (IsS74.ge HI0.out))
    replace aq:=pw_cell_below HB.out aq;replace aI:=pw_cell_below HB.out aI;replace aJ:=pw_cell_below HB.out aJ
    replace aq:=(cell_far (p:=⟨g,1,none⟩) (by first|(rw[add_block];exact ab)|(show(Addr.add _ _).block≠_;rw[add_block];exact ab)|exact ab) (.int .i64 (wrap64 (s0_1+1)))).trans aq
    replace aI:=(cell_far (p:=⟨g,1,none⟩) (by first|(rw[add_block];exact ab)|(show(Addr.add _ _).block≠_;rw[add_block];exact ab)|exact ab) (.int .i64 (wrap64 (s0_1+1)))).trans aI
    replace aJ:=(cell_far (p:=⟨g,1,none⟩) (by first|(rw[add_block];exact ab)|(show(Addr.add _ _).block≠_;rw[add_block];exact ab)|exact ab) (.int .i64 (wrap64 (s0_1+1)))).trans aJ
    (try have hy740_0:=fun (n_:Nat)=>(show(((w.drewN n_).setCell ⟨g,1,none⟩ (.int .i64 (wrap64 (s0_1+1))))).cell? _=some _ from aq))
    (try have hy740_1:=fun (n_:Nat)=>(show(((w.drewN n_).setCell ⟨g,1,none⟩ (.int .i64 (wrap64 (s0_1+1))))).cell? _=some _ from aI))
    (try have hy740_2:=fun (n_:Nat)=>(show(((w.drewN n_).setCell ⟨g,1,none⟩ (.int .i64 (wrap64 (s0_1+1))))).cell? _=some _ from aJ))
    clear ab;replace bg:=eq_true bg;replace bh:=eq_true bh;go_enter Tryz.func72,Tryz.ntmps72;go_wp2
    repeat(go_quiet (fail);try go_wp2)
    go_ret
    exact⟨by first|rfl|(simp[errW_none,errW_some] <;> rfl)|(simp only[← hji9];first|rfl|(simp[errW_none,errW_some] <;> rfl))|(simp[*,errW_none,errW_some] <;> rfl),q20x0,q20x1,cK⟩
   ·rw[if_neg G]at H;obtain⟨aw,ax⟩:=eF G;simp only[Option.some.injEq,Prod.mk.injEq]at H;obtain⟨rfl,rfl,rfl⟩:=H;obtain⟨ASz13_0,cSz13_0,HGz13,hgz13,HSz13_0⟩:=HI0.out;have cd:=cellS74_0 HGz13;have ce:=cellS74_1 HGz13;have cf:=cellS74_2 HGz13;have cg:=blk_frozen HGz13 1;have ch:=blk_frozen HGz13 2;clear HGz13 hgz13;have aj:0≤(s0_1:Int):=dA;have ak:s0_1<(s0_0.length:Int):=dA;obtain⟨be,bf,aF,aG,aH⟩:=at_T95 HSz13_0 s0_1 aj ak;cases bf;replace aF:=pw_cell_below HB.out aF;replace aG:=pw_cell_below HB.out aG;replace aH:=pw_cell_below HB.out aH;replace aj:=eq_true aj;replace ak:=eq_true ak;go_enter Tryz.func72,Tryz.ntmps72;go_wp2
    repeat(go_quiet (fail);try go_wp2)
    go_ret;exact⟨rE,q20x0,q20x1,cK⟩
def AU.l0:Nat→ByteArray→List ByteArray→Int→Int→List (S95)→Int→Bool→Option (Int×Int×Int×Bool)
  | 0,_,_,_,_,_,_,_=>none
  | k+1,bi,aQ,aR,ar,aS,aT,bj=>if ar<(aQ.length:Int)then(if 0≤ar then(if(rdOf ByteArray.empty aQ ar).toList=bi.toList then(AU.l0 k bi aQ ar (wrap64 (ar+1)) aS aT bj)else(AU.l0 k bi aQ aR (wrap64 (ar+1)) aS aT bj))else(none))else(if aR<0 then(some (0,0,aT,true))else((BG.f aS aT bj).bind fun aK=>(if aK.1=true then((A4.f aS aK.2.1 aK.2.2).bind fun bk=>(some (aR,bk.1,bk.2.1,bk.2.2)))else(some (aR,0,aK.2.1,aK.2.2)))))
def AU.f (k:Nat) (s0_0:List (S95)) (s0_1:Int) (s0_2:Bool):Option (Int×Int×Int×Bool):=(BM.f s0_0 s0_1 s0_2).bind fun bl=>((BW.f).bind fun af=>(AU.l0 k bl.1 af (-1) 0 s0_0 bl.2.1 bl.2.2))
theorem AU.calls (k:Nat) (g:Nat) (s0_0:List (S95)) (s0_1:Int) (s0_2:Bool) (r1:Int) (r2:Int) (r3:Int) (r4:Bool) (b w:World) (hI:IsS74 b w g s0_0 s0_1 s0_2) (hB:Below b.heap.size b w) (h:AU.f k s0_0 s0_1 s0_2=some (r1,r2,r3,r4)) :
 Calls Tryz.prog 34 #[.pointer (some ⟨g,0,none⟩)] w fun e w'=>e= .returned (.tuple #[.int .i64 r1,.int .i64 r2])∧IsS74 b w' g s0_0 r3 r4∧Below b.heap.size b w'∧KeepBut w w' g none:=by
 have HI0:=aM hI;have HK:=aM (KeepBut.refl w g none);have HL:=aM hB.size;clear hI;have HW0:=aM hB.size;have HB:=aM hB;clear hB
 unfold AU.f at h;have H:=h
 clear h;replace H:=bE H;obtain⟨⟨bm,al,am⟩,ae,H⟩:=H;(try dsimp only at H);replace H:=bE H;obtain⟨af,ci,H⟩:=H;have H':=aM H;clear H;go_enter Tryz.func34,Tryz.ntmps34
 go_wp2_with (first|((with_reducible refine gF 72 ?_);refine gX (some 10) Tryz.func72 (BM.calls g s0_0 s0_1 s0_2 bm al am b _ q20x0 q20x1 ae.out) ?_;rintro c2 ⟨hi,hb,hk⟩;replace HK:=tK (w:=w) hk;replace HB:=aM hb;replace HI0:=aM hi;clear hb hk hi)|((with_reducible refine gF 73 ?_);refine gY (some 11) Tryz.func73 (BW.calls ci.out) ?_;rintro cj c3 ⟨bG,hb⟩;have ck:=aM (R_lower bG (keep_size (w:=w) (g:=g) (row:=none) cK));replace HK:=zKT (w:=w) (g:=g) hb;replace HB:=aM (below_step q20x1 hb);replace HI0:=aM (IsS74.below q20x0 hb);(try clear hb);(try clear bG)))
 go_loopg [6,7] k (fun kq cl cm w'=> ∃ (aL:Int) (O:Int),cl= .int .i64 aL∧cm= .int .i64 O∧Aside0 (AU.l0 kq bm af aL O s0_0 al am=some (r1,r2,r3,r4))∧Aside0 (kq≤k)∧Aside0 (Kd.R Kd.string 9 w' w.heap.size (fun _=>True) cj af)∧Aside0 (IsS74 b w' g s0_0 al am)∧Aside0 (KeepBut w w' g none)∧Aside0 (Below b.heap.size b w'))
 case atStart=>exact⟨((-1)),(0),rS,rS,H',⟨Nat.le_refl _⟩,⟨mR ck⟩,⟨q20x0⟩,⟨cK⟩,⟨q20x1⟩⟩
 case round=>
  clear H';obtain⟨aL,O,rfl,rfl,HA,HK1,L,HI0,HK,HB⟩:=hrel
  cases gk with
  | zero=>exact absurd HA.out (by simp[AU.l0])
  | succ k1=>
   have H:=HA.out;clear HA;simp only[AU.l0]at H;by_cases U:O<(af.length:Int)
   ·rw[if_pos U]at H;have av:=decide_eq_true U;clear U;replace H:=gD H;obtain⟨bp,H⟩:=H;by_cases G:(rdOf ByteArray.empty af O).toList=bm.toList
    ·rw[if_pos G]at H;obtain⟨aw,ax⟩:=eT G;clear G;have H':=aM H;clear H;obtain⟨c4,c5,cn⟩:=R_slice L.out;subst cn;have an:0≤(O:Int):=dA;have ao:O<(af.length:Int):=dA;obtain⟨co,bn,cp⟩:=at_string (R_reads' L.out).2.2 O an ao;cases bn;replace an:=eq_true an;replace ao:=eq_true ao;go_wp2;go_roundg k1
     case measure=>exact oK
     case rel=>exact⟨(O),(wrap64 (O+1)),rS,rS,H',⟨oK⟩,⟨mR L⟩,⟨q20x0⟩,⟨cK⟩,⟨q20x1⟩⟩
    ·rw[if_neg G]at H;obtain⟨aw,ax⟩:=eF G;have H':=aM H;clear H;obtain⟨c6,c8,cq⟩:=R_slice L.out;subst cq;have an:0≤(O:Int):=dA;have ao:O<(af.length:Int):=dA;obtain⟨co,bn,cp⟩:=at_string (R_reads' L.out).2.2 O an ao;cases bn;replace an:=eq_true an;replace ao:=eq_true ao;go_wp2;go_roundg k1
     case measure=>exact oK
     case rel=>exact⟨(aL),(wrap64 (O+1)),rS,rS,H',⟨oK⟩,⟨mR L⟩,⟨q20x0⟩,⟨cK⟩,⟨q20x1⟩⟩
   ·rw[if_neg U]at H;have av:=decide_eq_false U;clear U;by_cases au:aL<0
    ·rw[if_pos au]at H;have bF:=decide_eq_true au;clear au;simp only[Option.some.injEq,Prod.mk.injEq]at H;obtain⟨rfl,rfl,rfl,rfl⟩:=H;obtain⟨da,db,cr⟩:=R_slice L.out;subst cr;obtain⟨ASz13_0,cSz13_0,HGz13,hgz13,HSz13_0⟩:=HI0.out;have cd:=cellS74_0 HGz13;have ce:=cellS74_1 HGz13;have cf:=cellS74_2 HGz13;have cg:=blk_frozen HGz13 1;have ch:=blk_frozen HGz13 2;clear HGz13 hgz13;go_wp2;go_ret2;exact⟨rE,q20x0,q20x1,cK⟩
    ·rw[if_neg au]at H;have bF:=decide_eq_false au;clear au;replace H:=bE H;obtain⟨⟨ct,aU,aV⟩,bH,H⟩:=H;(try dsimp only at H);by_cases aW:ct=true
     ·subst aW;replace H:=iT H;replace H:=bE H;obtain⟨⟨cu,cv,cw⟩,cx,H⟩:=H;(try dsimp only at H);simp only[Option.some.injEq,Prod.mk.injEq]at H;obtain⟨rfl,rfl,rfl,rfl⟩:=H;obtain⟨dc,dd,cy⟩:=R_slice L.out;subst cy
      go_wp2_with (first|((with_reducible refine gF 71 ?_);refine gX (some 31) Tryz.func71 (BG.calls g s0_0 al am true aU aV b _ q20x0 q20x1 bH.out) ?_;rintro de ⟨hi,hb,hk⟩;replace L:=aM (R_mono (R_keep (IsS74.apart (show IsS74 b _ g s0_0 al am from q20x0) (mR L) (by decide)) hk (fun _ h=>h.2)) (fun _ h=>h.1));replace HK:=tK (w:=w) hk;replace HB:=aM hb;replace HI0:=aM hi;clear hb hk hi)|((with_reducible refine gF 33 ?_);refine gX (some 33) Tryz.func33 (A4.calls g s0_0 aU aV cu cv cw b _ q20x0 q20x1 cx.out) ?_;rintro df ⟨hi,hb,hk⟩;replace L:=aM (R_mono (R_keep (IsS74.apart (show IsS74 b _ g s0_0 aU aV from q20x0) (mR L) (by decide)) hk (fun _ h=>h.2)) (fun _ h=>h.1));replace HK:=tK (w:=w) hk;replace HB:=aM hb;replace HI0:=aM hi;clear hb hk hi))
      go_ret2;exact⟨rE,q20x0,q20x1,cK⟩
     ·replace aW:=Bool.eq_false_iff.mpr aW;subst aW;replace H:=iF H;simp only[Option.some.injEq,Prod.mk.injEq]at H;obtain⟨rfl,rfl,rfl,rfl⟩:=H;obtain⟨dg,dh,cz⟩:=R_slice L.out;subst cz
      go_wp2_with (first|((with_reducible refine gF 71 ?_);refine gX (some 31) Tryz.func71 (BG.calls g s0_0 al am false aU aV b _ q20x0 q20x1 bH.out) ?_;rintro di ⟨hi,hb,hk⟩;replace L:=aM (R_mono (R_keep (IsS74.apart (show IsS74 b _ g s0_0 al am from q20x0) (mR L) (by decide)) hk (fun _ h=>h.2)) (fun _ h=>h.1));replace HK:=tK (w:=w) hk;replace HB:=aM hb;replace HI0:=aM hi;clear hb hk hi))
      go_ret2;exact⟨rE,q20x0,q20x1,cK⟩
def Br.f  :Option (List ByteArray):=some (([(⟨#[114,101,97,100]⟩ :ByteArray),(⟨#[119,114,105,116,101]⟩ :ByteArray),(⟨#[111,112,101,110]⟩ :ByteArray),(⟨#[99,108,111,115,101]⟩ :ByteArray),(⟨#[115,116,97,116]⟩ :ByteArray),(⟨#[109,109,97,112]⟩ :ByteArray),(⟨#[101,120,101,99]⟩ :ByteArray),(⟨#[102,111,114,107]⟩ :ByteArray),(⟨#[107,105,108,108]⟩ :ByteArray),(⟨#[115,101,110,100]⟩ :ByteArray),(⟨#[114,101,99,118]⟩ :ByteArray),(⟨#[101,120,105,116]⟩ :ByteArray)] :List ByteArray))
theorem Br.calls {r:List ByteArray}{w:World}(h:Br.f  = some r) :
 Calls Tryz.prog 112 #[] w fun e w'=> ∃ v0_:Value,e= .returned (v0_)∧Kd.R Kd.string 9 w' w.heap.size (fun _=>True) v0_ r∧Below w.heap.size w w':=by
 have HB:=rW w;have H:(some (([(⟨#[114,101,97,100]⟩ :ByteArray),(⟨#[119,114,105,116,101]⟩ :ByteArray),(⟨#[111,112,101,110]⟩ :ByteArray),(⟨#[99,108,111,115,101]⟩ :ByteArray),(⟨#[115,116,97,116]⟩ :ByteArray),(⟨#[109,109,97,112]⟩ :ByteArray),(⟨#[101,120,101,99]⟩ :ByteArray),(⟨#[102,111,114,107]⟩ :ByteArray),(⟨#[107,105,108,108]⟩ :ByteArray),(⟨#[115,101,110,100]⟩ :ByteArray),(⟨#[114,101,99,118]⟩ :ByteArray),(⟨#[101,120,105,116]⟩ :ByteArray)] :List ByteArray)))=some r:=h;clear h;obtain⟨dj,bo⟩ : ∃ y_:List ByteArray,Aside0 (y_=(([(⟨#[114,101,97,100]⟩ :ByteArray),(⟨#[119,114,105,116,101]⟩ :ByteArray),(⟨#[111,112,101,110]⟩ :ByteArray),(⟨#[99,108,111,115,101]⟩ :ByteArray),(⟨#[115,116,97,116]⟩ :ByteArray),(⟨#[109,109,97,112]⟩ :ByteArray),(⟨#[101,120,101,99]⟩ :ByteArray),(⟨#[102,111,114,107]⟩ :ByteArray),(⟨#[107,105,108,108]⟩ :ByteArray),(⟨#[115,101,110,100]⟩ :ByteArray),(⟨#[114,101,99,118]⟩ :ByteArray),(⟨#[101,120,105,116]⟩ :ByteArray)] :List ByteArray))):=⟨_,⟨rfl⟩⟩;rw[← bo.out]at H;obtain rfl:=Option.some.inj H;go_enter Tryz.func112,Tryz.ntmps112
 go_wp2_with (first|((with_reducible refine gN 1 ?_);refine R_lit Kd.string _ 9 ?hg (N:=1) ?hd (xs:=([(⟨#[114,101,97,100]⟩ :ByteArray),(⟨#[119,114,105,116,101]⟩ :ByteArray),(⟨#[111,112,101,110]⟩ :ByteArray),(⟨#[99,108,111,115,101]⟩ :ByteArray),(⟨#[115,116,97,116]⟩ :ByteArray),(⟨#[109,109,97,112]⟩ :ByteArray),(⟨#[101,120,101,99]⟩ :ByteArray),(⟨#[102,111,114,107]⟩ :ByteArray),(⟨#[107,105,108,108]⟩ :ByteArray),(⟨#[115,101,110,100]⟩ :ByteArray),(⟨#[114,101,99,118]⟩ :ByteArray),(⟨#[101,120,105,116]⟩ :ByteArray)] :List ByteArray)) (inner:=[.string (⟨#[114,101,97,100]⟩ :ByteArray),.string (⟨#[119,114,105,116,101]⟩ :ByteArray),.string (⟨#[111,112,101,110]⟩ :ByteArray),.string (⟨#[99,108,111,115,101]⟩ :ByteArray),.string (⟨#[115,116,97,116]⟩ :ByteArray),.string (⟨#[109,109,97,112]⟩ :ByteArray),.string (⟨#[101,120,101,99]⟩ :ByteArray),.string (⟨#[102,111,114,107]⟩ :ByteArray),.string (⟨#[107,105,108,108]⟩ :ByteArray),.string (⟨#[115,101,110,100]⟩ :ByteArray),.string (⟨#[114,101,99,118]⟩ :ByteArray),.string (⟨#[101,120,105,116]⟩ :ByteArray)]) (ok:=fun _=>True) (okp:=fun _=>True) ?hr ?hp (fun _ hk=>hk) trivial (Below.refl _ _) (Nat.le_refl _) (by simp) ?_;(case hd=>rfl);(case hg=>rfl);(case hr=>exact rG);(case hp=>exact(Reps.one (zMS ⟨#[114,101,97,100]⟩) (Reps.one (zMS ⟨#[119,114,105,116,101]⟩) (Reps.one (zMS ⟨#[111,112,101,110]⟩) (Reps.one (zMS ⟨#[99,108,111,115,101]⟩) (Reps.one (zMS ⟨#[115,116,97,116]⟩) (Reps.one (zMS ⟨#[109,109,97,112]⟩) (Reps.one (zMS ⟨#[101,120,101,99]⟩) (Reps.one (zMS ⟨#[102,111,114,107]⟩) (Reps.one (zMS ⟨#[107,105,108,108]⟩) (Reps.one (zMS ⟨#[115,101,110,100]⟩) (Reps.one (zMS ⟨#[114,101,99,118]⟩) (Reps.one (zMS ⟨#[101,120,105,116]⟩) (Reps.none _ _))))))))))))));intro dk dl aN hb hg_ hnew_;clear hg_ hnew_;(first|rw[← bo.out]at aN|(simp only[Int.reduceToNat]at aN;rw[← bo.out]at aN));have cA:=rL aN;replace HB:=sB hb;clear hb aN))
 go_ret;exact⟨_,rE,mR cA,cB⟩
end Go.Proofs.YtfhjjfibblcklaaGreat.PFnPolicies
