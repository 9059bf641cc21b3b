import Derived.Test.YtpbalojiaghfhaaGreatPFnCompilesToldy0
import Derived.Test.YtpbalojiaghfhaaGreatPFnCompilesToldy1
import Derived.Test.YtpbalojiaghfhaaGreatPFnCompilesToldy14
import Derived.Test.YtpbalojiaghfhaaGreatPFnCompilesToldy19
namespace Go.Proofs.YtpbalojiaghfhaaGreat.PFnCompilesTold
open Go.RowKit Go.Proofs.YtpbalojiaghfhaaGreatW.PrintWords Go.Proofs.YtpbalojiaghfhaaGreatW.PrintLast Go.Proofs.YtpbalojiaghfhaaGreatW.PrintMore Go.Proofs.YtpbalojiaghfhaaGreatW.Z
open Kd
attribute [local go_sem] isS max2_int min2_int max_two min_two max_three min_three max_four min_four
set_option linter.unusedVariables false
set_option linter.unusedSimpArgs false
attribute [local go_sem high] eqA71
mutual
def spec_l09Rule.l0:Nat→Int→List Int→List (S118)→Int→Int→Option (Bool)
  | 0,_,_,_,_,_=>none
  | k+1,q,U,E,ap,aq=>if q<(U.length:Int)then(if 0≤q then((spec_HalfOk.f (rd U q)).bind fun aQ=>(if aQ=true then(if q>0 then(if 0≤(wrap64 (q - 1))then(if(wrap64 (q - 1))<(U.length:Int)then(if(rd U (wrap64 (q - 1)))≥(rd U q)then(some false)else(spec_l09Rule.l0 k (wrap64 (q+1)) U E ap aq))else(none))else(none))else(spec_l09Rule.l0 k (wrap64 (q+1)) U E ap aq))else(some false)))else(none))else(spec_l09Rule.l1 k 0 U E ap aq)
def spec_l09Rule.l1:Nat→Int→List Int→List (S118)→Int→Int→Option (Bool)
  | 0,_,_,_,_,_=>none
  | k+1,ad,U,E,ap,aq=>if ad<(E.length:Int)then(if 0≤ad then((spec_CondOk.f ((rd_T118 E ad).f0) ((rd_T118 E ad).f1.f0) ((rd_T118 E ad).f1.f1) ((rd_T118 E ad).f2) ((rd_T118 E ad).f3.f0) ((rd_T118 E ad).f3.f1)).bind fun aR=>(if aR=true then(spec_l09Rule.l1 k (wrap64 (ad+1)) U E ap aq)else(some false)))else(none))else(if(U.length:Int)≤4 then(if(E.length:Int)≤3 then((spec_l09Act.f ap aq).bind fun a5=>(some a5))else(some false))else(some false))
end
def spec_l09Rule.f (k:Nat) (b:List Int) (o:List (S118)) (d:Int) (p:Int):Option (Bool):=spec_l09Rule.l0 k 0 b o d p
set_option maxHeartbeats 8000000 in
set_option maxRecDepth 100000 in
theorem spec_l09Rule.calls {k:Nat}{ae:Option Addr}{af:Nat}{b:List Int}{ag:Option Addr}{ah:Nat}{o:List (S118)}{d:Int}{p:Int}{r:Bool}{w:World}(h:spec_l09Rule.f k b o d p=some r)(a6:Kd.C (Kd.int .i64) w ae b.length b)(a7:b.length≤af)(a8:Kd.C k118 w ag o.length o)(a9:o.length≤ah) :
 Calls Tryz.prog 82 #[.agg #[.slice ae b.length af,.slice ag o.length ah,.int .i64 d,.int .i64 p]] w fun e w'=>e= .returned (.bool r)∧Below w.heap.size w w':=by
 have hu78:=Tryz.underlying78;have hu118:=Tryz.underlying118;have HR0_0:=aM a6;have HC0_0:=aM a7;clear a6 a7;have HR0_1:=aM a8;have HC0_1:=aM a9;clear a8 a9;have HB:=rW w;have H:(spec_l09Rule.l0 k 0 b o d p)=some r:=h;clear h;have H':=aM H;clear H;go_enter Tryz.func82,Tryz.ntmps82
 go_wp2_with (first|((with_reducible refine gN 1 ?_);(try(refine gate_guard (by rfl) ?_;dsimp only));refine boxZ 1 #[.slice ae b.length af,.slice ag o.length ah,.int .i64 d,.int .i64 p] 78 ?_;intro aE hg aF hbox hb;have c:=aM hbox;have GW986:=gS hg;have GE986:=gS hg;replace HB:=sB hb;clear hb hbox hg))
 repeat(go_quiet (first|((with_reducible refine gate_dst (N:=1) rfl ?_);(try(refine gate_guard (by rfl) ?_;dsimp only));refine box_event ?hg (N:=1) ?hd (cs:= #[.slice ae b.length af,.slice ag o.length ah,.int .i64 d,.int .i64 p]) (t:=78) ?hr ?_;(case hd=>rfl);(case hg=>rfl);(case hr=>first|(go_simp;done)|(go_simp;rfl));intro aE hg aF hbox hb;have n0_:=sB hb;have n1_:=aM hbox;have n2_:=gS hg;have n3_:=gS hg;clear HB;have HB:=n0_;have c:=n1_;have GW986:=n2_;have GE986:=n3_;clear n0_ n1_ n2_ n3_;clear hb hbox hg));try go_wp2_with (first|((with_reducible refine gate_dst (N:=1) rfl ?_);(try(refine gate_guard (by rfl) ?_;dsimp only));refine box_event ?hg (N:=1) ?hd (cs:= #[.slice ae b.length af,.slice ag o.length ah,.int .i64 d,.int .i64 p]) (t:=78) ?hr ?_;(case hd=>rfl);(case hg=>rfl);(case hr=>first|(go_simp;done)|(go_simp;rfl));intro aE hg aF hbox hb;have n0_:=sB hb;have n1_:=aM hbox;have n2_:=gS hg;have n3_:=gS hg;clear HB;have HB:=n0_;have c:=n1_;have GW986:=n2_;have GE986:=n3_;clear n0_ n1_ n2_ n3_;clear hb hbox hg)))
 go_loopg [3] k (fun kq aS w'=> ∃ (a:Int),aS= .int .i64 a∧Aside0 (spec_l09Rule.l0 kq a b o d p=some r)∧Aside0 (kq≤k)∧Aside0 (w'.heap[aE]?=some (.cells #[(.slice ae b.length af),(.slice ag o.length ah),.int .i64 d,.int .i64 p] 78 (0,0)))∧Aside0 (Below w.heap.size w w'))
 case atStart=>exact⟨(0),rS,H',⟨Nat.le_refl _⟩,⟨mK c⟩,⟨cB⟩⟩
 case round=>
  clear H';obtain⟨a,rfl,HA,HK1,c,HB⟩:=hrel
  cases gk with
  | zero=>exact absurd HA.out (by simp[spec_l09Rule.l0])
  | succ k1=>
   have H:=HA.out;clear HA;simp only[spec_l09Rule.l0]at H;by_cases m:a<(b.length:Int)
   ·rw[if_pos m]at H;have ar:=decide_eq_true m;clear m;replace H:=gD H;obtain⟨aT,H⟩:=H;replace H:=bE H;obtain⟨aQ,n,H⟩:=H;by_cases y:aQ=true
    ·subst y;replace H:=iT H;by_cases G:a>0
     ·rw[if_pos G]at H;have aG:decide (0<a)=true:=decide_eq_true G;clear G;obtain⟨ji8,hji8⟩ : ∃ j_:Int,(wrap64 (a - 1))=j_:=⟨_,rfl⟩
      (first|rw[hji8]at H|simp only[hji8]at H)
      (try rw[hji8]at n);have hji8w:(IntKind.i64.wrap (a - 1))=ji8:=(i64_w _).trans hji8;replace H:=gD H;obtain⟨bR,H⟩:=H;replace H:=gD H;obtain⟨bS,H⟩:=H;by_cases ai:(rd b (ji8))≥(rd b a)
      ·rw[if_pos ai]at H;have ba:decide ((rd b a)≤(rd b (ji8)))=true:=decide_eq_true ai;clear ai;obtain rfl:=Option.some.inj H;obtain⟨bT,bU,bV,bW,bX,bY,bZ,b0⟩:=cz4 c;have v:0≤(a:Int):=dA;have x:a<(b.length:Int):=dA;obtain⟨z,aj,L⟩:=at_int HR0_0.out a v x;cases aj;replace L:=(bc HB L :);replace v:=eq_true v;replace x:=eq_true x
       go_wp2_with (first|(go_at_call 83;(with_reducible refine(spec_HalfOk.calls n.out).mono ?_);rintro e w' ⟨rfl,⟨nd,rfl⟩⟩;(try first|exact⟨rfl,_,World.drewN_drewN _ _ _⟩|exact⟨rfl,_,Eq.trans (World.drewN_drewN _ _ _) (congrArg (World.drewN _) (Nat.add_assoc _ _ _))⟩);have g:0≤((ji8):Int):=dA;have i:(ji8)<(b.length:Int):=dA;obtain⟨W,X,s⟩:=at_int HR0_0.out (ji8) g i;obtain rfl:z=W:=(by injection X);replace s:=(bc HB s :);replace g:=eq_true g;replace i:=eq_true i;have j:0≤(a:Int):=dA;have l:a<(b.length:Int):=dA;obtain⟨Y,aa,u⟩:=at_int HR0_0.out a j l;obtain rfl:z=Y:=(by injection aa);replace u:=(bc HB u :);replace j:=eq_true j;replace l:=eq_true l))
       repeat(go_quiet (first|(go_at_call 83;(with_reducible refine(spec_HalfOk.calls n.out).mono ?_);rintro e w' ⟨rfl,⟨nd,rfl⟩⟩;(try first|exact⟨rfl,_,World.drewN_drewN _ _ _⟩|exact⟨rfl,_,Eq.trans (World.drewN_drewN _ _ _) (congrArg (World.drewN _) (Nat.add_assoc _ _ _))⟩);have g:0≤((ji8):Int):=dA;have i:(ji8)<(b.length:Int):=dA;obtain⟨W,X,s⟩:=at_int HR0_0.out (ji8) g i;obtain rfl:z=W:=(by injection X);replace s:=(bc HB s :);replace g:=eq_true g;replace i:=eq_true i;have j:0≤(a:Int):=dA;have l:a<(b.length:Int):=dA;obtain⟨Y,aa,u⟩:=at_int HR0_0.out a j l;obtain rfl:z=Y:=(by injection aa);replace u:=(bc HB u :);replace j:=eq_true j;replace l:=eq_true l));try go_wp2_with (first|(go_at_call 83;(with_reducible refine(spec_HalfOk.calls n.out).mono ?_);rintro e w' ⟨rfl,⟨nd,rfl⟩⟩;(try first|exact⟨rfl,_,World.drewN_drewN _ _ _⟩|exact⟨rfl,_,Eq.trans (World.drewN_drewN _ _ _) (congrArg (World.drewN _) (Nat.add_assoc _ _ _))⟩);have g:0≤((ji8):Int):=dA;have i:(ji8)<(b.length:Int):=dA;obtain⟨W,X,s⟩:=at_int HR0_0.out (ji8) g i;obtain rfl:z=W:=(by injection X);replace s:=(bc HB s :);replace g:=eq_true g;replace i:=eq_true i;have j:0≤(a:Int):=dA;have l:a<(b.length:Int):=dA;obtain⟨Y,aa,u⟩:=at_int HR0_0.out a j l;obtain rfl:z=Y:=(by injection aa);replace u:=(bc HB u :);replace j:=eq_true j;replace l:=eq_true l)))
       go_ret
       exact⟨by first|rfl|(simp[errW_none,errW_some] <;> rfl)|(simp only[← hji8];first|rfl|(simp[errW_none,errW_some] <;> rfl))|(simp[*,errW_none,errW_some] <;> rfl),cB⟩
      ·rw[if_neg ai]at H;have ba:decide ((rd b a)≤(rd b (ji8)))=false:=decide_eq_false ai;clear ai;have H':=aM H;clear H;obtain⟨b1,b5,b8,b9,ca,cb,cc,cd⟩:=cz4 c;have v:0≤(a:Int):=dA;have x:a<(b.length:Int):=dA;obtain⟨z,aj,L⟩:=at_int HR0_0.out a v x;cases aj;replace L:=(bc HB L :);replace v:=eq_true v;replace x:=eq_true x
       go_wp2_with (first|(go_at_call 83;(with_reducible refine(spec_HalfOk.calls n.out).mono ?_);rintro e w' ⟨rfl,⟨nd,rfl⟩⟩;(try first|exact⟨rfl,_,World.drewN_drewN _ _ _⟩|exact⟨rfl,_,Eq.trans (World.drewN_drewN _ _ _) (congrArg (World.drewN _) (Nat.add_assoc _ _ _))⟩);have g:0≤((ji8):Int):=dA;have i:(ji8)<(b.length:Int):=dA;obtain⟨W,X,s⟩:=at_int HR0_0.out (ji8) g i;obtain rfl:z=W:=(by injection X);replace s:=(bc HB s :);replace g:=eq_true g;replace i:=eq_true i;have j:0≤(a:Int):=dA;have l:a<(b.length:Int):=dA;obtain⟨Y,aa,u⟩:=at_int HR0_0.out a j l;obtain rfl:z=Y:=(by injection aa);replace u:=(bc HB u :);replace j:=eq_true j;replace l:=eq_true l))
       repeat(go_quiet (first|(go_at_call 83;(with_reducible refine(spec_HalfOk.calls n.out).mono ?_);rintro e w' ⟨rfl,⟨nd,rfl⟩⟩;(try first|exact⟨rfl,_,World.drewN_drewN _ _ _⟩|exact⟨rfl,_,Eq.trans (World.drewN_drewN _ _ _) (congrArg (World.drewN _) (Nat.add_assoc _ _ _))⟩);have g:0≤((ji8):Int):=dA;have i:(ji8)<(b.length:Int):=dA;obtain⟨W,X,s⟩:=at_int HR0_0.out (ji8) g i;obtain rfl:z=W:=(by injection X);replace s:=(bc HB s :);replace g:=eq_true g;replace i:=eq_true i;have j:0≤(a:Int):=dA;have l:a<(b.length:Int):=dA;obtain⟨Y,aa,u⟩:=at_int HR0_0.out a j l;obtain rfl:z=Y:=(by injection aa);replace u:=(bc HB u :);replace j:=eq_true j;replace l:=eq_true l));try go_wp2_with (first|(go_at_call 83;(with_reducible refine(spec_HalfOk.calls n.out).mono ?_);rintro e w' ⟨rfl,⟨nd,rfl⟩⟩;(try first|exact⟨rfl,_,World.drewN_drewN _ _ _⟩|exact⟨rfl,_,Eq.trans (World.drewN_drewN _ _ _) (congrArg (World.drewN _) (Nat.add_assoc _ _ _))⟩);have g:0≤((ji8):Int):=dA;have i:(ji8)<(b.length:Int):=dA;obtain⟨W,X,s⟩:=at_int HR0_0.out (ji8) g i;obtain rfl:z=W:=(by injection X);replace s:=(bc HB s :);replace g:=eq_true g;replace i:=eq_true i;have j:0≤(a:Int):=dA;have l:a<(b.length:Int):=dA;obtain⟨Y,aa,u⟩:=at_int HR0_0.out a j l;obtain rfl:z=Y:=(by injection aa);replace u:=(bc HB u :);replace j:=eq_true j;replace l:=eq_true l)))
       go_roundg k1
       case measure=>exact oK
       case rel=>exact⟨(wrap64 (a+1)),rS,H',⟨oK⟩,⟨mK c⟩,⟨cB⟩⟩
     ·rw[if_neg G]at H;have aG:decide (0<a)=false:=decide_eq_false G;clear G;have H':=aM H;clear H;obtain⟨ce,cf,cg,ch,ci,cj,ck,cl⟩:=cz4 c;have v:0≤(a:Int):=dA;have x:a<(b.length:Int):=dA;obtain⟨z,aj,L⟩:=at_int HR0_0.out a v x;cases aj;replace L:=(bc HB L :);replace v:=eq_true v;replace x:=eq_true x
      go_wp2_with (first|(go_at_call 83;(with_reducible refine(spec_HalfOk.calls n.out).mono ?_);rintro e w' ⟨rfl,⟨nd,rfl⟩⟩;(try first|exact⟨rfl,_,World.drewN_drewN _ _ _⟩|exact⟨rfl,_,Eq.trans (World.drewN_drewN _ _ _) (congrArg (World.drewN _) (Nat.add_assoc _ _ _))⟩)))
      repeat(go_quiet (first|(go_at_call 83;(with_reducible refine(spec_HalfOk.calls n.out).mono ?_);rintro e w' ⟨rfl,⟨nd,rfl⟩⟩;(try first|exact⟨rfl,_,World.drewN_drewN _ _ _⟩|exact⟨rfl,_,Eq.trans (World.drewN_drewN _ _ _) (congrArg (World.drewN _) (Nat.add_assoc _ _ _))⟩)));try go_wp2_with (first|(go_at_call 83;(with_reducible refine(spec_HalfOk.calls n.out).mono ?_);rintro e w' ⟨rfl,⟨nd,rfl⟩⟩;(try first|exact⟨rfl,_,World.drewN_drewN _ _ _⟩|exact⟨rfl,_,Eq.trans (World.drewN_drewN _ _ _) (congrArg (World.drewN _) (Nat.add_assoc _ _ _))⟩))))
      go_roundg k1
      case measure=>exact oK
      case rel=>exact⟨(wrap64 (a+1)),rS,H',⟨oK⟩,⟨mK c⟩,⟨cB⟩⟩
    ·replace y:=Bool.eq_false_iff.mpr y;subst y;replace H:=iF H;obtain rfl:=Option.some.inj H;obtain⟨bb,bd,be,bf,bg,bh,bi,bj⟩:=cz4 c;have v:0≤(a:Int):=dA;have x:a<(b.length:Int):=dA;obtain⟨z,aj,L⟩:=at_int HR0_0.out a v x;cases aj;replace L:=(bc HB L :);replace v:=eq_true v;replace x:=eq_true x
     go_wp2_with (first|(go_at_call 83;(with_reducible refine(spec_HalfOk.calls n.out).mono ?_);rintro e w' ⟨rfl,⟨nd,rfl⟩⟩;(try first|exact⟨rfl,_,World.drewN_drewN _ _ _⟩|exact⟨rfl,_,Eq.trans (World.drewN_drewN _ _ _) (congrArg (World.drewN _) (Nat.add_assoc _ _ _))⟩)))
     repeat(go_quiet (first|(go_at_call 83;(with_reducible refine(spec_HalfOk.calls n.out).mono ?_);rintro e w' ⟨rfl,⟨nd,rfl⟩⟩;(try first|exact⟨rfl,_,World.drewN_drewN _ _ _⟩|exact⟨rfl,_,Eq.trans (World.drewN_drewN _ _ _) (congrArg (World.drewN _) (Nat.add_assoc _ _ _))⟩)));try go_wp2_with (first|(go_at_call 83;(with_reducible refine(spec_HalfOk.calls n.out).mono ?_);rintro e w' ⟨rfl,⟨nd,rfl⟩⟩;(try first|exact⟨rfl,_,World.drewN_drewN _ _ _⟩|exact⟨rfl,_,Eq.trans (World.drewN_drewN _ _ _) (congrArg (World.drewN _) (Nat.add_assoc _ _ _))⟩))))
     go_ret;exact⟨rE,cB⟩
   ·rw[if_neg m]at H;have ar:=decide_eq_false m;clear m;have H':=aM H;clear H;obtain⟨bk,bl,bm,bn,bo,bp,bq,br⟩:=cz4 c;go_wp2
    repeat(go_quiet (fail);try go_wp2)
    go_loopg [4] k1 (fun kq cm w'=> ∃ (ak:Int),cm= .int .i64 ak∧Aside0 (spec_l09Rule.l1 kq ak b o d p=some r)∧Aside0 (kq≤k1)∧Aside0 (w'.heap[aE]?=some (.cells #[(.slice ae b.length af),(.slice ag o.length ah),.int .i64 d,.int .i64 p] 78 (0,0)))∧Aside0 (Below w.heap.size w w'))
    case atStart=>exact⟨(0),rS,H',⟨Nat.le_refl _⟩,⟨mK c⟩,⟨cB⟩⟩
    case round=>
     clear H';(try clear m);(try clear ar);(try clear c0);(try clear aT);(try clear y);(try clear G);(try clear aG);(try clear c1);(try clear bR);(try clear c3);(try clear bS);(try clear ai);(try clear ba);(try clear bT bU bV bW);(try clear b1 b5 b8 b9);(try clear ce cf cg ch);(try clear bb bd be bf);(try clear bk bl bm bn);(try clear bX bY bZ b0);(try clear ca cb cc cd);(try clear ci cj ck cl);(try clear bg bh bi bj);(try clear bo bp bq br);(try clear L);(try clear s);(try clear u);(try clear v);(try clear g);(try clear j);(try clear x);(try clear i);(try clear l);obtain⟨ak,rfl,HA,HK2,c,HB⟩:=hrel
     cases gk with
     | zero=>exact absurd HA.out (by simp[spec_l09Rule.l1])
     | succ k2=>
      have H:=HA.out;clear HA;simp only[spec_l09Rule.l1]at H;by_cases au:ak<(o.length:Int)
      ·rw[if_pos au]at H;have cn:=decide_eq_true au;clear au;replace H:=gD H;obtain⟨c4,H⟩:=H;replace H:=bE H;obtain⟨aR,av,H⟩:=H;by_cases aH:aR=true
       ·subst aH;replace H:=iT H;have H':=aM H;clear H;obtain⟨c6,c7,c9,da,db,dc,dd,de⟩:=cz4 c;obtain⟨co,cp,cq,aU,cr,ct,cu,cv,cw,cx⟩:=b6 HB (at_T118 HR0_1.out ak);cases aU
        go_wp2_with (first|(go_at_call 110;(with_reducible refine(spec_CondOk.calls av.out).mono ?_);rintro e bs ⟨rfl,hb⟩;replace c:=kB c hb;replace HB:=sB hb;(try clear hb)))
        repeat(go_quiet (first|(go_at_call 110;(with_reducible refine(spec_CondOk.calls av.out).mono ?_);rintro e bs ⟨rfl,hb⟩;have n0_:=kB c hb;have n1_:=sB hb;clear c;clear HB;have c:=n0_;have HB:=n1_;clear n0_ n1_;(try clear hb);(try clear hb2);(try clear hk);(try clear hi)));try go_wp2_with (first|(go_at_call 110;(with_reducible refine(spec_CondOk.calls av.out).mono ?_);rintro e bs ⟨rfl,hb⟩;have n0_:=kB c hb;have n1_:=sB hb;clear c;clear HB;have c:=n0_;have HB:=n1_;clear n0_ n1_;(try clear hb);(try clear hb2);(try clear hk);(try clear hi))))
        go_roundg k2
        case measure=>have:=HK1.out;have:=HK2.out;omega
        case rel=>exact⟨(wrap64 (ak+1)),rS,H',⟨by have:=HK1.out;have:=HK2.out;omega⟩,⟨mK c⟩,⟨cB⟩⟩
       ·replace aH:=Bool.eq_false_iff.mpr aH;subst aH;replace H:=iF H;obtain rfl:=Option.some.inj H;obtain⟨df,dg,dh,di,dj,dk,dl,dm⟩:=cz4 c;obtain⟨co,cp,cq,aU,cr,ct,cu,cv,cw,cx⟩:=b6 HB (at_T118 HR0_1.out ak);cases aU
        go_wp2_with (first|(go_at_call 110;(with_reducible refine(spec_CondOk.calls av.out).mono ?_);rintro e bu ⟨rfl,hb⟩;replace c:=kB c hb;replace HB:=sB hb;(try clear hb)))
        repeat(go_quiet (first|(go_at_call 110;(with_reducible refine(spec_CondOk.calls av.out).mono ?_);rintro e bu ⟨rfl,hb⟩;have n0_:=kB c hb;have n1_:=sB hb;clear c;clear HB;have c:=n0_;have HB:=n1_;clear n0_ n1_;(try clear hb);(try clear hb2);(try clear hk);(try clear hi)));try go_wp2_with (first|(go_at_call 110;(with_reducible refine(spec_CondOk.calls av.out).mono ?_);rintro e bu ⟨rfl,hb⟩;have n0_:=kB c hb;have n1_:=sB hb;clear c;clear HB;have c:=n0_;have HB:=n1_;clear n0_ n1_;(try clear hb);(try clear hb2);(try clear hk);(try clear hi))))
        go_ret;exact⟨rE,cB⟩
      ·rw[if_neg au]at H;have cn:=decide_eq_false au;clear au;by_cases aw:(b.length:Int)≤4
       ·rw[if_pos aw]at H;have cy:=decide_eq_true aw
        have cz:decide (b.length≤4)=true:=decide_eq_true (by omega)
        clear aw;by_cases ax:(o.length:Int)≤3
        ·rw[if_pos ax]at H;have cA:=decide_eq_true ax
         have cD:decide (o.length≤3)=true:=decide_eq_true (by omega)
         clear ax;replace H:=bE H;obtain⟨a5,aV,H⟩:=H;obtain rfl:=Option.some.inj H;obtain⟨dn,dp,dq,dr,ds,dt,du,dv⟩:=cz4 c
         go_wp2_with (first|(go_at_call 84;(with_reducible refine(spec_l09Act.calls aV.out).mono ?_);rintro e w' ⟨rfl,⟨nd,rfl⟩⟩;(try first|exact⟨rfl,_,World.drewN_drewN _ _ _⟩|exact⟨rfl,_,Eq.trans (World.drewN_drewN _ _ _) (congrArg (World.drewN _) (Nat.add_assoc _ _ _))⟩)))
         repeat(go_quiet (first|(go_at_call 84;(with_reducible refine(spec_l09Act.calls aV.out).mono ?_);rintro e w' ⟨rfl,⟨nd,rfl⟩⟩;(try first|exact⟨rfl,_,World.drewN_drewN _ _ _⟩|exact⟨rfl,_,Eq.trans (World.drewN_drewN _ _ _) (congrArg (World.drewN _) (Nat.add_assoc _ _ _))⟩)));try go_wp2_with (first|(go_at_call 84;(with_reducible refine(spec_l09Act.calls aV.out).mono ?_);rintro e w' ⟨rfl,⟨nd,rfl⟩⟩;(try first|exact⟨rfl,_,World.drewN_drewN _ _ _⟩|exact⟨rfl,_,Eq.trans (World.drewN_drewN _ _ _) (congrArg (World.drewN _) (Nat.add_assoc _ _ _))⟩))))
         go_ret;exact⟨rE,cB⟩
        ·rw[if_neg ax]at H;have cA:=decide_eq_false ax
         have cD:decide (o.length≤3)=false:=decide_eq_false (by omega)
         clear ax;obtain rfl:=Option.some.inj H;obtain⟨dw,dx,dy,dz,dC,dD,dE,dF⟩:=cz4 c;go_wp2
         repeat(go_quiet (fail);try go_wp2)
         go_ret;exact⟨rE,cB⟩
       ·rw[if_neg aw]at H;have cy:=decide_eq_false aw
        have cz:decide (b.length≤4)=false:=decide_eq_false (by omega)
        clear aw;obtain rfl:=Option.some.inj H;obtain⟨dG,dH,dI,dJ,dK,dL,dM,dN⟩:=cz4 c;go_wp2
        repeat(go_quiet (fail);try go_wp2)
        go_ret;exact⟨rE,cB⟩
def spec_PolicyOk.l0:Nat→Int→Int→Int→Int→List (S78)→Option (Bool)
  | 0,_,_,_,_,_=>none
  | k+1,q,bv,bw,bx,al=>if q<(al.length:Int)then(if 0≤q then((spec_l09Rule.f k ((rd_T78 al q).f0) ((rd_T78 al q).f1) ((rd_T78 al q).f2) ((rd_T78 al q).f3)).bind fun aW=>(if aW=true then(spec_PolicyOk.l0 k (wrap64 (q+1)) bv bw bx al)else(some false)))else(none))else((spec_HalfOk.f bv).bind fun aX=>(if aX=true then((spec_l09Act.f bw bx).bind fun aY=>(if aY=true then(some (decide ((al.length:Int)≤10)))else(some false)))else(some false)))
def spec_PolicyOk.f (k:Nat) (I:Int) (A:Int) (d:Int) (D:List (S78)):Option (Bool):=spec_PolicyOk.l0 k 0 I A d D
set_option maxHeartbeats 8000000 in
set_option maxRecDepth 100000 in
theorem spec_PolicyOk.calls {k:Nat}{I:Int}{A:Int}{d:Int}{aI:Option Addr}{aJ:Nat}{D:List (S78)}{r:Bool}{w:World}(h:spec_PolicyOk.f k I A d D=some r)(bz:Kd.C k78 w aI D.length D)(bA:D.length≤aJ) :
 Calls Tryz.prog 40 #[.agg #[.int .i64 I,.int .i64 A,.int .i64 d,.slice aI D.length aJ]] w fun e w'=>e= .returned (.bool r)∧Below w.heap.size w w':=by
 have hu26:=Tryz.underlying26;have hu78:=Tryz.underlying78;have HR0_3:=aM bz;have HC0_3:=aM bA;clear bz bA;have HB:=rW w;have H:(spec_PolicyOk.l0 k 0 I A d D)=some r:=h;clear h;have H':=aM H;clear H;go_enter Tryz.func40,Tryz.ntmps40
 go_wp2_with (first|((with_reducible refine gN 1 ?_);(try(refine gate_guard (by rfl) ?_;dsimp only));refine boxZ 1 #[.int .i64 I,.int .i64 A,.int .i64 d,.slice aI D.length aJ] 26 ?_;intro cE hg aF hbox hb;have M:=aM hbox;have GW994:=gS hg;have GE994:=gS hg;replace HB:=sB hb;clear hb hbox hg))
 go_loopg [3] k (fun kq aS w'=> ∃ (a:Int),aS= .int .i64 a∧Aside0 (spec_PolicyOk.l0 kq a I A d D=some r)∧Aside0 (kq≤k)∧Aside0 (w'.heap[cE]?=some (.cells #[.int .i64 I,.int .i64 A,.int .i64 d,(.slice aI D.length aJ)] 26 (0,0)))∧Aside0 (Below w.heap.size w w'))
 case atStart=>exact⟨(0),rS,H',⟨Nat.le_refl _⟩,⟨mK M⟩,⟨cB⟩⟩
 case round=>
  clear H';obtain⟨a,rfl,HA,HK1,M,HB⟩:=hrel
  cases gk with
  | zero=>exact absurd HA.out (by simp[spec_PolicyOk.l0])
  | succ k1=>
   have H:=HA.out;clear HA;simp only[spec_PolicyOk.l0]at H;by_cases m:a<(D.length:Int)
   ·rw[if_pos m]at H;have ar:=decide_eq_true m;clear m;replace H:=gD H;obtain⟨aT,H⟩:=H;replace H:=bE H;obtain⟨aW,n,H⟩:=H;by_cases y:aW=true
    ·subst y;replace H:=iT H;have H':=aM H;clear H;obtain⟨dO,dP,dQ,dS,dT,dU,dV,dX⟩:=cz4 M;have am:0≤(a:Int):=dA;have an:a<(D.length:Int):=dA;obtain⟨cF,cG,cI,cJ,cL,aZ,az,aA,aB,aC,hl995_0,hi995_0,hl995_1,hi995_1⟩:=at_T78 HR0_3.out a am an;cases aZ;replace az:=(bc HB az :);replace aA:=(bc HB aA :);replace aB:=(bc HB aB :);replace aC:=(bc HB aC :);have HR995_0:=aM hi995_0;have HC995_0:=aM hl995_0;clear hi995_0 hl995_0;have HR995_1:=aM hi995_1;have HC995_1:=aM hl995_1;clear hi995_1 hl995_1;replace am:=eq_true am;replace an:=eq_true an
     go_wp2_with (first|((with_reducible refine gF 82 ?_);refine gX (some 16) Tryz.func82 (spec_l09Rule.calls n.out (cH HR995_0) HC995_0.out (cH HR995_1) HC995_1.out) ?_;intro cM hb;replace M:=kB M hb;replace HB:=sB hb;(try clear hb)))
     go_roundg k1
     case measure=>exact oK
     case rel=>exact⟨(wrap64 (a+1)),rS,H',⟨oK⟩,⟨mK M⟩,⟨cB⟩⟩
    ·replace y:=Bool.eq_false_iff.mpr y;subst y;replace H:=iF H;obtain rfl:=Option.some.inj H;obtain⟨dY,dZ,d0,d1,d2,d3,d4,d5⟩:=cz4 M;have am:0≤(a:Int):=dA;have an:a<(D.length:Int):=dA;obtain⟨cF,cG,cI,cJ,cL,aZ,az,aA,aB,aC,hl995_0,hi995_0,hl995_1,hi995_1⟩:=at_T78 HR0_3.out a am an;cases aZ;replace az:=(bc HB az :);replace aA:=(bc HB aA :);replace aB:=(bc HB aB :);replace aC:=(bc HB aC :);have HR995_0:=aM hi995_0;have HC995_0:=aM hl995_0;clear hi995_0 hl995_0;have HR995_1:=aM hi995_1;have HC995_1:=aM hl995_1;clear hi995_1 hl995_1;replace am:=eq_true am;replace an:=eq_true an
     go_wp2_with (first|((with_reducible refine gF 82 ?_);refine gX (some 16) Tryz.func82 (spec_l09Rule.calls n.out (cH HR995_0) HC995_0.out (cH HR995_1) HC995_1.out) ?_;intro cN hb;replace M:=kB M hb;replace HB:=sB hb;(try clear hb)))
     go_ret;exact⟨rE,cB⟩
   ·rw[if_neg m]at H;have ar:=decide_eq_false m;clear m;replace H:=bE H;obtain⟨aX,a0,H⟩:=H;by_cases aK:aX=true
    ·subst aK;replace H:=iT H;replace H:=bE H;obtain⟨aY,bB,H⟩:=H;by_cases aL:aY=true
     ·subst aL;replace H:=iT H;obtain rfl:=Option.some.inj H;obtain⟨bb,bd,be,bf,bg,bh,bi,bj⟩:=cz4 M
      go_wp2_with (first|((with_reducible refine gF 83 ?_);refine gX (some 20) Tryz.func83 (spec_HalfOk.calls a0.out) ?_;rintro w' ⟨nd,rfl⟩)|(go_at_call 84;(with_reducible refine(spec_l09Act.calls bB.out).mono ?_);rintro e w' ⟨rfl,⟨nd,rfl⟩⟩))
      go_ret;exact⟨rE,cB⟩
     ·replace aL:=Bool.eq_false_iff.mpr aL;subst aL;replace H:=iF H;obtain rfl:=Option.some.inj H;obtain⟨bk,bl,bm,bn,bo,bp,bq,br⟩:=cz4 M
      go_wp2_with (first|((with_reducible refine gF 83 ?_);refine gX (some 20) Tryz.func83 (spec_HalfOk.calls a0.out) ?_;rintro w' ⟨nd,rfl⟩)|(go_at_call 84;(with_reducible refine(spec_l09Act.calls bB.out).mono ?_);rintro e w' ⟨rfl,⟨nd,rfl⟩⟩))
      go_ret;exact⟨rE,cB⟩
    ·replace aK:=Bool.eq_false_iff.mpr aK;subst aK;replace H:=iF H;obtain rfl:=Option.some.inj H;obtain⟨d6,d7,d8,d9,ea,eb,ec,ed⟩:=cz4 M
     go_wp2_with (first|((with_reducible refine gF 83 ?_);refine gX (some 20) Tryz.func83 (spec_HalfOk.calls a0.out) ?_;rintro w' ⟨nd,rfl⟩))
     go_ret;exact⟨rE,cB⟩
def spec_l11Place.f (I:ByteArray) (A:Int) (d:Int) (p:Int) (ay:Int) (aN:ByteArray) (aO:ByteArray):Option (Bool):=some (A == 0 && (d == 0 && (p == 0 && (ay == 0))))
set_option maxHeartbeats 8000000 in
set_option maxRecDepth 100000 in
theorem spec_l11Place.calls {I:ByteArray}{A:Int}{d:Int}{p:Int}{ay:Int}{aN:ByteArray}{aO:ByteArray}{r:Bool}{w:World}(h:spec_l11Place.f I A d p ay aN aO=some r) :
 Calls Tryz.prog 112 #[.agg #[.string I,.int .i64 A,.int .i64 d,.int .i64 p,.int .i64 ay,.string aN,.string aO]] w fun e w'=>e= .returned (.bool r)∧Below w.heap.size w w':=by
 have hu86:=Tryz.underlying86;have hu71:=Tryz.underlying71;have HB:=rW w;have H:(some (A == 0 && (d == 0 && (p == 0 && (ay == 0)))))=some r:=h;clear h;obtain rfl:=Option.some.inj H;go_enter Tryz.func112,Tryz.ntmps112
 go_wp2_with (first|((with_reducible refine gN 1 ?_);refine boxZ 1 #[.string I,.int .i64 A,.int .i64 d,.int .i64 p,.int .i64 ay,.string aN,.string aO] 86 ?_;intro ee hg aF hbox hb;have cO:=aM hbox;have GW999:=gS hg;have GE999:=gS hg;replace HB:=sB hb;clear hb hbox hg;obtain⟨ef,eg,eh,ei,ej,ek,el,em,en,eo,ep,eq,er,es⟩:=cz7 cO))
 go_ret;exact⟨rE,cB⟩
def spec_l11At.l0:Nat→List (S86)→ByteArray→Int→Option (Int)
  | 0,_,_,_=>none
  | k+1,ab,a1,J=>if J<(ab.length:Int)then(if 0≤J then((spec_l11Place.f ((rd_T86 ab J).f0) ((rd_T86 ab J).f1.f0) ((rd_T86 ab J).f1.f1) ((rd_T86 ab J).f1.f2) ((rd_T86 ab J).f1.f3) ((rd_T86 ab J).f2) ((rd_T86 ab J).f3)).bind fun a2=>(if a2=true then(if((rd_T86 ab J).f0).toList=a1.toList then(some J)else(spec_l11At.l0 k ab a1 (wrap64 (J+1))))else(spec_l11At.l0 k ab a1 (wrap64 (J+1)))))else(none))else(some (-1))
def spec_l11At.f (k:Nat) (ac:List (S86)) (ao:ByteArray):Option (Int):=spec_l11At.l0 k ac ao 0
set_option maxHeartbeats 8000000 in
set_option maxRecDepth 100000 in
theorem spec_l11At.calls {k:Nat}{bC:Option Addr}{bD:Nat}{ac:List (S86)}{ao:ByteArray}{r:Int}{w:World}(h:spec_l11At.f k ac ao=some r)(bF:Kd.C k86 w bC ac.length ac)(bG:ac.length≤bD) :
 Calls Tryz.prog 113 #[.slice bC ac.length bD,.string ao] w fun e w'=>e= .returned (.int .i64 r)∧Below w.heap.size w w':=by
 have hu86:=Tryz.underlying86;have HR0:=aM bF;have HC0:=aM bG;clear bF bG;have HB:=rW w;have H:(spec_l11At.l0 k ac ao 0)=some r:=h;clear h;have H':=aM H;clear H;go_enter Tryz.func113,Tryz.ntmps113;go_wp2
 go_loopg [5] k (fun kq cP w'=> ∃ (O:Int),cP= .int .i64 O∧Aside0 (spec_l11At.l0 kq ac ao O=some r)∧Aside0 (kq≤k)∧Aside0 (Below w.heap.size w w'))
 case atStart=>exact⟨(0),rS,H',⟨Nat.le_refl _⟩,⟨cB⟩⟩
 case round=>
  clear H';obtain⟨O,rfl,HA,HK1,HB⟩:=hrel
  cases gk with
  | zero=>exact absurd HA.out (by simp[spec_l11At.l0])
  | succ k1=>
   have H:=HA.out;clear HA;simp only[spec_l11At.l0]at H;by_cases m:O<(ac.length:Int)
   ·rw[if_pos m]at H;have ar:=decide_eq_true m;clear m;replace H:=gD H;obtain⟨aT,H⟩:=H;replace H:=bE H;obtain⟨a2,n,H⟩:=H;by_cases y:a2=true
    ·subst y;replace H:=iT H;by_cases G:((rd_T86 ac O).f0).toList=ao.toList
     ·rw[if_pos G]at H;obtain⟨aG,cQ⟩:=eT G;clear G;obtain rfl:=Option.some.inj H;obtain⟨bH,bI,aP,aD,bJ,bL,bM,bN,bO,bP,bQ⟩:=b7 HB (at_T86 HR0.out O);cases aD
      go_wp2_with (first|((with_reducible refine gF 112 ?_);refine gX (some 16) Tryz.func112 (spec_l11Place.calls n.out) ?_;intro cM hb;replace HB:=sB hb;(try clear hb);obtain⟨cR,cS,a3,a4,cT,cU,cV,cW,cX,cY,cZ⟩:=b7 HB (at_T86 HR0.out O);obtain rfl:aP=a3:=(by injection a4)))
      go_ret;exact⟨rE,cB⟩
     ·rw[if_neg G]at H;obtain⟨aG,cQ⟩:=eF G;have H':=aM H;clear H;obtain⟨bH,bI,aP,aD,bJ,bL,bM,bN,bO,bP,bQ⟩:=b7 HB (at_T86 HR0.out O);cases aD
      go_wp2_with (first|((with_reducible refine gF 112 ?_);refine gX (some 16) Tryz.func112 (spec_l11Place.calls n.out) ?_;intro et hb;replace HB:=sB hb;(try clear hb);obtain⟨cR,cS,a3,a4,cT,cU,cV,cW,cX,cY,cZ⟩:=b7 HB (at_T86 HR0.out O);obtain rfl:aP=a3:=(by injection a4)))
      go_roundg k1
      case measure=>exact oK
      case rel=>exact⟨(wrap64 (O+1)),rS,H',⟨oK⟩,⟨cB⟩⟩
    ·replace y:=Bool.eq_false_iff.mpr y;subst y;replace H:=iF H;have H':=aM H;clear H;obtain⟨bH,bI,aP,aD,bJ,bL,bM,bN,bO,bP,bQ⟩:=b7 HB (at_T86 HR0.out O);cases aD
     go_wp2_with (first|((with_reducible refine gF 112 ?_);refine gX (some 16) Tryz.func112 (spec_l11Place.calls n.out) ?_;intro cN hb;replace HB:=sB hb;(try clear hb)))
     go_roundg k1
     case measure=>exact oK
     case rel=>exact⟨(wrap64 (O+1)),rS,H',⟨oK⟩,⟨cB⟩⟩
   ·rw[if_neg m]at H;have ar:=decide_eq_false m;clear m;obtain rfl:=Option.some.inj H;go_wp2;go_ret;exact⟨rE,cB⟩
end Go.Proofs.YtpbalojiaghfhaaGreat.PFnCompilesTold
