import Derived.Test.YtpbalojiaghfhaaPFnCompilesSmally0
import Derived.Test.YtpbalojiaghfhaaPFnCompilesSmally2
import Derived.Test.YtpbalojiaghfhaaPFnCompilesSmally18
namespace Go.Proofs.Ytpbalojiaghfhaa.PFnCompilesSmall
open Go.RowKit Go.Proofs.YtpbalojiaghfhaaW.PrintWords Go.Proofs.YtpbalojiaghfhaaW.PrintLast Go.Proofs.YtpbalojiaghfhaaW.PrintMore Go.Proofs.YtpbalojiaghfhaaW.Z
open Kd
attribute [local go_sem] isS max2_int min2_int max_two min_two max_three min_three max_four min_four
set_option linter.unusedVariables false
set_option linter.unusedSimpArgs false
mutual
def spec_l09Rule.l0:Nat→Int→List Int→List (S114)→Int→Int→Option (Bool)
  | 0,_,_,_,_,_=>none
  | k+1,v,Y,O,av,aw=>if v<(Y.length:Int)then(if 0≤v then((spec_HalfOk.f (rd Y v)).bind fun a1=>(if a1=true then(if v>0 then(if 0≤(wrap64 (v - 1))then(if(wrap64 (v - 1))<(Y.length:Int)then(if(rd Y (wrap64 (v - 1)))≥(rd Y v)then(some false)else(spec_l09Rule.l0 k (wrap64 (v+1)) Y O av aw))else(none))else(none))else(spec_l09Rule.l0 k (wrap64 (v+1)) Y O av aw))else(some false)))else(none))else(spec_l09Rule.l1 k 0 Y O av aw)
def spec_l09Rule.l1:Nat→Int→List Int→List (S114)→Int→Int→Option (Bool)
  | 0,_,_,_,_,_=>none
  | k+1,ah,Y,O,av,aw=>if ah<(O.length:Int)then(if 0≤ah then((spec_CondOk.f ((rd_T114 O ah).f0) ((rd_T114 O ah).f1.f0) ((rd_T114 O ah).f1.f1) ((rd_T114 O ah).f2) ((rd_T114 O ah).f3.f0) ((rd_T114 O ah).f3.f1)).bind fun a2=>(if a2=true then(spec_l09Rule.l1 k (wrap64 (ah+1)) Y O av aw)else(some false)))else(none))else(if(Y.length:Int)≤4 then(if(O.length:Int)≤3 then((spec_l09Act.f av aw).bind fun bj=>(some bj))else(some false))else(some false))
end
def spec_l09Rule.f (k:Nat) (b:List Int) (u:List (S114)) (p:Int) (U:Int):Option (Bool):=spec_l09Rule.l0 k 0 b u p U
set_option maxHeartbeats 8000000 in
set_option maxRecDepth 100000 in
theorem spec_l09Rule.calls {k:Nat}{ai:Option Addr}{aj:Nat}{b:List Int}{ak:Option Addr}{al:Nat}{u:List (S114)}{p:Int}{U:Int}{r:Bool}{w:World}(h:spec_l09Rule.f k b u p U=some r)(bk:Kd.C (Kd.int .i64) w ai b.length b)(bl:b.length≤aj)(bm:Kd.C k114 w ak u.length u)(bn:u.length≤al) :
 Calls Try.prog 93 #[.agg #[.slice ai b.length aj,.slice ak u.length al,.int .i64 p,.int .i64 U]] w fun e w'=>e= .returned (.bool r)∧Below w.heap.size w w':=by
 have hu81:=Try.underlying81;have hu114:=Try.underlying114;have HR0_0:=aM bk;have HC0_0:=aM bl;clear bk bl;have HR0_1:=aM bm;have HC0_1:=aM bn;clear bm bn;have HB:=rW w;have H:(spec_l09Rule.l0 k 0 b u p U)=some r:=h;clear h;have H':=aM H;clear H;go_enter Try.func93,Try.ntmps93
 go_wp2_with (first|((with_reducible refine gN 1 ?_);(try(refine gate_guard (by rfl) ?_;dsimp only));refine boxZ 1 #[.slice ai b.length aj,.slice ak u.length al,.int .i64 p,.int .i64 U] 81 ?_;intro aQ hg a3 hbox hb;have d:=aM hbox;have GW874:=gS hg;have GE874:=gS hg;replace HB:=sB hb;clear hb hbox hg))
 repeat(go_quiet (first|((with_reducible refine gate_dst (N:=1) rfl ?_);(try(refine gate_guard (by rfl) ?_;dsimp only));refine box_event ?hg (N:=1) ?hd (cs:= #[.slice ai b.length aj,.slice ak u.length al,.int .i64 p,.int .i64 U]) (t:=81) ?hr ?_;(case hd=>rfl);(case hg=>rfl);(case hr=>first|(go_simp;done)|(go_simp;rfl));intro aQ hg a3 hbox hb;have n0_:=sB hb;have n1_:=aM hbox;have n2_:=gS hg;have n3_:=gS hg;clear HB;have HB:=n0_;have d:=n1_;have GW874:=n2_;have GE874:=n3_;clear n0_ n1_ n2_ n3_;clear hb hbox hg));try go_wp2_with (first|((with_reducible refine gate_dst (N:=1) rfl ?_);(try(refine gate_guard (by rfl) ?_;dsimp only));refine box_event ?hg (N:=1) ?hd (cs:= #[.slice ai b.length aj,.slice ak u.length al,.int .i64 p,.int .i64 U]) (t:=81) ?hr ?_;(case hd=>rfl);(case hg=>rfl);(case hr=>first|(go_simp;done)|(go_simp;rfl));intro aQ hg a3 hbox hb;have n0_:=sB hb;have n1_:=aM hbox;have n2_:=gS hg;have n3_:=gS hg;clear HB;have HB:=n0_;have d:=n1_;have GW874:=n2_;have GE874:=n3_;clear n0_ n1_ n2_ n3_;clear hb hbox hg)))
 go_loopg [3] k (fun kq a4 w'=> ∃ (a:Int),a4= .int .i64 a∧Aside0 (spec_l09Rule.l0 kq a b u p U=some r)∧Aside0 (kq≤k)∧Aside0 (w'.heap[aQ]?=some (.cells #[(.slice ai b.length aj),(.slice ak u.length al),.int .i64 p,.int .i64 U] 81 (0,0)))∧Aside0 (Below w.heap.size w w'))
 case atStart=>exact⟨(0),rS,H',⟨Nat.le_refl _⟩,⟨mK d⟩,⟨cB⟩⟩
 case round=>
  clear H';obtain⟨a,rfl,HA,HK1,d,HB⟩:=hrel
  cases gk with
  | zero=>exact absurd HA.out (by simp[spec_l09Rule.l0])
  | succ k1=>
   have H:=HA.out;clear HA;simp only[spec_l09Rule.l0]at H;by_cases q:a<(b.length:Int)
   ·rw[if_pos q]at H;have ax:=decide_eq_true q;clear q;replace H:=gD H;obtain⟨ay,H⟩:=H;replace H:=bE H;obtain⟨a1,s,H⟩:=H;by_cases J:a1=true
    ·subst J;replace H:=iT H;by_cases am:a>0
     ·rw[if_pos am]at H;have bo:decide (0<a)=true:=decide_eq_true am;clear am;obtain⟨ji8,hji8⟩ : ∃ j_:Int,(wrap64 (a - 1))=j_:=⟨_,rfl⟩
      (first|rw[hji8]at H|simp only[hji8]at H)
      (try rw[hji8]at s);have hji8w:(IntKind.i64.wrap (a - 1))=ji8:=(i64_w _).trans hji8;replace H:=gD H;obtain⟨bY,H⟩:=H;replace H:=gD H;obtain⟨bZ,H⟩:=H;by_cases an:(rd b (ji8))≥(rd b a)
      ·rw[if_pos an]at H;have bp:decide ((rd b a)≤(rd b (ji8)))=true:=decide_eq_true an;clear an;obtain rfl:=Option.some.inj H;obtain⟨bq,br,b0,b1,bs,bu,b5,b8⟩:=cz4 d;have D:0≤(a:Int):=dA;have E:a<(b.length:Int):=dA;obtain⟨L,ao,W⟩:=at_int HR0_0.out a D E;cases ao;replace W:=(bc HB W :);replace D:=eq_true D;replace E:=eq_true E
       go_wp2_with (first|(go_at_call 77;(with_reducible refine(spec_HalfOk.calls s.out).mono ?_);rintro e w' ⟨rfl,⟨nd,rfl⟩⟩;(try first|exact⟨rfl,_,World.drewN_drewN _ _ _⟩|exact⟨rfl,_,Eq.trans (World.drewN_drewN _ _ _) (congrArg (World.drewN _) (Nat.add_assoc _ _ _))⟩);have l:0≤((ji8):Int):=dA;have m:(ji8)<(b.length:Int):=dA;obtain⟨aa,ab,x⟩:=at_int HR0_0.out (ji8) l m;obtain rfl:L=aa:=(by injection ab);replace x:=(bc HB x :);replace l:=eq_true l;replace m:=eq_true m;have n:0≤(a:Int):=dA;have o:a<(b.length:Int):=dA;obtain⟨ac,ad,y⟩:=at_int HR0_0.out a n o;obtain rfl:L=ac:=(by injection ad);replace y:=(bc HB y :);replace n:=eq_true n;replace o:=eq_true o))
       repeat(go_quiet (first|(go_at_call 77;(with_reducible refine(spec_HalfOk.calls s.out).mono ?_);rintro e w' ⟨rfl,⟨nd,rfl⟩⟩;(try first|exact⟨rfl,_,World.drewN_drewN _ _ _⟩|exact⟨rfl,_,Eq.trans (World.drewN_drewN _ _ _) (congrArg (World.drewN _) (Nat.add_assoc _ _ _))⟩);have l:0≤((ji8):Int):=dA;have m:(ji8)<(b.length:Int):=dA;obtain⟨aa,ab,x⟩:=at_int HR0_0.out (ji8) l m;obtain rfl:L=aa:=(by injection ab);replace x:=(bc HB x :);replace l:=eq_true l;replace m:=eq_true m;have n:0≤(a:Int):=dA;have o:a<(b.length:Int):=dA;obtain⟨ac,ad,y⟩:=at_int HR0_0.out a n o;obtain rfl:L=ac:=(by injection ad);replace y:=(bc HB y :);replace n:=eq_true n;replace o:=eq_true o));try go_wp2_with (first|(go_at_call 77;(with_reducible refine(spec_HalfOk.calls s.out).mono ?_);rintro e w' ⟨rfl,⟨nd,rfl⟩⟩;(try first|exact⟨rfl,_,World.drewN_drewN _ _ _⟩|exact⟨rfl,_,Eq.trans (World.drewN_drewN _ _ _) (congrArg (World.drewN _) (Nat.add_assoc _ _ _))⟩);have l:0≤((ji8):Int):=dA;have m:(ji8)<(b.length:Int):=dA;obtain⟨aa,ab,x⟩:=at_int HR0_0.out (ji8) l m;obtain rfl:L=aa:=(by injection ab);replace x:=(bc HB x :);replace l:=eq_true l;replace m:=eq_true m;have n:0≤(a:Int):=dA;have o:a<(b.length:Int):=dA;obtain⟨ac,ad,y⟩:=at_int HR0_0.out a n o;obtain rfl:L=ac:=(by injection ad);replace y:=(bc HB y :);replace n:=eq_true n;replace o:=eq_true o)))
       go_ret
       exact⟨by first|rfl|(simp[errW_none,errW_some] <;> rfl)|(simp only[← hji8];first|rfl|(simp[errW_none,errW_some] <;> rfl))|(simp[*,errW_none,errW_some] <;> rfl),cB⟩
      ·rw[if_neg an]at H;have bp:decide ((rd b a)≤(rd b (ji8)))=false:=decide_eq_false an;clear an;have H':=aM H;clear H;obtain⟨b9,ca,cb,cc,cd,ce,cf,cg⟩:=cz4 d;have D:0≤(a:Int):=dA;have E:a<(b.length:Int):=dA;obtain⟨L,ao,W⟩:=at_int HR0_0.out a D E;cases ao;replace W:=(bc HB W :);replace D:=eq_true D;replace E:=eq_true E
       go_wp2_with (first|(go_at_call 77;(with_reducible refine(spec_HalfOk.calls s.out).mono ?_);rintro e w' ⟨rfl,⟨nd,rfl⟩⟩;(try first|exact⟨rfl,_,World.drewN_drewN _ _ _⟩|exact⟨rfl,_,Eq.trans (World.drewN_drewN _ _ _) (congrArg (World.drewN _) (Nat.add_assoc _ _ _))⟩);have l:0≤((ji8):Int):=dA;have m:(ji8)<(b.length:Int):=dA;obtain⟨aa,ab,x⟩:=at_int HR0_0.out (ji8) l m;obtain rfl:L=aa:=(by injection ab);replace x:=(bc HB x :);replace l:=eq_true l;replace m:=eq_true m;have n:0≤(a:Int):=dA;have o:a<(b.length:Int):=dA;obtain⟨ac,ad,y⟩:=at_int HR0_0.out a n o;obtain rfl:L=ac:=(by injection ad);replace y:=(bc HB y :);replace n:=eq_true n;replace o:=eq_true o))
       repeat(go_quiet (first|(go_at_call 77;(with_reducible refine(spec_HalfOk.calls s.out).mono ?_);rintro e w' ⟨rfl,⟨nd,rfl⟩⟩;(try first|exact⟨rfl,_,World.drewN_drewN _ _ _⟩|exact⟨rfl,_,Eq.trans (World.drewN_drewN _ _ _) (congrArg (World.drewN _) (Nat.add_assoc _ _ _))⟩);have l:0≤((ji8):Int):=dA;have m:(ji8)<(b.length:Int):=dA;obtain⟨aa,ab,x⟩:=at_int HR0_0.out (ji8) l m;obtain rfl:L=aa:=(by injection ab);replace x:=(bc HB x :);replace l:=eq_true l;replace m:=eq_true m;have n:0≤(a:Int):=dA;have o:a<(b.length:Int):=dA;obtain⟨ac,ad,y⟩:=at_int HR0_0.out a n o;obtain rfl:L=ac:=(by injection ad);replace y:=(bc HB y :);replace n:=eq_true n;replace o:=eq_true o));try go_wp2_with (first|(go_at_call 77;(with_reducible refine(spec_HalfOk.calls s.out).mono ?_);rintro e w' ⟨rfl,⟨nd,rfl⟩⟩;(try first|exact⟨rfl,_,World.drewN_drewN _ _ _⟩|exact⟨rfl,_,Eq.trans (World.drewN_drewN _ _ _) (congrArg (World.drewN _) (Nat.add_assoc _ _ _))⟩);have l:0≤((ji8):Int):=dA;have m:(ji8)<(b.length:Int):=dA;obtain⟨aa,ab,x⟩:=at_int HR0_0.out (ji8) l m;obtain rfl:L=aa:=(by injection ab);replace x:=(bc HB x :);replace l:=eq_true l;replace m:=eq_true m;have n:0≤(a:Int):=dA;have o:a<(b.length:Int):=dA;obtain⟨ac,ad,y⟩:=at_int HR0_0.out a n o;obtain rfl:L=ac:=(by injection ad);replace y:=(bc HB y :);replace n:=eq_true n;replace o:=eq_true o)))
       go_roundg k1
       case measure=>exact oK
       case rel=>exact⟨(wrap64 (a+1)),rS,H',⟨oK⟩,⟨mK d⟩,⟨cB⟩⟩
     ·rw[if_neg am]at H;have bo:decide (0<a)=false:=decide_eq_false am;clear am;have H':=aM H;clear H;obtain⟨bv,bw,ch,ci,bx,bz,cj,ck⟩:=cz4 d;have D:0≤(a:Int):=dA;have E:a<(b.length:Int):=dA;obtain⟨L,ao,W⟩:=at_int HR0_0.out a D E;cases ao;replace W:=(bc HB W :);replace D:=eq_true D;replace E:=eq_true E
      go_wp2_with (first|(go_at_call 77;(with_reducible refine(spec_HalfOk.calls s.out).mono ?_);rintro e w' ⟨rfl,⟨nd,rfl⟩⟩;(try first|exact⟨rfl,_,World.drewN_drewN _ _ _⟩|exact⟨rfl,_,Eq.trans (World.drewN_drewN _ _ _) (congrArg (World.drewN _) (Nat.add_assoc _ _ _))⟩)))
      repeat(go_quiet (first|(go_at_call 77;(with_reducible refine(spec_HalfOk.calls s.out).mono ?_);rintro e w' ⟨rfl,⟨nd,rfl⟩⟩;(try first|exact⟨rfl,_,World.drewN_drewN _ _ _⟩|exact⟨rfl,_,Eq.trans (World.drewN_drewN _ _ _) (congrArg (World.drewN _) (Nat.add_assoc _ _ _))⟩)));try go_wp2_with (first|(go_at_call 77;(with_reducible refine(spec_HalfOk.calls s.out).mono ?_);rintro e w' ⟨rfl,⟨nd,rfl⟩⟩;(try first|exact⟨rfl,_,World.drewN_drewN _ _ _⟩|exact⟨rfl,_,Eq.trans (World.drewN_drewN _ _ _) (congrArg (World.drewN _) (Nat.add_assoc _ _ _))⟩))))
      go_roundg k1
      case measure=>exact oK
      case rel=>exact⟨(wrap64 (a+1)),rS,H',⟨oK⟩,⟨mK d⟩,⟨cB⟩⟩
    ·replace J:=Bool.eq_false_iff.mpr J;subst J;replace H:=iF H;obtain rfl:=Option.some.inj H;obtain⟨aR,aS,bA,bB,aT,aU,bC,bD⟩:=cz4 d;have D:0≤(a:Int):=dA;have E:a<(b.length:Int):=dA;obtain⟨L,ao,W⟩:=at_int HR0_0.out a D E;cases ao;replace W:=(bc HB W :);replace D:=eq_true D;replace E:=eq_true E
     go_wp2_with (first|(go_at_call 77;(with_reducible refine(spec_HalfOk.calls s.out).mono ?_);rintro e w' ⟨rfl,⟨nd,rfl⟩⟩;(try first|exact⟨rfl,_,World.drewN_drewN _ _ _⟩|exact⟨rfl,_,Eq.trans (World.drewN_drewN _ _ _) (congrArg (World.drewN _) (Nat.add_assoc _ _ _))⟩)))
     repeat(go_quiet (first|(go_at_call 77;(with_reducible refine(spec_HalfOk.calls s.out).mono ?_);rintro e w' ⟨rfl,⟨nd,rfl⟩⟩;(try first|exact⟨rfl,_,World.drewN_drewN _ _ _⟩|exact⟨rfl,_,Eq.trans (World.drewN_drewN _ _ _) (congrArg (World.drewN _) (Nat.add_assoc _ _ _))⟩)));try go_wp2_with (first|(go_at_call 77;(with_reducible refine(spec_HalfOk.calls s.out).mono ?_);rintro e w' ⟨rfl,⟨nd,rfl⟩⟩;(try first|exact⟨rfl,_,World.drewN_drewN _ _ _⟩|exact⟨rfl,_,Eq.trans (World.drewN_drewN _ _ _) (congrArg (World.drewN _) (Nat.add_assoc _ _ _))⟩))))
     go_ret;exact⟨rE,cB⟩
   ·rw[if_neg q]at H;have ax:=decide_eq_false q;clear q;have H':=aM H;clear H;obtain⟨bF,bG,bH,bI,bJ,bL,bM,bN⟩:=cz4 d;go_wp2
    repeat(go_quiet (fail);try go_wp2)
    go_loopg [4] k1 (fun kq cl w'=> ∃ (ap:Int),cl= .int .i64 ap∧Aside0 (spec_l09Rule.l1 kq ap b u p U=some r)∧Aside0 (kq≤k1)∧Aside0 (w'.heap[aQ]?=some (.cells #[(.slice ai b.length aj),(.slice ak u.length al),.int .i64 p,.int .i64 U] 81 (0,0)))∧Aside0 (Below w.heap.size w w'))
    case atStart=>exact⟨(0),rS,H',⟨Nat.le_refl _⟩,⟨mK d⟩,⟨cB⟩⟩
    case round=>
     clear H';(try clear q);(try clear ax);(try clear z);(try clear ay);(try clear J);(try clear am);(try clear bo);(try clear c9);(try clear bY);(try clear da);(try clear bZ);(try clear an);(try clear bp);(try clear bq br b0 b1);(try clear b9 ca cb cc);(try clear bv bw ch ci);(try clear aR aS bA bB);(try clear bF bG bH bI);(try clear bs bu b5 b8);(try clear cd ce cf cg);(try clear bx bz cj ck);(try clear aT aU bC bD);(try clear bJ bL bM bN);(try clear W);(try clear x);(try clear y);(try clear D);(try clear l);(try clear n);(try clear E);(try clear m);(try clear o);obtain⟨ap,rfl,HA,HK2,d,HB⟩:=hrel
     cases gk with
     | zero=>exact absurd HA.out (by simp[spec_l09Rule.l1])
     | succ k2=>
      have H:=HA.out;clear HA;simp only[spec_l09Rule.l1]at H;by_cases az:ap<(u.length:Int)
      ·rw[if_pos az]at H;have cm:=decide_eq_true az;clear az;replace H:=gD H;obtain⟨db,H⟩:=H;replace H:=bE H;obtain⟨a2,aA,H⟩:=H;by_cases aV:a2=true
       ·subst aV;replace H:=iT H;have H':=aM H;clear H;obtain⟨dc,dd,de,df,dg,dh,di,dj⟩:=cz4 d;obtain⟨cn,co,cp,a5,cq,cr,ct,cu,cv,cw⟩:=b6 HB (at_T114 HR0_1.out ap);cases a5
        go_wp2_with (first|(go_at_call 111;(with_reducible refine(spec_CondOk.calls aA.out).mono ?_);rintro e a6 ⟨rfl,hb⟩;replace d:=kB d hb;replace HB:=sB hb;(try clear hb)))
        repeat(go_quiet (first|(go_at_call 111;(with_reducible refine(spec_CondOk.calls aA.out).mono ?_);rintro e a6 ⟨rfl,hb⟩;have n0_:=kB d hb;have n1_:=sB hb;clear d;clear HB;have d:=n0_;have HB:=n1_;clear n0_ n1_;(try clear hb);(try clear hb2);(try clear hk);(try clear hi)));try go_wp2_with (first|(go_at_call 111;(with_reducible refine(spec_CondOk.calls aA.out).mono ?_);rintro e a6 ⟨rfl,hb⟩;have n0_:=kB d hb;have n1_:=sB hb;clear d;clear HB;have d:=n0_;have HB:=n1_;clear n0_ n1_;(try clear hb);(try clear hb2);(try clear hk);(try clear hi))))
        go_roundg k2
        case measure=>have:=HK1.out;have:=HK2.out;omega
        case rel=>exact⟨(wrap64 (ap+1)),rS,H',⟨by have:=HK1.out;have:=HK2.out;omega⟩,⟨mK d⟩,⟨cB⟩⟩
       ·replace aV:=Bool.eq_false_iff.mpr aV;subst aV;replace H:=iF H;obtain rfl:=Option.some.inj H;obtain⟨dk,dl,dm,dn,dp,dq,dr,ds⟩:=cz4 d;obtain⟨cn,co,cp,a5,cq,cr,ct,cu,cv,cw⟩:=b6 HB (at_T114 HR0_1.out ap);cases a5
        go_wp2_with (first|(go_at_call 111;(with_reducible refine(spec_CondOk.calls aA.out).mono ?_);rintro e bO ⟨rfl,hb⟩;replace d:=kB d hb;replace HB:=sB hb;(try clear hb)))
        repeat(go_quiet (first|(go_at_call 111;(with_reducible refine(spec_CondOk.calls aA.out).mono ?_);rintro e bO ⟨rfl,hb⟩;have n0_:=kB d hb;have n1_:=sB hb;clear d;clear HB;have d:=n0_;have HB:=n1_;clear n0_ n1_;(try clear hb);(try clear hb2);(try clear hk);(try clear hi)));try go_wp2_with (first|(go_at_call 111;(with_reducible refine(spec_CondOk.calls aA.out).mono ?_);rintro e bO ⟨rfl,hb⟩;have n0_:=kB d hb;have n1_:=sB hb;clear d;clear HB;have d:=n0_;have HB:=n1_;clear n0_ n1_;(try clear hb);(try clear hb2);(try clear hk);(try clear hi))))
        go_ret;exact⟨rE,cB⟩
      ·rw[if_neg az]at H;have cm:=decide_eq_false az;clear az;by_cases aB:(b.length:Int)≤4
       ·rw[if_pos aB]at H;have cx:=decide_eq_true aB
        have cy:decide (b.length≤4)=true:=decide_eq_true (by omega)
        clear aB;by_cases aC:(u.length:Int)≤3
        ·rw[if_pos aC]at H;have cz:=decide_eq_true aC
         have cA:decide (u.length≤3)=true:=decide_eq_true (by omega)
         clear aC;replace H:=bE H;obtain⟨bj,a7,H⟩:=H;obtain rfl:=Option.some.inj H;obtain⟨cD,cE,dt,du,cF,cG,dv,dw⟩:=cz4 d
         go_wp2_with (first|(go_at_call 94;(with_reducible refine(spec_l09Act.calls a7.out).mono ?_);rintro e w' ⟨rfl,⟨nd,rfl⟩⟩;(try first|exact⟨rfl,_,World.drewN_drewN _ _ _⟩|exact⟨rfl,_,Eq.trans (World.drewN_drewN _ _ _) (congrArg (World.drewN _) (Nat.add_assoc _ _ _))⟩)))
         repeat(go_quiet (first|(go_at_call 94;(with_reducible refine(spec_l09Act.calls a7.out).mono ?_);rintro e w' ⟨rfl,⟨nd,rfl⟩⟩;(try first|exact⟨rfl,_,World.drewN_drewN _ _ _⟩|exact⟨rfl,_,Eq.trans (World.drewN_drewN _ _ _) (congrArg (World.drewN _) (Nat.add_assoc _ _ _))⟩)));try go_wp2_with (first|(go_at_call 94;(with_reducible refine(spec_l09Act.calls a7.out).mono ?_);rintro e w' ⟨rfl,⟨nd,rfl⟩⟩;(try first|exact⟨rfl,_,World.drewN_drewN _ _ _⟩|exact⟨rfl,_,Eq.trans (World.drewN_drewN _ _ _) (congrArg (World.drewN _) (Nat.add_assoc _ _ _))⟩))))
         go_ret;exact⟨rE,cB⟩
        ·rw[if_neg aC]at H;have cz:=decide_eq_false aC
         have cA:decide (u.length≤3)=false:=decide_eq_false (by omega)
         clear aC;obtain rfl:=Option.some.inj H;obtain⟨dx,dy,dz,dC,dD,dE,dF,dG⟩:=cz4 d;go_wp2
         repeat(go_quiet (fail);try go_wp2)
         go_ret;exact⟨rE,cB⟩
       ·rw[if_neg aB]at H;have cx:=decide_eq_false aB
        have cy:decide (b.length≤4)=false:=decide_eq_false (by omega)
        clear aB;obtain rfl:=Option.some.inj H;obtain⟨cI,cJ,dH,dI,cL,cM,dJ,dK⟩:=cz4 d;go_wp2
        repeat(go_quiet (fail);try go_wp2)
        go_ret;exact⟨rE,cB⟩
def spec_PolicyOk.l0:Nat→Int→Int→Int→Int→List (S81)→Option (Bool)
  | 0,_,_,_,_,_=>none
  | k+1,v,bP,bQ,bR,aq=>if v<(aq.length:Int)then(if 0≤v then((spec_l09Rule.f k ((rd_T81 aq v).f0) ((rd_T81 aq v).f1) ((rd_T81 aq v).f2) ((rd_T81 aq v).f3)).bind fun a8=>(if a8=true then(spec_PolicyOk.l0 k (wrap64 (v+1)) bP bQ bR aq)else(some false)))else(none))else((spec_HalfOk.f bP).bind fun a9=>(if a9=true then((spec_l09Act.f bQ bR).bind fun ba=>(if ba=true then(some (decide ((aq.length:Int)≤10)))else(some false)))else(some false)))
def spec_PolicyOk.f (k:Nat) (i:Int) (j:Int) (p:Int) (M:List (S81)):Option (Bool):=spec_PolicyOk.l0 k 0 i j p M
set_option maxHeartbeats 8000000 in
set_option maxRecDepth 100000 in
theorem spec_PolicyOk.calls {k:Nat}{i:Int}{j:Int}{p:Int}{aW:Option Addr}{aX:Nat}{M:List (S81)}{r:Bool}{w:World}(h:spec_PolicyOk.f k i j p M=some r)(bS:Kd.C k81 w aW M.length M)(bT:M.length≤aX) :
 Calls Try.prog 54 #[.agg #[.int .i64 i,.int .i64 j,.int .i64 p,.slice aW M.length aX]] w fun e w'=>e= .returned (.bool r)∧Below w.heap.size w w':=by
 have hu41:=Try.underlying41;have hu81:=Try.underlying81;have HR0_3:=aM bS;have HC0_3:=aM bT;clear bS bT;have HB:=rW w;have H:(spec_PolicyOk.l0 k 0 i j p M)=some r:=h;clear h;have H':=aM H;clear H;go_enter Try.func54,Try.ntmps54
 go_wp2_with (first|((with_reducible refine gN 1 ?_);(try(refine gate_guard (by rfl) ?_;dsimp only));refine boxZ 1 #[.int .i64 i,.int .i64 j,.int .i64 p,.slice aW M.length aX] 41 ?_;intro cN hg a3 hbox hb;have X:=aM hbox;have GW882:=gS hg;have GE882:=gS hg;replace HB:=sB hb;clear hb hbox hg))
 go_loopg [3] k (fun kq a4 w'=> ∃ (a:Int),a4= .int .i64 a∧Aside0 (spec_PolicyOk.l0 kq a i j p M=some r)∧Aside0 (kq≤k)∧Aside0 (w'.heap[cN]?=some (.cells #[.int .i64 i,.int .i64 j,.int .i64 p,(.slice aW M.length aX)] 41 (0,0)))∧Aside0 (Below w.heap.size w w'))
 case atStart=>exact⟨(0),rS,H',⟨Nat.le_refl _⟩,⟨mK X⟩,⟨cB⟩⟩
 case round=>
  clear H';obtain⟨a,rfl,HA,HK1,X,HB⟩:=hrel
  cases gk with
  | zero=>exact absurd HA.out (by simp[spec_PolicyOk.l0])
  | succ k1=>
   have H:=HA.out;clear HA;simp only[spec_PolicyOk.l0]at H;by_cases q:a<(M.length:Int)
   ·rw[if_pos q]at H;have ax:=decide_eq_true q;clear q;replace H:=gD H;obtain⟨ay,H⟩:=H;replace H:=bE H;obtain⟨a8,s,H⟩:=H;by_cases J:a8=true
    ·subst J;replace H:=iT H;have H':=aM H;clear H;obtain⟨dL,dM,dN,dO,dP,dQ,dS,dT⟩:=cz4 X;have ar:0≤(a:Int):=dA;have au:a<(M.length:Int):=dA;obtain⟨cO,cP,cQ,cR,cS,bb,aE,aF,aG,aH,hl883_0,hi883_0,hl883_1,hi883_1⟩:=at_T81 HR0_3.out a ar au;cases bb;replace aE:=(bc HB aE :);replace aF:=(bc HB aF :);replace aG:=(bc HB aG :);replace aH:=(bc HB aH :);have HR883_0:=aM hi883_0;have HC883_0:=aM hl883_0;clear hi883_0 hl883_0;have HR883_1:=aM hi883_1;have HC883_1:=aM hl883_1;clear hi883_1 hl883_1;replace ar:=eq_true ar;replace au:=eq_true au
     go_wp2_with (first|((with_reducible refine gF 93 ?_);refine gX (some 16) Try.func93 (spec_l09Rule.calls s.out (cH HR883_0) HC883_0.out (cH HR883_1) HC883_1.out) ?_;intro cT hb;replace X:=kB X hb;replace HB:=sB hb;(try clear hb)))
     go_roundg k1
     case measure=>exact oK
     case rel=>exact⟨(wrap64 (a+1)),rS,H',⟨oK⟩,⟨mK X⟩,⟨cB⟩⟩
    ·replace J:=Bool.eq_false_iff.mpr J;subst J;replace H:=iF H;obtain rfl:=Option.some.inj H;obtain⟨cU,cV,dU,dV,cW,cX,dX,dY⟩:=cz4 X;have ar:0≤(a:Int):=dA;have au:a<(M.length:Int):=dA;obtain⟨cO,cP,cQ,cR,cS,bb,aE,aF,aG,aH,hl883_0,hi883_0,hl883_1,hi883_1⟩:=at_T81 HR0_3.out a ar au;cases bb;replace aE:=(bc HB aE :);replace aF:=(bc HB aF :);replace aG:=(bc HB aG :);replace aH:=(bc HB aH :);have HR883_0:=aM hi883_0;have HC883_0:=aM hl883_0;clear hi883_0 hl883_0;have HR883_1:=aM hi883_1;have HC883_1:=aM hl883_1;clear hi883_1 hl883_1;replace ar:=eq_true ar;replace au:=eq_true au
     go_wp2_with (first|((with_reducible refine gF 93 ?_);refine gX (some 16) Try.func93 (spec_l09Rule.calls s.out (cH HR883_0) HC883_0.out (cH HR883_1) HC883_1.out) ?_;intro dZ hb;replace X:=kB X hb;replace HB:=sB hb;(try clear hb)))
     go_ret;exact⟨rE,cB⟩
   ·rw[if_neg q]at H;have ax:=decide_eq_false q;clear q;replace H:=bE H;obtain⟨a9,bd,H⟩:=H;by_cases aY:a9=true
    ·subst aY;replace H:=iT H;replace H:=bE H;obtain⟨ba,bU,H⟩:=H;by_cases aZ:ba=true
     ·subst aZ;replace H:=iT H;obtain rfl:=Option.some.inj H;obtain⟨aR,aS,bA,bB,aT,aU,bC,bD⟩:=cz4 X
      go_wp2_with (first|((with_reducible refine gF 77 ?_);refine gX (some 20) Try.func77 (spec_HalfOk.calls bd.out) ?_;rintro w' ⟨nd,rfl⟩)|(go_at_call 94;(with_reducible refine(spec_l09Act.calls bU.out).mono ?_);rintro e w' ⟨rfl,⟨nd,rfl⟩⟩))
      go_ret;exact⟨rE,cB⟩
     ·replace aZ:=Bool.eq_false_iff.mpr aZ;subst aZ;replace H:=iF H;obtain rfl:=Option.some.inj H;obtain⟨bF,bG,bH,bI,bJ,bL,bM,bN⟩:=cz4 X
      go_wp2_with (first|((with_reducible refine gF 77 ?_);refine gX (some 20) Try.func77 (spec_HalfOk.calls bd.out) ?_;rintro w' ⟨nd,rfl⟩)|(go_at_call 94;(with_reducible refine(spec_l09Act.calls bU.out).mono ?_);rintro e w' ⟨rfl,⟨nd,rfl⟩⟩))
      go_ret;exact⟨rE,cB⟩
    ·replace aY:=Bool.eq_false_iff.mpr aY;subst aY;replace H:=iF H;obtain rfl:=Option.some.inj H;obtain⟨cY,cZ,d0,d1,c0,c1,d2,d3⟩:=cz4 X
     go_wp2_with (first|((with_reducible refine gF 77 ?_);refine gX (some 20) Try.func77 (spec_HalfOk.calls bd.out) ?_;rintro w' ⟨nd,rfl⟩))
     go_ret;exact⟨rE,cB⟩
def spec_l04Cmp.f (ae:Int) (af:Int):Option (Int):=if ae<af then(some (-1))else(if ae>af then(some 1)else(some 0))
set_option maxHeartbeats 8000000 in
set_option maxRecDepth 100000 in
theorem spec_l04Cmp.calls {ae:Int}{af:Int}{r:Int}{w:World}(h:spec_l04Cmp.f ae af=some r) :
 Calls Try.prog 134 #[.int .i64 ae,.int .i64 af] w fun e w'=>e= .returned (.int .i64 r)∧Drawn0 w w':=by
 have H:(if ae<af then(some (-1))else(if ae>af then(some 1)else(some 0)))=some r:=h;clear h;by_cases q:ae<af
 ·rw[if_pos q]at H;have ax:=decide_eq_true q;clear q;obtain rfl:=Option.some.inj H;go_enter Try.func134,Try.ntmps134;go_wp2;go_ret
  exact⟨by first|rfl|(simp;done)|(simp[*];done),by repeat(first|exact Drawn0.refl _|apply Drawn0.step)⟩
 ·rw[if_neg q]at H;have ax:=decide_eq_false q;clear q;by_cases z:ae>af
  ·rw[if_pos z]at H;have ay:decide (af<ae)=true:=decide_eq_true z;clear z;obtain rfl:=Option.some.inj H;go_enter Try.func134,Try.ntmps134;go_wp2;go_ret
   exact⟨by first|rfl|(simp;done)|(simp[*];done),by repeat(first|exact Drawn0.refl _|apply Drawn0.step)⟩
  ·rw[if_neg z]at H;have ay:decide (af<ae)=false:=decide_eq_false z;clear z;obtain rfl:=Option.some.inj H;go_enter Try.func134,Try.ntmps134;go_wp2;go_ret
   exact⟨by first|rfl|(simp;done)|(simp[*];done),by repeat(first|exact Drawn0.refl _|apply Drawn0.step)⟩
def spec_WideCmp.f (i:Int) (j:Int) (G:Int) (I:Int):Option (Int):=(spec_l04Cmp.f i G).bind fun a0=>(if a0=0 then((spec_l04Cmp.f j I).bind fun bV=>(some bV))else(some a0))
set_option maxHeartbeats 8000000 in
set_option maxRecDepth 100000 in
theorem spec_WideCmp.calls {i:Int}{j:Int}{G:Int}{I:Int}{r:Int}{w:World}(h:spec_WideCmp.f i j G I=some r) :
 Calls Try.prog 112 #[.agg #[.int .i64 i,.int .i64 j],.agg #[.int .i64 G,.int .i64 I]] w fun e w'=>e= .returned (.int .i64 r)∧Below w.heap.size w w':=by
 have hu93:=Try.underlying93;have HB:=rW w
 unfold spec_WideCmp.f at h;have H:=h
 clear h;replace H:=bE H;obtain⟨a0,aD,H⟩:=H;by_cases z:a0=0
 ·rw[if_pos z]at H;obtain⟨ay,c3⟩:=eT z;clear z;replace H:=bE H;obtain⟨bV,s,H⟩:=H;obtain rfl:=Option.some.inj H;go_enter Try.func112,Try.ntmps112
  go_wp2_with (first|((with_reducible refine gN 2 ?_);refine boxZ 2 #[.int .i64 i,.int .i64 j] 93 ?_;intro c4 hg d4 hbox hb;have ag:=aM hbox;have GW887:=gS hg;have GE887:=gS hg;replace HB:=sB hb;clear hb hbox hg)|((with_reducible refine gN 3 ?_);refine boxZ 3 #[.int .i64 G,.int .i64 I] 93 ?_;intro c6 hg c7 hbox hb;have be:=aM hbox;have GW888:=gS hg;have GE888:=gS hg;replace HB:=sB hb;have bf:=nL hg ag;have bg:=nG hg ag;replace ag:=kB ag hb;clear hb hbox hg;have hnb8:=bf.out;have hnc8:=bg.out;obtain⟨cU,cV,cW,cX⟩:=cz2 ag;obtain⟨d5,d6,d7,d8⟩:=cz2 be)|((with_reducible refine gF 134 ?_);refine gX (some 10) Try.func134 (spec_l04Cmp.calls aD.out) ?_;rintro w' ⟨nd,rfl⟩)|((with_reducible refine gF 134 ?_);refine gX (some 17) Try.func134 (spec_l04Cmp.calls s.out) ?_;rintro w' ⟨nd,rfl⟩))
  go_ret;exact⟨rE,cB⟩
 ·rw[if_neg z]at H;obtain⟨ay,c3⟩:=eF z;obtain rfl:=Option.some.inj H;go_enter Try.func112,Try.ntmps112
  go_wp2_with (first|((with_reducible refine gN 2 ?_);refine boxZ 2 #[.int .i64 i,.int .i64 j] 93 ?_;intro c4 hg d9 hbox hb;have ag:=aM hbox;have GW887:=gS hg;have GE887:=gS hg;replace HB:=sB hb;clear hb hbox hg)|((with_reducible refine gN 3 ?_);refine boxZ 3 #[.int .i64 G,.int .i64 I] 93 ?_;intro c6 hg ea hbox hb;have be:=aM hbox;have GW888:=gS hg;have GE888:=gS hg;replace HB:=sB hb;have bf:=nL hg ag;have bg:=nG hg ag;replace ag:=kB ag hb;clear hb hbox hg;have hnb13:=bf.out;have hnc13:=bg.out;obtain⟨bv,bw,bx,bz⟩:=cz2 ag;obtain⟨aR,aS,aT,aU⟩:=cz2 be)|((with_reducible refine gF 134 ?_);refine gX (some 10) Try.func134 (spec_l04Cmp.calls aD.out) ?_;rintro w' ⟨nd,rfl⟩))
  go_ret;exact⟨rE,cB⟩
def spec_WideAnd.f (i:Int) (j:Int) (G:Int) (I:Int):Option (Int×Int):=(spec_WideOk.f i j).bind fun bh=>(if bh=true then((spec_WideOk.f G I).bind fun bi=>(if bi=true then(some (Go.bits .and .i64 i G,Go.bits .and .i64 j I))else(some (0,0))))else(some (0,0)))
set_option maxHeartbeats 8000000 in
set_option maxRecDepth 100000 in
theorem spec_WideAnd.calls {i:Int}{j:Int}{G:Int}{I:Int}{r1:Int}{r2:Int}{w:World}(h:spec_WideAnd.f i j G I=some (r1,r2)) :
 Calls Try.prog 113 #[.agg #[.int .i64 i,.int .i64 j],.agg #[.int .i64 G,.int .i64 I]] w fun e w'=>e= .returned (.agg #[.int .i64 r1,.int .i64 r2])∧Below w.heap.size w w':=by
 have hu93:=Try.underlying93;have HB:=rW w
 unfold spec_WideAnd.f at h;have H:=h
 clear h;replace H:=bE H;obtain⟨bh,aD,H⟩:=H;by_cases z:bh=true
 ·subst z;replace H:=iT H;replace H:=bE H;obtain⟨bi,s,H⟩:=H;by_cases J:bi=true
  ·subst J;replace H:=iT H;simp only[Option.some.injEq,Prod.mk.injEq]at H;obtain⟨rfl,rfl⟩:=H;go_enter Try.func113,Try.ntmps113
   go_wp2_with (first|((with_reducible refine gN 2 ?_);refine boxZ 2 #[.int .i64 i,.int .i64 j] 93 ?_;intro bW hg c7 hbox hb;have c:=aM hbox;have GW891:=gS hg;have GE891:=gS hg;replace HB:=sB hb;clear hb hbox hg)|((with_reducible refine gN 3 ?_);refine boxZ 3 #[.int .i64 G,.int .i64 I] 93 ?_;intro bX hg cT hbox hb;have g:=aM hbox;have GW892:=gS hg;have GE892:=gS hg;replace HB:=sB hb;have aI:=nL hg c;have aJ:=nG hg c;replace c:=kB c hb;clear hb hbox hg)|((with_reducible refine gN 4 ?_);refine boxZ 4 #[.int .i64 0,.int .i64 0] 93 ?_;intro aK hg eb hbox hb;have A:=aM hbox;have GW893:=gS hg;have GE893:=gS hg;replace HB:=sB hb;have aL:=nL hg c;have aN:=nG hg c;replace c:=kB c hb;have aO:=nL hg g;have aP:=nG hg g;replace g:=kB g hb;clear hb hbox hg;have hnb10:=aI.out;have hnc10:=aJ.out;have hnb11:=aL.out;have hnc11:=aN.out;obtain⟨bq,br,bs,bu⟩:=cz2 c)|((with_reducible refine gF 79 ?_);refine gX (some 6) Try.func79 (spec_WideOk.calls aD.out) ?_;intro ec hb;replace c:=kB c hb;replace g:=kB g hb;replace A:=kB A hb;replace HB:=sB hb;(try clear hb);have hnb14:=aO.out;have hnc14:=aP.out;obtain⟨aR,aS,aT,aU⟩:=cz2 g)|(go_at_call 79;(with_reducible refine(spec_WideOk.calls s.out).mono ?_);rintro e ed ⟨rfl,hb⟩;replace c:=kB c hb;replace g:=kB g hb;replace A:=kB A hb;replace HB:=sB hb;(try clear hb);obtain⟨cY,cZ,c0,c1⟩:=cz2 c;obtain⟨ee,ef,eg,eh⟩:=cz2 g;obtain⟨ei,ej,ek,el⟩:=cz2 A))
   refine bodyPost_ret (results_cell_row rfl _ _ aK 93 #[.int .i64 (Go.bits .and .i64 i G),.int .i64 (Go.bits .and .i64 j I)] (0,0) _ rfl (kS A _) Try.underlying93 rfl (by kernel_rfl)) rfl ?_
   exact⟨rE,cB⟩
  ·replace J:=Bool.eq_false_iff.mpr J;subst J;replace H:=iF H;simp only[Option.some.injEq,Prod.mk.injEq]at H;obtain⟨rfl,rfl⟩:=H;go_enter Try.func113,Try.ntmps113
   go_wp2_with (first|((with_reducible refine gN 2 ?_);refine boxZ 2 #[.int .i64 i,.int .i64 j] 93 ?_;intro bW hg em hbox hb;have c:=aM hbox;have GW891:=gS hg;have GE891:=gS hg;replace HB:=sB hb;clear hb hbox hg)|((with_reducible refine gN 3 ?_);refine boxZ 3 #[.int .i64 G,.int .i64 I] 93 ?_;intro bX hg en hbox hb;have g:=aM hbox;have GW892:=gS hg;have GE892:=gS hg;replace HB:=sB hb;have aI:=nL hg c;have aJ:=nG hg c;replace c:=kB c hb;clear hb hbox hg)|((with_reducible refine gN 4 ?_);refine boxZ 4 #[.int .i64 0,.int .i64 0] 93 ?_;intro aK hg a6 hbox hb;have A:=aM hbox;have GW893:=gS hg;have GE893:=gS hg;replace HB:=sB hb;have aL:=nL hg c;have aN:=nG hg c;replace c:=kB c hb;have aO:=nL hg g;have aP:=nG hg g;replace g:=kB g hb;clear hb hbox hg;have hnb23:=aI.out;have hnc23:=aJ.out;have hnb24:=aL.out;have hnc24:=aN.out;obtain⟨eo,ep,eq,er⟩:=cz2 c)|((with_reducible refine gF 79 ?_);refine gX (some 6) Try.func79 (spec_WideOk.calls aD.out) ?_;intro es hb;replace c:=kB c hb;replace g:=kB g hb;replace A:=kB A hb;replace HB:=sB hb;(try clear hb);have hnb27:=aO.out;have hnc27:=aP.out;obtain⟨cD,cE,cF,cG⟩:=cz2 g)|(go_at_call 79;(with_reducible refine(spec_WideOk.calls s.out).mono ?_);rintro e et ⟨rfl,hb⟩;replace c:=kB c hb;replace g:=kB g hb;replace A:=kB A hb;replace HB:=sB hb;(try clear hb);obtain⟨cI,cJ,cL,cM⟩:=cz2 A))
   refine bodyPost_ret (results_cell_row rfl _ _ aK 93 #[.int .i64 0,.int .i64 0] (0,0) _ rfl (kS A _) Try.underlying93 rfl (by kernel_rfl)) rfl ?_
   exact⟨rE,cB⟩
 ·replace z:=Bool.eq_false_iff.mpr z;subst z;replace H:=iF H;simp only[Option.some.injEq,Prod.mk.injEq]at H;obtain⟨rfl,rfl⟩:=H;go_enter Try.func113,Try.ntmps113
  go_wp2_with (first|((with_reducible refine gN 2 ?_);refine boxZ 2 #[.int .i64 i,.int .i64 j] 93 ?_;intro bW hg eu hbox hb;have c:=aM hbox;have GW891:=gS hg;have GE891:=gS hg;replace HB:=sB hb;clear hb hbox hg)|((with_reducible refine gN 3 ?_);refine boxZ 3 #[.int .i64 G,.int .i64 I] 93 ?_;intro bX hg ev hbox hb;have g:=aM hbox;have GW892:=gS hg;have GE892:=gS hg;replace HB:=sB hb;have aI:=nL hg c;have aJ:=nG hg c;replace c:=kB c hb;clear hb hbox hg)|((with_reducible refine gN 4 ?_);refine boxZ 4 #[.int .i64 0,.int .i64 0] 93 ?_;intro aK hg ew hbox hb;have A:=aM hbox;have GW893:=gS hg;have GE893:=gS hg;replace HB:=sB hb;have aL:=nL hg c;have aN:=nG hg c;replace c:=kB c hb;have aO:=nL hg g;have aP:=nG hg g;replace g:=kB g hb;clear hb hbox hg;have hnb34:=aI.out;have hnc34:=aJ.out;have hnb35:=aL.out;have hnc35:=aN.out;obtain⟨ex,ey,ez,eA⟩:=cz2 c)|((with_reducible refine gF 79 ?_);refine gX (some 6) Try.func79 (spec_WideOk.calls aD.out) ?_;intro eC hb;replace c:=kB c hb;replace g:=kB g hb;replace A:=kB A hb;replace HB:=sB hb;(try clear hb);have hnb38:=aP.out;have hnc38:=aO.out;obtain⟨eD,eE,eG,eH⟩:=cz2 A))
  refine bodyPost_ret (results_cell_row rfl _ _ aK 93 #[.int .i64 0,.int .i64 0] (0,0) _ rfl (kS A _) Try.underlying93 rfl (by kernel_rfl)) rfl ?_
  exact⟨rE,cB⟩
end Go.Proofs.Ytpbalojiaghfhaa.PFnCompilesSmall
