import Derived.Test.YtpbalojiaghfhaaGreatPFnExactCompiley0
import Derived.Test.YtpbalojiaghfhaaGreatPFnExactCompiley1
import Derived.Test.YtpbalojiaghfhaaGreatPFnExactCompiley13
import Derived.Test.YtpbalojiaghfhaaGreatPFnExactCompiley18
namespace Go.Proofs.YtpbalojiaghfhaaGreat.PFnExactCompile
open Go.RowKit Go.Proofs.YtpbalojiaghfhaaGreatW.PrintWords Go.Proofs.YtpbalojiaghfhaaGreatW.PrintLast Go.Proofs.YtpbalojiaghfhaaGreatW.PrintMore Go.Proofs.YtpbalojiaghfhaaGreatW.Z
open Kd
attribute [local go_sem] isS max2_int min2_int max_two min_two max_three min_three max_four min_four
set_option linter.unusedVariables false
set_option linter.unusedSimpArgs false
attribute [local go_sem high] eqA71
mutual
def spec_l09Rule.l0:Nat→Int→List Int→List (S118)→Int→Int→Option (Bool)
  | 0,_,_,_,_,_=>none
  | k+1,y,X,L,ap,aq=>if y<(X.length:Int)then(if 0≤y then((spec_HalfOk.f (rd X y)).bind fun aR=>(if aR=true then(if y>0 then(if 0≤(wrap64 (y - 1))then(if(wrap64 (y - 1))<(X.length:Int)then(if(rd X (wrap64 (y - 1)))≥(rd X y)then(some false)else(spec_l09Rule.l0 k (wrap64 (y+1)) X L ap aq))else(none))else(none))else(spec_l09Rule.l0 k (wrap64 (y+1)) X L ap aq))else(some false)))else(none))else(spec_l09Rule.l1 k 0 X L ap aq)
def spec_l09Rule.l1:Nat→Int→List Int→List (S118)→Int→Int→Option (Bool)
  | 0,_,_,_,_,_=>none
  | k+1,ae,X,L,ap,aq=>if ae<(L.length:Int)then(if 0≤ae then((spec_CondOk.f ((rd_T118 L ae).f0) ((rd_T118 L ae).f1.f0) ((rd_T118 L ae).f1.f1) ((rd_T118 L ae).f2) ((rd_T118 L ae).f3.f0) ((rd_T118 L ae).f3.f1)).bind fun aS=>(if aS=true then(spec_l09Rule.l1 k (wrap64 (ae+1)) X L ap aq)else(some false)))else(none))else(if(X.length:Int)≤4 then(if(L.length:Int)≤3 then((spec_l09Act.f ap aq).bind fun az=>(some az))else(some false))else(some false))
end
def spec_l09Rule.f (k:Nat) (d:List Int) (b:List (S118)) (l:Int) (s:Int):Option (Bool):=spec_l09Rule.l0 k 0 d b l s
set_option maxHeartbeats 8000000 in
set_option maxRecDepth 100000 in
theorem spec_l09Rule.calls (k:Nat) (af:Option Addr) (ag:Nat) (d:List Int) (ah:Option Addr) (ai:Nat) (b:List (S118)) (l:Int) (s:Int) (r:Bool) (w:World) (ba:Kd.C (Kd.int .i64) w af d.length d) (bb:d.length≤ag) (bd:Kd.C k118 w ah b.length b) (be:b.length≤ai) (h:spec_l09Rule.f k d b l s=some r) :
 Calls Tryz.prog 82 #[.agg #[.slice af d.length ag,.slice ah b.length ai,.int .i64 l,.int .i64 s]] w fun e w'=>e= .returned (.bool r)∧Below w.heap.size w w':=by
 have hu78:=Tryz.underlying78;have hu118:=Tryz.underlying118;have HR0_0:=aM ba;have HC0_0:=aM bb;clear ba bb;have HR0_1:=aM bd;have HC0_1:=aM be;clear bd be;have HB:=aM (Below.refl w.heap.size w);have H:(spec_l09Rule.l0 k 0 d b l s)=some r:=h;clear h;have H':=aM H;clear H;go_enter Tryz.func82,Tryz.ntmps82
 go_wp2_with (first|((with_reducible refine gN 1 ?_);(try(refine gate_guard (by rfl) ?_;dsimp only));refine boxZ 1 #[.slice af d.length ag,.slice ah b.length ai,.int .i64 l,.int .i64 s] 78 ?_;intro aF hg aG hbox hb;have j:=aM (hbox);have GW986:=gS hg;have GE986:=gS hg;replace HB:=sB hb;clear hb hbox hg))
 repeat(go_quiet (first|((with_reducible refine gate_dst (N:=1) rfl ?_);(try(refine gate_guard (by rfl) ?_;dsimp only));refine box_event ?hg (N:=1) ?hd (cs:= #[.slice af d.length ag,.slice ah b.length ai,.int .i64 l,.int .i64 s]) (t:=78) ?hr ?_;(case hd=>rfl);(case hg=>rfl);(case hr=>first|(go_simp;done)|(go_simp;rfl));intro aF hg aG hbox hb;have n0_:=sB hb;have n1_:=aM (hbox);have n2_:=gS hg;have n3_:=gS hg;clear HB;have HB:=n0_;have j:=n1_;have GW986:=n2_;have GE986:=n3_;clear n0_ n1_ n2_ n3_;clear hb hbox hg));try go_wp2_with (first|((with_reducible refine gate_dst (N:=1) rfl ?_);(try(refine gate_guard (by rfl) ?_;dsimp only));refine box_event ?hg (N:=1) ?hd (cs:= #[.slice af d.length ag,.slice ah b.length ai,.int .i64 l,.int .i64 s]) (t:=78) ?hr ?_;(case hd=>rfl);(case hg=>rfl);(case hr=>first|(go_simp;done)|(go_simp;rfl));intro aF hg aG hbox hb;have n0_:=sB hb;have n1_:=aM (hbox);have n2_:=gS hg;have n3_:=gS hg;clear HB;have HB:=n0_;have j:=n1_;have GW986:=n2_;have GE986:=n3_;clear n0_ n1_ n2_ n3_;clear hb hbox hg)))
 go_loopg [3] k (fun kq aT w'=> ∃ (a:Int),aT= .int .i64 a∧Aside0 (spec_l09Rule.l0 kq a d b l s=some r)∧Aside0 (kq≤k)∧Aside0 (w'.heap[aF]?=some (.cells #[(.slice af d.length ag),(.slice ah b.length ai),.int .i64 l,.int .i64 s] 78 (0,0)))∧Aside0 (Below w.heap.size w w'))
 case atStart=>exact⟨(0),rS,H',⟨Nat.le_refl _⟩,⟨mK j⟩,⟨cB⟩⟩
 case round=>
  clear H';obtain⟨a,rfl,HA,HK1,j,HB⟩:=hrel
  cases gk with
  | zero=>exact absurd HA.out (by simp[spec_l09Rule.l0])
  | succ k1=>
   have H:=HA.out;clear HA;simp only[spec_l09Rule.l0]at H;by_cases u:a<(d.length:Int)
   ·rw[if_pos u]at H;have ar:=decide_eq_true u;clear u;replace H:=gD H;obtain⟨aU,H⟩:=H;replace H:=bE H;obtain⟨aR,v,H⟩:=H;by_cases I:aR=true
    ·subst I;replace H:=iT H;by_cases M:a>0
     ·rw[if_pos M]at H;have aH:decide (0<a)=true:=decide_eq_true M;clear M;obtain⟨ji8,hji8⟩ : ∃ j_:Int,(wrap64 (a - 1))=j_:=⟨_,rfl⟩
      (first|rw[hji8]at H|simp only[hji8]at H)
      (try rw[hji8]at v);have hji8w:(IntKind.i64.wrap (a - 1))=ji8:=(i64_w _).trans hji8;replace H:=gD H;obtain⟨bV,H⟩:=H;replace H:=gD H;obtain⟨bW,H⟩:=H;by_cases aj:(rd d (ji8))≥(rd d a)
      ·rw[if_pos aj]at H;have bf:decide ((rd d a)≤(rd d (ji8)))=true:=decide_eq_true aj;clear aj;obtain rfl:=Option.some.inj H;obtain⟨bX,bY,bZ,b0,b1,b5,b8,b9⟩:=cz4 j;have E:0≤(a:Int):=dA;have G:a<(d.length:Int):=dA;obtain⟨J,ak,U⟩:=at_int HR0_0.out a E G;cases ak;replace U:=(bc HB U :);replace E:=eq_true E;replace G:=eq_true G
       go_wp2_with (first|(go_at_call 83;(with_reducible refine(spec_HalfOk.calls (rd d a) true _ v.out).mono ?_);rintro e w' ⟨rfl,⟨nd,rfl⟩⟩;(try first|exact⟨rfl,_,World.drewN_drewN _ _ _⟩|exact⟨rfl,_,Eq.trans (World.drewN_drewN _ _ _) (congrArg (World.drewN _) (Nat.add_assoc _ _ _))⟩);have n:0≤((ji8):Int):=dA;have o:(ji8)<(d.length:Int):=dA;obtain⟨Y,aa,z⟩:=at_int HR0_0.out (ji8) n o;obtain rfl:J=Y:=(by injection aa);replace z:=(bc HB z :);replace n:=eq_true n;replace o:=eq_true o;have p:0≤(a:Int):=dA;have q:a<(d.length:Int):=dA;obtain⟨ab,ac,A⟩:=at_int HR0_0.out a p q;obtain rfl:J=ab:=(by injection ac);replace A:=(bc HB A :);replace p:=eq_true p;replace q:=eq_true q))
       repeat(go_quiet (first|(go_at_call 83;(with_reducible refine(spec_HalfOk.calls (rd d a) true _ v.out).mono ?_);rintro e w' ⟨rfl,⟨nd,rfl⟩⟩;(try first|exact⟨rfl,_,World.drewN_drewN _ _ _⟩|exact⟨rfl,_,Eq.trans (World.drewN_drewN _ _ _) (congrArg (World.drewN _) (Nat.add_assoc _ _ _))⟩);have n:0≤((ji8):Int):=dA;have o:(ji8)<(d.length:Int):=dA;obtain⟨Y,aa,z⟩:=at_int HR0_0.out (ji8) n o;obtain rfl:J=Y:=(by injection aa);replace z:=(bc HB z :);replace n:=eq_true n;replace o:=eq_true o;have p:0≤(a:Int):=dA;have q:a<(d.length:Int):=dA;obtain⟨ab,ac,A⟩:=at_int HR0_0.out a p q;obtain rfl:J=ab:=(by injection ac);replace A:=(bc HB A :);replace p:=eq_true p;replace q:=eq_true q));try go_wp2_with (first|(go_at_call 83;(with_reducible refine(spec_HalfOk.calls (rd d a) true _ v.out).mono ?_);rintro e w' ⟨rfl,⟨nd,rfl⟩⟩;(try first|exact⟨rfl,_,World.drewN_drewN _ _ _⟩|exact⟨rfl,_,Eq.trans (World.drewN_drewN _ _ _) (congrArg (World.drewN _) (Nat.add_assoc _ _ _))⟩);have n:0≤((ji8):Int):=dA;have o:(ji8)<(d.length:Int):=dA;obtain⟨Y,aa,z⟩:=at_int HR0_0.out (ji8) n o;obtain rfl:J=Y:=(by injection aa);replace z:=(bc HB z :);replace n:=eq_true n;replace o:=eq_true o;have p:0≤(a:Int):=dA;have q:a<(d.length:Int):=dA;obtain⟨ab,ac,A⟩:=at_int HR0_0.out a p q;obtain rfl:J=ab:=(by injection ac);replace A:=(bc HB A :);replace p:=eq_true p;replace q:=eq_true q)))
       go_ret
       exact⟨by first|rfl|(simp[errW_none,errW_some] <;> rfl)|(simp only[← hji8];first|rfl|(simp[errW_none,errW_some] <;> rfl))|(simp[*,errW_none,errW_some] <;> rfl),cB⟩
      ·rw[if_neg aj]at H;have bf:decide ((rd d a)≤(rd d (ji8)))=false:=decide_eq_false aj;clear aj;have H':=aM H;clear H;obtain⟨ca,cb,cc,cd,ce,cf,cg,ch⟩:=cz4 j;have E:0≤(a:Int):=dA;have G:a<(d.length:Int):=dA;obtain⟨J,ak,U⟩:=at_int HR0_0.out a E G;cases ak;replace U:=(bc HB U :);replace E:=eq_true E;replace G:=eq_true G
       go_wp2_with (first|(go_at_call 83;(with_reducible refine(spec_HalfOk.calls (rd d a) true _ v.out).mono ?_);rintro e w' ⟨rfl,⟨nd,rfl⟩⟩;(try first|exact⟨rfl,_,World.drewN_drewN _ _ _⟩|exact⟨rfl,_,Eq.trans (World.drewN_drewN _ _ _) (congrArg (World.drewN _) (Nat.add_assoc _ _ _))⟩);have n:0≤((ji8):Int):=dA;have o:(ji8)<(d.length:Int):=dA;obtain⟨Y,aa,z⟩:=at_int HR0_0.out (ji8) n o;obtain rfl:J=Y:=(by injection aa);replace z:=(bc HB z :);replace n:=eq_true n;replace o:=eq_true o;have p:0≤(a:Int):=dA;have q:a<(d.length:Int):=dA;obtain⟨ab,ac,A⟩:=at_int HR0_0.out a p q;obtain rfl:J=ab:=(by injection ac);replace A:=(bc HB A :);replace p:=eq_true p;replace q:=eq_true q))
       repeat(go_quiet (first|(go_at_call 83;(with_reducible refine(spec_HalfOk.calls (rd d a) true _ v.out).mono ?_);rintro e w' ⟨rfl,⟨nd,rfl⟩⟩;(try first|exact⟨rfl,_,World.drewN_drewN _ _ _⟩|exact⟨rfl,_,Eq.trans (World.drewN_drewN _ _ _) (congrArg (World.drewN _) (Nat.add_assoc _ _ _))⟩);have n:0≤((ji8):Int):=dA;have o:(ji8)<(d.length:Int):=dA;obtain⟨Y,aa,z⟩:=at_int HR0_0.out (ji8) n o;obtain rfl:J=Y:=(by injection aa);replace z:=(bc HB z :);replace n:=eq_true n;replace o:=eq_true o;have p:0≤(a:Int):=dA;have q:a<(d.length:Int):=dA;obtain⟨ab,ac,A⟩:=at_int HR0_0.out a p q;obtain rfl:J=ab:=(by injection ac);replace A:=(bc HB A :);replace p:=eq_true p;replace q:=eq_true q));try go_wp2_with (first|(go_at_call 83;(with_reducible refine(spec_HalfOk.calls (rd d a) true _ v.out).mono ?_);rintro e w' ⟨rfl,⟨nd,rfl⟩⟩;(try first|exact⟨rfl,_,World.drewN_drewN _ _ _⟩|exact⟨rfl,_,Eq.trans (World.drewN_drewN _ _ _) (congrArg (World.drewN _) (Nat.add_assoc _ _ _))⟩);have n:0≤((ji8):Int):=dA;have o:(ji8)<(d.length:Int):=dA;obtain⟨Y,aa,z⟩:=at_int HR0_0.out (ji8) n o;obtain rfl:J=Y:=(by injection aa);replace z:=(bc HB z :);replace n:=eq_true n;replace o:=eq_true o;have p:0≤(a:Int):=dA;have q:a<(d.length:Int):=dA;obtain⟨ab,ac,A⟩:=at_int HR0_0.out a p q;obtain rfl:J=ab:=(by injection ac);replace A:=(bc HB A :);replace p:=eq_true p;replace q:=eq_true q)))
       go_roundg k1
       case measure=>have:=HK1.out;omega
       case rel=>exact⟨(wrap64 (a+1)),rS,H',⟨by have:=HK1.out;omega⟩,⟨mK j⟩,⟨cB⟩⟩
     ·rw[if_neg M]at H;have aH:decide (0<a)=false:=decide_eq_false M;clear M;have H':=aM H;clear H;obtain⟨ci,cj,ck,cl,cm,cn,co,cp⟩:=cz4 j;have E:0≤(a:Int):=dA;have G:a<(d.length:Int):=dA;obtain⟨J,ak,U⟩:=at_int HR0_0.out a E G;cases ak;replace U:=(bc HB U :);replace E:=eq_true E;replace G:=eq_true G
      go_wp2_with (first|(go_at_call 83;(with_reducible refine(spec_HalfOk.calls (rd d a) true _ v.out).mono ?_);rintro e w' ⟨rfl,⟨nd,rfl⟩⟩;(try first|exact⟨rfl,_,World.drewN_drewN _ _ _⟩|exact⟨rfl,_,Eq.trans (World.drewN_drewN _ _ _) (congrArg (World.drewN _) (Nat.add_assoc _ _ _))⟩)))
      repeat(go_quiet (first|(go_at_call 83;(with_reducible refine(spec_HalfOk.calls (rd d a) true _ v.out).mono ?_);rintro e w' ⟨rfl,⟨nd,rfl⟩⟩;(try first|exact⟨rfl,_,World.drewN_drewN _ _ _⟩|exact⟨rfl,_,Eq.trans (World.drewN_drewN _ _ _) (congrArg (World.drewN _) (Nat.add_assoc _ _ _))⟩)));try go_wp2_with (first|(go_at_call 83;(with_reducible refine(spec_HalfOk.calls (rd d a) true _ v.out).mono ?_);rintro e w' ⟨rfl,⟨nd,rfl⟩⟩;(try first|exact⟨rfl,_,World.drewN_drewN _ _ _⟩|exact⟨rfl,_,Eq.trans (World.drewN_drewN _ _ _) (congrArg (World.drewN _) (Nat.add_assoc _ _ _))⟩))))
      go_roundg k1
      case measure=>have:=HK1.out;omega
      case rel=>exact⟨(wrap64 (a+1)),rS,H',⟨by have:=HK1.out;omega⟩,⟨mK j⟩,⟨cB⟩⟩
    ·replace I:=Bool.eq_false_iff.mpr I;subst I;replace H:=iF H;obtain rfl:=Option.some.inj H;obtain⟨bg,bh,bi,bj,bk,bl,bm,bn⟩:=cz4 j;have E:0≤(a:Int):=dA;have G:a<(d.length:Int):=dA;obtain⟨J,ak,U⟩:=at_int HR0_0.out a E G;cases ak;replace U:=(bc HB U :);replace E:=eq_true E;replace G:=eq_true G
     go_wp2_with (first|(go_at_call 83;(with_reducible refine(spec_HalfOk.calls (rd d a) false _ v.out).mono ?_);rintro e w' ⟨rfl,⟨nd,rfl⟩⟩;(try first|exact⟨rfl,_,World.drewN_drewN _ _ _⟩|exact⟨rfl,_,Eq.trans (World.drewN_drewN _ _ _) (congrArg (World.drewN _) (Nat.add_assoc _ _ _))⟩)))
     repeat(go_quiet (first|(go_at_call 83;(with_reducible refine(spec_HalfOk.calls (rd d a) false _ v.out).mono ?_);rintro e w' ⟨rfl,⟨nd,rfl⟩⟩;(try first|exact⟨rfl,_,World.drewN_drewN _ _ _⟩|exact⟨rfl,_,Eq.trans (World.drewN_drewN _ _ _) (congrArg (World.drewN _) (Nat.add_assoc _ _ _))⟩)));try go_wp2_with (first|(go_at_call 83;(with_reducible refine(spec_HalfOk.calls (rd d a) false _ v.out).mono ?_);rintro e w' ⟨rfl,⟨nd,rfl⟩⟩;(try first|exact⟨rfl,_,World.drewN_drewN _ _ _⟩|exact⟨rfl,_,Eq.trans (World.drewN_drewN _ _ _) (congrArg (World.drewN _) (Nat.add_assoc _ _ _))⟩))))
     go_ret;exact⟨rE,cB⟩
   ·rw[if_neg u]at H;have ar:=decide_eq_false u;clear u;have H':=aM H;clear H;obtain⟨bo,bp,bq,br,bs,bu,bv,bw⟩:=cz4 j;go_wp2
    repeat(go_quiet (fail);try go_wp2)
    go_loopg [4] k1 (fun kq cq w'=> ∃ (i:Int),cq= .int .i64 i∧Aside0 (spec_l09Rule.l1 kq i d b l s=some r)∧Aside0 (kq≤k1)∧Aside0 (w'.heap[aF]?=some (.cells #[(.slice af d.length ag),(.slice ah b.length ai),.int .i64 l,.int .i64 s] 78 (0,0)))∧Aside0 (Below w.heap.size w w'))
    case atStart=>exact⟨(0),rS,H',⟨Nat.le_refl _⟩,⟨mK j⟩,⟨cB⟩⟩
    case round=>
     clear H';(try clear u);(try clear ar);(try clear cZ);(try clear aU);(try clear I);(try clear M);(try clear aH);(try clear c0);(try clear bV);(try clear c1);(try clear bW);(try clear aj);(try clear bf);(try clear bX bY bZ b0);(try clear ca cb cc cd);(try clear ci cj ck cl);(try clear bg bh bi bj);(try clear bo bp bq br);(try clear b1 b5 b8 b9);(try clear ce cf cg ch);(try clear cm cn co cp);(try clear bk bl bm bn);(try clear bs bu bv bw);(try clear U);(try clear z);(try clear A);(try clear E);(try clear n);(try clear p);(try clear G);(try clear o);(try clear q);obtain⟨i,rfl,HA,HK2,j,HB⟩:=hrel
     cases gk with
     | zero=>exact absurd HA.out (by simp[spec_l09Rule.l1])
     | succ k2=>
      have H:=HA.out;clear HA;simp only[spec_l09Rule.l1]at H;by_cases au:i<(b.length:Int)
      ·rw[if_pos au]at H;have cr:=decide_eq_true au;clear au;replace H:=gD H;obtain⟨c3,H⟩:=H;replace H:=bE H;obtain⟨aS,av,H⟩:=H;by_cases aI:aS=true
       ·subst aI;replace H:=iT H;have H':=aM H;clear H;obtain⟨c4,c6,c7,c9,da,db,dc,dd⟩:=cz4 j;obtain⟨ct,cu,cv,aV,cw,cx,cy,cz,cA,cD⟩:=b6 HB (at_T118 HR0_1.out i);cases aV
        go_wp2_with (first|(go_at_call 110;(with_reducible refine(spec_CondOk.calls ((rd_T118 b i).f0) ((rd_T118 b i).f1.f0) ((rd_T118 b i).f1.f1) ((rd_T118 b i).f2) ((rd_T118 b i).f3.f0) ((rd_T118 b i).f3.f1) true _ av.out).mono ?_);rintro e bx ⟨rfl,hb⟩;replace j:=kB j hb;replace HB:=sB hb;(try clear hb)))
        repeat(go_quiet (first|(go_at_call 110;(with_reducible refine(spec_CondOk.calls ((rd_T118 b i).f0) ((rd_T118 b i).f1.f0) ((rd_T118 b i).f1.f1) ((rd_T118 b i).f2) ((rd_T118 b i).f3.f0) ((rd_T118 b i).f3.f1) true _ av.out).mono ?_);rintro e bx ⟨rfl,hb⟩;have n0_:=kB j hb;have n1_:=sB hb;clear j;clear HB;have j:=n0_;have HB:=n1_;clear n0_ n1_;(try clear hb);(try clear hb2);(try clear hk);(try clear hi)));try go_wp2_with (first|(go_at_call 110;(with_reducible refine(spec_CondOk.calls ((rd_T118 b i).f0) ((rd_T118 b i).f1.f0) ((rd_T118 b i).f1.f1) ((rd_T118 b i).f2) ((rd_T118 b i).f3.f0) ((rd_T118 b i).f3.f1) true _ av.out).mono ?_);rintro e bx ⟨rfl,hb⟩;have n0_:=kB j hb;have n1_:=sB hb;clear j;clear HB;have j:=n0_;have HB:=n1_;clear n0_ n1_;(try clear hb);(try clear hb2);(try clear hk);(try clear hi))))
        go_roundg k2
        case measure=>have:=HK1.out;have:=HK2.out;omega
        case rel=>exact⟨(wrap64 (i+1)),rS,H',⟨by have:=HK1.out;have:=HK2.out;omega⟩,⟨mK j⟩,⟨cB⟩⟩
       ·replace aI:=Bool.eq_false_iff.mpr aI;subst aI;replace H:=iF H;obtain rfl:=Option.some.inj H;obtain⟨de,df,dg,dh,di,dj,dk,dl⟩:=cz4 j;obtain⟨ct,cu,cv,aV,cw,cx,cy,cz,cA,cD⟩:=b6 HB (at_T118 HR0_1.out i);cases aV
        go_wp2_with (first|(go_at_call 110;(with_reducible refine(spec_CondOk.calls ((rd_T118 b i).f0) ((rd_T118 b i).f1.f0) ((rd_T118 b i).f1.f1) ((rd_T118 b i).f2) ((rd_T118 b i).f3.f0) ((rd_T118 b i).f3.f1) false _ av.out).mono ?_);rintro e bz ⟨rfl,hb⟩;replace j:=kB j hb;replace HB:=sB hb;(try clear hb)))
        repeat(go_quiet (first|(go_at_call 110;(with_reducible refine(spec_CondOk.calls ((rd_T118 b i).f0) ((rd_T118 b i).f1.f0) ((rd_T118 b i).f1.f1) ((rd_T118 b i).f2) ((rd_T118 b i).f3.f0) ((rd_T118 b i).f3.f1) false _ av.out).mono ?_);rintro e bz ⟨rfl,hb⟩;have n0_:=kB j hb;have n1_:=sB hb;clear j;clear HB;have j:=n0_;have HB:=n1_;clear n0_ n1_;(try clear hb);(try clear hb2);(try clear hk);(try clear hi)));try go_wp2_with (first|(go_at_call 110;(with_reducible refine(spec_CondOk.calls ((rd_T118 b i).f0) ((rd_T118 b i).f1.f0) ((rd_T118 b i).f1.f1) ((rd_T118 b i).f2) ((rd_T118 b i).f3.f0) ((rd_T118 b i).f3.f1) false _ av.out).mono ?_);rintro e bz ⟨rfl,hb⟩;have n0_:=kB j hb;have n1_:=sB hb;clear j;clear HB;have j:=n0_;have HB:=n1_;clear n0_ n1_;(try clear hb);(try clear hb2);(try clear hk);(try clear hi))))
        go_ret;exact⟨rE,cB⟩
      ·rw[if_neg au]at H;have cr:=decide_eq_false au;clear au;by_cases aw:(d.length:Int)≤4
       ·rw[if_pos aw]at H;have cE:=decide_eq_true aw
        have cF:decide (d.length≤4)=true:=decide_eq_true (by omega)
        clear aw;by_cases ax:(b.length:Int)≤3
        ·rw[if_pos ax]at H;have cG:=decide_eq_true ax
         have cH:decide (b.length≤3)=true:=decide_eq_true (by omega)
         clear ax;replace H:=bE H;obtain⟨az,aW,H⟩:=H;obtain rfl:=Option.some.inj H;obtain⟨dm,dn,dp,dq,dr,ds,dt,du⟩:=cz4 j
         go_wp2_with (first|(go_at_call 84;(with_reducible refine(spec_l09Act.calls l s az _ aW.out).mono ?_);rintro e w' ⟨rfl,⟨nd,rfl⟩⟩;(try first|exact⟨rfl,_,World.drewN_drewN _ _ _⟩|exact⟨rfl,_,Eq.trans (World.drewN_drewN _ _ _) (congrArg (World.drewN _) (Nat.add_assoc _ _ _))⟩)))
         repeat(go_quiet (first|(go_at_call 84;(with_reducible refine(spec_l09Act.calls l s az _ aW.out).mono ?_);rintro e w' ⟨rfl,⟨nd,rfl⟩⟩;(try first|exact⟨rfl,_,World.drewN_drewN _ _ _⟩|exact⟨rfl,_,Eq.trans (World.drewN_drewN _ _ _) (congrArg (World.drewN _) (Nat.add_assoc _ _ _))⟩)));try go_wp2_with (first|(go_at_call 84;(with_reducible refine(spec_l09Act.calls l s az _ aW.out).mono ?_);rintro e w' ⟨rfl,⟨nd,rfl⟩⟩;(try first|exact⟨rfl,_,World.drewN_drewN _ _ _⟩|exact⟨rfl,_,Eq.trans (World.drewN_drewN _ _ _) (congrArg (World.drewN _) (Nat.add_assoc _ _ _))⟩))))
         go_ret;exact⟨rE,cB⟩
        ·rw[if_neg ax]at H;have cG:=decide_eq_false ax
         have cH:decide (b.length≤3)=false:=decide_eq_false (by omega)
         clear ax;obtain rfl:=Option.some.inj H;obtain⟨dv,dw,dx,dy,dz,dB,dC,dD⟩:=cz4 j;go_wp2
         repeat(go_quiet (fail);try go_wp2)
         go_ret;exact⟨rE,cB⟩
       ·rw[if_neg aw]at H;have cE:=decide_eq_false aw
        have cF:decide (d.length≤4)=false:=decide_eq_false (by omega)
        clear aw;obtain rfl:=Option.some.inj H;obtain⟨dE,dF,dG,dH,dI,dJ,dK,dL⟩:=cz4 j;go_wp2
        repeat(go_quiet (fail);try go_wp2)
        go_ret;exact⟨rE,cB⟩
def spec_PolicyOk.l0:Nat→Int→Int→Int→Int→List (S78)→Option (Bool)
  | 0,_,_,_,_,_=>none
  | k+1,y,bA,bB,bC,al=>if y<(al.length:Int)then(if 0≤y then((spec_l09Rule.f k ((rd_T78 al y).f0) ((rd_T78 al y).f1) ((rd_T78 al y).f2) ((rd_T78 al y).f3)).bind fun aX=>(if aX=true then(spec_PolicyOk.l0 k (wrap64 (y+1)) bA bB bC al)else(some false)))else(none))else((spec_HalfOk.f bA).bind fun aY=>(if aY=true then((spec_l09Act.f bB bC).bind fun aZ=>(if aZ=true then(some (decide ((al.length:Int)≤10)))else(some false)))else(some false)))
def spec_PolicyOk.f (k:Nat) (x:Int) (D:Int) (l:Int) (m:List (S78)):Option (Bool):=spec_PolicyOk.l0 k 0 x D l m
set_option maxHeartbeats 8000000 in
set_option maxRecDepth 100000 in
theorem spec_PolicyOk.calls (k:Nat) (x:Int) (D:Int) (l:Int) (aJ:Option Addr) (aK:Nat) (m:List (S78)) (r:Bool) (w:World) (bD:Kd.C k78 w aJ m.length m) (bF:m.length≤aK) (h:spec_PolicyOk.f k x D l m=some r) :
 Calls Tryz.prog 40 #[.agg #[.int .i64 x,.int .i64 D,.int .i64 l,.slice aJ m.length aK]] w fun e w'=>e= .returned (.bool r)∧Below w.heap.size w w':=by
 have hu26:=Tryz.underlying26;have hu78:=Tryz.underlying78;have HR0_3:=aM bD;have HC0_3:=aM bF;clear bD bF;have HB:=aM (Below.refl w.heap.size w);have H:(spec_PolicyOk.l0 k 0 x D l m)=some r:=h;clear h;have H':=aM H;clear H;go_enter Tryz.func40,Tryz.ntmps40
 go_wp2_with (first|((with_reducible refine gN 1 ?_);(try(refine gate_guard (by rfl) ?_;dsimp only));refine boxZ 1 #[.int .i64 x,.int .i64 D,.int .i64 l,.slice aJ m.length aK] 26 ?_;intro cI hg aG hbox hb;have W:=aM (hbox);have GW994:=gS hg;have GE994:=gS hg;replace HB:=sB hb;clear hb hbox hg))
 go_loopg [3] k (fun kq aT w'=> ∃ (a:Int),aT= .int .i64 a∧Aside0 (spec_PolicyOk.l0 kq a x D l m=some r)∧Aside0 (kq≤k)∧Aside0 (w'.heap[cI]?=some (.cells #[.int .i64 x,.int .i64 D,.int .i64 l,(.slice aJ m.length aK)] 26 (0,0)))∧Aside0 (Below w.heap.size w w'))
 case atStart=>exact⟨(0),rS,H',⟨Nat.le_refl _⟩,⟨mK W⟩,⟨cB⟩⟩
 case round=>
  clear H';obtain⟨a,rfl,HA,HK1,W,HB⟩:=hrel
  cases gk with
  | zero=>exact absurd HA.out (by simp[spec_PolicyOk.l0])
  | succ k1=>
   have H:=HA.out;clear HA;simp only[spec_PolicyOk.l0]at H;by_cases u:a<(m.length:Int)
   ·rw[if_pos u]at H;have ar:=decide_eq_true u;clear u;replace H:=gD H;obtain⟨aU,H⟩:=H;replace H:=bE H;obtain⟨aX,v,H⟩:=H;by_cases I:aX=true
    ·subst I;replace H:=iT H;have H':=aM H;clear H;obtain⟨dM,dN,dO,dP,dQ,dR,dS,dT⟩:=cz4 W;have am:0≤(a:Int):=dA;have an:a<(m.length:Int):=dA;obtain⟨cJ,a0,a1,a2,a3,a4,aA,aB,aC,aD,hl995_0,hi995_0,hl995_1,hi995_1⟩:=at_T78 HR0_3.out a am an;cases a4;replace aA:=(bc HB aA :);replace aB:=(bc HB aB :);replace aC:=(bc HB aC :);replace aD:=(bc HB aD :);have HR995_0:=aM hi995_0;have HC995_0:=aM hl995_0;clear hi995_0 hl995_0;have HR995_1:=aM hi995_1;have HC995_1:=aM hl995_1;clear hi995_1 hl995_1;replace am:=eq_true am;replace an:=eq_true an
     go_wp2_with (first|((with_reducible refine gF 82 ?_);refine goZ (some 16) Tryz.func82 #[.agg #[.slice a0 ((rd_T78 m a).f0).length a1,.slice a2 ((rd_T78 m a).f1).length a3,.int .i64 ((rd_T78 m a).f2),.int .i64 ((rd_T78 m a).f3)]] ?_;(with_reducible refine(spec_l09Rule.calls k1 _ _ ((rd_T78 m a).f0) _ _ ((rd_T78 m a).f1) ((rd_T78 m a).f2) ((rd_T78 m a).f3) true _ ?side1 ?side2 ?side3 ?side4 v.out).mono ?_);(case side1=>exact cC (C_below HR995_0.out HB.out));(case side2=>exact HC995_0.out);(case side3=>exact cC (C_below HR995_1.out HB.out));(case side4=>exact HC995_1.out);rintro e cL ⟨rfl,hb⟩;refine⟨_,rfl,?_⟩;replace W:=kB W hb;replace HB:=sB hb;(try clear hb)))
     go_roundg k1
     case measure=>have:=HK1.out;omega
     case rel=>exact⟨(wrap64 (a+1)),rS,H',⟨by have:=HK1.out;omega⟩,⟨mK W⟩,⟨cB⟩⟩
    ·replace I:=Bool.eq_false_iff.mpr I;subst I;replace H:=iF H;obtain rfl:=Option.some.inj H;obtain⟨dU,dV,dW,dX,dY,dZ,d0,d1⟩:=cz4 W;have am:0≤(a:Int):=dA;have an:a<(m.length:Int):=dA;obtain⟨cJ,a0,a1,a2,a3,a4,aA,aB,aC,aD,hl995_0,hi995_0,hl995_1,hi995_1⟩:=at_T78 HR0_3.out a am an;cases a4;replace aA:=(bc HB aA :);replace aB:=(bc HB aB :);replace aC:=(bc HB aC :);replace aD:=(bc HB aD :);have HR995_0:=aM hi995_0;have HC995_0:=aM hl995_0;clear hi995_0 hl995_0;have HR995_1:=aM hi995_1;have HC995_1:=aM hl995_1;clear hi995_1 hl995_1;replace am:=eq_true am;replace an:=eq_true an
     go_wp2_with (first|((with_reducible refine gF 82 ?_);refine goZ (some 16) Tryz.func82 #[.agg #[.slice a0 ((rd_T78 m a).f0).length a1,.slice a2 ((rd_T78 m a).f1).length a3,.int .i64 ((rd_T78 m a).f2),.int .i64 ((rd_T78 m a).f3)]] ?_;(with_reducible refine(spec_l09Rule.calls k1 _ _ ((rd_T78 m a).f0) _ _ ((rd_T78 m a).f1) ((rd_T78 m a).f2) ((rd_T78 m a).f3) false _ ?side1 ?side2 ?side3 ?side4 v.out).mono ?_);(case side1=>exact cC (C_below HR995_0.out HB.out));(case side2=>exact HC995_0.out);(case side3=>exact cC (C_below HR995_1.out HB.out));(case side4=>exact HC995_1.out);rintro e cM ⟨rfl,hb⟩;refine⟨_,rfl,?_⟩;replace W:=kB W hb;replace HB:=sB hb;(try clear hb)))
     go_ret;exact⟨rE,cB⟩
   ·rw[if_neg u]at H;have ar:=decide_eq_false u;clear u;replace H:=bE H;obtain⟨aY,a5,H⟩:=H;by_cases aL:aY=true
    ·subst aL;replace H:=iT H;replace H:=bE H;obtain⟨aZ,bG,H⟩:=H;by_cases aN:aZ=true
     ·subst aN;replace H:=iT H;obtain rfl:=Option.some.inj H;obtain⟨bg,bh,bi,bj,bk,bl,bm,bn⟩:=cz4 W
      go_wp2_with (first|((with_reducible refine gF 83 ?_);refine goZ (some 20) Tryz.func83 #[.int .i64 x] ?_;(with_reducible refine(spec_HalfOk.calls x true _ a5.out).mono ?_);rintro e w' ⟨rfl,⟨nd,rfl⟩⟩;refine⟨_,rfl,?_⟩)|(go_at_call 84;(with_reducible refine(spec_l09Act.calls D l true _ bG.out).mono ?_);rintro e w' ⟨rfl,⟨nd,rfl⟩⟩))
      go_ret;exact⟨rE,cB⟩
     ·replace aN:=Bool.eq_false_iff.mpr aN;subst aN;replace H:=iF H;obtain rfl:=Option.some.inj H;obtain⟨bo,bp,bq,br,bs,bu,bv,bw⟩:=cz4 W
      go_wp2_with (first|((with_reducible refine gF 83 ?_);refine goZ (some 20) Tryz.func83 #[.int .i64 x] ?_;(with_reducible refine(spec_HalfOk.calls x true _ a5.out).mono ?_);rintro e w' ⟨rfl,⟨nd,rfl⟩⟩;refine⟨_,rfl,?_⟩)|(go_at_call 84;(with_reducible refine(spec_l09Act.calls D l false _ bG.out).mono ?_);rintro e w' ⟨rfl,⟨nd,rfl⟩⟩))
      go_ret;exact⟨rE,cB⟩
    ·replace aL:=Bool.eq_false_iff.mpr aL;subst aL;replace H:=iF H;obtain rfl:=Option.some.inj H;obtain⟨d2,d3,d4,d5,d6,d7,d8,d9⟩:=cz4 W
     go_wp2_with (first|((with_reducible refine gF 83 ?_);refine goZ (some 20) Tryz.func83 #[.int .i64 x] ?_;(with_reducible refine(spec_HalfOk.calls x false _ a5.out).mono ?_);rintro e w' ⟨rfl,⟨nd,rfl⟩⟩;refine⟨_,rfl,?_⟩))
     go_ret;exact⟨rE,cB⟩
def spec_l11Place.f (x:ByteArray) (D:Int) (l:Int) (s:Int) (ay:Int) (aO:ByteArray) (aP:ByteArray):Option (Bool):=some (D == 0 && (l == 0 && (s == 0 && (ay == 0))))
set_option maxHeartbeats 8000000 in
set_option maxRecDepth 100000 in
theorem spec_l11Place.calls (x:ByteArray) (D:Int) (l:Int) (s:Int) (ay:Int) (aO:ByteArray) (aP:ByteArray) (r:Bool) (w:World) (h:spec_l11Place.f x D l s ay aO aP=some r) :
 Calls Tryz.prog 112 #[.agg #[.string x,.int .i64 D,.int .i64 l,.int .i64 s,.int .i64 ay,.string aO,.string aP]] w fun e w'=>e= .returned (.bool r)∧Below w.heap.size w w':=by
 have hu86:=Tryz.underlying86;have hu71:=Tryz.underlying71;have HB:=aM (Below.refl w.heap.size w);have H:(some (D == 0 && (l == 0 && (s == 0 && (ay == 0)))))=some r:=h;clear h;obtain rfl:=Option.some.inj H;go_enter Tryz.func112,Tryz.ntmps112
 go_wp2_with (first|((with_reducible refine gN 1 ?_);refine boxZ 1 #[.string x,.int .i64 D,.int .i64 l,.int .i64 s,.int .i64 ay,.string aO,.string aP] 86 ?_;intro ea hg aG hbox hb;have cN:=aM (hbox);have GW999:=gS hg;have GE999:=gS hg;replace HB:=sB hb;clear hb hbox hg;obtain⟨eb,ec,ed,ee,ef,eg,eh,ei,ej,ek,el,em,en,eo⟩:=cz7 cN))
 go_ret;exact⟨rE,cB⟩
def spec_l11At.l0:Nat→List (S86)→ByteArray→Int→Option (Int)
  | 0,_,_,_=>none
  | k+1,ad,a6,O=>if O<(ad.length:Int)then(if 0≤O then((spec_l11Place.f ((rd_T86 ad O).f0) ((rd_T86 ad O).f1.f0) ((rd_T86 ad O).f1.f1) ((rd_T86 ad O).f1.f2) ((rd_T86 ad O).f1.f3) ((rd_T86 ad O).f2) ((rd_T86 ad O).f3)).bind fun a7=>(if a7=true then(if((rd_T86 ad O).f0).toList=a6.toList then(some O)else(spec_l11At.l0 k ad a6 (wrap64 (O+1))))else(spec_l11At.l0 k ad a6 (wrap64 (O+1)))))else(none))else(some (-1))
def spec_l11At.f (k:Nat) (g:List (S86)) (ao:ByteArray):Option (Int):=spec_l11At.l0 k g ao 0
set_option maxHeartbeats 8000000 in
set_option maxRecDepth 100000 in
theorem spec_l11At.calls (k:Nat) (bH:Option Addr) (bI:Nat) (g:List (S86)) (ao:ByteArray) (r:Int) (w:World) (bJ:Kd.C k86 w bH g.length g) (bL:g.length≤bI) (h:spec_l11At.f k g ao=some r) :
 Calls Tryz.prog 113 #[.slice bH g.length bI,.string ao] w fun e w'=>e= .returned (.int .i64 r)∧Below w.heap.size w w':=by
 have hu86:=Tryz.underlying86;have HR0:=aM bJ;have HC0:=aM bL;clear bJ bL;have HB:=aM (Below.refl w.heap.size w);have H:(spec_l11At.l0 k g ao 0)=some r:=h;clear h;have H':=aM H;clear H;go_enter Tryz.func113,Tryz.ntmps113;go_wp2
 go_loopg [5] k (fun kq cO w'=> ∃ (c:Int),cO= .int .i64 c∧Aside0 (spec_l11At.l0 kq g ao c=some r)∧Aside0 (kq≤k)∧Aside0 (Below w.heap.size w w'))
 case atStart=>exact⟨(0),rS,H',⟨Nat.le_refl _⟩,⟨cB⟩⟩
 case round=>
  clear H';obtain⟨c,rfl,HA,HK1,HB⟩:=hrel
  cases gk with
  | zero=>exact absurd HA.out (by simp[spec_l11At.l0])
  | succ k1=>
   have H:=HA.out;clear HA;simp only[spec_l11At.l0]at H;by_cases u:c<(g.length:Int)
   ·rw[if_pos u]at H;have ar:=decide_eq_true u;clear u;replace H:=gD H;obtain⟨aU,H⟩:=H;replace H:=bE H;obtain⟨a7,v,H⟩:=H;by_cases I:a7=true
    ·subst I;replace H:=iT H;by_cases M:((rd_T86 g c).f0).toList=ao.toList
     ·rw[if_pos M]at H;obtain⟨aH,cP⟩:=eT M;clear M;obtain rfl:=Option.some.inj H;obtain⟨bM,bN,aQ,aE,bO,bP,bQ,bR,bS,bT,bU⟩:=b7 HB (at_T86 HR0.out c);cases aE
      go_wp2_with (first|((with_reducible refine gF 112 ?_);refine goZ (some 16) Tryz.func112 #[.agg #[.string ((rd_T86 g c).f0),.int .i64 ((rd_T86 g c).f1.f0),.int .i64 ((rd_T86 g c).f1.f1),.int .i64 ((rd_T86 g c).f1.f2),.int .i64 ((rd_T86 g c).f1.f3),.string ((rd_T86 g c).f2),.string ((rd_T86 g c).f3)]] ?_;(with_reducible refine(spec_l11Place.calls ((rd_T86 g c).f0) ((rd_T86 g c).f1.f0) ((rd_T86 g c).f1.f1) ((rd_T86 g c).f1.f2) ((rd_T86 g c).f1.f3) ((rd_T86 g c).f2) ((rd_T86 g c).f3) true _ v.out).mono ?_);rintro e cL ⟨rfl,hb⟩;refine⟨_,rfl,?_⟩;replace HB:=sB hb;(try clear hb);obtain⟨cQ,cR,a8,a9,cS,cT,cU,cV,cW,cX,cY⟩:=b7 HB (at_T86 HR0.out c);obtain rfl:aQ=a8:=(by injection a9)))
      go_ret;exact⟨rE,cB⟩
     ·rw[if_neg M]at H;obtain⟨aH,cP⟩:=eF M;have H':=aM H;clear H;obtain⟨bM,bN,aQ,aE,bO,bP,bQ,bR,bS,bT,bU⟩:=b7 HB (at_T86 HR0.out c);cases aE
      go_wp2_with (first|((with_reducible refine gF 112 ?_);refine goZ (some 16) Tryz.func112 #[.agg #[.string ((rd_T86 g c).f0),.int .i64 ((rd_T86 g c).f1.f0),.int .i64 ((rd_T86 g c).f1.f1),.int .i64 ((rd_T86 g c).f1.f2),.int .i64 ((rd_T86 g c).f1.f3),.string ((rd_T86 g c).f2),.string ((rd_T86 g c).f3)]] ?_;(with_reducible refine(spec_l11Place.calls ((rd_T86 g c).f0) ((rd_T86 g c).f1.f0) ((rd_T86 g c).f1.f1) ((rd_T86 g c).f1.f2) ((rd_T86 g c).f1.f3) ((rd_T86 g c).f2) ((rd_T86 g c).f3) true _ v.out).mono ?_);rintro e ep ⟨rfl,hb⟩;refine⟨_,rfl,?_⟩;replace HB:=sB hb;(try clear hb);obtain⟨cQ,cR,a8,a9,cS,cT,cU,cV,cW,cX,cY⟩:=b7 HB (at_T86 HR0.out c);obtain rfl:aQ=a8:=(by injection a9)))
      go_roundg k1
      case measure=>have:=HK1.out;omega
      case rel=>exact⟨(wrap64 (c+1)),rS,H',⟨by have:=HK1.out;omega⟩,⟨cB⟩⟩
    ·replace I:=Bool.eq_false_iff.mpr I;subst I;replace H:=iF H;have H':=aM H;clear H;obtain⟨bM,bN,aQ,aE,bO,bP,bQ,bR,bS,bT,bU⟩:=b7 HB (at_T86 HR0.out c);cases aE
     go_wp2_with (first|((with_reducible refine gF 112 ?_);refine goZ (some 16) Tryz.func112 #[.agg #[.string ((rd_T86 g c).f0),.int .i64 ((rd_T86 g c).f1.f0),.int .i64 ((rd_T86 g c).f1.f1),.int .i64 ((rd_T86 g c).f1.f2),.int .i64 ((rd_T86 g c).f1.f3),.string ((rd_T86 g c).f2),.string ((rd_T86 g c).f3)]] ?_;(with_reducible refine(spec_l11Place.calls ((rd_T86 g c).f0) ((rd_T86 g c).f1.f0) ((rd_T86 g c).f1.f1) ((rd_T86 g c).f1.f2) ((rd_T86 g c).f1.f3) ((rd_T86 g c).f2) ((rd_T86 g c).f3) false _ v.out).mono ?_);rintro e cM ⟨rfl,hb⟩;refine⟨_,rfl,?_⟩;replace HB:=sB hb;(try clear hb)))
     go_roundg k1
     case measure=>have:=HK1.out;omega
     case rel=>exact⟨(wrap64 (c+1)),rS,H',⟨by have:=HK1.out;omega⟩,⟨cB⟩⟩
   ·rw[if_neg u]at H;have ar:=decide_eq_false u;clear u;obtain rfl:=Option.some.inj H;go_wp2;go_ret;exact⟨rE,cB⟩
end Go.Proofs.YtpbalojiaghfhaaGreat.PFnExactCompile
