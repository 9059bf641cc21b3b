import Derived.Test.YtfhjjfibblcklaaPFnExactReadPolicyy0
import Derived.Test.YtfhjjfibblcklaaPFnExactReadPolicyy10
namespace Go.Proofs.Ytfhjjfibblcklaa.PFnExactReadPolicy
open Go.RowKit Go.Proofs.YtfhjjfibblcklaaW.PrintWords Go.Proofs.YtfhjjfibblcklaaW.PrintLast Go.Proofs.YtfhjjfibblcklaaW.PrintMore Go.Proofs.YtfhjjfibblcklaaW.Z
open Kd
attribute [local go_sem] isS max2_int min2_int max_two min_two max_three min_three max_four min_four
set_option linter.unusedVariables false
set_option linter.unusedSimpArgs false
mutual
def impl_SignsOf.l0:Nat→ByteArray→List (S54)→Int→Option ((List (S54))×Bool)
  | 0,_,_,_=>none
  | k+1,r,z,n=>if n<(r.size:Int)then(if 0≤n then(if(bt r n)=32 then(impl_SignsOf.j1 k r z n (wrap64 (n+1)) true)else(impl_SignsOf.j1 k r z n (wrap64 (n+1)) ((bt r n) == 10)))else(none))else(some (z,true))
def impl_SignsOf.j1:Nat→ByteArray→List (S54)→Int→Int→Bool→Option ((List (S54))×Bool)
  | 0,_,_,_,_,_=>none
  | k+1,r,z,n,X,bM=>if bM=true then(impl_SignsOf.l0 k r z X)else(if 0≤n then(if n<(r.size:Int)then((impl_isLetter.f (bt r n)).bind fun a3=>(if a3=true then((impl_runOf_35.f k r n ()).bind fun D=>(if(wrap64 (D - n))>12 then(some ((([] :List (S54))),false))else(if n≤D then(if D≤(r.size:Int)then(if z.length<4398046511104 then(impl_SignsOf.l0 k r (z ++ [(⟨1,r.extract (n:Int).toNat (D:Int).toNat,0⟩ :S54)]) D)else(none))else(none))else(none))))else((impl_isFigure.f (bt r n)).bind fun a4=>(if a4=true then((impl_runOf_37.f k r n ()).bind fun L=>(impl_SignsOf.l1 k r z n L 0 n))else((impl_markAt.f k r n).bind fun U=>(if U.toList=([] :List UInt8)then(some ((([] :List (S54))),false))else(if z.length<4398046511104 then(impl_SignsOf.l0 k r (z ++ [(⟨3,U,0⟩ :S54)]) (wrap64 (n+(U.size:Int))))else(none))))))))else(none))else(none))
def impl_SignsOf.l1:Nat→ByteArray→List (S54)→Int→Int→Int→Int→Option ((List (S54))×Bool)
  | 0,_,_,_,_,_,_=>none
  | k+1,r,z,n,X,ay,az=>if az<X then(if(wrap64 (X - n))≤10 then(if 0≤az then(if az<(r.size:Int)then(impl_SignsOf.l1 k r z n X (wrap64 ((wrap64 (10*ay))+(((bt r az) - 48) % 256))) (wrap64 (az+1)))else(none))else(none))else(if(wrap64 (X - n))>10 then(some ((([] :List (S54))),false))else(if ay>4294967295 then(some ((([] :List (S54))),false))else(if z.length<4398046511104 then(impl_SignsOf.l0 k r (z ++ [(⟨2,(⟨#[]⟩ :ByteArray),ay⟩ :S54)]) X)else(none)))))else(if(wrap64 (X - n))>10 then(some ((([] :List (S54))),false))else(if ay>4294967295 then(some ((([] :List (S54))),false))else(if z.length<4398046511104 then(impl_SignsOf.l0 k r (z ++ [(⟨2,(⟨#[]⟩ :ByteArray),ay⟩ :S54)]) X)else(none))))
end
def impl_SignsOf.f (k:Nat) (c:ByteArray):Option ((List (S54))×Bool):=if(c.size:Int)>1200 then(some ((([] :List (S54))),false))else(impl_SignsOf.l0 k c (([] :List (S54))) 0)
set_option maxHeartbeats 8000000 in
set_option maxRecDepth 100000 in
theorem impl_SignsOf.calls {k:Nat}{c:ByteArray}{r1:List (S54)}{r2:Bool}{w:World}(h:impl_SignsOf.f k c=some (r1,r2)) :
 Calls Try.prog 15 #[.string c] w fun e w'=> ∃ v0_:Value,e= .returned (.tuple #[v0_,.bool r2])∧Kd.R k54 54 w' w.heap.size (fun _=>True) v0_ r1∧Below w.heap.size w w':=by
 have hu54:=Try.underlying54;have HB:=rW w;have H:(if(c.size:Int)>1200 then(some ((([] :List (S54))),false))else(impl_SignsOf.l0 k c (([] :List (S54))) 0))=some (r1,r2):=h;clear h;by_cases Y:(c.size:Int)>1200
 ·rw[if_pos Y]at H;have aU:decide (1200<(c.size:Int))=true:=decide_eq_true Y
  have aV:decide (1200<c.size)=true:=decide_eq_true (by omega)
  clear Y;obtain⟨cP,a5⟩ : ∃ y_:List (S54),Aside0 (y_=(([] :List (S54)))):=⟨_,⟨rfl⟩⟩;rw[← a5.out]at H;simp only[Option.some.injEq,Prod.mk.injEq]at H;obtain⟨rfl,rfl⟩:=H;go_enter Try.func15,Try.ntmps15
  go_wp2_with (first|((with_reducible refine gN 13 ?_);refine R_lit k54 _ 54 ?hg (N:=13) ?hd (xs:=([] :List (S54))) (inner:=[]) (ok:=fun _=>True) (okp:=fun _=>True) ?hr ?hp (fun _ hk=>hk) trivial (Below.refl _ _) (Nat.le_refl _) (by simp) ?_;(case hd=>rfl);(case hg=>rfl);(case hr=>exact rG);(case hp=>exact(Reps.none _ _));intro cQ cR aA hb hg_ hnew_;clear hg_ hnew_;(first|rw[← a5.out]at aA|(simp only[Int.reduceToNat]at aA;rw[← a5.out]at aA));have bN:=rL aA;replace HB:=sB hb;clear hb aA))
  go_ret2;exact⟨_,rE,mR bN,cB⟩
 ·rw[if_neg Y]at H;have aU:decide (1200<(c.size:Int))=false:=decide_eq_false Y
  have aV:decide (1200<c.size)=false:=decide_eq_false (by omega)
  clear Y;obtain⟨bO,a6⟩ : ∃ y_:List (S54),Aside0 (y_=(([] :List (S54)))):=⟨_,⟨rfl⟩⟩;rw[← a6.out]at H;have H':=aM H;clear H;go_enter Try.func15,Try.ntmps15
  go_wp2_with (first|((with_reducible refine gN 14 ?_);refine R_lit k54 _ 54 ?hg (N:=14) ?hd (xs:=([] :List (S54))) (inner:=[]) (ok:=fun _=>True) (okp:=fun _=>True) ?hr ?hp (fun _ hk=>hk) trivial (Below.refl _ _) (Nat.le_refl _) (by simp) ?_;(case hd=>rfl);(case hg=>rfl);(case hr=>exact rG);(case hp=>exact(Reps.none _ _));intro cS cT aC hb hg_ hnew_;clear hg_ hnew_;(first|rw[← a6.out]at aC|(simp only[Int.reduceToNat]at aC;rw[← a6.out]at aC));have bP:=rL aC;replace HB:=sB hb;clear hb aC))
  go_loopg [4,5] k (fun kq bQ bR w'=> ∃ (G:List (S54)) (b:Int),bR= .int .i64 b∧Aside0 (impl_SignsOf.l0 kq c G b=some (r1,r2))∧Aside0 (kq≤k)∧Aside0 (Kd.R k54 54 w' w.heap.size (fun _=>True) bQ G)∧Aside0 (Below w.heap.size w w'))
  case atStart=>exact⟨(bO),(0),rS,H',⟨Nat.le_refl _⟩,⟨mR bP⟩,⟨cB⟩⟩
  case round=>
   clear H';(try clear Y);(try clear aU);(try clear aV);obtain⟨G,b,rfl,HA,HK1,i,HB⟩:=hrel
   cases gk with
   | zero=>exact absurd HA.out (by simp[impl_SignsOf.l0])
   | succ k1=>
    have H:=HA.out;clear HA;simp only[impl_SignsOf.l0]at H;by_cases ad:b<(c.size:Int)
    ·rw[if_pos ad]at H;have a7:=decide_eq_true ad;clear ad;have HC8:=aM H;clear H
     go_upto_region 12 with(fail)
     go_cut [36] (fun bS wc=> ∃ (kq:Nat) (aW:Bool),bS= .bool aW∧Aside0 (impl_SignsOf.j1 kq c G b (wrap64 (b+1)) aW=some (r1,r2))∧Aside0 (kq≤k1)∧Aside0 (Kd.R k54 54 wc w.heap.size (fun _=>True) u4 G)∧Aside0 (Below w.heap.size w wc))
     case first=>
      have H:=HC8.out;clear HC8;replace H:=gD H;obtain⟨aX,H⟩:=H
      (first|rw[aX]|(simp only[i64_w,i32_w];rw[aX])|skip)
      by_cases ae:(bt c b)=32
      ·rw[if_pos ae]at H;obtain⟨a8,a9⟩:=eT ae;clear ae;have H':=aM H;clear H;have af:0≤(b:Int):=dA;have ag:b<(c.size:Int):=dA;have ba:=bt_at c b;replace af:=eq_true af;replace ag:=eq_true ag;go_wp2;go_meet
       case rel=>exact⟨_,(true),rS,H',⟨by have:=HK1.out;first|omega|exact Nat.le_refl _⟩,⟨mR i⟩,⟨cB⟩⟩
      ·rw[if_neg ae]at H;obtain⟨a8,a9⟩:=eF ae;have H':=aM H;clear H;have af:0≤(b:Int):=dA;have ag:b<(c.size:Int):=dA;have ba:=bt_at c b;replace af:=eq_true af;replace ag:=eq_true ag;have aY:0≤(b:Int):=dA;have aZ:b<(c.size:Int):=dA;have bo:=bt_at c b;replace aY:=eq_true aY;replace aZ:=eq_true aZ;go_wp2;go_meet
       case rel=>exact⟨_,(((bt c b) == 10)),rS,H',⟨by have:=HK1.out;first|omega|exact Nat.le_refl _⟩,⟨mR i⟩,⟨cB⟩⟩
     case rest=>
      clear HC8;(try clear Y);(try clear aU);(try clear aV);(try clear ad);(try clear a7);(try clear bT);(try clear aX);(try clear af);(try clear ag);(try clear ba);(try clear ae);(try clear a8);(try clear a9);(try clear aY);(try clear aZ);(try clear bo);obtain⟨kq,aW,rfl,HA,HJ7,i,HB⟩:=hcut
      cases kq with
      | zero=>exact absurd HA.out (by simp[impl_SignsOf.j1])
      | succ kj7=>
       have H:=HA.out;clear HA;simp only[impl_SignsOf.j1]at H;by_cases aD:aW=true
       ·subst aD;replace H:=iT H;have H':=aM H;clear H;go_wp2;go_roundg kj7
        case measure=>have:=HK1.out;have:=HJ7.out;omega
        case rel=>exact⟨(G),((wrap64 (b+1))),rS,H',⟨by have:=HK1.out;have:=HJ7.out;omega⟩,⟨mR i⟩,⟨cB⟩⟩
       ·replace aD:=Bool.eq_false_iff.mpr aD;subst aD;replace H:=iF H;replace H:=gD H;obtain⟨bU,H⟩:=H;replace H:=gD H;obtain⟨bV,H⟩:=H;replace H:=bE H;obtain⟨a3,aE,H⟩:=H;by_cases aG:a3=true
        ·subst aG;replace H:=iT H;replace H:=bE H;obtain⟨D,bp,H⟩:=H;by_cases ah:(wrap64 (D - b))>12
         ·rw[if_pos ah]at H;have bq:decide (12<(wrap64 (D - b)))=true:=decide_eq_true ah;clear ah;obtain⟨cU,bb⟩ : ∃ y_:List (S54),Aside0 (y_=(([] :List (S54)))):=⟨_,⟨rfl⟩⟩;rw[← bb.out]at H;simp only[Option.some.injEq,Prod.mk.injEq]at H;obtain⟨rfl,rfl⟩:=H;have I:0≤(b:Int):=dA;have J:b<(c.size:Int):=dA;have aH:=bt_at c b;replace I:=eq_true I;replace J:=eq_true J
          go_wp2_with (first|((with_reducible refine gF 35 ?_);refine gX (some 51) Try.func35 (impl_isLetter.calls aE.out) ?_;rintro w' ⟨nd,rfl⟩)|((with_reducible refine gF 36 ?_);refine gX (some 54) Try.func36 (impl_runOf_35.calls bp.out) ?_;rintro w' ⟨nd,rfl⟩)|((with_reducible refine gN 59 ?_);refine R_lit k54 _ 54 ?hg (N:=59) ?hd (xs:=([] :List (S54))) (inner:=[]) (ok:=fun _=>True) (okp:=fun _=>True) ?hr ?hp (fun _ hk=>hk) trivial (Below.refl _ _) (Nat.le_refl _) (by simp) ?_;(case hd=>rfl);(case hg=>rfl);(case hr=>exact rG);(case hp=>exact(Reps.none _ _));intro cV cW ak hb hg_ hnew_;clear hg_ hnew_;(first|rw[← bb.out]at ak|(simp only[Int.reduceToNat]at ak;rw[← bb.out]at ak));have bW:=aM (R_lower (R_new' ak (R_lt (mR i))) (below_size cB));replace i:=eB i (R_base ak) hb;replace HB:=sB hb;clear hb ak))
          go_ret2
          exact⟨_,rE,by(with_reducible repeat(first|apply R_alloc|apply R_drewN|apply R_drew));exact R_mono bW.out (fun _ hk=>trivial),cB⟩
         ·rw[if_neg ah]at H;have bq:decide (12<(wrap64 (D - b)))=false:=decide_eq_false ah;clear ah;have bX:=eq_true (dA:0≤b);replace H:=gC H;obtain⟨a0,H⟩:=H;have bY:=eq_true a0;have bZ:decide (b≤D)=true:=decide_eq_true a0;clear a0;replace H:=gC H;obtain⟨a1,H⟩:=H;have b0:=eq_true a1;have b1:decide (D≤(c.size:Int))=true:=decide_eq_true a1;clear a1;replace H:=gC H;obtain⟨bd,H⟩:=H;have b5:=aM bd;clear bd;obtain⟨b8,br⟩ : ∃ y_:List (S54),Aside0 (y_=(G ++ [(⟨1,c.extract (b:Int).toNat (D:Int).toNat,0⟩ :S54)])):=⟨_,⟨rfl⟩⟩;rw[← br.out]at H;have H':=aM H;clear H;have I:0≤(b:Int):=dA;have J:b<(c.size:Int):=dA;have aH:=bt_at c b;replace I:=eq_true I;replace J:=eq_true J
          go_wp2_with (first|((with_reducible refine gF 35 ?_);refine gX (some 51) Try.func35 (impl_isLetter.calls aE.out) ?_;rintro w' ⟨nd,rfl⟩)|((with_reducible refine gF 36 ?_);refine gX (some 54) Try.func36 (impl_runOf_35.calls bp.out) ?_;rintro w' ⟨nd,rfl⟩)|((with_reducible refine gA 60 66 ?_);at_builtin;refine R_append k54 (w0:=w) w.heap.size rfl (.tmp 60) (.tmp 66) 30 54 (.agg #[(.int .i64 0),(.string ⟨#[]⟩),(.int .i64 0)]) 32 rfl Try.underlying30 info54 rfl (by decide) (by omega) u4 G (⟨1,c.extract (b:Int).toNat (D:Int).toNat,0⟩ :S54) [.int .i64 1,.string (c.extract (b:Int).toNat (D:Int).toNat),.int .i64 0] (fun _=>True) (fun _=>False) rfl rfl ?aP (fun _ hk=>hk.elim) ?aF ?aO ?aB ?aS ?aL ?_;(case aP=>exact k54_mkM _ _ _ (⟨1,c.extract (b:Int).toNat (D:Int).toNat,0⟩ :S54));(case aB=>exact cB);(case aF=>exact(fun _ _=>trivial));(case aO=>exact(mR i));(case aS=>exact(below_size cB));(case aL=>have:=b5.out;omega);intro cX cY ho hb hg hat;rw[← br.out]at ho;replace HB:=aM hb;have b9:=aM ho;clear i ho hb hg hat))
          go_roundg kj7
          case measure=>have:=HK1.out;have:=HJ7.out;omega
          case rel=>exact⟨(b8),(D),rS,H',⟨by have:=HK1.out;have:=HJ7.out;omega⟩,⟨mR b9⟩,⟨cB⟩⟩
        ·replace aG:=Bool.eq_false_iff.mpr aG;subst aG;replace H:=iF H;replace H:=bE H;obtain⟨a4,be,H⟩:=H;by_cases aI:a4=true
         ·subst aI;replace H:=iT H;replace H:=bE H;obtain⟨L,ca,H⟩:=H;have H':=aM H;clear H;have I:0≤(b:Int):=dA;have J:b<(c.size:Int):=dA;have aH:=bt_at c b;replace I:=eq_true I;replace J:=eq_true J
          go_wp2_with (first|((with_reducible refine gF 35 ?_);refine gX (some 51) Try.func35 (impl_isLetter.calls aE.out) ?_;rintro w' ⟨nd,rfl⟩;have aa:0≤(b:Int):=dA;have ab:b<(c.size:Int):=dA;have bf:=bt_at c b;replace aa:=eq_true aa;replace ab:=eq_true ab)|((with_reducible refine gF 37 ?_);refine gX (some 72) Try.func37 (impl_isFigure.calls be.out) ?_;rintro w' ⟨nd,rfl⟩)|((with_reducible refine gF 36 ?_);refine gX (some 75) Try.func36 (impl_runOf_37.calls ca.out) ?_;rintro w' ⟨nd,rfl⟩))
          go_loopg [7,8] kj7 (fun kq cb cc w'=> ∃ (y:Int) (ac:Int),cb= .int .i64 y∧cc= .int .i64 ac∧Aside0 (impl_SignsOf.l1 kq c G b L y ac=some (r1,r2))∧Aside0 (kq≤kj7)∧Aside0 (Kd.R k54 54 w' w.heap.size (fun _=>True) u4 G)∧Aside0 (Below w.heap.size w w'))
          case atStart=>exact⟨(0),(b),rS,rS,H',⟨Nat.le_refl _⟩,⟨mR i⟩,⟨cB⟩⟩
          case round=>
           clear H';(try clear Y);(try clear aU);(try clear aV);(try clear ad);(try clear a7);(try clear bT);(try clear aX);(try clear af);(try clear ag);(try clear ba);(try clear ae);(try clear a8);(try clear a9);(try clear aY);(try clear aZ);(try clear bo);(try clear aD);(try clear cZ);(try clear bU);(try clear c0);(try clear bV);(try clear I);(try clear J);(try clear aH);(try clear aG);(try clear ah);(try clear bq);(try clear bX);(try clear a0);(try clear bY);(try clear bZ);(try clear a1);(try clear b0);(try clear b1);(try clear bd);(try clear aa);(try clear ab);(try clear bf);(try clear aI);obtain⟨y,ac,rfl,rfl,HA,HK3,i,HB⟩:=hrel
           cases gk with
           | zero=>exact absurd HA.out (by simp[impl_SignsOf.l1])
           | succ k3=>
            have H:=HA.out;clear HA;simp only[impl_SignsOf.l1]at H;by_cases al:ac<L
            ·rw[if_pos al]at H;have cd:=decide_eq_true al;clear al;by_cases am:(wrap64 (L - b))≤10
             ·rw[if_pos am]at H;have ce:=decide_eq_true am;clear am;replace H:=gD H;obtain⟨c1,H⟩:=H;replace H:=gD H;obtain⟨c2,H⟩:=H;have H':=aM H;clear H;have bs:0≤(ac:Int):=dA;have bu:ac<(c.size:Int):=dA;have c3:=bt_at c ac;replace bs:=eq_true bs;replace bu:=eq_true bu;go_wp2;go_roundg k3
              case measure=>have:=HK1.out;have:=HJ7.out;have:=HK3.out;omega
              case rel=>exact⟨(wrap64 ((wrap64 (10*y))+(((bt c ac) - 48) % 256))),(wrap64 (ac+1)),rS,rS,H',⟨by have:=HK1.out;have:=HJ7.out;have:=HK3.out;omega⟩,⟨mR i⟩,⟨cB⟩⟩
             ·rw[if_neg am]at H;have ce:=decide_eq_false am;clear am;by_cases an:(wrap64 (L - b))>10
              ·rw[if_pos an]at H;have cf:decide (10<(wrap64 (L - b)))=true:=decide_eq_true an;clear an;obtain⟨c5,bg⟩ : ∃ y_:List (S54),Aside0 (y_=(([] :List (S54)))):=⟨_,⟨rfl⟩⟩;rw[← bg.out]at H;simp only[Option.some.injEq,Prod.mk.injEq]at H;obtain⟨rfl,rfl⟩:=H
               go_wp2_with (first|((with_reducible refine gN 104 ?_);refine R_lit k54 _ 54 ?hg (N:=104) ?hd (xs:=([] :List (S54))) (inner:=[]) (ok:=fun _=>True) (okp:=fun _=>True) ?hr ?hp (fun _ hk=>hk) trivial (Below.refl _ _) (Nat.le_refl _) (by simp) ?_;(case hd=>rfl);(case hg=>rfl);(case hr=>exact rG);(case hp=>exact(Reps.none _ _));intro c6 c7 ao hb hg_ hnew_;clear hg_ hnew_;(first|rw[← bg.out]at ao|(simp only[Int.reduceToNat]at ao;rw[← bg.out]at ao));have cg:=aM (R_lower (R_new' ao (R_lt (mR i))) (below_size cB));replace i:=eB i (R_base ao) hb;replace HB:=sB hb;clear hb ao))
               go_ret2
               exact⟨_,rE,by(with_reducible repeat(first|apply R_alloc|apply R_drewN|apply R_drew));exact R_mono cg.out (fun _ hk=>trivial),cB⟩
              ·rw[if_neg an]at H;have cf:decide (10<(wrap64 (L - b)))=false:=decide_eq_false an;clear an;by_cases ap:y>4294967295
               ·rw[if_pos ap]at H;have ch:decide (4294967295<y)=true:=decide_eq_true ap;clear ap;obtain⟨c9,bh⟩ : ∃ y_:List (S54),Aside0 (y_=(([] :List (S54)))):=⟨_,⟨rfl⟩⟩;rw[← bh.out]at H;simp only[Option.some.injEq,Prod.mk.injEq]at H;obtain⟨rfl,rfl⟩:=H
                go_wp2_with (first|((with_reducible refine gN 104 ?_);refine R_lit k54 _ 54 ?hg (N:=104) ?hd (xs:=([] :List (S54))) (inner:=[]) (ok:=fun _=>True) (okp:=fun _=>True) ?hr ?hp (fun _ hk=>hk) trivial (Below.refl _ _) (Nat.le_refl _) (by simp) ?_;(case hd=>rfl);(case hg=>rfl);(case hr=>exact rG);(case hp=>exact(Reps.none _ _));intro da db aq hb hg_ hnew_;clear hg_ hnew_;(first|rw[← bh.out]at aq|(simp only[Int.reduceToNat]at aq;rw[← bh.out]at aq));have ci:=aM (R_lower (R_new' aq (R_lt (mR i))) (below_size cB));replace i:=eB i (R_base aq) hb;replace HB:=sB hb;clear hb aq))
                go_ret2
                exact⟨_,rE,by(with_reducible repeat(first|apply R_alloc|apply R_drewN|apply R_drew));exact R_mono ci.out (fun _ hk=>trivial),cB⟩
               ·rw[if_neg ap]at H;have ch:decide (4294967295<y)=false:=decide_eq_false ap;clear ap;replace H:=gC H;obtain⟨bv,H⟩:=H;have cj:=aM bv;clear bv;obtain⟨ck,bw⟩ : ∃ y_:List (S54),Aside0 (y_=(G ++ [(⟨2,(⟨#[]⟩ :ByteArray),y⟩ :S54)])):=⟨_,⟨rfl⟩⟩;rw[← bw.out]at H;have H':=aM H;clear H
                go_wp2_with (first|((with_reducible refine gA 105 108 ?_);at_builtin;refine R_append k54 (w0:=w) w.heap.size rfl (.tmp 105) (.tmp 108) 30 54 (.agg #[(.int .i64 0),(.string ⟨#[]⟩),(.int .i64 0)]) 32 rfl Try.underlying30 info54 rfl (by decide) (by omega) u4 G (⟨2,(⟨#[]⟩ :ByteArray),y⟩ :S54) [.int .i64 2,.string (⟨#[]⟩ :ByteArray),.int .i64 y] (fun _=>True) (fun _=>False) rfl rfl ?aP (fun _ hk=>hk.elim) ?aF ?aO ?aB ?aS ?aL ?_;(case aP=>exact k54_mkM _ _ _ (⟨2,(⟨#[]⟩ :ByteArray),y⟩ :S54));(case aB=>exact cB);(case aF=>exact(fun _ _=>trivial));(case aO=>exact(mR i));(case aS=>exact(below_size cB));(case aL=>have:=cj.out;omega);intro dc dd ho hb hg hat;rw[← bw.out]at ho;replace HB:=aM hb;have cl:=aM ho;clear i ho hb hg hat))
                go_roundg k3
                case measure=>have:=HK1.out;have:=HJ7.out;have:=HK3.out;omega
                case rel=>exact⟨(ck),(L),rS,H',⟨by have:=HK1.out;have:=HJ7.out;have:=HK3.out;omega⟩,⟨mR cl⟩,⟨cB⟩⟩
            ·rw[if_neg al]at H;have cd:=decide_eq_false al;clear al;by_cases ar:(wrap64 (L - b))>10
             ·rw[if_pos ar]at H;have cm:decide (10<(wrap64 (L - b)))=true:=decide_eq_true ar;clear ar;obtain⟨de,bi⟩ : ∃ y_:List (S54),Aside0 (y_=(([] :List (S54)))):=⟨_,⟨rfl⟩⟩;rw[← bi.out]at H;simp only[Option.some.injEq,Prod.mk.injEq]at H;obtain⟨rfl,rfl⟩:=H
              go_wp2_with (first|((with_reducible refine gN 104 ?_);refine R_lit k54 _ 54 ?hg (N:=104) ?hd (xs:=([] :List (S54))) (inner:=[]) (ok:=fun _=>True) (okp:=fun _=>True) ?hr ?hp (fun _ hk=>hk) trivial (Below.refl _ _) (Nat.le_refl _) (by simp) ?_;(case hd=>rfl);(case hg=>rfl);(case hr=>exact rG);(case hp=>exact(Reps.none _ _));intro df dg au hb hg_ hnew_;clear hg_ hnew_;(first|rw[← bi.out]at au|(simp only[Int.reduceToNat]at au;rw[← bi.out]at au));have cn:=aM (R_lower (R_new' au (R_lt (mR i))) (below_size cB));replace i:=eB i (R_base au) hb;replace HB:=sB hb;clear hb au))
              go_ret2
              exact⟨_,rE,by(with_reducible repeat(first|apply R_alloc|apply R_drewN|apply R_drew));exact R_mono cn.out (fun _ hk=>trivial),cB⟩
             ·rw[if_neg ar]at H;have cm:decide (10<(wrap64 (L - b)))=false:=decide_eq_false ar;clear ar;by_cases av:y>4294967295
              ·rw[if_pos av]at H;have co:decide (4294967295<y)=true:=decide_eq_true av;clear av;obtain⟨dh,bj⟩ : ∃ y_:List (S54),Aside0 (y_=(([] :List (S54)))):=⟨_,⟨rfl⟩⟩;rw[← bj.out]at H;simp only[Option.some.injEq,Prod.mk.injEq]at H;obtain⟨rfl,rfl⟩:=H
               go_wp2_with (first|((with_reducible refine gN 104 ?_);refine R_lit k54 _ 54 ?hg (N:=104) ?hd (xs:=([] :List (S54))) (inner:=[]) (ok:=fun _=>True) (okp:=fun _=>True) ?hr ?hp (fun _ hk=>hk) trivial (Below.refl _ _) (Nat.le_refl _) (by simp) ?_;(case hd=>rfl);(case hg=>rfl);(case hr=>exact rG);(case hp=>exact(Reps.none _ _));intro di dj aw hb hg_ hnew_;clear hg_ hnew_;(first|rw[← bj.out]at aw|(simp only[Int.reduceToNat]at aw;rw[← bj.out]at aw));have cp:=aM (R_lower (R_new' aw (R_lt (mR i))) (below_size cB));replace i:=eB i (R_base aw) hb;replace HB:=sB hb;clear hb aw))
               go_ret2
               exact⟨_,rE,by(with_reducible repeat(first|apply R_alloc|apply R_drewN|apply R_drew));exact R_mono cp.out (fun _ hk=>trivial),cB⟩
              ·rw[if_neg av]at H;have co:decide (4294967295<y)=false:=decide_eq_false av;clear av;replace H:=gC H;obtain⟨bx,H⟩:=H;have cq:=aM bx;clear bx;obtain⟨cr,bz⟩ : ∃ y_:List (S54),Aside0 (y_=(G ++ [(⟨2,(⟨#[]⟩ :ByteArray),y⟩ :S54)])):=⟨_,⟨rfl⟩⟩;rw[← bz.out]at H;have H':=aM H;clear H
               go_wp2_with (first|((with_reducible refine gA 105 108 ?_);at_builtin;refine R_append k54 (w0:=w) w.heap.size rfl (.tmp 105) (.tmp 108) 30 54 (.agg #[(.int .i64 0),(.string ⟨#[]⟩),(.int .i64 0)]) 32 rfl Try.underlying30 info54 rfl (by decide) (by omega) u4 G (⟨2,(⟨#[]⟩ :ByteArray),y⟩ :S54) [.int .i64 2,.string (⟨#[]⟩ :ByteArray),.int .i64 y] (fun _=>True) (fun _=>False) rfl rfl ?aP (fun _ hk=>hk.elim) ?aF ?aO ?aB ?aS ?aL ?_;(case aP=>exact k54_mkM _ _ _ (⟨2,(⟨#[]⟩ :ByteArray),y⟩ :S54));(case aB=>exact cB);(case aF=>exact(fun _ _=>trivial));(case aO=>exact(mR i));(case aS=>exact(below_size cB));(case aL=>have:=cq.out;omega);intro dk dl ho hb hg hat;rw[← bz.out]at ho;replace HB:=aM hb;have ct:=aM ho;clear i ho hb hg hat))
               go_roundg k3
               case measure=>have:=HK1.out;have:=HJ7.out;have:=HK3.out;omega
               case rel=>exact⟨(cr),(L),rS,H',⟨by have:=HK1.out;have:=HJ7.out;have:=HK3.out;omega⟩,⟨mR ct⟩,⟨cB⟩⟩
         ·replace aI:=Bool.eq_false_iff.mpr aI;subst aI;replace H:=iF H;replace H:=bE H;obtain⟨U,bA,H⟩:=H;by_cases aJ:U.toList=([] :List UInt8)
          ·rw[if_pos aJ]at H;obtain⟨cu,cv⟩:=eT aJ;clear aJ;obtain⟨dm,bk⟩ : ∃ y_:List (S54),Aside0 (y_=(([] :List (S54)))):=⟨_,⟨rfl⟩⟩;rw[← bk.out]at H;simp only[Option.some.injEq,Prod.mk.injEq]at H;obtain⟨rfl,rfl⟩:=H;have I:0≤(b:Int):=dA;have J:b<(c.size:Int):=dA;have aH:=bt_at c b;replace I:=eq_true I;replace J:=eq_true J
           go_wp2_with (first|((with_reducible refine gF 35 ?_);refine gX (some 51) Try.func35 (impl_isLetter.calls aE.out) ?_;rintro w' ⟨nd,rfl⟩;have aa:0≤(b:Int):=dA;have ab:b<(c.size:Int):=dA;have bf:=bt_at c b;replace aa:=eq_true aa;replace ab:=eq_true ab)|((with_reducible refine gF 37 ?_);refine gX (some 72) Try.func37 (impl_isFigure.calls be.out) ?_;rintro w' ⟨nd,rfl⟩)|((with_reducible refine gF 38 ?_);refine gX (some 23) Try.func38 (impl_markAt.calls bA.out) ?_;intro dn hb;replace i:=rB i hb;replace HB:=sB hb;(try clear hb))|((with_reducible refine gN 26 ?_);refine R_lit k54 _ 54 ?hg (N:=26) ?hd (xs:=([] :List (S54))) (inner:=[]) (ok:=fun _=>True) (okp:=fun _=>True) ?hr ?hp (fun _ hk=>hk) trivial (Below.refl _ _) (Nat.le_refl _) (by simp) ?_;(case hd=>rfl);(case hg=>rfl);(case hr=>exact rG);(case hp=>exact(Reps.none _ _));intro dp dq ax hb hg_ hnew_;clear hg_ hnew_;(first|rw[← bk.out]at ax|(simp only[Int.reduceToNat]at ax;rw[← bk.out]at ax));have cw:=aM (R_lower (R_new' ax (R_lt (mR i))) (below_size cB));replace i:=eB i (R_base ax) hb;replace HB:=sB hb;clear hb ax))
           go_ret2
           exact⟨_,rE,by(with_reducible repeat(first|apply R_alloc|apply R_drewN|apply R_drew));exact R_mono cw.out (fun _ hk=>trivial),cB⟩
          ·rw[if_neg aJ]at H;obtain⟨cu,cv⟩:=eF aJ;replace H:=gC H;obtain⟨bB,H⟩:=H;have cx:=aM bB;clear bB;obtain⟨cy,bC⟩ : ∃ y_:List (S54),Aside0 (y_=(G ++ [(⟨3,U,0⟩ :S54)])):=⟨_,⟨rfl⟩⟩;rw[← bC.out]at H;have H':=aM H;clear H;have I:0≤(b:Int):=dA;have J:b<(c.size:Int):=dA;have aH:=bt_at c b;replace I:=eq_true I;replace J:=eq_true J
           go_wp2_with (first|((with_reducible refine gF 35 ?_);refine gX (some 51) Try.func35 (impl_isLetter.calls aE.out) ?_;rintro w' ⟨nd,rfl⟩;have aa:0≤(b:Int):=dA;have ab:b<(c.size:Int):=dA;have bf:=bt_at c b;replace aa:=eq_true aa;replace ab:=eq_true ab)|((with_reducible refine gF 37 ?_);refine gX (some 72) Try.func37 (impl_isFigure.calls be.out) ?_;rintro w' ⟨nd,rfl⟩)|((with_reducible refine gF 38 ?_);refine gX (some 23) Try.func38 (impl_markAt.calls bA.out) ?_;intro dr hb;replace i:=rB i hb;replace HB:=sB hb;(try clear hb))|((with_reducible refine gA 31 34 ?_);at_builtin;refine R_append k54 (w0:=w) w.heap.size rfl (.tmp 31) (.tmp 34) 30 54 (.agg #[(.int .i64 0),(.string ⟨#[]⟩),(.int .i64 0)]) 32 rfl Try.underlying30 info54 rfl (by decide) (by omega) u4 G (⟨3,U,0⟩ :S54) [.int .i64 3,.string U,.int .i64 0] (fun _=>True) (fun _=>False) rfl rfl ?aP (fun _ hk=>hk.elim) ?aF ?aO ?aB ?aS ?aL ?_;(case aP=>exact k54_mkM _ _ _ (⟨3,U,0⟩ :S54));(case aB=>exact cB);(case aF=>exact(fun _ _=>trivial));(case aO=>exact(mR i));(case aS=>exact(below_size cB));(case aL=>have:=cx.out;omega);intro ds dt ho hb hg hat;rw[← bC.out]at ho;replace HB:=aM hb;have cz:=aM ho;clear i ho hb hg hat))
           go_roundg kj7
           case measure=>have:=HK1.out;have:=HJ7.out;omega
           case rel=>exact⟨(cy),(wrap64 (b+(U.size:Int))),rS,H',⟨by have:=HK1.out;have:=HJ7.out;omega⟩,⟨mR cz⟩,⟨cB⟩⟩
    ·rw[if_neg ad]at H;have a7:=decide_eq_false ad;clear ad;simp only[Option.some.injEq,Prod.mk.injEq]at H;obtain⟨rfl,rfl⟩:=H;go_wp2;go_ret2;exact⟨_,rE,mR i,cB⟩
/-- A state of type 48 at block g of W; what its slices lead to came in by w0. -/
def IsS48 (w0 W:World) (g:Nat) (f0:List (S54)) (f1:Int) (f2:Bool):Prop:= ∃ j l,W.heap[g]?=some (.cells #[.slice j f0.length l,.int .i64 f1,.bool f2] 48 (0,0))∧w0.heap.size≤g∧Kd.C k54 w0 j f0.length f0
theorem IsS48.grown {w0 W:World} {g:Nat} {f0:List (S54)} {f1:Int} {f2:Bool} {W1:World} {row:Option Nat} (h:IsS48 w0 W g f0 f1 f2) (hw:W.grownBy W1 row) (hne:some g≠row):IsS48 w0 W1 g f0 f1 f2:=by
  obtain⟨j,l,hb,hg,s⟩:=h
  exact⟨j,l,blk_grown hb hw hne,hg,s⟩
theorem IsS48.own_neN {w0 W:World} {g:Nat} {f0:List (S54)} {f1:Int} {f2:Bool} {α:Type} {d:Kd α} {e:Nat} {base:Nat} {ok:Nat→Prop} {v:Value} {xs:List α} (h:IsS48 w0 W g f0 f1 f2) (ho:Kd.N d e W base ok v xs) (ht:e≠48):some g≠v.ownBlock:=by
  obtain⟨j,l,hb,hg,s⟩:=h
  exact N_ne ho hb ht
theorem IsS48.fresh {w0 W:World} {g:Nat} {f0:List (S54)} {f1:Int} {f2:Bool} (h:IsS48 w0 W g f0 f1 f2): ∀ k,W.heap.size≤k→k≠g:=by
  obtain⟨j,l,hb,hg,s⟩:=h
  exact Kd.freshB hb
theorem IsS48.kept {w0 W:World} {g:Nat} {f0:List (S54)} {f1:Int} {f2:Bool} {W1:World} {S:Nat→Prop} (h:IsS48 w0 W g f0 f1 f2) (hk:Kept W W1 S) (hne: ¬ S g):IsS48 w0 W1 g f0 f1 f2:=by
  obtain⟨j,l,hb,hg,s⟩:=h
  exact⟨j,l,blk_kept hb hk hne,hg,s⟩
theorem IsS48.below {w0 W:World} {g:Nat} {f0:List (S54)} {f1:Int} {f2:Bool} {W1:World} (h:IsS48 w0 W g f0 f1 f2) (hw:Below W.heap.size W W1):IsS48 w0 W1 g f0 f1 f2:=h.grown (grown_of_below hw none) (by simp)
theorem IsS48.alloc {w0 W:World} {g:Nat} {f0:List (S54)} {f1:Int} {f2:Bool} (h:IsS48 w0 W g f0 f1 f2) (o:Obj):IsS48 w0 (W.alloc o) g f0 f1 f2:=h.below (below_alloc (Below.refl _ _) o)
theorem IsS48.drewN {w0 W:World} {g:Nat} {f0:List (S54)} {f1:Int} {f2:Bool} (h:IsS48 w0 W g f0 f1 f2) (m:Nat):IsS48 w0 (W.drewN m) g f0 f1 f2:=h
theorem IsS48.drew {w0 W:World} {g:Nat} {f0:List (S54)} {f1:Int} {f2:Bool} (h:IsS48 w0 W g f0 f1 f2):IsS48 w0 W.drew g f0 f1 f2:=h
theorem IsS48.at_ {w0 W:World} {g:Nat} {f0:List (S54)} {f1:Int} {f2:Bool} {w':World} {m:Nat} (hq:W.drewN m=w') (h:IsS48 w0 W g f0 f1 f2):IsS48 w0 w' g f0 f1 f2:=by subst hq;exact IsS48.drewN h m
theorem IsS48.apart {w0 W:World} {g:Nat} {f0:List (S54)} {f1:Int} {f2:Bool} {α:Type} {d:Kd α} {e:Nat} {base:Nat} {ok:Nat→Prop} {v:Value} {xs:List α} (h:IsS48 w0 W g f0 f1 f2) (ho:d.R e W base ok v xs) (ht: ∀ q,q ∈ e :: d.E→q≠48):d.R e W base (fun k=>ok k∧k≠g) v xs:=by
  obtain⟨j,l,hb,hg,s⟩:=h
  exact R_types ho hb ht
theorem IsS48.own_ne {w0 W:World} {g:Nat} {f0:List (S54)} {f1:Int} {f2:Bool} {α:Type} {d:Kd α} {e:Nat} {base:Nat} {ok:Nat→Prop} {v:Value} {xs:List α} (h:IsS48 w0 W g f0 f1 f2) (ho:d.R e W base ok v xs) (ht:e≠48):some g≠v.ownBlock:=by
  obtain⟨j,l,hb,hg,s⟩:=h
  exact R_ne ho hb ht
theorem IsS48.apartQ {w0 W:World} {g:Nat} {f0:List (S54)} {f1:Int} {f2:Bool} {α:Type} {d:Kd α} {e:Nat} {base:Nat} {ok:Nat→Prop} {v:Value} {xs:List α} (h:IsS48 w0 W g f0 f1 f2) (ho:d.Q e W base ok v xs) (ht: ∀ q,q ∈ e :: d.E→q≠48):d.Q e W base (fun k=>ok k∧k≠g) v xs:=by
  obtain⟨j,l,hb,hg,s⟩:=h
  exact Q_types ho hb ht
theorem IsS48.own_neQ {w0 W:World} {g:Nat} {f0:List (S54)} {f1:Int} {f2:Bool} {α:Type} {d:Kd α} {e:Nat} {base:Nat} {ok:Nat→Prop} {v:Value} {xs:List α} (h:IsS48 w0 W g f0 f1 f2) (ho:d.Q e W base ok v xs) (ht:e≠48):some g≠v.ownBlock:=by
  obtain⟨j,l,hb,hg,s⟩:=h
  exact Q_ne ho hb ht
theorem IsS48.apartS {w0 W:World} {g:Nat} {f0:List (S54)} {f1:Int} {f2:Bool} {α:Type} {d:Kd α} {e:Nat} {base:Nat} {ok:Nat→Prop} {v:Value} {xs:List α} (h:IsS48 w0 W g f0 f1 f2) (ho:d.S e W base ok v xs) (ht: ∀ q,q ∈ e :: d.E→q≠48):d.S e W base (fun k=>ok k∧k≠g) v xs:=by
  obtain⟨j,l,hb,hg,s⟩:=h
  exact S_types ho hb ht
theorem IsS48.own_neS {w0 W:World} {g:Nat} {f0:List (S54)} {f1:Int} {f2:Bool} {α:Type} {d:Kd α} {e:Nat} {base:Nat} {ok:Nat→Prop} {v:Value} {xs:List α} (h:IsS48 w0 W g f0 f1 f2) (ho:d.S e W base ok v xs) (ht:e≠48):some g≠v.ownBlock:=by
  obtain⟨j,l,hb,hg,s⟩:=h
  exact S_ne ho hb ht
theorem IsS48.lt {w0 W:World} {g:Nat} {f0:List (S54)} {f1:Int} {f2:Bool} (h:IsS48 w0 W g f0 f1 f2):g<W.heap.size:=by
  obtain⟨j,l,hb,hg,s⟩:=h
  exact blk_lt hb
theorem IsS48.ge {w0 W:World} {g:Nat} {f0:List (S54)} {f1:Int} {f2:Bool} (h:IsS48 w0 W g f0 f1 f2):w0.heap.size≤g:=by
  obtain⟨j,l,hb,hg,s⟩:=h
  exact hg
theorem IsS48.ne_blk {w0 W:World} {g:Nat} {f0:List (S54)} {f1:Int} {f2:Bool} {a:Nat} {cs:Array Value} {t:TypeId} {fr:Nat×Nat} (h:IsS48 w0 W g f0 f1 f2) (hb2:W.heap[a]?=some (.cells cs t fr)) (ht:t≠48):g≠a:=by
  obtain⟨j,l,hb,hg,s⟩:=h
  rintro rfl
  rw[hb]at hb2
  injection hb2 with hb2
  injection hb2 with _ ht2
  exact ht ht2.symm
theorem IsS48.far {w0 W:World} {g:Nat} {f0:List (S54)} {f1:Int} {f2:Bool} {p:Addr} (h:IsS48 w0 W g f0 f1 f2) (hne:g≠p.block) (u:Value):IsS48 w0 (W.setCell p u) g f0 f1 f2:=by
  obtain⟨j,l,hb,hg,s⟩:=h
  exact⟨j,l,blk_far hb hne u,hg,s⟩
theorem cellS48_0 {W:World} {g:Nat} {j:Option Addr} {l:Nat} {f0:List (S54)} {f1:Int} {f2:Bool} (h:W.heap[g]?=some (.cells #[.slice j f0.length l,.int .i64 f1,.bool f2] 48 (0,0))):W.cell? ⟨g,0,none⟩=some (.slice j f0.length l):=(blk_cell h 0).trans rfl
theorem cellS48_1 {W:World} {g:Nat} {j:Option Addr} {l:Nat} {f0:List (S54)} {f1:Int} {f2:Bool} (h:W.heap[g]?=some (.cells #[.slice j f0.length l,.int .i64 f1,.bool f2] 48 (0,0))):W.cell? ⟨g,1,none⟩=some (.int .i64 f1):=(blk_cell h 1).trans rfl
theorem IsS48.set_1 {w0 W:World} {g:Nat} {f0:List (S54)} {f1:Int} {f2:Bool} (h:IsS48 w0 W g f0 f1 f2) (x:Int):IsS48 w0 (W.setCell ⟨g,1,none⟩ (.int .i64 x)) g f0 x f2:=by
  obtain⟨j,l,hb,hg,s⟩:=h
  exact⟨j,l,by simpa using blk_set hb 1 (.int .i64 x),hg,s⟩
theorem cellS48_2 {W:World} {g:Nat} {j:Option Addr} {l:Nat} {f0:List (S54)} {f1:Int} {f2:Bool} (h:W.heap[g]?=some (.cells #[.slice j f0.length l,.int .i64 f1,.bool f2] 48 (0,0))):W.cell? ⟨g,2,none⟩=some (.bool f2):=(blk_cell h 2).trans rfl
theorem IsS48.set_2 {w0 W:World} {g:Nat} {f0:List (S54)} {f1:Int} {f2:Bool} (h:IsS48 w0 W g f0 f1 f2) (x:Bool):IsS48 w0 (W.setCell ⟨g,2,none⟩ (.bool x)) g f0 f1 x:=by
  obtain⟨j,l,hb,hg,s⟩:=h
  exact⟨j,l,by simpa using blk_set hb 2 (.bool x),hg,s⟩
theorem IsS48.new (w0 W:World) (j:Option Addr) (l:Nat) (f0:List (S54)) (f1:Int) (f2:Bool) (hB:Below w0.heap.size w0 W) (s:Kd.C k54 w0 j f0.length f0):IsS48 w0 (W.alloc (.cells #[.slice j f0.length l,.int .i64 f1,.bool f2] 48)) W.heap.size f0 f1 f2:=⟨j,l,by simpa using heap_alloc_new W _,hB.size,s⟩
def impl_reader_sees.f (s0_0:List (S54)) (s0_1:Int) (s0_2:Bool) (M:ByteArray):Option (Bool×Int×Bool):=if s0_1<(s0_0.length:Int)then(if 0≤s0_1 then(if((rd_T54 s0_0 s0_1).f0)=2 then(some (false,s0_1,s0_2))else(some ((((rd_T54 s0_0 s0_1).f1).toList == M.toList),s0_1,s0_2)))else(none))else(some (false,s0_1,s0_2))
theorem q11x0 {P:Prop} (h:P:=by repeat(first|(with_reducible first|exact HI0.out|apply IsS48.alloc|apply IsS48.drewN|apply IsS48.drew|apply IsS48.set_1|apply IsS48.set_2)|exact HI0.out)):P:=h
theorem q11x1 {P:Prop} (h:P:=by repeat(first|(with_reducible first|exact HB.out|apply below_alloc|apply pw_below_drewN|apply below_drew1|refine below_set ?_ (IsS48.ge HI0.out))|exact HB.out)):P:=h
set_option maxHeartbeats 8000000 in
set_option maxRecDepth 100000 in
theorem impl_reader_sees.calls (g:Nat) (s0_0:List (S54)) (s0_1:Int) (s0_2:Bool) (M:ByteArray) (r1:Bool) (r2:Int) (r3:Bool) (w0 w:World) (hI:IsS48 w0 w g s0_0 s0_1 s0_2) (hB:Below w0.heap.size w0 w) (h:impl_reader_sees.f s0_0 s0_1 s0_2 M=some (r1,r2,r3)) :
 Calls Try.prog 63 #[.pointer (some ⟨g,0,none⟩),.string M] w fun e w'=>e= .returned (.bool r1)∧IsS48 w0 w' g s0_0 r2 r3∧Below w0.heap.size w0 w'∧KeepBut w w' g none:=by
 have HI0:=aM hI;have HK:=aM (KeepBut.refl w g none);have HL:=aM hB.size;clear hI;have HW0:=aM hB.size;have HB:=aM hB;clear hB;have H:(if s0_1<(s0_0.length:Int)then(if 0≤s0_1 then(if((rd_T54 s0_0 s0_1).f0)=2 then(some (false,s0_1,s0_2))else(some ((((rd_T54 s0_0 s0_1).f1).toList == M.toList),s0_1,s0_2)))else(none))else(some (false,s0_1,s0_2)))=some (r1,r2,r3):=h;clear h;by_cases O:s0_1<(s0_0.length:Int)
 ·rw[if_pos O]at H;have cA:=decide_eq_true O;clear O;replace H:=gD H;obtain⟨du,H⟩:=H;by_cases aK:((rd_T54 s0_0 s0_1).f0)=2
  ·rw[if_pos aK]at H;obtain⟨cD,cE⟩:=eT aK;clear aK;simp only[Option.some.injEq,Prod.mk.injEq]at H;obtain⟨rfl,rfl,rfl⟩:=H;obtain⟨ASz6_0,cSz6_0,HGz6,hgz6,HSz6_0⟩:=HI0.out;have dv:=cellS48_0 HGz6;have dw:=cellS48_1 HGz6;have dx:=cellS48_2 HGz6;have dy:=blk_frozen HGz6 1;have dz:=blk_frozen HGz6 2;clear HGz6 hgz6;have ai:0≤(s0_1:Int):=dA;have aj:s0_1<(s0_0.length:Int):=dA;obtain⟨bD,bl,aN,aQ,aR⟩:=at_T54 HSz6_0 s0_1 ai aj;cases bl;replace aN:=pw_cell_below HB.out aN;replace aQ:=pw_cell_below HB.out aQ;replace aR:=pw_cell_below HB.out aR;replace ai:=eq_true ai;replace aj:=eq_true aj;go_enter Try.func63,Try.ntmps63;go_wp2
   repeat(go_quiet (fail);try go_wp2)
   go_ret;exact⟨rE,q11x0,q11x1,cK⟩
  ·rw[if_neg aK]at H;obtain⟨cD,cE⟩:=eF aK;simp only[Option.some.injEq,Prod.mk.injEq]at H;obtain⟨rfl,rfl,rfl⟩:=H;obtain⟨ASz7_0,cSz7_0,HGz7,hgz7,HSz7_0⟩:=HI0.out;have cF:=cellS48_0 HGz7;have cG:=cellS48_1 HGz7;have cI:=cellS48_2 HGz7;have cJ:=blk_frozen HGz7 1;have cL:=blk_frozen HGz7 2;clear HGz7 hgz7;have ai:0≤(s0_1:Int):=dA;have aj:s0_1<(s0_0.length:Int):=dA;obtain⟨bD,bl,aN,aQ,aR⟩:=at_T54 HSz7_0 s0_1 ai aj;cases bl;replace aN:=pw_cell_below HB.out aN;replace aQ:=pw_cell_below HB.out aQ;replace aR:=pw_cell_below HB.out aR;replace ai:=eq_true ai;replace aj:=eq_true aj;have bm:0≤(s0_1:Int):=dA;have bn:s0_1<(s0_0.length:Int):=dA;obtain⟨cM,cN,bF,bG,bH⟩:=at_T54 HSz7_0 s0_1 bm bn
   obtain rfl:bD=cM:=(by injection cN)
   replace bF:=pw_cell_below HB.out bF;replace bG:=pw_cell_below HB.out bG;replace bH:=pw_cell_below HB.out bH;replace bm:=eq_true bm;replace bn:=eq_true bn;go_enter Try.func63,Try.ntmps63;go_wp2
   repeat(go_quiet (fail);try go_wp2)
   go_ret;exact⟨rE,q11x0,q11x1,cK⟩
 ·rw[if_neg O]at H;have cA:=decide_eq_false O;clear O;simp only[Option.some.injEq,Prod.mk.injEq]at H;obtain⟨rfl,rfl,rfl⟩:=H;obtain⟨ASz8_0,cSz8_0,HGz8,hgz8,HSz8_0⟩:=HI0.out;have dC:=cellS48_0 HGz8;have dD:=cellS48_1 HGz8;have dE:=cellS48_2 HGz8;have dF:=blk_frozen HGz8 1;have dG:=blk_frozen HGz8 2;clear HGz8 hgz8;go_enter Try.func63,Try.ntmps63;go_wp2
  repeat(go_quiet (fail);try go_wp2)
  go_ret;exact⟨rE,q11x0,q11x1,cK⟩
def impl_reader_has.f (s0_0:List (S54)) (s0_1:Int) (s0_2:Bool) (M:ByteArray):Option (Bool×Int×Bool):=if s0_2=true then(some (false,s0_1,s0_2))else((impl_reader_sees.f s0_0 s0_1 s0_2 M).bind fun aT=>(if aT.1=true then(some (true,wrap64 (aT.2.1+1),aT.2.2))else(some (false,aT.2.1,aT.2.2))))
set_option maxHeartbeats 8000000 in
set_option maxRecDepth 100000 in
theorem impl_reader_has.calls (g:Nat) (s0_0:List (S54)) (s0_1:Int) (s0_2:Bool) (M:ByteArray) (r1:Bool) (r2:Int) (r3:Bool) (w0 w:World) (hI:IsS48 w0 w g s0_0 s0_1 s0_2) (hB:Below w0.heap.size w0 w) (h:impl_reader_has.f s0_0 s0_1 s0_2 M=some (r1,r2,r3)) :
 Calls Try.prog 39 #[.pointer (some ⟨g,0,none⟩),.string M] w fun e w'=>e= .returned (.bool r1)∧IsS48 w0 w' g s0_0 r2 r3∧Below w0.heap.size w0 w'∧KeepBut w w' g none:=by
 have HI0:=aM hI;have HK:=aM (KeepBut.refl w g none);have HL:=aM hB.size;clear hI;have HW0:=aM hB.size;have HB:=aM hB;clear hB
 unfold impl_reader_has.f at h;have H:=h
 clear h;by_cases O:s0_2=true
 ·subst O;replace H:=iT H;simp only[Option.some.injEq,Prod.mk.injEq]at H;obtain⟨rfl,rfl,rfl⟩:=H;obtain⟨ASz4_0,cSz4_0,HGz4,hgz4,HSz4_0⟩:=HI0.out;have dH:=cellS48_0 HGz4;have dI:=cellS48_1 HGz4;have dJ:=cellS48_2 HGz4;have dK:=blk_frozen HGz4 1;have dL:=blk_frozen HGz4 2;clear HGz4 hgz4;go_enter Try.func39,Try.ntmps39;go_wp2;go_ret;exact⟨rE,q11x0,q11x1,cK⟩
 ·replace O:=Bool.eq_false_iff.mpr O;subst O;replace H:=iF H;replace H:=bE H;obtain⟨⟨cO,bI,bJ⟩,bL,H⟩:=H;(try dsimp only at H);by_cases a2:cO=true
  ·subst a2;replace H:=iT H;simp only[Option.some.injEq,Prod.mk.injEq]at H;obtain⟨rfl,rfl,rfl⟩:=H;obtain⟨ASz7_0,cSz7_0,HGz7,hgz7,HSz7_0⟩:=HI0.out;have cF:=cellS48_0 HGz7;have cG:=cellS48_1 HGz7;have cI:=cellS48_2 HGz7;have cJ:=blk_frozen HGz7 1;have cL:=blk_frozen HGz7 2;clear HGz7 hgz7;go_enter Try.func39,Try.ntmps39
   go_wp2_with (first|(go_at_call 63;(with_reducible refine(impl_reader_sees.calls g s0_0 s0_1 false M true bI bJ w0 _ ?side1 ?side2 bL.out).mono ?_);(case side1=>exact q11x0);(case side2=>exact q11x1);rintro e dM ⟨rfl,hi,hb,hk⟩;replace HK:=tK (w:=w) hk;replace HB:=aM hb;replace HI0:=aM hi;(try clear hb);(try clear hk);(try clear hi);obtain⟨ASz9_0,cSz9_0,HGz9,hgz9,HSz9_0⟩:=HI0.out;have dN:=cellS48_0 HGz9;have dO:=cellS48_1 HGz9;have dP:=cellS48_2 HGz9;have dQ:=blk_frozen HGz9 1;have dS:=blk_frozen HGz9 2;clear HGz9 hgz9))
   go_ret;exact⟨rE,q11x0,q11x1,cK⟩
  ·replace a2:=Bool.eq_false_iff.mpr a2;subst a2;replace H:=iF H;simp only[Option.some.injEq,Prod.mk.injEq]at H;obtain⟨rfl,rfl,rfl⟩:=H;obtain⟨ASz10_0,cSz10_0,HGz10,hgz10,HSz10_0⟩:=HI0.out;have dT:=cellS48_0 HGz10;have dU:=cellS48_1 HGz10;have dV:=cellS48_2 HGz10;have dX:=blk_frozen HGz10 1;have dY:=blk_frozen HGz10 2;clear HGz10 hgz10;go_enter Try.func39,Try.ntmps39
   go_wp2_with (first|(go_at_call 63;(with_reducible refine(impl_reader_sees.calls g s0_0 s0_1 false M false bI bJ w0 _ ?side1 ?side2 bL.out).mono ?_);(case side1=>exact q11x0);(case side2=>exact q11x1);rintro e dZ ⟨rfl,hi,hb,hk⟩;replace HK:=tK (w:=w) hk;replace HB:=aM hb;replace HI0:=aM hi;(try clear hb);(try clear hk);(try clear hi)))
   go_ret;exact⟨rE,q11x0,q11x1,cK⟩
end Go.Proofs.Ytfhjjfibblcklaa.PFnExactReadPolicy
