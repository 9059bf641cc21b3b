import Derived.Test.YtfhjjfibblcklaaPFnExactReadPolicyy0
import Derived.Test.YtfhjjfibblcklaaPFnExactReadPolicyy1
namespace Go.Proofs.Ytfhjjfibblcklaa.PFnExactReadPolicy
open Go.RowKit Go.Proofs.YtfhjjfibblcklaaW.PrintWords Go.Proofs.YtfhjjfibblcklaaW.PrintLast Go.Proofs.YtfhjjfibblcklaaW.PrintMore Go.Proofs.YtfhjjfibblcklaaW.Z
open Kd
attribute [local go_sem] isS max2_int min2_int max_two min_two max_three min_three max_four min_four
set_option linter.unusedVariables false
set_option linter.unusedSimpArgs false
mutual
def spec_SignsOf.l0:Nat→ByteArray→List (S54)→List (S54)→Int→Option ((List (S54))×Bool)
  | 0,_,_,_,_=>none
  | k+1,g,m,j,d=>if d<(g.size:Int)then(if 0≤d then(if(bt g d)=32 then(spec_SignsOf.j1 k g m j d true)else(spec_SignsOf.j1 k g m j d ((bt g d) == 10)))else(none))else(some (j,true))
def spec_SignsOf.j1:Nat→ByteArray→List (S54)→List (S54)→Int→Bool→Option ((List (S54))×Bool)
  | 0,_,_,_,_,_=>none
  | k+1,g,m,j,d,a8=>if a8=true then(spec_SignsOf.l0 k g m j (wrap64 (d+1)))else((spec_l08Word.f k g d 97 122).bind fun l=>(if l>0 then(if l>12 then(some (m,false))else(if 0≤d then(if d≤(wrap64 (d+l))then(if(wrap64 (d+l))≤(g.size:Int)then(if j.length<4398046511104 then(spec_SignsOf.l0 k g m (j ++ [(⟨1,g.extract (d:Int).toNat ((wrap64 (d+l)):Int).toNat,0⟩ :S54)]) (wrap64 (d+l)))else(none))else(none))else(none))else(none)))else((spec_l08Word.f k g d 48 57).bind fun o=>(if o>0 then(spec_SignsOf.l1 k g m j d o 0 d)else((spec_l08Mark.f k g d).bind fun t=>(if t.toList=([] :List UInt8)then(some (m,false))else(if j.length<4398046511104 then(spec_SignsOf.l0 k g m (j ++ [(⟨3,t,0⟩ :S54)]) (wrap64 (d+(t.size:Int))))else(none))))))))
def spec_SignsOf.j3:Nat→ByteArray→List (S54)→List (S54)→Int→Int→Int→Option ((List (S54))×Bool)
  | 0,_,_,_,_,_,_=>none
  | k+1,g,m,j,d,r,v=>if r>10 then(spec_SignsOf.j4 k g m j d r v true)else((spec_HalfOk.f v).bind fun aH=>(spec_SignsOf.j4 k g m j d r v (!aH)))
def spec_SignsOf.j4:Nat→ByteArray→List (S54)→List (S54)→Int→Int→Int→Bool→Option ((List (S54))×Bool)
  | 0,_,_,_,_,_,_,_=>none
  | k+1,g,m,j,d,r,v,a9=>if a9=true then(some (m,false))else(if j.length<4398046511104 then(spec_SignsOf.l0 k g m (j ++ [(⟨2,(⟨#[]⟩ :ByteArray),v⟩ :S54)]) (wrap64 (d+r)))else(none))
def spec_SignsOf.l1:Nat→ByteArray→List (S54)→List (S54)→Int→Int→Int→Int→Option ((List (S54))×Bool)
  | 0,_,_,_,_,_,_,_=>none
  | k+1,g,m,j,d,r,v,ah=>if ah<(wrap64 (d+r))then(if r≤10 then(if 0≤ah then(if ah<(g.size:Int)then(spec_SignsOf.l1 k g m j d r (wrap64 ((wrap64 ((wrap64 (10*v))+(wrap64 (bt g ah)))) - 48)) (wrap64 (ah+1)))else(none))else(none))else(spec_SignsOf.j3 k g m j d r v))else(spec_SignsOf.j3 k g m j d r v)
end
def spec_SignsOf.f (k:Nat) (b:ByteArray):Option ((List (S54))×Bool):=(some (([] :List (S54)):List (S54))).bind fun q=>(if(b.size:Int)>1200 then(some (q,false))else(spec_SignsOf.l0 k b q (([] :List (S54))) 0))
set_option maxHeartbeats 8000000 in
set_option maxRecDepth 100000 in
theorem spec_SignsOf.calls {k:Nat}{b:ByteArray}{r1:List (S54)}{r2:Bool}{w:World}(h:spec_SignsOf.f k b=some (r1,r2)) :
 Calls Try.prog 9 #[.string b] w fun e w'=> ∃ v0_:Value,e= .returned (.tuple #[v0_,.bool r2])∧Kd.R k54 54 w' w.heap.size (fun _=>True) v0_ r1∧Below w.heap.size w w':=by
 have hu54:=Try.underlying54;have HB:=rW w
 unfold spec_SignsOf.f at h;have H:=h
 clear h;replace H:=nE H;obtain⟨q,av,H⟩:=H;by_cases s:(b.size:Int)>1200
 ·rw[if_pos s]at H;have W:decide (1200<(b.size:Int))=true:=decide_eq_true s
  have X:decide (1200<b.size)=true:=decide_eq_true (by omega)
  clear s;simp only[Option.some.injEq,Prod.mk.injEq]at H;obtain⟨rfl,rfl⟩:=H;go_enter Try.func9,Try.ntmps9
  go_wp2_with (first|((with_reducible refine gN 11 ?_);refine R_lit k54 _ 54 ?hg (N:=11) ?hd (xs:=([] :List (S54))) (inner:=[]) (ok:=fun _=>True) (okp:=fun _=>True) ?hr ?hp (fun _ hk=>hk) trivial (Below.refl _ _) (Nat.le_refl _) (by simp) ?_;(case hd=>rfl);(case hg=>rfl);(case hr=>exact rG);(case hp=>exact(Reps.none _ _));intro p bw ai hb hg_ hnew_;clear hg_ hnew_;(first|rw[← av.out]at ai|(simp only[Int.reduceToNat]at ai;rw[← av.out]at ai));have Y:=rL ai;replace HB:=sB hb;clear hb ai))
  go_ret2;exact⟨_,rE,mR Y,cB⟩
 ·rw[if_neg s]at H;have W:decide (1200<(b.size:Int))=false:=decide_eq_false s
  have X:decide (1200<b.size)=false:=decide_eq_false (by omega)
  clear s;obtain⟨ba,aI⟩ : ∃ y_:List (S54),Aside0 (y_=(([] :List (S54)))):=⟨_,⟨rfl⟩⟩;rw[← aI.out]at H;have H':=aM H;clear H;go_enter Try.func9,Try.ntmps9
  go_wp2_with (first|((with_reducible refine gN 11 ?_);refine R_lit k54 _ 54 ?hg (N:=11) ?hd (xs:=([] :List (S54))) (inner:=[]) (ok:=fun _=>True) (okp:=fun _=>True) ?hr ?hp (fun _ hk=>hk) trivial (Below.refl _ _) (Nat.le_refl _) (by simp) ?_;(case hd=>rfl);(case hg=>rfl);(case hr=>exact rG);(case hp=>exact(Reps.none _ _));intro p bx aj hb hg_ hnew_;clear hg_ hnew_;(first|rw[← av.out]at aj|(simp only[Int.reduceToNat]at aj;rw[← av.out]at aj));have Y:=rL aj;replace HB:=sB hb;clear hb aj)|((with_reducible refine gN 16 ?_);refine R_lit k54 _ 54 ?hg (N:=16) ?hd (xs:=([] :List (S54))) (inner:=[]) (ok:=fun _=>True) (okp:=fun _=>True) ?hr ?hp (fun _ hk=>hk) trivial (Below.refl _ _) (Nat.le_refl _) (by simp) ?_;(case hd=>rfl);(case hg=>rfl);(case hr=>exact rG);(case hp=>exact(Reps.none _ _));intro bz bA aa hb hg_ hnew_;clear hg_ hnew_;(first|rw[← aI.out]at aa|(simp only[Int.reduceToNat]at aa;rw[← aI.out]at aa));have bb:=aM (R_lower (R_new' aa (R_lt (mR Y))) (below_size cB));replace Y:=eB Y (R_base aa) hb;replace HB:=sB hb;clear hb aa))
  go_loopg [5,6] k (fun kq aY bd w'=> ∃ (n:List (S54)) (a:Int),bd= .int .i64 a∧Aside0 (spec_SignsOf.l0 kq b q n a=some (r1,r2))∧Aside0 (kq≤k)∧Aside0 (Kd.R k54 54 w' w.heap.size (fun k_=>some k_≠(aY:Value).ownBlock) p q)∧Aside0 (Kd.R k54 54 w' w.heap.size (fun k_=>some k_≠(p:Value).ownBlock) aY n)∧Aside0 (Below w.heap.size w w'))
  case atStart=>exact⟨(ba),(0),rS,H',⟨Nat.le_refl _⟩,⟨rM Y (fun _ hk=>hk.2)⟩,⟨rM bb (fun _ hk=>hk.2)⟩,⟨cB⟩⟩
  case round=>
   clear H';(try clear s);(try clear W);(try clear X);obtain⟨n,a,rfl,HA,HK1,c,i,HB⟩:=hrel
   cases gk with
   | zero=>exact absurd HA.out (by simp[spec_SignsOf.l0])
   | succ k1=>
    have H:=HA.out;clear HA;simp only[spec_SignsOf.l0]at H;by_cases u:a<(b.size:Int)
    ·rw[if_pos u]at H;have ak:=decide_eq_true u;clear u;have HC10:=aM H;clear H
     go_upto_region 7 with(fail)
     go_cut [30] (fun be wc=> ∃ (kq:Nat) (aw:Bool),be= .bool aw∧Aside0 (spec_SignsOf.j1 kq b q n a aw=some (r1,r2))∧Aside0 (kq≤k1)∧Aside0 (Kd.R k54 54 wc w.heap.size (fun k_=>some k_≠(u5:Value).ownBlock) p q)∧Aside0 (Kd.R k54 54 wc w.heap.size (fun k_=>some k_≠(p:Value).ownBlock) u5 n)∧Aside0 (Below w.heap.size w wc))
     case first=>
      have H:=HC10.out;clear HC10;replace H:=gD H;obtain⟨ab,H⟩:=H
      (first|rw[ab]|(simp only[i64_w,i32_w];rw[ab])|skip)
      by_cases x:(bt b a)=32
      ·rw[if_pos x]at H;obtain⟨al,am⟩:=eT x;clear x;have H':=aM H;clear H;have y:0≤(a:Int):=dA;have z:a<(b.size:Int):=dA;have an:=bt_at b a;replace y:=eq_true y;replace z:=eq_true z;go_wp2;go_meet
       case rel=>exact⟨_,(true),rS,H',⟨by have:=HK1.out;first|omega|exact Nat.le_refl _⟩,⟨mR c⟩,⟨mR i⟩,⟨cB⟩⟩
      ·rw[if_neg x]at H;obtain⟨al,am⟩:=eF x;have H':=aM H;clear H;have y:0≤(a:Int):=dA;have z:a<(b.size:Int):=dA;have an:=bt_at b a;replace y:=eq_true y;replace z:=eq_true z;have ac:0≤(a:Int):=dA;have ad:a<(b.size:Int):=dA;have ax:=bt_at b a;replace ac:=eq_true ac;replace ad:=eq_true ad;go_wp2;go_meet
       case rel=>exact⟨_,(((bt b a) == 10)),rS,H',⟨by have:=HK1.out;first|omega|exact Nat.le_refl _⟩,⟨mR c⟩,⟨mR i⟩,⟨cB⟩⟩
     case rest=>
      clear HC10;(try clear s);(try clear W);(try clear X);(try clear u);(try clear ak);(try clear aJ);(try clear ab);(try clear y);(try clear z);(try clear an);(try clear x);(try clear al);(try clear am);(try clear ac);(try clear ad);(try clear ax);obtain⟨kq,aw,rfl,HA,HJ9,c,i,HB⟩:=hcut
      cases kq with
      | zero=>exact absurd HA.out (by simp[spec_SignsOf.j1])
      | succ kj9=>
       have H:=HA.out;clear HA;simp only[spec_SignsOf.j1]at H;by_cases M:aw=true
       ·subst M;replace H:=iT H;have H':=aM H;clear H;go_wp2;go_roundg kj9
        case measure=>have:=HK1.out;have:=HJ9.out;omega
        case rel=>exact⟨(n),(wrap64 (a+1)),rS,H',⟨by have:=HK1.out;have:=HJ9.out;omega⟩,⟨mR c⟩,⟨mR i⟩,⟨cB⟩⟩
       ·replace M:=Bool.eq_false_iff.mpr M;subst M;replace H:=iF H;replace H:=bE H;obtain⟨l,ao,H⟩:=H;by_cases A:l>0
        ·rw[if_pos A]at H;have ay:decide (0<l)=true:=decide_eq_true A;clear A;by_cases D:l>12
         ·rw[if_pos D]at H;have az:decide (12<l)=true:=decide_eq_true D;clear D;simp only[Option.some.injEq,Prod.mk.injEq]at H;obtain⟨rfl,rfl⟩:=H
          go_wp2_with (first|((with_reducible refine gF 24 ?_);refine gX (some 35) Try.func24 (spec_l08Word.calls ao.out) ?_;rintro w' ⟨nd,rfl⟩))
          go_ret2
          exact⟨_,rE,by(with_reducible repeat(first|apply R_alloc|apply R_drewN|apply R_drew));exact R_mono c.out (fun _ hk=>trivial),cB⟩
         ·rw[if_neg D]at H;have az:decide (12<l)=false:=decide_eq_false D;clear D;replace H:=gC H;obtain⟨ae,H⟩:=H;have aK:=eq_true ae;have aN:decide (0≤a)=true:=decide_eq_true ae;clear ae;replace H:=gC H;obtain⟨ap,H⟩:=H;have aQ:=eq_true ap;have aR:decide (a≤(wrap64 (a+l)))=true:=decide_eq_true ap;replace H:=gC H;obtain⟨aq,H⟩:=H;have aT:=eq_true aq;have aU:decide ((wrap64 (a+l))≤(b.size:Int))=true:=decide_eq_true aq;replace H:=gC H;obtain⟨ar,H⟩:=H;have bf:=aM ar;clear ar;obtain⟨bg,aZ⟩ : ∃ y_:List (S54),Aside0 (y_=(n ++ [(⟨1,b.extract (a:Int).toNat ((wrap64 (a+l)):Int).toNat,0⟩ :S54)])):=⟨_,⟨rfl⟩⟩;rw[← aZ.out]at H;have H':=aM H;clear H
          go_wp2_with (first|((with_reducible refine gF 24 ?_);refine gX (some 35) Try.func24 (spec_l08Word.calls ao.out) ?_;rintro w' ⟨nd,rfl⟩)|((with_reducible refine gA 41 49 ?_);at_builtin;refine R_append k54 (w0:=w) w.heap.size rfl (.tmp 41) (.tmp 49) 30 54 (.agg #[(.int .i64 0),(.string ⟨#[]⟩),(.int .i64 0)]) 32 rfl Try.underlying30 info54 rfl (by decide) (by omega) u5 n (⟨1,b.extract (a:Int).toNat ((wrap64 (a+l)):Int).toNat,0⟩ :S54) [.int .i64 1,.string (b.extract (a:Int).toNat ((wrap64 (a+l)):Int).toNat),.int .i64 0] (fun k_=>some k_≠(p:Value).ownBlock) (fun _=>False) rfl rfl ?aP (fun _ hk=>hk.elim) ?aF ?aO ?aB ?aS ?aL ?_;(case aP=>exact k54_mkM _ _ _ (⟨1,b.extract (a:Int).toNat ((wrap64 (a+l)):Int).toNat,0⟩ :S54));(case aB=>exact cB);(case aF=>exact(fun k_ hk=>Kd.fresh' (R_lt (mR c)) k_ hk));(case aO=>exact(mR i));(case aS=>exact(below_size cB));(case aL=>have:=bf.out;omega);intro bB bC ho hb hg hat;rw[← aZ.out]at ho;replace c:=aM (R_after (ok:=(fun _=>True)) (by exact rM c (fun _ hk=>⟨trivial,hk⟩)) hg hat);replace HB:=aM hb;have bh:=aM ho;clear i ho hb hg hat))
          go_roundg kj9
          case measure=>have:=HK1.out;have:=HJ9.out;omega
          case rel=>exact⟨(bg),(wrap64 (a+l)),rS,H',⟨by have:=HK1.out;have:=HJ9.out;omega⟩,⟨rM c (fun _ hk=>hk.2)⟩,⟨mR bh⟩,⟨cB⟩⟩
        ·rw[if_neg A]at H;have ay:decide (0<l)=false:=decide_eq_false A;clear A;replace H:=bE H;obtain⟨o,aV,H⟩:=H;by_cases E:o>0
         ·rw[if_pos E]at H;have aA:decide (0<o)=true:=decide_eq_true E;clear E;have HC26:=aM H;clear H
          go_upto_block 2 with(first|((with_reducible refine gate_callee (f:=24) rfl ?_);refine goesL_ (some 35) rfl rfl Try.func24 (by kernel_rfl) rfl #[.string b,.int .i64 a,.int .u8 97,.int .u8 122] rfl (by(try simp only[List.map_toArray,List.map_cons,List.map_nil]);first|done|rfl|(simp only[List.length_drop,List.length_take];rfl)) ?_;(with_reducible refine(spec_l08Word.calls ao.out).mono ?_);rintro e w' ⟨rfl,⟨nd,rfl⟩⟩;refine⟨_,rfl,?_⟩)|((with_reducible refine gate_callee (f:=24) rfl ?_);refine goesL_ (some 56) rfl rfl Try.func24 (by kernel_rfl) rfl #[.string b,.int .i64 a,.int .u8 48,.int .u8 57] rfl (by(try simp only[List.map_toArray,List.map_cons,List.map_nil]);first|done|rfl|(simp only[List.length_drop,List.length_take];rfl)) ?_;(with_reducible refine(spec_l08Word.calls aV.out).mono ?_);rintro e w' ⟨rfl,⟨nd,rfl⟩⟩;refine⟨_,rfl,?_⟩))
          (try simp only[Act.put,List.setIfInBounds_toArray,List.set_cons_zero,List.set_cons_succ])
          go_cut [8] (fun aW wc=> ∃ (kq:Nat) (I:Int),aW= .int .i64 I∧Aside0 (spec_SignsOf.j3 kq b q n a o I=some (r1,r2))∧Aside0 (kq≤kj9)∧Aside0 (Kd.R k54 54 wc w.heap.size (fun k_=>some k_≠(u5:Value).ownBlock) p q)∧Aside0 (Kd.R k54 54 wc w.heap.size (fun k_=>some k_≠(p:Value).ownBlock) u5 n)∧Aside0 (Below w.heap.size w wc))
          case first=>
           have H:=HC26.out;clear HC26;have H':=aM H;clear H;go_wp2
           go_loopg [8,9] kj9 (fun kq aW bi w'=> ∃ (af:Int) (G:Int),aW= .int .i64 af∧bi= .int .i64 G∧Aside0 (spec_SignsOf.l1 kq b q n a o af G=some (r1,r2))∧Aside0 (kq≤kj9)∧Aside0 (Kd.R k54 54 w' w.heap.size (fun k_=>some k_≠(u5:Value).ownBlock) p q)∧Aside0 (Kd.R k54 54 w' w.heap.size (fun k_=>some k_≠(p:Value).ownBlock) u5 n)∧Aside0 (Below w.heap.size w w'))
           case atStart=>exact⟨(0),(a),rS,rS,H',⟨Nat.le_refl _⟩,⟨mR c⟩,⟨mR i⟩,⟨cB⟩⟩
           case round=>
            clear H';(try clear s);(try clear W);(try clear X);(try clear u);(try clear ak);(try clear aJ);(try clear ab);(try clear y);(try clear z);(try clear an);(try clear x);(try clear al);(try clear am);(try clear ac);(try clear ad);(try clear ax);(try clear M);(try clear A);(try clear ay);(try clear D);(try clear az);(try clear ae);(try clear aK);(try clear aN);(try clear ap);(try clear aQ);(try clear aR);(try clear aq);(try clear aT);(try clear aU);(try clear ar);(try clear E);(try clear aA);obtain⟨af,G,rfl,rfl,HA,HK3,c,i,HB⟩:=hrel
            cases gk with
            | zero=>exact absurd HA.out (by simp[spec_SignsOf.l1])
            | succ k3=>
             have H:=HA.out;clear HA;simp only[spec_SignsOf.l1]at H;by_cases J:G<(wrap64 (a+o))
             ·rw[if_pos J]at H;have O:=decide_eq_true J;clear J
              (first|rw[O]|(simp only[i64_w,i32_w];rw[O])|skip)
              by_cases L:o≤10
              ·rw[if_pos L]at H;have aX:=decide_eq_true L;clear L;replace H:=gD H;obtain⟨a0,H⟩:=H;replace H:=gD H;obtain⟨a1,H⟩:=H;have H':=aM H;clear H;have aC:0≤(G:Int):=dA;have aD:G<(b.size:Int):=dA;have a2:=bt_at b G;replace aC:=eq_true aC;replace aD:=eq_true aD;go_wp2;go_roundg k3
               case measure=>have:=HK1.out;have:=HJ9.out;have:=HK3.out;omega
               case rel=>exact⟨(wrap64 ((wrap64 ((wrap64 (10*af))+(wrap64 (bt b G)))) - 48)),(wrap64 (G+1)),rS,rS,H',⟨by have:=HK1.out;have:=HJ9.out;have:=HK3.out;omega⟩,⟨mR c⟩,⟨mR i⟩,⟨cB⟩⟩
              ·rw[if_neg L]at H;have aX:=decide_eq_false L;clear L;have H':=aM H;clear H;go_wp2;go_meet
               case rel=>exact⟨_,(af),rS,H',⟨by have:=HK1.out;have:=HJ9.out;have:=HK3.out;first|omega|exact Nat.le_refl _⟩,⟨mR c⟩,⟨mR i⟩,⟨cB⟩⟩
             ·rw[if_neg J]at H;have O:=decide_eq_false J;clear J
              (first|rw[O]|(simp only[i64_w,i32_w];rw[O])|skip)
              have H':=aM H;clear H;go_wp2;go_meet
              case rel=>exact⟨_,(af),rS,H',⟨by have:=HK1.out;have:=HJ9.out;have:=HK3.out;first|omega|exact Nat.le_refl _⟩,⟨mR c⟩,⟨mR i⟩,⟨cB⟩⟩
          case rest=>
           clear HC26;(try clear s);(try clear W);(try clear X);(try clear u);(try clear ak);(try clear aJ);(try clear ab);(try clear y);(try clear z);(try clear an);(try clear x);(try clear al);(try clear am);(try clear ac);(try clear ad);(try clear ax);(try clear M);(try clear A);(try clear ay);(try clear D);(try clear az);(try clear ae);(try clear aK);(try clear aN);(try clear ap);(try clear aQ);(try clear aR);(try clear aq);(try clear aT);(try clear aU);(try clear ar);(try clear E);(try clear aA);(try clear J);(try clear O);(try clear L);(try clear aX);(try clear bj);(try clear a0);(try clear bk);(try clear a1);(try clear aC);(try clear aD);(try clear a2);obtain⟨kq,I,rfl,HA,HJ25,c,i,HB⟩:=hcut
           cases kq with
           | zero=>exact absurd HA.out (by simp[spec_SignsOf.j3])
           | succ kj25=>
            have H:=HA.out;clear HA;simp only[spec_SignsOf.j3]at H;have HC32:=aM H;clear H
            go_upto_region 22 with(fail)
            go_cut [85] (fun bl wc=> ∃ (kq:Nat) (aE:Bool),bl= .bool aE∧Aside0 (spec_SignsOf.j4 kq b q n a o I aE=some (r1,r2))∧Aside0 (kq≤kj25)∧Aside0 (Kd.R k54 54 wc w.heap.size (fun k_=>some k_≠(u5:Value).ownBlock) p q)∧Aside0 (Kd.R k54 54 wc w.heap.size (fun k_=>some k_≠(p:Value).ownBlock) u5 n)∧Aside0 (Below w.heap.size w wc))
            case first=>
             have H:=HC32.out;clear HC32;by_cases U:o>10
             ·rw[if_pos U]at H;have ag:decide (10<o)=true:=decide_eq_true U;clear U
              (first|rw[ag]|(simp only[i64_w,i32_w];rw[ag])|skip)
              have H':=aM H;clear H;go_wp2;go_meet
              case rel=>exact⟨_,(true),rS,H',⟨by have:=HK1.out;have:=HJ9.out;have:=HJ25.out;first|omega|exact Nat.le_refl _⟩,⟨mR c⟩,⟨mR i⟩,⟨cB⟩⟩
             ·rw[if_neg U]at H;have ag:decide (10<o)=false:=decide_eq_false U;clear U
              (first|rw[ag]|(simp only[i64_w,i32_w];rw[ag])|skip)
              replace H:=bE H;obtain⟨aH,bm,H⟩:=H;have H':=aM H;clear H
              go_wp2_with (first|(go_at_call 25;(with_reducible refine(spec_HalfOk.calls bm.out).mono ?_);rintro e w' ⟨rfl,⟨nd,rfl⟩⟩))
              go_meet
              case rel=>exact⟨_,(!aH),rS,H',⟨by have:=HK1.out;have:=HJ9.out;have:=HJ25.out;first|omega|exact Nat.le_refl _⟩,⟨mR c⟩,⟨mR i⟩,⟨cB⟩⟩
            case rest=>
             clear HC32;(try clear s);(try clear W);(try clear X);(try clear u);(try clear ak);(try clear aJ);(try clear ab);(try clear y);(try clear z);(try clear an);(try clear x);(try clear al);(try clear am);(try clear ac);(try clear ad);(try clear ax);(try clear M);(try clear A);(try clear ay);(try clear D);(try clear az);(try clear ae);(try clear aK);(try clear aN);(try clear ap);(try clear aQ);(try clear aR);(try clear aq);(try clear aT);(try clear aU);(try clear ar);(try clear E);(try clear aA);(try clear J);(try clear O);(try clear L);(try clear aX);(try clear bj);(try clear a0);(try clear bk);(try clear a1);(try clear aC);(try clear aD);(try clear a2);(try clear U);(try clear ag);obtain⟨kq,aE,rfl,HA,HJ31,c,i,HB⟩:=hcut
             cases kq with
             | zero=>exact absurd HA.out (by simp[spec_SignsOf.j4])
             | succ kj31=>
              have H:=HA.out;clear HA;simp only[spec_SignsOf.j4]at H;by_cases aG:aE=true
              ·subst aG;replace H:=iT H;simp only[Option.some.injEq,Prod.mk.injEq]at H;obtain⟨rfl,rfl⟩:=H;go_wp2;go_ret2
               exact⟨_,rE,by(with_reducible repeat(first|apply R_alloc|apply R_drewN|apply R_drew));exact R_mono c.out (fun _ hk=>trivial),cB⟩
              ·replace aG:=Bool.eq_false_iff.mpr aG;subst aG;replace H:=iF H;replace H:=gC H;obtain⟨a3,H⟩:=H;have bn:=aM a3;clear a3;obtain⟨bo,a4⟩ : ∃ y_:List (S54),Aside0 (y_=(n ++ [(⟨2,(⟨#[]⟩ :ByteArray),I⟩ :S54)])):=⟨_,⟨rfl⟩⟩;rw[← a4.out]at H;have H':=aM H;clear H
               go_wp2_with (first|((with_reducible refine gA 87 90 ?_);at_builtin;refine R_append k54 (w0:=w) w.heap.size rfl (.tmp 87) (.tmp 90) 30 54 (.agg #[(.int .i64 0),(.string ⟨#[]⟩),(.int .i64 0)]) 32 rfl Try.underlying30 info54 rfl (by decide) (by omega) u5 n (⟨2,(⟨#[]⟩ :ByteArray),I⟩ :S54) [.int .i64 2,.string (⟨#[]⟩ :ByteArray),.int .i64 I] (fun k_=>some k_≠(p:Value).ownBlock) (fun _=>False) rfl rfl ?aP (fun _ hk=>hk.elim) ?aF ?aO ?aB ?aS ?aL ?_;(case aP=>exact k54_mkM _ _ _ (⟨2,(⟨#[]⟩ :ByteArray),I⟩ :S54));(case aB=>exact cB);(case aF=>exact(fun k_ hk=>Kd.fresh' (R_lt (mR c)) k_ hk));(case aO=>exact(mR i));(case aS=>exact(below_size cB));(case aL=>have:=bn.out;omega);intro bD bF ho hb hg hat;rw[← a4.out]at ho;replace c:=aM (R_after (ok:=(fun _=>True)) (by exact rM c (fun _ hk=>⟨trivial,hk⟩)) hg hat);replace HB:=aM hb;have bp:=aM ho;clear i ho hb hg hat))
               go_roundg kj31
               case measure=>have:=HK1.out;have:=HJ9.out;have:=HJ25.out;have:=HJ31.out;omega
               case rel=>exact⟨(bo),(wrap64 (a+o)),rS,H',⟨by have:=HK1.out;have:=HJ9.out;have:=HJ25.out;have:=HJ31.out;omega⟩,⟨rM c (fun _ hk=>hk.2)⟩,⟨mR bp⟩,⟨cB⟩⟩
         ·rw[if_neg E]at H;have aA:decide (0<o)=false:=decide_eq_false E;clear E;replace H:=bE H;obtain⟨t,a5,H⟩:=H;by_cases au:t.toList=([] :List UInt8)
          ·rw[if_pos au]at H;obtain⟨bq,br⟩:=eT au;clear au;simp only[Option.some.injEq,Prod.mk.injEq]at H;obtain⟨rfl,rfl⟩:=H
           go_wp2_with (first|((with_reducible refine gF 24 ?_);refine gX (some 35) Try.func24 (spec_l08Word.calls ao.out) ?_;rintro w' ⟨nd,rfl⟩)|((with_reducible refine gF 24 ?_);refine gX (some 56) Try.func24 (spec_l08Word.calls aV.out) ?_;rintro w' ⟨nd,rfl⟩)|((with_reducible refine gF 26 ?_);refine gX (some 97) Try.func26 (spec_l08Mark.calls a5.out) ?_;intro bG hb;replace c:=rB c hb;replace i:=rB i hb;replace HB:=sB hb;(try clear hb)))
           go_ret2
           exact⟨_,rE,by(with_reducible repeat(first|apply R_alloc|apply R_drewN|apply R_drew));exact R_mono c.out (fun _ hk=>trivial),cB⟩
          ·rw[if_neg au]at H;obtain⟨bq,br⟩:=eF au;replace H:=gC H;obtain⟨a6,H⟩:=H;have bs:=aM a6;clear a6;obtain⟨bu,a7⟩ : ∃ y_:List (S54),Aside0 (y_=(n ++ [(⟨3,t,0⟩ :S54)])):=⟨_,⟨rfl⟩⟩;rw[← a7.out]at H;have H':=aM H;clear H
           go_wp2_with (first|((with_reducible refine gF 24 ?_);refine gX (some 35) Try.func24 (spec_l08Word.calls ao.out) ?_;rintro w' ⟨nd,rfl⟩)|((with_reducible refine gF 24 ?_);refine gX (some 56) Try.func24 (spec_l08Word.calls aV.out) ?_;rintro w' ⟨nd,rfl⟩)|((with_reducible refine gF 26 ?_);refine gX (some 97) Try.func26 (spec_l08Mark.calls a5.out) ?_;intro bH hb;replace c:=rB c hb;replace i:=rB i hb;replace HB:=sB hb;(try clear hb))|((with_reducible refine gA 101 104 ?_);at_builtin;refine R_append k54 (w0:=w) w.heap.size rfl (.tmp 101) (.tmp 104) 30 54 (.agg #[(.int .i64 0),(.string ⟨#[]⟩),(.int .i64 0)]) 32 rfl Try.underlying30 info54 rfl (by decide) (by omega) u5 n (⟨3,t,0⟩ :S54) [.int .i64 3,.string t,.int .i64 0] (fun k_=>some k_≠(p:Value).ownBlock) (fun _=>False) rfl rfl ?aP (fun _ hk=>hk.elim) ?aF ?aO ?aB ?aS ?aL ?_;(case aP=>exact k54_mkM _ _ _ (⟨3,t,0⟩ :S54));(case aB=>exact cB);(case aF=>exact(fun k_ hk=>Kd.fresh' (R_lt (mR c)) k_ hk));(case aO=>exact(mR i));(case aS=>exact(below_size cB));(case aL=>have:=bs.out;omega);intro bI bJ ho hb hg hat;rw[← a7.out]at ho;replace c:=aM (R_after (ok:=(fun _=>True)) (by exact rM c (fun _ hk=>⟨trivial,hk⟩)) hg hat);replace HB:=aM hb;have bv:=aM ho;clear i ho hb hg hat))
           go_roundg kj9
           case measure=>have:=HK1.out;have:=HJ9.out;omega
           case rel=>exact⟨(bu),(wrap64 (a+(t.size:Int))),rS,H',⟨by have:=HK1.out;have:=HJ9.out;omega⟩,⟨rM c (fun _ hk=>hk.2)⟩,⟨mR bv⟩,⟨cB⟩⟩
    ·rw[if_neg u]at H;have ak:=decide_eq_false u;clear u;simp only[Option.some.injEq,Prod.mk.injEq]at H;obtain⟨rfl,rfl⟩:=H;go_wp2;go_ret2
     exact⟨_,rE,by(with_reducible repeat(first|apply R_alloc|apply R_drewN|apply R_drew));exact R_mono i.out (fun _ hk=>trivial),cB⟩
end Go.Proofs.Ytfhjjfibblcklaa.PFnExactReadPolicy
