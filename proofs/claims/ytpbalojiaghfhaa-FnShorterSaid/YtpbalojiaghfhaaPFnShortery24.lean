import Derived.Test.YtpbalojiaghfhaaPFnShortery0
import Derived.Test.YtpbalojiaghfhaaPFnShortery4
import Derived.Test.YtpbalojiaghfhaaPFnShortery23
namespace Go.Proofs.Ytpbalojiaghfhaa.PFnShorter
open Go.RowKit Go.Proofs.YtpbalojiaghfhaaW.PrintWords Go.Proofs.YtpbalojiaghfhaaW.PrintLast Go.Proofs.YtpbalojiaghfhaaW.PrintMore Go.Proofs.YtpbalojiaghfhaaW.Z
open Kd
attribute [local go_sem] isS max2_int min2_int max_two min_two max_three min_three max_four min_four
set_option linter.unusedVariables false
set_option linter.unusedSimpArgs false
def spec_FieldAt.j0:Nat→Int→Bool→Int→Int→List (S93)→Option (Int×Bool)
  | 0,_,_,_,_,_=>none
  | k+1,J,ba,bb,bd,ax=>if ba=true then(some (0,false))else(if J=0 then(some (bd,true))else(if J=1 then(some (bb,true))else(if 0≤(wrap64 (Int.tdiv (wrap64 (J - 2)) 2))then(if(wrap64 (Int.tdiv (wrap64 (J - 2)) 2))<(ax.length:Int)then(if(Int.tmod J 2)=0 then(some ((rd_T93 ax (wrap64 (Int.tdiv (wrap64 (J - 2)) 2))).f1,true))else(some ((rd_T93 ax (wrap64 (Int.tdiv (wrap64 (J - 2)) 2))).f0,true)))else(none))else(none))))
def spec_FieldAt.f (k:Nat) (d:Int) (g:Int) (q:List (S93)) (i:Int):Option (Int×Bool):=(spec_CallOk.f k d g q).bind fun ay=>(if ay=true then((spec_l01In.f i 0 7).bind fun az=>(spec_FieldAt.j0 k i (!az) d g q))else(spec_FieldAt.j0 k i true d g q))
set_option maxHeartbeats 8000000 in
set_option maxRecDepth 100000 in
theorem spec_FieldAt.calls {k:Nat}{d:Int}{g:Int}{aq:Option Addr}{ar:Nat}{q:List (S93)}{i:Int}{r1:Int}{r2:Bool}{w:World}(h:spec_FieldAt.f k d g q i=some (r1,r2))(aN:Kd.C k93 w aq q.length q)(aO:q.length≤ar) :
 Calls Try.prog 45 #[.agg #[.int .i64 d,.int .i64 g,.slice aq q.length ar],.int .i64 i] w fun e w'=>e= .returned (.tuple #[.int .i64 r1,.bool r2])∧Below w.heap.size w w':=by
 have hu28:=Try.underlying28;have hu93:=Try.underlying93;have HR0_2:=aM aN;have HC0_2:=aM aO;clear aN aO;have HB:=rW w
 unfold spec_FieldAt.f at h;have H:=h
 clear h;have HC3:=aM H;clear H;go_enter Try.func45,Try.ntmps45
 go_upto_region 1 with(first|((with_reducible refine gN 2 ?_);refine boxZ 2 #[.int .i64 d,.int .i64 g,.slice aq q.length ar] 28 ?_;intro be hg aP hbox hb;have l:=aM hbox;have GW1055:=gS hg;have GE1055:=gS hg;replace HB:=sB hb;clear hb hbox hg))
 (try simp only[Act.put,List.setIfInBounds_toArray,List.set_cons_zero,List.set_cons_succ])
 go_cut [14] (fun bf wc=> ∃ (kq:Nat) (au:Bool),bf= .bool au∧Aside0 (spec_FieldAt.j0 kq i au d g q=some (r1,r2))∧Aside0 (kq≤k)∧Aside0 (wc.heap[be]?=some (.cells #[.int .i64 d,.int .i64 g,(.slice aq q.length ar)] 28 (0,0)))∧Aside0 (Below w.heap.size w wc))
 case first=>
  have H:=HC3.out;clear HC3;replace H:=bE H;obtain⟨ay,X,H⟩:=H;by_cases o:ay=true
  ·subst o;replace H:=iT H;replace H:=bE H;obtain⟨az,aA,H⟩:=H;have H':=aM H;clear H;obtain⟨aQ,aR,aS,aT,aU,aV⟩:=cz3 l
   go_wp2_with (first|((with_reducible refine gF 44 ?_);refine gX (some 8) Try.func44 (spec_CallOk.calls X.out (cH HR0_2) HC0_2.out) ?_;intro b1 hb;replace l:=kB l hb;replace HB:=sB hb;(try clear hb))|(go_at_call 41;(with_reducible refine(spec_l01In.calls aA.out).mono ?_);rintro e w' ⟨rfl,⟨nd,rfl⟩⟩))
   go_meet
   case rel=>exact⟨_,(!az),rS,H',⟨oL⟩,⟨mK l⟩,⟨cB⟩⟩
  ·replace o:=Bool.eq_false_iff.mpr o;subst o;replace H:=iF H;have H':=aM H;clear H;obtain⟨bg,bh,bi,bj,bk,bl⟩:=cz3 l
   go_wp2_with (first|((with_reducible refine gF 44 ?_);refine gX (some 8) Try.func44 (spec_CallOk.calls X.out (cH HR0_2) HC0_2.out) ?_;intro bm hb;replace l:=kB l hb;replace HB:=sB hb;(try clear hb)))
   go_meet
   case rel=>exact⟨_,(true),rS,H',⟨oL⟩,⟨mK l⟩,⟨cB⟩⟩
 case rest=>
  clear HC3;(try clear o);(try clear bg bh bi);(try clear aQ aR aS);(try clear bj bk bl);(try clear aT aU aV);obtain⟨kq,au,rfl,HA,HJ2,l,HB⟩:=hcut
  cases kq with
  | zero=>exact absurd HA.out (by simp[spec_FieldAt.j0])
  | succ kj2=>
   have H:=HA.out;clear HA;simp only[spec_FieldAt.j0]at H;by_cases A:au=true
   ·subst A;replace H:=iT H;simp only[Option.some.injEq,Prod.mk.injEq]at H;obtain⟨rfl,rfl⟩:=H;go_wp2;go_ret2;exact⟨rE,cB⟩
   ·replace A:=Bool.eq_false_iff.mpr A;subst A;replace H:=iF H;by_cases s:i=0
    ·rw[if_pos s]at H;obtain⟨aB,bn⟩:=eT s;clear s;simp only[Option.some.injEq,Prod.mk.injEq]at H;obtain⟨rfl,rfl⟩:=H;obtain⟨b5,b8,b9,ca,cb,cc⟩:=cz3 l;go_wp2;go_ret2;exact⟨rE,cB⟩
    ·rw[if_neg s]at H;obtain⟨aB,bn⟩:=eF s;by_cases t:i=1
     ·rw[if_pos t]at H;obtain⟨aC,aD⟩:=eT t;clear t;simp only[Option.some.injEq,Prod.mk.injEq]at H;obtain⟨rfl,rfl⟩:=H;obtain⟨cd,ce,cf,cg,ch,ci⟩:=cz3 l;go_wp2;go_ret2;exact⟨rE,cB⟩
     ·rw[if_neg t]at H;obtain⟨aC,aD⟩:=eF t;obtain⟨ji17,hji17⟩ : ∃ j_:Int,(wrap64 (Int.tdiv (wrap64 (i - 2)) 2))=j_:=⟨_,rfl⟩
      (first|rw[hji17]at H|simp only[hji17]at H)
      have hji17w:(IntKind.i64.wrap (Int.tdiv (wrap64 (i - 2)) 2))=ji17:=(i64_w _).trans hji17;replace H:=gD H;obtain⟨cj,H⟩:=H;replace H:=gD H;obtain⟨ck,H⟩:=H;by_cases Y:(Int.tmod i 2)=0
      ·rw[if_pos Y]at H;obtain⟨bo,bp⟩:=eT Y;clear Y;simp only[Option.some.injEq,Prod.mk.injEq]at H;obtain⟨rfl,rfl⟩:=H;obtain⟨cl,cm,cn,co,cp,cq⟩:=cz3 l;obtain⟨bq,br,bs,aE,bu,bv⟩:=b2 HB (at_T93 HR0_2.out (ji17));cases aE
       go_wp2_with (first|((with_reducible refine gN 6 ?_);refine boxZ 6 #[.int .i64 0,.int .i64 0] 93 ?_;intro bw hg cr hbox hb;have aF:=aM hbox;have GW1059:=gS hg;have GE1059:=gS hg;replace HB:=sB hb;have aG:=nL hg l;have aH:=nG hg l;replace l:=kB l hb;clear hb hbox hg;have hnb23:=aH.out;have hnc23:=aG.out;obtain⟨cs,ct,cu,cv⟩:=cz2 aF))
       go_ret2
       exact⟨by first|rfl|(simp[errW_none,errW_some] <;> rfl)|(simp only[← hji17];first|rfl|(simp[errW_none,errW_some] <;> rfl))|(simp[*,errW_none,errW_some] <;> rfl),cB⟩
      ·rw[if_neg Y]at H;obtain⟨bo,bp⟩:=eF Y;simp only[Option.some.injEq,Prod.mk.injEq]at H;obtain⟨rfl,rfl⟩:=H;obtain⟨bx,bz,bA,bB,bC,bD⟩:=cz3 l;obtain⟨bq,br,bs,aE,bu,bv⟩:=b2 HB (at_T93 HR0_2.out (ji17));cases aE
       go_wp2_with (first|((with_reducible refine gN 6 ?_);refine boxZ 6 #[.int .i64 0,.int .i64 0] 93 ?_;intro bw hg cw hbox hb;have aF:=aM hbox;have GW1059:=gS hg;have GE1059:=gS hg;replace HB:=sB hb;have aG:=nL hg l;have aH:=nG hg l;replace l:=kB l hb;clear hb hbox hg;have hnb27:=aH.out;have hnc27:=aG.out;obtain⟨cx,cy,cz,cA⟩:=cz2 aF))
       go_ret2
       exact⟨by first|rfl|(simp[errW_none,errW_some] <;> rfl)|(simp only[← hji17];first|rfl|(simp[errW_none,errW_some] <;> rfl))|(simp[*,errW_none,errW_some] <;> rfl),cB⟩
def spec_l07Asks.f (d:Int) (g:Int) (L:Int) (M:Int) (i:Int):Option (Bool):=if d=3 then(some (i == g))else(if d=4 then(some (decide (i>g)))else(if d=5 then(some (decide (i≥g)))else(some ((Go.bits .and .i64 i g) !=0))))
set_option maxHeartbeats 8000000 in
set_option maxRecDepth 100000 in
theorem spec_l07Asks.calls {d:Int}{g:Int}{L:Int}{M:Int}{i:Int}{r:Bool}{w:World}(h:spec_l07Asks.f d g L M i=some r) :
 Calls Try.prog 46 #[.agg #[.int .i64 d,.int .i64 g,.int .i64 L,.int .i64 M],.int .i64 i] w fun e w'=>e= .returned (.bool r)∧Below w.heap.size w w':=by
 have hu34:=Try.underlying34;have HB:=rW w;have H:(if d=3 then(some (i == g))else(if d=4 then(some (decide (i>g)))else(if d=5 then(some (decide (i≥g)))else(some ((Go.bits .and .i64 i g) !=0)))))=some r:=h;clear h;by_cases aa:d=3
 ·rw[if_pos aa]at H;obtain⟨bF,bG⟩:=eT aa;clear aa;obtain rfl:=Option.some.inj H;go_enter Try.func46,Try.ntmps46
  go_wp2_with (first|((with_reducible refine gN 2 ?_);refine boxZ 2 #[.int .i64 d,.int .i64 g,.int .i64 L,.int .i64 M] 34 ?_;intro aI hg aP hbox hb;have O:=aM hbox;have GW1060:=gS hg;have GE1060:=gS hg;replace HB:=sB hb;clear hb hbox hg;obtain⟨cD,cE,cF,cG,cI,cJ,cL,cM⟩:=cz4 O))
  go_ret;exact⟨rE,cB⟩
 ·rw[if_neg aa]at H;obtain⟨bF,bG⟩:=eF aa;by_cases o:d=4
  ·rw[if_pos o]at H;obtain⟨bH,bI⟩:=eT o;clear o;obtain rfl:=Option.some.inj H;go_enter Try.func46,Try.ntmps46
   go_wp2_with (first|((with_reducible refine gN 2 ?_);refine boxZ 2 #[.int .i64 d,.int .i64 g,.int .i64 L,.int .i64 M] 34 ?_;intro aI hg cN hbox hb;have O:=aM hbox;have GW1060:=gS hg;have GE1060:=gS hg;replace HB:=sB hb;clear hb hbox hg;obtain⟨aQ,aR,aS,cO,aT,aU,aV,cP⟩:=cz4 O))
   go_ret;exact⟨rE,cB⟩
  ·rw[if_neg o]at H;obtain⟨bH,bI⟩:=eF o;by_cases ab:d=5
   ·rw[if_pos ab]at H;obtain⟨bJ,bL⟩:=eT ab;clear ab;obtain rfl:=Option.some.inj H;go_enter Try.func46,Try.ntmps46
    go_wp2_with (first|((with_reducible refine gN 2 ?_);refine boxZ 2 #[.int .i64 d,.int .i64 g,.int .i64 L,.int .i64 M] 34 ?_;intro aI hg bM hbox hb;have O:=aM hbox;have GW1060:=gS hg;have GE1060:=gS hg;replace HB:=sB hb;clear hb hbox hg;obtain⟨cQ,cR,cS,cT,cU,cV,cW,cX⟩:=cz4 O))
    go_ret;exact⟨rE,cB⟩
   ·rw[if_neg ab]at H;obtain⟨bJ,bL⟩:=eF ab;obtain rfl:=Option.some.inj H;go_enter Try.func46,Try.ntmps46
    go_wp2_with (first|((with_reducible refine gN 2 ?_);refine boxZ 2 #[.int .i64 d,.int .i64 g,.int .i64 L,.int .i64 M] 34 ?_;intro aI hg cY hbox hb;have O:=aM hbox;have GW1060:=gS hg;have GE1060:=gS hg;replace HB:=sB hb;clear hb hbox hg;obtain⟨cZ,c0,c1,c3,c6,c9,da,db⟩:=cz4 O))
    go_ret;exact⟨rE,cB⟩
mutual
def spec_Run.j0:Nat→List (S34)→Bool→Int→Int→List (S93)→Option (Int×Int)
  | 0,_,_,_,_,_=>none
  | k+1,j,bN,D,E,G=>if bN=true then(some (0,0))else(spec_Run.l0 k j 0 0 0 D E G)
def spec_Run.l0:Nat→List (S34)→Int→Int→Int→Int→Int→List (S93)→Option (Int×Int)
  | 0,_,_,_,_,_,_,_=>none
  | k+1,j,ac,W,m,D,E,G=>if m<(j.length:Int)then(if 0≤m then(if((rd_T34 j m).f0)=1 then((spec_FieldAt.f k D E G ((rd_T34 j m).f1)).bind fun bO=>(spec_Run.l0 k j bO.1 (wrap64 (W+1)) (wrap64 (m+1)) D E G))else(if((rd_T34 j m).f0)=2 then(spec_Run.l0 k j (Go.bits .and .i64 ac ((rd_T34 j m).f1)) (wrap64 (W+1)) (wrap64 (m+1)) D E G)else(if((rd_T34 j m).f0)=7 then(spec_Run.l0 k j ac (wrap64 (W+1)) (wrap64 ((wrap64 (m+((rd_T34 j m).f1)))+1)) D E G)else(if((rd_T34 j m).f0)=8 then(some ((rd_T34 j m).f1,wrap64 (W+1)))else((spec_l07Asks.f ((rd_T34 j m).f0) ((rd_T34 j m).f1) ((rd_T34 j m).f2) ((rd_T34 j m).f3) ac).bind fun aJ=>(if aJ=true then(spec_Run.l0 k j ac (wrap64 (W+1)) (wrap64 ((wrap64 (m+((rd_T34 j m).f2)))+1)) D E G)else(spec_Run.l0 k j ac (wrap64 (W+1)) (wrap64 ((wrap64 (m+((rd_T34 j m).f3)))+1)) D E G)))))))else(none))else(some (0,0))
end
def spec_Run.f (k:Nat) (c:List (S34)) (u:Int) (v:Int) (p:List (S93)):Option (Int×Int):=(spec_CheckProgram.f k c).bind fun aK=>(if aK=true then((spec_CallOk.f k u v p).bind fun aL=>(spec_Run.j0 k c (!aL) u v p))else(spec_Run.j0 k c true u v p))
set_option maxHeartbeats 8000000 in
set_option maxRecDepth 100000 in
theorem spec_Run.calls {k:Nat}{aW:Option Addr}{aX:Nat}{c:List (S34)}{u:Int}{v:Int}{ad:Option Addr}{ae:Nat}{p:List (S93)}{r1:Int}{r2:Int}{w:World}(h:spec_Run.f k c u v p=some (r1,r2))(aY:Kd.C k34 w aW c.length c)(aZ:c.length≤aX)(a0:Kd.C k93 w ad p.length p)(a1:p.length≤ae) :
 Calls Try.prog 14 #[.slice aW c.length aX,.agg #[.int .i64 u,.int .i64 v,.slice ad p.length ae]] w fun e w'=>e= .returned (.tuple #[.int .i64 r1,.int .i64 r2])∧Below w.heap.size w w':=by
 have hu28:=Try.underlying28;have hu34:=Try.underlying34;have HR0:=aM aY;have HC0:=aM aZ;clear aY aZ;have HR1_2:=aM a0;have HC1_2:=aM a1;clear a0 a1;have HB:=rW w
 unfold spec_Run.f at h;have H:=h
 clear h;have HC3:=aM H;clear H;go_enter Try.func14,Try.ntmps14
 go_upto_region 1 with(first|((with_reducible refine gN 3 ?_);refine boxZ 3 #[.int .i64 u,.int .i64 v,.slice ad p.length ae] 28 ?_;intro a2 hg aP hbox hb;have a:=aM hbox;have GW1061:=gS hg;have GE1061:=gS hg;replace HB:=sB hb;clear hb hbox hg))
 (try simp only[Act.put,List.setIfInBounds_toArray,List.set_cons_zero,List.set_cons_succ])
 go_cut [17] (fun bP wc=> ∃ (kq:Nat) (av:Bool),bP= .bool av∧Aside0 (spec_Run.j0 kq c av u v p=some (r1,r2))∧Aside0 (kq≤k)∧Aside0 (wc.heap[a2]?=some (.cells #[.int .i64 u,.int .i64 v,(.slice ad p.length ae)] 28 (0,0)))∧Aside0 (Below w.heap.size w wc))
 case first=>
  have H:=HC3.out;clear HC3;replace H:=bE H;obtain⟨aK,X,H⟩:=H;by_cases o:aK=true
  ·subst o;replace H:=iT H;replace H:=bE H;obtain⟨aL,aA,H⟩:=H;have H':=aM H;clear H
   go_wp2_with (first|((with_reducible refine gF 12 ?_);refine gX (some 11) Try.func12 (spec_CheckProgram.calls X.out (cH HR0) HC0.out) ?_;intro dc hb;replace a:=kB a hb;replace HB:=sB hb;(try clear hb);obtain⟨a3,a4,a5,a6,a7,a8⟩:=cz3 a)|(go_at_call 44;(with_reducible refine(spec_CallOk.calls aA.out ?side1 ?side2).mono ?_);(case side1=>exact cH HR1_2);(case side2=>exact HC1_2.out);rintro e bM ⟨rfl,hb⟩;replace a:=kB a hb;replace HB:=sB hb;(try clear hb)))
   go_meet
   case rel=>exact⟨_,(!aL),rS,H',⟨oL⟩,⟨mK a⟩,⟨cB⟩⟩
  ·replace o:=Bool.eq_false_iff.mpr o;subst o;replace H:=iF H;have H':=aM H;clear H
   go_wp2_with (first|((with_reducible refine gF 12 ?_);refine gX (some 11) Try.func12 (spec_CheckProgram.calls X.out (cH HR0) HC0.out) ?_;intro bm hb;replace a:=kB a hb;replace HB:=sB hb;(try clear hb)))
   go_meet
   case rel=>exact⟨_,(true),rS,H',⟨oL⟩,⟨mK a⟩,⟨cB⟩⟩
 case rest=>
  clear HC3;(try clear o);(try clear a3 a4 a5);(try clear a6 a7 a8);obtain⟨kq,av,rfl,HA,HJ2,a,HB⟩:=hcut
  cases kq with
  | zero=>exact absurd HA.out (by simp[spec_Run.j0])
  | succ kj2=>
   have H:=HA.out;clear HA;simp only[spec_Run.j0]at H;by_cases A:av=true
   ·subst A;replace H:=iT H;simp only[Option.some.injEq,Prod.mk.injEq]at H;obtain⟨rfl,rfl⟩:=H;go_wp2;go_ret2;exact⟨rE,cB⟩
   ·replace A:=Bool.eq_false_iff.mpr A;subst A;replace H:=iF H;have H':=aM H;clear H;go_wp2
    go_loopg [6,7,8] kj2 (fun kq bQ bR bS w'=> ∃ (U:Int) (I:Int) (b:Int),bQ= .int .i64 U∧bR= .int .i64 I∧bS= .int .i64 b∧Aside0 (spec_Run.l0 kq c U I b u v p=some (r1,r2))∧Aside0 (kq≤kj2)∧Aside0 (w'.heap[a2]?=some (.cells #[.int .i64 u,.int .i64 v,(.slice ad p.length ae)] 28 (0,0)))∧Aside0 (Below w.heap.size w w'))
    case atStart=>exact⟨(0),(0),(0),rS,rS,rS,H',⟨Nat.le_refl _⟩,⟨mK a⟩,⟨cB⟩⟩
    case round=>
     clear H';(try clear o);(try clear A);(try clear a3 a4 a5);(try clear a6 a7 a8);obtain⟨U,I,b,rfl,rfl,rfl,HA,HK2,a,HB⟩:=hrel
     cases gk with
     | zero=>exact absurd HA.out (by simp[spec_Run.l0])
     | succ k2=>
      have H:=HA.out;clear HA;simp only[spec_Run.l0]at H;by_cases s:b<(c.length:Int)
      ·rw[if_pos s]at H;have aB:=decide_eq_true s;clear s;replace H:=gD H;obtain⟨dd,H⟩:=H;by_cases t:((rd_T34 c b).f0)=1
       ·rw[if_pos t]at H;obtain⟨aC,aD⟩:=eT t;clear t;replace H:=bE H;obtain⟨⟨bT,de⟩,bU,H⟩:=H;(try dsimp only at H);have H':=aM H;clear H;obtain⟨af,ag,ah,x,ai,aj,ak,al⟩:=b4 HB (at_T34 HR0.out b);cases x
        go_wp2_with (first|((with_reducible refine gN 9 ?_);refine boxZ 9 #[.int .i64 0,.int .i64 0,.int .i64 0,.int .i64 0] 34 ?_;intro am hg df hbox hb;have n:=aM hbox;have GW1065:=gS hg;have GE1065:=gS hg;replace HB:=sB hb;have y:=nL hg a;have z:=nG hg a;replace a:=kB a hb;clear hb hbox hg;have hnb18:=z.out;have hnc18:=y.out;obtain⟨dg,dh,di,dj,dk,dl,dm,dn⟩:=cz4 n;obtain⟨dp,dq,dr,ds,dt,du⟩:=cz3 a)|((with_reducible refine gF 45 ?_);refine gX (some 49) Try.func45 (spec_FieldAt.calls bU.out (C_below HR1_2.out cB) HC1_2.out) ?_;intro dv hb;replace a:=kB a hb;replace n:=kP n hb (.cells #[.int .i64 ((rd_T34 c b).f0),.int .i64 ((rd_T34 c b).f1),.int .i64 ((rd_T34 c b).f2),.int .i64 ((rd_T34 c b).f3)] 34 (0,0));replace HB:=sB hb;(try clear hb)))
        go_roundg k2
        case measure=>have:=HJ2.out;have:=HK2.out;omega
        case rel=>exact⟨(bT),(wrap64 (I+1)),(wrap64 (b+1)),rS,rS,rS,H',⟨by have:=HJ2.out;have:=HK2.out;omega⟩,⟨mK a⟩,⟨cB⟩⟩
       ·rw[if_neg t]at H;obtain⟨aC,aD⟩:=eF t;by_cases an:((rd_T34 c b).f0)=2
        ·rw[if_pos an]at H;obtain⟨bV,bW⟩:=eT an;clear an;have H':=aM H;clear H;obtain⟨af,ag,ah,x,ai,aj,ak,al⟩:=b4 HB (at_T34 HR0.out b);cases x
         go_wp2_with (first|((with_reducible refine gN 9 ?_);refine boxZ 9 #[.int .i64 0,.int .i64 0,.int .i64 0,.int .i64 0] 34 ?_;intro am hg dw hbox hb;have n:=aM hbox;have GW1065:=gS hg;have GE1065:=gS hg;replace HB:=sB hb;have y:=nL hg a;have z:=nG hg a;replace a:=kB a hb;clear hb hbox hg;have hnb24:=z.out;have hnc24:=y.out;obtain⟨bx,bz,bA,dx,bB,bC,bD,dy⟩:=cz4 n))
         go_roundg k2
         case measure=>have:=HJ2.out;have:=HK2.out;omega
         case rel=>exact⟨(Go.bits .and .i64 U ((rd_T34 c b).f1)),(wrap64 (I+1)),(wrap64 (b+1)),rS,rS,rS,H',⟨by have:=HJ2.out;have:=HK2.out;omega⟩,⟨mK a⟩,⟨cB⟩⟩
        ·rw[if_neg an]at H;obtain⟨bV,bW⟩:=eF an;by_cases ao:((rd_T34 c b).f0)=7
         ·rw[if_pos ao]at H;obtain⟨bX,bY⟩:=eT ao;clear ao;have H':=aM H;clear H;obtain⟨af,ag,ah,x,ai,aj,ak,al⟩:=b4 HB (at_T34 HR0.out b);cases x
          go_wp2_with (first|((with_reducible refine gN 9 ?_);refine boxZ 9 #[.int .i64 0,.int .i64 0,.int .i64 0,.int .i64 0] 34 ?_;intro am hg dz hbox hb;have n:=aM hbox;have GW1065:=gS hg;have GE1065:=gS hg;replace HB:=sB hb;have y:=nL hg a;have z:=nG hg a;replace a:=kB a hb;clear hb hbox hg;have hnb28:=z.out;have hnc28:=y.out;obtain⟨dC,dD,dE,dF,dG,dH,dI,dJ⟩:=cz4 n))
          go_roundg k2
          case measure=>have:=HJ2.out;have:=HK2.out;omega
          case rel=>exact⟨(U),(wrap64 (I+1)),(wrap64 ((wrap64 (b+((rd_T34 c b).f1)))+1)),rS,rS,rS,H',⟨by have:=HJ2.out;have:=HK2.out;omega⟩,⟨mK a⟩,⟨cB⟩⟩
         ·rw[if_neg ao]at H;obtain⟨bX,bY⟩:=eF ao;by_cases ap:((rd_T34 c b).f0)=8
          ·rw[if_pos ap]at H;obtain⟨bZ,b0⟩:=eT ap;clear ap;simp only[Option.some.injEq,Prod.mk.injEq]at H;obtain⟨rfl,rfl⟩:=H;obtain⟨af,ag,ah,x,ai,aj,ak,al⟩:=b4 HB (at_T34 HR0.out b);cases x
           go_wp2_with (first|((with_reducible refine gN 9 ?_);refine boxZ 9 #[.int .i64 0,.int .i64 0,.int .i64 0,.int .i64 0] 34 ?_;intro am hg dK hbox hb;have n:=aM hbox;have GW1065:=gS hg;have GE1065:=gS hg;replace HB:=sB hb;have y:=nL hg a;have z:=nG hg a;replace a:=kB a hb;clear hb hbox hg;have hnb32:=z.out;have hnc32:=y.out;obtain⟨dL,dM,dN,dO,dP,dQ,dS,dT⟩:=cz4 n))
           go_ret2;exact⟨rE,cB⟩
          ·rw[if_neg ap]at H;obtain⟨bZ,b0⟩:=eF ap;replace H:=bE H;obtain⟨aJ,a9,H⟩:=H;by_cases aw:aJ=true
           ·subst aw;replace H:=iT H;have H':=aM H;clear H;obtain⟨af,ag,ah,x,ai,aj,ak,al⟩:=b4 HB (at_T34 HR0.out b);cases x
            go_wp2_with (first|((with_reducible refine gN 9 ?_);refine boxZ 9 #[.int .i64 0,.int .i64 0,.int .i64 0,.int .i64 0] 34 ?_;intro am hg dU hbox hb;have n:=aM hbox;have GW1065:=gS hg;have GE1065:=gS hg;replace HB:=sB hb;have y:=nL hg a;have z:=nG hg a;replace a:=kB a hb;clear hb hbox hg;have hnb37:=z.out;have hnc37:=y.out;obtain⟨dV,dX,dY,dZ,d0,d1,d2,d3⟩:=cz4 n)|((with_reducible refine gF 46 ?_);refine gX (some 34) Try.func46 (spec_l07Asks.calls a9.out) ?_;intro d4 hb;replace a:=kB a hb;replace n:=kP n hb (.cells #[.int .i64 ((rd_T34 c b).f0),.int .i64 ((rd_T34 c b).f1),.int .i64 ((rd_T34 c b).f2),.int .i64 ((rd_T34 c b).f3)] 34 (0,0));replace HB:=sB hb;(try clear hb);obtain⟨d5,d6,d7,d8,d9,ea,eb,ec⟩:=cz4 n))
            go_roundg k2
            case measure=>have:=HJ2.out;have:=HK2.out;omega
            case rel=>exact⟨(U),(wrap64 (I+1)),(wrap64 ((wrap64 (b+((rd_T34 c b).f2)))+1)),rS,rS,rS,H',⟨by have:=HJ2.out;have:=HK2.out;omega⟩,⟨mK a⟩,⟨cB⟩⟩
           ·replace aw:=Bool.eq_false_iff.mpr aw;subst aw;replace H:=iF H;have H':=aM H;clear H;obtain⟨af,ag,ah,x,ai,aj,ak,al⟩:=b4 HB (at_T34 HR0.out b);cases x
            go_wp2_with (first|((with_reducible refine gN 9 ?_);refine boxZ 9 #[.int .i64 0,.int .i64 0,.int .i64 0,.int .i64 0] 34 ?_;intro am hg ed hbox hb;have n:=aM hbox;have GW1065:=gS hg;have GE1065:=gS hg;replace HB:=sB hb;have y:=nL hg a;have z:=nG hg a;replace a:=kB a hb;clear hb hbox hg;have hnb42:=z.out;have hnc42:=y.out;obtain⟨ee,ef,eg,eh,ei,ej,ek,el⟩:=cz4 n)|((with_reducible refine gF 46 ?_);refine gX (some 34) Try.func46 (spec_l07Asks.calls a9.out) ?_;intro em hb;replace a:=kB a hb;replace n:=kP n hb (.cells #[.int .i64 ((rd_T34 c b).f0),.int .i64 ((rd_T34 c b).f1),.int .i64 ((rd_T34 c b).f2),.int .i64 ((rd_T34 c b).f3)] 34 (0,0));replace HB:=sB hb;(try clear hb);obtain⟨en,eo,ep,eq,er,es,et,eu⟩:=cz4 n))
            go_roundg k2
            case measure=>have:=HJ2.out;have:=HK2.out;omega
            case rel=>exact⟨(U),(wrap64 (I+1)),(wrap64 ((wrap64 (b+((rd_T34 c b).f3)))+1)),rS,rS,rS,H',⟨by have:=HJ2.out;have:=HK2.out;omega⟩,⟨mK a⟩,⟨cB⟩⟩
      ·rw[if_neg s]at H;have aB:=decide_eq_false s;clear s;simp only[Option.some.injEq,Prod.mk.injEq]at H;obtain⟨rfl,rfl⟩:=H;go_wp2;go_ret2;exact⟨rE,cB⟩
end Go.Proofs.Ytpbalojiaghfhaa.PFnShorter
