import Derived.Test.YtpbalojiaghfhaaPFnStacksy0
import Derived.Test.YtpbalojiaghfhaaPFnStacksy2
import Derived.Test.YtpbalojiaghfhaaPFnStacksy20
import Derived.Test.YtpbalojiaghfhaaPFnStacksy21
import Derived.Test.YtpbalojiaghfhaaPFnStacksy22
namespace Go.Proofs.Ytpbalojiaghfhaa.PFnStacks
open Go.RowKit Go.Proofs.YtpbalojiaghfhaaW.PrintWords Go.Proofs.YtpbalojiaghfhaaW.PrintLast Go.Proofs.YtpbalojiaghfhaaW.PrintMore Go.Proofs.YtpbalojiaghfhaaW.Z
open Kd
attribute [local go_sem] isS max2_int min2_int max_two min_two max_three min_three max_four min_four
set_option linter.unusedVariables false
set_option linter.unusedSimpArgs false
mutual
def impl_Run.j0:Nat→List (S34)→Bool→Int→Int→List (S93)→Option (Int×Int)
  | 0,_,_,_,_,_=>none
  | k+1,i,a2,M,O,U=>if a2=true then(some (0,0))else(impl_Run.l0 k i 0 0 1 M O U)
def impl_Run.l0:Nat→List (S34)→Int→Int→Int→Int→Int→List (S93)→Option (Int×Int)
  | 0,_,_,_,_,_,_,_=>none
  | k+1,i,ae,g,I,M,O,U=>if 0≤g then(if g<(i.length:Int)then(if((rd_T34 i g).f0)=1 then((impl_FieldAt.f k M O U ((rd_T34 i g).f1)).bind fun bQ=>(impl_Run.l0 k i bQ.1 (wrap64 (g+1)) (wrap64 (I+1)) M O U))else(if((rd_T34 i g).f0)=2 then(impl_Run.l0 k i (Go.bits .and .i64 ae ((rd_T34 i g).f1)) (wrap64 (g+1)) (wrap64 (I+1)) M O U)else(if((rd_T34 i g).f0)=7 then(impl_Run.l0 k i ae (wrap64 ((wrap64 (g+1))+((rd_T34 i g).f1))) (wrap64 (I+1)) M O U)else(if((rd_T34 i g).f0)=8 then(some ((rd_T34 i g).f1,I))else((impl_Ins_holds.f ((rd_T34 i g).f0) ((rd_T34 i g).f1) ((rd_T34 i g).f2) ((rd_T34 i g).f3) ae).bind fun a3=>(if a3=true then(impl_Run.l0 k i ae (wrap64 ((wrap64 (g+1))+((rd_T34 i g).f2))) (wrap64 (I+1)) M O U)else(impl_Run.l0 k i ae (wrap64 ((wrap64 (g+1))+((rd_T34 i g).f3))) (wrap64 (I+1)) M O U)))))))else(none))else(none)
end
def impl_Run.f (k:Nat) (a:List (S34)) (j:Int) (l:Int) (d:List (S93)):Option (Int×Int):=(impl_CheckProgram.f k a).bind fun a4=>(if a4=true then((impl_CallOk.f k j l d).bind fun a5=>(impl_Run.j0 k a (!a5) j l d))else(impl_Run.j0 k a true j l d))
set_option maxHeartbeats 8000000 in
set_option maxRecDepth 100000 in
theorem impl_Run.calls {k:Nat}{q:Option Addr}{s:Nat}{a:List (S34)}{j:Int}{l:Int}{t:Option Addr}{u:Nat}{d:List (S93)}{r1:Int}{r2:Int}{w:World}(h:impl_Run.f k a j l d=some (r1,r2))(v:Kd.C k34 w q a.length a)(x:a.length≤s)(af:Kd.C k93 w t d.length d)(ag:d.length≤u) :
 Calls Try.prog 63 #[.slice q a.length s,.agg #[.int .i64 j,.int .i64 l,.slice t d.length u]] w fun e w'=>e= .returned (.tuple #[.int .i64 r1,.int .i64 r2])∧Below w.heap.size w w':=by
 have hu28:=Try.underlying28;have hu34:=Try.underlying34;have HR0:=aM v;have HC0:=aM x;clear v x;have HR1_2:=aM af;have HC1_2:=aM ag;clear af ag;have HB:=rW w
 unfold impl_Run.f at h;have H:=h
 clear h;have HC3:=aM H;clear H;go_enter Try.func63,Try.ntmps63
 go_upto_region 1 with(first|((with_reducible refine gN 3 ?_);refine boxZ 3 #[.int .i64 j,.int .i64 l,.slice t d.length u] 28 ?_;intro bs hg bR hbox hb;have b:=aM hbox;have GW1051:=gS hg;have GE1051:=gS hg;replace HB:=sB hb;clear hb hbox hg))
 (try simp only[Act.put,List.setIfInBounds_toArray,List.set_cons_zero,List.set_cons_succ])
 go_cut [17] (fun a6 wc=> ∃ (kq:Nat) (J:Bool),a6= .bool J∧Aside0 (impl_Run.j0 kq a J j l d=some (r1,r2))∧Aside0 (kq≤k)∧Aside0 (wc.heap[bs]?=some (.cells #[.int .i64 j,.int .i64 l,(.slice t d.length u)] 28 (0,0)))∧Aside0 (Below w.heap.size w wc))
 case first=>
  have H:=HC3.out;clear HC3;replace H:=bE H;obtain⟨a4,ah,H⟩:=H;by_cases o:a4=true
  ·subst o;replace H:=iT H;replace H:=bE H;obtain⟨a5,a7,H⟩:=H;have H':=aM H;clear H
   go_wp2_with (first|((with_reducible refine gF 38 ?_);refine gX (some 11) Try.func38 (impl_CheckProgram.calls ah.out (cH HR0) HC0.out) ?_;intro bS hb;replace b:=kB b hb;replace HB:=sB hb;(try clear hb);obtain⟨ai,aj,ak,al,am,an⟩:=cz3 b)|(go_at_call 61;(with_reducible refine(impl_CallOk.calls a7.out ?side1 ?side2).mono ?_);(case side1=>exact cH HR1_2);(case side2=>exact HC1_2.out);rintro e bT ⟨rfl,hb⟩;replace b:=kB b hb;replace HB:=sB hb;(try clear hb)))
   go_meet
   case rel=>exact⟨_,(!a5),rS,H',⟨oL⟩,⟨mK b⟩,⟨cB⟩⟩
  ·replace o:=Bool.eq_false_iff.mpr o;subst o;replace H:=iF H;have H':=aM H;clear H
   go_wp2_with (first|((with_reducible refine gF 38 ?_);refine gX (some 11) Try.func38 (impl_CheckProgram.calls ah.out (cH HR0) HC0.out) ?_;intro bu hb;replace b:=kB b hb;replace HB:=sB hb;(try clear hb)))
   go_meet
   case rel=>exact⟨_,(true),rS,H',⟨oL⟩,⟨mK b⟩,⟨cB⟩⟩
 case rest=>
  clear HC3;(try clear o);(try clear ai aj ak);(try clear al am an);obtain⟨kq,J,rfl,HA,HJ2,b,HB⟩:=hcut
  cases kq with
  | zero=>exact absurd HA.out (by simp[impl_Run.j0])
  | succ kj2=>
   have H:=HA.out;clear HA;simp only[impl_Run.j0]at H;by_cases y:J=true
   ·subst y;replace H:=iT H;simp only[Option.some.injEq,Prod.mk.injEq]at H;obtain⟨rfl,rfl⟩:=H;go_wp2;go_ret2;exact⟨rE,cB⟩
   ·replace y:=Bool.eq_false_iff.mpr y;subst y;replace H:=iF H;have H':=aM H;clear H;go_wp2
    go_loopg [6,7,8] kj2 (fun kq bU bV bW w'=> ∃ (Y:Int) (c:Int) (W:Int),bU= .int .i64 Y∧bV= .int .i64 c∧bW= .int .i64 W∧Aside0 (impl_Run.l0 kq a Y c W j l d=some (r1,r2))∧Aside0 (kq≤kj2)∧Aside0 (w'.heap[bs]?=some (.cells #[.int .i64 j,.int .i64 l,(.slice t d.length u)] 28 (0,0)))∧Aside0 (Below w.heap.size w w'))
    case atStart=>exact⟨(0),(0),(1),rS,rS,rS,H',⟨Nat.le_refl _⟩,⟨mK b⟩,⟨cB⟩⟩
    case round=>
     clear H';(try clear o);(try clear y);(try clear ai aj ak);(try clear al am an);obtain⟨Y,c,W,rfl,rfl,rfl,HA,HK2,b,HB⟩:=hrel
     cases gk with
     | zero=>exact absurd HA.out (by simp[impl_Run.l0])
     | succ k2=>
      have H:=HA.out;clear HA;simp only[impl_Run.l0]at H;replace H:=gD H;obtain⟨cM,H⟩:=H;replace H:=gD H;obtain⟨cN,H⟩:=H;by_cases p:((rd_T34 a c).f0)=1
      ·rw[if_pos p]at H;obtain⟨a8,bX⟩:=eT p;clear p;replace H:=bE H;obtain⟨⟨bY,cO⟩,bZ,H⟩:=H;(try dsimp only at H);have H':=aM H;clear H;obtain⟨ao,ap,aq,z,ar,au,av,aw⟩:=b4 HB (at_T34 HR0.out c);cases z
       go_wp2_with (first|((with_reducible refine gN 9 ?_);refine boxZ 9 #[.int .i64 0,.int .i64 0,.int .i64 0,.int .i64 0] 34 ?_;intro ax hg cP hbox hb;have m:=aM hbox;have GW1055:=gS hg;have GE1055:=gS hg;replace HB:=sB hb;have A:=nL hg b;have D:=nG hg b;replace b:=kB b hb;clear hb hbox hg;have hnb18:=D.out;have hnc18:=A.out;obtain⟨cQ,cR,cS,cT,cU,cV,cW,cX⟩:=cz4 m;obtain⟨b0,b1,b5,b8,b9,ca⟩:=cz3 b)|((with_reducible refine gF 100 ?_);refine gX (some 38) Try.func100 (impl_FieldAt.calls bZ.out (C_below HR1_2.out cB) HC1_2.out) ?_;intro cb hb;replace b:=kB b hb;replace m:=kP m hb (.cells #[.int .i64 ((rd_T34 a c).f0),.int .i64 ((rd_T34 a c).f1),.int .i64 ((rd_T34 a c).f2),.int .i64 ((rd_T34 a c).f3)] 34 (0,0));replace HB:=sB hb;(try clear hb)))
       go_roundg k2
       case measure=>have:=HJ2.out;have:=HK2.out;omega
       case rel=>exact⟨(bY),(wrap64 (c+1)),(wrap64 (W+1)),rS,rS,rS,H',⟨by have:=HJ2.out;have:=HK2.out;omega⟩,⟨mK b⟩,⟨cB⟩⟩
      ·rw[if_neg p]at H;obtain⟨a8,bX⟩:=eF p;by_cases ay:((rd_T34 a c).f0)=2
       ·rw[if_pos ay]at H;obtain⟨cc,cd⟩:=eT ay;clear ay;have H':=aM H;clear H;obtain⟨ao,ap,aq,z,ar,au,av,aw⟩:=b4 HB (at_T34 HR0.out c);cases z
        go_wp2_with (first|((with_reducible refine gN 9 ?_);refine boxZ 9 #[.int .i64 0,.int .i64 0,.int .i64 0,.int .i64 0] 34 ?_;intro ax hg cY hbox hb;have m:=aM hbox;have GW1055:=gS hg;have GE1055:=gS hg;replace HB:=sB hb;have A:=nL hg b;have D:=nG hg b;replace b:=kB b hb;clear hb hbox hg;have hnb24:=D.out;have hnc24:=A.out;obtain⟨cZ,c0,c1,c3,c4,c5,c6,c7⟩:=cz4 m))
        go_roundg k2
        case measure=>have:=HJ2.out;have:=HK2.out;omega
        case rel=>exact⟨(Go.bits .and .i64 Y ((rd_T34 a c).f1)),(wrap64 (c+1)),(wrap64 (W+1)),rS,rS,rS,H',⟨by have:=HJ2.out;have:=HK2.out;omega⟩,⟨mK b⟩,⟨cB⟩⟩
       ·rw[if_neg ay]at H;obtain⟨cc,cd⟩:=eF ay;by_cases az:((rd_T34 a c).f0)=7
        ·rw[if_pos az]at H;obtain⟨ce,cf⟩:=eT az;clear az;have H':=aM H;clear H;obtain⟨ao,ap,aq,z,ar,au,av,aw⟩:=b4 HB (at_T34 HR0.out c);cases z
         go_wp2_with (first|((with_reducible refine gN 9 ?_);refine boxZ 9 #[.int .i64 0,.int .i64 0,.int .i64 0,.int .i64 0] 34 ?_;intro ax hg c8 hbox hb;have m:=aM hbox;have GW1055:=gS hg;have GE1055:=gS hg;replace HB:=sB hb;have A:=nL hg b;have D:=nG hg b;replace b:=kB b hb;clear hb hbox hg;have hnb28:=D.out;have hnc28:=A.out;obtain⟨da,db,dc,dd,de,df,dg,dh⟩:=cz4 m))
         go_roundg k2
         case measure=>have:=HJ2.out;have:=HK2.out;omega
         case rel=>exact⟨(Y),(wrap64 ((wrap64 (c+1))+((rd_T34 a c).f1))),(wrap64 (W+1)),rS,rS,rS,H',⟨by have:=HJ2.out;have:=HK2.out;omega⟩,⟨mK b⟩,⟨cB⟩⟩
        ·rw[if_neg az]at H;obtain⟨ce,cf⟩:=eF az;by_cases aA:((rd_T34 a c).f0)=8
         ·rw[if_pos aA]at H;obtain⟨cg,ch⟩:=eT aA;clear aA;simp only[Option.some.injEq,Prod.mk.injEq]at H;obtain⟨rfl,rfl⟩:=H;obtain⟨ao,ap,aq,z,ar,au,av,aw⟩:=b4 HB (at_T34 HR0.out c);cases z
          go_wp2_with (first|((with_reducible refine gN 9 ?_);refine boxZ 9 #[.int .i64 0,.int .i64 0,.int .i64 0,.int .i64 0] 34 ?_;intro ax hg di hbox hb;have m:=aM hbox;have GW1055:=gS hg;have GE1055:=gS hg;replace HB:=sB hb;have A:=nL hg b;have D:=nG hg b;replace b:=kB b hb;clear hb hbox hg;have hnb32:=D.out;have hnc32:=A.out;obtain⟨dj,dk,dl,dm,dn,dp,dq,dr⟩:=cz4 m))
          go_ret2;exact⟨rE,cB⟩
         ·rw[if_neg aA]at H;obtain⟨cg,ch⟩:=eF aA;replace H:=bE H;obtain⟨a3,bv,H⟩:=H;by_cases aJ:a3=true
          ·subst aJ;replace H:=iT H;have H':=aM H;clear H;obtain⟨ao,ap,aq,z,ar,au,av,aw⟩:=b4 HB (at_T34 HR0.out c);cases z
           go_wp2_with (first|((with_reducible refine gN 9 ?_);refine boxZ 9 #[.int .i64 0,.int .i64 0,.int .i64 0,.int .i64 0] 34 ?_;intro ax hg ds hbox hb;have m:=aM hbox;have GW1055:=gS hg;have GE1055:=gS hg;replace HB:=sB hb;have A:=nL hg b;have D:=nG hg b;replace b:=kB b hb;clear hb hbox hg;have hnb37:=D.out;have hnc37:=A.out;obtain⟨dt,du,dv,dw,dx,dy,dz,dC⟩:=cz4 m)|((with_reducible refine gF 101 ?_);refine gX (some 67) Try.func101 (impl_Ins_holds.calls bv.out) ?_;intro dD hb;replace b:=kB b hb;replace m:=kP m hb (.cells #[.int .i64 ((rd_T34 a c).f0),.int .i64 ((rd_T34 a c).f1),.int .i64 ((rd_T34 a c).f2),.int .i64 ((rd_T34 a c).f3)] 34 (0,0));replace HB:=sB hb;(try clear hb);obtain⟨dE,dF,dG,dH,dI,dJ,dK,dL⟩:=cz4 m))
           go_roundg k2
           case measure=>have:=HJ2.out;have:=HK2.out;omega
           case rel=>exact⟨(Y),(wrap64 ((wrap64 (c+1))+((rd_T34 a c).f2))),(wrap64 (W+1)),rS,rS,rS,H',⟨by have:=HJ2.out;have:=HK2.out;omega⟩,⟨mK b⟩,⟨cB⟩⟩
          ·replace aJ:=Bool.eq_false_iff.mpr aJ;subst aJ;replace H:=iF H;have H':=aM H;clear H;obtain⟨ao,ap,aq,z,ar,au,av,aw⟩:=b4 HB (at_T34 HR0.out c);cases z
           go_wp2_with (first|((with_reducible refine gN 9 ?_);refine boxZ 9 #[.int .i64 0,.int .i64 0,.int .i64 0,.int .i64 0] 34 ?_;intro ax hg dM hbox hb;have m:=aM hbox;have GW1055:=gS hg;have GE1055:=gS hg;replace HB:=sB hb;have A:=nL hg b;have D:=nG hg b;replace b:=kB b hb;clear hb hbox hg;have hnb42:=D.out;have hnc42:=A.out;obtain⟨dN,dO,dP,dQ,dS,dT,dU,dV⟩:=cz4 m)|((with_reducible refine gF 101 ?_);refine gX (some 67) Try.func101 (impl_Ins_holds.calls bv.out) ?_;intro dX hb;replace b:=kB b hb;replace m:=kP m hb (.cells #[.int .i64 ((rd_T34 a c).f0),.int .i64 ((rd_T34 a c).f1),.int .i64 ((rd_T34 a c).f2),.int .i64 ((rd_T34 a c).f3)] 34 (0,0));replace HB:=sB hb;(try clear hb);obtain⟨dY,dZ,d0,d1,d2,d3,d4,d5⟩:=cz4 m))
           go_roundg k2
           case measure=>have:=HJ2.out;have:=HK2.out;omega
           case rel=>exact⟨(Y),(wrap64 ((wrap64 (c+1))+((rd_T34 a c).f3))),(wrap64 (W+1)),rS,rS,rS,H',⟨by have:=HJ2.out;have:=HK2.out;omega⟩,⟨mK b⟩,⟨cB⟩⟩
def impl_ActionIn.f (E:Int):Option (Int):=(impl_within.f E 0 393215).bind fun a9=>(if a9=true then(some (wrap64 (Int.tdiv E 65536)))else(some 0))
set_option maxHeartbeats 8000000 in
set_option maxRecDepth 100000 in
theorem impl_ActionIn.calls {E:Int}{r:Int}{w:World}(h:impl_ActionIn.f E=some r) :
 Calls Try.prog 32 #[.int .i64 E] w fun e w'=>e= .returned (.int .i64 r)∧Drawn0 w w':=by
 unfold impl_ActionIn.f at h;have H:=h
 clear h;replace H:=bE H;obtain⟨a9,aK,H⟩:=H;by_cases aN:a9=true
 ·subst aN;replace H:=iT H;obtain rfl:=Option.some.inj H;go_enter Try.func32,Try.ntmps32
  go_wp2_with (first|((with_reducible refine gF 68 ?_);refine gX (some 4) Try.func68 (impl_within.calls aK.out) ?_;rintro w' ⟨nd,rfl⟩))
  go_ret
  exact⟨by first|rfl|(simp;done)|(simp[*];done),by repeat(first|exact Drawn0.refl _|apply Drawn0.step)⟩
 ·replace aN:=Bool.eq_false_iff.mpr aN;subst aN;replace H:=iF H;obtain rfl:=Option.some.inj H;go_enter Try.func32,Try.ntmps32
  go_wp2_with (first|((with_reducible refine gF 68 ?_);refine gX (some 4) Try.func68 (impl_within.calls aK.out) ?_;rintro w' ⟨nd,rfl⟩))
  go_ret
  exact⟨by first|rfl|(simp;done)|(simp[*];done),by repeat(first|exact Drawn0.refl _|apply Drawn0.step)⟩
def impl_Stricter.f (E:Int) (aC:Int):Option (Int):=(impl_ActionIn.f aC).bind fun ba=>((impl_ActionIn.f E).bind fun bb=>(if ba<bb then(some aC)else(some E)))
set_option maxHeartbeats 8000000 in
set_option maxRecDepth 100000 in
theorem impl_Stricter.calls {E:Int}{aC:Int}{r:Int}{w:World}(h:impl_Stricter.f E aC=some r) :
 Calls Try.prog 64 #[.int .i64 E,.int .i64 aC] w fun e w'=>e= .returned (.int .i64 r)∧Drawn0 w w':=by
 unfold impl_Stricter.f at h;have H:=h
 clear h;replace H:=bE H;obtain⟨ba,aQ,H⟩:=H;replace H:=bE H;obtain⟨bb,aT,H⟩:=H;by_cases aa:ba<bb
 ·rw[if_pos aa]at H;have bw:=decide_eq_true aa;clear aa;obtain rfl:=Option.some.inj H;go_enter Try.func64,Try.ntmps64
  go_wp2_with (first|((with_reducible refine gF 32 ?_);refine gX (some 6) Try.func32 (impl_ActionIn.calls aQ.out) ?_;rintro w' ⟨nd,rfl⟩)|((with_reducible refine gF 32 ?_);refine gX (some 8) Try.func32 (impl_ActionIn.calls aT.out) ?_;rintro w' ⟨nd,rfl⟩))
  go_ret
  exact⟨by first|rfl|(simp;done)|(simp[*];done),by repeat(first|exact Drawn0.refl _|apply Drawn0.step)⟩
 ·rw[if_neg aa]at H;have bw:=decide_eq_false aa;clear aa;obtain rfl:=Option.some.inj H;go_enter Try.func64,Try.ntmps64
  go_wp2_with (first|((with_reducible refine gF 32 ?_);refine gX (some 6) Try.func32 (impl_ActionIn.calls aQ.out) ?_;rintro w' ⟨nd,rfl⟩)|((with_reducible refine gF 32 ?_);refine gX (some 8) Try.func32 (impl_ActionIn.calls aT.out) ?_;rintro w' ⟨nd,rfl⟩))
  go_ret
  exact⟨by first|rfl|(simp;done)|(simp[*];done),by repeat(first|exact Drawn0.refl _|apply Drawn0.step)⟩
mutual
def impl_RunStack.j0:Nat→List (List (S34))→Bool→Int→Int→List (S93)→Option (Int)
  | 0,_,_,_,_,_=>none
  | k+1,i,a2,aU,aV,aW=>if a2=true then((impl_ResultOf.f 0 0).bind fun bx=>(some bx))else((impl_ResultOf.f 5 0).bind fun bd=>(impl_RunStack.l0 k bd i (i.length:Int) 0 aU aV aW))
def impl_RunStack.l0:Nat→Int→List (List (S34))→Int→Int→Int→Int→List (S93)→Option (Int)
  | 0,_,_,_,_,_,_,_=>none
  | k+1,bz,be,bA,aD,aU,aV,aW=>if aD<bA then(if 0≤aD then(if aD<(be.length:Int)then((impl_Run.f k (rd_L10 be aD) aU aV aW).bind fun ci=>((impl_Stricter.f ci.1 bz).bind fun bf=>(impl_RunStack.l0 k bf be bA (wrap64 (aD+1)) aU aV aW)))else(none))else(none))else(some bz)
end
def impl_RunStack.f (k:Nat) (a:List (List (S34))) (j:Int) (l:Int) (d:List (S93)):Option (Int):=(impl_StackOk.f k a).bind fun bg=>(if bg=true then((impl_CallOk.f k j l d).bind fun bh=>(impl_RunStack.j0 k a (!bh) j l d))else(impl_RunStack.j0 k a true j l d))
set_option maxHeartbeats 8000000 in
set_option maxRecDepth 100000 in
theorem impl_RunStack.calls {k:Nat}{q:Option Addr}{s:Nat}{a:List (List (S34))}{j:Int}{l:Int}{t:Option Addr}{u:Nat}{d:List (S93)}{r:Int}{w:World}(h:impl_RunStack.f k a j l d=some r)(v:Kd.C (Kd.slice 34 k34) w q a.length a)(x:a.length≤s)(af:Kd.C k93 w t d.length d)(ag:d.length≤u) :
 Calls Try.prog 25 #[.slice q a.length s,.agg #[.int .i64 j,.int .i64 l,.slice t d.length u]] w fun e w'=>e= .returned (.int .i64 r)∧Below w.heap.size w w':=by
 have hu28:=Try.underlying28;have HR0:=aM v;have HC0:=aM x;clear v x;have HR1_2:=aM af;have HC1_2:=aM ag;clear af ag;have HB:=rW w
 unfold impl_RunStack.f at h;have H:=h
 clear h;have HC3:=aM H;clear H;go_enter Try.func25,Try.ntmps25
 go_upto_region 1 with(first|((with_reducible refine gN 3 ?_);refine boxZ 3 #[.int .i64 j,.int .i64 l,.slice t d.length u] 28 ?_;intro bB hg bR hbox hb;have n:=aM hbox;have GW1062:=gS hg;have GE1062:=gS hg;replace HB:=sB hb;clear hb hbox hg))
 (try simp only[Act.put,List.setIfInBounds_toArray,List.set_cons_zero,List.set_cons_succ])
 go_cut [17] (fun a6 wc=> ∃ (kq:Nat) (J:Bool),a6= .bool J∧Aside0 (impl_RunStack.j0 kq a J j l d=some r)∧Aside0 (kq≤k)∧Aside0 (wc.heap[bB]?=some (.cells #[.int .i64 j,.int .i64 l,(.slice t d.length u)] 28 (0,0)))∧Aside0 (Below w.heap.size w wc))
 case first=>
  have H:=HC3.out;clear HC3;replace H:=bE H;obtain⟨bg,ah,H⟩:=H;by_cases o:bg=true
  ·subst o;replace H:=iT H;replace H:=bE H;obtain⟨bh,a7,H⟩:=H;have H':=aM H;clear H
   go_wp2_with (first|((with_reducible refine gF 30 ?_);refine gX (some 11) Try.func30 (impl_StackOk.calls ah.out (cH HR0) HC0.out) ?_;intro bS hb;replace n:=kB n hb;replace HB:=sB hb;(try clear hb);obtain⟨ai,aj,ak,al,am,an⟩:=cz3 n)|(go_at_call 61;(with_reducible refine(impl_CallOk.calls a7.out ?side1 ?side2).mono ?_);(case side1=>exact cH HR1_2);(case side2=>exact HC1_2.out);rintro e bT ⟨rfl,hb⟩;replace n:=kB n hb;replace HB:=sB hb;(try clear hb)))
   go_meet
   case rel=>exact⟨_,(!bh),rS,H',⟨oL⟩,⟨mK n⟩,⟨cB⟩⟩
  ·replace o:=Bool.eq_false_iff.mpr o;subst o;replace H:=iF H;have H':=aM H;clear H
   go_wp2_with (first|((with_reducible refine gF 30 ?_);refine gX (some 11) Try.func30 (impl_StackOk.calls ah.out (cH HR0) HC0.out) ?_;intro bu hb;replace n:=kB n hb;replace HB:=sB hb;(try clear hb)))
   go_meet
   case rel=>exact⟨_,(true),rS,H',⟨oL⟩,⟨mK n⟩,⟨cB⟩⟩
 case rest=>
  clear HC3;(try clear o);(try clear ai aj ak);(try clear al am an);obtain⟨kq,J,rfl,HA,HJ2,n,HB⟩:=hcut
  cases kq with
  | zero=>exact absurd HA.out (by simp[impl_RunStack.j0])
  | succ kj2=>
   have H:=HA.out;clear HA;simp only[impl_RunStack.j0]at H;by_cases y:J=true
   ·subst y;replace H:=iT H;replace H:=bE H;obtain⟨bx,cj,H⟩:=H;obtain rfl:=Option.some.inj H
    go_wp2_with (first|((with_reducible refine gF 62 ?_);refine gX (some 18) Try.func62 (impl_ResultOf.calls cj.out) ?_;rintro w' ⟨nd,rfl⟩))
    go_ret;exact⟨rE,cB⟩
   ·replace y:=Bool.eq_false_iff.mpr y;subst y;replace H:=iF H;replace H:=bE H;obtain⟨bd,ck,H⟩:=H;have H':=aM H;clear H
    go_wp2_with (first|((with_reducible refine gF 62 ?_);refine gX (some 19) Try.func62 (impl_ResultOf.calls ck.out) ?_;rintro w' ⟨nd,rfl⟩))
    go_loopg [5,22] kj2 (fun kq cl cm w'=> ∃ (bi:Int) (X:Int),cl= .int .i64 bi∧cm= .int .i64 X∧Aside0 (impl_RunStack.l0 kq bi a (a.length:Int) X j l d=some r)∧Aside0 (kq≤kj2)∧Aside0 (w'.heap[bB]?=some (.cells #[.int .i64 j,.int .i64 l,(.slice t d.length u)] 28 (0,0)))∧Aside0 (Below w.heap.size w w'))
    case atStart=>exact⟨(bd),(0),rS,rS,H',⟨Nat.le_refl _⟩,⟨mK n⟩,⟨cB⟩⟩
    case round=>
     clear H';(try clear o);(try clear y);(try clear ai aj ak);(try clear al am an);obtain⟨bi,X,rfl,rfl,HA,HK2,n,HB⟩:=hrel
     cases gk with
     | zero=>exact absurd HA.out (by simp[impl_RunStack.l0])
     | succ k2=>
      have H:=HA.out;clear HA;simp only[impl_RunStack.l0]at H;by_cases p:X<(a.length:Int)
      ·rw[if_pos p]at H;have a8:=decide_eq_true p;clear p;replace H:=gD H;obtain⟨d6,H⟩:=H;replace H:=gD H;obtain⟨d7,H⟩:=H;replace H:=bE H;obtain⟨⟨d8,d9⟩,cn,H⟩:=H;(try dsimp only at H);replace H:=bE H;obtain⟨bf,co,H⟩:=H;have H':=aM H;clear H;have bj:0≤(X:Int):=dA;have bk:X<(a.length:Int):=dA;obtain⟨ea,eb,ec,cp,bC,hl1067_0,hi1067_0⟩:=at_L10 HR0.out X bj bk;cases cp;replace bC:=(bc HB bC :);have HR1067_0:=aM hi1067_0;have HC1067_0:=aM hl1067_0;clear hi1067_0 hl1067_0;replace bj:=eq_true bj;replace bk:=eq_true bk;obtain⟨b0,b1,b5,b8,b9,ca⟩:=cz3 n
       go_wp2_with (first|((with_reducible refine gF 63 ?_);refine gX (some 29) Try.func63 (impl_Run.calls cn.out (cH HR1067_0) HC1067_0.out (cH HR1_2) HC1_2.out) ?_;intro cb hb;replace n:=kB n hb;replace HB:=sB hb;(try clear hb))|((with_reducible refine gF 64 ?_);refine gX (some 34) Try.func64 (impl_Stricter.calls co.out) ?_;rintro w' ⟨nd,rfl⟩))
       go_roundg k2
       case measure=>have:=HJ2.out;have:=HK2.out;omega
       case rel=>exact⟨(bf),(wrap64 (X+1)),rS,rS,H',⟨by have:=HJ2.out;have:=HK2.out;omega⟩,⟨mK n⟩,⟨cB⟩⟩
      ·rw[if_neg p]at H;have a8:=decide_eq_false p;clear p;obtain rfl:=Option.some.inj H;go_wp2;go_ret;exact⟨rE,cB⟩
def spec_DrawPushStack.f (k:Nat) (a:List Int):Option ((List (List (S34)))×(List (S34))):=(spec_l01New.f k a).bind fun aX=>((spec_l14Program.f k aX.1 aX.2.1 aX.2.2).bind fun bl=>((spec_l15Stack.f k aX.1 bl.2.1 bl.2.2).bind fun cq=>(some (cq.1,bl.1))))
theorem q23x0 {P:Prop} (h:P:=by repeat(first|(with_reducible first|exact HI1074.out|apply IsS90.alloc|apply IsS90.drewN|apply IsS90.drew|apply IsS90.set_1|apply IsS90.set_2)|exact HI1074.out)):P:=h
theorem q23x1 {P:Prop} (h:P:=by repeat(first|(with_reducible first|exact HB.out|apply below_alloc|apply pw_below_drewN|apply below_drew1|refine below_set ?_ (IsS90.ge HI1074.out))|exact HB.out)):P:=h
set_option maxHeartbeats 8000000 in
set_option maxRecDepth 100000 in
theorem spec_DrawPushStack.calls {k:Nat}{q:Option Addr}{s:Nat}{a:List Int}{r1:List (List (S34))}{r2:List (S34)}{w:World}(h:spec_DrawPushStack.f k a=some (r1,r2))(v:Kd.C (Kd.int .u8) w q a.length a)(x:a.length≤s) :
 Calls Try.prog 26 #[.slice q a.length s] w fun e w'=> ∃ v0_ v1_:Value,e= .returned (.tuple #[v0_,v1_])∧Kd.S (Kd.slice 34 k34) 24 w' w.heap.size (fun k_=>some k_≠(v1_:Value).ownBlock) v0_ r1∧Kd.R k34 34 w' w.heap.size (fun _=>True) v1_ r2∧Below w.heap.size w w':=by
 have HR0:=aM v;have HC0:=aM x;clear v x;have HB:=rW w
 unfold spec_DrawPushStack.f at h;have H:=h
 clear h;replace H:=bE H;obtain⟨⟨aY,bD,bF⟩,aK,H⟩:=H;(try dsimp only at H);replace H:=bE H;obtain⟨⟨cr,bm,bn⟩,aQ,H⟩:=H;(try dsimp only at H);replace H:=bE H;obtain⟨⟨cs,ct,cu⟩,aT,H⟩:=H;(try dsimp only at H);simp only[Option.some.injEq,Prod.mk.injEq]at H;obtain⟨rfl,rfl⟩:=H;go_enter Try.func26,Try.ntmps26
 go_wp2_with (first|((with_reducible refine gF 36 ?_);refine gV (some 7) Try.func36 (spec_l01New.calls k _ _ a aY bD bF w _ cB HR0.out HC0.out aK.out) ?_;rintro e ed ⟨g1074,rfl,hi,hb,hb2⟩;refine⟨_,rfl,?_⟩;replace HB:=aM hb;have HI1074:=aM hi;(try clear hb);(try clear hb2);(try clear hi))|((with_reducible refine gF 35 ?_);refine gY (some 9) Try.func35 (spec_l14Program.calls k g1074 aY bD bF cr bm bn w _ q23x0 q23x1 aQ.out) ?_;rintro ee ef ⟨aE,hi,hb,hk⟩;have aZ:=aM (R_lower aE (below_size q23x1));replace HB:=aM hb;replace HI1074:=aM hi;(try clear hb);(try clear hk);(try clear hi);(try clear aE))|((with_reducible refine gF 60 ?_);refine gY (some 11) Try.func60 (spec_l15Stack.calls k g1074 aY bm bn cs ct cu w _ q23x0 q23x1 aT.out) ?_;rintro eg eh ⟨aE,hi,hb,hk⟩;have cv:=aM (S_lower (S_new' aE (R_lt (mR aZ))) (below_size q23x1));replace aZ:=aM (R_mono (R_keep (IsS90.apart (show IsS90 w _ g1074 aY bm bn from q23x0) (mR aZ) (by decide)) hk (fun _ h=>h.2)) (fun _ h=>h.1));replace HB:=aM hb;replace HI1074:=aM hi;(try clear hb);(try clear hk);(try clear hi);(try clear aE)))
 go_ret2
 exact⟨_,_,rE,by(with_reducible repeat(first|apply S_alloc|apply S_drewN|apply S_drew));exact S_mono cv.out (fun _ hk=>hk.2),mR aZ,q23x1⟩
def impl_copyStack.l0:Nat→List (List (S34))→List (List (S34))→Int→Int→Option ((List (List (S34))))
  | 0,_,_,_,_=>none
  | k+1,bo,g,I,ab=>if ab<I then(if 0≤ab then(if ab<(g.length:Int)then((some (([] :List (S34)):List (S34))).bind fun aG=>(if aG.length+(rd_L10 g ab).length<4398046511104 then(if bo.length<5864062014805 then(impl_copyStack.l0 k (bo ++ [(aG ++ (rd_L10 g ab))]) g I (wrap64 (ab+1)))else(none))else(none)))else(none))else(none))else(some bo)
def impl_copyStack.f (k:Nat) (a:List (List (S34))):Option ((List (List (S34)))):=impl_copyStack.l0 k (([] :List (List (S34)))) a (a.length:Int) 0
set_option maxHeartbeats 8000000 in
set_option maxRecDepth 100000 in
theorem impl_copyStack.calls {k:Nat}{q:Option Addr}{s:Nat}{a:List (List (S34))}{r:List (List (S34))}{w:World}(h:impl_copyStack.f k a=some r)(v:Kd.C (Kd.slice 34 k34) w q a.length a)(x:a.length≤s) :
 Calls Try.prog 65 #[.slice q a.length s] w fun e w'=> ∃ v0_:Value,e= .returned (v0_)∧Kd.S (Kd.slice 34 k34) 24 w' w.heap.size (fun _=>True) v0_ r∧Below w.heap.size w w':=by
 have HR0:=aM v;have HC0:=aM x;clear v x;have HB:=rW w;have H:(impl_copyStack.l0 k (([] :List (List (S34)))) a (a.length:Int) 0)=some r:=h;clear h;obtain⟨cw,bp⟩ : ∃ y_:List (List (S34)),Aside0 (y_=(([] :List (List (S34))))):=⟨_,⟨rfl⟩⟩;rw[← bp.out]at H;have H':=aM H;clear H;go_enter Try.func65,Try.ntmps65
 go_wp2_with (first|((with_reducible refine gN 6 ?_);refine S_lit (Kd.slice 34 k34) _ 24 ?hg (N:=6) ?hd (xs:=([] :List (List (S34)))) (inner:=[]) (ok:=fun _=>True) (okp:=fun _=>True) ?hr ?hp (fun _ hk=>hk) trivial (Below.refl _ _) (Nat.le_refl _) (by simp) ?_;(case hd=>rfl);(case hg=>rfl);(case hr=>exact rG);(case hp=>exact(Reps.none _ _));intro ei ej aH hb hg_ hnew_;clear hg_ hnew_;(first|rw[← bp.out]at aH|(simp only[Int.reduceToNat]at aH;rw[← bp.out]at aH));have cx:=aM (S_lower aH (below_size cB));replace HB:=sB hb;clear hb aH))
 go_loopg [3,9] k (fun kq cy cz w'=> ∃ (aI:List (List (S34))) (G:Int),cz= .int .i64 G∧Aside0 (impl_copyStack.l0 kq aI a (a.length:Int) G=some r)∧Aside0 (kq≤k)∧Aside0 (Kd.S (Kd.slice 34 k34) 24 w' w.heap.size (fun _=>True) cy aI)∧Aside0 (Below w.heap.size w w'))
 case atStart=>exact⟨(cw),(0),rS,H',⟨Nat.le_refl _⟩,⟨by(with_reducible repeat(first|apply S_alloc|apply S_drewN|apply S_drew));exact cx.out⟩,⟨cB⟩⟩
 case round=>
  clear H';obtain⟨aI,G,rfl,HA,HK1,L,HB⟩:=hrel
  cases gk with
  | zero=>exact absurd HA.out (by simp[impl_copyStack.l0])
  | succ k1=>
   have H:=HA.out;clear HA;simp only[impl_copyStack.l0]at H;by_cases ac:G<(a.length:Int)
   ·rw[if_pos ac]at H;have cA:=decide_eq_true ac;clear ac;replace H:=gD H;obtain⟨bw,H⟩:=H;replace H:=gD H;obtain⟨ek,H⟩:=H;replace H:=nE H;obtain⟨aG,bG,H⟩:=H;replace H:=gC H;obtain⟨bH,H⟩:=H;have cD:=aM bH;clear bH;obtain⟨a0,bI⟩ : ∃ y_:List (S34),Aside0 (y_=(aG ++ (rd_L10 a G))):=⟨_,⟨rfl⟩⟩;rw[← bI.out]at H;replace H:=gC H;obtain⟨bJ,H⟩:=H;have cE:=aM bJ;clear bJ;obtain⟨cF,bL⟩ : ∃ y_:List (List (S34)),Aside0 (y_=(aI ++ [a0])):=⟨_,⟨rfl⟩⟩;rw[← bL.out]at H;have H':=aM H;clear H;have bq:0≤(G:Int):=dA;have br:G<(a.length:Int):=dA;obtain⟨el,em,en,cG,bM,hl1088_0,hi1088_0⟩:=at_L10 HR0.out G bq br;cases cG;replace bM:=(bc HB bM :);have HR1088_0:=aM hi1088_0;have HC1088_0:=aM hl1088_0;clear hi1088_0 hl1088_0;replace bq:=eq_true bq;replace br:=eq_true br
    go_wp2_with (first|((with_reducible refine gN 14 ?_);refine R_lit k34 _ 34 ?hg (N:=14) ?hd (xs:=([] :List (S34))) (inner:=[]) (ok:=fun _=>True) (okp:=fun _=>True) ?hr ?hp (fun _ hk=>hk) trivial (Below.refl _ _) (Nat.le_refl _) (by simp) ?_;(case hd=>rfl);(case hg=>rfl);(case hr=>exact rG);(case hp=>exact(Reps.none _ _));intro cI eo ad hb hg_ hnew_;clear hg_ hnew_;(first|rw[← bG.out]at ad|(simp only[Int.reduceToNat]at ad;rw[← bG.out]at ad));replace L:=aM (S_elder' (by(with_reducible repeat(first|apply S_alloc|apply S_drewN|apply S_drew));exact L.out) (R_base ad) hb);have bN:=rL ad;replace HB:=sB hb;clear hb ad)|((with_reducible refine gA 14 15 ?_);at_builtin;refine R_append_rows k34 (w0:=w) w.heap.size rfl (.tmp 14) (.tmp 15) 24 34 (.agg #[(.int .i64 0),(.int .i64 0),(.int .i64 0),(.int .i64 0)]) 32 rfl Try.underlying24 info34 rfl (by decide) (by omega) cI aG (rd_L10 a G) _ _ _ (fun _=>True) (fun _=>False) rfl rfl ?aO ?aR (fun _ _ h=>h) (fun _ h=>h.elim) ?aF ?aB ?aS ?aL ?_;(case aR=>exact cH HR1088_0);(case aB=>exact cB);(case aF=>exact(fun _ _=>trivial));(case aO=>exact(mR bN));(case aS=>exact(below_size cB));(case aL=>have:=cD.out;omega);intro ep bu ho hb hg hat;rw[← bI.out]at ho;replace L:=aM (S_after (ok:=(fun _=>True)) (by(with_reducible repeat(first|apply S_alloc|apply S_drewN|apply S_drew));exact L.out) hg hat);replace HB:=aM hb;have a1:=aM ho;clear bN ho hb hg hat;obtain⟨bO,bP,cJ⟩:=R_slice a1.out;subst cJ)|((with_reducible refine gA 13 17 ?_);at_builtin;refine S_append (Kd.slice 34 k34) (w0:=w) w.heap.size rfl (.tmp 13) (.tmp 17) 50 24 (.slice none 0 0) 24 rfl Try.underlying50 info24 rfl (by decide) (by omega) u3 aI a0 [.slice bO a0.length bP] (fun _=>True) (fun k_=>some k_=(.slice bO a0.length bP:Value).ownBlock) rfl rfl ?aP (fun k_ hk_=>((R_mono (ok':=fun k_=>((fun _=>True)) k_∧some k_≠(u3:Value).ownBlock) (R_apart' (a1.out) (S_typed L.out) (by decide)) (fun k_ hk=>⟨trivial,hk.2⟩))).1 k_ hk_.symm) ?aF ?aO ?aB ?aS ?aL ?_;(case aP=>exact M_row (R_mono (R_tight rfl (R_mono (ok':=fun k_=>((fun _=>True)) k_∧some k_≠(u3:Value).ownBlock) (R_apart' (a1.out) (S_typed L.out) (by decide)) (fun k_ hk=>⟨trivial,hk.2⟩))) (fun _ h_=>h_)));(case aB=>exact cB);(case aF=>exact(fun _ _=>trivial));(case aO=>exact(by exact sM L (fun k_ hk=>⟨trivial,fun e_=>hk.2 e_⟩)));(case aS=>exact(below_size cB));(case aL=>have:=cE.out;omega);intro eq er ho hb hg hat;rw[← bL.out]at ho;replace HB:=aM hb;have cL:=aM ho;clear L a1 ho hb hg hat))
    go_roundg k1
    case measure=>exact oK
    case rel=>exact⟨(cF),(wrap64 (G+1)),rS,H',⟨oK⟩,⟨by(with_reducible repeat(first|apply S_alloc|apply S_drewN|apply S_drew));exact cL.out⟩,⟨cB⟩⟩
   ·rw[if_neg ac]at H;have cA:=decide_eq_false ac;clear ac;obtain rfl:=Option.some.inj H;go_wp2;go_ret
    exact⟨_,rE,by(with_reducible repeat(first|apply S_alloc|apply S_drewN|apply S_drew));exact L.out,cB⟩
end Go.Proofs.Ytpbalojiaghfhaa.PFnStacks
