import Derived.Test.YtpbalojiaghfhaaPFnCompilesSmally0
namespace Go.Proofs.Ytpbalojiaghfhaa.PFnCompilesSmall
open Go.RowKit Go.Proofs.YtpbalojiaghfhaaW.PrintWords Go.Proofs.YtpbalojiaghfhaaW.PrintLast Go.Proofs.YtpbalojiaghfhaaW.PrintMore Go.Proofs.YtpbalojiaghfhaaW.Z
open Kd
attribute [local go_sem] isS max2_int min2_int max_two min_two max_three min_three max_four min_four
set_option linter.unusedVariables false
set_option linter.unusedSimpArgs false
def laws_big.f (g:List Int):Option (Bool):=some (decide ((g.length:Int)>1048576))
set_option maxHeartbeats 8000000 in
set_option maxRecDepth 100000 in
theorem laws_big.calls {L:Option Addr}{M:Nat}{g:List Int}{r:Bool}{w:World}(h:laws_big.f g=some r)(O:Kd.C (Kd.int .u8) w L g.length g)(U:g.length≤M) :
 Calls Try.prog 6 #[.slice L g.length M] w fun e w'=>e= .returned (.bool r)∧Drawn0 w w':=by
 have HR0:=aM O;have HC0:=aM U;clear O U;have H:(some (decide ((g.length:Int)>1048576)))=some r:=h;clear h;obtain rfl:=Option.some.inj H;go_enter Try.func6,Try.ntmps6;go_wp2;go_ret
 exact⟨by first|rfl|(simp;done)|(simp[*];done),by repeat(first|exact Drawn0.refl _|apply Drawn0.step)⟩
def spec_l01In.f (i:Int) (u:Int) (W:Int):Option (Bool):=if i≥u then(some (decide (i≤W)))else(some false)
set_option maxHeartbeats 8000000 in
set_option maxRecDepth 100000 in
theorem spec_l01In.calls {i:Int}{u:Int}{W:Int}{r:Bool}{w:World}(h:spec_l01In.f i u W=some r) :
 Calls Try.prog 41 #[.int .i64 i,.int .i64 u,.int .i64 W] w fun e w'=>e= .returned (.bool r)∧Drawn0 w w':=by
 have H:(if i≥u then(some (decide (i≤W)))else(some false))=some r:=h;clear h;by_cases o:i≥u
 ·rw[if_pos o]at H;have ao:decide (u≤i)=true:=decide_eq_true o;clear o;obtain rfl:=Option.some.inj H;go_enter Try.func41,Try.ntmps41;go_wp2;go_ret
  exact⟨by first|rfl|(simp;done)|(simp[*];done),by repeat(first|exact Drawn0.refl _|apply Drawn0.step)⟩
 ·rw[if_neg o]at H;have ao:decide (u≤i)=false:=decide_eq_false o;clear o;obtain rfl:=Option.some.inj H;go_enter Try.func41,Try.ntmps41;go_wp2;go_ret
  exact⟨by first|rfl|(simp;done)|(simp[*];done),by repeat(first|exact Drawn0.refl _|apply Drawn0.step)⟩
def spec_HalfOk.f (i:Int):Option (Bool):=(spec_l01In.f i 0 4294967295).bind fun aJ=>(some aJ)
set_option maxHeartbeats 8000000 in
set_option maxRecDepth 100000 in
theorem spec_HalfOk.calls {i:Int}{r:Bool}{w:World}(h:spec_HalfOk.f i=some r) :
 Calls Try.prog 77 #[.int .i64 i] w fun e w'=>e= .returned (.bool r)∧Drawn0 w w':=by
 unfold spec_HalfOk.f at h;have H:=h
 clear h;replace H:=bE H;obtain⟨aJ,t,H⟩:=H;obtain rfl:=Option.some.inj H;go_enter Try.func77,Try.ntmps77
 go_wp2_with (first|((with_reducible refine gF 41 ?_);refine gX (some 4) Try.func41 (spec_l01In.calls t.out) ?_;rintro w' ⟨nd,rfl⟩))
 go_ret
 exact⟨by first|rfl|(simp;done)|(simp[*];done),by repeat(first|exact Drawn0.refl _|apply Drawn0.step)⟩
def spec_l06Ask.f (i:Int):Option (Bool):=(spec_l01In.f i 3 6).bind fun aK=>(some aK)
set_option maxHeartbeats 8000000 in
set_option maxRecDepth 100000 in
theorem spec_l06Ask.calls {i:Int}{r:Bool}{w:World}(h:spec_l06Ask.f i=some r) :
 Calls Try.prog 78 #[.int .i64 i] w fun e w'=>e= .returned (.bool r)∧Drawn0 w w':=by
 unfold spec_l06Ask.f at h;have H:=h
 clear h;replace H:=bE H;obtain⟨aK,t,H⟩:=H;obtain rfl:=Option.some.inj H;go_enter Try.func78,Try.ntmps78
 go_wp2_with (first|((with_reducible refine gF 41 ?_);refine gX (some 4) Try.func41 (spec_l01In.calls t.out) ?_;rintro w' ⟨nd,rfl⟩))
 go_ret
 exact⟨by first|rfl|(simp;done)|(simp[*];done),by repeat(first|exact Drawn0.refl _|apply Drawn0.step)⟩
mutual
def spec_InsOk.j0:Nat→Bool→Int→Int→Int→Int→Option (Bool)
  | 0,_,_,_,_,_=>none
  | k+1,bw,y,A,X,Y=>if bw=true then(some false)else((spec_l06Ask.f y).bind fun ap=>(if ap=true then(spec_InsOk.j1 k false y A X Y)else(if X=0 then(spec_InsOk.j1 k (Y !=0) y A X Y)else(spec_InsOk.j1 k true y A X Y))))
def spec_InsOk.j1:Nat→Bool→Int→Int→Int→Int→Option (Bool)
  | 0,_,_,_,_,_=>none
  | k+1,bx,y,A,X,Y=>if bx=true then(some false)else(if y=1 then(some (decide (A<8)))else(if y=7 then(some (decide (A<400)))else(some true)))
end
def spec_InsOk.f (k:Nat) (a:Int) (b:Int) (c:Int) (d:Int):Option (Bool):=(spec_l01In.f a 1 8).bind fun aq=>(if aq=true then((spec_HalfOk.f b).bind fun ar=>(if ar=true then((spec_l01In.f c 0 15).bind fun au=>(if au=true then((spec_l01In.f d 0 15).bind fun av=>(spec_InsOk.j0 k (!av) a b c d))else(spec_InsOk.j0 k true a b c d)))else(spec_InsOk.j0 k true a b c d)))else(spec_InsOk.j0 k true a b c d))
set_option maxHeartbeats 8000000 in
set_option maxRecDepth 100000 in
theorem spec_InsOk.calls {k:Nat}{a:Int}{b:Int}{c:Int}{d:Int}{r:Bool}{w:World}(h:spec_InsOk.f k a b c d=some r) :
 Calls Try.prog 42 #[.agg #[.int .i64 a,.int .i64 b,.int .i64 c,.int .i64 d]] w fun e w'=>e= .returned (.bool r)∧Below w.heap.size w w':=by
 have hu34:=Try.underlying34;have HB:=rW w
 unfold spec_InsOk.f at h;have H:=h
 clear h;have HC2:=aM H;clear H;go_enter Try.func42,Try.ntmps42
 go_upto_region 1 with(first|((with_reducible refine gN 1 ?_);refine boxZ 1 #[.int .i64 a,.int .i64 b,.int .i64 c,.int .i64 d] 34 ?_;intro aL hg bz hbox hb;have j:=aM hbox;have GW103:=gS hg;have GE103:=gS hg;replace HB:=sB hb;clear hb hbox hg))
 (try simp only[Act.put,List.setIfInBounds_toArray,List.set_cons_zero,List.set_cons_succ])
 go_cut [24] (fun bA wc=> ∃ (kq:Nat) (ak:Bool),bA= .bool ak∧Aside0 (spec_InsOk.j0 kq ak a b c d=some r)∧Aside0 (kq≤k)∧Aside0 (wc.heap[aL]?=some (.cells #[.int .i64 a,.int .i64 b,.int .i64 c,.int .i64 d] 34 (0,0)))∧Aside0 (Below w.heap.size w wc))
 case first=>
  have H:=HC2.out;clear HC2;replace H:=bE H;obtain⟨aq,D,H⟩:=H;by_cases p:aq=true
  ·subst p;replace H:=iT H;replace H:=bE H;obtain⟨ar,v,H⟩:=H;by_cases q:ar=true
   ·subst q;replace H:=iT H;replace H:=bE H;obtain⟨au,aN,H⟩:=H;by_cases E:au=true
    ·subst E;replace H:=iT H;replace H:=bE H;obtain⟨av,al,H⟩:=H;have H':=aM H;clear H;obtain⟨aO,aP,aQ,aR,aS,aT,aU,aV⟩:=cz4 j
     go_wp2_with (first|((with_reducible refine gF 41 ?_);refine gX (some 5) Try.func41 (spec_l01In.calls D.out) ?_;rintro w' ⟨nd,rfl⟩)|(go_at_call 77;(with_reducible refine(spec_HalfOk.calls v.out).mono ?_);rintro e w' ⟨rfl,⟨nd,rfl⟩⟩)|(go_at_call 41;(with_reducible refine(spec_l01In.calls aN.out).mono ?_);rintro e w' ⟨rfl,⟨nd,rfl⟩⟩)|(go_at_call 41;(with_reducible refine(spec_l01In.calls al.out).mono ?_);rintro e w' ⟨rfl,⟨nd,rfl⟩⟩))
     go_meet
     case rel=>exact⟨_,(!av),rS,H',⟨oL⟩,⟨mK j⟩,⟨cB⟩⟩
    ·replace E:=Bool.eq_false_iff.mpr E;subst E;replace H:=iF H;have H':=aM H;clear H;obtain⟨aW,aX,aY,aZ,a0,a1,a2,a3⟩:=cz4 j
     go_wp2_with (first|((with_reducible refine gF 41 ?_);refine gX (some 5) Try.func41 (spec_l01In.calls D.out) ?_;rintro w' ⟨nd,rfl⟩)|(go_at_call 77;(with_reducible refine(spec_HalfOk.calls v.out).mono ?_);rintro e w' ⟨rfl,⟨nd,rfl⟩⟩)|(go_at_call 41;(with_reducible refine(spec_l01In.calls aN.out).mono ?_);rintro e w' ⟨rfl,⟨nd,rfl⟩⟩))
     go_meet
     case rel=>exact⟨_,(true),rS,H',⟨oL⟩,⟨mK j⟩,⟨cB⟩⟩
   ·replace q:=Bool.eq_false_iff.mpr q;subst q;replace H:=iF H;have H':=aM H;clear H;obtain⟨a4,a5,a6,a7,a8,a9,ba,bb⟩:=cz4 j
    go_wp2_with (first|((with_reducible refine gF 41 ?_);refine gX (some 5) Try.func41 (spec_l01In.calls D.out) ?_;rintro w' ⟨nd,rfl⟩)|(go_at_call 77;(with_reducible refine(spec_HalfOk.calls v.out).mono ?_);rintro e w' ⟨rfl,⟨nd,rfl⟩⟩))
    go_meet
    case rel=>exact⟨_,(true),rS,H',⟨oL⟩,⟨mK j⟩,⟨cB⟩⟩
  ·replace p:=Bool.eq_false_iff.mpr p;subst p;replace H:=iF H;have H':=aM H;clear H;obtain⟨bd,be,bf,bg,bh,bi,bj,bk⟩:=cz4 j
   go_wp2_with (first|((with_reducible refine gF 41 ?_);refine gX (some 5) Try.func41 (spec_l01In.calls D.out) ?_;rintro w' ⟨nd,rfl⟩))
   go_meet
   case rel=>exact⟨_,(true),rS,H',⟨oL⟩,⟨mK j⟩,⟨cB⟩⟩
 case rest=>
  clear HC2;(try clear p);(try clear q);(try clear E);(try clear aO aP aQ aR);(try clear aW aX aY aZ);(try clear a4 a5 a6 a7);(try clear bd be bf bg);(try clear aS aT aU aV);(try clear a0 a1 a2 a3);(try clear a8 a9 ba bb);(try clear bh bi bj bk);obtain⟨kq,ak,rfl,HA,HJ1,j,HB⟩:=hcut
  cases kq with
  | zero=>exact absurd HA.out (by simp[spec_InsOk.j0])
  | succ kj1=>
   have H:=HA.out;clear HA;simp only[spec_InsOk.j0]at H;by_cases aa:ak=true
   ·subst aa;replace H:=iT H;obtain rfl:=Option.some.inj H;go_wp2;go_ret;exact⟨rE,cB⟩
   ·replace aa:=Bool.eq_false_iff.mpr aa;subst aa;replace H:=iF H;have HC16:=aM H;clear H
    go_upto_region 3 with(fail)
    go_cut [38] (fun bB wc=> ∃ (kq:Nat) (am:Bool),bB= .bool am∧Aside0 (spec_InsOk.j1 kq am a b c d=some r)∧Aside0 (kq≤kj1)∧Aside0 (wc.heap[aL]?=some (.cells #[.int .i64 a,.int .i64 b,.int .i64 c,.int .i64 d] 34 (0,0)))∧Aside0 (Below w.heap.size w wc))
    case first=>
     have H:=HC16.out;clear HC16;replace H:=bE H;obtain⟨ap,aw,H⟩:=H;by_cases ab:ap=true
     ·subst ab;replace H:=iT H;have H':=aM H;clear H;obtain⟨bC,bD,bF,bG,bH,bI,bJ,bL⟩:=cz4 j
      go_wp2_with (first|((with_reducible refine gF 78 ?_);refine gX (some 27) Try.func78 (spec_l06Ask.calls aw.out) ?_;rintro w' ⟨nd,rfl⟩))
      go_meet
      case rel=>exact⟨_,(false),rS,H',⟨by have:=HJ1.out;first|omega|exact Nat.le_refl _⟩,⟨mK j⟩,⟨cB⟩⟩
     ·replace ab:=Bool.eq_false_iff.mpr ab;subst ab;replace H:=iF H;by_cases G:c=0
      ·rw[if_pos G]at H;obtain⟨I,bl⟩:=eT G;clear G
       (first|rw[I]|(simp only[i64_w,i32_w];rw[I])|skip)
       have H':=aM H;clear H;obtain⟨bM,bN,bO,bP,bQ,bR,bS,bT⟩:=cz4 j
       go_wp2_with (first|((with_reducible refine gF 78 ?_);refine gX (some 27) Try.func78 (spec_l06Ask.calls aw.out) ?_;rintro w' ⟨nd,rfl⟩))
       go_meet
       case rel=>exact⟨_,((d !=0)),rS,H',⟨by have:=HJ1.out;first|omega|exact Nat.le_refl _⟩,⟨mK j⟩,⟨cB⟩⟩
      ·rw[if_neg G]at H;obtain⟨I,bl⟩:=eF G
       (first|rw[I]|(simp only[i64_w,i32_w];rw[I])|skip)
       have H':=aM H;clear H;obtain⟨bU,bV,bW,bX,bY,bZ,b0,b1⟩:=cz4 j
       go_wp2_with (first|((with_reducible refine gF 78 ?_);refine gX (some 27) Try.func78 (spec_l06Ask.calls aw.out) ?_;rintro w' ⟨nd,rfl⟩))
       go_meet
       case rel=>exact⟨_,(true),rS,H',⟨by have:=HJ1.out;first|omega|exact Nat.le_refl _⟩,⟨mK j⟩,⟨cB⟩⟩
    case rest=>
     clear HC16;(try clear p);(try clear q);(try clear E);(try clear aa);(try clear ab);(try clear G);(try clear I);(try clear bl);(try clear aO aP aQ aR);(try clear aW aX aY aZ);(try clear a4 a5 a6 a7);(try clear bd be bf bg);(try clear bC bD bF bG);(try clear bM bN bO bP);(try clear bU bV bW bX);(try clear aS aT aU aV);(try clear a0 a1 a2 a3);(try clear a8 a9 ba bb);(try clear bh bi bj bk);(try clear bH bI bJ bL);(try clear bQ bR bS bT);(try clear bY bZ b0 b1);obtain⟨kq,am,rfl,HA,HJ15,j,HB⟩:=hcut
     cases kq with
     | zero=>exact absurd HA.out (by simp[spec_InsOk.j1])
     | succ kj15=>
      have H:=HA.out;clear HA;simp only[spec_InsOk.j1]at H;by_cases an:am=true
      ·subst an;replace H:=iT H;obtain rfl:=Option.some.inj H;go_wp2;go_ret;exact⟨rE,cB⟩
      ·replace an:=Bool.eq_false_iff.mpr an;subst an;replace H:=iF H;by_cases ac:a=1
       ·rw[if_pos ac]at H;obtain⟨b5,b8⟩:=eT ac;clear ac;obtain rfl:=Option.some.inj H;obtain⟨cp,cq,cr,cs,ct,cu,cv,cw⟩:=cz4 j;go_wp2;go_ret;exact⟨rE,cB⟩
       ·rw[if_neg ac]at H;obtain⟨b5,b8⟩:=eF ac;by_cases ad:a=7
        ·rw[if_pos ad]at H;obtain⟨b9,ca⟩:=eT ad;clear ad;obtain rfl:=Option.some.inj H;obtain⟨cx,cy,cz,cA,cD,cE,cF,cG⟩:=cz4 j;go_wp2;go_ret;exact⟨rE,cB⟩
        ·rw[if_neg ad]at H;obtain⟨b9,ca⟩:=eF ad;obtain rfl:=Option.some.inj H;obtain⟨cI,cJ,cL,cM,cN,cO,cP,cQ⟩:=cz4 j;go_wp2;go_ret;exact⟨rE,cB⟩
def spec_l07Far.f (a:Int) (b:Int) (c:Int) (d:Int):Option (Int):=if a=7 then(some b)else(if c>d then(some c)else(some d))
set_option maxHeartbeats 8000000 in
set_option maxRecDepth 100000 in
theorem spec_l07Far.calls {a:Int}{b:Int}{c:Int}{d:Int}{r:Int}{w:World}(h:spec_l07Far.f a b c d=some r) :
 Calls Try.prog 43 #[.agg #[.int .i64 a,.int .i64 b,.int .i64 c,.int .i64 d]] w fun e w'=>e= .returned (.int .i64 r)∧Below w.heap.size w w':=by
 have hu34:=Try.underlying34;have HB:=rW w;have H:(if a=7 then(some b)else(if c>d then(some c)else(some d)))=some r:=h;clear h;by_cases ae:a=7
 ·rw[if_pos ae]at H;obtain⟨cb,cc⟩:=eT ae;clear ae;obtain rfl:=Option.some.inj H;go_enter Try.func43,Try.ntmps43
  go_wp2_with (first|((with_reducible refine gN 1 ?_);refine boxZ 1 #[.int .i64 a,.int .i64 b,.int .i64 c,.int .i64 d] 34 ?_;intro bm hg bz hbox hb;have af:=aM hbox;have GW109:=gS hg;have GE109:=gS hg;replace HB:=sB hb;clear hb hbox hg;obtain⟨cR,cS,cT,cU,cV,cW,cX,cY⟩:=cz4 af))
  go_ret;exact⟨rE,cB⟩
 ·rw[if_neg ae]at H;obtain⟨cb,cc⟩:=eF ae;by_cases p:c>d
  ·rw[if_pos p]at H;have bn:decide (d<c)=true:=decide_eq_true p;clear p;obtain rfl:=Option.some.inj H;go_enter Try.func43,Try.ntmps43
   go_wp2_with (first|((with_reducible refine gN 1 ?_);refine boxZ 1 #[.int .i64 a,.int .i64 b,.int .i64 c,.int .i64 d] 34 ?_;intro bm hg cZ hbox hb;have af:=aM hbox;have GW109:=gS hg;have GE109:=gS hg;replace HB:=sB hb;clear hb hbox hg;obtain⟨c0,c1,c2,c3,c4,c5,c7,c8⟩:=cz4 af))
   go_ret;exact⟨rE,cB⟩
  ·rw[if_neg p]at H;have bn:decide (d<c)=false:=decide_eq_false p;clear p;obtain rfl:=Option.some.inj H;go_enter Try.func43,Try.ntmps43
   go_wp2_with (first|((with_reducible refine gN 1 ?_);refine boxZ 1 #[.int .i64 a,.int .i64 b,.int .i64 c,.int .i64 d] 34 ?_;intro bm hg c9 hbox hb;have af:=aM hbox;have GW109:=gS hg;have GE109:=gS hg;replace HB:=sB hb;clear hb hbox hg;obtain⟨da,db,dc,dd,de,df,dg,dh⟩:=cz4 af))
   go_ret;exact⟨rE,cB⟩
def spec_CheckProgram.l0:Nat→List (S34)→Int→Option (Bool)
  | 0,_,_=>none
  | k+1,m,n=>if n<(m.length:Int)then(if 0≤n then((spec_InsOk.f k ((rd_T34 m n).f0) ((rd_T34 m n).f1) ((rd_T34 m n).f2) ((rd_T34 m n).f3)).bind fun ax=>(if ax=true then(if((rd_T34 m n).f0)=8 then(spec_CheckProgram.l0 k m (wrap64 (n+1)))else((spec_l07Far.f ((rd_T34 m n).f0) ((rd_T34 m n).f1) ((rd_T34 m n).f2) ((rd_T34 m n).f3)).bind fun ag=>(if(wrap64 ((wrap64 (n+1))+ag))≥(m.length:Int)then(some false)else(spec_CheckProgram.l0 k m (wrap64 (n+1))))))else(some false)))else(none))else(if 0≤(wrap64 ((m.length:Int) - 1))then(if(wrap64 ((m.length:Int) - 1))<(m.length:Int)then(some (((rd_T34 m (wrap64 ((m.length:Int) - 1))).f0) == 8))else(none))else(none))
def spec_CheckProgram.f (k:Nat) (g:List (S34)):Option (Bool):=(spec_l01In.f (g.length:Int) 1 400).bind fun ay=>(if ay=true then(spec_CheckProgram.l0 k g 0)else(some false))
set_option maxHeartbeats 8000000 in
set_option maxRecDepth 100000 in
theorem spec_CheckProgram.calls {k:Nat}{L:Option Addr}{M:Nat}{g:List (S34)}{r:Bool}{w:World}(h:spec_CheckProgram.f k g=some r)(O:Kd.C k34 w L g.length g)(U:g.length≤M) :
 Calls Try.prog 12 #[.slice L g.length M] w fun e w'=>e= .returned (.bool r)∧Below w.heap.size w w':=by
 have hu34:=Try.underlying34;have HR0:=aM O;have HC0:=aM U;clear O U;have HB:=rW w
 unfold spec_CheckProgram.f at h;have H:=h
 clear h;replace H:=bE H;obtain⟨ay,t,H⟩:=H;by_cases s:ay=true
 ·subst s;replace H:=iT H;have H':=aM H;clear H;go_enter Try.func12,Try.ntmps12
  go_wp2_with (first|((with_reducible refine gF 41 ?_);refine gX (some 6) Try.func41 (spec_l01In.calls t.out) ?_;rintro w' ⟨nd,rfl⟩))
  go_loopg [3] k (fun kq cd w'=> ∃ (l:Int),cd= .int .i64 l∧Aside0 (spec_CheckProgram.l0 kq g l=some r)∧Aside0 (kq≤k)∧Aside0 (Below w.heap.size w w'))
  case atStart=>exact⟨(0),rS,H',⟨Nat.le_refl _⟩,⟨cB⟩⟩
  case round=>
   clear H';(try clear s);obtain⟨l,rfl,HA,HK1,HB⟩:=hrel
   cases gk with
   | zero=>exact absurd HA.out (by simp[spec_CheckProgram.l0])
   | succ k1=>
    have H:=HA.out;clear HA;simp only[spec_CheckProgram.l0]at H;by_cases o:l<(g.length:Int)
    ·rw[if_pos o]at H;have ao:=decide_eq_true o;clear o;replace H:=gD H;obtain⟨bn,H⟩:=H;replace H:=bE H;obtain⟨ax,v,H⟩:=H;by_cases q:ax=true
     ·subst q;replace H:=iT H;by_cases ah:((rd_T34 g l).f0)=8
      ·rw[if_pos ah]at H;obtain⟨ce,cf⟩:=eT ah;clear ah;have H':=aM H;clear H;obtain⟨az,aA,x,z,aB,aC,aD,aE⟩:=b4 HB (at_T34 HR0.out l);cases z
       go_wp2_with (first|((with_reducible refine gF 42 ?_);refine gX (some 18) Try.func42 (spec_InsOk.calls v.out) ?_;intro di hb;replace HB:=sB hb;(try clear hb);obtain⟨bo,bp,ai,aj,bq,br,bs,bu⟩:=b4 HB (at_T34 HR0.out l);obtain rfl:x=ai:=(by injection aj)))
       go_roundg k1
       case measure=>exact oK
       case rel=>exact⟨(wrap64 (l+1)),rS,H',⟨oK⟩,⟨cB⟩⟩
      ·rw[if_neg ah]at H;obtain⟨ce,cf⟩:=eF ah;replace H:=bE H;obtain⟨ag,al,H⟩:=H;by_cases J:(wrap64 ((wrap64 (l+1))+ag))≥(g.length:Int)
       ·rw[if_pos J]at H;have cg:decide ((g.length:Int)≤(wrap64 ((wrap64 (l+1))+ag)))=true:=decide_eq_true J;clear J;obtain rfl:=Option.some.inj H;obtain⟨az,aA,x,z,aB,aC,aD,aE⟩:=b4 HB (at_T34 HR0.out l);cases z
        go_wp2_with (first|((with_reducible refine gF 42 ?_);refine gX (some 18) Try.func42 (spec_InsOk.calls v.out) ?_;intro dj hb;replace HB:=sB hb;(try clear hb);obtain⟨bo,bp,ai,aj,bq,br,bs,bu⟩:=b4 HB (at_T34 HR0.out l);obtain rfl:x=ai:=(by injection aj);obtain⟨ch,ci,aF,aG,cj,ck,cl,cm⟩:=b4 HB (at_T34 HR0.out l);obtain rfl:x=aF:=(by injection aG))|(go_at_call 43;(with_reducible refine(spec_l07Far.calls al.out).mono ?_);rintro e dk ⟨rfl,hb⟩;replace HB:=sB hb;(try clear hb)))
        go_ret;exact⟨rE,cB⟩
       ·rw[if_neg J]at H;have cg:decide ((g.length:Int)≤(wrap64 ((wrap64 (l+1))+ag)))=false:=decide_eq_false J;clear J;have H':=aM H;clear H;obtain⟨az,aA,x,z,aB,aC,aD,aE⟩:=b4 HB (at_T34 HR0.out l);cases z
        go_wp2_with (first|((with_reducible refine gF 42 ?_);refine gX (some 18) Try.func42 (spec_InsOk.calls v.out) ?_;intro dl hb;replace HB:=sB hb;(try clear hb);obtain⟨bo,bp,ai,aj,bq,br,bs,bu⟩:=b4 HB (at_T34 HR0.out l);obtain rfl:x=ai:=(by injection aj);obtain⟨ch,ci,aF,aG,cj,ck,cl,cm⟩:=b4 HB (at_T34 HR0.out l);obtain rfl:x=aF:=(by injection aG))|(go_at_call 43;(with_reducible refine(spec_l07Far.calls al.out).mono ?_);rintro e dm ⟨rfl,hb⟩;replace HB:=sB hb;(try clear hb)))
        go_roundg k1
        case measure=>exact oK
        case rel=>exact⟨(wrap64 (l+1)),rS,H',⟨oK⟩,⟨cB⟩⟩
     ·replace q:=Bool.eq_false_iff.mpr q;subst q;replace H:=iF H;obtain rfl:=Option.some.inj H;obtain⟨az,aA,x,z,aB,aC,aD,aE⟩:=b4 HB (at_T34 HR0.out l);cases z
      go_wp2_with (first|((with_reducible refine gF 42 ?_);refine gX (some 18) Try.func42 (spec_InsOk.calls v.out) ?_;intro dn hb;replace HB:=sB hb;(try clear hb)))
      go_ret;exact⟨rE,cB⟩
    ·rw[if_neg o]at H;have ao:=decide_eq_false o;clear o;obtain⟨ji17,hji17⟩ : ∃ j_:Int,(wrap64 ((g.length:Int) - 1))=j_:=⟨_,rfl⟩
     (first|rw[hji17]at H|simp only[hji17]at H)
     have hji17w:(IntKind.i64.wrap ((g.length:Int) - 1))=ji17:=(i64_w _).trans hji17;replace H:=gD H;obtain⟨dp,H⟩:=H;replace H:=gD H;obtain⟨dq,H⟩:=H;obtain rfl:=Option.some.inj H;obtain⟨dr,ds,dt,cn,du,dv,dw,dx⟩:=b4 HB (at_T34 HR0.out (ji17));cases cn;go_wp2;go_ret
     exact⟨by first|rfl|(simp[errW_none,errW_some] <;> rfl)|(simp only[← hji17];first|rfl|(simp[errW_none,errW_some] <;> rfl))|(simp[*,errW_none,errW_some] <;> rfl),cB⟩
 ·replace s:=Bool.eq_false_iff.mpr s;subst s;replace H:=iF H;obtain rfl:=Option.some.inj H;go_enter Try.func12,Try.ntmps12
  go_wp2_with (first|((with_reducible refine gF 41 ?_);refine gX (some 6) Try.func41 (spec_l01In.calls t.out) ?_;rintro w' ⟨nd,rfl⟩))
  go_ret;exact⟨rE,cB⟩
def spec_WideOk.f (a:Int) (b:Int):Option (Bool):=(spec_HalfOk.f a).bind fun aH=>(if aH=true then((spec_HalfOk.f b).bind fun bv=>(some bv))else(some false))
set_option maxHeartbeats 8000000 in
set_option maxRecDepth 100000 in
theorem spec_WideOk.calls {a:Int}{b:Int}{r:Bool}{w:World}(h:spec_WideOk.f a b=some r) :
 Calls Try.prog 79 #[.agg #[.int .i64 a,.int .i64 b]] w fun e w'=>e= .returned (.bool r)∧Below w.heap.size w w':=by
 have hu93:=Try.underlying93;have HB:=rW w
 unfold spec_WideOk.f at h;have H:=h
 clear h;replace H:=bE H;obtain⟨aH,t,H⟩:=H;by_cases s:aH=true
 ·subst s;replace H:=iT H;replace H:=bE H;obtain⟨bv,D,H⟩:=H;obtain rfl:=Option.some.inj H;go_enter Try.func79,Try.ntmps79
  go_wp2_with (first|((with_reducible refine gN 1 ?_);refine boxZ 1 #[.int .i64 a,.int .i64 b] 93 ?_;intro co hg dy hbox hb;have aI:=aM hbox;have GW117:=gS hg;have GE117:=gS hg;replace HB:=sB hb;clear hb hbox hg;obtain⟨dz,dC,dD,dE⟩:=cz2 aI)|((with_reducible refine gF 77 ?_);refine gX (some 5) Try.func77 (spec_HalfOk.calls t.out) ?_;rintro w' ⟨nd,rfl⟩)|(go_at_call 77;(with_reducible refine(spec_HalfOk.calls D.out).mono ?_);rintro e w' ⟨rfl,⟨nd,rfl⟩⟩))
  go_ret;exact⟨rE,cB⟩
 ·replace s:=Bool.eq_false_iff.mpr s;subst s;replace H:=iF H;obtain rfl:=Option.some.inj H;go_enter Try.func79,Try.ntmps79
  go_wp2_with (first|((with_reducible refine gN 1 ?_);refine boxZ 1 #[.int .i64 a,.int .i64 b] 93 ?_;intro co hg dF hbox hb;have aI:=aM hbox;have GW117:=gS hg;have GE117:=gS hg;replace HB:=sB hb;clear hb hbox hg;obtain⟨dG,dH,dI,dJ⟩:=cz2 aI)|((with_reducible refine gF 77 ?_);refine gX (some 5) Try.func77 (spec_HalfOk.calls t.out) ?_;rintro w' ⟨nd,rfl⟩))
  go_ret;exact⟨rE,cB⟩
end Go.Proofs.Ytpbalojiaghfhaa.PFnCompilesSmall
