import Derived.Test.YtpbalojiaghfhaaPFnStacksy0
import Derived.Test.YtpbalojiaghfhaaPFnStacksy2
import Derived.Test.YtpbalojiaghfhaaPFnStacksy3
namespace Go.Proofs.Ytpbalojiaghfhaa.PFnStacks
open Go.RowKit Go.Proofs.YtpbalojiaghfhaaW.PrintWords Go.Proofs.YtpbalojiaghfhaaW.PrintLast Go.Proofs.YtpbalojiaghfhaaW.PrintMore Go.Proofs.YtpbalojiaghfhaaW.Z
open Kd
attribute [local go_sem] isS max2_int min2_int max_two min_two max_three min_three max_four min_four
set_option linter.unusedVariables false
set_option linter.unusedSimpArgs false
def spec_CallOk.l0:Nat→Int→Int→Int→List (S93)→Option (Bool)
  | 0,_,_,_,_=>none
  | k+1,ae,a6,a7,af=>if ae<(af.length:Int)then(if 0≤ae then((spec_WideOk.f ((rd_T93 af ae).f0) ((rd_T93 af ae).f1)).bind fun aE=>(if aE=true then(spec_CallOk.l0 k (wrap64 (ae+1)) a6 a7 af)else(some false)))else(none))else((spec_HalfOk.f a6).bind fun aF=>(if aF=true then((spec_HalfOk.f a7).bind fun aG=>(if aG=true then(some ((af.length:Int) == 3))else(some false)))else(some false)))
def spec_CallOk.f (k:Nat) (b:Int) (d:Int) (i:List (S93)):Option (Bool):=spec_CallOk.l0 k 0 b d i
set_option maxHeartbeats 8000000 in
set_option maxRecDepth 100000 in
theorem spec_CallOk.calls {k:Nat}{b:Int}{d:Int}{G:Option Addr}{I:Nat}{i:List (S93)}{r:Bool}{w:World}(h:spec_CallOk.f k b d i=some r)(ag:Kd.C k93 w G i.length i)(ah:i.length≤I) :
 Calls Try.prog 44 #[.agg #[.int .i64 b,.int .i64 d,.slice G i.length I]] w fun e w'=>e= .returned (.bool r)∧Below w.heap.size w w':=by
 have hu28:=Try.underlying28;have hu93:=Try.underlying93;have HR0_2:=aM ag;have HC0_2:=aM ah;clear ag ah;have HB:=rW w;have H:(spec_CallOk.l0 k 0 b d i)=some r:=h;clear h;have H':=aM H;clear H;go_enter Try.func44,Try.ntmps44
 go_wp2_with (first|((with_reducible refine gN 1 ?_);(try(refine gate_guard (by rfl) ?_;dsimp only));refine boxZ 1 #[.int .i64 b,.int .i64 d,.slice G i.length I] 28 ?_;intro bq hg cx hbox hb;have t:=aM hbox;have GW200:=gS hg;have GE200:=gS hg;replace HB:=sB hb;clear hb hbox hg))
 go_loopg [3] k (fun kq br w'=> ∃ (W:Int),br= .int .i64 W∧Aside0 (spec_CallOk.l0 kq W b d i=some r)∧Aside0 (kq≤k)∧Aside0 (w'.heap[bq]?=some (.cells #[.int .i64 b,.int .i64 d,(.slice G i.length I)] 28 (0,0)))∧Aside0 (Below w.heap.size w w'))
 case atStart=>exact⟨(0),rS,H',⟨Nat.le_refl _⟩,⟨mK t⟩,⟨cB⟩⟩
 case round=>
  clear H';obtain⟨W,rfl,HA,HK1,t,HB⟩:=hrel
  cases gk with
  | zero=>exact absurd HA.out (by simp[spec_CallOk.l0])
  | succ k1=>
   have H:=HA.out;clear HA;simp only[spec_CallOk.l0]at H;by_cases u:W<(i.length:Int)
   ·rw[if_pos u]at H;have aH:=decide_eq_true u;clear u;replace H:=gD H;obtain⟨cy,H⟩:=H;replace H:=bE H;obtain⟨aE,J,H⟩:=H;by_cases l:aE=true
    ·subst l;replace H:=iT H;have H':=aM H;clear H;obtain⟨cz,cA,cD,cE,cF,cG⟩:=cz3 t;obtain⟨bs,bu,bv,aI,bw,bx⟩:=b2 HB (at_T93 HR0_2.out W);cases aI
     go_wp2_with (first|((with_reducible refine gF 79 ?_);refine gX (some 16) Try.func79 (spec_WideOk.calls J.out) ?_;intro bz hb;replace t:=kB t hb;replace HB:=sB hb;(try clear hb)))
     go_roundg k1
     case measure=>exact oK
     case rel=>exact⟨(wrap64 (W+1)),rS,H',⟨oK⟩,⟨mK t⟩,⟨cB⟩⟩
    ·replace l:=Bool.eq_false_iff.mpr l;subst l;replace H:=iF H;obtain rfl:=Option.some.inj H;obtain⟨aJ,aK,aL,aN,aO,aP⟩:=cz3 t;obtain⟨bs,bu,bv,aI,bw,bx⟩:=b2 HB (at_T93 HR0_2.out W);cases aI
     go_wp2_with (first|((with_reducible refine gF 79 ?_);refine gX (some 16) Try.func79 (spec_WideOk.calls J.out) ?_;intro a8 hb;replace t:=kB t hb;replace HB:=sB hb;(try clear hb)))
     go_ret;exact⟨rE,cB⟩
   ·rw[if_neg u]at H;have aH:=decide_eq_false u;clear u;replace H:=bE H;obtain⟨aF,aQ,H⟩:=H;by_cases q:aF=true
    ·subst q;replace H:=iT H;replace H:=bE H;obtain⟨aG,a9,H⟩:=H;by_cases aA:aG=true
     ·subst aA;replace H:=iT H;obtain rfl:=Option.some.inj H;obtain⟨cI,cJ,cL,cM,cN,cO⟩:=cz3 t
      go_wp2_with (first|((with_reducible refine gF 77 ?_);refine gX (some 20) Try.func77 (spec_HalfOk.calls aQ.out) ?_;rintro w' ⟨nd,rfl⟩)|(go_at_call 77;(with_reducible refine(spec_HalfOk.calls a9.out).mono ?_);rintro e w' ⟨rfl,⟨nd,rfl⟩⟩))
      go_ret;exact⟨rE,cB⟩
     ·replace aA:=Bool.eq_false_iff.mpr aA;subst aA;replace H:=iF H;obtain rfl:=Option.some.inj H;obtain⟨bA,bB,bC,bD,bF,bG⟩:=cz3 t
      go_wp2_with (first|((with_reducible refine gF 77 ?_);refine gX (some 20) Try.func77 (spec_HalfOk.calls aQ.out) ?_;rintro w' ⟨nd,rfl⟩)|(go_at_call 77;(with_reducible refine(spec_HalfOk.calls a9.out).mono ?_);rintro e w' ⟨rfl,⟨nd,rfl⟩⟩))
      go_ret;exact⟨rE,cB⟩
    ·replace q:=Bool.eq_false_iff.mpr q;subst q;replace H:=iF H;obtain rfl:=Option.some.inj H;obtain⟨cP,cQ,cR,cS,cT,cU⟩:=cz3 t
     go_wp2_with (first|((with_reducible refine gF 77 ?_);refine gX (some 20) Try.func77 (spec_HalfOk.calls aQ.out) ?_;rintro w' ⟨nd,rfl⟩))
     go_ret;exact⟨rE,cB⟩
def spec_FieldAt.j0:Nat→Int→Bool→Int→Int→List (S93)→Option (Int×Bool)
  | 0,_,_,_,_,_=>none
  | k+1,X,bH,bI,bJ,aR=>if bH=true then(some (0,false))else(if X=0 then(some (bJ,true))else(if X=1 then(some (bI,true))else(if 0≤(wrap64 (Int.tdiv (wrap64 (X - 2)) 2))then(if(wrap64 (Int.tdiv (wrap64 (X - 2)) 2))<(aR.length:Int)then(if(Int.tmod X 2)=0 then(some ((rd_T93 aR (wrap64 (Int.tdiv (wrap64 (X - 2)) 2))).f1,true))else(some ((rd_T93 aR (wrap64 (Int.tdiv (wrap64 (X - 2)) 2))).f0,true)))else(none))else(none))))
def spec_FieldAt.f (k:Nat) (b:Int) (d:Int) (i:List (S93)) (j:Int):Option (Int×Bool):=(spec_CallOk.f k b d i).bind fun aS=>(if aS=true then((spec_l01In.f j 0 7).bind fun aT=>(spec_FieldAt.j0 k j (!aT) b d i))else(spec_FieldAt.j0 k j true b d i))
set_option maxHeartbeats 8000000 in
set_option maxRecDepth 100000 in
theorem spec_FieldAt.calls {k:Nat}{b:Int}{d:Int}{G:Option Addr}{I:Nat}{i:List (S93)}{j:Int}{r1:Int}{r2:Bool}{w:World}(h:spec_FieldAt.f k b d i j=some (r1,r2))(ag:Kd.C k93 w G i.length i)(ah:i.length≤I) :
 Calls Try.prog 45 #[.agg #[.int .i64 b,.int .i64 d,.slice G i.length I],.int .i64 j] w fun e w'=>e= .returned (.tuple #[.int .i64 r1,.bool r2])∧Below w.heap.size w w':=by
 have hu28:=Try.underlying28;have hu93:=Try.underlying93;have HR0_2:=aM ag;have HC0_2:=aM ah;clear ag ah;have HB:=rW w
 unfold spec_FieldAt.f at h;have H:=h
 clear h;have HC3:=aM H;clear H;go_enter Try.func45,Try.ntmps45
 go_upto_region 1 with(first|((with_reducible refine gN 2 ?_);refine boxZ 2 #[.int .i64 b,.int .i64 d,.slice G i.length I] 28 ?_;intro bL hg ba hbox hb;have n:=aM hbox;have GW205:=gS hg;have GE205:=gS hg;replace HB:=sB hb;clear hb hbox hg))
 (try simp only[Act.put,List.setIfInBounds_toArray,List.set_cons_zero,List.set_cons_succ])
 go_cut [14] (fun bM wc=> ∃ (kq:Nat) (aB:Bool),bM= .bool aB∧Aside0 (spec_FieldAt.j0 kq j aB b d i=some (r1,r2))∧Aside0 (kq≤k)∧Aside0 (wc.heap[bL]?=some (.cells #[.int .i64 b,.int .i64 d,(.slice G i.length I)] 28 (0,0)))∧Aside0 (Below w.heap.size w wc))
 case first=>
  have H:=HC3.out;clear HC3;replace H:=bE H;obtain⟨aS,J,H⟩:=H;by_cases l:aS=true
  ·subst l;replace H:=iT H;replace H:=bE H;obtain⟨aT,aU,H⟩:=H;have H':=aM H;clear H;obtain⟨bb,bd,be,bf,bg,bh⟩:=cz3 n
   go_wp2_with (first|((with_reducible refine gF 44 ?_);refine gX (some 8) Try.func44 (spec_CallOk.calls J.out (cH HR0_2) HC0_2.out) ?_;intro cV hb;replace n:=kB n hb;replace HB:=sB hb;(try clear hb))|(go_at_call 41;(with_reducible refine(spec_l01In.calls aU.out).mono ?_);rintro e w' ⟨rfl,⟨nd,rfl⟩⟩))
   go_meet
   case rel=>exact⟨_,(!aT),rS,H',⟨oL⟩,⟨mK n⟩,⟨cB⟩⟩
  ·replace l:=Bool.eq_false_iff.mpr l;subst l;replace H:=iF H;have H':=aM H;clear H;obtain⟨bN,bO,bP,bQ,bR,bS⟩:=cz3 n
   go_wp2_with (first|((with_reducible refine gF 44 ?_);refine gX (some 8) Try.func44 (spec_CallOk.calls J.out (cH HR0_2) HC0_2.out) ?_;intro bT hb;replace n:=kB n hb;replace HB:=sB hb;(try clear hb)))
   go_meet
   case rel=>exact⟨_,(true),rS,H',⟨oL⟩,⟨mK n⟩,⟨cB⟩⟩
 case rest=>
  clear HC3;(try clear l);(try clear bN bO bP);(try clear bb bd be);(try clear bQ bR bS);(try clear bf bg bh);obtain⟨kq,aB,rfl,HA,HJ2,n,HB⟩:=hcut
  cases kq with
  | zero=>exact absurd HA.out (by simp[spec_FieldAt.j0])
  | succ kj2=>
   have H:=HA.out;clear HA;simp only[spec_FieldAt.j0]at H;by_cases q:aB=true
   ·subst q;replace H:=iT H;simp only[Option.some.injEq,Prod.mk.injEq]at H;obtain⟨rfl,rfl⟩:=H;go_wp2;go_ret2;exact⟨rE,cB⟩
   ·replace q:=Bool.eq_false_iff.mpr q;subst q;replace H:=iF H;by_cases v:j=0
    ·rw[if_pos v]at H;obtain⟨aV,bU⟩:=eT v;clear v;simp only[Option.some.injEq,Prod.mk.injEq]at H;obtain⟨rfl,rfl⟩:=H;obtain⟨cW,cX,cY,cZ,c0,c1⟩:=cz3 n;go_wp2;go_ret2;exact⟨rE,cB⟩
    ·rw[if_neg v]at H;obtain⟨aV,bU⟩:=eF v;by_cases x:j=1
     ·rw[if_pos x]at H;obtain⟨aW,aX⟩:=eT x;clear x;simp only[Option.some.injEq,Prod.mk.injEq]at H;obtain⟨rfl,rfl⟩:=H;obtain⟨bA,bB,bC,bD,bF,bG⟩:=cz3 n;go_wp2;go_ret2;exact⟨rE,cB⟩
     ·rw[if_neg x]at H;obtain⟨aW,aX⟩:=eF x;obtain⟨ji17,hji17⟩ : ∃ j_:Int,(wrap64 (Int.tdiv (wrap64 (j - 2)) 2))=j_:=⟨_,rfl⟩
      (first|rw[hji17]at H|simp only[hji17]at H)
      have hji17w:(IntKind.i64.wrap (Int.tdiv (wrap64 (j - 2)) 2))=ji17:=(i64_w _).trans hji17;replace H:=gD H;obtain⟨c3,H⟩:=H;replace H:=gD H;obtain⟨c6,H⟩:=H;by_cases ai:(Int.tmod j 2)=0
      ·rw[if_pos ai]at H;obtain⟨bV,bW⟩:=eT ai;clear ai;simp only[Option.some.injEq,Prod.mk.injEq]at H;obtain⟨rfl,rfl⟩:=H;obtain⟨c9,da,db,dc,dd,de⟩:=cz3 n;obtain⟨bX,bY,bZ,aY,b0,b1⟩:=b2 HB (at_T93 HR0_2.out (ji17));cases aY
       go_wp2_with (first|((with_reducible refine gN 6 ?_);refine boxZ 6 #[.int .i64 0,.int .i64 0] 93 ?_;intro b5 hg df hbox hb;have aZ:=aM hbox;have GW209:=gS hg;have GE209:=gS hg;replace HB:=sB hb;have a0:=nL hg n;have a1:=nG hg n;replace n:=kB n hb;clear hb hbox hg;have hnb23:=a1.out;have hnc23:=a0.out;obtain⟨dg,dh,di,dj⟩:=cz2 aZ))
       go_ret2
       exact⟨by first|rfl|(simp[errW_none,errW_some] <;> rfl)|(simp only[← hji17];first|rfl|(simp[errW_none,errW_some] <;> rfl))|(simp[*,errW_none,errW_some] <;> rfl),cB⟩
      ·rw[if_neg ai]at H;obtain⟨bV,bW⟩:=eF ai;simp only[Option.some.injEq,Prod.mk.injEq]at H;obtain⟨rfl,rfl⟩:=H;obtain⟨b8,b9,ca,cb,cc,cd⟩:=cz3 n;obtain⟨bX,bY,bZ,aY,b0,b1⟩:=b2 HB (at_T93 HR0_2.out (ji17));cases aY
       go_wp2_with (first|((with_reducible refine gN 6 ?_);refine boxZ 6 #[.int .i64 0,.int .i64 0] 93 ?_;intro b5 hg dk hbox hb;have aZ:=aM hbox;have GW209:=gS hg;have GE209:=gS hg;replace HB:=sB hb;have a0:=nL hg n;have a1:=nG hg n;replace n:=kB n hb;clear hb hbox hg;have hnb27:=a1.out;have hnc27:=a0.out;obtain⟨dl,dm,dn,dp⟩:=cz2 aZ))
       go_ret2
       exact⟨by first|rfl|(simp[errW_none,errW_some] <;> rfl)|(simp only[← hji17];first|rfl|(simp[errW_none,errW_some] <;> rfl))|(simp[*,errW_none,errW_some] <;> rfl),cB⟩
def spec_l07Asks.f (b:Int) (d:Int) (Y:Int) (aa:Int) (j:Int):Option (Bool):=if b=3 then(some (j == d))else(if b=4 then(some (decide (j>d)))else(if b=5 then(some (decide (j≥d)))else(some ((Go.bits .and .i64 j d) !=0))))
set_option maxHeartbeats 8000000 in
set_option maxRecDepth 100000 in
theorem spec_l07Asks.calls {b:Int}{d:Int}{Y:Int}{aa:Int}{j:Int}{r:Bool}{w:World}(h:spec_l07Asks.f b d Y aa j=some r) :
 Calls Try.prog 46 #[.agg #[.int .i64 b,.int .i64 d,.int .i64 Y,.int .i64 aa],.int .i64 j] w fun e w'=>e= .returned (.bool r)∧Below w.heap.size w w':=by
 have hu34:=Try.underlying34;have HB:=rW w;have H:(if b=3 then(some (j == d))else(if b=4 then(some (decide (j>d)))else(if b=5 then(some (decide (j≥d)))else(some ((Go.bits .and .i64 j d) !=0)))))=some r:=h;clear h;by_cases u:b=3
 ·rw[if_pos u]at H;obtain⟨aH,ce⟩:=eT u;clear u;obtain rfl:=Option.some.inj H;go_enter Try.func46,Try.ntmps46
  go_wp2_with (first|((with_reducible refine gN 2 ?_);refine boxZ 2 #[.int .i64 b,.int .i64 d,.int .i64 Y,.int .i64 aa] 34 ?_;intro a2 hg ba hbox hb;have ab:=aM hbox;have GW210:=gS hg;have GE210:=gS hg;replace HB:=sB hb;clear hb hbox hg;obtain⟨dq,dr,ds,dt,du,dv,dw,dx⟩:=cz4 ab))
  go_ret;exact⟨rE,cB⟩
 ·rw[if_neg u]at H;obtain⟨aH,ce⟩:=eF u;by_cases l:b=4
  ·rw[if_pos l]at H;obtain⟨cf,cg⟩:=eT l;clear l;obtain rfl:=Option.some.inj H;go_enter Try.func46,Try.ntmps46
   go_wp2_with (first|((with_reducible refine gN 2 ?_);refine boxZ 2 #[.int .i64 b,.int .i64 d,.int .i64 Y,.int .i64 aa] 34 ?_;intro a2 hg dy hbox hb;have ab:=aM hbox;have GW210:=gS hg;have GE210:=gS hg;replace HB:=sB hb;clear hb hbox hg;obtain⟨bb,bd,be,dz,bf,bg,bh,dC⟩:=cz4 ab))
   go_ret;exact⟨rE,cB⟩
  ·rw[if_neg l]at H;obtain⟨cf,cg⟩:=eF l;by_cases aj:b=5
   ·rw[if_pos aj]at H;obtain⟨ch,ci⟩:=eT aj;clear aj;obtain rfl:=Option.some.inj H;go_enter Try.func46,Try.ntmps46
    go_wp2_with (first|((with_reducible refine gN 2 ?_);refine boxZ 2 #[.int .i64 b,.int .i64 d,.int .i64 Y,.int .i64 aa] 34 ?_;intro a2 hg a8 hbox hb;have ab:=aM hbox;have GW210:=gS hg;have GE210:=gS hg;replace HB:=sB hb;clear hb hbox hg;obtain⟨dD,dE,dF,dG,dH,dI,dJ,dK⟩:=cz4 ab))
    go_ret;exact⟨rE,cB⟩
   ·rw[if_neg aj]at H;obtain⟨ch,ci⟩:=eF aj;obtain rfl:=Option.some.inj H;go_enter Try.func46,Try.ntmps46
    go_wp2_with (first|((with_reducible refine gN 2 ?_);refine boxZ 2 #[.int .i64 b,.int .i64 d,.int .i64 Y,.int .i64 aa] 34 ?_;intro a2 hg dL hbox hb;have ab:=aM hbox;have GW210:=gS hg;have GE210:=gS hg;replace HB:=sB hb;clear hb hbox hg;obtain⟨dM,dN,dO,dP,dQ,dS,dT,dU⟩:=cz4 ab))
    go_ret;exact⟨rE,cB⟩
mutual
def spec_Run.j0:Nat→List (S34)→Bool→Int→Int→List (S93)→Option (Int×Int)
  | 0,_,_,_,_,_=>none
  | k+1,m,cj,L,M,O=>if cj=true then(some (0,0))else(spec_Run.l0 k m 0 0 0 L M O)
def spec_Run.l0:Nat→List (S34)→Int→Int→Int→Int→Int→List (S93)→Option (Int×Int)
  | 0,_,_,_,_,_,_,_=>none
  | k+1,m,ak,ad,o,L,M,O=>if o<(m.length:Int)then(if 0≤o then(if((rd_T34 m o).f0)=1 then((spec_FieldAt.f k L M O ((rd_T34 m o).f1)).bind fun ck=>(spec_Run.l0 k m ck.1 (wrap64 (ad+1)) (wrap64 (o+1)) L M O))else(if((rd_T34 m o).f0)=2 then(spec_Run.l0 k m (Go.bits .and .i64 ak ((rd_T34 m o).f1)) (wrap64 (ad+1)) (wrap64 (o+1)) L M O)else(if((rd_T34 m o).f0)=7 then(spec_Run.l0 k m ak (wrap64 (ad+1)) (wrap64 ((wrap64 (o+((rd_T34 m o).f1)))+1)) L M O)else(if((rd_T34 m o).f0)=8 then(some ((rd_T34 m o).f1,wrap64 (ad+1)))else((spec_l07Asks.f ((rd_T34 m o).f0) ((rd_T34 m o).f1) ((rd_T34 m o).f2) ((rd_T34 m o).f3) ak).bind fun a3=>(if a3=true then(spec_Run.l0 k m ak (wrap64 (ad+1)) (wrap64 ((wrap64 (o+((rd_T34 m o).f2)))+1)) L M O)else(spec_Run.l0 k m ak (wrap64 (ad+1)) (wrap64 ((wrap64 (o+((rd_T34 m o).f3)))+1)) L M O)))))))else(none))else(some (0,0))
end
def spec_Run.f (k:Nat) (g:List (S34)) (y:Int) (z:Int) (s:List (S93)):Option (Int×Int):=(spec_CheckProgram.f k g).bind fun a4=>(if a4=true then((spec_CallOk.f k y z s).bind fun a5=>(spec_Run.j0 k g (!a5) y z s))else(spec_Run.j0 k g true y z s))
set_option maxHeartbeats 8000000 in
set_option maxRecDepth 100000 in
theorem spec_Run.calls {k:Nat}{bi:Option Addr}{bj:Nat}{g:List (S34)}{y:Int}{z:Int}{al:Option Addr}{am:Nat}{s:List (S93)}{r1:Int}{r2:Int}{w:World}(h:spec_Run.f k g y z s=some (r1,r2))(bk:Kd.C k34 w bi g.length g)(bl:g.length≤bj)(bm:Kd.C k93 w al s.length s)(bn:s.length≤am) :
 Calls Try.prog 14 #[.slice bi g.length bj,.agg #[.int .i64 y,.int .i64 z,.slice al s.length am]] w fun e w'=>e= .returned (.tuple #[.int .i64 r1,.int .i64 r2])∧Below w.heap.size w w':=by
 have hu28:=Try.underlying28;have hu34:=Try.underlying34;have HR0:=aM bk;have HC0:=aM bl;clear bk bl;have HR1_2:=aM bm;have HC1_2:=aM bn;clear bm bn;have HB:=rW w
 unfold spec_Run.f at h;have H:=h
 clear h;have HC3:=aM H;clear H;go_enter Try.func14,Try.ntmps14
 go_upto_region 1 with(first|((with_reducible refine gN 3 ?_);refine boxZ 3 #[.int .i64 y,.int .i64 z,.slice al s.length am] 28 ?_;intro bo hg ba hbox hb;have a:=aM hbox;have GW211:=gS hg;have GE211:=gS hg;replace HB:=sB hb;clear hb hbox hg))
 (try simp only[Act.put,List.setIfInBounds_toArray,List.set_cons_zero,List.set_cons_succ])
 go_cut [17] (fun cl wc=> ∃ (kq:Nat) (aC:Bool),cl= .bool aC∧Aside0 (spec_Run.j0 kq g aC y z s=some (r1,r2))∧Aside0 (kq≤k)∧Aside0 (wc.heap[bo]?=some (.cells #[.int .i64 y,.int .i64 z,(.slice al s.length am)] 28 (0,0)))∧Aside0 (Below w.heap.size w wc))
 case first=>
  have H:=HC3.out;clear HC3;replace H:=bE H;obtain⟨a4,J,H⟩:=H;by_cases l:a4=true
  ·subst l;replace H:=iT H;replace H:=bE H;obtain⟨a5,aU,H⟩:=H;have H':=aM H;clear H
   go_wp2_with (first|((with_reducible refine gF 12 ?_);refine gX (some 11) Try.func12 (spec_CheckProgram.calls J.out (cH HR0) HC0.out) ?_;intro bz hb;replace a:=kB a hb;replace HB:=sB hb;(try clear hb);obtain⟨aJ,aK,aL,aN,aO,aP⟩:=cz3 a)|(go_at_call 44;(with_reducible refine(spec_CallOk.calls aU.out ?side1 ?side2).mono ?_);(case side1=>exact cH HR1_2);(case side2=>exact HC1_2.out);rintro e a8 ⟨rfl,hb⟩;replace a:=kB a hb;replace HB:=sB hb;(try clear hb)))
   go_meet
   case rel=>exact⟨_,(!a5),rS,H',⟨oL⟩,⟨mK a⟩,⟨cB⟩⟩
  ·replace l:=Bool.eq_false_iff.mpr l;subst l;replace H:=iF H;have H':=aM H;clear H
   go_wp2_with (first|((with_reducible refine gF 12 ?_);refine gX (some 11) Try.func12 (spec_CheckProgram.calls J.out (cH HR0) HC0.out) ?_;intro bT hb;replace a:=kB a hb;replace HB:=sB hb;(try clear hb)))
   go_meet
   case rel=>exact⟨_,(true),rS,H',⟨oL⟩,⟨mK a⟩,⟨cB⟩⟩
 case rest=>
  clear HC3;(try clear l);(try clear aJ aK aL);(try clear aN aO aP);obtain⟨kq,aC,rfl,HA,HJ2,a,HB⟩:=hcut
  cases kq with
  | zero=>exact absurd HA.out (by simp[spec_Run.j0])
  | succ kj2=>
   have H:=HA.out;clear HA;simp only[spec_Run.j0]at H;by_cases q:aC=true
   ·subst q;replace H:=iT H;simp only[Option.some.injEq,Prod.mk.injEq]at H;obtain⟨rfl,rfl⟩:=H;go_wp2;go_ret2;exact⟨rE,cB⟩
   ·replace q:=Bool.eq_false_iff.mpr q;subst q;replace H:=iF H;have H':=aM H;clear H;go_wp2
    go_loopg [6,7,8] kj2 (fun kq cm cn co w'=> ∃ (ac:Int) (U:Int) (c:Int),cm= .int .i64 ac∧cn= .int .i64 U∧co= .int .i64 c∧Aside0 (spec_Run.l0 kq g ac U c y z s=some (r1,r2))∧Aside0 (kq≤kj2)∧Aside0 (w'.heap[bo]?=some (.cells #[.int .i64 y,.int .i64 z,(.slice al s.length am)] 28 (0,0)))∧Aside0 (Below w.heap.size w w'))
    case atStart=>exact⟨(0),(0),(0),rS,rS,rS,H',⟨Nat.le_refl _⟩,⟨mK a⟩,⟨cB⟩⟩
    case round=>
     clear H';(try clear l);(try clear q);(try clear aJ aK aL);(try clear aN aO aP);obtain⟨ac,U,c,rfl,rfl,rfl,HA,HK2,a,HB⟩:=hrel
     cases gk with
     | zero=>exact absurd HA.out (by simp[spec_Run.l0])
     | succ k2=>
      have H:=HA.out;clear HA;simp only[spec_Run.l0]at H;by_cases v:c<(g.length:Int)
      ·rw[if_pos v]at H;have aV:=decide_eq_true v;clear v;replace H:=gD H;obtain⟨dV,H⟩:=H;by_cases x:((rd_T34 g c).f0)=1
       ·rw[if_pos x]at H;obtain⟨aW,aX⟩:=eT x;clear x;replace H:=bE H;obtain⟨⟨cp,dX⟩,cq,H⟩:=H;(try dsimp only at H);have H':=aM H;clear H;obtain⟨an,ao,ap,A,aq,ar,au,av⟩:=b4 HB (at_T34 HR0.out c);cases A
        go_wp2_with (first|((with_reducible refine gN 9 ?_);refine boxZ 9 #[.int .i64 0,.int .i64 0,.int .i64 0,.int .i64 0] 34 ?_;intro aw hg dY hbox hb;have p:=aM hbox;have GW215:=gS hg;have GE215:=gS hg;replace HB:=sB hb;have D:=nL hg a;have E:=nG hg a;replace a:=kB a hb;clear hb hbox hg;have hnb18:=E.out;have hnc18:=D.out;obtain⟨dZ,d0,d1,d2,d3,d4,d5,d6⟩:=cz4 p;obtain⟨d7,d8,d9,ea,eb,ec⟩:=cz3 a)|((with_reducible refine gF 45 ?_);refine gX (some 49) Try.func45 (spec_FieldAt.calls cq.out (C_below HR1_2.out cB) HC1_2.out) ?_;intro ed hb;replace a:=kB a hb;replace p:=kP p hb (.cells #[.int .i64 ((rd_T34 g c).f0),.int .i64 ((rd_T34 g c).f1),.int .i64 ((rd_T34 g c).f2),.int .i64 ((rd_T34 g c).f3)] 34 (0,0));replace HB:=sB hb;(try clear hb)))
        go_roundg k2
        case measure=>have:=HJ2.out;have:=HK2.out;omega
        case rel=>exact⟨(cp),(wrap64 (U+1)),(wrap64 (c+1)),rS,rS,rS,H',⟨by have:=HJ2.out;have:=HK2.out;omega⟩,⟨mK a⟩,⟨cB⟩⟩
       ·rw[if_neg x]at H;obtain⟨aW,aX⟩:=eF x;by_cases ax:((rd_T34 g c).f0)=2
        ·rw[if_pos ax]at H;obtain⟨cr,cs⟩:=eT ax;clear ax;have H':=aM H;clear H;obtain⟨an,ao,ap,A,aq,ar,au,av⟩:=b4 HB (at_T34 HR0.out c);cases A
         go_wp2_with (first|((with_reducible refine gN 9 ?_);refine boxZ 9 #[.int .i64 0,.int .i64 0,.int .i64 0,.int .i64 0] 34 ?_;intro aw hg ee hbox hb;have p:=aM hbox;have GW215:=gS hg;have GE215:=gS hg;replace HB:=sB hb;have D:=nL hg a;have E:=nG hg a;replace a:=kB a hb;clear hb hbox hg;have hnb24:=E.out;have hnc24:=D.out;obtain⟨b8,b9,ca,ef,cb,cc,cd,eg⟩:=cz4 p))
         go_roundg k2
         case measure=>have:=HJ2.out;have:=HK2.out;omega
         case rel=>exact⟨(Go.bits .and .i64 ac ((rd_T34 g c).f1)),(wrap64 (U+1)),(wrap64 (c+1)),rS,rS,rS,H',⟨by have:=HJ2.out;have:=HK2.out;omega⟩,⟨mK a⟩,⟨cB⟩⟩
        ·rw[if_neg ax]at H;obtain⟨cr,cs⟩:=eF ax;by_cases ay:((rd_T34 g c).f0)=7
         ·rw[if_pos ay]at H;obtain⟨ct,cu⟩:=eT ay;clear ay;have H':=aM H;clear H;obtain⟨an,ao,ap,A,aq,ar,au,av⟩:=b4 HB (at_T34 HR0.out c);cases A
          go_wp2_with (first|((with_reducible refine gN 9 ?_);refine boxZ 9 #[.int .i64 0,.int .i64 0,.int .i64 0,.int .i64 0] 34 ?_;intro aw hg eh hbox hb;have p:=aM hbox;have GW215:=gS hg;have GE215:=gS hg;replace HB:=sB hb;have D:=nL hg a;have E:=nG hg a;replace a:=kB a hb;clear hb hbox hg;have hnb28:=E.out;have hnc28:=D.out;obtain⟨ei,ej,ek,el,em,en,eo,ep⟩:=cz4 p))
          go_roundg k2
          case measure=>have:=HJ2.out;have:=HK2.out;omega
          case rel=>exact⟨(ac),(wrap64 (U+1)),(wrap64 ((wrap64 (c+((rd_T34 g c).f1)))+1)),rS,rS,rS,H',⟨by have:=HJ2.out;have:=HK2.out;omega⟩,⟨mK a⟩,⟨cB⟩⟩
         ·rw[if_neg ay]at H;obtain⟨ct,cu⟩:=eF ay;by_cases az:((rd_T34 g c).f0)=8
          ·rw[if_pos az]at H;obtain⟨cv,cw⟩:=eT az;clear az;simp only[Option.some.injEq,Prod.mk.injEq]at H;obtain⟨rfl,rfl⟩:=H;obtain⟨an,ao,ap,A,aq,ar,au,av⟩:=b4 HB (at_T34 HR0.out c);cases A
           go_wp2_with (first|((with_reducible refine gN 9 ?_);refine boxZ 9 #[.int .i64 0,.int .i64 0,.int .i64 0,.int .i64 0] 34 ?_;intro aw hg eq hbox hb;have p:=aM hbox;have GW215:=gS hg;have GE215:=gS hg;replace HB:=sB hb;have D:=nL hg a;have E:=nG hg a;replace a:=kB a hb;clear hb hbox hg;have hnb32:=E.out;have hnc32:=D.out;obtain⟨er,es,et,eu,ev,ew,ex,ey⟩:=cz4 p))
           go_ret2;exact⟨rE,cB⟩
          ·rw[if_neg az]at H;obtain⟨cv,cw⟩:=eF az;replace H:=bE H;obtain⟨a3,bp,H⟩:=H;by_cases aD:a3=true
           ·subst aD;replace H:=iT H;have H':=aM H;clear H;obtain⟨an,ao,ap,A,aq,ar,au,av⟩:=b4 HB (at_T34 HR0.out c);cases A
            go_wp2_with (first|((with_reducible refine gN 9 ?_);refine boxZ 9 #[.int .i64 0,.int .i64 0,.int .i64 0,.int .i64 0] 34 ?_;intro aw hg ez hbox hb;have p:=aM hbox;have GW215:=gS hg;have GE215:=gS hg;replace HB:=sB hb;have D:=nL hg a;have E:=nG hg a;replace a:=kB a hb;clear hb hbox hg;have hnb37:=E.out;have hnc37:=D.out;obtain⟨eA,eC,eD,eE,eG,eH,eI,eJ⟩:=cz4 p)|((with_reducible refine gF 46 ?_);refine gX (some 34) Try.func46 (spec_l07Asks.calls bp.out) ?_;intro eK hb;replace a:=kB a hb;replace p:=kP p hb (.cells #[.int .i64 ((rd_T34 g c).f0),.int .i64 ((rd_T34 g c).f1),.int .i64 ((rd_T34 g c).f2),.int .i64 ((rd_T34 g c).f3)] 34 (0,0));replace HB:=sB hb;(try clear hb);obtain⟨eL,eM,eN,eO,eP,eQ,eR,eS⟩:=cz4 p))
            go_roundg k2
            case measure=>have:=HJ2.out;have:=HK2.out;omega
            case rel=>exact⟨(ac),(wrap64 (U+1)),(wrap64 ((wrap64 (c+((rd_T34 g c).f2)))+1)),rS,rS,rS,H',⟨by have:=HJ2.out;have:=HK2.out;omega⟩,⟨mK a⟩,⟨cB⟩⟩
           ·replace aD:=Bool.eq_false_iff.mpr aD;subst aD;replace H:=iF H;have H':=aM H;clear H;obtain⟨an,ao,ap,A,aq,ar,au,av⟩:=b4 HB (at_T34 HR0.out c);cases A
            go_wp2_with (first|((with_reducible refine gN 9 ?_);refine boxZ 9 #[.int .i64 0,.int .i64 0,.int .i64 0,.int .i64 0] 34 ?_;intro aw hg eU hbox hb;have p:=aM hbox;have GW215:=gS hg;have GE215:=gS hg;replace HB:=sB hb;have D:=nL hg a;have E:=nG hg a;replace a:=kB a hb;clear hb hbox hg;have hnb42:=E.out;have hnc42:=D.out;obtain⟨eW,eZ,e0,e1,e2,e3,e4,e5⟩:=cz4 p)|((with_reducible refine gF 46 ?_);refine gX (some 34) Try.func46 (spec_l07Asks.calls bp.out) ?_;intro e6 hb;replace a:=kB a hb;replace p:=kP p hb (.cells #[.int .i64 ((rd_T34 g c).f0),.int .i64 ((rd_T34 g c).f1),.int .i64 ((rd_T34 g c).f2),.int .i64 ((rd_T34 g c).f3)] 34 (0,0));replace HB:=sB hb;(try clear hb);obtain⟨e7,e8,e9,fa,fb,fc,fd,fe⟩:=cz4 p))
            go_roundg k2
            case measure=>have:=HJ2.out;have:=HK2.out;omega
            case rel=>exact⟨(ac),(wrap64 (U+1)),(wrap64 ((wrap64 (c+((rd_T34 g c).f3)))+1)),rS,rS,rS,H',⟨by have:=HJ2.out;have:=HK2.out;omega⟩,⟨mK a⟩,⟨cB⟩⟩
      ·rw[if_neg v]at H;have aV:=decide_eq_false v;clear v;simp only[Option.some.injEq,Prod.mk.injEq]at H;obtain⟨rfl,rfl⟩:=H;go_wp2;go_ret2;exact⟨rE,cB⟩
end Go.Proofs.Ytpbalojiaghfhaa.PFnStacks
