import Derived.Test.YtpbalojiaghfhaaGreatPFnCompilesToldy0
import Derived.Test.YtpbalojiaghfhaaGreatPFnCompilesToldy3
import Derived.Test.YtpbalojiaghfhaaGreatPFnCompilesToldy4
namespace Go.Proofs.YtpbalojiaghfhaaGreat.PFnCompilesTold
open Go.RowKit Go.Proofs.YtpbalojiaghfhaaGreatW.PrintWords Go.Proofs.YtpbalojiaghfhaaGreatW.PrintLast Go.Proofs.YtpbalojiaghfhaaGreatW.PrintMore Go.Proofs.YtpbalojiaghfhaaGreatW.Z
open Kd
attribute [local go_sem] isS max2_int min2_int max_two min_two max_three min_three max_four min_four
set_option linter.unusedVariables false
set_option linter.unusedSimpArgs false
theorem qh5x0 {P:Prop} (h:P:=by exact⟨(blk_cell m.out 0).trans rfl,(blk_cell m.out 1).trans rfl,(blk_cell m.out 2).trans rfl,(blk_cell m.out 3).trans rfl,(blk_cell m.out 4).trans rfl,(blk_cell m.out 5).trans rfl⟩):P:=h
def impl_RuleLines.l0:Nat→ByteArray→ByteArray→List (S86)→List (S118)→Int→Int→List Int→List (S118)→Int→Int→Option ((List (S86)))
  | 0,_,_,_,_,_,_,_,_,_,_=>none
  | k+1,t,z,aJ,X,bJ,a,cs,ct,bL,bM=>if a<bJ then(if 0≤a then(if a<(X.length:Int)then(if t.size+1≤9223372036854775807 then((impl_Decimal.f k a).bind fun ad=>(if(t ++ (⟨#[110]⟩ :ByteArray)).size+ad.size≤9223372036854775807 then((impl_Decimal.f k a).bind fun ax=>(if t.size+ax.size≤9223372036854775807 then((impl_CondLines.f k ((rd_T118 X a).f0) ((rd_T118 X a).f1.f0) ((rd_T118 X a).f1.f1) ((rd_T118 X a).f2) ((rd_T118 X a).f3.f0) ((rd_T118 X a).f3.f1) (t ++ ax) ((t ++ (⟨#[110]⟩ :ByteArray)) ++ ad) z).bind fun ao=>(if aJ.length+ao.length<1759218604441 then((some (aJ ++ ao:List (S86))).bind fun ay=>((impl_place.f ((t ++ (⟨#[110]⟩ :ByteArray)) ++ ad)).bind fun ae=>(if ay.length<1759218604441 then(impl_RuleLines.l0 k t z (ay ++ [(⟨ae.1,(⟨ae.2.1,ae.2.2.1,ae.2.2.2.1,ae.2.2.2.2.1⟩ :S71),ae.2.2.2.2.2.1,ae.2.2.2.2.2.2⟩ :S86)]) X bJ (wrap64 (a+1)) cs ct bL bM)else(none))))else(none)))else(none)))else(none)))else(none))else(none))else(none))else((impl_ResultOf.f bL bM).bind fun bN=>((impl_word.f 8 bN).bind fun af=>(if aJ.length<1759218604441 then(some (aJ ++ [(⟨af.1,(⟨af.2.1,af.2.2.1,af.2.2.2.1,af.2.2.2.2.1⟩ :S71),af.2.2.2.2.2.1,af.2.2.2.2.2.2⟩ :S86)]))else(none))))
def impl_RuleLines.f (k:Nat) (A:List Int) (j:List (S118)) (q:Int) (Y:Int) (o:ByteArray) (u:ByteArray):Option ((List (S86))):=impl_RuleLines.l0 k o u (([] :List (S86))) j (j.length:Int) 0 A j q Y
def impl_RuleLines.T6:Bool×List (List Nat×List Nat):=(true,[([],[]),([],[]),([],[]),([],[]),([3],[3]),([2,4],[2,4]),([],[]),([],[]),([1,5,6,7,4],[1,5,6,7]),([0,8,8],[0,8]),([9,9,0,1,2,3,4,5,6,7,8,9],[0,9])])
def impl_RuleLines.B6:List Nat:=[0,0,0,0,8,28,0,0,254,511,1023]
theorem impl_RuleLines.tab6:rtab .any (opsOf Tryz.f54 6)=impl_RuleLines.T6:=by kernel_rfl
theorem impl_RuleLines.bits6:waitsOk impl_RuleLines.T6.2 impl_RuleLines.B6=true:=by kernel_rfl
theorem q5x0 {P:Prop} (h:P:=by
 rintro w' ⟨s0,s1,s2,s3,s4,s5⟩
 go_simp
 with_reducible rfl):P:=h
set_option maxHeartbeats 8000000 in
set_option maxRecDepth 100000 in
theorem impl_RuleLines.calls {k:Nat}{aK:Option Addr}{aN:Nat}{A:List Int}{aQ:Option Addr}{aT:Nat}{j:List (S118)}{q:Int}{Y:Int}{o:ByteArray}{u:ByteArray}{r:List (S86)}{w:World}(h:impl_RuleLines.f k A j q Y o u=some r)(bO:Kd.C (Kd.int .i64) w aK A.length A)(bP:A.length≤aN)(bQ:Kd.C k118 w aQ j.length j)(bR:j.length≤aT) :
 Calls Tryz.prog 54 #[.agg #[.slice aK A.length aN,.slice aQ j.length aT,.int .i64 q,.int .i64 Y],.string o,.string u] w fun e w'=> ∃ v0_:Value,e= .returned (v0_)∧Kd.R k86 86 w' w.heap.size (fun _=>True) v0_ r∧Below w.heap.size w w':=by
 have hu78:=Tryz.underlying78;have hu118:=Tryz.underlying118;have HR0_0:=aM bO;have HC0_0:=aM bP;clear bO bP;have HR0_1:=aM bQ;have HC0_1:=aM bR;clear bQ bR;have HB:=rW w;have H:(impl_RuleLines.l0 k o u (([] :List (S86))) j (j.length:Int) 0 A j q Y)=some r:=h;clear h;obtain⟨cu,bw⟩ : ∃ y_:List (S86),Aside0 (y_=(([] :List (S86)))):=⟨_,⟨rfl⟩⟩;rw[← bw.out]at H;have H':=aM H;clear H;go_enter Tryz.func54,Tryz.ntmps54
 go_wp2_with (first|((with_reducible refine gN 3 ?_);refine boxZ 3 #[.slice aK A.length aN,.slice aQ j.length aT,.int .i64 q,.int .i64 Y] 78 ?_;intro cv hg eg hbox hb;have d:=aM hbox;have GW269:=gS hg;have GE269:=gS hg;replace HB:=sB hb;clear hb hbox hg)|((with_reducible refine gN 11 ?_);refine R_lit k86 _ 86 ?hg (N:=11) ?hd (xs:=([] :List (S86))) (inner:=[]) (ok:=fun _=>True) (okp:=fun _=>True) ?hr ?hp (fun _ hk=>hk) trivial (Below.refl _ _) (Nat.le_refl _) (by simp) ?_;(case hd=>rfl);(case hg=>rfl);(case hr=>exact rG);(case hp=>exact(Reps.none _ _));intro eh cw az hb hg_ hnew_;clear hg_ hnew_;(first|rw[← bw.out]at az|(simp only[Int.reduceToNat]at az;rw[← bw.out]at az));have cx:=rL az;replace d:=kB d hb;replace HB:=sB hb;clear hb az;obtain⟨cy,cz,cA,cD,cE,cF,cG,cI⟩:=cz4 d))
 go_loopg [7,15] k (fun kq cJ cL w'=> ∃ (ap:List (S86)) (s:Int),cL= .int .i64 s∧Aside0 (impl_RuleLines.l0 kq o u ap j (j.length:Int) s A j q Y=some r)∧Aside0 (kq≤k)∧Aside0 (Kd.R k86 86 w' w.heap.size (fun _=>True) cJ ap)∧Aside0 (w'.heap[cv]?=some (.cells #[(.slice aK A.length aN),(.slice aQ j.length aT),.int .i64 q,.int .i64 Y] 78 (0,0)))∧Aside0 (Below w.heap.size w w'))
 case atStart=>exact⟨(cu),(0),rS,H',⟨Nat.le_refl _⟩,⟨mR cx⟩,⟨mK d⟩,⟨cB⟩⟩
 case round=>
  clear H';(try clear cy cz cA cD);(try clear cE cF cG cI);obtain⟨ap,s,rfl,HA,HK1,p,d,HB⟩:=hrel
  cases gk with
  | zero=>exact absurd HA.out (by simp[impl_RuleLines.l0])
  | succ k1=>
   have H:=HA.out;clear HA;simp only[impl_RuleLines.l0]at H;by_cases aq:s<(j.length:Int)
   ·rw[if_pos aq]at H;have cM:=decide_eq_true aq;clear aq;replace H:=gD H;obtain⟨bx,H⟩:=H;replace H:=gD H;obtain⟨bS,H⟩:=H;replace H:=gC H;obtain⟨aU,H⟩:=H;have bT:=eq_true aU;have ei:decide (o.size+1≤9223372036854775807)=true:=decide_eq_true aU
    try have ej:(9223372036854775807<o.size+1)=False:=eq_false (Nat.not_lt.2 aU)
    replace H:=bE H;obtain⟨ad,cN,H⟩:=H;replace H:=gC H;obtain⟨aV,H⟩:=H;have ek:=eq_true aV;have el:decide ((o ++ (⟨#[110]⟩ :ByteArray)).size+ad.size≤9223372036854775807)=true:=decide_eq_true aV
    try have em:(9223372036854775807<(o ++ (⟨#[110]⟩ :ByteArray)).size+ad.size)=False:=eq_false (Nat.not_lt.2 aV)
    try have en:(9223372036854775807<o.size+1+ad.size)=False:=eq_false (Nat.not_lt.2 (by have h_:=aV;simp only[ByteArray.size_append]at h_;exact h_))
    replace H:=bE H;obtain⟨ax,cO,H⟩:=H;replace H:=gC H;obtain⟨bz,H⟩:=H;have eo:=eq_true bz;have ep:decide (o.size+ax.size≤9223372036854775807)=true:=decide_eq_true bz
    try have eq:(9223372036854775807<o.size+ax.size)=False:=eq_false (Nat.not_lt.2 bz)
    replace H:=bE H;obtain⟨ao,cP,H⟩:=H;replace H:=gC H;obtain⟨E,H⟩:=H;have cQ:=aM E;clear E;replace H:=nE H;obtain⟨ay,cR,H⟩:=H;replace H:=bE H;obtain⟨⟨aW,aX,aY,aZ,a0,a1,a2⟩,cS,H⟩:=H;(try dsimp only at H);replace H:=gC H;obtain⟨bU,H⟩:=H;have cT:=aM bU;clear bU;obtain⟨cU,bV⟩ : ∃ y_:List (S86),Aside0 (y_=(ay ++ [(⟨aW,(⟨aX,aY,aZ,a0⟩ :S71),a1,a2⟩ :S86)])):=⟨_,⟨rfl⟩⟩;rw[← bV.out]at H;have H':=aM H;clear H;obtain⟨er,es,et,cV,eu,ev,ew,ex,ey,ez⟩:=b6 HB (at_T118 HR0_1.out s);cases cV
    try go_wp2_with (first|((with_reducible refine gN 9 ?_);refine boxZ 9 #[.int .i64 0,.int .i64 0,.int .i64 0,.int .i64 0,.int .i64 0,.int .i64 0] 118 ?_;intro ar hg eA hbox hb;replace p:=rB p hb;have m:=aM hbox;have GW285:=gS hg;have GE285:=gS hg;replace HB:=sB hb;have cW:=nL hg d;have cX:=nG hg d;replace d:=kB d hb;clear hb hbox hg;have hnb21:=cX.out;have hnc21:=cW.out;obtain⟨eC,eD,eE,eG,eH,eI,eJ,eK,eL,eM,eN,eO⟩:=cz6 m)|((with_reducible refine gF 94 ?_);refine gX (some 23) Tryz.func94 (impl_Decimal.calls cN.out) ?_;intro cY hb;replace p:=aM (R_below (by(with_reducible repeat(first|apply R_alloc|apply R_drewN|apply R_drew));exact(fR (R_types p.out m.out (by decide)) (fun _ h_=>h_.1))) hb);replace d:=kB d hb;replace m:=kP m hb (.cells #[.int .i64 ((rd_T118 j s).f0),.int .i64 ((rd_T118 j s).f1.f0),.int .i64 ((rd_T118 j s).f1.f1),.int .i64 ((rd_T118 j s).f2),.int .i64 ((rd_T118 j s).f3.f0),.int .i64 ((rd_T118 j s).f3.f1)] 118 (0,0));replace HB:=sB hb;(try clear hb)))
    replace p:=dR p;replace d:=dB d;replace m:=dB m;replace HB:=dW HB
    refine sZ 11 (fun w'=>w'.cell? ⟨ar,0,none⟩=some (.int .i64 ((rd_T118 j s).f0))∧w'.cell? ⟨ar,1,none⟩=some (.int .i64 ((rd_T118 j s).f1.f0))∧w'.cell? ⟨ar,2,none⟩=some (.int .i64 ((rd_T118 j s).f1.f1))∧w'.cell? ⟨ar,3,none⟩=some (.int .i64 ((rd_T118 j s).f2))∧w'.cell? ⟨ar,4,none⟩=some (.int .i64 ((rd_T118 j s).f3.f0))∧w'.cell? ⟨ar,5,none⟩=some (.int .i64 ((rd_T118 j s).f3.f1))) impl_RuleLines.tab6 impl_RuleLines.bits6 qh5x0 fun HT_ HW_ hHeld=>?_
    generalize cY.drew=eP at p d m HB hHeld ⊢;refine pZ 0 25 1 ?_;refine pZ 2 27 5 ?_;refine pZ 3 28 13 ?_;refine pZ 6 31 77 ?_;refine pZ 7 32 205 ?_;refine tZ 1 26 207 (y:=q5x0) (h:=?_)
    refine oZ 4 29 223 fun K hK=>?_
    refine eX Tryz.func94 (impl_Decimal.calls cO.out) ?_
    intro eQ hb;replace p:=rB p hb;replace d:=kB d hb;replace m:=kB m hb;replace HB:=sB hb;(try clear hb)
    refine hK.out _ _ qh5x0 (fun hHeld=>?_)
    clear hK K;refine normZ (some 29) ?_
    refine pZ 5 30 255 ?_
    refine oZ 8 33 511 fun K hK=>?_
    refine eY Tryz.func95 (impl_CondLines.calls cP.out) ?_
    rintro eR eS ⟨ag,hb⟩;have G:=aM (R_lower (R_new' ag (R_lt (mR p))) (below_size cB));replace p:=eB p (R_base ag) hb;replace d:=kB d hb;replace m:=kB m hb;replace HB:=sB hb;(try clear hb);(try clear ag);obtain⟨bW,bX,bY⟩:=R_slice G.out
    (first|subst bY|(injection bY with f1_ f2_ f3_;have f4_:=f1_.symm;have f5_:=f3_.symm;clear f1_ f2_ f3_;subst f4_;subst f5_))
    refine hK.out _ _ qh5x0 (fun hHeld=>?_)
    clear hK K;refine normZ (some 33) ?_
    refine oZ 9 34 1023 fun K hK=>?_
    refine R_append_rows_step k86 (w0:=w) w.heap.size (by rfl) (.tmp 25) (.tmp 33) 47 86 (.agg #[(.string ⟨#[]⟩),(.int .i64 0),(.int .i64 0),(.int .i64 0),(.int .i64 0),(.string ⟨#[]⟩),(.string ⟨#[]⟩)]) 80 rfl Tryz.underlying47 info86 rfl (by decide) (by omega) u7 ap ao _ _ _ (fun k_=>some k_≠(.slice bW ao.length bX:Value).ownBlock) (fun _=>False) rfl rfl ?aO ?aR (fun _ _ h=>h) (fun _ h=>h.elim) ?aF ?aB ?aS ?aL ?_
    (case aR=>exact rX G)
    (case aB=>exact cB)
    (case aF=>exact(fun k_ hk=>Kd.fresh' (R_lt (mR G)) k_ hk))
    (case aO=>exact(by exact rM p (fun _ hk=>hk.2)))
    (case aS=>exact(below_size cB))
    (case aL=>have:=cQ.out;omega)
    intro cZ eU ho hb hg hat;rw[← cR.out]at ho
    replace d:=kN d hg p d
    replace m:=kN m hg p m
    replace G:=aM (R_after (ok:=(fun _=>True)) (mR G) hg hat)
    replace HB:=aM hb;have au:=aM ho;clear p ho hb hg hat
    refine hK.out _ _ qh5x0 (fun hHeld=>?_)
    clear hK K;refine normZ (some 34) ?_
    refine pZ 10 7 2047 ?_
    refine done_ (done_of HT_.out (by kernel_rfl)) ?_
    try go_wp2_with (first|((with_reducible refine gF 55 ?_);refine gX (some 37) Tryz.func55 (impl_place.calls cS.out) ?_;intro eW hb;replace G:=rB G hb;replace au:=rB au hb;replace d:=kB d hb;replace m:=kB m hb;replace HB:=sB hb;(try clear hb))|((with_reducible refine gA 35 38 ?_);at_builtin;refine R_append k86 (w0:=w) w.heap.size rfl (.tmp 35) (.tmp 38) 47 86 (.agg #[(.string ⟨#[]⟩),(.int .i64 0),(.int .i64 0),(.int .i64 0),(.int .i64 0),(.string ⟨#[]⟩),(.string ⟨#[]⟩)]) 80 rfl Tryz.underlying47 info86 rfl (by decide) (by omega) cZ ay (⟨aW,(⟨aX,aY,aZ,a0⟩ :S71),a1,a2⟩ :S86) [.string aW,.int .i64 aX,.int .i64 aY,.int .i64 aZ,.int .i64 a0,.string a1,.string a2] (fun k_=>some k_≠(.slice bW ao.length bX:Value).ownBlock) (fun _=>False) rfl rfl ?aP (fun _ hk=>hk.elim) ?aF ?aO ?aB ?aS ?aL ?_;(case aP=>exact k86_mkM _ _ _ (⟨aW,(⟨aX,aY,aZ,a0⟩ :S71),a1,a2⟩ :S86));(case aB=>exact cB);(case aF=>exact(fun k_ hk=>Kd.fresh' (R_lt (mR G)) k_ hk));(case aO=>exact(mR au));(case aS=>exact(below_size cB));(case aL=>have:=cT.out;omega);intro eZ e0 ho hb hg hat;rw[← bV.out]at ho;replace d:=kN d hg au d;replace m:=kN m hg au m;replace G:=aM (R_after (ok:=(fun _=>True)) (mR G) hg hat);replace HB:=aM hb;have c0:=aM ho;clear au ho hb hg hat))
    go_roundg k1
    case measure=>exact oK
    case rel=>exact⟨(cU),(wrap64 (s+1)),rS,H',⟨oK⟩,⟨rM c0 (fun _ hk=>trivial)⟩,⟨mK d⟩,⟨cB⟩⟩
   ·rw[if_neg aq]at H;have cM:=decide_eq_false aq;clear aq;replace H:=bE H;obtain⟨bN,bA,H⟩:=H;replace H:=bE H;obtain⟨⟨a3,a4,a5,a6,a7,a8,a9⟩,c1,H⟩:=H;(try dsimp only at H);replace H:=gC H;obtain⟨bZ,H⟩:=H;have c8:=aM bZ;clear bZ;obtain⟨e1,b0⟩ : ∃ y_:List (S86),Aside0 (y_=(ap ++ [(⟨a3,(⟨a4,a5,a6,a7⟩ :S71),a8,a9⟩ :S86)])):=⟨_,⟨rfl⟩⟩;rw[← b0.out]at H;obtain rfl:=Option.some.inj H;obtain⟨e2,e3,e4,e5,e6,e7,e8,e9⟩:=cz4 d
    go_wp2_with (first|((with_reducible refine gF 57 ?_);refine gX (some 46) Tryz.func57 (impl_ResultOf.calls bA.out) ?_;rintro w' ⟨nd,rfl⟩)|((with_reducible refine gF 56 ?_);refine gX (some 47) Tryz.func56 (impl_word.calls c1.out) ?_;intro fa hb;replace p:=rB p hb;replace d:=kB d hb;replace HB:=sB hb;(try clear hb))|((with_reducible refine gA 41 48 ?_);at_builtin;refine R_append k86 (w0:=w) w.heap.size rfl (.tmp 41) (.tmp 48) 47 86 (.agg #[(.string ⟨#[]⟩),(.int .i64 0),(.int .i64 0),(.int .i64 0),(.int .i64 0),(.string ⟨#[]⟩),(.string ⟨#[]⟩)]) 80 rfl Tryz.underlying47 info86 rfl (by decide) (by omega) u7 ap (⟨a3,(⟨a4,a5,a6,a7⟩ :S71),a8,a9⟩ :S86) [.string a3,.int .i64 a4,.int .i64 a5,.int .i64 a6,.int .i64 a7,.string a8,.string a9] (fun _=>True) (fun _=>False) rfl rfl ?aP (fun _ hk=>hk.elim) ?aF ?aO ?aB ?aS ?aL ?_;(case aP=>exact k86_mkM _ _ _ (⟨a3,(⟨a4,a5,a6,a7⟩ :S71),a8,a9⟩ :S86));(case aB=>exact cB);(case aF=>exact(fun _ _=>trivial));(case aO=>exact(mR p));(case aS=>exact(below_size cB));(case aL=>have:=c8.out;omega);intro fb fc ho hb hg hat;rw[← b0.out]at ho;replace d:=kN d hg p d;replace HB:=aM hb;have c9:=aM ho;clear p ho hb hg hat))
    go_ret;exact⟨_,rE,mR c9,cB⟩
mutual
def impl_ChainLines.l0:Nat→Int→Bool→ByteArray→List (S86)→List (S78)→Int→Int→Int→Int→Int→List (S78)→Option ((List (S86)))
  | 0,_,_,_,_,_,_,_,_,_,_,_=>none
  | k+1,t,z,v,I,a,aa,g,ah,ab,ac,ai=>if g<aa then(if 0≤g then(if g<(a.length:Int)then(if g≥26 then(impl_ChainLines.j1 k t z v I g a aa g true ah ab ac ai ((rd_T78 a g).f0) ((rd_T78 a g).f1) ((rd_T78 a g).f2) ((rd_T78 a g).f3))else(if(((rd_T78 a g).f0).length:Int)>0 then(if z=true then(impl_ChainLines.j1 k t z v I g a aa g true ah ab ac ai ((rd_T78 a g).f0) ((rd_T78 a g).f1) ((rd_T78 a g).f2) ((rd_T78 a g).f3))else((slices_Contains_int_int.f k ((rd_T78 a g).f0) t).bind fun bB=>(impl_ChainLines.j1 k t z v I g a aa g (!bB) ah ab ac ai ((rd_T78 a g).f0) ((rd_T78 a g).f1) ((rd_T78 a g).f2) ((rd_T78 a g).f3))))else(impl_ChainLines.j1 k t z v I g a aa g false ah ab ac ai ((rd_T78 a g).f0) ((rd_T78 a g).f1) ((rd_T78 a g).f2) ((rd_T78 a g).f3))))else(none))else(none))else((impl_ResultOf.f ab ac).bind fun b1=>((impl_word.f 8 b1).bind fun aj=>(if I.length<1759218604441 then(some (I ++ [(⟨aj.1,(⟨aj.2.1,aj.2.2.1,aj.2.2.2.1,aj.2.2.2.2.1⟩ :S71),aj.2.2.2.2.2.1,aj.2.2.2.2.2.2⟩ :S86)]))else(none))))
def impl_ChainLines.j1:Nat→Int→Bool→ByteArray→List (S86)→Int→List (S78)→Int→Int→Bool→Int→Int→Int→List (S78)→List Int→List (S118)→Int→Int→Option ((List (S86)))
  | 0,_,_,_,_,_,_,_,_,_,_,_,_,_,_,_,_,_=>none
  | k+1,t,z,v,I,da,a,aa,g,db,ah,ab,ac,ai,dc,dd,de,df=>if db=true then(impl_ChainLines.l0 k t z v I a aa (wrap64 (g+1)) ah ab ac ai)else((some (([(wrap64 (97+da)) % 256] :List Int):List Int)).bind fun D=>(if v.size+(strOfNums D).size≤9223372036854775807 then(if(v ++ (strOfNums D)).size+1≤9223372036854775807 then((impl_RuleLines.f k dc dd de df (v ++ (strOfNums D)) ((v ++ (strOfNums D)) ++ (⟨#[122]⟩ :ByteArray))).bind fun av=>(if I.length+av.length<1759218604441 then((some (I ++ av:List (S86))).bind fun aA=>((impl_place.f ((v ++ (strOfNums D)) ++ (⟨#[122]⟩ :ByteArray))).bind fun ak=>(if aA.length<1759218604441 then(impl_ChainLines.l0 k t z v (aA ++ [(⟨ak.1,(⟨ak.2.1,ak.2.2.1,ak.2.2.2.1,ak.2.2.2.2.1⟩ :S71),ak.2.2.2.2.2.1,ak.2.2.2.2.2.2⟩ :S86)]) a aa (wrap64 (g+1)) ah ab ac ai)else(none))))else(none)))else(none))else(none)))
end
def impl_ChainLines.f (k:Nat) (J:Int) (L:Int) (q:Int) (b:List (S78)) (o:Int) (u:Bool) (x:ByteArray):Option ((List (S86))):=impl_ChainLines.l0 k o u x (([] :List (S86))) b (b.length:Int) 0 J L q b
set_option maxHeartbeats 8000000 in
set_option maxRecDepth 100000 in
theorem impl_ChainLines.calls {k:Nat}{J:Int}{L:Int}{q:Int}{ba:Option Addr}{aC:Nat}{b:List (S78)}{o:Int}{u:Bool}{x:ByteArray}{r:List (S86)}{w:World}(h:impl_ChainLines.f k J L q b o u x=some r)(b5:Kd.C k78 w ba b.length b)(b8:b.length≤aC) :
 Calls Tryz.prog 19 #[.agg #[.int .i64 J,.int .i64 L,.int .i64 q,.slice ba b.length aC],.int .i64 o,.bool u,.string x] w fun e w'=> ∃ v0_:Value,e= .returned (v0_)∧Kd.R k86 86 w' w.heap.size (fun _=>True) v0_ r∧Below w.heap.size w w':=by
 have hu26:=Tryz.underlying26;have hu78:=Tryz.underlying78;have HR0_3:=aM b5;have HC0_3:=aM b8;clear b5 b8;have HB:=rW w;have H:(impl_ChainLines.l0 k o u x (([] :List (S86))) b (b.length:Int) 0 J L q b)=some r:=h;clear h;obtain⟨dg,bC⟩ : ∃ y_:List (S86),Aside0 (y_=(([] :List (S86)))):=⟨_,⟨rfl⟩⟩;rw[← bC.out]at H;have H':=aM H;clear H;go_enter Tryz.func19,Tryz.ntmps19
 go_wp2_with (first|((with_reducible refine gN 4 ?_);(try(refine gate_guard (by rfl) ?_;dsimp only));refine boxZ 4 #[.int .i64 J,.int .i64 L,.int .i64 q,.slice ba b.length aC] 26 ?_;intro b9 hg cw hbox hb;have c:=aM hbox;have GW304:=gS hg;have GE304:=gS hg;replace HB:=sB hb;clear hb hbox hg)|((with_reducible refine gN 13 ?_);(try(refine gate_guard (by rfl) ?_;dsimp only));refine R_lit k86 _ 86 ?hg (N:=13) ?hd (xs:=([] :List (S86))) (inner:=[]) (ok:=fun _=>True) (okp:=fun _=>True) ?hr ?hp (fun _ hk=>hk) trivial (Below.refl _ _) (Nat.le_refl _) (by simp) ?_;(case hd=>rfl);(case hg=>rfl);(case hr=>exact rG);(case hp=>exact(Reps.none _ _));intro fd fe aD hb hg_ hnew_;clear hg_ hnew_;(first|rw[← bC.out]at aD|(simp only[Int.reduceToNat]at aD;rw[← bC.out]at aD));have dh:=rL aD;replace c:=kB c hb;replace HB:=sB hb;clear hb aD;obtain⟨ca,cb,cc,cd,ce,cf,cg,ch⟩:=cz4 c))
 go_loopg [9,17] k (fun kq di dj w'=> ∃ (U:List (S86)) (i:Int),dj= .int .i64 i∧Aside0 (impl_ChainLines.l0 kq o u x U b (b.length:Int) i J L q b=some r)∧Aside0 (kq≤k)∧Aside0 (Kd.R k86 86 w' w.heap.size (fun _=>True) di U)∧Aside0 (w'.heap[b9]?=some (.cells #[.int .i64 J,.int .i64 L,.int .i64 q,(.slice ba b.length aC)] 26 (0,0)))∧Aside0 (Below w.heap.size w w'))
 case atStart=>exact⟨(dg),(0),rS,H',⟨Nat.le_refl _⟩,⟨mR dh⟩,⟨mK c⟩,⟨cB⟩⟩
 case round=>
  clear H';(try clear ca cb cc cd);(try clear ce cf cg ch);obtain⟨U,i,rfl,HA,HK1,n,c,HB⟩:=hrel
  cases gk with
  | zero=>exact absurd HA.out (by simp[impl_ChainLines.l0])
  | succ k1=>
   have H:=HA.out;clear HA;simp only[impl_ChainLines.l0]at H;by_cases al:i<(b.length:Int)
   ·rw[if_pos al]at H;have bx:=decide_eq_true al;clear al;replace H:=gD H;obtain⟨bS,H⟩:=H;replace H:=gD H;obtain⟨bT,H⟩:=H;have HC12:=aM H;clear H;have bb:0≤(i:Int):=dA;have bd:i<(b.length:Int):=dA;obtain⟨dk,dl,dm,dn,dp,dq,bD,bF,bG,bH,hl319_0,hi319_0,hl319_1,hi319_1⟩:=at_T78 HR0_3.out i bb bd;cases dq;replace bD:=(bc HB bD :);replace bF:=(bc HB bF :);replace bG:=(bc HB bG :);replace bH:=(bc HB bH :);have HR319_0:=aM hi319_0;have HC319_0:=aM hl319_0;clear hi319_0 hl319_0;have HR319_1:=aM hi319_1;have HC319_1:=aM hl319_1;clear hi319_1 hl319_1;replace bb:=eq_true bb;replace bd:=eq_true bd
    go_upto_region 5 with(first|((with_reducible refine gN 11 ?_);(try(refine gate_guard (by rfl) ?_;dsimp only));refine boxZ 11 #[.slice none 0 0,.slice none 0 0,.int .i64 0,.int .i64 0] 78 ?_;intro dr hg ff hbox hb;replace n:=rB n hb;have l:=aM hbox;have GW320:=gS hg;have GE320:=gS hg;replace HB:=sB hb;have aE:=nL hg c;have aG:=nG hg c;replace c:=kB c hb;clear hb hbox hg;have hnb14:=aG.out;have hnc14:=aE.out;obtain⟨ds,dt,du,dv,dw,dx,dy,dz⟩:=cz4 l))
    (try simp only[Act.put,List.setIfInBounds_toArray,List.set_cons_zero,List.set_cons_succ])
    go_cut [39] (fun dC wc=> ∃ (kq:Nat) (be:Bool),dC= .bool be∧Aside0 (impl_ChainLines.j1 kq o u x U i b (b.length:Int) i be J L q b ((rd_T78 b i).f0) ((rd_T78 b i).f1) ((rd_T78 b i).f2) ((rd_T78 b i).f3)=some r)∧Aside0 (kq≤k1)∧Aside0 (Kd.R k86 86 wc w.heap.size (fun _=>True) u9 U)∧Aside0 (wc.heap[b9]?=some (.cells #[.int .i64 J,.int .i64 L,.int .i64 q,(.slice (some dk) b.length aC)] 26 (0,0)))∧Aside0 (wc.heap[dr]?=some (.cells #[(.slice dl ((rd_T78 b i).f0).length dm),(.slice dn ((rd_T78 b i).f1).length dp),.int .i64 ((rd_T78 b i).f2),.int .i64 ((rd_T78 b i).f3)] 78 (0,0)))∧Aside0 (Below w.heap.size w wc))
    case first=>
     have H:=HC12.out;clear HC12;by_cases am:i≥26
     ·rw[if_pos am]at H;have aw:decide (26≤i)=true:=decide_eq_true am;clear am
      (first|rw[aw]|(simp only[i64_w,i32_w];rw[aw])|skip)
      have H':=aM H;clear H;go_wp2;go_meet
      case rel=>exact⟨_,(true),rS,H',⟨by have:=HK1.out;first|omega|exact Nat.le_refl _⟩,⟨fR (R_types n.out l.out (by decide)) (fun _ hk=>trivial)⟩,⟨mK c⟩,⟨kS l _⟩,⟨cB⟩⟩
     ·rw[if_neg am]at H;have aw:decide (26≤i)=false:=decide_eq_false am;clear am
      (first|rw[aw]|(simp only[i64_w,i32_w];rw[aw])|skip)
      by_cases E:(((rd_T78 b i).f0).length:Int)>0
      ·rw[if_pos E]at H;have ci:decide (0<(((rd_T78 b i).f0).length:Int))=true:=decide_eq_true E
       have cj:decide (0<((rd_T78 b i).f0).length)=true:=decide_eq_true (by omega)
       clear E;by_cases aH:u=true
       ·subst aH;replace H:=iT H;have H':=aM H;clear H;have hnb19:=aG.out;have hnc19:=aE.out;obtain⟨dD,dE,dF,dG,dH,dI,dJ,dK⟩:=cz4 l;go_wp2;go_meet
        case rel=>exact⟨_,(true),rS,H',⟨by have:=HK1.out;first|omega|exact Nat.le_refl _⟩,⟨fR (R_types n.out l.out (by decide)) (fun _ hk=>trivial)⟩,⟨mK c⟩,⟨kS l _⟩,⟨cB⟩⟩
       ·replace aH:=Bool.eq_false_iff.mpr aH;subst aH;replace H:=iF H;replace H:=bE H;obtain⟨bB,dL,H⟩:=H;have H':=aM H;clear H;have hnb22:=aG.out;have hnc22:=aE.out;obtain⟨dM,dN,dO,dP,dQ,dS,dT,dU⟩:=cz4 l
        go_wp2_with (first|(go_at_call 53;(with_reducible refine(slices_Contains_int_int.calls dL.out ?side1 ?side2).mono ?_);(case side1=>exact C_below HR319_0.out cB);(case side2=>exact HC319_0.out);rintro e w' ⟨rfl,⟨nd,rfl⟩⟩))
        go_meet
        case rel=>exact⟨_,(!bB),rS,H',⟨by have:=HK1.out;first|omega|exact Nat.le_refl _⟩,⟨fR (R_types n.out l.out (by decide)) (fun _ hk=>trivial)⟩,⟨mK c⟩,⟨kS l _⟩,⟨cB⟩⟩
      ·rw[if_neg E]at H;have ci:decide (0<(((rd_T78 b i).f0).length:Int))=false:=decide_eq_false E
       have cj:decide (0<((rd_T78 b i).f0).length)=false:=decide_eq_false (by omega)
       clear E;have H':=aM H;clear H;have hnb24:=aG.out;have hnc24:=aE.out;obtain⟨dV,dX,dY,dZ,d0,d1,d2,d3⟩:=cz4 l;go_wp2;go_meet
       case rel=>exact⟨_,(false),rS,H',⟨by have:=HK1.out;first|omega|exact Nat.le_refl _⟩,⟨fR (R_types n.out l.out (by decide)) (fun _ hk=>trivial)⟩,⟨mK c⟩,⟨kS l _⟩,⟨cB⟩⟩
    case rest=>
     clear HC12;(try clear al);(try clear bx);(try clear fg);(try clear bS);(try clear aU);(try clear bT);(try clear am);(try clear aw);(try clear E);(try clear ci);(try clear cj);(try clear aH);(try clear ds dt du dv);(try clear dD dE dF dG);(try clear dM dN dO dP);(try clear dV dX dY dZ);(try clear ca cb cc cd);(try clear dw dx dy dz);(try clear dH dI dJ dK);(try clear dQ dS dT dU);(try clear d0 d1 d2 d3);(try clear ce cf cg ch);(try clear bD bF bG bH);(try clear bb);(try clear bd);obtain⟨kq,be,rfl,HA,HJ11,n,c,l,HB⟩:=hcut
     cases kq with
     | zero=>exact absurd HA.out (by simp[impl_ChainLines.j1])
     | succ kj11=>
      have H:=HA.out;clear HA;simp only[impl_ChainLines.j1]at H;by_cases bf:be=true
      ·subst bf;replace H:=iT H;have H':=aM H;clear H;go_wp2;go_roundg kj11
       case measure=>have:=HK1.out;have:=HJ11.out;omega
       case rel=>exact⟨(U),(wrap64 (i+1)),rS,H',⟨by have:=HK1.out;have:=HJ11.out;omega⟩,⟨mR n⟩,⟨mK c⟩,⟨cB⟩⟩
      ·replace bf:=Bool.eq_false_iff.mpr bf;subst bf;replace H:=iF H;replace H:=nE H;obtain⟨D,ck,H⟩:=H;replace H:=gC H;obtain⟨bI,H⟩:=H;have fh:=eq_true bI;have fi:decide (x.size+(strOfNums D).size≤9223372036854775807)=true:=decide_eq_true bI
       try have fj:(9223372036854775807<x.size+(strOfNums D).size)=False:=eq_false (Nat.not_lt.2 bI)
       replace H:=gC H;obtain⟨bg,H⟩:=H;have fk:=eq_true bg;have fl:decide ((x ++ (strOfNums D)).size+1≤9223372036854775807)=true:=decide_eq_true bg
       try have fm:(9223372036854775807<(x ++ (strOfNums D)).size+1)=False:=eq_false (Nat.not_lt.2 bg)
       try have fn:(9223372036854775807<x.size+(strOfNums D).size+1)=False:=eq_false (Nat.not_lt.2 (by have h_:=bg;simp only[ByteArray.size_append]at h_;exact h_))
       replace H:=bE H;obtain⟨av,d4,H⟩:=H;replace H:=gC H;obtain⟨cl,H⟩:=H;have d5:=aM cl;clear cl;replace H:=nE H;obtain⟨aA,d6,H⟩:=H;replace H:=bE H;obtain⟨⟨bh,bi,bj,bk,bl,bm,bn⟩,bA,H⟩:=H;(try dsimp only at H);replace H:=gC H;obtain⟨cm,H⟩:=H;have d7:=aM cm;clear cm;obtain⟨d8,cn⟩ : ∃ y_:List (S86),Aside0 (y_=(aA ++ [(⟨bh,(⟨bi,bj,bk,bl⟩ :S71),bm,bn⟩ :S86)])):=⟨_,⟨rfl⟩⟩;rw[← cn.out]at H;have H':=aM H;clear H
       go_wp2_with (first|((with_reducible refine gN 44 ?_);(try(refine gate_guard (by rfl) ?_;dsimp only));refine R_lit (Kd.int .u8) _ 5 ?hg (N:=44) ?hd (xs:=([(wrap64 (97+i)) % 256] :List Int)) (inner:=[.int .u8 ((wrap64 (97+i)) % 256)]) (ok:=fun _=>True) (okp:=fun _=>True) ?hr ?hp (fun _ hk=>hk) trivial (Below.refl _ _) (Nat.le_refl _) (by simp) ?_;(case hd=>rfl);(case hg=>rfl);(case hr=>exact rG);(case hp=>exact(Reps.one (show Kd.M (Kd.int .u8) _ _ _ ((wrap64 (97+i)) % 256) [.int .u8 ((wrap64 (97+i)) % 256)]from rfl) (Reps.none _ _)));intro fo fp aI hb hg_ hnew_;clear hg_ hnew_;(first|rw[← ck.out]at aI|(simp only[Int.reduceToNat]at aI;rw[← ck.out]at aI));replace n:=rB n hb;have W:=rL aI;replace c:=kB c hb;replace l:=kB l hb;replace HB:=sB hb;clear hb aI;have hcv35:=own_string (P:=Tryz.prog) Tryz.underlying22 Tryz.underlying5 Tryz.underlying9 (own_of_R W.out);have hnb36:=aG.out;have hnc36:=aE.out;obtain⟨fq,fr,fs,ft,fu,fv,fw,fx⟩:=cz4 l)|((with_reducible refine gF 54 ?_);refine gY (some 52) Tryz.func54 (impl_RuleLines.calls d4.out (cH HR319_0) HC319_0.out (cH HR319_1) HC319_1.out) ?_;rintro fy fz ⟨ag,hb⟩;replace W:=rB W hb;have O:=aM (R_lower (R_new' ag (R_lt (mR n))) (below_size cB));replace n:=eB n (R_base ag) hb;replace c:=kB c hb;replace l:=kB l hb;replace HB:=sB hb;(try clear hb);(try clear ag);obtain⟨co,cp,d9⟩:=R_slice O.out;subst d9)|((with_reducible refine gA 47 52 ?_);(try(refine gate_guard (by rfl) ?_;dsimp only));at_builtin;refine R_append_rows k86 (w0:=w) w.heap.size rfl (.tmp 47) (.tmp 52) 47 86 (.agg #[(.string ⟨#[]⟩),(.int .i64 0),(.int .i64 0),(.int .i64 0),(.int .i64 0),(.string ⟨#[]⟩),(.string ⟨#[]⟩)]) 80 rfl Tryz.underlying47 info86 rfl (by decide) (by omega) u9 U av _ _ _ (fun k_=>some k_≠(.slice co av.length cp:Value).ownBlock) (fun _=>False) rfl rfl ?aO ?aR (fun _ _ h=>h) (fun _ h=>h.elim) ?aF ?aB ?aS ?aL ?_;(case aR=>exact rX O);(case aB=>exact cB);(case aF=>exact(fun k_ hk=>Kd.fresh' (R_lt (mR O)) k_ hk));(case aO=>exact(by exact rM n (fun _ hk=>hk.2)));(case aS=>exact(below_size cB));(case aL=>have:=d5.out;omega);intro ea fA ho hb hg hat;rw[← d6.out]at ho;replace c:=kN c hg n c;replace l:=kN l hg n l;replace W:=aM (R_over' (mR W) (R_typed (mR n)) (by decide) hg);replace O:=aM (R_after (ok:=(fun _=>True)) (mR O) hg hat);replace HB:=aM hb;have an:=aM ho;clear n ho hb hg hat)|((with_reducible refine gF 55 ?_);refine gX (some 57) Tryz.func55 (impl_place.calls bA.out) ?_;intro fB hb;replace W:=rB W hb;replace O:=rB O hb;replace an:=rB an hb;replace c:=kB c hb;replace l:=kB l hb;replace HB:=sB hb;(try clear hb))|((with_reducible refine gA 54 58 ?_);(try(refine gate_guard (by rfl) ?_;dsimp only));at_builtin;refine R_append k86 (w0:=w) w.heap.size rfl (.tmp 54) (.tmp 58) 47 86 (.agg #[(.string ⟨#[]⟩),(.int .i64 0),(.int .i64 0),(.int .i64 0),(.int .i64 0),(.string ⟨#[]⟩),(.string ⟨#[]⟩)]) 80 rfl Tryz.underlying47 info86 rfl (by decide) (by omega) ea aA (⟨bh,(⟨bi,bj,bk,bl⟩ :S71),bm,bn⟩ :S86) [.string bh,.int .i64 bi,.int .i64 bj,.int .i64 bk,.int .i64 bl,.string bm,.string bn] (fun k_=>some k_≠(.slice co av.length cp:Value).ownBlock) (fun _=>False) rfl rfl ?aP (fun _ hk=>hk.elim) ?aF ?aO ?aB ?aS ?aL ?_;(case aP=>exact k86_mkM _ _ _ (⟨bh,(⟨bi,bj,bk,bl⟩ :S71),bm,bn⟩ :S86));(case aB=>exact cB);(case aF=>exact(fun k_ hk=>Kd.fresh' (R_lt (mR O)) k_ hk));(case aO=>exact(mR an));(case aS=>exact(below_size cB));(case aL=>have:=d7.out;omega);intro fC fD ho hb hg hat;rw[← cn.out]at ho;replace c:=kN c hg an c;replace l:=kN l hg an l;replace W:=aM (R_over' (mR W) (R_typed (mR an)) (by decide) hg);replace O:=aM (R_after (ok:=(fun _=>True)) (mR O) hg hat);replace HB:=aM hb;have eb:=aM ho;clear an ho hb hg hat))
       go_roundg kj11
       case measure=>have:=HK1.out;have:=HJ11.out;omega
       case rel=>exact⟨(d8),(wrap64 (i+1)),rS,H',⟨by have:=HK1.out;have:=HJ11.out;omega⟩,⟨rM eb (fun _ hk=>trivial)⟩,⟨mK c⟩,⟨cB⟩⟩
   ·rw[if_neg al]at H;have bx:=decide_eq_false al;clear al;replace H:=bE H;obtain⟨b1,ec,H⟩:=H;replace H:=bE H;obtain⟨⟨bo,bp,bq,br,bs,bu,bv⟩,ed,H⟩:=H;(try dsimp only at H);replace H:=gC H;obtain⟨cq,H⟩:=H;have ee:=aM cq;clear cq;obtain⟨fE,cr⟩ : ∃ y_:List (S86),Aside0 (y_=(U ++ [(⟨bo,(⟨bp,bq,br,bs⟩ :S71),bu,bv⟩ :S86)])):=⟨_,⟨rfl⟩⟩;rw[← cr.out]at H;obtain rfl:=Option.some.inj H;obtain⟨fF,fG,fH,fI,fJ,fK,fL,fM⟩:=cz4 c
    go_wp2_with (first|((with_reducible refine gF 57 ?_);refine gX (some 66) Tryz.func57 (impl_ResultOf.calls ec.out) ?_;rintro w' ⟨nd,rfl⟩)|((with_reducible refine gF 56 ?_);refine gX (some 67) Tryz.func56 (impl_word.calls ed.out) ?_;intro fN hb;replace n:=rB n hb;replace c:=kB c hb;replace HB:=sB hb;(try clear hb))|((with_reducible refine gA 61 68 ?_);(try(refine gate_guard (by rfl) ?_;dsimp only));at_builtin;refine R_append k86 (w0:=w) w.heap.size rfl (.tmp 61) (.tmp 68) 47 86 (.agg #[(.string ⟨#[]⟩),(.int .i64 0),(.int .i64 0),(.int .i64 0),(.int .i64 0),(.string ⟨#[]⟩),(.string ⟨#[]⟩)]) 80 rfl Tryz.underlying47 info86 rfl (by decide) (by omega) u9 U (⟨bo,(⟨bp,bq,br,bs⟩ :S71),bu,bv⟩ :S86) [.string bo,.int .i64 bp,.int .i64 bq,.int .i64 br,.int .i64 bs,.string bu,.string bv] (fun _=>True) (fun _=>False) rfl rfl ?aP (fun _ hk=>hk.elim) ?aF ?aO ?aB ?aS ?aL ?_;(case aP=>exact k86_mkM _ _ _ (⟨bo,(⟨bp,bq,br,bs⟩ :S71),bu,bv⟩ :S86));(case aB=>exact cB);(case aF=>exact(fun _ _=>trivial));(case aO=>exact(mR n));(case aS=>exact(below_size cB));(case aL=>have:=ee.out;omega);intro fO fP ho hb hg hat;rw[← cr.out]at ho;replace c:=kN c hg n c;replace HB:=aM hb;have ef:=aM ho;clear n ho hb hg hat))
    go_ret;exact⟨_,rE,mR ef,cB⟩
end Go.Proofs.YtpbalojiaghfhaaGreat.PFnCompilesTold
