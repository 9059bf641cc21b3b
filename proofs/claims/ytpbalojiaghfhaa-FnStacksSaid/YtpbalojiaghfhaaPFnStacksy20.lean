import Derived.Test.YtpbalojiaghfhaaPFnStacksy0
import Derived.Test.YtpbalojiaghfhaaPFnStacksy2
import Derived.Test.YtpbalojiaghfhaaPFnStacksy5
import Derived.Test.YtpbalojiaghfhaaPFnStacksy7
import Derived.Test.YtpbalojiaghfhaaPFnStacksy8
import Derived.Test.YtpbalojiaghfhaaPFnStacksy14
import Derived.Test.YtpbalojiaghfhaaPFnStacksy19
namespace Go.Proofs.Ytpbalojiaghfhaa.PFnStacks
open Go.RowKit Go.Proofs.YtpbalojiaghfhaaW.PrintWords Go.Proofs.YtpbalojiaghfhaaW.PrintLast Go.Proofs.YtpbalojiaghfhaaW.PrintMore Go.Proofs.YtpbalojiaghfhaaW.Z
open Kd
attribute [local go_sem] isS max2_int min2_int max_two min_two max_three min_three max_four min_four
set_option linter.unusedVariables false
set_option linter.unusedSimpArgs false
def spec_Compile.f (k:Nat) (s:Int) (u:Int) (x:Int) (G:List (S81)):Option ((List (S34))×Int):=(spec_PolicyOk.f k s u x G).bind fun aR=>(if aR=true then((spec_PolicyLines.f k s u x G).bind fun X=>(if(X.length:Int)>600 then(some ((([] :List (S34))),2))else((spec_Layout.f k X).bind fun a5=>(if a5.2=true then(some (a5.1,0))else(some ((([] :List (S34))),2))))))else(some ((([] :List (S34))),1)))
set_option maxHeartbeats 8000000 in
set_option maxRecDepth 100000 in
theorem spec_Compile.calls {k:Nat}{s:Int}{u:Int}{x:Int}{af:Option Addr}{ag:Nat}{G:List (S81)}{r1:List (S34)}{r2:Int}{w:World}(h:spec_Compile.f k s u x G=some (r1,r2))(a6:Kd.C k81 w af G.length G)(a7:G.length≤ag) :
 Calls Try.prog 71 #[.agg #[.int .i64 s,.int .i64 u,.int .i64 x,.slice af G.length ag]] w fun e w'=> ∃ v0_:Value,e= .returned (.tuple #[v0_,.int .i64 r2])∧Kd.R k34 34 w' w.heap.size (fun _=>True) v0_ r1∧Below w.heap.size w w':=by
 have hu41:=Try.underlying41;have HR0_3:=aM a6;have HC0_3:=aM a7;clear a6 a7;have HB:=rW w
 unfold spec_Compile.f at h;have H:=h
 clear h;replace H:=bE H;obtain⟨aR,y,H⟩:=H;by_cases W:aR=true
 ·subst W;replace H:=iT H;replace H:=bE H;obtain⟨X,U,H⟩:=H;by_cases z:(X.length:Int)>600
  ·rw[if_pos z]at H;have aT:decide (600<(X.length:Int))=true:=decide_eq_true z
   have bu:decide (600<X.length)=true:=decide_eq_true (by omega)
   clear z;obtain⟨cm,aU⟩ : ∃ y_:List (S34),Aside0 (y_=(([] :List (S34)))):=⟨_,⟨rfl⟩⟩;rw[← aU.out]at H;simp only[Option.some.injEq,Prod.mk.injEq]at H;obtain⟨rfl,rfl⟩:=H;go_enter Try.func71,Try.ntmps71
   go_wp2_with (first|((with_reducible refine gN 1 ?_);refine boxZ 1 #[.int .i64 s,.int .i64 u,.int .i64 x,.slice af G.length ag] 41 ?_;intro aV hg a8 hbox hb;have a:=aM hbox;have GW942:=gS hg;have GE942:=gS hg;replace HB:=sB hb;clear hb hbox hg;obtain⟨cn,co,cp,cq,cr,cs,ct,cu⟩:=cz4 a)|((with_reducible refine gF 54 ?_);refine gX (some 8) Try.func54 (spec_PolicyOk.calls y.out (cH HR0_3) HC0_3.out) ?_;intro Y hb;replace a:=kB a hb;replace HB:=sB hb;(try clear hb);obtain⟨cv,cw,cx,cy,cz,cA,cD,cE⟩:=cz4 a)|((with_reducible refine gF 102 ?_);refine gY (some 12) Try.func102 (spec_PolicyLines.calls U.out (cH HR0_3) HC0_3.out) ?_;rintro a9 ba ⟨b,hb⟩;have m:=rL b;replace a:=kB a hb;replace HB:=sB hb;(try clear hb);(try clear b);obtain⟨aB,aC,am⟩:=R_slice m.out;subst am)|((with_reducible refine gN 16 ?_);refine R_lit k34 _ 34 ?hg (N:=16) ?hd (xs:=([] :List (S34))) (inner:=[]) (ok:=fun _=>True) (okp:=fun _=>True) ?hr ?hp (fun _ hk=>hk) trivial (Below.refl _ _) (Nat.le_refl _) (by simp) ?_;(case hd=>rfl);(case hg=>rfl);(case hr=>exact rG);(case hp=>exact(Reps.none _ _));intro cF bb an hb hg_ hnew_;clear hg_ hnew_;(first|rw[← aU.out]at an|(simp only[Int.reduceToNat]at an;rw[← aU.out]at an));replace m:=rB m hb;have bv:=rL an;replace a:=kB a hb;replace HB:=sB hb;clear hb an))
   go_ret2;exact⟨_,rE,mR bv,cB⟩
  ·rw[if_neg z]at H;have aT:decide (600<(X.length:Int))=false:=decide_eq_false z
   have bu:decide (600<X.length)=false:=decide_eq_false (by omega)
   clear z;replace H:=bE H;obtain⟨⟨cG,bw⟩,bd,H⟩:=H;(try dsimp only at H);by_cases aD:bw=true
   ·subst aD;replace H:=iT H;simp only[Option.some.injEq,Prod.mk.injEq]at H;obtain⟨rfl,rfl⟩:=H;go_enter Try.func71,Try.ntmps71
    go_wp2_with (first|((with_reducible refine gN 1 ?_);refine boxZ 1 #[.int .i64 s,.int .i64 u,.int .i64 x,.slice af G.length ag] 41 ?_;intro aV hg cI hbox hb;have a:=aM hbox;have GW942:=gS hg;have GE942:=gS hg;replace HB:=sB hb;clear hb hbox hg;obtain⟨cJ,cL,cM,cN,cO,cP,cQ,cR⟩:=cz4 a)|((with_reducible refine gF 54 ?_);refine gX (some 8) Try.func54 (spec_PolicyOk.calls y.out (cH HR0_3) HC0_3.out) ?_;intro cS hb;replace a:=kB a hb;replace HB:=sB hb;(try clear hb);obtain⟨cT,cU,cV,cW,cX,cY,cZ,c0⟩:=cz4 a)|((with_reducible refine gF 102 ?_);refine gY (some 12) Try.func102 (spec_PolicyLines.calls U.out (cH HR0_3) HC0_3.out) ?_;rintro a9 c1 ⟨b,hb⟩;have m:=rL b;replace a:=kB a hb;replace HB:=sB hb;(try clear hb);(try clear b);obtain⟨c3,c4,bx⟩:=R_slice m.out;subst bx)|((with_reducible refine gF 103 ?_);refine gY (some 19) Try.func103 (spec_Layout.calls bd.out (rX m) ((rY m))) ?_;rintro bz c5 ⟨b,hb⟩;replace m:=rB m hb;have ao:=rL b;replace a:=kB a hb;replace HB:=sB hb;(try clear hb);(try clear b)))
    go_ret2;exact⟨_,rE,mR ao,cB⟩
   ·replace aD:=Bool.eq_false_iff.mpr aD;subst aD;replace H:=iF H;obtain⟨c7,aW⟩ : ∃ y_:List (S34),Aside0 (y_=(([] :List (S34)))):=⟨_,⟨rfl⟩⟩;rw[← aW.out]at H;simp only[Option.some.injEq,Prod.mk.injEq]at H;obtain⟨rfl,rfl⟩:=H;go_enter Try.func71,Try.ntmps71
    go_wp2_with (first|((with_reducible refine gN 1 ?_);refine boxZ 1 #[.int .i64 s,.int .i64 u,.int .i64 x,.slice af G.length ag] 41 ?_;intro aV hg da hbox hb;have a:=aM hbox;have GW942:=gS hg;have GE942:=gS hg;replace HB:=sB hb;clear hb hbox hg;obtain⟨db,dc,dd,de,df,dg,dh,di⟩:=cz4 a)|((with_reducible refine gF 54 ?_);refine gX (some 8) Try.func54 (spec_PolicyOk.calls y.out (cH HR0_3) HC0_3.out) ?_;intro dj hb;replace a:=kB a hb;replace HB:=sB hb;(try clear hb);obtain⟨dk,dl,dm,dn,dp,dq,dr,dt⟩:=cz4 a)|((with_reducible refine gF 102 ?_);refine gY (some 12) Try.func102 (spec_PolicyLines.calls U.out (cH HR0_3) HC0_3.out) ?_;rintro a9 du ⟨b,hb⟩;have m:=rL b;replace a:=kB a hb;replace HB:=sB hb;(try clear hb);(try clear b);obtain⟨dv,dw,bA⟩:=R_slice m.out;subst bA)|((with_reducible refine gF 103 ?_);refine gY (some 19) Try.func103 (spec_Layout.calls bd.out (rX m) ((rY m))) ?_;rintro bz dx ⟨b,hb⟩;replace m:=rB m hb;have ao:=rL b;replace a:=kB a hb;replace HB:=sB hb;(try clear hb);(try clear b))|((with_reducible refine gN 24 ?_);refine R_lit k34 _ 34 ?hg (N:=24) ?hd (xs:=([] :List (S34))) (inner:=[]) (ok:=fun _=>True) (okp:=fun _=>True) ?hr ?hp (fun _ hk=>hk) trivial (Below.refl _ _) (Nat.le_refl _) (by simp) ?_;(case hd=>rfl);(case hg=>rfl);(case hr=>exact rG);(case hp=>exact(Reps.none _ _));intro dy dz ah hb hg_ hnew_;clear hg_ hnew_;(first|rw[← aW.out]at ah|(simp only[Int.reduceToNat]at ah;rw[← aW.out]at ah));replace m:=rB m hb;have bB:=aM (R_lower (R_new' ah (R_lt (mR ao))) (below_size cB));replace ao:=eB ao (R_base ah) hb;replace a:=kB a hb;replace HB:=sB hb;clear hb ah))
    go_ret2
    exact⟨_,rE,by(with_reducible repeat(first|apply R_alloc|apply R_drewN|apply R_drew));exact R_mono bB.out (fun _ hk=>trivial),cB⟩
 ·replace W:=Bool.eq_false_iff.mpr W;subst W;replace H:=iF H;obtain⟨dC,aX⟩ : ∃ y_:List (S34),Aside0 (y_=(([] :List (S34)))):=⟨_,⟨rfl⟩⟩;rw[← aX.out]at H;simp only[Option.some.injEq,Prod.mk.injEq]at H;obtain⟨rfl,rfl⟩:=H;go_enter Try.func71,Try.ntmps71
  go_wp2_with (first|((with_reducible refine gN 1 ?_);refine boxZ 1 #[.int .i64 s,.int .i64 u,.int .i64 x,.slice af G.length ag] 41 ?_;intro aV hg dD hbox hb;have a:=aM hbox;have GW942:=gS hg;have GE942:=gS hg;replace HB:=sB hb;clear hb hbox hg;obtain⟨dE,dF,dG,dH,dI,dJ,dK,dL⟩:=cz4 a)|((with_reducible refine gF 54 ?_);refine gX (some 8) Try.func54 (spec_PolicyOk.calls y.out (cH HR0_3) HC0_3.out) ?_;intro dM hb;replace a:=kB a hb;replace HB:=sB hb;(try clear hb))|((with_reducible refine gN 10 ?_);refine R_lit k34 _ 34 ?hg (N:=10) ?hd (xs:=([] :List (S34))) (inner:=[]) (ok:=fun _=>True) (okp:=fun _=>True) ?hr ?hp (fun _ hk=>hk) trivial (Below.refl _ _) (Nat.le_refl _) (by simp) ?_;(case hd=>rfl);(case hg=>rfl);(case hr=>exact rG);(case hp=>exact(Reps.none _ _));intro dN dO ap hb hg_ hnew_;clear hg_ hnew_;(first|rw[← aX.out]at ap|(simp only[Int.reduceToNat]at ap;rw[← aX.out]at ap));have bC:=rL ap;replace a:=kB a hb;replace HB:=sB hb;clear hb ap))
  go_ret2;exact⟨_,rE,mR bC,cB⟩
def spec_l14Program.f (k:Nat) (s0_0:List Int) (s0_1:Int) (s0_2:Int):Option ((List (S34))×Int×Int):=(spec_l01Once.f s0_0 s0_1 s0_2 3).bind fun aq=>(if aq.1=true then((spec_l06Any.f k s0_0 aq.2.1 aq.2.2).bind fun aY=>(some (aY.1,aY.2.1,aY.2.2)))else((spec_l09Policy.f k s0_0 aq.2.1 aq.2.2).bind fun ai=>((spec_Compile.f k ai.1 ai.2.1 ai.2.2.1 ai.2.2.2.1).bind fun bD=>(some (bD.1,ai.2.2.2.2.1,ai.2.2.2.2.2)))))
theorem q20x0 {P:Prop} (h:P:=by repeat(first|(with_reducible first|exact HI0.out|apply IsS90.alloc|apply IsS90.drewN|apply IsS90.drew|apply IsS90.set_1|apply IsS90.set_2)|exact HI0.out)):P:=h
theorem q20x1 {P:Prop} (h:P:=by repeat(first|(with_reducible first|exact HB.out|apply below_alloc|apply pw_below_drewN|apply below_drew1|refine below_set ?_ (IsS90.ge HI0.out))|exact HB.out)):P:=h
set_option maxHeartbeats 8000000 in
set_option maxRecDepth 100000 in
theorem spec_l14Program.calls (k:Nat) (g:Nat) (s0_0:List Int) (s0_1:Int) (s0_2:Int) (r1:List (S34)) (r2:Int) (r3:Int) (d w:World) (hI:IsS90 d w g s0_0 s0_1 s0_2) (hB:Below d.heap.size d w) (h:spec_l14Program.f k s0_0 s0_1 s0_2=some (r1,r2,r3)) :
 Calls Try.prog 35 #[.pointer (some ⟨g,0,none⟩)] w fun e w'=> ∃ v0_:Value,e= .returned (v0_)∧Kd.R k34 34 w' w.heap.size (fun _=>True) v0_ r1∧IsS90 d w' g s0_0 r2 r3∧Below d.heap.size d w'∧KeepBut w w' g none:=by
 have HI0:=aM hI;have HK:=aM (KeepBut.refl w g none);have HL:=aM hB.size;clear hI;have HW0:=aM hB.size;have HB:=aM hB;clear hB
 unfold spec_l14Program.f at h;have H:=h
 clear h;replace H:=bE H;obtain⟨⟨bF,aE,aG⟩,y,H⟩:=H;(try dsimp only at H);by_cases W:bF=true
 ·subst W;replace H:=iT H;replace H:=bE H;obtain⟨⟨bG,bH,bI⟩,U,H⟩:=H;(try dsimp only at H);simp only[Option.some.injEq,Prod.mk.injEq]at H;obtain⟨rfl,rfl,rfl⟩:=H;go_enter Try.func35,Try.ntmps35
  go_wp2_with (first|((with_reducible refine gF 69 ?_);refine gX (some 6) Try.func69 (spec_l01Once.calls g s0_0 s0_1 s0_2 3 true aE aG d _ q20x0 q20x1 y.out) ?_;rintro bJ ⟨hi,hb,hk⟩;replace HK:=tK (w:=w) hk;replace HB:=aM hb;replace HI0:=aM hi;(try clear hb);(try clear hk);(try clear hi))|((with_reducible refine gF 70 ?_);refine gY (some 8) Try.func70 (spec_l06Any.calls k g s0_0 aE aG bG bH bI d _ q20x0 q20x1 U.out) ?_;rintro dP a8 ⟨b,hi,hb,hk⟩;have bL:=aM (R_lower b (keep_size (w:=w) (g:=g) (row:=none) cK));replace HK:=tK (w:=w) hk;replace HB:=aM hb;replace HI0:=aM hi;(try clear hb);(try clear hk);(try clear hi);(try clear b)))
  go_ret;exact⟨_,rE,mR bL,q20x0,q20x1,cK⟩
 ·replace W:=Bool.eq_false_iff.mpr W;subst W;replace H:=iF H;replace H:=bE H;obtain⟨⟨bM,bN,bO,bP,bQ,bR⟩,bS,H⟩:=H;(try dsimp only at H);replace H:=bE H;obtain⟨⟨dQ,dS⟩,bT,H⟩:=H;(try dsimp only at H);simp only[Option.some.injEq,Prod.mk.injEq]at H;obtain⟨rfl,rfl,rfl⟩:=H;go_enter Try.func35,Try.ntmps35
  go_wp2_with (first|((with_reducible refine gF 69 ?_);refine gX (some 6) Try.func69 (spec_l01Once.calls g s0_0 s0_1 s0_2 3 false aE aG d _ q20x0 q20x1 y.out) ?_;rintro bU ⟨hi,hb,hk⟩;replace HK:=tK (w:=w) hk;replace HB:=aM hb;replace HI0:=aM hi;(try clear hb);(try clear hk);(try clear hi))|((with_reducible refine gF 49 ?_);refine gY (some 11) Try.func49 (spec_l09Policy.calls k g s0_0 aE aG bM bN bO bP bQ bR d _ q20x0 q20x1 bS.out) ?_;rintro dT ba ⟨b,hi,hb,hk⟩;have ar:=aM (S_lower b (keep_size (w:=w) (g:=g) (row:=none) cK));replace HK:=tK (w:=w) hk;replace HB:=aM hb;replace HI0:=aM hi;(try clear hb);(try clear hk);(try clear hi);(try clear b);obtain⟨aB,aC,am⟩:=S_slice ar.out;subst am)|((with_reducible refine gF 71 ?_);refine gY (some 12) Try.func71 (spec_Compile.calls bT.out (cC ((S_reads' ar.out).2.2)) ((S_reads' ar.out).2.1)) ?_;rintro dU bb ⟨b,hb⟩;replace ar:=aM (S_below (by(with_reducible repeat(first|apply S_alloc|apply S_drewN|apply S_drew));exact ar.out) hb);have bV:=aM (R_lower b (keep_size (w:=w) (g:=g) (row:=none) cK));replace HK:=aM (KeepBut.trans (cK:KeepBut w _ g none) (KeepBut.of_below hb g none) (.inl rfl));replace HB:=aM (below_step q20x1 hb);replace HI0:=aM (IsS90.below q20x0 hb);(try clear hb);(try clear b)))
  go_ret;exact⟨_,rE,mR bV,q20x0,q20x1,cK⟩
def spec_l15Stack.l0:Nat→List (List (S34))→Int→List Int→Int→Int→Option ((List (List (S34)))×Int×Int)
  | 0,_,_,_,_,_=>none
  | k+1,aZ,be,a0,bW,bX=>(spec_l01Below.f a0 bW bX 4).bind fun au=>(if be<au.1 then((spec_l14Program.f k a0 au.2.1 au.2.2).bind fun a1=>(if aZ.length<5864062014805 then(spec_l15Stack.l0 k (aZ ++ [a1.1]) (wrap64 (be+1)) a0 a1.2.1 a1.2.2)else(none)))else(some (aZ,au.2.1,au.2.2)))
def spec_l15Stack.f (k:Nat) (s0_0:List Int) (s0_1:Int) (s0_2:Int):Option ((List (List (S34)))×Int×Int):=spec_l15Stack.l0 k (([] :List (List (S34)))) 0 s0_0 s0_1 s0_2
set_option maxHeartbeats 8000000 in
set_option maxRecDepth 100000 in
theorem spec_l15Stack.calls (k:Nat) (g:Nat) (s0_0:List Int) (s0_1:Int) (s0_2:Int) (r1:List (List (S34))) (r2:Int) (r3:Int) (d w:World) (hI:IsS90 d w g s0_0 s0_1 s0_2) (hB:Below d.heap.size d w) (h:spec_l15Stack.f k s0_0 s0_1 s0_2=some (r1,r2,r3)) :
 Calls Try.prog 60 #[.pointer (some ⟨g,0,none⟩)] w fun e w'=> ∃ v0_:Value,e= .returned (v0_)∧Kd.S (Kd.slice 34 k34) 24 w' w.heap.size (fun _=>True) v0_ r1∧IsS90 d w' g s0_0 r2 r3∧Below d.heap.size d w'∧KeepBut w w' g none:=by
 have HI0:=aM hI;have HK:=aM (KeepBut.refl w g none);have HL:=aM hB.size;clear hI;have HW0:=aM hB.size;have HB:=aM hB;clear hB;have H:(spec_l15Stack.l0 k (([] :List (List (S34)))) 0 s0_0 s0_1 s0_2)=some (r1,r2,r3):=h;clear h;obtain⟨bY,a2⟩ : ∃ y_:List (List (S34)),Aside0 (y_=(([] :List (List (S34))))):=⟨_,⟨rfl⟩⟩;rw[← a2.out]at H;have H':=aM H;clear H;go_enter Try.func60,Try.ntmps60
 go_wp2_with (first|((with_reducible refine gN 5 ?_);refine S_lit (Kd.slice 34 k34) _ 24 ?hg (N:=5) ?hd (xs:=([] :List (List (S34)))) (inner:=[]) (ok:=fun _=>True) (okp:=fun _=>True) ?hr ?hp (fun _ hk=>hk) trivial (Below.refl _ _) (Nat.le_refl _) (by simp) ?_;(case hd=>rfl);(case hg=>rfl);(case hr=>exact rG);(case hp=>exact(Reps.none _ _));intro dV dX av hb hg_ hnew_;clear hg_ hnew_;(first|rw[← a2.out]at av|(simp only[Int.reduceToNat]at av;rw[← a2.out]at av));have bZ:=aM (S_lower av (keep_size (w:=w) (g:=g) (row:=none) cK));replace HK:=aM (KeepBut.trans (cK:KeepBut w _ g none) (KeepBut.of_below hb g none) (.inl rfl));replace HB:=aM (below_step q20x1 hb);replace HI0:=aM (IsS90.below q20x0 hb);clear hb av))
 go_loopg [3,4] k (fun kq b0 b1 w'=> ∃ (aw:List (List (S34))) (ax:Int) (ac:Int) (ad:Int),b1= .int .i64 ax∧Aside0 (spec_l15Stack.l0 kq aw ax s0_0 ac ad=some (r1,r2,r3))∧Aside0 (kq≤k)∧Aside0 (Kd.S (Kd.slice 34 k34) 24 w' w.heap.size (fun _=>True) b0 aw)∧Aside0 (IsS90 d w' g s0_0 ac ad)∧Aside0 (KeepBut w w' g none)∧Aside0 (Below d.heap.size d w'))
 case atStart=>exact⟨(bY),(0),(s0_1),(s0_2),rS,H',⟨Nat.le_refl _⟩,⟨by(with_reducible repeat(first|apply S_alloc|apply S_drewN|apply S_drew));exact bZ.out⟩,⟨q20x0⟩,⟨cK⟩,⟨q20x1⟩⟩
 case round=>
  clear H';obtain⟨aw,ax,ac,ad,rfl,HA,HK1,A,HI0,HK,HB⟩:=hrel
  cases gk with
  | zero=>exact absurd HA.out (by simp[spec_l15Stack.l0])
  | succ k1=>
   have H:=HA.out;clear HA;simp only[spec_l15Stack.l0]at H;replace H:=bE H;obtain⟨⟨a3,aH,aI⟩,U,H⟩:=H;(try dsimp only at H);by_cases z:ax<a3
   ·rw[if_pos z]at H;have aT:=decide_eq_true z;clear z;replace H:=bE H;obtain⟨⟨ay,bf,bg⟩,b5,H⟩:=H;(try dsimp only at H);replace H:=gC H;obtain⟨bh,H⟩:=H;have b8:=aM bh;clear bh;obtain⟨b9,bi⟩ : ∃ y_:List (List (S34)),Aside0 (y_=(aw ++ [ay])):=⟨_,⟨rfl⟩⟩;rw[← bi.out]at H;have H':=aM H;clear H
    go_wp2_with (first|((with_reducible refine gF 80 ?_);refine gX (some 8) Try.func80 (spec_l01Below.calls g s0_0 ac ad 4 a3 aH aI d _ q20x0 q20x1 U.out) ?_;rintro Y ⟨hi,hb,hk⟩;replace A:=aM (S_mono (S_keep (IsS90.apartS (show IsS90 d _ g s0_0 ac ad from q20x0) (by(with_reducible repeat(first|apply S_alloc|apply S_drewN|apply S_drew));exact A.out) (by decide)) hk (fun _ h=>h.2)) (fun _ h=>h.1));replace HK:=tK (w:=w) hk;replace HB:=aM hb;replace HI0:=aM hi;(try clear hb);(try clear hk);(try clear hi))|((with_reducible refine gF 35 ?_);refine gY (some 14) Try.func35 (spec_l14Program.calls k1 g s0_0 aH aI ay bf bg d _ q20x0 q20x1 b5.out) ?_;rintro dY bU ⟨b,hi,hb,hk⟩;replace A:=aM (S_mono (S_told (S_oldK (IsS90.apartS (show IsS90 d _ g s0_0 aH aI from q20x0) (by(with_reducible repeat(first|apply S_alloc|apply S_drewN|apply S_drew));exact A.out) (by decide)) hk) (R_base b)) (fun _ h_=>h_.1));have aJ:=aM (R_lower b (keep_size (w:=w) (g:=g) (row:=none) cK));replace HK:=tK (w:=w) hk;replace HB:=aM hb;replace HI0:=aM hi;(try clear hb);(try clear hk);(try clear hi);(try clear b);obtain⟨aB,aC,am⟩:=R_slice aJ.out;subst am)|((with_reducible refine gA 12 15 ?_);at_builtin;refine S_append (Kd.slice 34 k34) w.heap.size rfl (.tmp 12) (.tmp 15) 50 24 (.slice none 0 0) 24 rfl Try.underlying50 info24 rfl (by decide) (by omega) u3 aw ay [.slice aB ay.length aC] (fun _=>True) (fun k_=>some k_=(.slice aB ay.length aC:Value).ownBlock) rfl rfl ?aP (fun k_ hk_=>((R_mono (ok':=fun k_=>((fun _=>True)) k_∧some k_≠(u3:Value).ownBlock) (R_apart' (aJ.out) (S_typed A.out) (by decide)) (fun k_ hk=>⟨trivial,hk.2⟩))).1 k_ hk_.symm) ?aF ?aO (Below.refl _ _) ?aS ?aL ?_;(case aP=>exact M_row (R_mono (R_tight rfl (R_mono (ok':=fun k_=>((fun _=>True)) k_∧some k_≠(u3:Value).ownBlock) (R_apart' (aJ.out) (S_typed A.out) (by decide)) (fun k_ hk=>⟨trivial,hk.2⟩))) (fun _ h_=>h_)));(case aF=>exact(fun _ _=>trivial));(case aO=>exact(by exact sM A (fun k_ hk=>⟨trivial,fun e_=>hk.2 e_⟩)));(case aS=>exact(keep_size (w:=w) (g:=g) (row:=none) cK));(case aL=>have:=b8.out;omega);intro dZ ba ho hb hg hat;rw[← bi.out]at ho;replace HB:=aM (below_weaken q20x1 HL.out hb);replace HI0:=aM (IsS90.grown q20x0 hg (IsS90.own_neS HI0.out A.out (by decide)));replace HK:=aM (KeepBut.trans (cK:KeepBut w _ g none) (KeepBut.of_grown hg g) (S_base2 A.out));have ca:=aM ho;clear A aJ ho hb hg hat))
    go_roundg k1
    case measure=>exact oK
    case rel=>exact⟨(b9),(wrap64 (ax+1)),(bf),(bg),rS,H',⟨oK⟩,⟨by(with_reducible repeat(first|apply S_alloc|apply S_drewN|apply S_drew));exact ca.out⟩,⟨q20x0⟩,⟨cK⟩,⟨q20x1⟩⟩
   ·rw[if_neg z]at H;have aT:=decide_eq_false z;clear z;simp only[Option.some.injEq,Prod.mk.injEq]at H;obtain⟨rfl,rfl,rfl⟩:=H
    go_wp2_with (first|((with_reducible refine gF 80 ?_);refine gX (some 8) Try.func80 (spec_l01Below.calls g s0_0 ac ad 4 a3 aH aI d _ q20x0 q20x1 U.out) ?_;rintro bb ⟨hi,hb,hk⟩;replace A:=aM (S_mono (S_keep (IsS90.apartS (show IsS90 d _ g s0_0 ac ad from q20x0) (by(with_reducible repeat(first|apply S_alloc|apply S_drewN|apply S_drew));exact A.out) (by decide)) hk (fun _ h=>h.2)) (fun _ h=>h.1));replace HK:=tK (w:=w) hk;replace HB:=aM hb;replace HI0:=aM hi;(try clear hb);(try clear hk);(try clear hi)))
    go_ret
    exact⟨_,rE,by(with_reducible repeat(first|apply S_alloc|apply S_drewN|apply S_drew));exact A.out,q20x0,q20x1,cK⟩
def spec_DrawRunStack.f (k:Nat) (aa:List Int):Option ((List (List (S34)))×Int×Int×(List (S93))):=(spec_l01New.f k aa).bind fun aK=>((spec_l04Any.f k aK.1 aK.2.1 aK.2.2).bind fun az=>((spec_l15Stack.f k aK.1 az.2.2.2.1 az.2.2.2.2).bind fun cb=>(some (cb.1,az.1,az.2.1,az.2.2.1))))
theorem q20x2 {P:Prop} (h:P:=by repeat(first|(with_reducible first|exact HI998.out|apply IsS90.alloc|apply IsS90.drewN|apply IsS90.drew|apply IsS90.set_1|apply IsS90.set_2|(apply IsS90.far;case hne=>exact(Aside0.out (by assumption))))|exact HI998.out)):P:=h
theorem q20x3 {P:Prop} (h:P:=by repeat(first|(with_reducible first|exact HB.out|apply below_alloc|apply pw_below_drewN|apply below_drew1|refine below_set ?_ (IsS90.ge HI998.out)|refine below_set ?_ (Aside0.out (by assumption)))|exact HB.out)):P:=h
set_option maxHeartbeats 8000000 in
set_option maxRecDepth 100000 in
theorem spec_DrawRunStack.calls {k:Nat}{bj:Option Addr}{bk:Nat}{aa:List Int}{r1:List (List (S34))}{r2:Int}{r3:Int}{r4:List (S93)}{w:World}(h:spec_DrawRunStack.f k aa=some (r1,r2,r3,r4))(bl:Kd.C (Kd.int .u8) w bj aa.length aa)(bm:aa.length≤bk) :
 Calls Try.prog 24 #[.slice bj aa.length bk] w fun e w'=> ∃ v0_ v3_:Value,e= .returned (.tuple #[v0_,.agg #[.int .i64 r2,.int .i64 r3,v3_]])∧Kd.S (Kd.slice 34 k34) 24 w' w.heap.size (fun _=>True) v0_ r1∧Kd.Q k93 93 w' w.heap.size (fun _=>True) v3_ r4∧Below w.heap.size w w':=by
 have hu28:=Try.underlying28;have HR0:=aM bl;have HC0:=aM bm;clear bl bm;have HB:=rW w
 unfold spec_DrawRunStack.f at h;have H:=h
 clear h;replace H:=bE H;obtain⟨⟨ae,bn,bo⟩,y,H⟩:=H;(try dsimp only at H);replace H:=bE H;obtain⟨⟨J,L,D,aj,ak⟩,cc,H⟩:=H;(try dsimp only at H);replace H:=bE H;obtain⟨⟨cd,ce,cf⟩,U,H⟩:=H;(try dsimp only at H);simp only[Option.some.injEq,Prod.mk.injEq]at H;obtain⟨rfl,rfl,rfl,rfl⟩:=H;go_enter Try.func24,Try.ntmps24
 try go_wp2_with (first|((with_reducible refine gN 3 ?_);refine boxZ 3 #[.int .i64 0,.int .i64 0,.slice none 0 0] 28 ?_;intro l hg bJ hbox hb;have c:=aM hbox;have GW994:=gS hg;have GE994:=gS hg;replace HB:=sB hb;clear hb hbox hg)|((with_reducible refine gF 36 ?_);refine gV (some 7) Try.func36 (spec_l01New.calls k _ _ aa ae bn bo w _ cB HR0.out HC0.out y.out) ?_;rintro e a8 ⟨g998,rfl,hi,hb,hb2⟩;refine⟨_,rfl,?_⟩;replace HB:=aM hb;have HI998:=aM hi;have d0:=aM (IsS90.ne_blk hi (blk_below (g:=l) (o:= .cells #[.int .i64 0,.int .i64 0,.slice none 0 0] 28 (0,0)) (mK c) hb2) (by decide));have bp:=aM (Ne.symm (IsS90.ne_blk hi (blk_below (g:=l) (o:= .cells #[.int .i64 0,.int .i64 0,.slice none 0 0] 28 (0,0)) (mK c) hb2) (by decide)));replace c:=aM (blk_below (g:=l) (o:= .cells #[.int .i64 0,.int .i64 0,.slice none 0 0] 28 (0,0)) (mK c) hb2);(try clear hb);(try clear hb2);(try clear hi))|((with_reducible refine gF 59 ?_);refine gY (some 9) Try.func59 (spec_l04Any.calls k g998 ae bn bo J L D aj ak w _ q20x2 q20x3 cc.out) ?_;rintro d1 d2 ⟨b,hi,hb,hk⟩;replace c:=bK hk c bp.out;have I:=aM (Q_lower b (below_size q20x3));replace HB:=aM hb;replace HI998:=aM hi;(try clear hb);(try clear hk);(try clear hi);(try clear b))|((with_reducible refine gN 5 ?_);refine boxZ 5 #[.int .i64 0,.int .i64 0,.slice none 0 0] 28 ?_;intro j hg Y hbox hb;replace I:=aM (Q_below (by(with_reducible repeat(first|apply Q_alloc|apply Q_drewN|apply Q_drew));exact I.out) hb);have q:=aM hbox;have GW1006:=aM ((by rw[hg];exact(below_size q20x3):w.heap.size≤j));have GE1006:=aM ((by rw[hg];exact(below_size q20x3):w.heap.size≤j));replace HB:=aM (below_step q20x3 hb);have aN:=nL hg c;have E:=nG hg c;replace c:=kB c hb;have cg:=aM ((by rw[hg];exact Nat.ne_of_lt (IsS90.lt (show IsS90 w _ g998 ae aj ak from q20x2)):g998≠j));have bq:=aM ((by rw[hg];exact Nat.ne_of_gt (IsS90.lt (show IsS90 w _ g998 ae aj ak from q20x2)):j≠g998));replace HI998:=aM (IsS90.below q20x2 hb);clear hb hbox hg;have hnb9:=E.out;have hnc9:=aN.out;have hnb10:=bq.out;have hnc10:=cg.out;obtain⟨d3,d4,d5,d6,d7,d8⟩:=cz3 q;obtain⟨M,O,ch,_⟩:=Q_slice I.out;subst ch))
 have n0_:Aside0 (Kd.Q k93 93 (((Y.setCell ⟨j,0,none⟩ (.int .i64 J)).setCell ⟨j,1,none⟩ (.int .i64 L)).setCell ⟨j,2,none⟩ (.slice M D.length O)) w.heap.size (fun _=>True) (.slice M D.length O) D):=⟨fQ (Q_types I.out q.out (by decide)) (fun _ hk=>trivial)⟩
 have n1_:Aside0 ((((Y.setCell ⟨j,0,none⟩ (.int .i64 J)).setCell ⟨j,1,none⟩ (.int .i64 L)).setCell ⟨j,2,none⟩ (.slice M D.length O)).heap[l]?=some (.cells #[.int .i64 0,.int .i64 0,.slice none 0 0] 28 (0,0))):=⟨mK c⟩
 have n2_:Aside0 ((((Y.setCell ⟨j,0,none⟩ (.int .i64 J)).setCell ⟨j,1,none⟩ (.int .i64 L)).setCell ⟨j,2,none⟩ (.slice M D.length O)).heap[j]?=some (.cells #[.int .i64 J,.int .i64 L,.slice M D.length O] 28 (0,0))):=⟨kS q _⟩
 have n3_:Aside0 (IsS90 w (((Y.setCell ⟨j,0,none⟩ (.int .i64 J)).setCell ⟨j,1,none⟩ (.int .i64 L)).setCell ⟨j,2,none⟩ (.slice M D.length O)) g998 ae aj ak):=⟨q20x2⟩;have n4_:Aside0 (Below w.heap.size w (((Y.setCell ⟨j,0,none⟩ (.int .i64 J)).setCell ⟨j,1,none⟩ (.int .i64 L)).setCell ⟨j,2,none⟩ (.slice M D.length O))):=⟨q20x3⟩;(try clear I);(try clear c);(try clear q);(try clear HI998);(try clear HB);generalize (((Y.setCell ⟨j,0,none⟩ (.int .i64 J)).setCell ⟨j,1,none⟩ (.int .i64 L)).setCell ⟨j,2,none⟩ (.slice M D.length O))=ci at n0_ n1_ n2_ n3_ n4_ ⊢;have I:=n0_;have c:=n1_;have q:=n2_;have HI998:=n3_;have HB:=n4_;clear n0_ n1_ n2_ n3_ n4_;replace I:=aM (Q_drew I.out);replace c:=dB c;replace q:=dB q;replace HI998:=aM (IsS90.drew HI998.out);replace HB:=dW HB
 refine start_ (n:=5) (S:=fun w'=>w'.cell? ⟨j,0,none⟩=some (.int .i64 J)∧w'.cell? ⟨j,1,none⟩=some (.int .i64 L)∧w'.cell? ⟨j,2,none⟩=some (.slice M D.length O)) (ds:=[]) #[false,false,false,false,false] (by kernel_rfl) rfl rfl ⟨(blk_cell q.out 0).trans rfl,(blk_cell q.out 1).trans rfl,(blk_cell q.out 2).trans rfl⟩ (fun hHeld=>?_)
 generalize ci.drew=d9 at I c q HI998 HB hHeld ⊢
 refine pure_ (i:=0) (N:=some 10) (v:=?_) (a':=?_) #[true,false,false,false,false] rfl rfl (by kernel_rfl) (fun _ _ _ h=>h) (Or.inl ⟨by rfl,?_⟩) ?_ ?_
 rotate_left
 ·intro w';go_simp;with_reducible rfl
 rotate_left
 ·simp only[Act.put,List.setIfInBounds_toArray,List.set_cons_zero,List.set_cons_succ,i64_w,i32_w];rfl
 refine take_ (i:=2) (N:=some 12) (v:=?_) (a':=?_) #[true,false,true,false,false] rfl rfl (by kernel_rfl) (fun _ _ _ h=>h) (Or.inl ⟨by rfl,?_⟩) hHeld ?_ ?_
 rotate_left
 ·rintro w' ⟨s0,s1,s2⟩;go_simp;with_reducible rfl
 rotate_left
 ·simp only[Act.put,List.setIfInBounds_toArray,List.set_cons_zero,List.set_cons_succ,i64_w,i32_w];rfl
 refine one_ (i:=1) (N:=some 11) #[true,true,true,false,false] rfl rfl (by kernel_rfl) (by decide) (fun K hK=>?_)
 refine eY Try.func60 (spec_l15Stack.calls k g998 ae aj ak cd ce cf w _ q20x2 q20x3 U.out) ?_
 rintro ea a4 ⟨b,hi,hb,hk⟩;replace c:=bK hk c bp.out
 replace I:=aM (Q_mono (Q_keep (IsS90.apartQ (show IsS90 w _ g998 ae aj ak from q20x2) (by(with_reducible repeat(first|apply Q_alloc|apply Q_drewN|apply Q_drew));exact I.out) (by decide)) hk (fun _ h=>h.2)) (fun _ h=>h.1))
 replace q:=bK hk q bq.out;have cj:=aM (S_lower b (below_size q20x3));replace HB:=aM hb;replace HI998:=aM hi;(try clear hb);(try clear hk);(try clear hi);(try clear b)
 refine hK.out _ _ ⟨(blk_cell q.out 0).trans rfl,(blk_cell q.out 1).trans rfl,(blk_cell q.out 2).trans rfl⟩ (fun hHeld=>?_)
 clear hK K;refine normZ (some 11) ?_
 refine pure_ (i:=3) (N:=some 2) (v:=?_) (a':=?_) #[true,true,true,true,false] rfl rfl (by kernel_rfl) (fun _ _ _ h=>h) (Or.inl ⟨by rfl,?_⟩) ?_ ?_
 rotate_left
 ·intro w';go_simp;with_reducible rfl
 rotate_left
 ·simp only[Act.put,List.setIfInBounds_toArray,List.set_cons_zero,List.set_cons_succ,i64_w,i32_w];rfl
 refine one_ (i:=4) (N:=none) #[true,true,true,true,true] rfl rfl (by kernel_rfl) (by decide) (fun K hK=>?_)
 have hs16:a4.cell? ⟨l,0,none⟩=some (.int .i64 0):=(blk_cell c.out 0).trans rfl;have hfs16:=blk_frozen c.out 0;have hns16_1:=E.out;have hms16_1:=aN.out;have hs17:a4.cell? ⟨l,1,none⟩=some (.int .i64 0):=(blk_cell c.out 1).trans rfl;have hfs17:=blk_frozen c.out 1;have hns17_1:=E.out;have hms17_1:=aN.out;have hs18:a4.cell? ⟨l,2,none⟩=some (.slice none 0 0):=(blk_cell c.out 2).trans rfl;have hfs18:=blk_frozen c.out 2;have hns18_1:=E.out;have hms18_1:=aN.out
 refine skip_ (w1:=?_) (by rfl) rfl ?_ ?_
 rotate_left
 ·go_simp;rfl
 refine hK.out _ _ ⟨((cell_far (p:=⟨l,_,none⟩) E.out _).trans (((cell_far (p:=⟨l,_,none⟩) E.out _).trans (((cell_far (p:=⟨l,_,none⟩) E.out _).trans (hHeld.1)))))),((cell_far (p:=⟨l,_,none⟩) E.out _).trans (((cell_far (p:=⟨l,_,none⟩) E.out _).trans (((cell_far (p:=⟨l,_,none⟩) E.out _).trans (hHeld.2.1)))))),((cell_far (p:=⟨l,_,none⟩) E.out _).trans (((cell_far (p:=⟨l,_,none⟩) E.out _).trans (((cell_far (p:=⟨l,_,none⟩) E.out _).trans (hHeld.2.2))))))⟩ (fun hHeld=>?_)
 clear hK K
 refine done_ (by kernel_rfl) ?_
 try go_wp2
 refine bodyPost_ret (results_tc rfl _ _ l 28 #[.int .i64 J,.int .i64 L,.slice M D.length O] (0,0) _ rfl (kS c _) Try.underlying28 rfl (by kernel_rfl)) rfl ?_
 exact⟨_,_,rE,by(with_reducible repeat(first|apply S_alloc|apply S_drewN|apply S_drew));exact S_mono (S_far (p:=⟨l,2,none⟩) (S_far (p:=⟨l,1,none⟩) (S_far (p:=⟨l,0,none⟩) (S_types cj.out c.out (by decide)) (fun _ hk=>hk.2) (.int .i64 J)) (fun _ hk=>hk.2) (.int .i64 L)) (fun _ hk=>hk.2) (.slice M D.length O)) (fun _ hk=>trivial),fQ (Q_types I.out c.out (by decide)) (fun _ hk=>trivial),q20x3⟩
def impl_within.f (t:Int) (ab:Int) (aA:Int):Option (Bool):=if t≥ab then(some (decide (t≤aA)))else(some false)
set_option maxHeartbeats 8000000 in
set_option maxRecDepth 100000 in
theorem impl_within.calls {t:Int}{ab:Int}{aA:Int}{r:Bool}{w:World}(h:impl_within.f t ab aA=some r) :
 Calls Try.prog 68 #[.int .i64 t,.int .i64 ab,.int .i64 aA] w fun e w'=>e= .returned (.bool r)∧Drawn0 w w':=by
 have H:(if t≥ab then(some (decide (t≤aA)))else(some false))=some r:=h;clear h;by_cases al:t≥ab
 ·rw[if_pos al]at H;have ck:decide (ab≤t)=true:=decide_eq_true al;clear al;obtain rfl:=Option.some.inj H;go_enter Try.func68,Try.ntmps68;go_wp2;go_ret
  exact⟨by first|rfl|(simp;done)|(simp[*];done),by repeat(first|exact Drawn0.refl _|apply Drawn0.step)⟩
 ·rw[if_neg al]at H;have ck:decide (ab≤t)=false:=decide_eq_false al;clear al;obtain rfl:=Option.some.inj H;go_enter Try.func68,Try.ntmps68;go_wp2;go_ret
  exact⟨by first|rfl|(simp;done)|(simp[*];done),by repeat(first|exact Drawn0.refl _|apply Drawn0.step)⟩
def impl_Ins_asks.f (s:Int) (u:Int) (x:Int) (aQ:Int):Option (Bool):=(impl_within.f s 3 6).bind fun br=>(some br)
set_option maxHeartbeats 8000000 in
set_option maxRecDepth 100000 in
theorem impl_Ins_asks.calls {s:Int}{u:Int}{x:Int}{aQ:Int}{r:Bool}{w:World}(h:impl_Ins_asks.f s u x aQ=some r) :
 Calls Try.prog 40 #[.agg #[.int .i64 s,.int .i64 u,.int .i64 x,.int .i64 aQ]] w fun e w'=>e= .returned (.bool r)∧Below w.heap.size w w':=by
 have hu34:=Try.underlying34;have HB:=rW w
 unfold impl_Ins_asks.f at h;have H:=h
 clear h;replace H:=bE H;obtain⟨br,y,H⟩:=H;obtain rfl:=Option.some.inj H;go_enter Try.func40,Try.ntmps40
 go_wp2_with (first|((with_reducible refine gN 1 ?_);refine boxZ 1 #[.int .i64 s,.int .i64 u,.int .i64 x,.int .i64 aQ] 34 ?_;intro eb hg ec hbox hb;have cl:=aM hbox;have GW1012:=gS hg;have GE1012:=gS hg;replace HB:=sB hb;clear hb hbox hg;obtain⟨ed,ee,ef,eg,eh,ei,ej,ek⟩:=cz4 cl)|((with_reducible refine gF 68 ?_);refine gX (some 5) Try.func68 (impl_within.calls y.out) ?_;rintro w' ⟨nd,rfl⟩))
 go_ret;exact⟨rE,cB⟩
def impl_HalfOk.f (t:Int):Option (Bool):=(impl_within.f t 0 4294967295).bind fun bs=>(some bs)
set_option maxHeartbeats 8000000 in
set_option maxRecDepth 100000 in
theorem impl_HalfOk.calls {t:Int}{r:Bool}{w:World}(h:impl_HalfOk.f t=some r) :
 Calls Try.prog 83 #[.int .i64 t] w fun e w'=>e= .returned (.bool r)∧Drawn0 w w':=by
 unfold impl_HalfOk.f at h;have H:=h
 clear h;replace H:=bE H;obtain⟨bs,y,H⟩:=H;obtain rfl:=Option.some.inj H;go_enter Try.func83,Try.ntmps83
 go_wp2_with (first|((with_reducible refine gF 68 ?_);refine gX (some 4) Try.func68 (impl_within.calls y.out) ?_;rintro w' ⟨nd,rfl⟩))
 go_ret
 exact⟨by first|rfl|(simp;done)|(simp[*];done),by repeat(first|exact Drawn0.refl _|apply Drawn0.step)⟩
end Go.Proofs.Ytpbalojiaghfhaa.PFnStacks
