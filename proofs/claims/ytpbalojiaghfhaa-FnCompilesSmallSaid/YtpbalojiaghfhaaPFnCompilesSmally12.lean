import Derived.Test.YtpbalojiaghfhaaPFnCompilesSmally0
import Derived.Test.YtpbalojiaghfhaaPFnCompilesSmally6
import Derived.Test.YtpbalojiaghfhaaPFnCompilesSmally7
import Derived.Test.YtpbalojiaghfhaaPFnCompilesSmally11
namespace Go.Proofs.Ytpbalojiaghfhaa.PFnCompilesSmall
open Go.RowKit Go.Proofs.YtpbalojiaghfhaaW.PrintWords Go.Proofs.YtpbalojiaghfhaaW.PrintLast Go.Proofs.YtpbalojiaghfhaaW.PrintMore Go.Proofs.YtpbalojiaghfhaaW.Z
open Kd
attribute [local go_sem] isS max2_int min2_int max_two min_two max_three min_three max_four min_four
set_option linter.unusedVariables false
set_option linter.unusedSimpArgs false
theorem qh12x0 {P:Prop} (h:P:=by exact⟨(blk_cell a.out 0).trans rfl,(blk_cell a.out 1).trans rfl,(blk_cell a.out 2).trans rfl,(blk_cell a.out 3).trans rfl⟩):P:=h
def impl_PolicyLines.f (k:Nat) (b:Int) (c:Int) (d:Int) (m:List (S81)):Option ((List (S104))):=(impl_word.f 1 1).bind fun z=>((impl_ask.f 3 b (⟨#[112]⟩ :ByteArray) (⟨#[113]⟩ :ByteArray)).bind fun A=>((impl_place.f (⟨#[113]⟩ :ByteArray)).bind fun D=>((impl_word.f 8 0).bind fun E=>((impl_place.f (⟨#[112]⟩ :ByteArray)).bind fun G=>((impl_word.f 1 0).bind fun I=>((some (([(⟨z.1,(⟨z.2.1,z.2.2.1,z.2.2.2.1,z.2.2.2.2.1⟩ :S34),z.2.2.2.2.2.1,z.2.2.2.2.2.2⟩ :S104),(⟨A.1,(⟨A.2.1,A.2.2.1,A.2.2.2.1,A.2.2.2.2.1⟩ :S34),A.2.2.2.2.2.1,A.2.2.2.2.2.2⟩ :S104),(⟨D.1,(⟨D.2.1,D.2.2.1,D.2.2.2.1,D.2.2.2.2.1⟩ :S34),D.2.2.2.2.2.1,D.2.2.2.2.2.2⟩ :S104),(⟨E.1,(⟨E.2.1,E.2.2.1,E.2.2.2.1,E.2.2.2.2.1⟩ :S34),E.2.2.2.2.2.1,E.2.2.2.2.2.2⟩ :S104),(⟨G.1,(⟨G.2.1,G.2.2.1,G.2.2.2.1,G.2.2.2.2.1⟩ :S34),G.2.2.2.2.2.1,G.2.2.2.2.2.2⟩ :S104),(⟨I.1,(⟨I.2.1,I.2.2.1,I.2.2.2.1,I.2.2.2.2.1⟩ :S34),I.2.2.2.2.2.1,I.2.2.2.2.2.2⟩ :S104)] :List (S104)):List (S104))).bind fun Y=>((impl_NumsOf.f k b c d m).bind fun bj=>((impl_TreeLines.f k b c d m bj (⟨#[116]⟩ :ByteArray)).bind fun J=>(if Y.length+J.length<1759218604441 then(some (Y ++ J))else(none))))))))))
def impl_PolicyLines.T1:Bool×List (List Nat×List Nat):=(true,[([],[]),([],[]),([1],[1]),([2,0],[2]),([3],[]),([4],[]),([5],[]),([6],[]),([0,3,4,5,6,7],[0,3,4,5,6,7]),([8,7,0,1,2,3,4,5,6,7,8],[8])])
def impl_PolicyLines.B1:List Nat:=[0,0,2,7,15,31,63,127,255,511]
theorem impl_PolicyLines.tab1:rtab .any (opsOf Try.f51 1)=impl_PolicyLines.T1:=by kernel_rfl
theorem impl_PolicyLines.bits1:waitsOk impl_PolicyLines.T1.2 impl_PolicyLines.B1=true:=by kernel_rfl
theorem q12x0 {P:Prop} (h:P:=by
 rintro w' ⟨s0,s1,s2,s3⟩
 go_simp
 with_reducible rfl):P:=h
set_option maxHeartbeats 8000000 in
set_option maxRecDepth 100000 in
theorem impl_PolicyLines.calls {k:Nat}{b:Int}{c:Int}{d:Int}{aa:Option Addr}{ab:Nat}{m:List (S81)}{r:List (S104)}{w:World}(h:impl_PolicyLines.f k b c d m=some r)(bs:Kd.C k81 w aa m.length m)(bu:m.length≤ab) :
 Calls Try.prog 51 #[.agg #[.int .i64 b,.int .i64 c,.int .i64 d,.slice aa m.length ab]] w fun e w'=> ∃ v0_:Value,e= .returned (v0_)∧Kd.R k104 104 w' w.heap.size (fun _=>True) v0_ r∧Below w.heap.size w w':=by
 have hu41:=Try.underlying41;have HR0_3:=aM bs;have HC0_3:=aM bu;clear bs bu;have HB:=rW w
 unfold impl_PolicyLines.f at h;have H:=h
 clear h;replace H:=bE H;obtain⟨⟨ac,ad,ae,af,ag,ah,ai⟩,bk,H⟩:=H;(try dsimp only at H);replace H:=bE H;obtain⟨⟨aj,ak,al,am,an,ao,ap⟩,bV,H⟩:=H;(try dsimp only at H);replace H:=bE H;obtain⟨⟨aq,ar,au,av,aw,ax,ay⟩,bW,H⟩:=H;(try dsimp only at H);replace H:=bE H;obtain⟨⟨az,aA,aC,aD,aE,aG,aH⟩,bl,H⟩:=H;(try dsimp only at H);replace H:=bE H;obtain⟨⟨aI,aJ,aK,aN,aP,aQ,aT⟩,aU,H⟩:=H;(try dsimp only at H);replace H:=bE H;obtain⟨⟨aV,aW,aX,aY,aZ,a0,a1⟩,bX,H⟩:=H;(try dsimp only at H);replace H:=nE H;obtain⟨Y,bv,H⟩:=H;replace H:=bE H;obtain⟨bj,bY,H⟩:=H;replace H:=bE H;obtain⟨J,bZ,H⟩:=H;replace H:=gC H;obtain⟨bw,H⟩:=H;have b0:=aM bw;clear bw;obtain⟨ct,bx⟩ : ∃ y_:List (S104),Aside0 (y_=(Y ++ J)):=⟨_,⟨rfl⟩⟩;rw[← bx.out]at H;obtain rfl:=Option.some.inj H;go_enter Try.func51,Try.ntmps51
 try go_wp2_with (first|((with_reducible refine gN 1 ?_);refine boxZ 1 #[.int .i64 b,.int .i64 c,.int .i64 d,.slice aa m.length ab] 41 ?_;intro y hg bz hbox hb;have a:=aM hbox;have GW665:=gS hg;have GE665:=gS hg;replace HB:=sB hb;clear hb hbox hg))
 replace a:=dB a;replace HB:=dW HB
 refine sZ 10 (fun w'=>w'.cell? ⟨y,0,none⟩=some (.int .i64 b)∧w'.cell? ⟨y,1,none⟩=some (.int .i64 c)∧w'.cell? ⟨y,2,none⟩=some (.int .i64 d)∧w'.cell? ⟨y,3,none⟩=some (.slice aa m.length ab)) impl_PolicyLines.tab1 impl_PolicyLines.bits1 qh12x0 fun HT_ HW_ hHeld=>?_
 generalize bz.drew=cu at a HB hHeld ⊢;refine pureZ 1 (some 5) (msk 10 2) HT_.out ?_;refine takeZ 2 (some 6) (msk 10 6) HT_.out HW_.out hHeld (hy:=q12x0) (h:=?_)
 refine one_Z 0 (some 4) (msk 10 7) HT_.out fun K hK=>?_
 refine eX Try.func85 (impl_word.calls bk.out) ?_
 intro cv hb;replace a:=kB a hb;replace HB:=sB hb;(try clear hb)
 refine hK.out _ _ qh12x0 (fun hHeld=>?_)
 clear hK K;refine normZ (some 4) ?_
 refine one_Z 3 (some 7) (msk 10 15) HT_.out fun K hK=>?_
 refine eX Try.func86 (impl_ask.calls bV.out) ?_
 intro cw hb;replace a:=kB a hb;replace HB:=sB hb;(try clear hb)
 refine hK.out _ _ qh12x0 (fun hHeld=>?_)
 clear hK K;refine normZ (some 7) ?_
 refine one_Z 4 (some 8) (msk 10 31) HT_.out fun K hK=>?_
 refine eX Try.func87 (impl_place.calls bW.out) ?_
 intro cx hb;replace a:=kB a hb;replace HB:=sB hb;(try clear hb)
 refine hK.out _ _ qh12x0 (fun hHeld=>?_)
 clear hK K;refine normZ (some 8) ?_
 refine one_Z 5 (some 9) (msk 10 63) HT_.out fun K hK=>?_
 refine eX Try.func85 (impl_word.calls bl.out) ?_
 intro cy hb;replace a:=kB a hb;replace HB:=sB hb;(try clear hb)
 refine hK.out _ _ qh12x0 (fun hHeld=>?_)
 clear hK K;refine normZ (some 9) ?_
 refine one_Z 6 (some 10) (msk 10 127) HT_.out fun K hK=>?_
 refine eX Try.func87 (impl_place.calls aU.out) ?_
 intro cz hb;replace a:=kB a hb;replace HB:=sB hb;(try clear hb)
 refine hK.out _ _ qh12x0 (fun hHeld=>?_)
 clear hK K;refine normZ (some 10) ?_
 refine one_Z 7 (some 11) (msk 10 255) HT_.out fun K hK=>?_
 refine eX Try.func85 (impl_word.calls bX.out) ?_
 intro cA hb;replace a:=kB a hb;replace HB:=sB hb;(try clear hb)
 refine hK.out _ _ qh12x0 (fun hHeld=>?_)
 clear hK K;refine normZ (some 11) ?_
 refine one_Z 8 (some 12) (msk 10 511) HT_.out fun K hK=>?_
 refine R_lit_step k104 _ 104 ?hg (N:=12) ?hd (xs:=([(⟨ac,(⟨ad,ae,af,ag⟩ :S34),ah,ai⟩ :S104),(⟨aj,(⟨ak,al,am,an⟩ :S34),ao,ap⟩ :S104),(⟨aq,(⟨ar,au,av,aw⟩ :S34),ax,ay⟩ :S104),(⟨az,(⟨aA,aC,aD,aE⟩ :S34),aG,aH⟩ :S104),(⟨aI,(⟨aJ,aK,aN,aP⟩ :S34),aQ,aT⟩ :S104),(⟨aV,(⟨aW,aX,aY,aZ⟩ :S34),a0,a1⟩ :S104)] :List (S104))) (inner:=[.string ac,.int .i64 ad,.int .i64 ae,.int .i64 af,.int .i64 ag,.string ah,.string ai,.string aj,.int .i64 ak,.int .i64 al,.int .i64 am,.int .i64 an,.string ao,.string ap,.string aq,.int .i64 ar,.int .i64 au,.int .i64 av,.int .i64 aw,.string ax,.string ay,.string az,.int .i64 aA,.int .i64 aC,.int .i64 aD,.int .i64 aE,.string aG,.string aH,.string aI,.int .i64 aJ,.int .i64 aK,.int .i64 aN,.int .i64 aP,.string aQ,.string aT,.string aV,.int .i64 aW,.int .i64 aX,.int .i64 aY,.int .i64 aZ,.string a0,.string a1]) (ok:=fun _=>True) (okp:=fun _=>True) ?hr ?hp (fun _ hk=>hk) trivial (Below.refl _ _) (Nat.le_refl _) (by simp) ?_;(case hd=>rfl);(case hg=>rfl);(case hr=>first|(go_simp;done)|(go_simp;rfl));(case hp=>exact(Reps.c7 (show Kd.M k104 _ _ _ (⟨ac,(⟨ad,ae,af,ag⟩ :S34),ah,ai⟩ :S104) [.string ac,.int .i64 ad,.int .i64 ae,.int .i64 af,.int .i64 ag,.string ah,.string ai]from (k104_mkM _ _ _ (⟨ac,(⟨ad,ae,af,ag⟩ :S34),ah,ai⟩ :S104))) (Reps.c7 (show Kd.M k104 _ _ _ (⟨aj,(⟨ak,al,am,an⟩ :S34),ao,ap⟩ :S104) [.string aj,.int .i64 ak,.int .i64 al,.int .i64 am,.int .i64 an,.string ao,.string ap]from (k104_mkM _ _ _ (⟨aj,(⟨ak,al,am,an⟩ :S34),ao,ap⟩ :S104))) (Reps.c7 (show Kd.M k104 _ _ _ (⟨aq,(⟨ar,au,av,aw⟩ :S34),ax,ay⟩ :S104) [.string aq,.int .i64 ar,.int .i64 au,.int .i64 av,.int .i64 aw,.string ax,.string ay]from (k104_mkM _ _ _ (⟨aq,(⟨ar,au,av,aw⟩ :S34),ax,ay⟩ :S104))) (Reps.c7 (show Kd.M k104 _ _ _ (⟨az,(⟨aA,aC,aD,aE⟩ :S34),aG,aH⟩ :S104) [.string az,.int .i64 aA,.int .i64 aC,.int .i64 aD,.int .i64 aE,.string aG,.string aH]from (k104_mkM _ _ _ (⟨az,(⟨aA,aC,aD,aE⟩ :S34),aG,aH⟩ :S104))) (Reps.c7 (show Kd.M k104 _ _ _ (⟨aI,(⟨aJ,aK,aN,aP⟩ :S34),aQ,aT⟩ :S104) [.string aI,.int .i64 aJ,.int .i64 aK,.int .i64 aN,.int .i64 aP,.string aQ,.string aT]from (k104_mkM _ _ _ (⟨aI,(⟨aJ,aK,aN,aP⟩ :S34),aQ,aT⟩ :S104))) (Reps.c7 (show Kd.M k104 _ _ _ (⟨aV,(⟨aW,aX,aY,aZ⟩ :S34),a0,a1⟩ :S104) [.string aV,.int .i64 aW,.int .i64 aX,.int .i64 aY,.int .i64 aZ,.string a0,.string a1]from (k104_mkM _ _ _ (⟨aV,(⟨aW,aX,aY,aZ⟩ :S34),a0,a1⟩ :S104))) (Reps.none _ _))))))))
 intro b1 b5 a2 hb hg_ hnew_;clear hg_ hnew_
 (first|rw[← bv.out]at a2|(simp only[Int.reduceToNat]at a2;rw[← bv.out]at a2))
 have o:=rL a2;replace a:=kB a hb;replace HB:=sB hb;clear hb a2
 refine hK.out _ _ qh12x0 (fun hHeld=>?_)
 clear hK K;refine normZ (some 12) ?_
 refine pureZ 9 (some 3) (msk 10 1023) HT_.out ?_
 refine done_ (done_of HT_.out (by kernel_rfl)) ?_
 try go_wp2
 replace o:=dR o;replace a:=dB a;replace HB:=dW HB
 refine start_ (n:=7) (S:=fun w'=>w'.cell? ⟨y,0,none⟩=some (.int .i64 b)∧w'.cell? ⟨y,1,none⟩=some (.int .i64 c)∧w'.cell? ⟨y,2,none⟩=some (.int .i64 d)∧w'.cell? ⟨y,3,none⟩=some (.slice aa m.length ab)) (ds:=[]) #[false,false,false,false,false,false,false] (by kernel_rfl) rfl rfl ⟨(blk_cell a.out 0).trans rfl,(blk_cell a.out 1).trans rfl,(blk_cell a.out 2).trans rfl,(blk_cell a.out 3).trans rfl⟩ (fun hHeld=>?_)
 generalize b5.drew=cD at o a HB hHeld ⊢
 refine pure_ (i:=0) (N:=some 13) (v:=?_) (a':=?_) #[true,false,false,false,false,false,false] rfl rfl (by kernel_rfl) (fun _ _ _ h=>h) (Or.inl ⟨by rfl,?_⟩) ?_ ?_
 rotate_left
 ·intro w';go_simp;with_reducible rfl
 rotate_left
 ·simp only[Act.put,List.setIfInBounds_toArray,List.set_cons_zero,List.set_cons_succ,i64_w,i32_w];rfl
 refine take_ (i:=1) (N:=some 14) (v:=?_) (a':=?_) #[true,true,false,false,false,false,false] rfl rfl (by kernel_rfl) (fun _ _ _ h=>h) (Or.inl ⟨by rfl,?_⟩) hHeld ?_ ?_
 rotate_left
 ·rintro w' ⟨s0,s1,s2,s3⟩;go_simp;with_reducible rfl
 rotate_left
 ·simp only[Act.put,List.setIfInBounds_toArray,List.set_cons_zero,List.set_cons_succ,i64_w,i32_w];rfl
 refine take_ (i:=2) (N:=some 15) (v:=?_) (a':=?_) #[true,true,true,false,false,false,false] rfl rfl (by kernel_rfl) (fun _ _ _ h=>h) (Or.inl ⟨by rfl,?_⟩) hHeld ?_ ?_
 rotate_left
 ·rintro w' ⟨s0,s1,s2,s3⟩;go_simp;with_reducible rfl
 rotate_left
 ·simp only[Act.put,List.setIfInBounds_toArray,List.set_cons_zero,List.set_cons_succ,i64_w,i32_w];rfl
 refine one_ (i:=3) (N:=some 16) #[true,true,true,true,false,false,false] rfl rfl (by kernel_rfl) (by decide) (fun K hK=>?_)
 refine eY Try.func22 (impl_NumsOf.calls bY.out (cH HR0_3) HC0_3.out) ?_
 rintro cE cF ⟨W,hb⟩;replace o:=rB o hb;have L:=rL W;replace a:=kB a hb;replace HB:=sB hb;(try clear hb);(try clear W);obtain⟨cG,cI,bA⟩:=R_slice L.out
 (first|subst bA|(injection bA with f1_ f2_ f3_;have f4_:=f1_.symm;have f5_:=f3_.symm;clear f1_ f2_ f3_;subst f4_;subst f5_))
 refine hK.out _ _ qh12x0 (fun hHeld=>?_)
 clear hK K;refine normZ (some 16) ?_
 refine one_ (i:=4) (N:=some 17) #[true,true,true,true,true,false,false] rfl rfl (by kernel_rfl) (by decide) (fun K hK=>?_)
 refine eY Try.func88 (impl_TreeLines.calls k b c d _ _ m _ _ bj (⟨#[116]⟩ :ByteArray) J _ (cH HR0_3) HC0_3.out (rX L) ((rY L)) bZ.out) ?_
 rintro cJ cL ⟨W,hb⟩;replace L:=rB L hb;have a3:=aM (R_lower (R_new' W (R_lt (mR o))) (below_size cB));replace o:=eB o (R_base W) hb;replace a:=kB a hb;replace HB:=sB hb;(try clear hb);(try clear W);obtain⟨b8,b9,bB⟩:=R_slice a3.out
 (first|subst bB|(injection bB with f1_ f2_ f3_;have f4_:=f1_.symm;have f5_:=f3_.symm;clear f1_ f2_ f3_;subst f4_;subst f5_))
 refine hK.out _ _ qh12x0 (fun hHeld=>?_)
 clear hK K;refine normZ (some 17) ?_
 refine one_ (i:=5) (N:=some 18) #[true,true,true,true,true,true,false] rfl rfl (by kernel_rfl) (by decide) (fun K hK=>?_)
 refine R_append_rows_step k104 (w0:=w) w.heap.size (by rfl) (.tmp 13) (.tmp 17) 75 104 (.agg #[(.string ⟨#[]⟩),(.int .i64 0),(.int .i64 0),(.int .i64 0),(.int .i64 0),(.string ⟨#[]⟩),(.string ⟨#[]⟩)]) 80 rfl Try.underlying75 info104 rfl (by decide) (by omega) b1 Y J _ _ _ (fun k_=>some k_≠(.slice b8 J.length b9:Value).ownBlock) (fun _=>False) rfl rfl ?aO ?aR (fun _ _ h=>h) (fun _ h=>h.elim) ?aF ?aB ?aS ?aL ?_
 (case aR=>exact rX a3)
 (case aB=>exact cB)
 (case aF=>exact(fun k_ hk=>Kd.fresh' (R_lt (mR a3)) k_ hk))
 (case aO=>exact(by exact rM o (fun _ hk=>hk.2)))
 (case aS=>exact(below_size cB))
 (case aL=>have:=b0.out;omega)
 intro cM cN ho hb hg hat;rw[← bx.out]at ho
 replace a:=kN a hg o a
 replace L:=aM (R_over' (mR L) (R_typed (mR o)) (by decide) hg)
 replace a3:=aM (R_after (ok:=(fun _=>True)) (mR a3) hg hat)
 replace HB:=aM hb;have ca:=aM ho;clear o ho hb hg hat
 refine hK.out _ _ qh12x0 (fun hHeld=>?_)
 clear hK K;refine normZ (some 18) ?_
 refine pure_ (i:=6) (N:=some 2) (v:=?_) (a':=?_) #[true,true,true,true,true,true,true] rfl rfl (by kernel_rfl) (fun _ _ _ h=>h) (Or.inl ⟨by rfl,?_⟩) ?_ ?_
 rotate_left
 ·intro w';go_simp;with_reducible rfl
 rotate_left
 ·simp only[Act.put,List.setIfInBounds_toArray,List.set_cons_zero,List.set_cons_succ,i64_w,i32_w];rfl
 refine done_ (by kernel_rfl) ?_
 try go_wp2
 go_ret
 exact⟨_,rE,by(with_reducible repeat(first|apply R_alloc|apply R_drewN|apply R_drew));exact R_mono ca.out (fun _ hk=>trivial),cB⟩
def impl_Ins_asks.f (b:Int) (c:Int) (d:Int) (u:Int):Option (Bool):=(impl_within.f b 3 6).bind fun bC=>(some bC)
set_option maxHeartbeats 8000000 in
set_option maxRecDepth 100000 in
theorem impl_Ins_asks.calls {b:Int}{c:Int}{d:Int}{u:Int}{r:Bool}{w:World}(h:impl_Ins_asks.f b c d u=some r) :
 Calls Try.prog 40 #[.agg #[.int .i64 b,.int .i64 c,.int .i64 d,.int .i64 u]] w fun e w'=>e= .returned (.bool r)∧Below w.heap.size w w':=by
 have hu34:=Try.underlying34;have HB:=rW w
 unfold impl_Ins_asks.f at h;have H:=h
 clear h;replace H:=bE H;obtain⟨bC,bk,H⟩:=H;obtain rfl:=Option.some.inj H;go_enter Try.func40,Try.ntmps40
 go_wp2_with (first|((with_reducible refine gN 1 ?_);refine boxZ 1 #[.int .i64 b,.int .i64 c,.int .i64 d,.int .i64 u] 34 ?_;intro cO hg cP hbox hb;have cb:=aM hbox;have GW720:=gS hg;have GE720:=gS hg;replace HB:=sB hb;clear hb hbox hg;obtain⟨cQ,cR,cS,cT,cU,cV,cW,cX⟩:=cz4 cb)|((with_reducible refine gF 68 ?_);refine gX (some 5) Try.func68 (impl_within.calls bk.out) ?_;rintro w' ⟨nd,rfl⟩))
 go_ret;exact⟨rE,cB⟩
def impl_Line_isPlace.f (b:ByteArray) (c:Int) (d:Int) (u:Int) (bb:Int) (bd:ByteArray) (be:ByteArray):Option (Bool):=some (c == 0)
set_option maxHeartbeats 8000000 in
set_option maxRecDepth 100000 in
theorem impl_Line_isPlace.calls {b:ByteArray}{c:Int}{d:Int}{u:Int}{bb:Int}{bd:ByteArray}{be:ByteArray}{r:Bool}{w:World}(h:impl_Line_isPlace.f b c d u bb bd be=some r) :
 Calls Try.prog 90 #[.agg #[.string b,.int .i64 c,.int .i64 d,.int .i64 u,.int .i64 bb,.string bd,.string be]] w fun e w'=>e= .returned (.bool r)∧Below w.heap.size w w':=by
 have hu104:=Try.underlying104;have HB:=rW w;have H:(some (c == 0))=some r:=h;clear h;obtain rfl:=Option.some.inj H;go_enter Try.func90,Try.ntmps90
 go_wp2_with (first|((with_reducible refine gN 1 ?_);refine boxZ 1 #[.string b,.int .i64 c,.int .i64 d,.int .i64 u,.int .i64 bb,.string bd,.string be] 104 ?_;intro cY hg cZ hbox hb;have cc:=aM hbox;have GW722:=gS hg;have GE722:=gS hg;replace HB:=sB hb;clear hb hbox hg;obtain⟨c0,c1,c4,c7,c8,da,db,dc,dd,de,df,dg,dh,di⟩:=cz7 cc))
 go_ret;exact⟨rE,cB⟩
def impl_placeOf.l0:Nat→List (S104)→ByteArray→Int→Option (Int)
  | 0,_,_,_=>none
  | k+1,q,O,j=>if j<(q.length:Int)then(if 0≤j then((impl_Line_isPlace.f ((rd_T104 q j).f0) ((rd_T104 q j).f1.f0) ((rd_T104 q j).f1.f1) ((rd_T104 q j).f1.f2) ((rd_T104 q j).f1.f3) ((rd_T104 q j).f2) ((rd_T104 q j).f3)).bind fun bm=>(if bm=true then(if((rd_T104 q j).f0).toList=O.toList then(some j)else(impl_placeOf.l0 k q O (wrap64 (j+1))))else(impl_placeOf.l0 k q O (wrap64 (j+1)))))else(none))else(some (-1))
def impl_placeOf.f (k:Nat) (g:List (S104)) (U:ByteArray) (l:Int):Option (Int):=impl_placeOf.l0 k g U (wrap64 (l+1))
set_option maxHeartbeats 8000000 in
set_option maxRecDepth 100000 in
theorem impl_placeOf.calls {k:Nat}{a4:Option Addr}{a5:Nat}{g:List (S104)}{U:ByteArray}{l:Int}{r:Int}{w:World}(h:impl_placeOf.f k g U l=some r)(a6:Kd.C k104 w a4 g.length g)(a7:g.length≤a5) :
 Calls Try.prog 110 #[.slice a4 g.length a5,.string U,.int .i64 l] w fun e w'=>e= .returned (.int .i64 r)∧Below w.heap.size w w':=by
 have hu104:=Try.underlying104;have HR0:=aM a6;have HC0:=aM a7;clear a6 a7;have HB:=rW w;have H:(impl_placeOf.l0 k g U (wrap64 (l+1)))=some r:=h;clear h;have H':=aM H;clear H;go_enter Try.func110,Try.ntmps110;go_wp2
 go_loopg [7] k (fun kq cd w'=> ∃ (p:Int),cd= .int .i64 p∧Aside0 (impl_placeOf.l0 kq g U p=some r)∧Aside0 (kq≤k)∧Aside0 (Below w.heap.size w w'))
 case atStart=>exact⟨(wrap64 (l+1)),rS,H',⟨Nat.le_refl _⟩,⟨cB⟩⟩
 case round=>
  clear H';obtain⟨p,rfl,HA,HK1,HB⟩:=hrel
  cases gk with
  | zero=>exact absurd HA.out (by simp[impl_placeOf.l0])
  | succ k1=>
   have H:=HA.out;clear HA;simp only[impl_placeOf.l0]at H;by_cases X:p<(g.length:Int)
   ·rw[if_pos X]at H;have ce:=decide_eq_true X;clear X;replace H:=gD H;obtain⟨dj,H⟩:=H;replace H:=bE H;obtain⟨bm,aU,H⟩:=H;by_cases s:bm=true
    ·subst s;replace H:=iT H;by_cases a8:((rd_T104 g p).f0).toList=U.toList
     ·rw[if_pos a8]at H;obtain⟨bD,cf⟩:=eT a8;clear a8;obtain rfl:=Option.some.inj H;obtain⟨bF,bG,bf,a9,bH,bI,bJ,bL,bM,bN,bO⟩:=b7 HB (at_T104 HR0.out p);cases a9
      go_wp2_with (first|((with_reducible refine gF 90 ?_);refine gX (some 20) Try.func90 (impl_Line_isPlace.calls aU.out) ?_;intro dk hb;replace HB:=sB hb;(try clear hb);obtain⟨cg,ch,bn,bo,ci,cj,ck,cl,cm,cn,co⟩:=b7 HB (at_T104 HR0.out p);obtain rfl:bf=bn:=(by injection bo)))
      go_ret;exact⟨rE,cB⟩
     ·rw[if_neg a8]at H;obtain⟨bD,cf⟩:=eF a8;have H':=aM H;clear H;obtain⟨bF,bG,bf,a9,bH,bI,bJ,bL,bM,bN,bO⟩:=b7 HB (at_T104 HR0.out p);cases a9
      go_wp2_with (first|((with_reducible refine gF 90 ?_);refine gX (some 20) Try.func90 (impl_Line_isPlace.calls aU.out) ?_;intro dl hb;replace HB:=sB hb;(try clear hb);obtain⟨cg,ch,bn,bo,ci,cj,ck,cl,cm,cn,co⟩:=b7 HB (at_T104 HR0.out p);obtain rfl:bf=bn:=(by injection bo)))
      go_roundg k1
      case measure=>exact oK
      case rel=>exact⟨(wrap64 (p+1)),rS,H',⟨oK⟩,⟨cB⟩⟩
    ·replace s:=Bool.eq_false_iff.mpr s;subst s;replace H:=iF H;have H':=aM H;clear H;obtain⟨bF,bG,bf,a9,bH,bI,bJ,bL,bM,bN,bO⟩:=b7 HB (at_T104 HR0.out p);cases a9
     go_wp2_with (first|((with_reducible refine gF 90 ?_);refine gX (some 20) Try.func90 (impl_Line_isPlace.calls aU.out) ?_;intro bz hb;replace HB:=sB hb;(try clear hb)))
     go_roundg k1
     case measure=>exact oK
     case rel=>exact⟨(wrap64 (p+1)),rS,H',⟨oK⟩,⟨cB⟩⟩
   ·rw[if_neg X]at H;have ce:=decide_eq_false X;clear X;obtain rfl:=Option.some.inj H;go_wp2;go_ret;exact⟨rE,cB⟩
def impl_between.l0:Nat→List Int→Int→Int→Int→Option (Int)
  | 0,_,_,_,_=>none
  | k+1,O,bP,bQ,ba=>if ba<bQ then(if 0≤ba then(if ba<(O.length:Int)then(impl_between.l0 k O (wrap64 (bP+(rd O ba))) bQ (wrap64 (ba+1)))else(none))else(none))else(some bP)
def impl_between.f (k:Nat) (g:List (S104)) (t:List Int) (l:Int) (bg:ByteArray):Option (Int):=(impl_placeOf.f k g bg l).bind fun bh=>(impl_between.l0 k t 0 bh (wrap64 (l+1)))
set_option maxHeartbeats 8000000 in
set_option maxRecDepth 100000 in
theorem impl_between.calls {k:Nat}{a4:Option Addr}{a5:Nat}{g:List (S104)}{bR:Option Addr}{bp:Nat}{t:List Int}{l:Int}{bg:ByteArray}{r:Int}{w:World}(h:impl_between.f k g t l bg=some r)(a6:Kd.C k104 w a4 g.length g)(a7:g.length≤a5)(bS:Kd.C (Kd.int .i64) w bR t.length t)(bT:t.length≤bp) :
 Calls Try.prog 91 #[.slice a4 g.length a5,.slice bR t.length bp,.int .i64 l,.string bg] w fun e w'=>e= .returned (.int .i64 r)∧Below w.heap.size w w':=by
 have HR0:=aM a6;have HC0:=aM a7;clear a6 a7;have HR1:=aM bS;have HC1:=aM bT;clear bS bT;have HB:=rW w
 unfold impl_between.f at h;have H:=h
 clear h;replace H:=bE H;obtain⟨bh,bl,H⟩:=H;have H':=aM H;clear H;go_enter Try.func91,Try.ntmps91
 go_wp2_with (first|((with_reducible refine gF 110 ?_);refine gX (some 15) Try.func110 (impl_placeOf.calls bl.out (cC HR0.out) HC0.out) ?_;intro dm hb;replace HB:=sB hb;(try clear hb)))
 go_loopg [9,11] k (fun kq cp cq w'=> ∃ (bi:Int) (x:Int),cp= .int .i64 bi∧cq= .int .i64 x∧Aside0 (impl_between.l0 kq t bi bh x=some r)∧Aside0 (kq≤k)∧Aside0 (Below w.heap.size w w'))
 case atStart=>exact⟨(0),(wrap64 (l+1)),rS,rS,H',⟨Nat.le_refl _⟩,⟨cB⟩⟩
 case round=>
  clear H';(try clear bp);obtain⟨bi,x,rfl,rfl,HA,HK1,HB⟩:=hrel
  cases gk with
  | zero=>exact absurd HA.out (by simp[impl_between.l0])
  | succ k1=>
   have H:=HA.out;clear HA;simp only[impl_between.l0]at H;by_cases s:x<bh
   ·rw[if_pos s]at H;have cr:=decide_eq_true s;clear s;replace H:=gD H;obtain⟨bD,H⟩:=H;replace H:=gD H;obtain⟨dn,H⟩:=H;have H':=aM H;clear H;have bq:0≤(x:Int):=dA;have br:x<(t.length:Int):=dA;obtain⟨dp,cs,bU⟩:=at_int HR1.out x bq br;cases cs;replace bU:=(bc HB bU :);replace bq:=eq_true bq;replace br:=eq_true br;go_wp2;go_roundg k1
    case measure=>exact oK
    case rel=>exact⟨(wrap64 (bi+(rd t x))),(wrap64 (x+1)),rS,rS,H',⟨oK⟩,⟨cB⟩⟩
   ·rw[if_neg s]at H;have cr:=decide_eq_false s;clear s;obtain rfl:=Option.some.inj H;go_wp2;go_ret;exact⟨rE,cB⟩
end Go.Proofs.Ytpbalojiaghfhaa.PFnCompilesSmall
