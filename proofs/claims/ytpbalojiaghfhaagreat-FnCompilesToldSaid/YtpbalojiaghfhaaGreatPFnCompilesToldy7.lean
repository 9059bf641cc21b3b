import Derived.Test.YtpbalojiaghfhaaGreatPFnCompilesToldy0
import Derived.Test.YtpbalojiaghfhaaGreatPFnCompilesToldy3
import Derived.Test.YtpbalojiaghfhaaGreatPFnCompilesToldy6
namespace Go.Proofs.YtpbalojiaghfhaaGreat.PFnCompilesTold
open Go.RowKit Go.Proofs.YtpbalojiaghfhaaGreatW.PrintWords Go.Proofs.YtpbalojiaghfhaaGreatW.PrintLast Go.Proofs.YtpbalojiaghfhaaGreatW.PrintMore Go.Proofs.YtpbalojiaghfhaaGreatW.Z
open Kd
attribute [local go_sem] isS max2_int min2_int max_two min_two max_three min_three max_four min_four
set_option linter.unusedVariables false
set_option linter.unusedSimpArgs false
theorem qh7x0 {P:Prop} (h:P:=by exact⟨(blk_cell a.out 0).trans rfl,(blk_cell a.out 1).trans rfl,(blk_cell a.out 2).trans rfl,(blk_cell a.out 3).trans rfl⟩):P:=h
def impl_PolicyLines.f (k:Nat) (d:Int) (g:Int) (j:Int) (b:List (S78)):Option ((List (S86))):=(impl_word.f 1 1).bind fun m=>((impl_ask.f 3 d (⟨#[112]⟩ :ByteArray) (⟨#[113]⟩ :ByteArray)).bind fun o=>((impl_place.f (⟨#[113]⟩ :ByteArray)).bind fun p=>((impl_word.f 8 0).bind fun q=>((impl_place.f (⟨#[112]⟩ :ByteArray)).bind fun s=>((impl_word.f 1 0).bind fun t=>((some (([(⟨m.1,(⟨m.2.1,m.2.2.1,m.2.2.2.1,m.2.2.2.2.1⟩ :S71),m.2.2.2.2.2.1,m.2.2.2.2.2.2⟩ :S86),(⟨o.1,(⟨o.2.1,o.2.2.1,o.2.2.2.1,o.2.2.2.2.1⟩ :S71),o.2.2.2.2.2.1,o.2.2.2.2.2.2⟩ :S86),(⟨p.1,(⟨p.2.1,p.2.2.1,p.2.2.2.1,p.2.2.2.2.1⟩ :S71),p.2.2.2.2.2.1,p.2.2.2.2.2.2⟩ :S86),(⟨q.1,(⟨q.2.1,q.2.2.1,q.2.2.2.1,q.2.2.2.2.1⟩ :S71),q.2.2.2.2.2.1,q.2.2.2.2.2.2⟩ :S86),(⟨s.1,(⟨s.2.1,s.2.2.1,s.2.2.2.1,s.2.2.2.2.1⟩ :S71),s.2.2.2.2.2.1,s.2.2.2.2.2.2⟩ :S86),(⟨t.1,(⟨t.2.1,t.2.2.1,t.2.2.2.1,t.2.2.2.2.1⟩ :S71),t.2.2.2.2.2.1,t.2.2.2.2.2.2⟩ :S86)] :List (S86)):List (S86))).bind fun z=>((impl_NumsOf.f k d g j b).bind fun aV=>((impl_TreeLines.f k d g j b aV (⟨#[116]⟩ :ByteArray)).bind fun u=>(if z.length+u.length<1759218604441 then(some (z ++ u))else(none))))))))))
def impl_PolicyLines.T1:Bool×List (List Nat×List Nat):=(true,[([],[]),([],[]),([1],[1]),([2,0],[2]),([3],[]),([4],[]),([5],[]),([6],[]),([0,3,4,5,6,7],[0,3,4,5,6,7]),([8,7,0,1,2,3,4,5,6,7,8],[8])])
def impl_PolicyLines.B1:List Nat:=[0,0,2,7,15,31,63,127,255,511]
theorem impl_PolicyLines.tab1:rtab .any (opsOf Tryz.f23 1)=impl_PolicyLines.T1:=by kernel_rfl
theorem impl_PolicyLines.bits1:waitsOk impl_PolicyLines.T1.2 impl_PolicyLines.B1=true:=by kernel_rfl
theorem q7x0 {P:Prop} (h:P:=by
 rintro w' ⟨s0,s1,s2,s3⟩
 go_simp
 with_reducible rfl):P:=h
set_option maxHeartbeats 8000000 in
set_option maxRecDepth 100000 in
theorem impl_PolicyLines.calls {k:Nat}{d:Int}{g:Int}{j:Int}{A:Option Addr}{D:Nat}{b:List (S78)}{r:List (S86)}{w:World}(h:impl_PolicyLines.f k d g j b=some r)(aY:Kd.C k78 w A b.length b)(aZ:b.length≤D) :
 Calls Tryz.prog 23 #[.agg #[.int .i64 d,.int .i64 g,.int .i64 j,.slice A b.length D]] w fun e w'=> ∃ v0_:Value,e= .returned (v0_)∧Kd.R k86 86 w' w.heap.size (fun _=>True) v0_ r∧Below w.heap.size w w':=by
 have hu26:=Tryz.underlying26;have HR0_3:=aM aY;have HC0_3:=aM aZ;clear aY aZ;have HB:=rW w
 unfold impl_PolicyLines.f at h;have H:=h
 clear h;replace H:=bE H;obtain⟨⟨E,G,I,J,L,O,U⟩,a6,H⟩:=H;(try dsimp only at H);replace H:=bE H;obtain⟨⟨W,X,Y,aa,ab,ac,ad⟩,aP,H⟩:=H;(try dsimp only at H);replace H:=bE H;obtain⟨⟨ae,af,ag,ah,ai,aj,ak⟩,a7,H⟩:=H;(try dsimp only at H);replace H:=bE H;obtain⟨⟨al,am,an,ao,ap,aq,ar⟩,aW,H⟩:=H;(try dsimp only at H);replace H:=bE H;obtain⟨⟨au,av,aw,ax,ay,az,aA⟩,a8,H⟩:=H;(try dsimp only at H);replace H:=bE H;obtain⟨⟨aC,aD,aE,aG,aH,aI,aJ⟩,a9,H⟩:=H;(try dsimp only at H);replace H:=nE H;obtain⟨z,a0,H⟩:=H;replace H:=bE H;obtain⟨aV,ba,H⟩:=H;replace H:=bE H;obtain⟨u,bb,H⟩:=H;replace H:=gC H;obtain⟨a1,H⟩:=H;have bd:=aM a1;clear a1;obtain⟨bk,a2⟩ : ∃ y_:List (S86),Aside0 (y_=(z ++ u)):=⟨_,⟨rfl⟩⟩;rw[← a2.out]at H;obtain rfl:=Option.some.inj H;go_enter Tryz.func23,Tryz.ntmps23
 try go_wp2_with (first|((with_reducible refine gN 1 ?_);refine boxZ 1 #[.int .i64 d,.int .i64 g,.int .i64 j,.slice A b.length D] 26 ?_;intro l hg be hbox hb;have a:=aM hbox;have GW441:=gS hg;have GE441:=gS hg;replace HB:=sB hb;clear hb hbox hg))
 replace a:=dB a;replace HB:=dW HB
 refine sZ 10 (fun w'=>w'.cell? ⟨l,0,none⟩=some (.int .i64 d)∧w'.cell? ⟨l,1,none⟩=some (.int .i64 g)∧w'.cell? ⟨l,2,none⟩=some (.int .i64 j)∧w'.cell? ⟨l,3,none⟩=some (.slice A b.length D)) impl_PolicyLines.tab1 impl_PolicyLines.bits1 qh7x0 fun HT_ HW_ hHeld=>?_
 generalize be.drew=bl at a HB hHeld ⊢;refine pureZ 1 (some 5) (msk 10 2) HT_.out ?_;refine takeZ 2 (some 6) (msk 10 6) HT_.out HW_.out hHeld (hy:=q7x0) (h:=?_)
 refine one_Z 0 (some 4) (msk 10 7) HT_.out fun K hK=>?_
 refine eX Tryz.func56 (impl_word.calls a6.out) ?_
 intro bm hb;replace a:=kB a hb;replace HB:=sB hb;(try clear hb)
 refine hK.out _ _ qh7x0 (fun hHeld=>?_)
 clear hK K;refine normZ (some 4) ?_
 refine one_Z 3 (some 7) (msk 10 15) HT_.out fun K hK=>?_
 refine eX Tryz.func61 (impl_ask.calls aP.out) ?_
 intro bn hb;replace a:=kB a hb;replace HB:=sB hb;(try clear hb)
 refine hK.out _ _ qh7x0 (fun hHeld=>?_)
 clear hK K;refine normZ (some 7) ?_
 refine one_Z 4 (some 8) (msk 10 31) HT_.out fun K hK=>?_
 refine eX Tryz.func55 (impl_place.calls a7.out) ?_
 intro bo hb;replace a:=kB a hb;replace HB:=sB hb;(try clear hb)
 refine hK.out _ _ qh7x0 (fun hHeld=>?_)
 clear hK K;refine normZ (some 8) ?_
 refine one_Z 5 (some 9) (msk 10 63) HT_.out fun K hK=>?_
 refine eX Tryz.func56 (impl_word.calls aW.out) ?_
 intro bp hb;replace a:=kB a hb;replace HB:=sB hb;(try clear hb)
 refine hK.out _ _ qh7x0 (fun hHeld=>?_)
 clear hK K;refine normZ (some 9) ?_
 refine one_Z 6 (some 10) (msk 10 127) HT_.out fun K hK=>?_
 refine eX Tryz.func55 (impl_place.calls a8.out) ?_
 intro bq hb;replace a:=kB a hb;replace HB:=sB hb;(try clear hb)
 refine hK.out _ _ qh7x0 (fun hHeld=>?_)
 clear hK K;refine normZ (some 10) ?_
 refine one_Z 7 (some 11) (msk 10 255) HT_.out fun K hK=>?_
 refine eX Tryz.func56 (impl_word.calls a9.out) ?_
 intro br hb;replace a:=kB a hb;replace HB:=sB hb;(try clear hb)
 refine hK.out _ _ qh7x0 (fun hHeld=>?_)
 clear hK K;refine normZ (some 11) ?_
 refine one_Z 8 (some 12) (msk 10 511) HT_.out fun K hK=>?_
 refine R_lit_step k86 _ 86 ?hg (N:=12) ?hd (xs:=([(⟨E,(⟨G,I,J,L⟩ :S71),O,U⟩ :S86),(⟨W,(⟨X,Y,aa,ab⟩ :S71),ac,ad⟩ :S86),(⟨ae,(⟨af,ag,ah,ai⟩ :S71),aj,ak⟩ :S86),(⟨al,(⟨am,an,ao,ap⟩ :S71),aq,ar⟩ :S86),(⟨au,(⟨av,aw,ax,ay⟩ :S71),az,aA⟩ :S86),(⟨aC,(⟨aD,aE,aG,aH⟩ :S71),aI,aJ⟩ :S86)] :List (S86))) (inner:=[.string E,.int .i64 G,.int .i64 I,.int .i64 J,.int .i64 L,.string O,.string U,.string W,.int .i64 X,.int .i64 Y,.int .i64 aa,.int .i64 ab,.string ac,.string ad,.string ae,.int .i64 af,.int .i64 ag,.int .i64 ah,.int .i64 ai,.string aj,.string ak,.string al,.int .i64 am,.int .i64 an,.int .i64 ao,.int .i64 ap,.string aq,.string ar,.string au,.int .i64 av,.int .i64 aw,.int .i64 ax,.int .i64 ay,.string az,.string aA,.string aC,.int .i64 aD,.int .i64 aE,.int .i64 aG,.int .i64 aH,.string aI,.string aJ]) (ok:=fun _=>True) (okp:=fun _=>True) ?hr ?hp (fun _ hk=>hk) trivial (Below.refl _ _) (Nat.le_refl _) (by simp) ?_;(case hd=>rfl);(case hg=>rfl);(case hr=>first|(go_simp;done)|(go_simp;rfl));(case hp=>exact(Reps.c7 (show Kd.M k86 _ _ _ (⟨E,(⟨G,I,J,L⟩ :S71),O,U⟩ :S86) [.string E,.int .i64 G,.int .i64 I,.int .i64 J,.int .i64 L,.string O,.string U]from (k86_mkM _ _ _ (⟨E,(⟨G,I,J,L⟩ :S71),O,U⟩ :S86))) (Reps.c7 (show Kd.M k86 _ _ _ (⟨W,(⟨X,Y,aa,ab⟩ :S71),ac,ad⟩ :S86) [.string W,.int .i64 X,.int .i64 Y,.int .i64 aa,.int .i64 ab,.string ac,.string ad]from (k86_mkM _ _ _ (⟨W,(⟨X,Y,aa,ab⟩ :S71),ac,ad⟩ :S86))) (Reps.c7 (show Kd.M k86 _ _ _ (⟨ae,(⟨af,ag,ah,ai⟩ :S71),aj,ak⟩ :S86) [.string ae,.int .i64 af,.int .i64 ag,.int .i64 ah,.int .i64 ai,.string aj,.string ak]from (k86_mkM _ _ _ (⟨ae,(⟨af,ag,ah,ai⟩ :S71),aj,ak⟩ :S86))) (Reps.c7 (show Kd.M k86 _ _ _ (⟨al,(⟨am,an,ao,ap⟩ :S71),aq,ar⟩ :S86) [.string al,.int .i64 am,.int .i64 an,.int .i64 ao,.int .i64 ap,.string aq,.string ar]from (k86_mkM _ _ _ (⟨al,(⟨am,an,ao,ap⟩ :S71),aq,ar⟩ :S86))) (Reps.c7 (show Kd.M k86 _ _ _ (⟨au,(⟨av,aw,ax,ay⟩ :S71),az,aA⟩ :S86) [.string au,.int .i64 av,.int .i64 aw,.int .i64 ax,.int .i64 ay,.string az,.string aA]from (k86_mkM _ _ _ (⟨au,(⟨av,aw,ax,ay⟩ :S71),az,aA⟩ :S86))) (Reps.c7 (show Kd.M k86 _ _ _ (⟨aC,(⟨aD,aE,aG,aH⟩ :S71),aI,aJ⟩ :S86) [.string aC,.int .i64 aD,.int .i64 aE,.int .i64 aG,.int .i64 aH,.string aI,.string aJ]from (k86_mkM _ _ _ (⟨aC,(⟨aD,aE,aG,aH⟩ :S71),aI,aJ⟩ :S86))) (Reps.none _ _))))))))
 intro bf bg aK hb hg_ hnew_;clear hg_ hnew_
 (first|rw[← a0.out]at aK|(simp only[Int.reduceToNat]at aK;rw[← a0.out]at aK))
 have c:=rL aK;replace a:=kB a hb;replace HB:=sB hb;clear hb aK
 refine hK.out _ _ qh7x0 (fun hHeld=>?_)
 clear hK K;refine normZ (some 12) ?_
 refine pureZ 9 (some 3) (msk 10 1023) HT_.out ?_
 refine done_ (done_of HT_.out (by kernel_rfl)) ?_
 try go_wp2
 replace c:=dR c;replace a:=dB a;replace HB:=dW HB
 refine start_ (n:=7) (S:=fun w'=>w'.cell? ⟨l,0,none⟩=some (.int .i64 d)∧w'.cell? ⟨l,1,none⟩=some (.int .i64 g)∧w'.cell? ⟨l,2,none⟩=some (.int .i64 j)∧w'.cell? ⟨l,3,none⟩=some (.slice A b.length D)) (ds:=[]) #[false,false,false,false,false,false,false] (by kernel_rfl) rfl rfl ⟨(blk_cell a.out 0).trans rfl,(blk_cell a.out 1).trans rfl,(blk_cell a.out 2).trans rfl,(blk_cell a.out 3).trans rfl⟩ (fun hHeld=>?_)
 generalize bg.drew=bs at c a HB hHeld ⊢
 refine pure_ (i:=0) (N:=some 13) (v:=?_) (a':=?_) #[true,false,false,false,false,false,false] rfl rfl (by kernel_rfl) (fun _ _ _ h=>h) (Or.inl ⟨by rfl,?_⟩) ?_ ?_
 rotate_left
 ·intro w';go_simp;with_reducible rfl
 rotate_left
 ·simp only[Act.put,List.setIfInBounds_toArray,List.set_cons_zero,List.set_cons_succ,i64_w,i32_w];rfl
 refine take_ (i:=1) (N:=some 14) (v:=?_) (a':=?_) #[true,true,false,false,false,false,false] rfl rfl (by kernel_rfl) (fun _ _ _ h=>h) (Or.inl ⟨by rfl,?_⟩) hHeld ?_ ?_
 rotate_left
 ·rintro w' ⟨s0,s1,s2,s3⟩;go_simp;with_reducible rfl
 rotate_left
 ·simp only[Act.put,List.setIfInBounds_toArray,List.set_cons_zero,List.set_cons_succ,i64_w,i32_w];rfl
 refine take_ (i:=2) (N:=some 15) (v:=?_) (a':=?_) #[true,true,true,false,false,false,false] rfl rfl (by kernel_rfl) (fun _ _ _ h=>h) (Or.inl ⟨by rfl,?_⟩) hHeld ?_ ?_
 rotate_left
 ·rintro w' ⟨s0,s1,s2,s3⟩;go_simp;with_reducible rfl
 rotate_left
 ·simp only[Act.put,List.setIfInBounds_toArray,List.set_cons_zero,List.set_cons_succ,i64_w,i32_w];rfl
 refine one_ (i:=3) (N:=some 16) #[true,true,true,true,false,false,false] rfl rfl (by kernel_rfl) (by decide) (fun K hK=>?_)
 refine eY Tryz.func26 (impl_NumsOf.calls ba.out (cH HR0_3) HC0_3.out) ?_
 rintro bu bv ⟨y,hb⟩;replace c:=rB c hb;have x:=rL y;replace a:=kB a hb;replace HB:=sB hb;(try clear hb);(try clear y);obtain⟨bw,bx,a3⟩:=R_slice x.out
 (first|subst a3|(injection a3 with f1_ f2_ f3_;have f4_:=f1_.symm;have f5_:=f3_.symm;clear f1_ f2_ f3_;subst f4_;subst f5_))
 refine hK.out _ _ qh7x0 (fun hHeld=>?_)
 clear hK K;refine normZ (some 16) ?_
 refine one_ (i:=4) (N:=some 17) #[true,true,true,true,true,false,false] rfl rfl (by kernel_rfl) (by decide) (fun K hK=>?_)
 refine eY Tryz.func21 (impl_TreeLines.calls k d g j _ _ b _ _ aV (⟨#[116]⟩ :ByteArray) u _ (cH HR0_3) HC0_3.out (rX x) ((rY x)) bb.out) ?_
 rintro bz bA ⟨y,hb⟩;replace x:=rB x hb;have aN:=aM (R_lower (R_new' y (R_lt (mR c))) (below_size cB));replace c:=eB c (R_base y) hb;replace a:=kB a hb;replace HB:=sB hb;(try clear hb);(try clear y);obtain⟨bh,bi,a4⟩:=R_slice aN.out
 (first|subst a4|(injection a4 with f1_ f2_ f3_;have f4_:=f1_.symm;have f5_:=f3_.symm;clear f1_ f2_ f3_;subst f4_;subst f5_))
 refine hK.out _ _ qh7x0 (fun hHeld=>?_)
 clear hK K;refine normZ (some 17) ?_
 refine one_ (i:=5) (N:=some 18) #[true,true,true,true,true,true,false] rfl rfl (by kernel_rfl) (by decide) (fun K hK=>?_)
 refine R_append_rows_step k86 (w0:=w) w.heap.size (by rfl) (.tmp 13) (.tmp 17) 47 86 (.agg #[(.string ⟨#[]⟩),(.int .i64 0),(.int .i64 0),(.int .i64 0),(.int .i64 0),(.string ⟨#[]⟩),(.string ⟨#[]⟩)]) 80 rfl Tryz.underlying47 info86 rfl (by decide) (by omega) bf z u _ _ _ (fun k_=>some k_≠(.slice bh u.length bi:Value).ownBlock) (fun _=>False) rfl rfl ?aO ?aR (fun _ _ h=>h) (fun _ h=>h.elim) ?aF ?aB ?aS ?aL ?_
 (case aR=>exact rX aN)
 (case aB=>exact cB)
 (case aF=>exact(fun k_ hk=>Kd.fresh' (R_lt (mR aN)) k_ hk))
 (case aO=>exact(by exact rM c (fun _ hk=>hk.2)))
 (case aS=>exact(below_size cB))
 (case aL=>have:=bd.out;omega)
 intro bB bC ho hb hg hat;rw[← a2.out]at ho
 replace a:=kN a hg c a
 replace x:=aM (R_over' (mR x) (R_typed (mR c)) (by decide) hg)
 replace aN:=aM (R_after (ok:=(fun _=>True)) (mR aN) hg hat)
 replace HB:=aM hb;have bj:=aM ho;clear c ho hb hg hat
 refine hK.out _ _ qh7x0 (fun hHeld=>?_)
 clear hK K;refine normZ (some 18) ?_
 refine pure_ (i:=6) (N:=some 2) (v:=?_) (a':=?_) #[true,true,true,true,true,true,true] rfl rfl (by kernel_rfl) (fun _ _ _ h=>h) (Or.inl ⟨by rfl,?_⟩) ?_ ?_
 rotate_left
 ·intro w';go_simp;with_reducible rfl
 rotate_left
 ·simp only[Act.put,List.setIfInBounds_toArray,List.set_cons_zero,List.set_cons_succ,i64_w,i32_w];rfl
 refine done_ (by kernel_rfl) ?_
 try go_wp2
 go_ret
 exact⟨_,rE,by(with_reducible repeat(first|apply R_alloc|apply R_drewN|apply R_drew));exact R_mono bj.out (fun _ hk=>trivial),cB⟩
def impl_actionOk.f (aQ:Int) (aT:Int):Option (Bool):=(impl_within.f aQ 0 5).bind fun aX=>(if aX=true then((impl_within.f aT 0 65535).bind fun a5=>(some a5))else(some false))
set_option maxHeartbeats 8000000 in
set_option maxRecDepth 100000 in
theorem impl_actionOk.calls {aQ:Int}{aT:Int}{r:Bool}{w:World}(h:impl_actionOk.f aQ aT=some r) :
 Calls Tryz.prog 76 #[.int .i64 aQ,.int .i64 aT] w fun e w'=>e= .returned (.bool r)∧Drawn0 w w':=by
 unfold impl_actionOk.f at h;have H:=h
 clear h;replace H:=bE H;obtain⟨aX,aP,H⟩:=H;by_cases aU:aX=true
 ·subst aU;replace H:=iT H;replace H:=bE H;obtain⟨a5,aW,H⟩:=H;obtain rfl:=Option.some.inj H;go_enter Tryz.func76,Tryz.ntmps76
  go_wp2_with (first|((with_reducible refine gF 81 ?_);refine gX (some 6) Tryz.func81 (impl_within.calls aP.out) ?_;rintro w' ⟨nd,rfl⟩)|(go_at_call 81;(with_reducible refine(impl_within.calls aW.out).mono ?_);rintro e w' ⟨rfl,⟨nd,rfl⟩⟩))
  go_ret
  exact⟨by first|rfl|(simp;done)|(simp[*];done),by repeat(first|exact Drawn0.refl _|apply Drawn0.step)⟩
 ·replace aU:=Bool.eq_false_iff.mpr aU;subst aU;replace H:=iF H;obtain rfl:=Option.some.inj H;go_enter Tryz.func76,Tryz.ntmps76
  go_wp2_with (first|((with_reducible refine gF 81 ?_);refine gX (some 6) Tryz.func81 (impl_within.calls aP.out) ?_;rintro w' ⟨nd,rfl⟩))
  go_ret
  exact⟨by first|rfl|(simp;done)|(simp[*];done),by repeat(first|exact Drawn0.refl _|apply Drawn0.step)⟩
end Go.Proofs.YtpbalojiaghfhaaGreat.PFnCompilesTold
