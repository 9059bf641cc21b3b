import Derived.Test.YtpbalojiaghfhaaGreatPFnCompilesToldy0
import Derived.Test.YtpbalojiaghfhaaGreatPFnCompilesToldy13
import Derived.Test.YtpbalojiaghfhaaGreatPFnCompilesToldy14
import Derived.Test.YtpbalojiaghfhaaGreatPFnCompilesToldy17
import Derived.Test.YtpbalojiaghfhaaGreatPFnCompilesToldy18
namespace Go.Proofs.YtpbalojiaghfhaaGreat.PFnCompilesTold
open Go.RowKit Go.Proofs.YtpbalojiaghfhaaGreatW.PrintWords Go.Proofs.YtpbalojiaghfhaaGreatW.PrintLast Go.Proofs.YtpbalojiaghfhaaGreatW.PrintMore Go.Proofs.YtpbalojiaghfhaaGreatW.Z
open Kd
attribute [local go_sem] isS max2_int min2_int max_two min_two max_three min_three max_four min_four
set_option linter.unusedVariables false
set_option linter.unusedSimpArgs false
theorem qh19x0 {P:Prop} (h:P:=by exact⟨(blk_cell a.out 0).trans rfl,(blk_cell a.out 1).trans rfl,(blk_cell a.out 2).trans rfl,(blk_cell a.out 3).trans rfl⟩):P:=h
def spec_PolicyLines.f (k:Nat) (d:Int) (g:Int) (j:Int) (b:List (S78)):Option ((List (S86))):=(spec_l11Word.f 1 1).bind fun m=>((spec_l11Asks.f 3 d (⟨#[112]⟩ :ByteArray) (⟨#[113]⟩ :ByteArray)).bind fun o=>((spec_l11Word.f 8 0).bind fun p=>((spec_l11Word.f 1 0).bind fun q=>((some (([(⟨m.1,(⟨m.2.1,m.2.2.1,m.2.2.2.1,m.2.2.2.2.1⟩ :S71),m.2.2.2.2.2.1,m.2.2.2.2.2.2⟩ :S86),(⟨o.1,(⟨o.2.1,o.2.2.1,o.2.2.2.1,o.2.2.2.2.1⟩ :S71),o.2.2.2.2.2.1,o.2.2.2.2.2.2⟩ :S86),(⟨(⟨#[113]⟩ :ByteArray),(⟨0,0,0,0⟩ :S71),(⟨#[]⟩ :ByteArray),(⟨#[]⟩ :ByteArray)⟩ :S86),(⟨p.1,(⟨p.2.1,p.2.2.1,p.2.2.2.1,p.2.2.2.2.1⟩ :S71),p.2.2.2.2.2.1,p.2.2.2.2.2.2⟩ :S86),(⟨(⟨#[112]⟩ :ByteArray),(⟨0,0,0,0⟩ :S71),(⟨#[]⟩ :ByteArray),(⟨#[]⟩ :ByteArray)⟩ :S86),(⟨q.1,(⟨q.2.1,q.2.2.1,q.2.2.2.1,q.2.2.2.2.1⟩ :S71),q.2.2.2.2.2.1,q.2.2.2.2.2.2⟩ :S86)] :List (S86)):List (S86))).bind fun x=>((spec_NumsOf.f k d g j b).bind fun ay=>((spec_TreeLines.f k d g j b ay (⟨#[116]⟩ :ByteArray)).bind fun s=>(if x.length+s.length<1759218604441 then(some (x ++ s))else(none))))))))
def spec_PolicyLines.T1:Bool×List (List Nat×List Nat):=(true,[([],[]),([],[]),([1],[1]),([2,0],[2]),([],[]),([3],[]),([],[]),([5],[]),([0,3,4,5,6,7],[0,3,4,5,6,7]),([8,7,0,1,2,3,4,5,6,7,8],[8])])
def spec_PolicyLines.B1:List Nat:=[0,0,2,7,0,15,0,47,255,511]
theorem spec_PolicyLines.tab1:rtab .any (opsOf Tryz.f24 1)=spec_PolicyLines.T1:=by kernel_rfl
theorem spec_PolicyLines.bits1:waitsOk spec_PolicyLines.T1.2 spec_PolicyLines.B1=true:=by kernel_rfl
theorem q19x0 {P:Prop} (h:P:=by
 rintro w' ⟨s0,s1,s2,s3⟩
 go_simp
 with_reducible rfl):P:=h
set_option maxHeartbeats 8000000 in
set_option maxRecDepth 100000 in
theorem spec_PolicyLines.calls {k:Nat}{d:Int}{g:Int}{j:Int}{y:Option Addr}{z:Nat}{b:List (S78)}{r:List (S86)}{w:World}(h:spec_PolicyLines.f k d g j b=some r)(aC:Kd.C k78 w y b.length b)(aD:b.length≤z) :
 Calls Tryz.prog 24 #[.agg #[.int .i64 d,.int .i64 g,.int .i64 j,.slice y b.length z]] w fun e w'=> ∃ v0_:Value,e= .returned (v0_)∧Kd.R k86 86 w' w.heap.size (fun _=>True) v0_ r∧Below w.heap.size w w':=by
 have hu26:=Tryz.underlying26;have hu86:=Tryz.underlying86;have HR0_3:=aM aC;have HC0_3:=aM aD;clear aC aD;have HB:=rW w
 unfold spec_PolicyLines.f at h;have H:=h
 clear h;replace H:=bE H;obtain⟨⟨A,D,E,G,I,J,L⟩,aN,H⟩:=H;(try dsimp only at H);replace H:=bE H;obtain⟨⟨O,U,W,X,Y,aa,ab⟩,au,H⟩:=H;(try dsimp only at H);replace H:=bE H;obtain⟨⟨ac,ad,ae,af,ag,ah,ai⟩,aP,H⟩:=H;(try dsimp only at H);replace H:=bE H;obtain⟨⟨aj,ak,al,am,an,ao,ap⟩,az,H⟩:=H;(try dsimp only at H);replace H:=nE H;obtain⟨x,aE,H⟩:=H;replace H:=bE H;obtain⟨ay,aQ,H⟩:=H;replace H:=bE H;obtain⟨s,aT,H⟩:=H;replace H:=gC H;obtain⟨aG,H⟩:=H;have aU:=aM aG;clear aG;obtain⟨a1,aH⟩ : ∃ y_:List (S86),Aside0 (y_=(x ++ s)):=⟨_,⟨rfl⟩⟩;rw[← aH.out]at H;obtain rfl:=Option.some.inj H;go_enter Tryz.func24,Tryz.ntmps24
 try go_wp2_with (first|((with_reducible refine gN 1 ?_);refine boxZ 1 #[.int .i64 d,.int .i64 g,.int .i64 j,.slice y b.length z] 26 ?_;intro l hg aV hbox hb;have a:=aM hbox;have GW943:=gS hg;have GE943:=gS hg;replace HB:=sB hb;clear hb hbox hg))
 replace a:=dB a;replace HB:=dW HB
 refine sZ 10 (fun w'=>w'.cell? ⟨l,0,none⟩=some (.int .i64 d)∧w'.cell? ⟨l,1,none⟩=some (.int .i64 g)∧w'.cell? ⟨l,2,none⟩=some (.int .i64 j)∧w'.cell? ⟨l,3,none⟩=some (.slice y b.length z)) spec_PolicyLines.tab1 spec_PolicyLines.bits1 qh19x0 fun HT_ HW_ hHeld=>?_
 generalize aV.drew=a2 at a HB hHeld ⊢;refine pureZ 1 (some 5) (msk 10 2) HT_.out ?_;refine pureZ 4 (some 8) (msk 10 18) HT_.out ?_;refine pureZ 6 (some 10) (msk 10 82) HT_.out ?_;refine takeZ 2 (some 6) (msk 10 86) HT_.out HW_.out hHeld (hy:=q19x0) (h:=?_)
 refine one_Z 0 (some 4) (msk 10 87) HT_.out fun K hK=>?_
 refine eX Tryz.func60 (spec_l11Word.calls aN.out) ?_
 intro a3 hb;replace a:=kB a hb;replace HB:=sB hb;(try clear hb)
 refine hK.out _ _ qh19x0 (fun hHeld=>?_)
 clear hK K;refine normZ (some 4) ?_
 refine one_Z 3 (some 7) (msk 10 95) HT_.out fun K hK=>?_
 refine eX Tryz.func62 (spec_l11Asks.calls au.out) ?_
 intro a4 hb;replace a:=kB a hb;replace HB:=sB hb;(try clear hb)
 refine hK.out _ _ qh19x0 (fun hHeld=>?_)
 clear hK K;refine normZ (some 7) ?_
 refine one_Z 5 (some 9) (msk 10 127) HT_.out fun K hK=>?_
 refine eX Tryz.func60 (spec_l11Word.calls aP.out) ?_
 intro a5 hb;replace a:=kB a hb;replace HB:=sB hb;(try clear hb)
 refine hK.out _ _ qh19x0 (fun hHeld=>?_)
 clear hK K;refine normZ (some 9) ?_
 refine one_Z 7 (some 11) (msk 10 255) HT_.out fun K hK=>?_
 refine eX Tryz.func60 (spec_l11Word.calls az.out) ?_
 intro a6 hb;replace a:=kB a hb;replace HB:=sB hb;(try clear hb)
 refine hK.out _ _ qh19x0 (fun hHeld=>?_)
 clear hK K;refine normZ (some 11) ?_
 refine one_Z 8 (some 12) (msk 10 511) HT_.out fun K hK=>?_
 refine R_lit_step k86 _ 86 ?hg (N:=12) ?hd (xs:=([(⟨A,(⟨D,E,G,I⟩ :S71),J,L⟩ :S86),(⟨O,(⟨U,W,X,Y⟩ :S71),aa,ab⟩ :S86),(⟨(⟨#[113]⟩ :ByteArray),(⟨0,0,0,0⟩ :S71),(⟨#[]⟩ :ByteArray),(⟨#[]⟩ :ByteArray)⟩ :S86),(⟨ac,(⟨ad,ae,af,ag⟩ :S71),ah,ai⟩ :S86),(⟨(⟨#[112]⟩ :ByteArray),(⟨0,0,0,0⟩ :S71),(⟨#[]⟩ :ByteArray),(⟨#[]⟩ :ByteArray)⟩ :S86),(⟨aj,(⟨ak,al,am,an⟩ :S71),ao,ap⟩ :S86)] :List (S86))) (inner:=[.string A,.int .i64 D,.int .i64 E,.int .i64 G,.int .i64 I,.string J,.string L,.string O,.int .i64 U,.int .i64 W,.int .i64 X,.int .i64 Y,.string aa,.string ab,.string (⟨#[113]⟩ :ByteArray),.int .i64 0,.int .i64 0,.int .i64 0,.int .i64 0,.string (⟨#[]⟩ :ByteArray),.string (⟨#[]⟩ :ByteArray),.string ac,.int .i64 ad,.int .i64 ae,.int .i64 af,.int .i64 ag,.string ah,.string ai,.string (⟨#[112]⟩ :ByteArray),.int .i64 0,.int .i64 0,.int .i64 0,.int .i64 0,.string (⟨#[]⟩ :ByteArray),.string (⟨#[]⟩ :ByteArray),.string aj,.int .i64 ak,.int .i64 al,.int .i64 am,.int .i64 an,.string ao,.string ap]) (ok:=fun _=>True) (okp:=fun _=>True) ?hr ?hp (fun _ hk=>hk) trivial (Below.refl _ _) (Nat.le_refl _) (by simp) ?_;(case hd=>rfl);(case hg=>rfl);(case hr=>first|(go_simp;done)|(go_simp;rfl));(case hp=>exact(Reps.c7 (show Kd.M k86 _ _ _ (⟨A,(⟨D,E,G,I⟩ :S71),J,L⟩ :S86) [.string A,.int .i64 D,.int .i64 E,.int .i64 G,.int .i64 I,.string J,.string L]from (k86_mkM _ _ _ (⟨A,(⟨D,E,G,I⟩ :S71),J,L⟩ :S86))) (Reps.c7 (show Kd.M k86 _ _ _ (⟨O,(⟨U,W,X,Y⟩ :S71),aa,ab⟩ :S86) [.string O,.int .i64 U,.int .i64 W,.int .i64 X,.int .i64 Y,.string aa,.string ab]from (k86_mkM _ _ _ (⟨O,(⟨U,W,X,Y⟩ :S71),aa,ab⟩ :S86))) (Reps.c7 (show Kd.M k86 _ _ _ (⟨(⟨#[113]⟩ :ByteArray),(⟨0,0,0,0⟩ :S71),(⟨#[]⟩ :ByteArray),(⟨#[]⟩ :ByteArray)⟩ :S86) [.string (⟨#[113]⟩ :ByteArray),.int .i64 0,.int .i64 0,.int .i64 0,.int .i64 0,.string (⟨#[]⟩ :ByteArray),.string (⟨#[]⟩ :ByteArray)]from (k86_mkM _ _ _ (⟨(⟨#[113]⟩ :ByteArray),(⟨0,0,0,0⟩ :S71),(⟨#[]⟩ :ByteArray),(⟨#[]⟩ :ByteArray)⟩ :S86))) (Reps.c7 (show Kd.M k86 _ _ _ (⟨ac,(⟨ad,ae,af,ag⟩ :S71),ah,ai⟩ :S86) [.string ac,.int .i64 ad,.int .i64 ae,.int .i64 af,.int .i64 ag,.string ah,.string ai]from (k86_mkM _ _ _ (⟨ac,(⟨ad,ae,af,ag⟩ :S71),ah,ai⟩ :S86))) (Reps.c7 (show Kd.M k86 _ _ _ (⟨(⟨#[112]⟩ :ByteArray),(⟨0,0,0,0⟩ :S71),(⟨#[]⟩ :ByteArray),(⟨#[]⟩ :ByteArray)⟩ :S86) [.string (⟨#[112]⟩ :ByteArray),.int .i64 0,.int .i64 0,.int .i64 0,.int .i64 0,.string (⟨#[]⟩ :ByteArray),.string (⟨#[]⟩ :ByteArray)]from (k86_mkM _ _ _ (⟨(⟨#[112]⟩ :ByteArray),(⟨0,0,0,0⟩ :S71),(⟨#[]⟩ :ByteArray),(⟨#[]⟩ :ByteArray)⟩ :S86))) (Reps.c7 (show Kd.M k86 _ _ _ (⟨aj,(⟨ak,al,am,an⟩ :S71),ao,ap⟩ :S86) [.string aj,.int .i64 ak,.int .i64 al,.int .i64 am,.int .i64 an,.string ao,.string ap]from (k86_mkM _ _ _ (⟨aj,(⟨ak,al,am,an⟩ :S71),ao,ap⟩ :S86))) (Reps.none _ _))))))))
 intro aW aX aq hb hg_ hnew_;clear hg_ hnew_
 (first|rw[← aE.out]at aq|(simp only[Int.reduceToNat]at aq;rw[← aE.out]at aq))
 have c:=rL aq;replace a:=kB a hb;replace HB:=sB hb;clear hb aq
 refine hK.out _ _ qh19x0 (fun hHeld=>?_)
 clear hK K;refine normZ (some 12) ?_
 refine pureZ 9 (some 3) (msk 10 1023) HT_.out ?_
 refine done_ (done_of HT_.out (by kernel_rfl)) ?_
 try go_wp2
 replace c:=dR c;replace a:=dB a;replace HB:=dW HB
 refine start_ (n:=7) (S:=fun w'=>w'.cell? ⟨l,0,none⟩=some (.int .i64 d)∧w'.cell? ⟨l,1,none⟩=some (.int .i64 g)∧w'.cell? ⟨l,2,none⟩=some (.int .i64 j)∧w'.cell? ⟨l,3,none⟩=some (.slice y b.length z)) (ds:=[]) #[false,false,false,false,false,false,false] (by kernel_rfl) rfl rfl ⟨(blk_cell a.out 0).trans rfl,(blk_cell a.out 1).trans rfl,(blk_cell a.out 2).trans rfl,(blk_cell a.out 3).trans rfl⟩ (fun hHeld=>?_)
 generalize aX.drew=a7 at c a HB hHeld ⊢
 refine pure_ (i:=0) (N:=some 13) (v:=?_) (a':=?_) #[true,false,false,false,false,false,false] rfl rfl (by kernel_rfl) (fun _ _ _ h=>h) (Or.inl ⟨by rfl,?_⟩) ?_ ?_
 rotate_left
 ·intro w';go_simp;with_reducible rfl
 rotate_left
 ·simp only[Act.put,List.setIfInBounds_toArray,List.set_cons_zero,List.set_cons_succ,i64_w,i32_w];rfl
 refine take_ (i:=1) (N:=some 14) (v:=?_) (a':=?_) #[true,true,false,false,false,false,false] rfl rfl (by kernel_rfl) (fun _ _ _ h=>h) (Or.inl ⟨by rfl,?_⟩) hHeld ?_ ?_
 rotate_left
 ·rintro w' ⟨s0,s1,s2,s3⟩;go_simp;with_reducible rfl
 rotate_left
 ·simp only[Act.put,List.setIfInBounds_toArray,List.set_cons_zero,List.set_cons_succ,i64_w,i32_w];rfl
 refine take_ (i:=2) (N:=some 15) (v:=?_) (a':=?_) #[true,true,true,false,false,false,false] rfl rfl (by kernel_rfl) (fun _ _ _ h=>h) (Or.inl ⟨by rfl,?_⟩) hHeld ?_ ?_
 rotate_left
 ·rintro w' ⟨s0,s1,s2,s3⟩;go_simp;with_reducible rfl
 rotate_left
 ·simp only[Act.put,List.setIfInBounds_toArray,List.set_cons_zero,List.set_cons_succ,i64_w,i32_w];rfl
 refine one_ (i:=3) (N:=some 16) #[true,true,true,true,false,false,false] rfl rfl (by kernel_rfl) (by decide) (fun K hK=>?_)
 refine eY Tryz.func27 (spec_NumsOf.calls aQ.out (cH HR0_3) HC0_3.out) ?_
 rintro a8 a9 ⟨u,hb⟩;replace c:=rB c hb;have t:=rL u;replace a:=kB a hb;replace HB:=sB hb;(try clear hb);(try clear u);obtain⟨ba,bb,aI⟩:=R_slice t.out
 (first|subst aI|(injection aI with f1_ f2_ f3_;have f4_:=f1_.symm;have f5_:=f3_.symm;clear f1_ f2_ f3_;subst f4_;subst f5_))
 refine hK.out _ _ qh19x0 (fun hHeld=>?_)
 clear hK K;refine normZ (some 16) ?_
 refine one_ (i:=4) (N:=some 17) #[true,true,true,true,true,false,false] rfl rfl (by kernel_rfl) (by decide) (fun K hK=>?_)
 refine eY Tryz.func22 (spec_TreeLines.calls k d g j _ _ b _ _ ay (⟨#[116]⟩ :ByteArray) s _ (cH HR0_3) HC0_3.out (rX t) ((rY t)) aT.out) ?_
 rintro bd be ⟨u,hb⟩;replace t:=rB t hb;have ar:=aM (R_lower (R_new' u (R_lt (mR c))) (below_size cB));replace c:=eB c (R_base u) hb;replace a:=kB a hb;replace HB:=sB hb;(try clear hb);(try clear u);obtain⟨aY,aZ,aJ⟩:=R_slice ar.out
 (first|subst aJ|(injection aJ with f1_ f2_ f3_;have f4_:=f1_.symm;have f5_:=f3_.symm;clear f1_ f2_ f3_;subst f4_;subst f5_))
 refine hK.out _ _ qh19x0 (fun hHeld=>?_)
 clear hK K;refine normZ (some 17) ?_
 refine one_ (i:=5) (N:=some 18) #[true,true,true,true,true,true,false] rfl rfl (by kernel_rfl) (by decide) (fun K hK=>?_)
 refine R_append_rows_step k86 (w0:=w) w.heap.size (by rfl) (.tmp 13) (.tmp 17) 47 86 (.agg #[(.string ⟨#[]⟩),(.int .i64 0),(.int .i64 0),(.int .i64 0),(.int .i64 0),(.string ⟨#[]⟩),(.string ⟨#[]⟩)]) 80 rfl Tryz.underlying47 info86 rfl (by decide) (by omega) aW x s _ _ _ (fun k_=>some k_≠(.slice aY s.length aZ:Value).ownBlock) (fun _=>False) rfl rfl ?aO ?aR (fun _ _ h=>h) (fun _ h=>h.elim) ?aF ?aB ?aS ?aL ?_
 (case aR=>exact rX ar)
 (case aB=>exact cB)
 (case aF=>exact(fun k_ hk=>Kd.fresh' (R_lt (mR ar)) k_ hk))
 (case aO=>exact(by exact rM c (fun _ hk=>hk.2)))
 (case aS=>exact(below_size cB))
 (case aL=>have:=aU.out;omega)
 intro bf bg ho hb hg hat;rw[← aH.out]at ho
 replace a:=kN a hg c a
 replace t:=aM (R_over' (mR t) (R_typed (mR c)) (by decide) hg)
 replace ar:=aM (R_after (ok:=(fun _=>True)) (mR ar) hg hat)
 replace HB:=aM hb;have a0:=aM ho;clear c ho hb hg hat
 refine hK.out _ _ qh19x0 (fun hHeld=>?_)
 clear hK K;refine normZ (some 18) ?_
 refine pure_ (i:=6) (N:=some 2) (v:=?_) (a':=?_) #[true,true,true,true,true,true,true] rfl rfl (by kernel_rfl) (fun _ _ _ h=>h) (Or.inl ⟨by rfl,?_⟩) ?_ ?_
 rotate_left
 ·intro w';go_simp;with_reducible rfl
 rotate_left
 ·simp only[Act.put,List.setIfInBounds_toArray,List.set_cons_zero,List.set_cons_succ,i64_w,i32_w];rfl
 refine done_ (by kernel_rfl) ?_
 try go_wp2
 go_ret
 exact⟨_,rE,by(with_reducible repeat(first|apply R_alloc|apply R_drewN|apply R_drew));exact R_mono a0.out (fun _ hk=>trivial),cB⟩
def spec_l09Act.f (av:Int) (aw:Int):Option (Bool):=(spec_l01In.f av 0 5).bind fun aA=>(if aA=true then((spec_l01In.f aw 0 65535).bind fun aK=>(some aK))else(some false))
set_option maxHeartbeats 8000000 in
set_option maxRecDepth 100000 in
theorem spec_l09Act.calls {av:Int}{aw:Int}{r:Bool}{w:World}(h:spec_l09Act.f av aw=some r) :
 Calls Tryz.prog 84 #[.int .i64 av,.int .i64 aw] w fun e w'=>e= .returned (.bool r)∧Drawn0 w w':=by
 unfold spec_l09Act.f at h;have H:=h
 clear h;replace H:=bE H;obtain⟨aA,au,H⟩:=H;by_cases ax:aA=true
 ·subst ax;replace H:=iT H;replace H:=bE H;obtain⟨aK,az,H⟩:=H;obtain rfl:=Option.some.inj H;go_enter Tryz.func84,Tryz.ntmps84
  go_wp2_with (first|((with_reducible refine gF 47 ?_);refine gX (some 6) Tryz.func47 (spec_l01In.calls au.out) ?_;rintro w' ⟨nd,rfl⟩)|(go_at_call 47;(with_reducible refine(spec_l01In.calls az.out).mono ?_);rintro e w' ⟨rfl,⟨nd,rfl⟩⟩))
  go_ret
  exact⟨by first|rfl|(simp;done)|(simp[*];done),by repeat(first|exact Drawn0.refl _|apply Drawn0.step)⟩
 ·replace ax:=Bool.eq_false_iff.mpr ax;subst ax;replace H:=iF H;obtain rfl:=Option.some.inj H;go_enter Tryz.func84,Tryz.ntmps84
  go_wp2_with (first|((with_reducible refine gF 47 ?_);refine gX (some 6) Tryz.func47 (spec_l01In.calls au.out) ?_;rintro w' ⟨nd,rfl⟩))
  go_ret
  exact⟨by first|rfl|(simp;done)|(simp[*];done),by repeat(first|exact Drawn0.refl _|apply Drawn0.step)⟩
end Go.Proofs.YtpbalojiaghfhaaGreat.PFnCompilesTold
