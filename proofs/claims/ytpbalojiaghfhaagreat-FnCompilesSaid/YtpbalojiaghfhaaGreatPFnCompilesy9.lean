import Derived.Test.YtpbalojiaghfhaaGreatPFnCompilesy0
import Derived.Test.YtpbalojiaghfhaaGreatPFnCompilesy5
import Derived.Test.YtpbalojiaghfhaaGreatPFnCompilesy8
namespace Go.Proofs.YtpbalojiaghfhaaGreat.PFnCompiles
open Go.RowKit Go.Proofs.YtpbalojiaghfhaaGreatW.PrintWords Go.Proofs.YtpbalojiaghfhaaGreatW.PrintLast Go.Proofs.YtpbalojiaghfhaaGreatW.PrintMore Go.Proofs.YtpbalojiaghfhaaGreatW.Z
open Kd
attribute [local go_sem] isS max2_int min2_int max_two min_two max_three min_three max_four min_four
set_option linter.unusedVariables false
set_option linter.unusedSimpArgs false
theorem qh9x0 {P:Prop} (h:P:=by exact⟨(blk_cell a.out 0).trans rfl,(blk_cell a.out 1).trans rfl,(blk_cell a.out 2).trans rfl,(blk_cell a.out 3).trans rfl⟩):P:=h
def impl_PolicyLines.f (k:Nat) (x:Int) (A:Int) (j:Int) (p:List (S78)):Option ((List (S86))):=(impl_word.f 1 1).bind fun O=>((impl_ask.f 3 x (⟨#[112]⟩ :ByteArray) (⟨#[113]⟩ :ByteArray)).bind fun U=>((impl_place.f (⟨#[113]⟩ :ByteArray)).bind fun W=>((impl_word.f 8 0).bind fun X=>((impl_place.f (⟨#[112]⟩ :ByteArray)).bind fun Y=>((impl_word.f 1 0).bind fun aa=>((some (([(⟨O.1,(⟨O.2.1,O.2.2.1,O.2.2.2.1,O.2.2.2.2.1⟩ :S71),O.2.2.2.2.2.1,O.2.2.2.2.2.2⟩ :S86),(⟨U.1,(⟨U.2.1,U.2.2.1,U.2.2.2.1,U.2.2.2.2.1⟩ :S71),U.2.2.2.2.2.1,U.2.2.2.2.2.2⟩ :S86),(⟨W.1,(⟨W.2.1,W.2.2.1,W.2.2.2.1,W.2.2.2.2.1⟩ :S71),W.2.2.2.2.2.1,W.2.2.2.2.2.2⟩ :S86),(⟨X.1,(⟨X.2.1,X.2.2.1,X.2.2.2.1,X.2.2.2.2.1⟩ :S71),X.2.2.2.2.2.1,X.2.2.2.2.2.2⟩ :S86),(⟨Y.1,(⟨Y.2.1,Y.2.2.1,Y.2.2.2.1,Y.2.2.2.2.1⟩ :S71),Y.2.2.2.2.2.1,Y.2.2.2.2.2.2⟩ :S86),(⟨aa.1,(⟨aa.2.1,aa.2.2.1,aa.2.2.2.1,aa.2.2.2.2.1⟩ :S71),aa.2.2.2.2.2.1,aa.2.2.2.2.2.2⟩ :S86)] :List (S86)):List (S86))).bind fun ap=>((impl_NumsOf.f k x A j p).bind fun bw=>((impl_TreeLines.f k x A j p bw (⟨#[116]⟩ :ByteArray)).bind fun ab=>(if ap.length+ab.length<1759218604441 then(some (ap ++ ab))else(none))))))))))
def impl_PolicyLines.T1:Bool×List (List Nat×List Nat):=(true,[([],[]),([],[]),([1],[1]),([2,0],[2]),([3],[]),([4],[]),([5],[]),([6],[]),([0,3,4,5,6,7],[0,3,4,5,6,7]),([8,7,0,1,2,3,4,5,6,7,8],[8])])
def impl_PolicyLines.B1:List Nat:=[0,0,2,7,15,31,63,127,255,511]
theorem impl_PolicyLines.tab1:rtab .any (opsOf Tryz.f23 1)=impl_PolicyLines.T1:=by kernel_rfl
theorem impl_PolicyLines.bits1:waitsOk impl_PolicyLines.T1.2 impl_PolicyLines.B1=true:=by kernel_rfl
theorem q9x0 {P:Prop} (h:P:=by
 rintro w' ⟨s0,s1,s2,s3⟩
 go_simp
 with_reducible rfl):P:=h
set_option maxHeartbeats 8000000 in
set_option maxRecDepth 100000 in
theorem impl_PolicyLines.calls {k:Nat}{x:Int}{A:Int}{j:Int}{aq:Option Addr}{ar:Nat}{p:List (S78)}{r:List (S86)}{w:World}(h:impl_PolicyLines.f k x A j p=some r)(bJ:Kd.C k78 w aq p.length p)(bL:p.length≤ar) :
 Calls Tryz.prog 23 #[.agg #[.int .i64 x,.int .i64 A,.int .i64 j,.slice aq p.length ar]] w fun e w'=> ∃ v0_:Value,e= .returned (v0_)∧Kd.R k86 86 w' w.heap.size (fun _=>True) v0_ r∧Below w.heap.size w w':=by
 have hu26:=Tryz.underlying26;have HR0_3:=aM bJ;have HC0_3:=aM bL;clear bJ bL;have HB:=rW w
 unfold impl_PolicyLines.f at h;have H:=h
 clear h;replace H:=bE H;obtain⟨⟨au,av,aw,ax,ay,az,aA⟩,cg,H⟩:=H;(try dsimp only at H);replace H:=bE H;obtain⟨⟨aC,aD,aE,aG,aH,aI,aJ⟩,br,H⟩:=H;(try dsimp only at H);replace H:=bE H;obtain⟨⟨aK,aN,aP,aQ,aT,aU,aV⟩,ch,H⟩:=H;(try dsimp only at H);replace H:=bE H;obtain⟨⟨aW,aX,aY,aZ,a0,a1,a2⟩,bx,H⟩:=H;(try dsimp only at H);replace H:=bE H;obtain⟨⟨a3,a4,a5,a6,a7,a8,a9⟩,ci,H⟩:=H;(try dsimp only at H);replace H:=bE H;obtain⟨⟨ba,bb,bd,be,bf,bg,bh⟩,ac,H⟩:=H;(try dsimp only at H);replace H:=nE H;obtain⟨ap,bM,H⟩:=H;replace H:=bE H;obtain⟨bw,cj,H⟩:=H;replace H:=bE H;obtain⟨ab,ck,H⟩:=H;replace H:=gC H;obtain⟨bN,H⟩:=H;have cl:=aM bN;clear bN;obtain⟨dl,bO⟩ : ∃ y_:List (S86),Aside0 (y_=(ap ++ ab)):=⟨_,⟨rfl⟩⟩;rw[← bO.out]at H;obtain rfl:=Option.some.inj H;go_enter Tryz.func23,Tryz.ntmps23
 try go_wp2_with (first|((with_reducible refine gN 1 ?_);refine boxZ 1 #[.int .i64 x,.int .i64 A,.int .i64 j,.slice aq p.length ar] 26 ?_;intro D hg cm hbox hb;have a:=aM hbox;have GW611:=gS hg;have GE611:=gS hg;replace HB:=sB hb;clear hb hbox hg))
 replace a:=dB a;replace HB:=dW HB
 refine sZ 10 (fun w'=>w'.cell? ⟨D,0,none⟩=some (.int .i64 x)∧w'.cell? ⟨D,1,none⟩=some (.int .i64 A)∧w'.cell? ⟨D,2,none⟩=some (.int .i64 j)∧w'.cell? ⟨D,3,none⟩=some (.slice aq p.length ar)) impl_PolicyLines.tab1 impl_PolicyLines.bits1 qh9x0 fun HT_ HW_ hHeld=>?_
 generalize cm.drew=dm at a HB hHeld ⊢;refine pureZ 1 (some 5) (msk 10 2) HT_.out ?_;refine takeZ 2 (some 6) (msk 10 6) HT_.out HW_.out hHeld (hy:=q9x0) (h:=?_)
 refine one_Z 0 (some 4) (msk 10 7) HT_.out fun K hK=>?_
 refine eX Tryz.func56 (impl_word.calls cg.out) ?_
 intro dn hb;replace a:=kB a hb;replace HB:=sB hb;(try clear hb)
 refine hK.out _ _ qh9x0 (fun hHeld=>?_)
 clear hK K;refine normZ (some 4) ?_
 refine one_Z 3 (some 7) (msk 10 15) HT_.out fun K hK=>?_
 refine eX Tryz.func61 (impl_ask.calls br.out) ?_
 intro dp hb;replace a:=kB a hb;replace HB:=sB hb;(try clear hb)
 refine hK.out _ _ qh9x0 (fun hHeld=>?_)
 clear hK K;refine normZ (some 7) ?_
 refine one_Z 4 (some 8) (msk 10 31) HT_.out fun K hK=>?_
 refine eX Tryz.func55 (impl_place.calls ch.out) ?_
 intro dq hb;replace a:=kB a hb;replace HB:=sB hb;(try clear hb)
 refine hK.out _ _ qh9x0 (fun hHeld=>?_)
 clear hK K;refine normZ (some 8) ?_
 refine one_Z 5 (some 9) (msk 10 63) HT_.out fun K hK=>?_
 refine eX Tryz.func56 (impl_word.calls bx.out) ?_
 intro dr hb;replace a:=kB a hb;replace HB:=sB hb;(try clear hb)
 refine hK.out _ _ qh9x0 (fun hHeld=>?_)
 clear hK K;refine normZ (some 9) ?_
 refine one_Z 6 (some 10) (msk 10 127) HT_.out fun K hK=>?_
 refine eX Tryz.func55 (impl_place.calls ci.out) ?_
 intro dt hb;replace a:=kB a hb;replace HB:=sB hb;(try clear hb)
 refine hK.out _ _ qh9x0 (fun hHeld=>?_)
 clear hK K;refine normZ (some 10) ?_
 refine one_Z 7 (some 11) (msk 10 255) HT_.out fun K hK=>?_
 refine eX Tryz.func56 (impl_word.calls ac.out) ?_
 intro du hb;replace a:=kB a hb;replace HB:=sB hb;(try clear hb)
 refine hK.out _ _ qh9x0 (fun hHeld=>?_)
 clear hK K;refine normZ (some 11) ?_
 refine one_Z 8 (some 12) (msk 10 511) HT_.out fun K hK=>?_
 refine R_lit_step k86 _ 86 ?hg (N:=12) ?hd (xs:=([(⟨au,(⟨av,aw,ax,ay⟩ :S71),az,aA⟩ :S86),(⟨aC,(⟨aD,aE,aG,aH⟩ :S71),aI,aJ⟩ :S86),(⟨aK,(⟨aN,aP,aQ,aT⟩ :S71),aU,aV⟩ :S86),(⟨aW,(⟨aX,aY,aZ,a0⟩ :S71),a1,a2⟩ :S86),(⟨a3,(⟨a4,a5,a6,a7⟩ :S71),a8,a9⟩ :S86),(⟨ba,(⟨bb,bd,be,bf⟩ :S71),bg,bh⟩ :S86)] :List (S86))) (inner:=[.string au,.int .i64 av,.int .i64 aw,.int .i64 ax,.int .i64 ay,.string az,.string aA,.string aC,.int .i64 aD,.int .i64 aE,.int .i64 aG,.int .i64 aH,.string aI,.string aJ,.string aK,.int .i64 aN,.int .i64 aP,.int .i64 aQ,.int .i64 aT,.string aU,.string aV,.string aW,.int .i64 aX,.int .i64 aY,.int .i64 aZ,.int .i64 a0,.string a1,.string a2,.string a3,.int .i64 a4,.int .i64 a5,.int .i64 a6,.int .i64 a7,.string a8,.string a9,.string ba,.int .i64 bb,.int .i64 bd,.int .i64 be,.int .i64 bf,.string bg,.string bh]) (ok:=fun _=>True) (okp:=fun _=>True) ?hr ?hp (fun _ hk=>hk) trivial (Below.refl _ _) (Nat.le_refl _) (by simp) ?_;(case hd=>rfl);(case hg=>rfl);(case hr=>first|(go_simp;done)|(go_simp;rfl));(case hp=>exact(Reps.c7 (show Kd.M k86 _ _ _ (⟨au,(⟨av,aw,ax,ay⟩ :S71),az,aA⟩ :S86) [.string au,.int .i64 av,.int .i64 aw,.int .i64 ax,.int .i64 ay,.string az,.string aA]from (k86_mkM _ _ _ (⟨au,(⟨av,aw,ax,ay⟩ :S71),az,aA⟩ :S86))) (Reps.c7 (show Kd.M k86 _ _ _ (⟨aC,(⟨aD,aE,aG,aH⟩ :S71),aI,aJ⟩ :S86) [.string aC,.int .i64 aD,.int .i64 aE,.int .i64 aG,.int .i64 aH,.string aI,.string aJ]from (k86_mkM _ _ _ (⟨aC,(⟨aD,aE,aG,aH⟩ :S71),aI,aJ⟩ :S86))) (Reps.c7 (show Kd.M k86 _ _ _ (⟨aK,(⟨aN,aP,aQ,aT⟩ :S71),aU,aV⟩ :S86) [.string aK,.int .i64 aN,.int .i64 aP,.int .i64 aQ,.int .i64 aT,.string aU,.string aV]from (k86_mkM _ _ _ (⟨aK,(⟨aN,aP,aQ,aT⟩ :S71),aU,aV⟩ :S86))) (Reps.c7 (show Kd.M k86 _ _ _ (⟨aW,(⟨aX,aY,aZ,a0⟩ :S71),a1,a2⟩ :S86) [.string aW,.int .i64 aX,.int .i64 aY,.int .i64 aZ,.int .i64 a0,.string a1,.string a2]from (k86_mkM _ _ _ (⟨aW,(⟨aX,aY,aZ,a0⟩ :S71),a1,a2⟩ :S86))) (Reps.c7 (show Kd.M k86 _ _ _ (⟨a3,(⟨a4,a5,a6,a7⟩ :S71),a8,a9⟩ :S86) [.string a3,.int .i64 a4,.int .i64 a5,.int .i64 a6,.int .i64 a7,.string a8,.string a9]from (k86_mkM _ _ _ (⟨a3,(⟨a4,a5,a6,a7⟩ :S71),a8,a9⟩ :S86))) (Reps.c7 (show Kd.M k86 _ _ _ (⟨ba,(⟨bb,bd,be,bf⟩ :S71),bg,bh⟩ :S86) [.string ba,.int .i64 bb,.int .i64 bd,.int .i64 be,.int .i64 bf,.string bg,.string bh]from (k86_mkM _ _ _ (⟨ba,(⟨bb,bd,be,bf⟩ :S71),bg,bh⟩ :S86))) (Reps.none _ _))))))))
 intro cn co bi hb hg_ hnew_;clear hg_ hnew_
 (first|rw[← bM.out]at bi|(simp only[Int.reduceToNat]at bi;rw[← bM.out]at bi))
 have q:=rL bi;replace a:=kB a hb;replace HB:=sB hb;clear hb bi
 refine hK.out _ _ qh9x0 (fun hHeld=>?_)
 clear hK K;refine normZ (some 12) ?_
 refine pureZ 9 (some 3) (msk 10 1023) HT_.out ?_
 refine done_ (done_of HT_.out (by kernel_rfl)) ?_
 try go_wp2
 replace q:=dR q;replace a:=dB a;replace HB:=dW HB
 refine start_ (n:=7) (S:=fun w'=>w'.cell? ⟨D,0,none⟩=some (.int .i64 x)∧w'.cell? ⟨D,1,none⟩=some (.int .i64 A)∧w'.cell? ⟨D,2,none⟩=some (.int .i64 j)∧w'.cell? ⟨D,3,none⟩=some (.slice aq p.length ar)) (ds:=[]) #[false,false,false,false,false,false,false] (by kernel_rfl) rfl rfl ⟨(blk_cell a.out 0).trans rfl,(blk_cell a.out 1).trans rfl,(blk_cell a.out 2).trans rfl,(blk_cell a.out 3).trans rfl⟩ (fun hHeld=>?_)
 generalize co.drew=dv at q a HB hHeld ⊢
 refine pure_ (i:=0) (N:=some 13) (v:=?_) (a':=?_) #[true,false,false,false,false,false,false] rfl rfl (by kernel_rfl) (fun _ _ _ h=>h) (Or.inl ⟨by rfl,?_⟩) ?_ ?_
 rotate_left
 ·intro w';go_simp;with_reducible rfl
 rotate_left
 ·simp only[Act.put,List.setIfInBounds_toArray,List.set_cons_zero,List.set_cons_succ,i64_w,i32_w];rfl
 refine take_ (i:=1) (N:=some 14) (v:=?_) (a':=?_) #[true,true,false,false,false,false,false] rfl rfl (by kernel_rfl) (fun _ _ _ h=>h) (Or.inl ⟨by rfl,?_⟩) hHeld ?_ ?_
 rotate_left
 ·rintro w' ⟨s0,s1,s2,s3⟩;go_simp;with_reducible rfl
 rotate_left
 ·simp only[Act.put,List.setIfInBounds_toArray,List.set_cons_zero,List.set_cons_succ,i64_w,i32_w];rfl
 refine take_ (i:=2) (N:=some 15) (v:=?_) (a':=?_) #[true,true,true,false,false,false,false] rfl rfl (by kernel_rfl) (fun _ _ _ h=>h) (Or.inl ⟨by rfl,?_⟩) hHeld ?_ ?_
 rotate_left
 ·rintro w' ⟨s0,s1,s2,s3⟩;go_simp;with_reducible rfl
 rotate_left
 ·simp only[Act.put,List.setIfInBounds_toArray,List.set_cons_zero,List.set_cons_succ,i64_w,i32_w];rfl
 refine one_ (i:=3) (N:=some 16) #[true,true,true,true,false,false,false] rfl rfl (by kernel_rfl) (by decide) (fun K hK=>?_)
 refine eY Tryz.func26 (impl_NumsOf.calls cj.out (cH HR0_3) HC0_3.out) ?_
 rintro dw cp ⟨ai,hb⟩;replace q:=rB q hb;have ad:=rL ai;replace a:=kB a hb;replace HB:=sB hb;(try clear hb);(try clear ai);obtain⟨dx,dy,bP⟩:=R_slice ad.out
 (first|subst bP|(injection bP with f1_ f2_ f3_;have f4_:=f1_.symm;have f5_:=f3_.symm;clear f1_ f2_ f3_;subst f4_;subst f5_))
 refine hK.out _ _ qh9x0 (fun hHeld=>?_)
 clear hK K;refine normZ (some 16) ?_
 refine one_ (i:=4) (N:=some 17) #[true,true,true,true,true,false,false] rfl rfl (by kernel_rfl) (by decide) (fun K hK=>?_)
 refine eY Tryz.func21 (impl_TreeLines.calls k x A j _ _ p _ _ bw (⟨#[116]⟩ :ByteArray) ab _ (cH HR0_3) HC0_3.out (rX ad) ((rY ad)) ck.out) ?_
 rintro dz dC ⟨ai,hb⟩;replace ad:=rB ad hb;have bj:=aM (R_lower (R_new' ai (R_lt (mR q))) (below_size cB));replace q:=eB q (R_base ai) hb;replace a:=kB a hb;replace HB:=sB hb;(try clear hb);(try clear ai);obtain⟨cq,cr,bQ⟩:=R_slice bj.out
 (first|subst bQ|(injection bQ with f1_ f2_ f3_;have f4_:=f1_.symm;have f5_:=f3_.symm;clear f1_ f2_ f3_;subst f4_;subst f5_))
 refine hK.out _ _ qh9x0 (fun hHeld=>?_)
 clear hK K;refine normZ (some 17) ?_
 refine one_ (i:=5) (N:=some 18) #[true,true,true,true,true,true,false] rfl rfl (by kernel_rfl) (by decide) (fun K hK=>?_)
 refine R_append_rows_step k86 (w0:=w) w.heap.size (by rfl) (.tmp 13) (.tmp 17) 47 86 (.agg #[(.string ⟨#[]⟩),(.int .i64 0),(.int .i64 0),(.int .i64 0),(.int .i64 0),(.string ⟨#[]⟩),(.string ⟨#[]⟩)]) 80 rfl Tryz.underlying47 info86 rfl (by decide) (by omega) cn ap ab _ _ _ (fun k_=>some k_≠(.slice cq ab.length cr:Value).ownBlock) (fun _=>False) rfl rfl ?aO ?aR (fun _ _ h=>h) (fun _ h=>h.elim) ?aF ?aB ?aS ?aL ?_
 (case aR=>exact rX bj)
 (case aB=>exact cB)
 (case aF=>exact(fun k_ hk=>Kd.fresh' (R_lt (mR bj)) k_ hk))
 (case aO=>exact(by exact rM q (fun _ hk=>hk.2)))
 (case aS=>exact(below_size cB))
 (case aL=>have:=cl.out;omega)
 intro dD cs ho hb hg hat;rw[← bO.out]at ho
 replace a:=kN a hg q a
 replace ad:=aM (R_over' (mR ad) (R_typed (mR q)) (by decide) hg)
 replace bj:=aM (R_after (ok:=(fun _=>True)) (mR bj) hg hat)
 replace HB:=aM hb;have ct:=aM ho;clear q ho hb hg hat
 refine hK.out _ _ qh9x0 (fun hHeld=>?_)
 clear hK K;refine normZ (some 18) ?_
 refine pure_ (i:=6) (N:=some 2) (v:=?_) (a':=?_) #[true,true,true,true,true,true,true] rfl rfl (by kernel_rfl) (fun _ _ _ h=>h) (Or.inl ⟨by rfl,?_⟩) ?_ ?_
 rotate_left
 ·intro w';go_simp;with_reducible rfl
 rotate_left
 ·simp only[Act.put,List.setIfInBounds_toArray,List.set_cons_zero,List.set_cons_succ,i64_w,i32_w];rfl
 refine done_ (by kernel_rfl) ?_
 try go_wp2
 go_ret
 exact⟨_,rE,by(with_reducible repeat(first|apply R_alloc|apply R_drewN|apply R_drew));exact R_mono ct.out (fun _ hk=>trivial),cB⟩
def impl_actionOk.f (bs:Int) (bu:Int):Option (Bool):=(impl_within.f bs 0 5).bind fun bz=>(if bz=true then((impl_within.f bu 0 65535).bind fun bR=>(some bR))else(some false))
set_option maxHeartbeats 8000000 in
set_option maxRecDepth 100000 in
theorem impl_actionOk.calls {bs:Int}{bu:Int}{r:Bool}{w:World}(h:impl_actionOk.f bs bu=some r) :
 Calls Tryz.prog 76 #[.int .i64 bs,.int .i64 bu] w fun e w'=>e= .returned (.bool r)∧Drawn0 w w':=by
 unfold impl_actionOk.f at h;have H:=h
 clear h;replace H:=bE H;obtain⟨bz,br,H⟩:=H;by_cases s:bz=true
 ·subst s;replace H:=iT H;replace H:=bE H;obtain⟨bR,bx,H⟩:=H;obtain rfl:=Option.some.inj H;go_enter Tryz.func76,Tryz.ntmps76
  go_wp2_with (first|((with_reducible refine gF 81 ?_);refine gX (some 6) Tryz.func81 (impl_within.calls br.out) ?_;rintro w' ⟨nd,rfl⟩)|(go_at_call 81;(with_reducible refine(impl_within.calls bx.out).mono ?_);rintro e w' ⟨rfl,⟨nd,rfl⟩⟩))
  go_ret
  exact⟨by first|rfl|(simp;done)|(simp[*];done),by repeat(first|exact Drawn0.refl _|apply Drawn0.step)⟩
 ·replace s:=Bool.eq_false_iff.mpr s;subst s;replace H:=iF H;obtain rfl:=Option.some.inj H;go_enter Tryz.func76,Tryz.ntmps76
  go_wp2_with (first|((with_reducible refine gF 81 ?_);refine gX (some 6) Tryz.func81 (impl_within.calls br.out) ?_;rintro w' ⟨nd,rfl⟩))
  go_ret
  exact⟨by first|rfl|(simp;done)|(simp[*];done),by repeat(first|exact Drawn0.refl _|apply Drawn0.step)⟩
mutual
def impl_ruleOk.l0:Nat→List Int→Int→Int→List Int→List (S118)→Int→Int→Option (Bool)
  | 0,_,_,_,_,_,_,_=>none
  | k+1,bk,bA,u,E,G,aj,ak=>if u<bA then(if 0≤u then(if u<(bk.length:Int)then((impl_HalfOk.f (rd bk u)).bind fun bB=>(if bB=true then(if u>0 then(if 0≤(wrap64 (u - 1))then(if(wrap64 (u - 1))<(E.length:Int)then(if(rd E (wrap64 (u - 1)))≥(rd bk u)then(some false)else(impl_ruleOk.l0 k bk bA (wrap64 (u+1)) E G aj ak))else(none))else(none))else(impl_ruleOk.l0 k bk bA (wrap64 (u+1)) E G aj ak))else(some false)))else(none))else(none))else(impl_ruleOk.l1 k G (G.length:Int) 0 E G aj ak)
def impl_ruleOk.l1:Nat→List (S118)→Int→Int→List Int→List (S118)→Int→Int→Option (Bool)
  | 0,_,_,_,_,_,_,_=>none
  | k+1,I,bS,y,E,G,aj,ak=>if y<bS then(if 0≤y then(if y<(I.length:Int)then((impl_CondOk.f ((rd_T118 I y).f0) ((rd_T118 I y).f1.f0) ((rd_T118 I y).f1.f1) ((rd_T118 I y).f2) ((rd_T118 I y).f3.f0) ((rd_T118 I y).f3.f1)).bind fun bC=>(if bC=true then(impl_ruleOk.l1 k I bS (wrap64 (y+1)) E G aj ak)else(some false)))else(none))else(none))else(if(E.length:Int)≤4 then(if(G.length:Int)≤3 then((impl_actionOk.f aj ak).bind fun bT=>(some bT))else(some false))else(some false))
end
def impl_ruleOk.f (k:Nat) (b:List Int) (c:List (S118)) (j:Int) (z:Int):Option (Bool):=impl_ruleOk.l0 k b (b.length:Int) 0 b c j z
set_option maxHeartbeats 8000000 in
set_option maxRecDepth 100000 in
theorem impl_ruleOk.calls {k:Nat}{bl:Option Addr}{bm:Nat}{b:List Int}{bn:Option Addr}{bo:Nat}{c:List (S118)}{j:Int}{z:Int}{r:Bool}{w:World}(h:impl_ruleOk.f k b c j z=some r)(bU:Kd.C (Kd.int .i64) w bl b.length b)(bV:b.length≤bm)(bW:Kd.C k118 w bn c.length c)(bX:c.length≤bo) :
 Calls Tryz.prog 74 #[.agg #[.slice bl b.length bm,.slice bn c.length bo,.int .i64 j,.int .i64 z]] w fun e w'=>e= .returned (.bool r)∧Below w.heap.size w w':=by
 have hu78:=Tryz.underlying78;have hu118:=Tryz.underlying118;have HR0_0:=aM bU;have HC0_0:=aM bV;clear bU bV;have HR0_1:=aM bW;have HC0_1:=aM bX;clear bW bX;have HB:=rW w;have H:(impl_ruleOk.l0 k b (b.length:Int) 0 b c j z)=some r:=h;clear h;have H':=aM H;clear H;go_enter Tryz.func74,Tryz.ntmps74
 go_wp2_with (first|((with_reducible refine gN 1 ?_);(try(refine gate_guard (by rfl) ?_;dsimp only));refine boxZ 1 #[.slice bl b.length bm,.slice bn c.length bo,.int .i64 j,.int .i64 z] 78 ?_;intro bY hg dE hbox hb;have d:=aM hbox;have GW668:=gS hg;have GE668:=gS hg;replace HB:=sB hb;clear hb hbox hg;obtain⟨bZ,b0,b1,b5,b8,b9,ca,cb⟩:=cz4 d))
 go_loopg [10] k (fun kq cu w'=> ∃ (g:Int),cu= .int .i64 g∧Aside0 (impl_ruleOk.l0 kq b (b.length:Int) g b c j z=some r)∧Aside0 (kq≤k)∧Aside0 (w'.heap[bY]?=some (.cells #[(.slice bl b.length bm),(.slice bn c.length bo),.int .i64 j,.int .i64 z] 78 (0,0)))∧Aside0 (Below w.heap.size w w'))
 case atStart=>exact⟨(0),rS,H',⟨Nat.le_refl _⟩,⟨mK d⟩,⟨cB⟩⟩
 case round=>
  clear H';(try clear bZ b0 b1 b5);(try clear b8 b9 ca cb);obtain⟨g,rfl,HA,HK1,d,HB⟩:=hrel
  cases gk with
  | zero=>exact absurd HA.out (by simp[impl_ruleOk.l0])
  | succ k1=>
   have H:=HA.out;clear HA;simp only[impl_ruleOk.l0]at H;by_cases s:g<(b.length:Int)
   ·rw[if_pos s]at H;have cc:=decide_eq_true s;clear s;replace H:=gD H;obtain⟨cv,H⟩:=H;replace H:=gD H;obtain⟨cw,H⟩:=H;replace H:=bE H;obtain⟨bB,ac,H⟩:=H;by_cases bp:bB=true
    ·subst bp;replace H:=iT H;by_cases ae:g>0
     ·rw[if_pos ae]at H;have cd:decide (0<g)=true:=decide_eq_true ae;clear ae;obtain⟨ji10,hji10⟩ : ∃ j_:Int,(wrap64 (g - 1))=j_:=⟨_,rfl⟩
      (first|rw[hji10]at H|simp only[hji10]at H)
      (try rw[hji10]at ac);have hji10w:(IntKind.i64.wrap (g - 1))=ji10:=(i64_w _).trans hji10;replace H:=gD H;obtain⟨cx,H⟩:=H;replace H:=gD H;obtain⟨cy,H⟩:=H;by_cases af:(rd b (ji10))≥(rd b g)
      ·rw[if_pos af]at H;have ce:decide ((rd b g)≤(rd b (ji10)))=true:=decide_eq_true af;clear af;obtain rfl:=Option.some.inj H;have m:0≤(g:Int):=dA;have o:g<(b.length:Int):=dA;obtain⟨bq,ag,t⟩:=at_int HR0_0.out g m o;cases ag;replace t:=(bc HB t :);replace m:=eq_true m;replace o:=eq_true o
       go_wp2_with (first|((with_reducible refine gF 75 ?_);refine gX (some 16) Tryz.func75 (impl_HalfOk.calls ac.out) ?_;rintro w' ⟨nd,rfl⟩;obtain⟨cz,cA,cD,cE,cF,cG,cI,cJ⟩:=cz4 d;have J:0≤((ji10):Int):=dA;have L:(ji10)<(b.length:Int):=dA;obtain⟨bD,bF,al⟩:=at_int HR0_0.out (ji10) J L;obtain rfl:bq=bD:=(by injection bF);replace al:=(bc HB al :);replace J:=eq_true J;replace L:=eq_true L))
       go_ret
       exact⟨by first|rfl|(simp[errW_none,errW_some] <;> rfl)|(simp only[← hji10];first|rfl|(simp[errW_none,errW_some] <;> rfl))|(simp[*,errW_none,errW_some] <;> rfl),cB⟩
      ·rw[if_neg af]at H;have ce:decide ((rd b g)≤(rd b (ji10)))=false:=decide_eq_false af;clear af;have H':=aM H;clear H;have m:0≤(g:Int):=dA;have o:g<(b.length:Int):=dA;obtain⟨bq,ag,t⟩:=at_int HR0_0.out g m o;cases ag;replace t:=(bc HB t :);replace m:=eq_true m;replace o:=eq_true o
       go_wp2_with (first|((with_reducible refine gF 75 ?_);refine gX (some 16) Tryz.func75 (impl_HalfOk.calls ac.out) ?_;rintro w' ⟨nd,rfl⟩;obtain⟨cL,cM,cN,cO,cP,cQ,cR,cS⟩:=cz4 d;have J:0≤((ji10):Int):=dA;have L:(ji10)<(b.length:Int):=dA;obtain⟨bD,bF,al⟩:=at_int HR0_0.out (ji10) J L;obtain rfl:bq=bD:=(by injection bF);replace al:=(bc HB al :);replace J:=eq_true J;replace L:=eq_true L))
       go_roundg k1
       case measure=>exact oK
       case rel=>exact⟨(wrap64 (g+1)),rS,H',⟨oK⟩,⟨mK d⟩,⟨cB⟩⟩
     ·rw[if_neg ae]at H;have cd:decide (0<g)=false:=decide_eq_false ae;clear ae;have H':=aM H;clear H;have m:0≤(g:Int):=dA;have o:g<(b.length:Int):=dA;obtain⟨bq,ag,t⟩:=at_int HR0_0.out g m o;cases ag;replace t:=(bc HB t :);replace m:=eq_true m;replace o:=eq_true o
      go_wp2_with (first|((with_reducible refine gF 75 ?_);refine gX (some 16) Tryz.func75 (impl_HalfOk.calls ac.out) ?_;rintro w' ⟨nd,rfl⟩))
      go_roundg k1
      case measure=>exact oK
      case rel=>exact⟨(wrap64 (g+1)),rS,H',⟨oK⟩,⟨mK d⟩,⟨cB⟩⟩
    ·replace bp:=Bool.eq_false_iff.mpr bp;subst bp;replace H:=iF H;obtain rfl:=Option.some.inj H;have m:0≤(g:Int):=dA;have o:g<(b.length:Int):=dA;obtain⟨bq,ag,t⟩:=at_int HR0_0.out g m o;cases ag;replace t:=(bc HB t :);replace m:=eq_true m;replace o:=eq_true o
     go_wp2_with (first|((with_reducible refine gF 75 ?_);refine gX (some 16) Tryz.func75 (impl_HalfOk.calls ac.out) ?_;rintro w' ⟨nd,rfl⟩))
     go_ret;exact⟨rE,cB⟩
   ·rw[if_neg s]at H;have cc:=decide_eq_false s;clear s;have H':=aM H;clear H;obtain⟨cT,cU,cV,cW,cX,cY,cZ,c0⟩:=cz4 d;go_wp2
    go_loopg [36] k1 (fun kq c1 w'=> ∃ (l:Int),c1= .int .i64 l∧Aside0 (impl_ruleOk.l1 kq c (c.length:Int) l b c j z=some r)∧Aside0 (kq≤k1)∧Aside0 (w'.heap[bY]?=some (.cells #[(.slice bl b.length bm),(.slice bn c.length bo),.int .i64 j,.int .i64 z] 78 (0,0)))∧Aside0 (Below w.heap.size w w'))
    case atStart=>exact⟨(0),rS,H',⟨Nat.le_refl _⟩,⟨mK d⟩,⟨cB⟩⟩
    case round=>
     clear H';(try clear s);(try clear cc);(try clear dF);(try clear cv);(try clear dG);(try clear cw);(try clear bp);(try clear ae);(try clear cd);(try clear dH);(try clear cx);(try clear dI);(try clear cy);(try clear af);(try clear ce);(try clear cz cA cD cE);(try clear cL cM cN cO);(try clear cT cU cV cW);(try clear bZ b0 b1 b5);(try clear cF cG cI cJ);(try clear cP cQ cR cS);(try clear cX cY cZ c0);(try clear b8 b9 ca cb);(try clear t);(try clear al);(try clear m);(try clear J);(try clear o);(try clear L);obtain⟨l,rfl,HA,HK2,d,HB⟩:=hrel
     cases gk with
     | zero=>exact absurd HA.out (by simp[impl_ruleOk.l1])
     | succ k2=>
      have H:=HA.out;clear HA;simp only[impl_ruleOk.l1]at H;by_cases am:l<(c.length:Int)
      ·rw[if_pos am]at H;have c4:=decide_eq_true am;clear am;replace H:=gD H;obtain⟨dJ,H⟩:=H;replace H:=gD H;obtain⟨dK,H⟩:=H;replace H:=bE H;obtain⟨bC,cf,H⟩:=H;by_cases bv:bC=true
       ·subst bv;replace H:=iT H;have H':=aM H;clear H;obtain⟨c5,c6,c8,bG,c9,da,db,dc,dd,de⟩:=b6 HB (at_T118 HR0_1.out l);cases bG
        go_wp2_with (first|((with_reducible refine gN 6 ?_);(try(refine gate_guard (by rfl) ?_;dsimp only));refine boxZ 6 #[.int .i64 0,.int .i64 0,.int .i64 0,.int .i64 0,.int .i64 0,.int .i64 0] 118 ?_;intro df hg cp hbox hb;have ah:=aM hbox;have GW673:=gS hg;have GE673:=gS hg;replace HB:=sB hb;have bH:=nL hg d;have bI:=nG hg d;replace d:=kB d hb;clear hb hbox hg;have hnb23:=bI.out;have hnc23:=bH.out;obtain⟨dL,dM,dN,dO,dP,dQ,dS,dT,dU,dV,dX,dY⟩:=cz6 ah)|((with_reducible refine gF 107 ?_);refine gX (some 41) Tryz.func107 (impl_CondOk.calls cf.out) ?_;intro cs hb;replace d:=kB d hb;replace ah:=kP ah hb (.cells #[.int .i64 ((rd_T118 c l).f0),.int .i64 ((rd_T118 c l).f1.f0),.int .i64 ((rd_T118 c l).f1.f1),.int .i64 ((rd_T118 c l).f2),.int .i64 ((rd_T118 c l).f3.f0),.int .i64 ((rd_T118 c l).f3.f1)] 118 (0,0));replace HB:=sB hb;(try clear hb)))
        go_roundg k2
        case measure=>have:=HK1.out;have:=HK2.out;omega
        case rel=>exact⟨(wrap64 (l+1)),rS,H',⟨by have:=HK1.out;have:=HK2.out;omega⟩,⟨mK d⟩,⟨cB⟩⟩
       ·replace bv:=Bool.eq_false_iff.mpr bv;subst bv;replace H:=iF H;obtain rfl:=Option.some.inj H;obtain⟨c5,c6,c8,bG,c9,da,db,dc,dd,de⟩:=b6 HB (at_T118 HR0_1.out l);cases bG
        go_wp2_with (first|((with_reducible refine gN 6 ?_);(try(refine gate_guard (by rfl) ?_;dsimp only));refine boxZ 6 #[.int .i64 0,.int .i64 0,.int .i64 0,.int .i64 0,.int .i64 0,.int .i64 0] 118 ?_;intro df hg dZ hbox hb;have ah:=aM hbox;have GW673:=gS hg;have GE673:=gS hg;replace HB:=sB hb;have bH:=nL hg d;have bI:=nG hg d;replace d:=kB d hb;clear hb hbox hg;have hnb27:=bI.out;have hnc27:=bH.out;obtain⟨d0,d1,d2,d3,d4,d5,d6,d7,d8,d9,ea,eb⟩:=cz6 ah)|((with_reducible refine gF 107 ?_);refine gX (some 41) Tryz.func107 (impl_CondOk.calls cf.out) ?_;intro ec hb;replace d:=kB d hb;replace ah:=kP ah hb (.cells #[.int .i64 ((rd_T118 c l).f0),.int .i64 ((rd_T118 c l).f1.f0),.int .i64 ((rd_T118 c l).f1.f1),.int .i64 ((rd_T118 c l).f2),.int .i64 ((rd_T118 c l).f3.f0),.int .i64 ((rd_T118 c l).f3.f1)] 118 (0,0));replace HB:=sB hb;(try clear hb)))
        go_ret;exact⟨rE,cB⟩
      ·rw[if_neg am]at H;have c4:=decide_eq_false am;clear am;by_cases an:(b.length:Int)≤4
       ·rw[if_pos an]at H;have dg:=decide_eq_true an
        have dh:decide (b.length≤4)=true:=decide_eq_true (by omega)
        clear an;by_cases ao:(c.length:Int)≤3
        ·rw[if_pos ao]at H;have di:=decide_eq_true ao
         have dj:decide (c.length≤3)=true:=decide_eq_true (by omega)
         clear ao;replace H:=bE H;obtain⟨bT,dk,H⟩:=H;obtain rfl:=Option.some.inj H;obtain⟨ed,ee,ef,eg,eh,ei,ej,ek⟩:=cz4 d
         go_wp2_with (first|(go_at_call 76;(with_reducible refine(impl_actionOk.calls dk.out).mono ?_);rintro e w' ⟨rfl,⟨nd,rfl⟩⟩))
         go_ret;exact⟨rE,cB⟩
        ·rw[if_neg ao]at H;have di:=decide_eq_false ao
         have dj:decide (c.length≤3)=false:=decide_eq_false (by omega)
         clear ao;obtain rfl:=Option.some.inj H;obtain⟨el,em,en,eo,ep,eq,er,es⟩:=cz4 d;go_wp2;go_ret;exact⟨rE,cB⟩
       ·rw[if_neg an]at H;have dg:=decide_eq_false an
        have dh:decide (b.length≤4)=false:=decide_eq_false (by omega)
        clear an;obtain rfl:=Option.some.inj H;obtain⟨et,eu,ev,ew,ex,ey,ez,eA⟩:=cz4 d;go_wp2;go_ret;exact⟨rE,cB⟩
end Go.Proofs.YtpbalojiaghfhaaGreat.PFnCompiles
