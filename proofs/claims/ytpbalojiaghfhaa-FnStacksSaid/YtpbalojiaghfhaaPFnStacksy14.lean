import Derived.Test.YtpbalojiaghfhaaPFnStacksy0
import Derived.Test.YtpbalojiaghfhaaPFnStacksy1
import Derived.Test.YtpbalojiaghfhaaPFnStacksy9
import Derived.Test.YtpbalojiaghfhaaPFnStacksy13
namespace Go.Proofs.Ytpbalojiaghfhaa.PFnStacks
open Go.RowKit Go.Proofs.YtpbalojiaghfhaaW.PrintWords Go.Proofs.YtpbalojiaghfhaaW.PrintLast Go.Proofs.YtpbalojiaghfhaaW.PrintMore Go.Proofs.YtpbalojiaghfhaaW.Z
open Kd
attribute [local go_sem] isS max2_int min2_int max_two min_two max_three min_three max_four min_four
set_option linter.unusedVariables false
set_option linter.unusedSimpArgs false
attribute [local go_sem high] eqA34
theorem qh14x0 {P:Prop} (h:P:=by exact⟨(blk_cell a.out 0).trans rfl,(blk_cell a.out 1).trans rfl,(blk_cell a.out 2).trans rfl,(blk_cell a.out 3).trans rfl⟩):P:=h
def spec_PolicyLines.f (k:Nat) (d:Int) (b:Int) (c:Int) (j:List (S81)):Option ((List (S104))):=(spec_l11Word.f 1 1).bind fun s=>((spec_l11Asks.f 3 d (⟨#[112]⟩ :ByteArray) (⟨#[113]⟩ :ByteArray)).bind fun t=>((spec_l11Word.f 8 0).bind fun u=>((spec_l11Word.f 1 0).bind fun x=>((some (([(⟨s.1,(⟨s.2.1,s.2.2.1,s.2.2.2.1,s.2.2.2.2.1⟩ :S34),s.2.2.2.2.2.1,s.2.2.2.2.2.2⟩ :S104),(⟨t.1,(⟨t.2.1,t.2.2.1,t.2.2.2.1,t.2.2.2.2.1⟩ :S34),t.2.2.2.2.2.1,t.2.2.2.2.2.2⟩ :S104),(⟨(⟨#[113]⟩ :ByteArray),(⟨0,0,0,0⟩ :S34),(⟨#[]⟩ :ByteArray),(⟨#[]⟩ :ByteArray)⟩ :S104),(⟨u.1,(⟨u.2.1,u.2.2.1,u.2.2.2.1,u.2.2.2.2.1⟩ :S34),u.2.2.2.2.2.1,u.2.2.2.2.2.2⟩ :S104),(⟨(⟨#[112]⟩ :ByteArray),(⟨0,0,0,0⟩ :S34),(⟨#[]⟩ :ByteArray),(⟨#[]⟩ :ByteArray)⟩ :S104),(⟨x.1,(⟨x.2.1,x.2.2.1,x.2.2.2.1,x.2.2.2.2.1⟩ :S34),x.2.2.2.2.2.1,x.2.2.2.2.2.2⟩ :S104)] :List (S104)):List (S104))).bind fun J=>((spec_NumsOf.f k d b c j).bind fun aN=>((spec_TreeLines.f k d b c j aN (⟨#[116]⟩ :ByteArray)).bind fun y=>(if J.length+y.length<1759218604441 then(some (J ++ y))else(none))))))))
def spec_PolicyLines.T1:Bool×List (List Nat×List Nat):=(true,[([],[]),([],[]),([1],[1]),([2,0],[2]),([],[]),([3],[]),([],[]),([5],[]),([0,3,4,5,6,7],[0,3,4,5,6,7]),([8,7,0,1,2,3,4,5,6,7,8],[8])])
def spec_PolicyLines.B1:List Nat:=[0,0,2,7,0,15,0,47,255,511]
theorem spec_PolicyLines.tab1:rtab .any (opsOf Try.f102 1)=spec_PolicyLines.T1:=by kernel_rfl
theorem spec_PolicyLines.bits1:waitsOk spec_PolicyLines.T1.2 spec_PolicyLines.B1=true:=by kernel_rfl
theorem q14x0 {P:Prop} (h:P:=by
 rintro w' ⟨s0,s1,s2,s3⟩
 go_simp
 with_reducible rfl):P:=h
set_option maxHeartbeats 8000000 in
set_option maxRecDepth 100000 in
theorem spec_PolicyLines.calls {k:Nat}{d:Int}{b:Int}{c:Int}{L:Option Addr}{O:Nat}{j:List (S81)}{r:List (S104)}{w:World}(h:spec_PolicyLines.f k d b c j=some r)(aV:Kd.C k81 w L j.length j)(aW:j.length≤O) :
 Calls Try.prog 102 #[.agg #[.int .i64 d,.int .i64 b,.int .i64 c,.slice L j.length O]] w fun e w'=> ∃ v0_:Value,e= .returned (v0_)∧Kd.R k104 104 w' w.heap.size (fun _=>True) v0_ r∧Below w.heap.size w w':=by
 have hu41:=Try.underlying41;have hu104:=Try.underlying104;have HR0_3:=aM aV;have HC0_3:=aM aW;clear aV aW;have HB:=rW w
 unfold spec_PolicyLines.f at h;have H:=h
 clear h;replace H:=bE H;obtain⟨⟨U,W,X,Y,aa,ab,ac⟩,bh,H⟩:=H;(try dsimp only at H);replace H:=bE H;obtain⟨⟨ad,ae,af,ag,ah,ai,aj⟩,bi,H⟩:=H;(try dsimp only at H);replace H:=bE H;obtain⟨⟨ak,al,am,an,ao,ap,aq⟩,bj,H⟩:=H;(try dsimp only at H);replace H:=bE H;obtain⟨⟨ar,au,av,aw,ax,ay,az⟩,aA,H⟩:=H;(try dsimp only at H);replace H:=nE H;obtain⟨J,aX,H⟩:=H;replace H:=bE H;obtain⟨aN,bk,H⟩:=H;replace H:=bE H;obtain⟨y,bl,H⟩:=H;replace H:=gC H;obtain⟨aY,H⟩:=H;have bm:=aM aY;clear aY;obtain⟨bL,aZ⟩ : ∃ y_:List (S104),Aside0 (y_=(J ++ y)):=⟨_,⟨rfl⟩⟩;rw[← aZ.out]at H;obtain rfl:=Option.some.inj H;go_enter Try.func102,Try.ntmps102
 try go_wp2_with (first|((with_reducible refine gN 1 ?_);refine boxZ 1 #[.int .i64 d,.int .i64 b,.int .i64 c,.slice L j.length O] 41 ?_;intro q hg a0 hbox hb;have a:=aM hbox;have GW751:=gS hg;have GE751:=gS hg;replace HB:=sB hb;clear hb hbox hg))
 replace a:=dB a;replace HB:=dW HB
 refine sZ 10 (fun w'=>w'.cell? ⟨q,0,none⟩=some (.int .i64 d)∧w'.cell? ⟨q,1,none⟩=some (.int .i64 b)∧w'.cell? ⟨q,2,none⟩=some (.int .i64 c)∧w'.cell? ⟨q,3,none⟩=some (.slice L j.length O)) spec_PolicyLines.tab1 spec_PolicyLines.bits1 qh14x0 fun HT_ HW_ hHeld=>?_
 generalize a0.drew=bn at a HB hHeld ⊢;refine pureZ 1 (some 5) (msk 10 2) HT_.out ?_;refine pureZ 4 (some 8) (msk 10 18) HT_.out ?_;refine pureZ 6 (some 10) (msk 10 82) HT_.out ?_;refine takeZ 2 (some 6) (msk 10 86) HT_.out HW_.out hHeld (hy:=q14x0) (h:=?_)
 refine one_Z 0 (some 4) (msk 10 87) HT_.out fun K hK=>?_
 refine eX Try.func125 (spec_l11Word.calls bh.out) ?_
 intro bM hb;replace a:=kB a hb;replace HB:=sB hb;(try clear hb)
 refine hK.out _ _ qh14x0 (fun hHeld=>?_)
 clear hK K;refine normZ (some 4) ?_
 refine one_Z 3 (some 7) (msk 10 95) HT_.out fun K hK=>?_
 refine eX Try.func126 (spec_l11Asks.calls bi.out) ?_
 intro bN hb;replace a:=kB a hb;replace HB:=sB hb;(try clear hb)
 refine hK.out _ _ qh14x0 (fun hHeld=>?_)
 clear hK K;refine normZ (some 7) ?_
 refine one_Z 5 (some 9) (msk 10 127) HT_.out fun K hK=>?_
 refine eX Try.func125 (spec_l11Word.calls bj.out) ?_
 intro bO hb;replace a:=kB a hb;replace HB:=sB hb;(try clear hb)
 refine hK.out _ _ qh14x0 (fun hHeld=>?_)
 clear hK K;refine normZ (some 9) ?_
 refine one_Z 7 (some 11) (msk 10 255) HT_.out fun K hK=>?_
 refine eX Try.func125 (spec_l11Word.calls aA.out) ?_
 intro bP hb;replace a:=kB a hb;replace HB:=sB hb;(try clear hb)
 refine hK.out _ _ qh14x0 (fun hHeld=>?_)
 clear hK K;refine normZ (some 11) ?_
 refine one_Z 8 (some 12) (msk 10 511) HT_.out fun K hK=>?_
 refine R_lit_step k104 _ 104 ?hg (N:=12) ?hd (xs:=([(⟨U,(⟨W,X,Y,aa⟩ :S34),ab,ac⟩ :S104),(⟨ad,(⟨ae,af,ag,ah⟩ :S34),ai,aj⟩ :S104),(⟨(⟨#[113]⟩ :ByteArray),(⟨0,0,0,0⟩ :S34),(⟨#[]⟩ :ByteArray),(⟨#[]⟩ :ByteArray)⟩ :S104),(⟨ak,(⟨al,am,an,ao⟩ :S34),ap,aq⟩ :S104),(⟨(⟨#[112]⟩ :ByteArray),(⟨0,0,0,0⟩ :S34),(⟨#[]⟩ :ByteArray),(⟨#[]⟩ :ByteArray)⟩ :S104),(⟨ar,(⟨au,av,aw,ax⟩ :S34),ay,az⟩ :S104)] :List (S104))) (inner:=[.string U,.int .i64 W,.int .i64 X,.int .i64 Y,.int .i64 aa,.string ab,.string ac,.string ad,.int .i64 ae,.int .i64 af,.int .i64 ag,.int .i64 ah,.string ai,.string aj,.string (⟨#[113]⟩ :ByteArray),.int .i64 0,.int .i64 0,.int .i64 0,.int .i64 0,.string (⟨#[]⟩ :ByteArray),.string (⟨#[]⟩ :ByteArray),.string ak,.int .i64 al,.int .i64 am,.int .i64 an,.int .i64 ao,.string ap,.string aq,.string (⟨#[112]⟩ :ByteArray),.int .i64 0,.int .i64 0,.int .i64 0,.int .i64 0,.string (⟨#[]⟩ :ByteArray),.string (⟨#[]⟩ :ByteArray),.string ar,.int .i64 au,.int .i64 av,.int .i64 aw,.int .i64 ax,.string ay,.string az]) (ok:=fun _=>True) (okp:=fun _=>True) ?hr ?hp (fun _ hk=>hk) trivial (Below.refl _ _) (Nat.le_refl _) (by simp) ?_;(case hd=>rfl);(case hg=>rfl);(case hr=>first|(go_simp;done)|(go_simp;rfl));(case hp=>exact(Reps.c7 (show Kd.M k104 _ _ _ (⟨U,(⟨W,X,Y,aa⟩ :S34),ab,ac⟩ :S104) [.string U,.int .i64 W,.int .i64 X,.int .i64 Y,.int .i64 aa,.string ab,.string ac]from (k104_mkM _ _ _ (⟨U,(⟨W,X,Y,aa⟩ :S34),ab,ac⟩ :S104))) (Reps.c7 (show Kd.M k104 _ _ _ (⟨ad,(⟨ae,af,ag,ah⟩ :S34),ai,aj⟩ :S104) [.string ad,.int .i64 ae,.int .i64 af,.int .i64 ag,.int .i64 ah,.string ai,.string aj]from (k104_mkM _ _ _ (⟨ad,(⟨ae,af,ag,ah⟩ :S34),ai,aj⟩ :S104))) (Reps.c7 (show Kd.M k104 _ _ _ (⟨(⟨#[113]⟩ :ByteArray),(⟨0,0,0,0⟩ :S34),(⟨#[]⟩ :ByteArray),(⟨#[]⟩ :ByteArray)⟩ :S104) [.string (⟨#[113]⟩ :ByteArray),.int .i64 0,.int .i64 0,.int .i64 0,.int .i64 0,.string (⟨#[]⟩ :ByteArray),.string (⟨#[]⟩ :ByteArray)]from (k104_mkM _ _ _ (⟨(⟨#[113]⟩ :ByteArray),(⟨0,0,0,0⟩ :S34),(⟨#[]⟩ :ByteArray),(⟨#[]⟩ :ByteArray)⟩ :S104))) (Reps.c7 (show Kd.M k104 _ _ _ (⟨ak,(⟨al,am,an,ao⟩ :S34),ap,aq⟩ :S104) [.string ak,.int .i64 al,.int .i64 am,.int .i64 an,.int .i64 ao,.string ap,.string aq]from (k104_mkM _ _ _ (⟨ak,(⟨al,am,an,ao⟩ :S34),ap,aq⟩ :S104))) (Reps.c7 (show Kd.M k104 _ _ _ (⟨(⟨#[112]⟩ :ByteArray),(⟨0,0,0,0⟩ :S34),(⟨#[]⟩ :ByteArray),(⟨#[]⟩ :ByteArray)⟩ :S104) [.string (⟨#[112]⟩ :ByteArray),.int .i64 0,.int .i64 0,.int .i64 0,.int .i64 0,.string (⟨#[]⟩ :ByteArray),.string (⟨#[]⟩ :ByteArray)]from (k104_mkM _ _ _ (⟨(⟨#[112]⟩ :ByteArray),(⟨0,0,0,0⟩ :S34),(⟨#[]⟩ :ByteArray),(⟨#[]⟩ :ByteArray)⟩ :S104))) (Reps.c7 (show Kd.M k104 _ _ _ (⟨ar,(⟨au,av,aw,ax⟩ :S34),ay,az⟩ :S104) [.string ar,.int .i64 au,.int .i64 av,.int .i64 aw,.int .i64 ax,.string ay,.string az]from (k104_mkM _ _ _ (⟨ar,(⟨au,av,aw,ax⟩ :S34),ay,az⟩ :S104))) (Reps.none _ _))))))))
 intro bo bp aC hb hg_ hnew_;clear hg_ hnew_
 (first|rw[← aX.out]at aC|(simp only[Int.reduceToNat]at aC;rw[← aX.out]at aC))
 have l:=rL aC;replace a:=kB a hb;replace HB:=sB hb;clear hb aC
 refine hK.out _ _ qh14x0 (fun hHeld=>?_)
 clear hK K;refine normZ (some 12) ?_
 refine pureZ 9 (some 3) (msk 10 1023) HT_.out ?_
 refine done_ (done_of HT_.out (by kernel_rfl)) ?_
 try go_wp2
 replace l:=dR l;replace a:=dB a;replace HB:=dW HB
 refine start_ (n:=7) (S:=fun w'=>w'.cell? ⟨q,0,none⟩=some (.int .i64 d)∧w'.cell? ⟨q,1,none⟩=some (.int .i64 b)∧w'.cell? ⟨q,2,none⟩=some (.int .i64 c)∧w'.cell? ⟨q,3,none⟩=some (.slice L j.length O)) (ds:=[]) #[false,false,false,false,false,false,false] (by kernel_rfl) rfl rfl ⟨(blk_cell a.out 0).trans rfl,(blk_cell a.out 1).trans rfl,(blk_cell a.out 2).trans rfl,(blk_cell a.out 3).trans rfl⟩ (fun hHeld=>?_)
 generalize bp.drew=bQ at l a HB hHeld ⊢
 refine pure_ (i:=0) (N:=some 13) (v:=?_) (a':=?_) #[true,false,false,false,false,false,false] rfl rfl (by kernel_rfl) (fun _ _ _ h=>h) (Or.inl ⟨by rfl,?_⟩) ?_ ?_
 rotate_left
 ·intro w';go_simp;with_reducible rfl
 rotate_left
 ·simp only[Act.put,List.setIfInBounds_toArray,List.set_cons_zero,List.set_cons_succ,i64_w,i32_w];rfl
 refine take_ (i:=1) (N:=some 14) (v:=?_) (a':=?_) #[true,true,false,false,false,false,false] rfl rfl (by kernel_rfl) (fun _ _ _ h=>h) (Or.inl ⟨by rfl,?_⟩) hHeld ?_ ?_
 rotate_left
 ·rintro w' ⟨s0,s1,s2,s3⟩;go_simp;with_reducible rfl
 rotate_left
 ·simp only[Act.put,List.setIfInBounds_toArray,List.set_cons_zero,List.set_cons_succ,i64_w,i32_w];rfl
 refine take_ (i:=2) (N:=some 15) (v:=?_) (a':=?_) #[true,true,true,false,false,false,false] rfl rfl (by kernel_rfl) (fun _ _ _ h=>h) (Or.inl ⟨by rfl,?_⟩) hHeld ?_ ?_
 rotate_left
 ·rintro w' ⟨s0,s1,s2,s3⟩;go_simp;with_reducible rfl
 rotate_left
 ·simp only[Act.put,List.setIfInBounds_toArray,List.set_cons_zero,List.set_cons_succ,i64_w,i32_w];rfl
 refine one_ (i:=3) (N:=some 16) #[true,true,true,true,false,false,false] rfl rfl (by kernel_rfl) (by decide) (fun K hK=>?_)
 refine eY Try.func19 (spec_NumsOf.calls bk.out (cH HR0_3) HC0_3.out) ?_
 rintro bR bS ⟨D,hb⟩;replace l:=rB l hb;have z:=rL D;replace a:=kB a hb;replace HB:=sB hb;(try clear hb);(try clear D);obtain⟨bT,bU,a1⟩:=R_slice z.out
 (first|subst a1|(injection a1 with f1_ f2_ f3_;have f4_:=f1_.symm;have f5_:=f3_.symm;clear f1_ f2_ f3_;subst f4_;subst f5_))
 refine hK.out _ _ qh14x0 (fun hHeld=>?_)
 clear hK K;refine normZ (some 16) ?_
 refine one_ (i:=4) (N:=some 17) #[true,true,true,true,true,false,false] rfl rfl (by kernel_rfl) (by decide) (fun K hK=>?_)
 refine eY Try.func127 (spec_TreeLines.calls k d b c _ _ j _ _ aN (⟨#[116]⟩ :ByteArray) y _ (cH HR0_3) HC0_3.out (rX z) ((rY z)) bl.out) ?_
 rintro bV bW ⟨D,hb⟩;replace z:=rB z hb;have aD:=aM (R_lower (R_new' D (R_lt (mR l))) (below_size cB));replace l:=eB l (R_base D) hb;replace a:=kB a hb;replace HB:=sB hb;(try clear hb);(try clear D);obtain⟨bq,br,a2⟩:=R_slice aD.out
 (first|subst a2|(injection a2 with f1_ f2_ f3_;have f4_:=f1_.symm;have f5_:=f3_.symm;clear f1_ f2_ f3_;subst f4_;subst f5_))
 refine hK.out _ _ qh14x0 (fun hHeld=>?_)
 clear hK K;refine normZ (some 17) ?_
 refine one_ (i:=5) (N:=some 18) #[true,true,true,true,true,true,false] rfl rfl (by kernel_rfl) (by decide) (fun K hK=>?_)
 refine R_append_rows_step k104 (w0:=w) w.heap.size (by rfl) (.tmp 13) (.tmp 17) 75 104 (.agg #[(.string ⟨#[]⟩),(.int .i64 0),(.int .i64 0),(.int .i64 0),(.int .i64 0),(.string ⟨#[]⟩),(.string ⟨#[]⟩)]) 80 rfl Try.underlying75 info104 rfl (by decide) (by omega) bo J y _ _ _ (fun k_=>some k_≠(.slice bq y.length br:Value).ownBlock) (fun _=>False) rfl rfl ?aO ?aR (fun _ _ h=>h) (fun _ h=>h.elim) ?aF ?aB ?aS ?aL ?_
 (case aR=>exact rX aD)
 (case aB=>exact cB)
 (case aF=>exact(fun k_ hk=>Kd.fresh' (R_lt (mR aD)) k_ hk))
 (case aO=>exact(by exact rM l (fun _ hk=>hk.2)))
 (case aS=>exact(below_size cB))
 (case aL=>have:=bm.out;omega)
 intro bX bY ho hb hg hat;rw[← aZ.out]at ho
 replace a:=kN a hg l a
 replace z:=aM (R_over' (mR z) (R_typed (mR l)) (by decide) hg)
 replace aD:=aM (R_after (ok:=(fun _=>True)) (mR aD) hg hat)
 replace HB:=aM hb;have bs:=aM ho;clear l ho hb hg hat
 refine hK.out _ _ qh14x0 (fun hHeld=>?_)
 clear hK K;refine normZ (some 18) ?_
 refine pure_ (i:=6) (N:=some 2) (v:=?_) (a':=?_) #[true,true,true,true,true,true,true] rfl rfl (by kernel_rfl) (fun _ _ _ h=>h) (Or.inl ⟨by rfl,?_⟩) ?_ ?_
 rotate_left
 ·intro w';go_simp;with_reducible rfl
 rotate_left
 ·simp only[Act.put,List.setIfInBounds_toArray,List.set_cons_zero,List.set_cons_succ,i64_w,i32_w];rfl
 refine done_ (by kernel_rfl) ?_
 try go_wp2
 go_ret
 exact⟨_,rE,by(with_reducible repeat(first|apply R_alloc|apply R_drewN|apply R_drew));exact R_mono bs.out (fun _ hk=>trivial),cB⟩
def spec_l11Place.f (d:ByteArray) (b:Int) (c:Int) (E:Int) (G:Int) (aH:ByteArray) (aI:ByteArray):Option (Bool):=some (b == 0 && (c == 0 && (E == 0 && (G == 0))))
set_option maxHeartbeats 8000000 in
set_option maxRecDepth 100000 in
theorem spec_l11Place.calls {d:ByteArray}{b:Int}{c:Int}{E:Int}{G:Int}{aH:ByteArray}{aI:ByteArray}{r:Bool}{w:World}(h:spec_l11Place.f d b c E G aH aI=some r) :
 Calls Try.prog 143 #[.agg #[.string d,.int .i64 b,.int .i64 c,.int .i64 E,.int .i64 G,.string aH,.string aI]] w fun e w'=>e= .returned (.bool r)∧Below w.heap.size w w':=by
 have hu104:=Try.underlying104;have hu34:=Try.underlying34;have HB:=rW w;have H:(some (b == 0 && (c == 0 && (E == 0 && (G == 0)))))=some r:=h;clear h;obtain rfl:=Option.some.inj H;go_enter Try.func143,Try.ntmps143
 go_wp2_with (first|((with_reducible refine gN 1 ?_);refine boxZ 1 #[.string d,.int .i64 b,.int .i64 c,.int .i64 E,.int .i64 G,.string aH,.string aI] 104 ?_;intro bZ hg b0 hbox hb;have bu:=aM hbox;have GW792:=gS hg;have GE792:=gS hg;replace HB:=sB hb;clear hb hbox hg;obtain⟨b1,b5,b8,b9,ca,cb,cc,cd,ce,cf,cg,ch,ci,cj⟩:=cz7 bu))
 go_ret;exact⟨rE,cB⟩
def spec_l11At.l0:Nat→List (S104)→ByteArray→Int→Option (Int)
  | 0,_,_,_=>none
  | k+1,o,aP,g=>if g<(o.length:Int)then(if 0≤g then((spec_l11Place.f ((rd_T104 o g).f0) ((rd_T104 o g).f1.f0) ((rd_T104 o g).f1.f1) ((rd_T104 o g).f1.f2) ((rd_T104 o g).f1.f3) ((rd_T104 o g).f2) ((rd_T104 o g).f3)).bind fun aQ=>(if aQ=true then(if((rd_T104 o g).f0).toList=aP.toList then(some g)else(spec_l11At.l0 k o aP (wrap64 (g+1))))else(spec_l11At.l0 k o aP (wrap64 (g+1)))))else(none))else(some (-1))
def spec_l11At.f (k:Nat) (p:List (S104)) (A:ByteArray):Option (Int):=spec_l11At.l0 k p A 0
set_option maxHeartbeats 8000000 in
set_option maxRecDepth 100000 in
theorem spec_l11At.calls {k:Nat}{a3:Option Addr}{a4:Nat}{p:List (S104)}{A:ByteArray}{r:Int}{w:World}(h:spec_l11At.f k p A=some r)(a5:Kd.C k104 w a3 p.length p)(a6:p.length≤a4) :
 Calls Try.prog 144 #[.slice a3 p.length a4,.string A] w fun e w'=>e= .returned (.int .i64 r)∧Below w.heap.size w w':=by
 have hu104:=Try.underlying104;have HR0:=aM a5;have HC0:=aM a6;clear a5 a6;have HB:=rW w;have H:(spec_l11At.l0 k p A 0)=some r:=h;clear h;have H':=aM H;clear H;go_enter Try.func144,Try.ntmps144;go_wp2
 go_loopg [5] k (fun kq bv w'=> ∃ (m:Int),bv= .int .i64 m∧Aside0 (spec_l11At.l0 kq p A m=some r)∧Aside0 (kq≤k)∧Aside0 (Below w.heap.size w w'))
 case atStart=>exact⟨(0),rS,H',⟨Nat.le_refl _⟩,⟨cB⟩⟩
 case round=>
  clear H';obtain⟨m,rfl,HA,HK1,HB⟩:=hrel
  cases gk with
  | zero=>exact absurd HA.out (by simp[spec_l11At.l0])
  | succ k1=>
   have H:=HA.out;clear HA;simp only[spec_l11At.l0]at H;by_cases I:m<(p.length:Int)
   ·rw[if_pos I]at H;have bw:=decide_eq_true I;clear I;replace H:=gD H;obtain⟨ck,H⟩:=H;replace H:=bE H;obtain⟨aQ,aA,H⟩:=H;by_cases aJ:aQ=true
    ·subst aJ;replace H:=iT H;by_cases aE:((rd_T104 p m).f0).toList=A.toList
     ·rw[if_pos aE]at H;obtain⟨bx,bz⟩:=eT aE;clear aE;obtain rfl:=Option.some.inj H;obtain⟨a7,a8,aK,aG,a9,ba,bb,bd,be,bf,bg⟩:=b7 HB (at_T104 HR0.out m);cases aG
      go_wp2_with (first|((with_reducible refine gF 143 ?_);refine gX (some 16) Try.func143 (spec_l11Place.calls aA.out) ?_;intro cl hb;replace HB:=sB hb;(try clear hb);obtain⟨bA,bB,aT,aU,bC,bD,bF,bG,bH,bI,bJ⟩:=b7 HB (at_T104 HR0.out m);obtain rfl:aK=aT:=(by injection aU)))
      go_ret;exact⟨rE,cB⟩
     ·rw[if_neg aE]at H;obtain⟨bx,bz⟩:=eF aE;have H':=aM H;clear H;obtain⟨a7,a8,aK,aG,a9,ba,bb,bd,be,bf,bg⟩:=b7 HB (at_T104 HR0.out m);cases aG
      go_wp2_with (first|((with_reducible refine gF 143 ?_);refine gX (some 16) Try.func143 (spec_l11Place.calls aA.out) ?_;intro a0 hb;replace HB:=sB hb;(try clear hb);obtain⟨bA,bB,aT,aU,bC,bD,bF,bG,bH,bI,bJ⟩:=b7 HB (at_T104 HR0.out m);obtain rfl:aK=aT:=(by injection aU)))
      go_roundg k1
      case measure=>exact oK
      case rel=>exact⟨(wrap64 (m+1)),rS,H',⟨oK⟩,⟨cB⟩⟩
    ·replace aJ:=Bool.eq_false_iff.mpr aJ;subst aJ;replace H:=iF H;have H':=aM H;clear H;obtain⟨a7,a8,aK,aG,a9,ba,bb,bd,be,bf,bg⟩:=b7 HB (at_T104 HR0.out m);cases aG
     go_wp2_with (first|((with_reducible refine gF 143 ?_);refine gX (some 16) Try.func143 (spec_l11Place.calls aA.out) ?_;intro bn hb;replace HB:=sB hb;(try clear hb)))
     go_roundg k1
     case measure=>exact oK
     case rel=>exact⟨(wrap64 (m+1)),rS,H',⟨oK⟩,⟨cB⟩⟩
   ·rw[if_neg I]at H;have bw:=decide_eq_false I;clear I;obtain rfl:=Option.some.inj H;go_wp2;go_ret;exact⟨rE,cB⟩
end Go.Proofs.Ytpbalojiaghfhaa.PFnStacks
