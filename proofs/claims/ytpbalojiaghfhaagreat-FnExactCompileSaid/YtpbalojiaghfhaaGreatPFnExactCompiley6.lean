import Derived.Test.YtpbalojiaghfhaaGreatPFnExactCompiley0
import Derived.Test.YtpbalojiaghfhaaGreatPFnExactCompiley2
import Derived.Test.YtpbalojiaghfhaaGreatPFnExactCompiley5
namespace Go.Proofs.YtpbalojiaghfhaaGreat.PFnExactCompile
open Go.RowKit Go.Proofs.YtpbalojiaghfhaaGreatW.PrintWords Go.Proofs.YtpbalojiaghfhaaGreatW.PrintLast Go.Proofs.YtpbalojiaghfhaaGreatW.PrintMore Go.Proofs.YtpbalojiaghfhaaGreatW.Z
open Kd
attribute [local go_sem] isS max2_int min2_int max_two min_two max_three min_three max_four min_four
set_option linter.unusedVariables false
set_option linter.unusedSimpArgs false
theorem qh6x0 {P:Prop} (h:P:=by exact⟨(blk_cell a.out 0).trans rfl,(blk_cell a.out 1).trans rfl,(blk_cell a.out 2).trans rfl,(blk_cell a.out 3).trans rfl⟩):P:=h
def impl_PolicyLines.f (k:Nat) (b:Int) (d:Int) (g:Int) (c:List (S78)):Option ((List (S86))):=(impl_word.f 1 1).bind fun o=>((impl_ask.f 3 b (⟨#[112]⟩ :ByteArray) (⟨#[113]⟩ :ByteArray)).bind fun p=>((impl_place.f (⟨#[113]⟩ :ByteArray)).bind fun q=>((impl_word.f 8 0).bind fun s=>((impl_place.f (⟨#[112]⟩ :ByteArray)).bind fun t=>((impl_word.f 1 0).bind fun u=>((some (([(⟨o.1,(⟨o.2.1,o.2.2.1,o.2.2.2.1,o.2.2.2.2.1⟩ :S71),o.2.2.2.2.2.1,o.2.2.2.2.2.2⟩ :S86),(⟨p.1,(⟨p.2.1,p.2.2.1,p.2.2.2.1,p.2.2.2.2.1⟩ :S71),p.2.2.2.2.2.1,p.2.2.2.2.2.2⟩ :S86),(⟨q.1,(⟨q.2.1,q.2.2.1,q.2.2.2.1,q.2.2.2.2.1⟩ :S71),q.2.2.2.2.2.1,q.2.2.2.2.2.2⟩ :S86),(⟨s.1,(⟨s.2.1,s.2.2.1,s.2.2.2.1,s.2.2.2.2.1⟩ :S71),s.2.2.2.2.2.1,s.2.2.2.2.2.2⟩ :S86),(⟨t.1,(⟨t.2.1,t.2.2.1,t.2.2.2.1,t.2.2.2.2.1⟩ :S71),t.2.2.2.2.2.1,t.2.2.2.2.2.2⟩ :S86),(⟨u.1,(⟨u.2.1,u.2.2.1,u.2.2.2.1,u.2.2.2.2.1⟩ :S71),u.2.2.2.2.2.1,u.2.2.2.2.2.2⟩ :S86)] :List (S86)):List (S86))).bind fun aK=>((impl_NumsOf.f k b d g c).bind fun aN=>((impl_TreeLines.f k b d g c aN (⟨#[116]⟩ :ByteArray)).bind fun x=>(if aK.length+x.length<1759218604441 then(some (aK ++ x))else(none))))))))))
def impl_PolicyLines.T1:Bool×List (List Nat×List Nat):=(true,[([],[]),([],[]),([1],[1]),([2,0],[2]),([3],[]),([4],[]),([5],[]),([6],[]),([0,3,4,5,6,7],[0,3,4,5,6,7]),([8,7,0,1,2,3,4,5,6,7,8],[8])])
def impl_PolicyLines.B1:List Nat:=[0,0,2,7,15,31,63,127,255,511]
theorem impl_PolicyLines.tab1:rtab .any (opsOf Tryz.f23 1)=impl_PolicyLines.T1:=by kernel_rfl
theorem impl_PolicyLines.bits1:waitsOk impl_PolicyLines.T1.2 impl_PolicyLines.B1=true:=by kernel_rfl
theorem q6x0 {P:Prop} (h:P:=by
 rintro w' ⟨s0,s1,s2,s3⟩
 go_simp
 with_reducible rfl):P:=h
set_option maxHeartbeats 8000000 in
set_option maxRecDepth 100000 in
theorem impl_PolicyLines.calls (k:Nat) (b:Int) (d:Int) (g:Int) (y:Option Addr) (z:Nat) (c:List (S78)) (r:List (S86)) (w:World) (aZ:Kd.C k78 w y c.length c) (a0:c.length≤z) (h:impl_PolicyLines.f k b d g c=some r) :
 Calls Tryz.prog 23 #[.agg #[.int .i64 b,.int .i64 d,.int .i64 g,.slice y c.length z]] w fun e w'=> ∃ v0_:Value,e= .returned (v0_)∧Kd.R k86 86 w' w.heap.size (fun _=>True) v0_ r∧Below w.heap.size w w':=by
 have hu26:=Tryz.underlying26;have HR0_3:=aM aZ;have HC0_3:=aM a0;clear aZ a0;have HB:=aM (Below.refl w.heap.size w)
 unfold impl_PolicyLines.f at h;have H:=h
 clear h;replace H:=bE H;obtain⟨⟨D,E,G,I,J,L,O⟩,a6,H⟩:=H;(try dsimp only at H);replace H:=bE H;obtain⟨⟨U,W,X,Y,aa,ab,ac⟩,aU,H⟩:=H;(try dsimp only at H);replace H:=bE H;obtain⟨⟨ad,ae,af,ag,ah,ai,aj⟩,a7,H⟩:=H;(try dsimp only at H);replace H:=bE H;obtain⟨⟨ak,al,am,an,ao,ap,aq⟩,aW,H⟩:=H;(try dsimp only at H);replace H:=bE H;obtain⟨⟨ar,au,av,aw,ax,ay,az⟩,a8,H⟩:=H;(try dsimp only at H);replace H:=bE H;obtain⟨⟨aA,aC,aD,aE,aG,aH,aI⟩,a9,H⟩:=H;(try dsimp only at H);replace H:=nE H;obtain⟨aK,a1,H⟩:=H;replace H:=bE H;obtain⟨aN,ba,H⟩:=H;replace H:=bE H;obtain⟨x,bb,H⟩:=H;replace H:=gC H;obtain⟨a2,H⟩:=H;have bd:=aM a2;clear a2;obtain⟨bm,a3⟩ : ∃ y_:List (S86),Aside0 (y_=(aK ++ x)):=⟨_,⟨rfl⟩⟩;rw[← a3.out]at H;obtain rfl:=Option.some.inj H;go_enter Tryz.func23,Tryz.ntmps23
 try go_wp2_with (first|((with_reducible refine gN 1 ?_);refine boxZ 1 #[.int .i64 b,.int .i64 d,.int .i64 g,.slice y c.length z] 26 ?_;intro l hg be hbox hb;have a:=aM (hbox);have GW441:=gS hg;have GE441:=gS hg;replace HB:=sB hb;clear hb hbox hg))
 replace a:=aM (blk_drew a.out);replace HB:=aM (below_drew1 HB.out)
 refine start_ (n:=10) (S:=fun w'=>w'.cell? ⟨l,0,none⟩=some (.int .i64 b)∧w'.cell? ⟨l,1,none⟩=some (.int .i64 d)∧w'.cell? ⟨l,2,none⟩=some (.int .i64 g)∧w'.cell? ⟨l,3,none⟩=some (.slice y c.length z)) (ds:=[]) #[false,false,false,false,false,false,false,false,false,false] (by kernel_rfl) rfl rfl ⟨(blk_cell a.out 0).trans rfl,(blk_cell a.out 1).trans rfl,(blk_cell a.out 2).trans rfl,(blk_cell a.out 3).trans rfl⟩ (fun hHeld=>?_);refine with_tabW impl_PolicyLines.tab1 impl_PolicyLines.bits1 (fun HT_ HW_=>?_)
 generalize be.drew=bn at a HB hHeld ⊢;refine pureZ 1 (some 5) (msk 10 2) HT_.out ?_;refine takeZ 2 (some 6) (msk 10 6) HT_.out HW_.out hHeld (hy:=q6x0) (h:=?_)
 refine one_Z 0 (some 4) (msk 10 7) HT_.out fun K hK=>?_
 refine goE Tryz.func56 #[.int .i64 1,.int .i64 1] ?_
 with_reducible refine(impl_word.calls 1 1 D E G I J L O _ a6.out).mono ?_;rintro e bo ⟨rfl,hb⟩;refine⟨_,rfl,?_⟩;replace a:=kB a hb;replace HB:=sB hb;(try clear hb)
 refine hK.out _ _ qh6x0 (fun hHeld=>?_)
 clear hK K;refine normZ (some 4) ?_
 refine one_Z 3 (some 7) (msk 10 15) HT_.out fun K hK=>?_
 refine goE Tryz.func61 #[.int .i64 3,.int .i64 b,.string (⟨#[112]⟩ :ByteArray),.string (⟨#[113]⟩ :ByteArray)] ?_
 with_reducible refine(impl_ask.calls 3 b (⟨#[112]⟩ :ByteArray) (⟨#[113]⟩ :ByteArray) U W X Y aa ab ac _ aU.out).mono ?_;rintro e bp ⟨rfl,hb⟩;refine⟨_,rfl,?_⟩;replace a:=kB a hb;replace HB:=sB hb;(try clear hb)
 refine hK.out _ _ qh6x0 (fun hHeld=>?_)
 clear hK K;refine normZ (some 7) ?_
 refine one_Z 4 (some 8) (msk 10 31) HT_.out fun K hK=>?_
 refine goE Tryz.func55 #[.string (⟨#[113]⟩ :ByteArray)] ?_
 with_reducible refine(impl_place.calls (⟨#[113]⟩ :ByteArray) ad ae af ag ah ai aj _ a7.out).mono ?_;rintro e bq ⟨rfl,hb⟩;refine⟨_,rfl,?_⟩;replace a:=kB a hb;replace HB:=sB hb;(try clear hb)
 refine hK.out _ _ qh6x0 (fun hHeld=>?_)
 clear hK K;refine normZ (some 8) ?_
 refine one_Z 5 (some 9) (msk 10 63) HT_.out fun K hK=>?_
 refine goE Tryz.func56 #[.int .i64 8,.int .i64 0] ?_
 with_reducible refine(impl_word.calls 8 0 ak al am an ao ap aq _ aW.out).mono ?_;rintro e br ⟨rfl,hb⟩;refine⟨_,rfl,?_⟩;replace a:=kB a hb;replace HB:=sB hb;(try clear hb)
 refine hK.out _ _ qh6x0 (fun hHeld=>?_)
 clear hK K;refine normZ (some 9) ?_
 refine one_Z 6 (some 10) (msk 10 127) HT_.out fun K hK=>?_
 refine goE Tryz.func55 #[.string (⟨#[112]⟩ :ByteArray)] ?_
 with_reducible refine(impl_place.calls (⟨#[112]⟩ :ByteArray) ar au av aw ax ay az _ a8.out).mono ?_;rintro e bs ⟨rfl,hb⟩;refine⟨_,rfl,?_⟩;replace a:=kB a hb;replace HB:=sB hb;(try clear hb)
 refine hK.out _ _ qh6x0 (fun hHeld=>?_)
 clear hK K;refine normZ (some 10) ?_
 refine one_Z 7 (some 11) (msk 10 255) HT_.out fun K hK=>?_
 refine goE Tryz.func56 #[.int .i64 1,.int .i64 0] ?_
 with_reducible refine(impl_word.calls 1 0 aA aC aD aE aG aH aI _ a9.out).mono ?_;rintro e bu ⟨rfl,hb⟩;refine⟨_,rfl,?_⟩;replace a:=kB a hb;replace HB:=sB hb;(try clear hb)
 refine hK.out _ _ qh6x0 (fun hHeld=>?_)
 clear hK K;refine normZ (some 11) ?_
 refine one_Z 8 (some 12) (msk 10 511) HT_.out fun K hK=>?_
 refine R_lit_step k86 _ 86 ?hg (N:=12) ?hd (xs:=([(⟨D,(⟨E,G,I,J⟩ :S71),L,O⟩ :S86),(⟨U,(⟨W,X,Y,aa⟩ :S71),ab,ac⟩ :S86),(⟨ad,(⟨ae,af,ag,ah⟩ :S71),ai,aj⟩ :S86),(⟨ak,(⟨al,am,an,ao⟩ :S71),ap,aq⟩ :S86),(⟨ar,(⟨au,av,aw,ax⟩ :S71),ay,az⟩ :S86),(⟨aA,(⟨aC,aD,aE,aG⟩ :S71),aH,aI⟩ :S86)] :List (S86))) (inner:=[.string D,.int .i64 E,.int .i64 G,.int .i64 I,.int .i64 J,.string L,.string O,.string U,.int .i64 W,.int .i64 X,.int .i64 Y,.int .i64 aa,.string ab,.string ac,.string ad,.int .i64 ae,.int .i64 af,.int .i64 ag,.int .i64 ah,.string ai,.string aj,.string ak,.int .i64 al,.int .i64 am,.int .i64 an,.int .i64 ao,.string ap,.string aq,.string ar,.int .i64 au,.int .i64 av,.int .i64 aw,.int .i64 ax,.string ay,.string az,.string aA,.int .i64 aC,.int .i64 aD,.int .i64 aE,.int .i64 aG,.string aH,.string aI]) (ok:=fun _=>True) (okp:=fun _=>True) ?hr ?hp (fun _ hk=>hk) trivial (Below.refl _ _) (Nat.le_refl _) (by simp) ?_;(case hd=>rfl);(case hg=>rfl);(case hr=>first|(go_simp;done)|(go_simp;rfl));(case hp=>exact(Reps.c7 (show Kd.M k86 _ _ _ (⟨D,(⟨E,G,I,J⟩ :S71),L,O⟩ :S86) [.string D,.int .i64 E,.int .i64 G,.int .i64 I,.int .i64 J,.string L,.string O]from (k86_mkM _ _ _ (⟨D,(⟨E,G,I,J⟩ :S71),L,O⟩ :S86))) (Reps.c7 (show Kd.M k86 _ _ _ (⟨U,(⟨W,X,Y,aa⟩ :S71),ab,ac⟩ :S86) [.string U,.int .i64 W,.int .i64 X,.int .i64 Y,.int .i64 aa,.string ab,.string ac]from (k86_mkM _ _ _ (⟨U,(⟨W,X,Y,aa⟩ :S71),ab,ac⟩ :S86))) (Reps.c7 (show Kd.M k86 _ _ _ (⟨ad,(⟨ae,af,ag,ah⟩ :S71),ai,aj⟩ :S86) [.string ad,.int .i64 ae,.int .i64 af,.int .i64 ag,.int .i64 ah,.string ai,.string aj]from (k86_mkM _ _ _ (⟨ad,(⟨ae,af,ag,ah⟩ :S71),ai,aj⟩ :S86))) (Reps.c7 (show Kd.M k86 _ _ _ (⟨ak,(⟨al,am,an,ao⟩ :S71),ap,aq⟩ :S86) [.string ak,.int .i64 al,.int .i64 am,.int .i64 an,.int .i64 ao,.string ap,.string aq]from (k86_mkM _ _ _ (⟨ak,(⟨al,am,an,ao⟩ :S71),ap,aq⟩ :S86))) (Reps.c7 (show Kd.M k86 _ _ _ (⟨ar,(⟨au,av,aw,ax⟩ :S71),ay,az⟩ :S86) [.string ar,.int .i64 au,.int .i64 av,.int .i64 aw,.int .i64 ax,.string ay,.string az]from (k86_mkM _ _ _ (⟨ar,(⟨au,av,aw,ax⟩ :S71),ay,az⟩ :S86))) (Reps.c7 (show Kd.M k86 _ _ _ (⟨aA,(⟨aC,aD,aE,aG⟩ :S71),aH,aI⟩ :S86) [.string aA,.int .i64 aC,.int .i64 aD,.int .i64 aE,.int .i64 aG,.string aH,.string aI]from (k86_mkM _ _ _ (⟨aA,(⟨aC,aD,aE,aG⟩ :S71),aH,aI⟩ :S86))) (Reps.none _ _))))))))
 intro bf bg aP hb hg_ hnew_;clear hg_ hnew_
 (first|rw[← a1.out]at aP|(simp only[Int.reduceToNat]at aP;rw[← a1.out]at aP))
 have j:=aM (R_lower aP (below_size cB));replace a:=kB a hb;replace HB:=sB hb;clear hb aP
 refine hK.out _ _ qh6x0 (fun hHeld=>?_)
 clear hK K;refine normZ (some 12) ?_
 refine pureZ 9 (some 3) (msk 10 1023) HT_.out ?_
 refine done_ (done_of HT_.out (by kernel_rfl)) ?_
 try go_wp2
 replace j:=aM (R_drew j.out);replace a:=aM (blk_drew a.out);replace HB:=aM (below_drew1 HB.out)
 refine start_ (n:=7) (S:=fun w'=>w'.cell? ⟨l,0,none⟩=some (.int .i64 b)∧w'.cell? ⟨l,1,none⟩=some (.int .i64 d)∧w'.cell? ⟨l,2,none⟩=some (.int .i64 g)∧w'.cell? ⟨l,3,none⟩=some (.slice y c.length z)) (ds:=[]) #[false,false,false,false,false,false,false] (by kernel_rfl) rfl rfl ⟨(blk_cell a.out 0).trans rfl,(blk_cell a.out 1).trans rfl,(blk_cell a.out 2).trans rfl,(blk_cell a.out 3).trans rfl⟩ (fun hHeld=>?_)
 generalize bg.drew=bv at j a HB hHeld ⊢
 refine pure_ (i:=0) (N:=some 13) (v:=?_) (a':=?_) #[true,false,false,false,false,false,false] rfl rfl (by kernel_rfl) (fun _ _ _ h=>h) (Or.inl ⟨by rfl,?_⟩) ?_ ?_
 rotate_left
 ·intro w';go_simp;with_reducible rfl
 rotate_left
 ·simp only[Act.put,List.setIfInBounds_toArray,List.set_cons_zero,List.set_cons_succ,i64_w,i32_w];rfl
 refine take_ (i:=1) (N:=some 14) (v:=?_) (a':=?_) #[true,true,false,false,false,false,false] rfl rfl (by kernel_rfl) (fun _ _ _ h=>h) (Or.inl ⟨by rfl,?_⟩) hHeld ?_ ?_
 rotate_left
 ·rintro w' ⟨s0,s1,s2,s3⟩;go_simp;with_reducible rfl
 rotate_left
 ·simp only[Act.put,List.setIfInBounds_toArray,List.set_cons_zero,List.set_cons_succ,i64_w,i32_w];rfl
 refine take_ (i:=2) (N:=some 15) (v:=?_) (a':=?_) #[true,true,true,false,false,false,false] rfl rfl (by kernel_rfl) (fun _ _ _ h=>h) (Or.inl ⟨by rfl,?_⟩) hHeld ?_ ?_
 rotate_left
 ·rintro w' ⟨s0,s1,s2,s3⟩;go_simp;with_reducible rfl
 rotate_left
 ·simp only[Act.put,List.setIfInBounds_toArray,List.set_cons_zero,List.set_cons_succ,i64_w,i32_w];rfl
 refine one_ (i:=3) (N:=some 16) #[true,true,true,true,false,false,false] rfl rfl (by kernel_rfl) (by decide) (fun K hK=>?_)
 refine goE Tryz.func26 #[.agg #[.int .i64 b,.int .i64 d,.int .i64 g,.slice y c.length z]] ?_
 with_reducible refine(impl_NumsOf.calls k b d g _ _ c aN _ ?side1 ?side2 ba.out).mono ?_
 (case side1=>exact cC (C_below HR0_3.out HB.out))
 (case side2=>exact HC0_3.out)
 rintro e bw ⟨bx,rfl,aJ,hb⟩;refine⟨_,rfl,?_⟩;replace j:=rB j hb;have A:=aM (R_lower aJ (below_size cB));replace a:=kB a hb;replace HB:=sB hb;(try clear hb);(try clear aJ);obtain⟨bh,bi,a4⟩:=R_slice A.out
 (first|subst a4|(injection a4 with f1_ f2_ f3_;have f4_:=f1_.symm;have f5_:=f3_.symm;clear f1_ f2_ f3_;subst f4_;subst f5_))
 refine hK.out _ _ qh6x0 (fun hHeld=>?_)
 clear hK K;refine normZ (some 16) ?_
 refine one_ (i:=4) (N:=some 17) #[true,true,true,true,true,false,false] rfl rfl (by kernel_rfl) (by decide) (fun K hK=>?_)
 refine goE Tryz.func21 #[.agg #[.int .i64 b,.int .i64 d,.int .i64 g,.slice y c.length z],.slice bh aN.length bi,.string (⟨#[116]⟩ :ByteArray)] ?_
 with_reducible refine(impl_TreeLines.calls k b d g _ _ c _ _ aN (⟨#[116]⟩ :ByteArray) x _ ?side1 ?side2 ?side3 ?side4 bb.out).mono ?_
 (case side1=>exact cC (C_below HR0_3.out HB.out))
 (case side2=>exact HC0_3.out)
 (case side3=>exact cC ((R_reads' A.out).2.2))
 (case side4=>exact(R_reads' A.out).2.1)
 rintro e bz ⟨bA,rfl,aJ,hb⟩;refine⟨_,rfl,?_⟩;replace A:=rB A hb;have aQ:=aM (R_lower (R_new' aJ (R_lt (mR j))) (below_size cB));replace j:=eB j (R_base aJ) hb;replace a:=kB a hb;replace HB:=sB hb;(try clear hb);(try clear aJ);obtain⟨bj,bk,a5⟩:=R_slice aQ.out
 (first|subst a5|(injection a5 with f1_ f2_ f3_;have f4_:=f1_.symm;have f5_:=f3_.symm;clear f1_ f2_ f3_;subst f4_;subst f5_))
 refine hK.out _ _ qh6x0 (fun hHeld=>?_)
 clear hK K;refine normZ (some 17) ?_
 refine one_ (i:=5) (N:=some 18) #[true,true,true,true,true,true,false] rfl rfl (by kernel_rfl) (by decide) (fun K hK=>?_)
 refine R_append_rows_step k86 (w0:=w) w.heap.size (by rfl) (.tmp 13) (.tmp 17) 47 86 (.agg #[(.string ⟨#[]⟩),(.int .i64 0),(.int .i64 0),(.int .i64 0),(.int .i64 0),(.string ⟨#[]⟩),(.string ⟨#[]⟩)]) 80 rfl Tryz.underlying47 info86 rfl (by decide) (by omega) bf aK x _ _ _ (fun k_=>some k_≠(.slice bj x.length bk:Value).ownBlock) (fun _=>False) rfl rfl ?aO ?aR (fun _ _ h=>h) (fun _ h=>h.elim) ?aF ?aB ?aS ?aL ?_
 (case aR=>exact cC ((R_reads' aQ.out).2.2))
 (case aB=>exact cB)
 (case aF=>exact(fun k_ hk=>Kd.fresh' (R_lt (mR aQ)) k_ hk))
 (case aO=>exact(by(with_reducible repeat(first|apply R_alloc|apply R_drewN|apply R_drew));exact R_mono j.out (fun _ hk=>hk.2)))
 (case aS=>exact(below_size cB))
 (case aL=>have:=bd.out;omega)
 intro bB bC ho hb hg hat;rw[← a3.out]at ho
 replace a:=aM (blk_grown (mK a) hg (R_ne j.out a.out (by decide)))
 replace A:=aM (R_over' (mR A) (R_typed (mR j)) (by decide) hg)
 replace aQ:=aM (R_after (ok:=(fun _=>True)) (mR aQ) hg hat)
 replace HB:=aM (hb);have bl:=aM (ho);clear j ho hb hg hat
 refine hK.out _ _ qh6x0 (fun hHeld=>?_)
 clear hK K;refine normZ (some 18) ?_
 refine pure_ (i:=6) (N:=some 2) (v:=?_) (a':=?_) #[true,true,true,true,true,true,true] rfl rfl (by kernel_rfl) (fun _ _ _ h=>h) (Or.inl ⟨by rfl,?_⟩) ?_ ?_
 rotate_left
 ·intro w';go_simp;with_reducible rfl
 rotate_left
 ·simp only[Act.put,List.setIfInBounds_toArray,List.set_cons_zero,List.set_cons_succ,i64_w,i32_w];rfl
 refine done_ (by kernel_rfl) ?_
 try go_wp2
 go_ret
 exact⟨_,rE,by(with_reducible repeat(first|apply R_alloc|apply R_drewN|apply R_drew));exact R_mono bl.out (fun _ hk=>trivial),cB⟩
def impl_actionOk.f (m:Int) (aT:Int):Option (Bool):=(impl_within.f m 0 5).bind fun aX=>(if aX=true then((impl_within.f aT 0 65535).bind fun aY=>(some aY))else(some false))
set_option maxHeartbeats 8000000 in
set_option maxRecDepth 100000 in
theorem impl_actionOk.calls (m:Int) (aT:Int) (r:Bool) (w:World) (h:impl_actionOk.f m aT=some r) :
 Calls Tryz.prog 76 #[.int .i64 m,.int .i64 aT] w fun e w'=>e= .returned (.bool r)∧Drawn0 w w':=by
 unfold impl_actionOk.f at h;have H:=h
 clear h;replace H:=bE H;obtain⟨aX,aU,H⟩:=H;by_cases aV:aX=true
 ·subst aV;replace H:=iT H;replace H:=bE H;obtain⟨aY,aW,H⟩:=H;obtain rfl:=Option.some.inj H;go_enter Tryz.func76,Tryz.ntmps76
  go_wp2_with (first|((with_reducible refine gF 81 ?_);refine goZ (some 6) Tryz.func81 #[.int .i64 m,.int .i64 0,.int .i64 5] ?_;(with_reducible refine(impl_within.calls m 0 5 true _ aU.out).mono ?_);rintro e w' ⟨rfl,⟨nd,rfl⟩⟩;refine⟨_,rfl,?_⟩)|(go_at_call 81;(with_reducible refine(impl_within.calls aT 0 65535 aY _ aW.out).mono ?_);rintro e w' ⟨rfl,⟨nd,rfl⟩⟩))
  go_ret
  exact⟨by first|rfl|(simp;done)|(simp[*];done),by repeat(first|exact Drawn0.refl _|apply Drawn0.step)⟩
 ·replace aV:=Bool.eq_false_iff.mpr aV;subst aV;replace H:=iF H;obtain rfl:=Option.some.inj H;go_enter Tryz.func76,Tryz.ntmps76
  go_wp2_with (first|((with_reducible refine gF 81 ?_);refine goZ (some 6) Tryz.func81 #[.int .i64 m,.int .i64 0,.int .i64 5] ?_;(with_reducible refine(impl_within.calls m 0 5 false _ aU.out).mono ?_);rintro e w' ⟨rfl,⟨nd,rfl⟩⟩;refine⟨_,rfl,?_⟩))
  go_ret
  exact⟨by first|rfl|(simp;done)|(simp[*];done),by repeat(first|exact Drawn0.refl _|apply Drawn0.step)⟩
end Go.Proofs.YtpbalojiaghfhaaGreat.PFnExactCompile
