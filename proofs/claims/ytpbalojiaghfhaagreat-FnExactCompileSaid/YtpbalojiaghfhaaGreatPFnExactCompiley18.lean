import Derived.Test.YtpbalojiaghfhaaGreatPFnExactCompiley0
import Derived.Test.YtpbalojiaghfhaaGreatPFnExactCompiley12
import Derived.Test.YtpbalojiaghfhaaGreatPFnExactCompiley13
import Derived.Test.YtpbalojiaghfhaaGreatPFnExactCompiley16
import Derived.Test.YtpbalojiaghfhaaGreatPFnExactCompiley17
namespace Go.Proofs.YtpbalojiaghfhaaGreat.PFnExactCompile
open Go.RowKit Go.Proofs.YtpbalojiaghfhaaGreatW.PrintWords Go.Proofs.YtpbalojiaghfhaaGreatW.PrintLast Go.Proofs.YtpbalojiaghfhaaGreatW.PrintMore Go.Proofs.YtpbalojiaghfhaaGreatW.Z
open Kd
attribute [local go_sem] isS max2_int min2_int max_two min_two max_three min_three max_four min_four
set_option linter.unusedVariables false
set_option linter.unusedSimpArgs false
theorem qh18x0 {P:Prop} (h:P:=by exact⟨(blk_cell a.out 0).trans rfl,(blk_cell a.out 1).trans rfl,(blk_cell a.out 2).trans rfl,(blk_cell a.out 3).trans rfl⟩):P:=h
def spec_PolicyLines.f (k:Nat) (b:Int) (d:Int) (g:Int) (c:List (S78)):Option ((List (S86))):=(spec_l11Word.f 1 1).bind fun o=>((spec_l11Asks.f 3 b (⟨#[112]⟩ :ByteArray) (⟨#[113]⟩ :ByteArray)).bind fun p=>((spec_l11Word.f 8 0).bind fun q=>((spec_l11Word.f 1 0).bind fun s=>((some (([(⟨o.1,(⟨o.2.1,o.2.2.1,o.2.2.2.1,o.2.2.2.2.1⟩ :S71),o.2.2.2.2.2.1,o.2.2.2.2.2.2⟩ :S86),(⟨p.1,(⟨p.2.1,p.2.2.1,p.2.2.2.1,p.2.2.2.2.1⟩ :S71),p.2.2.2.2.2.1,p.2.2.2.2.2.2⟩ :S86),(⟨(⟨#[113]⟩ :ByteArray),(⟨0,0,0,0⟩ :S71),(⟨#[]⟩ :ByteArray),(⟨#[]⟩ :ByteArray)⟩ :S86),(⟨q.1,(⟨q.2.1,q.2.2.1,q.2.2.2.1,q.2.2.2.2.1⟩ :S71),q.2.2.2.2.2.1,q.2.2.2.2.2.2⟩ :S86),(⟨(⟨#[112]⟩ :ByteArray),(⟨0,0,0,0⟩ :S71),(⟨#[]⟩ :ByteArray),(⟨#[]⟩ :ByteArray)⟩ :S86),(⟨s.1,(⟨s.2.1,s.2.2.1,s.2.2.2.1,s.2.2.2.2.1⟩ :S71),s.2.2.2.2.2.1,s.2.2.2.2.2.2⟩ :S86)] :List (S86)):List (S86))).bind fun aq=>((spec_NumsOf.f k b d g c).bind fun ar=>((spec_TreeLines.f k b d g c ar (⟨#[116]⟩ :ByteArray)).bind fun t=>(if aq.length+t.length<1759218604441 then(some (aq ++ t))else(none))))))))
def spec_PolicyLines.T1:Bool×List (List Nat×List Nat):=(true,[([],[]),([],[]),([1],[1]),([2,0],[2]),([],[]),([3],[]),([],[]),([5],[]),([0,3,4,5,6,7],[0,3,4,5,6,7]),([8,7,0,1,2,3,4,5,6,7,8],[8])])
def spec_PolicyLines.B1:List Nat:=[0,0,2,7,0,15,0,47,255,511]
theorem spec_PolicyLines.tab1:rtab .any (opsOf Tryz.f24 1)=spec_PolicyLines.T1:=by kernel_rfl
theorem spec_PolicyLines.bits1:waitsOk spec_PolicyLines.T1.2 spec_PolicyLines.B1=true:=by kernel_rfl
theorem q18x0 {P:Prop} (h:P:=by
 rintro w' ⟨s0,s1,s2,s3⟩
 go_simp
 with_reducible rfl):P:=h
set_option maxHeartbeats 8000000 in
set_option maxRecDepth 100000 in
theorem spec_PolicyLines.calls (k:Nat) (b:Int) (d:Int) (g:Int) (u:Option Addr) (x:Nat) (c:List (S78)) (r:List (S86)) (w:World) (aD:Kd.C k78 w u c.length c) (aE:c.length≤x) (h:spec_PolicyLines.f k b d g c=some r) :
 Calls Tryz.prog 24 #[.agg #[.int .i64 b,.int .i64 d,.int .i64 g,.slice u c.length x]] w fun e w'=> ∃ v0_:Value,e= .returned (v0_)∧Kd.R k86 86 w' w.heap.size (fun _=>True) v0_ r∧Below w.heap.size w w':=by
 have hu26:=Tryz.underlying26;have hu86:=Tryz.underlying86;have HR0_3:=aM aD;have HC0_3:=aM aE;clear aD aE;have HB:=aM (Below.refl w.heap.size w)
 unfold spec_PolicyLines.f at h;have H:=h
 clear h;replace H:=bE H;obtain⟨⟨z,A,D,E,G,I,J⟩,aN,H⟩:=H;(try dsimp only at H);replace H:=bE H;obtain⟨⟨L,O,U,W,X,Y,aa⟩,ax,H⟩:=H;(try dsimp only at H);replace H:=bE H;obtain⟨⟨ab,ac,ad,ae,af,ag,ah⟩,aP,H⟩:=H;(try dsimp only at H);replace H:=bE H;obtain⟨⟨ai,aj,ak,al,am,an,ao⟩,az,H⟩:=H;(try dsimp only at H);replace H:=nE H;obtain⟨aq,aG,H⟩:=H;replace H:=bE H;obtain⟨ar,aQ,H⟩:=H;replace H:=bE H;obtain⟨t,aT,H⟩:=H;replace H:=gC H;obtain⟨aH,H⟩:=H;have aU:=aM aH;clear aH;obtain⟨a3,aI⟩ : ∃ y_:List (S86),Aside0 (y_=(aq ++ t)):=⟨_,⟨rfl⟩⟩;rw[← aI.out]at H;obtain rfl:=Option.some.inj H;go_enter Tryz.func24,Tryz.ntmps24
 try go_wp2_with (first|((with_reducible refine gN 1 ?_);refine boxZ 1 #[.int .i64 b,.int .i64 d,.int .i64 g,.slice u c.length x] 26 ?_;intro l hg aV hbox hb;have a:=aM (hbox);have GW943:=gS hg;have GE943:=gS hg;replace HB:=sB hb;clear hb hbox hg))
 replace a:=aM (blk_drew a.out);replace HB:=aM (below_drew1 HB.out)
 refine start_ (n:=10) (S:=fun w'=>w'.cell? ⟨l,0,none⟩=some (.int .i64 b)∧w'.cell? ⟨l,1,none⟩=some (.int .i64 d)∧w'.cell? ⟨l,2,none⟩=some (.int .i64 g)∧w'.cell? ⟨l,3,none⟩=some (.slice u c.length x)) (ds:=[]) #[false,false,false,false,false,false,false,false,false,false] (by kernel_rfl) rfl rfl ⟨(blk_cell a.out 0).trans rfl,(blk_cell a.out 1).trans rfl,(blk_cell a.out 2).trans rfl,(blk_cell a.out 3).trans rfl⟩ (fun hHeld=>?_);refine with_tabW spec_PolicyLines.tab1 spec_PolicyLines.bits1 (fun HT_ HW_=>?_)
 generalize aV.drew=a4 at a HB hHeld ⊢;refine pureZ 1 (some 5) (msk 10 2) HT_.out ?_;refine pureZ 4 (some 8) (msk 10 18) HT_.out ?_;refine pureZ 6 (some 10) (msk 10 82) HT_.out ?_;refine takeZ 2 (some 6) (msk 10 86) HT_.out HW_.out hHeld (hy:=q18x0) (h:=?_)
 refine one_Z 0 (some 4) (msk 10 87) HT_.out fun K hK=>?_
 refine goE Tryz.func60 #[.int .i64 1,.int .i64 1] ?_
 with_reducible refine(spec_l11Word.calls 1 1 z A D E G I J _ aN.out).mono ?_;rintro e a5 ⟨rfl,hb⟩;refine⟨_,rfl,?_⟩;replace a:=kB a hb;replace HB:=sB hb;(try clear hb)
 refine hK.out _ _ qh18x0 (fun hHeld=>?_)
 clear hK K;refine normZ (some 4) ?_
 refine one_Z 3 (some 7) (msk 10 95) HT_.out fun K hK=>?_
 refine goE Tryz.func62 #[.int .i64 3,.int .i64 b,.string (⟨#[112]⟩ :ByteArray),.string (⟨#[113]⟩ :ByteArray)] ?_
 with_reducible refine(spec_l11Asks.calls 3 b (⟨#[112]⟩ :ByteArray) (⟨#[113]⟩ :ByteArray) L O U W X Y aa _ ax.out).mono ?_;rintro e a6 ⟨rfl,hb⟩;refine⟨_,rfl,?_⟩;replace a:=kB a hb;replace HB:=sB hb;(try clear hb)
 refine hK.out _ _ qh18x0 (fun hHeld=>?_)
 clear hK K;refine normZ (some 7) ?_
 refine one_Z 5 (some 9) (msk 10 127) HT_.out fun K hK=>?_
 refine goE Tryz.func60 #[.int .i64 8,.int .i64 0] ?_
 with_reducible refine(spec_l11Word.calls 8 0 ab ac ad ae af ag ah _ aP.out).mono ?_;rintro e a7 ⟨rfl,hb⟩;refine⟨_,rfl,?_⟩;replace a:=kB a hb;replace HB:=sB hb;(try clear hb)
 refine hK.out _ _ qh18x0 (fun hHeld=>?_)
 clear hK K;refine normZ (some 9) ?_
 refine one_Z 7 (some 11) (msk 10 255) HT_.out fun K hK=>?_
 refine goE Tryz.func60 #[.int .i64 1,.int .i64 0] ?_
 with_reducible refine(spec_l11Word.calls 1 0 ai aj ak al am an ao _ az.out).mono ?_;rintro e a8 ⟨rfl,hb⟩;refine⟨_,rfl,?_⟩;replace a:=kB a hb;replace HB:=sB hb;(try clear hb)
 refine hK.out _ _ qh18x0 (fun hHeld=>?_)
 clear hK K;refine normZ (some 11) ?_
 refine one_Z 8 (some 12) (msk 10 511) HT_.out fun K hK=>?_
 refine R_lit_step k86 _ 86 ?hg (N:=12) ?hd (xs:=([(⟨z,(⟨A,D,E,G⟩ :S71),I,J⟩ :S86),(⟨L,(⟨O,U,W,X⟩ :S71),Y,aa⟩ :S86),(⟨(⟨#[113]⟩ :ByteArray),(⟨0,0,0,0⟩ :S71),(⟨#[]⟩ :ByteArray),(⟨#[]⟩ :ByteArray)⟩ :S86),(⟨ab,(⟨ac,ad,ae,af⟩ :S71),ag,ah⟩ :S86),(⟨(⟨#[112]⟩ :ByteArray),(⟨0,0,0,0⟩ :S71),(⟨#[]⟩ :ByteArray),(⟨#[]⟩ :ByteArray)⟩ :S86),(⟨ai,(⟨aj,ak,al,am⟩ :S71),an,ao⟩ :S86)] :List (S86))) (inner:=[.string z,.int .i64 A,.int .i64 D,.int .i64 E,.int .i64 G,.string I,.string J,.string L,.int .i64 O,.int .i64 U,.int .i64 W,.int .i64 X,.string Y,.string aa,.string (⟨#[113]⟩ :ByteArray),.int .i64 0,.int .i64 0,.int .i64 0,.int .i64 0,.string (⟨#[]⟩ :ByteArray),.string (⟨#[]⟩ :ByteArray),.string ab,.int .i64 ac,.int .i64 ad,.int .i64 ae,.int .i64 af,.string ag,.string ah,.string (⟨#[112]⟩ :ByteArray),.int .i64 0,.int .i64 0,.int .i64 0,.int .i64 0,.string (⟨#[]⟩ :ByteArray),.string (⟨#[]⟩ :ByteArray),.string ai,.int .i64 aj,.int .i64 ak,.int .i64 al,.int .i64 am,.string an,.string ao]) (ok:=fun _=>True) (okp:=fun _=>True) ?hr ?hp (fun _ hk=>hk) trivial (Below.refl _ _) (Nat.le_refl _) (by simp) ?_;(case hd=>rfl);(case hg=>rfl);(case hr=>first|(go_simp;done)|(go_simp;rfl));(case hp=>exact(Reps.c7 (show Kd.M k86 _ _ _ (⟨z,(⟨A,D,E,G⟩ :S71),I,J⟩ :S86) [.string z,.int .i64 A,.int .i64 D,.int .i64 E,.int .i64 G,.string I,.string J]from (k86_mkM _ _ _ (⟨z,(⟨A,D,E,G⟩ :S71),I,J⟩ :S86))) (Reps.c7 (show Kd.M k86 _ _ _ (⟨L,(⟨O,U,W,X⟩ :S71),Y,aa⟩ :S86) [.string L,.int .i64 O,.int .i64 U,.int .i64 W,.int .i64 X,.string Y,.string aa]from (k86_mkM _ _ _ (⟨L,(⟨O,U,W,X⟩ :S71),Y,aa⟩ :S86))) (Reps.c7 (show Kd.M k86 _ _ _ (⟨(⟨#[113]⟩ :ByteArray),(⟨0,0,0,0⟩ :S71),(⟨#[]⟩ :ByteArray),(⟨#[]⟩ :ByteArray)⟩ :S86) [.string (⟨#[113]⟩ :ByteArray),.int .i64 0,.int .i64 0,.int .i64 0,.int .i64 0,.string (⟨#[]⟩ :ByteArray),.string (⟨#[]⟩ :ByteArray)]from (k86_mkM _ _ _ (⟨(⟨#[113]⟩ :ByteArray),(⟨0,0,0,0⟩ :S71),(⟨#[]⟩ :ByteArray),(⟨#[]⟩ :ByteArray)⟩ :S86))) (Reps.c7 (show Kd.M k86 _ _ _ (⟨ab,(⟨ac,ad,ae,af⟩ :S71),ag,ah⟩ :S86) [.string ab,.int .i64 ac,.int .i64 ad,.int .i64 ae,.int .i64 af,.string ag,.string ah]from (k86_mkM _ _ _ (⟨ab,(⟨ac,ad,ae,af⟩ :S71),ag,ah⟩ :S86))) (Reps.c7 (show Kd.M k86 _ _ _ (⟨(⟨#[112]⟩ :ByteArray),(⟨0,0,0,0⟩ :S71),(⟨#[]⟩ :ByteArray),(⟨#[]⟩ :ByteArray)⟩ :S86) [.string (⟨#[112]⟩ :ByteArray),.int .i64 0,.int .i64 0,.int .i64 0,.int .i64 0,.string (⟨#[]⟩ :ByteArray),.string (⟨#[]⟩ :ByteArray)]from (k86_mkM _ _ _ (⟨(⟨#[112]⟩ :ByteArray),(⟨0,0,0,0⟩ :S71),(⟨#[]⟩ :ByteArray),(⟨#[]⟩ :ByteArray)⟩ :S86))) (Reps.c7 (show Kd.M k86 _ _ _ (⟨ai,(⟨aj,ak,al,am⟩ :S71),an,ao⟩ :S86) [.string ai,.int .i64 aj,.int .i64 ak,.int .i64 al,.int .i64 am,.string an,.string ao]from (k86_mkM _ _ _ (⟨ai,(⟨aj,ak,al,am⟩ :S71),an,ao⟩ :S86))) (Reps.none _ _))))))))
 intro aW aX au hb hg_ hnew_;clear hg_ hnew_
 (first|rw[← aG.out]at au|(simp only[Int.reduceToNat]at au;rw[← aG.out]at au))
 have j:=aM (R_lower au (below_size cB));replace a:=kB a hb;replace HB:=sB hb;clear hb au
 refine hK.out _ _ qh18x0 (fun hHeld=>?_)
 clear hK K;refine normZ (some 12) ?_
 refine pureZ 9 (some 3) (msk 10 1023) HT_.out ?_
 refine done_ (done_of HT_.out (by kernel_rfl)) ?_
 try go_wp2
 replace j:=aM (R_drew j.out);replace a:=aM (blk_drew a.out);replace HB:=aM (below_drew1 HB.out)
 refine start_ (n:=7) (S:=fun w'=>w'.cell? ⟨l,0,none⟩=some (.int .i64 b)∧w'.cell? ⟨l,1,none⟩=some (.int .i64 d)∧w'.cell? ⟨l,2,none⟩=some (.int .i64 g)∧w'.cell? ⟨l,3,none⟩=some (.slice u c.length x)) (ds:=[]) #[false,false,false,false,false,false,false] (by kernel_rfl) rfl rfl ⟨(blk_cell a.out 0).trans rfl,(blk_cell a.out 1).trans rfl,(blk_cell a.out 2).trans rfl,(blk_cell a.out 3).trans rfl⟩ (fun hHeld=>?_)
 generalize aX.drew=a9 at j a HB hHeld ⊢
 refine pure_ (i:=0) (N:=some 13) (v:=?_) (a':=?_) #[true,false,false,false,false,false,false] rfl rfl (by kernel_rfl) (fun _ _ _ h=>h) (Or.inl ⟨by rfl,?_⟩) ?_ ?_
 rotate_left
 ·intro w';go_simp;with_reducible rfl
 rotate_left
 ·simp only[Act.put,List.setIfInBounds_toArray,List.set_cons_zero,List.set_cons_succ,i64_w,i32_w];rfl
 refine take_ (i:=1) (N:=some 14) (v:=?_) (a':=?_) #[true,true,false,false,false,false,false] rfl rfl (by kernel_rfl) (fun _ _ _ h=>h) (Or.inl ⟨by rfl,?_⟩) hHeld ?_ ?_
 rotate_left
 ·rintro w' ⟨s0,s1,s2,s3⟩;go_simp;with_reducible rfl
 rotate_left
 ·simp only[Act.put,List.setIfInBounds_toArray,List.set_cons_zero,List.set_cons_succ,i64_w,i32_w];rfl
 refine take_ (i:=2) (N:=some 15) (v:=?_) (a':=?_) #[true,true,true,false,false,false,false] rfl rfl (by kernel_rfl) (fun _ _ _ h=>h) (Or.inl ⟨by rfl,?_⟩) hHeld ?_ ?_
 rotate_left
 ·rintro w' ⟨s0,s1,s2,s3⟩;go_simp;with_reducible rfl
 rotate_left
 ·simp only[Act.put,List.setIfInBounds_toArray,List.set_cons_zero,List.set_cons_succ,i64_w,i32_w];rfl
 refine one_ (i:=3) (N:=some 16) #[true,true,true,true,false,false,false] rfl rfl (by kernel_rfl) (by decide) (fun K hK=>?_)
 refine goE Tryz.func27 #[.agg #[.int .i64 b,.int .i64 d,.int .i64 g,.slice u c.length x]] ?_
 with_reducible refine(spec_NumsOf.calls k b d g _ _ c ar _ ?side1 ?side2 aQ.out).mono ?_
 (case side1=>exact cC (C_below HR0_3.out HB.out))
 (case side2=>exact HC0_3.out)
 rintro e ba ⟨bb,rfl,ap,hb⟩;refine⟨_,rfl,?_⟩;replace j:=rB j hb;have y:=aM (R_lower ap (below_size cB));replace a:=kB a hb;replace HB:=sB hb;(try clear hb);(try clear ap);obtain⟨aY,aZ,aJ⟩:=R_slice y.out
 (first|subst aJ|(injection aJ with f1_ f2_ f3_;have f4_:=f1_.symm;have f5_:=f3_.symm;clear f1_ f2_ f3_;subst f4_;subst f5_))
 refine hK.out _ _ qh18x0 (fun hHeld=>?_)
 clear hK K;refine normZ (some 16) ?_
 refine one_ (i:=4) (N:=some 17) #[true,true,true,true,true,false,false] rfl rfl (by kernel_rfl) (by decide) (fun K hK=>?_)
 refine goE Tryz.func22 #[.agg #[.int .i64 b,.int .i64 d,.int .i64 g,.slice u c.length x],.slice aY ar.length aZ,.string (⟨#[116]⟩ :ByteArray)] ?_
 with_reducible refine(spec_TreeLines.calls k b d g _ _ c _ _ ar (⟨#[116]⟩ :ByteArray) t _ ?side1 ?side2 ?side3 ?side4 aT.out).mono ?_
 (case side1=>exact cC (C_below HR0_3.out HB.out))
 (case side2=>exact HC0_3.out)
 (case side3=>exact cC ((R_reads' y.out).2.2))
 (case side4=>exact(R_reads' y.out).2.1)
 rintro e bd ⟨be,rfl,ap,hb⟩;refine⟨_,rfl,?_⟩;replace y:=rB y hb;have av:=aM (R_lower (R_new' ap (R_lt (mR j))) (below_size cB));replace j:=eB j (R_base ap) hb;replace a:=kB a hb;replace HB:=sB hb;(try clear hb);(try clear ap);obtain⟨a0,a1,aK⟩:=R_slice av.out
 (first|subst aK|(injection aK with f1_ f2_ f3_;have f4_:=f1_.symm;have f5_:=f3_.symm;clear f1_ f2_ f3_;subst f4_;subst f5_))
 refine hK.out _ _ qh18x0 (fun hHeld=>?_)
 clear hK K;refine normZ (some 17) ?_
 refine one_ (i:=5) (N:=some 18) #[true,true,true,true,true,true,false] rfl rfl (by kernel_rfl) (by decide) (fun K hK=>?_)
 refine R_append_rows_step k86 (w0:=w) w.heap.size (by rfl) (.tmp 13) (.tmp 17) 47 86 (.agg #[(.string ⟨#[]⟩),(.int .i64 0),(.int .i64 0),(.int .i64 0),(.int .i64 0),(.string ⟨#[]⟩),(.string ⟨#[]⟩)]) 80 rfl Tryz.underlying47 info86 rfl (by decide) (by omega) aW aq t _ _ _ (fun k_=>some k_≠(.slice a0 t.length a1:Value).ownBlock) (fun _=>False) rfl rfl ?aO ?aR (fun _ _ h=>h) (fun _ h=>h.elim) ?aF ?aB ?aS ?aL ?_
 (case aR=>exact cC ((R_reads' av.out).2.2))
 (case aB=>exact cB)
 (case aF=>exact(fun k_ hk=>Kd.fresh' (R_lt (mR av)) k_ hk))
 (case aO=>exact(by(with_reducible repeat(first|apply R_alloc|apply R_drewN|apply R_drew));exact R_mono j.out (fun _ hk=>hk.2)))
 (case aS=>exact(below_size cB))
 (case aL=>have:=aU.out;omega)
 intro bf bg ho hb hg hat;rw[← aI.out]at ho
 replace a:=aM (blk_grown (mK a) hg (R_ne j.out a.out (by decide)))
 replace y:=aM (R_over' (mR y) (R_typed (mR j)) (by decide) hg)
 replace av:=aM (R_after (ok:=(fun _=>True)) (mR av) hg hat)
 replace HB:=aM (hb);have a2:=aM (ho);clear j ho hb hg hat
 refine hK.out _ _ qh18x0 (fun hHeld=>?_)
 clear hK K;refine normZ (some 18) ?_
 refine pure_ (i:=6) (N:=some 2) (v:=?_) (a':=?_) #[true,true,true,true,true,true,true] rfl rfl (by kernel_rfl) (fun _ _ _ h=>h) (Or.inl ⟨by rfl,?_⟩) ?_ ?_
 rotate_left
 ·intro w';go_simp;with_reducible rfl
 rotate_left
 ·simp only[Act.put,List.setIfInBounds_toArray,List.set_cons_zero,List.set_cons_succ,i64_w,i32_w];rfl
 refine done_ (by kernel_rfl) ?_
 try go_wp2
 go_ret
 exact⟨_,rE,by(with_reducible repeat(first|apply R_alloc|apply R_drewN|apply R_drew));exact R_mono a2.out (fun _ hk=>trivial),cB⟩
def spec_l09Act.f (m:Int) (aw:Int):Option (Bool):=(spec_l01In.f m 0 5).bind fun aA=>(if aA=true then((spec_l01In.f aw 0 65535).bind fun aC=>(some aC))else(some false))
set_option maxHeartbeats 8000000 in
set_option maxRecDepth 100000 in
theorem spec_l09Act.calls (m:Int) (aw:Int) (r:Bool) (w:World) (h:spec_l09Act.f m aw=some r) :
 Calls Tryz.prog 84 #[.int .i64 m,.int .i64 aw] w fun e w'=>e= .returned (.bool r)∧Drawn0 w w':=by
 unfold spec_l09Act.f at h;have H:=h
 clear h;replace H:=bE H;obtain⟨aA,ax,H⟩:=H;by_cases ay:aA=true
 ·subst ay;replace H:=iT H;replace H:=bE H;obtain⟨aC,az,H⟩:=H;obtain rfl:=Option.some.inj H;go_enter Tryz.func84,Tryz.ntmps84
  go_wp2_with (first|((with_reducible refine gF 47 ?_);refine goZ (some 6) Tryz.func47 #[.int .i64 m,.int .i64 0,.int .i64 5] ?_;(with_reducible refine(spec_l01In.calls m 0 5 true _ ax.out).mono ?_);rintro e w' ⟨rfl,⟨nd,rfl⟩⟩;refine⟨_,rfl,?_⟩)|(go_at_call 47;(with_reducible refine(spec_l01In.calls aw 0 65535 aC _ az.out).mono ?_);rintro e w' ⟨rfl,⟨nd,rfl⟩⟩))
  go_ret
  exact⟨by first|rfl|(simp;done)|(simp[*];done),by repeat(first|exact Drawn0.refl _|apply Drawn0.step)⟩
 ·replace ay:=Bool.eq_false_iff.mpr ay;subst ay;replace H:=iF H;obtain rfl:=Option.some.inj H;go_enter Tryz.func84,Tryz.ntmps84
  go_wp2_with (first|((with_reducible refine gF 47 ?_);refine goZ (some 6) Tryz.func47 #[.int .i64 m,.int .i64 0,.int .i64 5] ?_;(with_reducible refine(spec_l01In.calls m 0 5 false _ ax.out).mono ?_);rintro e w' ⟨rfl,⟨nd,rfl⟩⟩;refine⟨_,rfl,?_⟩))
  go_ret
  exact⟨by first|rfl|(simp;done)|(simp[*];done),by repeat(first|exact Drawn0.refl _|apply Drawn0.step)⟩
end Go.Proofs.YtpbalojiaghfhaaGreat.PFnExactCompile
