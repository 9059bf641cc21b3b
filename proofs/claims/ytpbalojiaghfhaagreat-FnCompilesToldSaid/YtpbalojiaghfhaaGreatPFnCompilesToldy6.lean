import Derived.Test.YtpbalojiaghfhaaGreatVSortC
import Derived.Test.YtpbalojiaghfhaaGreatPFnCompilesToldy0
import Derived.Test.YtpbalojiaghfhaaGreatPFnCompilesToldy3
import Derived.Test.YtpbalojiaghfhaaGreatPFnCompilesToldy5
namespace Go.Proofs.YtpbalojiaghfhaaGreat.PFnCompilesTold
open Go.RowKit Go.Proofs.YtpbalojiaghfhaaGreatW.PrintWords Go.Proofs.YtpbalojiaghfhaaGreatW.PrintLast Go.Proofs.YtpbalojiaghfhaaGreatW.PrintMore Go.Proofs.YtpbalojiaghfhaaGreatW.Z
open Kd
attribute [local go_sem] isS max2_int min2_int max_two min_two max_three min_three max_four min_four
set_option linter.unusedVariables false
set_option linter.unusedSimpArgs false
theorem qh6x0 {P:Prop} (h:P:=by exact⟨(blk_cell a.out 0).trans rfl,(blk_cell a.out 1).trans rfl,(blk_cell a.out 2).trans rfl,(blk_cell a.out 3).trans rfl,((bc HB ba :))⟩):P:=h
theorem qh6x1 {P:Prop} (h:P:=by exact⟨(blk_cell a.out 0).trans rfl,(blk_cell a.out 1).trans rfl,(blk_cell a.out 2).trans rfl,(blk_cell a.out 3).trans rfl⟩):P:=h
def impl_TreeLines.f:Nat→Int→Int→Int→List (S78)→List Int→ByteArray→Option ((List (S86)))
  | 0,_,_,_,_,_,_=>none
  | k+1,g,i,j,c,b,d=>if(b.length:Int)=0 then((impl_ChainLines.f k g i j c 0 true d).bind fun bb=>(some bb))else(if(b.length:Int)=1 then(if 0<(b.length:Int)then(if d.size+1≤9223372036854775807 then((impl_ask.f 3 (rd b 0) (d ++ (⟨#[121]⟩ :ByteArray)) (d ++ (⟨#[120]⟩ :ByteArray))).bind fun s=>((impl_place.f (d ++ (⟨#[121]⟩ :ByteArray))).bind fun t=>((some (([(⟨s.1,(⟨s.2.1,s.2.2.1,s.2.2.2.1,s.2.2.2.2.1⟩ :S71),s.2.2.2.2.2.1,s.2.2.2.2.2.2⟩ :S86),(⟨t.1,(⟨t.2.1,t.2.2.1,t.2.2.2.1,t.2.2.2.2.1⟩ :S71),t.2.2.2.2.2.1,t.2.2.2.2.2.2⟩ :S86)] :List (S86)):List (S86))).bind fun ae=>((impl_ChainLines.f k g i j c (rd b 0) false (d ++ (⟨#[121]⟩ :ByteArray))).bind fun L=>(if ae.length+L.length<1759218604441 then((some (ae ++ L:List (S86))).bind fun af=>((impl_place.f (d ++ (⟨#[120]⟩ :ByteArray))).bind fun u=>(if af.length<1759218604441 then((some (af ++ [(⟨u.1,(⟨u.2.1,u.2.2.1,u.2.2.2.1,u.2.2.2.2.1⟩ :S71),u.2.2.2.2.2.1,u.2.2.2.2.2.2⟩ :S86)] :List (S86))).bind fun ab=>((impl_ChainLines.f k g i j c 0 true (d ++ (⟨#[120]⟩ :ByteArray))).bind fun U=>(if ab.length+U.length<1759218604441 then(some (ab ++ U))else(none))))else(none))))else(none))))))else(none))else(none))else(if 0≤(wrap64 ((b.length:Int) / 2))then(if(wrap64 ((b.length:Int) / 2))<(b.length:Int)then(if d.size+1≤9223372036854775807 then((impl_ask.f 5 (rd b (wrap64 ((b.length:Int) / 2))) (d ++ (⟨#[104]⟩ :ByteArray)) (d ++ (⟨#[108]⟩ :ByteArray))).bind fun v=>((impl_place.f (d ++ (⟨#[108]⟩ :ByteArray))).bind fun z=>((some (([(⟨v.1,(⟨v.2.1,v.2.2.1,v.2.2.2.1,v.2.2.2.2.1⟩ :S71),v.2.2.2.2.2.1,v.2.2.2.2.2.2⟩ :S86),(⟨z.1,(⟨z.2.1,z.2.2.1,z.2.2.2.1,z.2.2.2.2.1⟩ :S71),z.2.2.2.2.2.1,z.2.2.2.2.2.2⟩ :S86)] :List (S86)):List (S86))).bind fun ag=>(if(wrap64 ((b.length:Int) / 2))≤(b.length:Int)then((impl_TreeLines.f k g i j c (b.take ((wrap64 ((b.length:Int) / 2)):Int).toNat) (d ++ (⟨#[108]⟩ :ByteArray))).bind fun I=>(if ag.length+I.length<1759218604441 then((some (ag ++ I:List (S86))).bind fun ah=>((impl_place.f (d ++ (⟨#[104]⟩ :ByteArray))).bind fun A=>(if ah.length<1759218604441 then((some (ah ++ [(⟨A.1,(⟨A.2.1,A.2.2.1,A.2.2.2.1,A.2.2.2.2.1⟩ :S71),A.2.2.2.2.2.1,A.2.2.2.2.2.2⟩ :S86)] :List (S86))).bind fun ac=>((impl_TreeLines.f k g i j c (b.drop ((wrap64 ((b.length:Int) / 2)):Int).toNat) (d ++ (⟨#[104]⟩ :ByteArray))).bind fun O=>(if ac.length+O.length<1759218604441 then(some (ac ++ O))else(none))))else(none))))else(none)))else(none)))))else(none))else(none))else(none)))
def impl_TreeLines.T7:Bool×List (List Nat×List Nat):=(true,[([],[]),([],[]),([],[]),([2],[2]),([3],[3]),([],[]),([5],[5]),([1,4,6],[1,4,6]),([0,7,7],[0,7]),([8,8,0,1,2,3,4,5,6,7,8],[0,8])])
def impl_TreeLines.B7:List Nat:=[0,0,0,4,12,0,32,126,255,511]
theorem impl_TreeLines.tab7:rtab .any (opsOf Tryz.f21 7)=impl_TreeLines.T7:=by kernel_rfl
theorem impl_TreeLines.bits7:waitsOk impl_TreeLines.T7.2 impl_TreeLines.B7=true:=by kernel_rfl
def impl_TreeLines.T11:Bool×List (List Nat×List Nat):=(true,[([],[]),([],[]),([],[]),([],[]),([3],[3]),([2,4],[2,4]),([],[]),([6],[6]),([1,5,7],[1,5,7]),([0,8,8],[0,8]),([9,9,0,1,2,3,4,5,6,7,8,9],[0,9])])
def impl_TreeLines.B11:List Nat:=[0,0,0,0,8,28,0,64,254,511,1023]
theorem impl_TreeLines.tab11:rtab .any (opsOf Tryz.f21 11)=impl_TreeLines.T11:=by kernel_rfl
theorem impl_TreeLines.bits11:waitsOk impl_TreeLines.T11.2 impl_TreeLines.B11=true:=by kernel_rfl
def impl_TreeLines.T13:Bool×List (List Nat×List Nat):=(true,[([],[]),([],[]),([],[]),([],[]),([3],[3]),([2,4],[2,4]),([],[]),([6],[6]),([1,5,7],[1,5,7]),([0,8,8],[0,8]),([9,9,0,1,2,3,4,5,6,7,8,9],[9])])
def impl_TreeLines.B13:List Nat:=[0,0,0,0,8,28,0,64,254,511,1023]
theorem impl_TreeLines.tab13:rtab .any (opsOf Tryz.f21 13)=impl_TreeLines.T13:=by kernel_rfl
theorem impl_TreeLines.bits13:waitsOk impl_TreeLines.T13.2 impl_TreeLines.B13=true:=by kernel_rfl
theorem q6x0 {P:Prop} (h:P:=by
 rintro w' ⟨s0,s1,s2,s3,s4⟩
 go_simp
 with_reducible rfl):P:=h
theorem q6x1 {P:Prop} (h:P:=by
 rintro w' ⟨s0,s1,s2,s3⟩
 go_simp
 with_reducible rfl):P:=h
set_option maxHeartbeats 8000000 in
set_option maxRecDepth 100000 in
theorem impl_TreeLines.calls (k:Nat): ∀ (g:Int) (i:Int) (j:Int) (o:Option Addr) (p:Nat) (c:List (S78)) (bm:Option Addr) (ai:Nat) (b:List Int) (d:ByteArray) (r:List (S86)) (w:World) (aj:Kd.C k78 w o c.length c) (ak:c.length≤p) (bn:Kd.C (Kd.int .i64) w bm b.length b) (bo:b.length≤ai) (h:impl_TreeLines.f k g i j c b d=some r),
 Calls Tryz.prog 21 #[.agg #[.int .i64 g,.int .i64 i,.int .i64 j,.slice o c.length p],.slice bm b.length ai,.string d] w fun e w'=> ∃ v0_:Value,e= .returned (v0_)∧Kd.R k86 86 w' w.heap.size (fun _=>True) v0_ r∧Below w.heap.size w w':=by
 induction k using Nat.strongRecOn with
 | _ k ih=>
 intro g i j o p c bm ai b d r w aj ak bn bo h
 cases k with
 | zero=>exact absurd h (by simp[impl_TreeLines.f])
 | succ k=>
 simp only[impl_TreeLines.f]at h;have hu26:=Tryz.underlying26;have HR0_3:=aM aj;have HC0_3:=aM ak;clear aj ak;have HR1:=aM bn;have HC1:=aM bo;clear bn bo;have HB:=rW w
 have H:(if(b.length:Int)=0 then((impl_ChainLines.f k g i j c 0 true d).bind fun bb=>(some bb))else(if(b.length:Int)=1 then(if 0<(b.length:Int)then(if d.size+1≤9223372036854775807 then((impl_ask.f 3 (rd b 0) (d ++ (⟨#[121]⟩ :ByteArray)) (d ++ (⟨#[120]⟩ :ByteArray))).bind fun s=>((impl_place.f (d ++ (⟨#[121]⟩ :ByteArray))).bind fun t=>((some (([(⟨s.1,(⟨s.2.1,s.2.2.1,s.2.2.2.1,s.2.2.2.2.1⟩ :S71),s.2.2.2.2.2.1,s.2.2.2.2.2.2⟩ :S86),(⟨t.1,(⟨t.2.1,t.2.2.1,t.2.2.2.1,t.2.2.2.2.1⟩ :S71),t.2.2.2.2.2.1,t.2.2.2.2.2.2⟩ :S86)] :List (S86)):List (S86))).bind fun ae=>((impl_ChainLines.f k g i j c (rd b 0) false (d ++ (⟨#[121]⟩ :ByteArray))).bind fun L=>(if ae.length+L.length<1759218604441 then((some (ae ++ L:List (S86))).bind fun af=>((impl_place.f (d ++ (⟨#[120]⟩ :ByteArray))).bind fun u=>(if af.length<1759218604441 then((some (af ++ [(⟨u.1,(⟨u.2.1,u.2.2.1,u.2.2.2.1,u.2.2.2.2.1⟩ :S71),u.2.2.2.2.2.1,u.2.2.2.2.2.2⟩ :S86)] :List (S86))).bind fun ab=>((impl_ChainLines.f k g i j c 0 true (d ++ (⟨#[120]⟩ :ByteArray))).bind fun U=>(if ab.length+U.length<1759218604441 then(some (ab ++ U))else(none))))else(none))))else(none))))))else(none))else(none))else(if 0≤(wrap64 ((b.length:Int) / 2))then(if(wrap64 ((b.length:Int) / 2))<(b.length:Int)then(if d.size+1≤9223372036854775807 then((impl_ask.f 5 (rd b (wrap64 ((b.length:Int) / 2))) (d ++ (⟨#[104]⟩ :ByteArray)) (d ++ (⟨#[108]⟩ :ByteArray))).bind fun v=>((impl_place.f (d ++ (⟨#[108]⟩ :ByteArray))).bind fun z=>((some (([(⟨v.1,(⟨v.2.1,v.2.2.1,v.2.2.2.1,v.2.2.2.2.1⟩ :S71),v.2.2.2.2.2.1,v.2.2.2.2.2.2⟩ :S86),(⟨z.1,(⟨z.2.1,z.2.2.1,z.2.2.2.1,z.2.2.2.2.1⟩ :S71),z.2.2.2.2.2.1,z.2.2.2.2.2.2⟩ :S86)] :List (S86)):List (S86))).bind fun ag=>(if(wrap64 ((b.length:Int) / 2))≤(b.length:Int)then((impl_TreeLines.f k g i j c (b.take ((wrap64 ((b.length:Int) / 2)):Int).toNat) (d ++ (⟨#[108]⟩ :ByteArray))).bind fun I=>(if ag.length+I.length<1759218604441 then((some (ag ++ I:List (S86))).bind fun ah=>((impl_place.f (d ++ (⟨#[104]⟩ :ByteArray))).bind fun A=>(if ah.length<1759218604441 then((some (ah ++ [(⟨A.1,(⟨A.2.1,A.2.2.1,A.2.2.2.1,A.2.2.2.2.1⟩ :S71),A.2.2.2.2.2.1,A.2.2.2.2.2.2⟩ :S86)] :List (S86))).bind fun ac=>((impl_TreeLines.f k g i j c (b.drop ((wrap64 ((b.length:Int) / 2)):Int).toNat) (d ++ (⟨#[104]⟩ :ByteArray))).bind fun O=>(if ac.length+O.length<1759218604441 then(some (ac ++ O))else(none))))else(none))))else(none)))else(none)))))else(none))else(none))else(none))))=some r:=h
 clear h;by_cases al:(b.length:Int)=0
 ·rw[if_pos al]at H;obtain⟨cs,ct⟩:=eT al;clear al;replace H:=bE H;obtain⟨bb,cu,H⟩:=H;obtain rfl:=Option.some.inj H;go_enter Tryz.func21,Tryz.ntmps21
  go_wp2_with (first|((with_reducible refine gN 3 ?_);refine boxZ 3 #[.int .i64 g,.int .i64 i,.int .i64 j,.slice o c.length p] 26 ?_;intro D hg dL hbox hb;have a:=aM hbox;have GW341:=gS hg;have GE341:=gS hg;replace HB:=sB hb;clear hb hbox hg;obtain⟨dM,dN,dO,dP,dQ,dS,dT,dU⟩:=cz4 a)|((with_reducible refine gF 19 ?_);refine gY (some 17) Tryz.func19 (impl_ChainLines.calls cu.out (cH HR0_3) HC0_3.out) ?_;rintro dV dX ⟨l,hb⟩;have cv:=rL l;replace a:=kB a hb;replace HB:=sB hb;(try clear hb);(try clear l)))
  go_ret;exact⟨_,rE,mR cv,cB⟩
 ·rw[if_neg al]at H;obtain⟨cs,ct⟩:=eF al
  have dY: ¬ (b= []):=fun h_=>al (by rw[h_];rfl)
  by_cases ad:(b.length:Int)=1
  ·rw[if_pos ad]at H;obtain⟨cw,cx⟩:=eT ad;clear ad;replace H:=gC H;obtain⟨bX,H⟩:=H;have dZ:=decide_eq_true bX
   have d0:decide (0<b.length)=true:=decide_eq_true (by omega)
   clear bX;replace H:=gC H;obtain⟨bp,H⟩:=H;have d1:=eq_true bp;have d2:decide (d.size+1≤9223372036854775807)=true:=decide_eq_true bp
   try have d3:(9223372036854775807<d.size+1)=False:=eq_false (Nat.not_lt.2 bp)
   replace H:=bE H;obtain⟨⟨aq,ar,au,av,aw,ax,ay⟩,cy,H⟩:=H;(try dsimp only at H);replace H:=bE H;obtain⟨⟨az,aA,aC,aD,aE,aG,aH⟩,cz,H⟩:=H;(try dsimp only at H);replace H:=nE H;obtain⟨ae,bY,H⟩:=H;replace H:=bE H;obtain⟨L,bq,H⟩:=H;replace H:=gC H;obtain⟨bZ,H⟩:=H;have cA:=aM bZ;clear bZ;replace H:=nE H;obtain⟨af,cD,H⟩:=H;replace H:=bE H;obtain⟨⟨br,bs,bu,bv,bw,bx,bz⟩,cE,H⟩:=H;(try dsimp only at H);replace H:=gC H;obtain⟨b0,H⟩:=H;have cF:=aM b0;clear b0;replace H:=nE H;obtain⟨ab,cG,H⟩:=H;replace H:=bE H;obtain⟨U,cI,H⟩:=H;replace H:=gC H;obtain⟨b1,H⟩:=H;have cJ:=aM b1;clear b1;obtain⟨d4,b5⟩ : ∃ y_:List (S86),Aside0 (y_=(ab ++ U)):=⟨_,⟨rfl⟩⟩;rw[← b5.out]at H;obtain rfl:=Option.some.inj H;go_enter Tryz.func21,Tryz.ntmps21
   try go_wp2_with (first|((with_reducible refine gN 3 ?_);refine boxZ 3 #[.int .i64 g,.int .i64 i,.int .i64 j,.slice o c.length p] 26 ?_;intro D hg d5 hbox hb;have a:=aM hbox;have GW341:=gS hg;have GE341:=gS hg;replace HB:=sB hb;clear hb hbox hg;have bA:0≤(0:Int):=(by omega);have bB:0<(b.length:Int):=dA;obtain⟨b8,cL,bd⟩:=at_int HR1.out 0 bA bB;cases cL;have qi345:(0<b.length)=True:=eq_true (by omega);(try rw[show((0:Int)).toNat=0 from rfl]at bd);(try rw[Addr.add_zero']at bd);replace bd:=(bc HB bd :);replace bA:=eq_true bA;replace bB:=eq_true bB)|((with_reducible refine gF 61 ?_);refine gX (some 27) Tryz.func61 (impl_ask.calls cy.out) ?_;intro d6 hb;replace a:=kB a hb;replace HB:=sB hb;(try clear hb))|((with_reducible refine gF 55 ?_);refine gX (some 30) Tryz.func55 (impl_place.calls cz.out) ?_;intro d7 hb;replace a:=kB a hb;replace HB:=sB hb;(try clear hb))|((with_reducible refine gN 31 ?_);refine R_lit k86 _ 86 ?hg (N:=31) ?hd (xs:=([(⟨aq,(⟨ar,au,av,aw⟩ :S71),ax,ay⟩ :S86),(⟨az,(⟨aA,aC,aD,aE⟩ :S71),aG,aH⟩ :S86)] :List (S86))) (inner:=[.string aq,.int .i64 ar,.int .i64 au,.int .i64 av,.int .i64 aw,.string ax,.string ay,.string az,.int .i64 aA,.int .i64 aC,.int .i64 aD,.int .i64 aE,.string aG,.string aH]) (ok:=fun _=>True) (okp:=fun _=>True) ?hr ?hp (fun _ hk=>hk) trivial (Below.refl _ _) (Nat.le_refl _) (by simp) ?_;(case hd=>rfl);(case hg=>rfl);(case hr=>exact rG);(case hp=>exact(Reps.c7 (show Kd.M k86 _ _ _ (⟨aq,(⟨ar,au,av,aw⟩ :S71),ax,ay⟩ :S86) [.string aq,.int .i64 ar,.int .i64 au,.int .i64 av,.int .i64 aw,.string ax,.string ay]from (k86_mkM _ _ _ (⟨aq,(⟨ar,au,av,aw⟩ :S71),ax,ay⟩ :S86))) (Reps.c7 (show Kd.M k86 _ _ _ (⟨az,(⟨aA,aC,aD,aE⟩ :S71),aG,aH⟩ :S86) [.string az,.int .i64 aA,.int .i64 aC,.int .i64 aD,.int .i64 aE,.string aG,.string aH]from (k86_mkM _ _ _ (⟨az,(⟨aA,aC,aD,aE⟩ :S71),aG,aH⟩ :S86))) (Reps.none _ _))));intro cM cN aI hb hg_ hnew_;clear hg_ hnew_;(first|rw[← bY.out]at aI|(simp only[Int.reduceToNat]at aI;rw[← bY.out]at aI));have X:=rL aI;replace a:=kB a hb;replace HB:=sB hb;clear hb aI))
   replace X:=dR X;replace a:=dB a;replace HB:=dW HB
   have bC:0≤(0:Int):=(by omega)
   have bD:0<(b.length:Int):=dA;obtain⟨cO,cP,am⟩:=at_int HR1.out 0 bC bD;have ba:=am;(try rw[show((0:Int)).toNat=0 from rfl]at ba);(try rw[show 0*1=0 from rfl]at ba);(try rw[Addr.add_zero']at ba)
   obtain rfl:b8=cO:=(by injection cP)
   have qi363:(0<b.length)=True:=eq_true (by omega)
   (try rw[show((0:Int)).toNat=0 from rfl]at am);(try rw[Addr.add_zero']at am);replace am:=(bc HB am :);replace bC:=eq_true bC;replace bD:=eq_true bD
   refine sZ 10 (fun w'=>w'.cell? ⟨D,0,none⟩=some (.int .i64 g)∧w'.cell? ⟨D,1,none⟩=some (.int .i64 i)∧w'.cell? ⟨D,2,none⟩=some (.int .i64 j)∧w'.cell? ⟨D,3,none⟩=some (.slice o c.length p)∧w'.cell? b8=some (.int .i64 (rd b 0))) impl_TreeLines.tab7 impl_TreeLines.bits7 qh6x0 fun HT_ HW_ hHeld=>?_
   generalize cN.drew=d8 at X a HB am hHeld ⊢;refine pZ 0 32 1 ?_;refine pZ 2 34 5 ?_;refine pZ 3 35 13 ?_;refine pZ 5 37 45 ?_;refine pZ 6 38 109 ?_;refine tZ 1 33 111 (y:=q6x0) (h:=?_);refine tZ 4 36 127 (y:=q6x0) (h:=?_)
   refine oZ 7 39 255 fun K hK=>?_
   refine eY Tryz.func19 (impl_ChainLines.calls bq.out (cH HR0_3) HC0_3.out) ?_
   rintro d9 ea ⟨l,hb⟩;have q:=aM (R_lower (R_new' l (R_lt (mR X))) (below_size cB));replace X:=eB X (R_base l) hb;replace a:=kB a hb;replace HB:=sB hb;(try clear hb);(try clear l);obtain⟨be,bf,b9⟩:=R_slice q.out
   (first|subst b9|(injection b9 with f1_ f2_ f3_;have f4_:=f1_.symm;have f5_:=f3_.symm;clear f1_ f2_ f3_;subst f4_;subst f5_))
   refine hK.out _ _ qh6x0 (fun hHeld=>?_)
   clear hK K;refine normZ (some 39) ?_
   refine oZ 8 40 511 fun K hK=>?_
   refine R_append_rows_step k86 (w0:=w) w.heap.size (by rfl) (.tmp 32) (.tmp 39) 47 86 (.agg #[(.string ⟨#[]⟩),(.int .i64 0),(.int .i64 0),(.int .i64 0),(.int .i64 0),(.string ⟨#[]⟩),(.string ⟨#[]⟩)]) 80 rfl Tryz.underlying47 info86 rfl (by decide) (by omega) cM ae L _ _ _ (fun k_=>some k_≠(.slice be L.length bf:Value).ownBlock) (fun _=>False) rfl rfl ?aO ?aR (fun _ _ h=>h) (fun _ h=>h.elim) ?aF ?aB ?aS ?aL ?_
   (case aR=>exact rX q)
   (case aB=>exact cB)
   (case aF=>exact(fun k_ hk=>Kd.fresh' (R_lt (mR q)) k_ hk))
   (case aO=>exact(by exact rM X (fun _ hk=>hk.2)))
   (case aS=>exact(below_size cB))
   (case aL=>have:=cA.out;omega)
   intro cQ eb ho hb hg hat;rw[← cD.out]at ho
   replace a:=kN a hg X a
   replace q:=aM (R_after (ok:=(fun _=>True)) (mR q) hg hat)
   replace HB:=aM hb;have aJ:=aM ho;clear X ho hb hg hat
   refine hK.out _ _ qh6x0 (fun hHeld=>?_)
   clear hK K;refine normZ (some 40) ?_
   refine pZ 9 8 1023 ?_
   refine done_ (done_of HT_.out (by kernel_rfl)) ?_
   try go_wp2_with (first|((with_reducible refine gF 55 ?_);refine gX (some 44) Tryz.func55 (impl_place.calls cE.out) ?_;intro ec hb;replace q:=rB q hb;replace aJ:=rB aJ hb;replace a:=kB a hb;replace HB:=sB hb;(try clear hb))|((with_reducible refine gA 41 45 ?_);at_builtin;refine R_append k86 (w0:=w) w.heap.size rfl (.tmp 41) (.tmp 45) 47 86 (.agg #[(.string ⟨#[]⟩),(.int .i64 0),(.int .i64 0),(.int .i64 0),(.int .i64 0),(.string ⟨#[]⟩),(.string ⟨#[]⟩)]) 80 rfl Tryz.underlying47 info86 rfl (by decide) (by omega) cQ af (⟨br,(⟨bs,bu,bv,bw⟩ :S71),bx,bz⟩ :S86) [.string br,.int .i64 bs,.int .i64 bu,.int .i64 bv,.int .i64 bw,.string bx,.string bz] (fun k_=>some k_≠(.slice be L.length bf:Value).ownBlock) (fun _=>False) rfl rfl ?aP (fun _ hk=>hk.elim) ?aF ?aO ?aB ?aS ?aL ?_;(case aP=>exact k86_mkM _ _ _ (⟨br,(⟨bs,bu,bv,bw⟩ :S71),bx,bz⟩ :S86));(case aB=>exact cB);(case aF=>exact(fun k_ hk=>Kd.fresh' (R_lt (mR q)) k_ hk));(case aO=>exact(mR aJ));(case aS=>exact(below_size cB));(case aL=>have:=cF.out;omega);intro cR ed ho hb hg hat;rw[← cG.out]at ho;replace a:=kN a hg aJ a;replace q:=aM (R_after (ok:=(fun _=>True)) (mR q) hg hat);replace HB:=aM hb;have an:=aM ho;clear aJ ho hb hg hat;obtain⟨ee,ef,eg,eh,ei,ej,ek,el⟩:=cz4 a)|((with_reducible refine gF 19 ?_);refine gY (some 51) Tryz.func19 (impl_ChainLines.calls cI.out (cH HR0_3) HC0_3.out) ?_;rintro em en ⟨l,hb⟩;have aK:=aM (R_lower (R_new' (R_new' l (R_lt (mR q))) (R_lt (mR an))) (below_size cB));replace q:=eB q (R_base l) hb;replace an:=eB an (R_base l) hb;replace a:=kB a hb;replace HB:=sB hb;(try clear hb);(try clear l);obtain⟨ca,cb,cS⟩:=R_slice aK.out;subst cS)|((with_reducible refine gA 47 51 ?_);at_builtin;refine R_append_rows k86 (w0:=w) w.heap.size rfl (.tmp 47) (.tmp 51) 47 86 (.agg #[(.string ⟨#[]⟩),(.int .i64 0),(.int .i64 0),(.int .i64 0),(.int .i64 0),(.string ⟨#[]⟩),(.string ⟨#[]⟩)]) 80 rfl Tryz.underlying47 info86 rfl (by decide) (by omega) cR ab U _ _ _ (fun k_=>some k_≠(.slice be L.length bf:Value).ownBlock∧some k_≠(.slice ca U.length cb:Value).ownBlock) (fun _=>False) rfl rfl ?aO ?aR (fun _ _ h=>h) (fun _ h=>h.elim) ?aF ?aB ?aS ?aL ?_;(case aR=>exact rX aK);(case aB=>exact cB);(case aF=>exact(fun k_ hk=>⟨Kd.fresh' (R_lt (mR q)) k_ hk,Kd.fresh' (R_lt (mR aK)) k_ hk⟩));(case aO=>exact(mR an));(case aS=>exact(below_size cB));(case aL=>have:=cJ.out;omega);intro eo ep ho hb hg hat;rw[← b5.out]at ho;replace a:=kN a hg an a;replace q:=aM (R_after (ok:=(fun k_=>some k_≠(.slice ca U.length cb:Value).ownBlock)) (by exact rM q (fun _ hk=>⟨hk.2,hk.1.2⟩)) hg hat);replace aK:=aM (R_after (ok:=(fun k_=>some k_≠(.slice be L.length bf:Value).ownBlock)) (by exact rM aK (fun _ hk=>⟨hk.1.2,hk.2⟩)) hg hat);replace HB:=aM hb;have cT:=aM ho;clear an ho hb hg hat))
   go_ret
   exact⟨_,rE,by(with_reducible repeat(first|apply R_alloc|apply R_drewN|apply R_drew));exact R_mono cT.out (fun _ hk=>trivial),cB⟩
  ·rw[if_neg ad]at H;obtain⟨cw,cx⟩:=eF ad;obtain⟨ji35,hji35⟩ : ∃ j_:Int,(wrap64 ((b.length:Int) / 2))=j_:=⟨_,rfl⟩
   (first|rw[hji35]at H|simp only[hji35]at H)
   have hji35w:(IntKind.i64.wrap ((b.length:Int) / 2))=ji35:=(i64_w _).trans hji35;replace H:=gD H;obtain⟨eq,H⟩:=H;replace H:=gD H;obtain⟨er,H⟩:=H;replace H:=gC H;obtain⟨bF,H⟩:=H;have es:=eq_true bF;have et:decide (d.size+1≤9223372036854775807)=true:=decide_eq_true bF
   try have eu:(9223372036854775807<d.size+1)=False:=eq_false (Nat.not_lt.2 bF)
   replace H:=bE H;obtain⟨⟨aN,aQ,aT,aU,aV,aW,aX⟩,cU,H⟩:=H;(try dsimp only at H);replace H:=bE H;obtain⟨⟨aY,aZ,a0,a1,a2,a3,a4⟩,cV,H⟩:=H;(try dsimp only at H);replace H:=nE H;obtain⟨ag,cc,H⟩:=H;have ev:=eq_true (dA:0≤(ji35));replace H:=gC H;obtain⟨bG,H⟩:=H;have ew:=eq_true bG;have ex:decide ((ji35)≤(b.length:Int))=true:=decide_eq_true bG;clear bG;replace H:=bE H;obtain⟨I,cW,H⟩:=H;replace H:=gC H;obtain⟨cd,H⟩:=H;have cX:=aM cd;clear cd;replace H:=nE H;obtain⟨ah,cY,H⟩:=H;replace H:=bE H;obtain⟨⟨bH,bI,bJ,bL,bM,bN,bO⟩,cZ,H⟩:=H;(try dsimp only at H);replace H:=gC H;obtain⟨ce,H⟩:=H;have c0:=aM ce;clear ce;replace H:=nE H;obtain⟨ac,c1,H⟩:=H;have ey:=eq_true (dA:0≤(ji35));have ez:=eq_true (dA:(ji35)≤(b.length:Int));replace H:=bE H;obtain⟨O,c4,H⟩:=H;replace H:=gC H;obtain⟨cf,H⟩:=H;have c6:=aM cf;clear cf;obtain⟨eA,cg⟩ : ∃ y_:List (S86),Aside0 (y_=(ac ++ O)):=⟨_,⟨rfl⟩⟩;rw[← cg.out]at H;obtain rfl:=Option.some.inj H;go_enter Tryz.func21,Tryz.ntmps21
   try go_wp2_with (first|((with_reducible refine gN 3 ?_);refine boxZ 3 #[.int .i64 g,.int .i64 i,.int .i64 j,.slice o c.length p] 26 ?_;intro D hg eC hbox hb;have a:=aM hbox;have GW341:=gS hg;have GE341:=gS hg;replace HB:=sB hb;clear hb hbox hg;have bP:0≤((ji35):Int):=dA;have bQ:(ji35)<(b.length:Int):=dA;obtain⟨bR,c9,ch⟩:=at_int HR1.out (ji35) bP bQ;cases c9;replace ch:=(bc HB ch :);replace bP:=eq_true bP;replace bQ:=eq_true bQ)|((with_reducible refine gF 61 ?_);refine goesL_ (some 62) rfl rfl Tryz.func61 (by kernel_rfl) rfl #[.int .i64 5,.int .i64 (rd b (ji35)),.string (d ++ (⟨#[104]⟩ :ByteArray)),.string (d ++ (⟨#[108]⟩ :ByteArray))] rfl (by(try simp only[List.map_toArray,List.map_cons,List.map_nil]);first|done|(simp only[hji35];rfl)|rfl|(simp only[List.length_drop,List.length_take];rfl)) ?_;(with_reducible refine(impl_ask.calls cU.out).mono ?_);rintro e eD ⟨rfl,hb⟩;refine⟨_,rfl,?_⟩;replace a:=kB a hb;replace HB:=sB hb;(try clear hb))|((with_reducible refine gF 55 ?_);refine gX (some 65) Tryz.func55 (impl_place.calls cV.out) ?_;intro eE hb;replace a:=kB a hb;replace HB:=sB hb;(try clear hb))|((with_reducible refine gN 66 ?_);refine R_lit k86 _ 86 ?hg (N:=66) ?hd (xs:=([(⟨aN,(⟨aQ,aT,aU,aV⟩ :S71),aW,aX⟩ :S86),(⟨aY,(⟨aZ,a0,a1,a2⟩ :S71),a3,a4⟩ :S86)] :List (S86))) (inner:=[.string aN,.int .i64 aQ,.int .i64 aT,.int .i64 aU,.int .i64 aV,.string aW,.string aX,.string aY,.int .i64 aZ,.int .i64 a0,.int .i64 a1,.int .i64 a2,.string a3,.string a4]) (ok:=fun _=>True) (okp:=fun _=>True) ?hr ?hp (fun _ hk=>hk) trivial (Below.refl _ _) (Nat.le_refl _) (by simp) ?_;(case hd=>rfl);(case hg=>rfl);(case hr=>exact rG);(case hp=>exact(Reps.c7 (show Kd.M k86 _ _ _ (⟨aN,(⟨aQ,aT,aU,aV⟩ :S71),aW,aX⟩ :S86) [.string aN,.int .i64 aQ,.int .i64 aT,.int .i64 aU,.int .i64 aV,.string aW,.string aX]from (k86_mkM _ _ _ (⟨aN,(⟨aQ,aT,aU,aV⟩ :S71),aW,aX⟩ :S86))) (Reps.c7 (show Kd.M k86 _ _ _ (⟨aY,(⟨aZ,a0,a1,a2⟩ :S71),a3,a4⟩ :S86) [.string aY,.int .i64 aZ,.int .i64 a0,.int .i64 a1,.int .i64 a2,.string a3,.string a4]from (k86_mkM _ _ _ (⟨aY,(⟨aZ,a0,a1,a2⟩ :S71),a3,a4⟩ :S86))) (Reps.none _ _))));intro da db a5 hb hg_ hnew_;clear hg_ hnew_;(first|rw[← cc.out]at a5|(simp only[Int.reduceToNat]at a5;rw[← cc.out]at a5));have Y:=rL a5;replace a:=kB a hb;replace HB:=sB hb;clear hb a5))
   replace Y:=dR Y;replace a:=dB a;replace HB:=dW HB;obtain⟨i057,hi057,_,hsz57,_⟩:=info_parts info3;obtain⟨hcut57,hA57,hC57⟩:=print_take_of (P:=Tryz.prog) (Value.int .i64) 0 42 3 .i64 Tryz.underlying42 hi057 hsz57 (some bR) ai b (ji35) (dA) (dA) HC1.out
   have HR404:=aM (C_of_reads (h1:=fun _=>rfl) (hA57 _ (reads_of_C HR1.out)))
   have HC404:=aM hC57;clear hA57 hC57 hi057 hsz57
   refine sZ 11 (fun w'=>w'.cell? ⟨D,0,none⟩=some (.int .i64 g)∧w'.cell? ⟨D,1,none⟩=some (.int .i64 i)∧w'.cell? ⟨D,2,none⟩=some (.int .i64 j)∧w'.cell? ⟨D,3,none⟩=some (.slice o c.length p)) impl_TreeLines.tab11 impl_TreeLines.bits11 qh6x1 fun HT_ HW_ hHeld=>?_
   generalize db.drew=eG at Y a HB HR404 hHeld ⊢;refine pZ 0 67 1 ?_;refine pZ 2 69 5 ?_;refine pZ 3 70 13 ?_;refine pZ 4 71 29 ?_;refine pZ 5 72 61 ?_;refine pZ 6 73 125 ?_;refine pZ 7 74 253 ?_;refine tZ 1 68 255 (y:=q6x1) (h:=?_)
   refine oZ 8 75 511 fun K hK=>?_
   refine goes_ Tryz.func21 (by kernel_rfl) rfl #[.agg #[.int .i64 g,.int .i64 i,.int .i64 j,.slice o c.length p],.slice (some bR) (b.take ((ji35):Int).toNat).length ai,.string (d ++ (⟨#[108]⟩ :ByteArray))] (by rfl) rfl rfl (by(try simp only[List.map_toArray,List.map_cons,List.map_nil]);first|done|(rw[show(b.take ((ji35):Int).toNat).length=(ji35).toNat from (by rw[List.length_take];have h_:((ji35):Int)≤(b.length:Int):=dA;omega)] <;> rfl)|(simp only[hji35];rfl)|rfl|(simp only[List.length_drop,List.length_take];rfl)) ?_
   with_reducible refine(ih k (by omega) g i j _ _ c _ _ (b.take ((ji35):Int).toNat) (d ++ (⟨#[108]⟩ :ByteArray)) I _ ?side1 ?side2 ?side3 ?side4 cW.out).mono ?_
   (case side1=>exact cH HR0_3)
   (case side2=>exact HC0_3.out)
   (case side3=>exact cH HR404)
   (case side4=>exact HC404.out)
   rintro e eH ⟨eI,rfl,l,hb⟩;refine⟨_,rfl,?_⟩;have m:=aM (R_lower (R_new' l (R_lt (mR Y))) (below_size cB));replace Y:=eB Y (R_base l) hb;replace a:=kB a hb;replace HB:=sB hb;(try clear hb);(try clear l);obtain⟨bg,bh,ci⟩:=R_slice m.out
   (first|subst ci|(injection ci with f1_ f2_ f3_;have f4_:=f1_.symm;have f5_:=f3_.symm;clear f1_ f2_ f3_;subst f4_;subst f5_))
   refine hK.out _ _ qh6x1 (fun hHeld=>?_)
   clear hK K;refine normZ (some 75) ?_
   refine oZ 9 76 1023 fun K hK=>?_
   refine R_append_rows_step k86 (w0:=w) w.heap.size (by rfl) (.tmp 67) (.tmp 75) 47 86 (.agg #[(.string ⟨#[]⟩),(.int .i64 0),(.int .i64 0),(.int .i64 0),(.int .i64 0),(.string ⟨#[]⟩),(.string ⟨#[]⟩)]) 80 rfl Tryz.underlying47 info86 rfl (by decide) (by omega) da ag I _ _ _ (fun k_=>some k_≠(.slice bg I.length bh:Value).ownBlock) (fun _=>False) rfl rfl ?aO ?aR (fun _ _ h=>h) (fun _ h=>h.elim) ?aF ?aB ?aS ?aL ?_
   (case aR=>exact rX m)
   (case aB=>exact cB)
   (case aF=>exact(fun k_ hk=>Kd.fresh' (R_lt (mR m)) k_ hk))
   (case aO=>exact(by exact rM Y (fun _ hk=>hk.2)))
   (case aS=>exact(below_size cB))
   (case aL=>have:=cX.out;omega)
   intro dc eJ ho hb hg hat;rw[← cY.out]at ho
   replace a:=kN a hg Y a
   replace m:=aM (R_after (ok:=(fun _=>True)) (mR m) hg hat)
   replace HB:=aM hb;have a6:=aM ho;clear Y ho hb hg hat
   refine hK.out _ _ qh6x1 (fun hHeld=>?_)
   clear hK K;refine normZ (some 76) ?_
   refine pZ 10 9 2047 ?_
   refine done_ (done_of HT_.out (by kernel_rfl)) ?_
   try go_wp2_with (first|((with_reducible refine gF 55 ?_);refine gX (some 80) Tryz.func55 (impl_place.calls cZ.out) ?_;intro eK hb;replace m:=rB m hb;replace a6:=rB a6 hb;replace a:=kB a hb;replace HB:=sB hb;(try clear hb))|((with_reducible refine gA 77 81 ?_);at_builtin;refine R_append k86 (w0:=w) w.heap.size rfl (.tmp 77) (.tmp 81) 47 86 (.agg #[(.string ⟨#[]⟩),(.int .i64 0),(.int .i64 0),(.int .i64 0),(.int .i64 0),(.string ⟨#[]⟩),(.string ⟨#[]⟩)]) 80 rfl Tryz.underlying47 info86 rfl (by decide) (by omega) dc ah (⟨bH,(⟨bI,bJ,bL,bM⟩ :S71),bN,bO⟩ :S86) [.string bH,.int .i64 bI,.int .i64 bJ,.int .i64 bL,.int .i64 bM,.string bN,.string bO] (fun k_=>some k_≠(.slice bg I.length bh:Value).ownBlock) (fun _=>False) rfl rfl ?aP (fun _ hk=>hk.elim) ?aF ?aO ?aB ?aS ?aL ?_;(case aP=>exact k86_mkM _ _ _ (⟨bH,(⟨bI,bJ,bL,bM⟩ :S71),bN,bO⟩ :S86));(case aB=>exact cB);(case aF=>exact(fun k_ hk=>Kd.fresh' (R_lt (mR m)) k_ hk));(case aO=>exact(mR a6));(case aS=>exact(below_size cB));(case aL=>have:=c0.out;omega);intro dd de ho hb hg hat;rw[← c1.out]at ho;replace a:=kN a hg a6 a;replace m:=aM (R_after (ok:=(fun _=>True)) (mR m) hg hat);replace HB:=aM hb;have aa:=aM ho;clear a6 ho hb hg hat))
   replace m:=dR m;replace aa:=dR aa;replace a:=dB a;replace HB:=dW HB;obtain⟨i064,hi064,_,hsz64,_⟩:=info_parts info3;obtain⟨df,hcut64,hA64,hC64⟩:=print_drop_of (P:=Tryz.prog) (Value.int .i64) 0 42 3 .i64 Tryz.underlying42 hi064 hsz64 (some bR) ai b (ji35) (dA) (dA) HC1.out
   have HR421:=aM (C_of_reads (h1:=fun _=>rfl) (hA64 _ (reads_of_C HR1.out)))
   have HC421:=aM hC64;clear hA64 hC64 hi064 hsz64
   refine sZ 11 (fun w'=>w'.cell? ⟨D,0,none⟩=some (.int .i64 g)∧w'.cell? ⟨D,1,none⟩=some (.int .i64 i)∧w'.cell? ⟨D,2,none⟩=some (.int .i64 j)∧w'.cell? ⟨D,3,none⟩=some (.slice o c.length p)) impl_TreeLines.tab13 impl_TreeLines.bits13 qh6x1 fun HT_ HW_ hHeld=>?_
   generalize de.drew=eL at m aa a HB HR421 hHeld ⊢;refine pZ 0 83 1 ?_;refine pZ 2 85 5 ?_;refine pZ 3 86 13 ?_;refine pZ 4 87 29 ?_;refine pZ 5 88 61 ?_;refine pZ 6 89 125 ?_;refine pZ 7 90 253 ?_;refine tZ 1 84 255 (y:=q6x1) (h:=?_)
   refine oZ 8 91 511 fun K hK=>?_
   refine goes_ Tryz.func21 (by kernel_rfl) rfl #[.agg #[.int .i64 g,.int .i64 i,.int .i64 j,.slice o c.length p],.slice df (b.drop ((ji35):Int).toNat).length (ai - (ji35).toNat),.string (d ++ (⟨#[104]⟩ :ByteArray))] (by rfl) rfl rfl (by(try simp only[List.map_toArray,List.map_cons,List.map_nil]);first|done|(rw[show(b.drop ((ji35):Int).toNat).length=(b.length - (ji35).toNat)from List.length_drop] <;> rfl)|(simp only[hji35];rfl)|rfl|(simp only[List.length_drop,List.length_take];rfl)) ?_
   with_reducible refine(ih k (by omega) g i j _ _ c _ _ (b.drop ((ji35):Int).toNat) (d ++ (⟨#[104]⟩ :ByteArray)) O _ ?side1 ?side2 ?side3 ?side4 c4.out).mono ?_
   (case side1=>exact cH HR0_3)
   (case side2=>exact HC0_3.out)
   (case side3=>exact cH HR421)
   (case side4=>exact HC421.out)
   rintro e eM ⟨eN,rfl,l,hb⟩;refine⟨_,rfl,?_⟩;have a7:=aM (R_lower (R_new' (R_new' l (R_lt (mR m))) (R_lt (mR aa))) (below_size cB));replace m:=eB m (R_base l) hb;replace aa:=eB aa (R_base l) hb;replace a:=kB a hb;replace HB:=sB hb;(try clear hb);(try clear l);obtain⟨cj,ck,cl⟩:=R_slice a7.out
   (first|subst cl|(injection cl with f1_ f2_ f3_;have f4_:=f1_.symm;have f5_:=f3_.symm;clear f1_ f2_ f3_;subst f4_;subst f5_))
   refine hK.out _ _ qh6x1 (fun hHeld=>?_)
   clear hK K;refine normZ (some 91) ?_
   refine oZ 9 92 1023 fun K hK=>?_
   refine R_append_rows_step k86 (w0:=w) w.heap.size (by rfl) (.tmp 83) (.tmp 91) 47 86 (.agg #[(.string ⟨#[]⟩),(.int .i64 0),(.int .i64 0),(.int .i64 0),(.int .i64 0),(.string ⟨#[]⟩),(.string ⟨#[]⟩)]) 80 rfl Tryz.underlying47 info86 rfl (by decide) (by omega) dd ac O _ _ _ (fun k_=>some k_≠(.slice bg I.length bh:Value).ownBlock∧some k_≠(.slice cj O.length ck:Value).ownBlock) (fun _=>False) rfl rfl ?aO ?aR (fun _ _ h=>h) (fun _ h=>h.elim) ?aF ?aB ?aS ?aL ?_
   (case aR=>exact rX a7)
   (case aB=>exact cB)
   (case aF=>exact(fun k_ hk=>⟨Kd.fresh' (R_lt (mR m)) k_ hk,Kd.fresh' (R_lt (mR a7)) k_ hk⟩))
   (case aO=>exact(mR aa))
   (case aS=>exact(below_size cB))
   (case aL=>have:=c6.out;omega)
   intro eO eP ho hb hg hat;rw[← cg.out]at ho
   replace a:=kN a hg aa a
   replace m:=aM (R_after (ok:=(fun k_=>some k_≠(.slice cj O.length ck:Value).ownBlock)) (by exact rM m (fun _ hk=>⟨hk.2,hk.1.2⟩)) hg hat)
   replace a7:=aM (R_after (ok:=(fun k_=>some k_≠(.slice bg I.length bh:Value).ownBlock)) (by exact rM a7 (fun _ hk=>⟨hk.1.2,hk.2⟩)) hg hat)
   replace HB:=aM hb;have dg:=aM ho;clear aa ho hb hg hat
   refine hK.out _ _ qh6x1 (fun hHeld=>?_)
   clear hK K;refine normZ (some 92) ?_
   refine pZ 10 6 2047 ?_
   refine done_ (done_of HT_.out (by kernel_rfl)) ?_
   try go_wp2
   go_ret
   exact⟨_,by first|rfl|(simp[errW_none,errW_some] <;> rfl)|(simp only[← hji35];first|rfl|(simp[errW_none,errW_some] <;> rfl))|(simp[*,errW_none,errW_some] <;> rfl),by(with_reducible repeat(first|apply R_alloc|apply R_drewN|apply R_drew));exact R_mono dg.out (fun _ hk=>trivial),cB⟩
def slices_Sort_int_int.f (J:List Int):Option (List Int):=if J.length<4611686018427387904 then some (J.mergeSort fun x y=>decide (x≤y))else none
theorem slices_Sort_int_int.calls (P0_:Nat→Prop) (u9000_:Value) (J:List Int) (r:List Int) (w0 w:World) (hB:Below w0.heap.size w0 w) (l:Kd.R (Kd.int .i64) 3 w w0.heap.size P0_ u9000_ J) (h:slices_Sort_int_int.f J=some r) :
 Calls Tryz.prog 63 #[u9000_] w fun e w'=>e= .returned (.tuple #[])∧Kd.R (Kd.int .i64) 3 w' w0.heap.size (fun k_=>(P0_ k_∨w.heap.size≤k_)) u9000_ r∧Below w0.heap.size w0 w'∧Kept w w' (fun k_=>P0_ k_):=by
 unfold slices_Sort_int_int.f at h;split at h
 ·obtain rfl:=Option.some.inj h
  exact Go.Proofs.YtpbalojiaghfhaaGreatW.PK.sort_own P0_ u9000_ J w0 w hB l (by assumption)
 ·cases h
def slices_Compact_int_int.f (J:List Int):Option (List Int):=some (Go.Lib.compact J)
theorem slices_Compact_int_int.calls (P0_:Nat→Prop) (u9000_:Value) (J:List Int) (r:List Int) (w0 w:World) (hB:Below w0.heap.size w0 w) (l:Kd.R (Kd.int .i64) 3 w w0.heap.size P0_ u9000_ J) (h:slices_Compact_int_int.f J=some r) :
 Calls Tryz.prog 64 #[u9000_] w fun e w'=> ∃ v0_:Value,e= .returned (v0_)∧Kd.R (Kd.int .i64) 3 w' w0.heap.size (fun k_=>(P0_ k_∨w.heap.size≤k_)) v0_ r∧Below w0.heap.size w0 w'∧Kept w w' (fun k_=>P0_ k_):=by
 obtain rfl:=Option.some.inj h;exact Go.Proofs.YtpbalojiaghfhaaGreatW.PK.compact_own P0_ u9000_ J w0 w hB l
def impl_NumsOf.l0:Nat→List Int→List (S78)→Int→Int→Option (List Int)
  | 0,_,_,_,_=>none
  | k+1,bS,bi,cm,ao=>if ao<cm then(if 0≤ao then(if ao<(bi.length:Int)then(if bS.length+((rd_T78 bi ao).f0).length<17592186044416 then(impl_NumsOf.l0 k (bS ++ ((rd_T78 bi ao).f0)) bi cm (wrap64 (ao+1)))else(none))else(none))else(none))else((slices_Sort_int_int.f bS).bind fun bj=>((slices_Compact_int_int.f bj).bind fun bT=>(some bT)))
def impl_NumsOf.f (k:Nat) (g:Int) (i:Int) (j:Int) (c:List (S78)):Option (List Int):=impl_NumsOf.l0 k (([] :List Int)) c (c.length:Int) 0
set_option maxHeartbeats 8000000 in
set_option maxRecDepth 100000 in
theorem impl_NumsOf.calls {k:Nat}{g:Int}{i:Int}{j:Int}{o:Option Addr}{p:Nat}{c:List (S78)}{r:List Int}{w:World}(h:impl_NumsOf.f k g i j c=some r)(aj:Kd.C k78 w o c.length c)(ak:c.length≤p) :
 Calls Tryz.prog 26 #[.agg #[.int .i64 g,.int .i64 i,.int .i64 j,.slice o c.length p]] w fun e w'=> ∃ v0_:Value,e= .returned (v0_)∧Kd.R (Kd.int .i64) 3 w' w.heap.size (fun _=>True) v0_ r∧Below w.heap.size w w':=by
 have hu26:=Tryz.underlying26;have hu78:=Tryz.underlying78;have HR0_3:=aM aj;have HC0_3:=aM ak;clear aj ak;have HB:=rW w;have H:(impl_NumsOf.l0 k (([] :List Int)) c (c.length:Int) 0)=some r:=h;clear h;obtain⟨dh,bU⟩ : ∃ y_:List Int,Aside0 (y_=(([] :List Int))):=⟨_,⟨rfl⟩⟩;rw[← bU.out]at H;have H':=aM H;clear H;go_enter Tryz.func26,Tryz.ntmps26
 go_wp2_with (first|((with_reducible refine gN 1 ?_);refine boxZ 1 #[.int .i64 g,.int .i64 i,.int .i64 j,.slice o c.length p] 26 ?_;intro di hg eQ hbox hb;have n:=aM hbox;have GW428:=gS hg;have GE428:=gS hg;replace HB:=sB hb;clear hb hbox hg)|((with_reducible refine gN 6 ?_);refine R_lit (Kd.int .i64) _ 3 ?hg (N:=6) ?hd (xs:=([] :List Int)) (inner:=[]) (ok:=fun _=>True) (okp:=fun _=>True) ?hr ?hp (fun _ hk=>hk) trivial (Below.refl _ _) (Nat.le_refl _) (by simp) ?_;(case hd=>rfl);(case hg=>rfl);(case hr=>exact rG);(case hp=>exact(Reps.none _ _));intro eR eS a8 hb hg_ hnew_;clear hg_ hnew_;(first|rw[← bU.out]at a8|(simp only[Int.reduceToNat]at a8;rw[← bU.out]at a8));have dj:=rL a8;replace n:=kB n hb;replace HB:=sB hb;clear hb a8;obtain⟨dk,dl,dm,dn,dp,dq,dr,ds⟩:=cz4 n))
 go_loopg [3,10] k (fun kq dt du w'=> ∃ (W:List Int) (E:Int),du= .int .i64 E∧Aside0 (impl_NumsOf.l0 kq W c (c.length:Int) E=some r)∧Aside0 (kq≤k)∧Aside0 (Kd.R (Kd.int .i64) 3 w' w.heap.size (fun _=>True) dt W)∧Aside0 (w'.heap[di]?=some (.cells #[.int .i64 g,.int .i64 i,.int .i64 j,(.slice o c.length p)] 26 (0,0)))∧Aside0 (Below w.heap.size w w'))
 case atStart=>exact⟨(dh),(0),rS,H',⟨Nat.le_refl _⟩,⟨mR dj⟩,⟨mK n⟩,⟨cB⟩⟩
 case round=>
  clear H';(try clear dk dl dm dn);(try clear dp dq dr ds);obtain⟨W,E,rfl,HA,HK1,G,n,HB⟩:=hrel
  cases gk with
  | zero=>exact absurd HA.out (by simp[impl_NumsOf.l0])
  | succ k1=>
   have H:=HA.out;clear HA;simp only[impl_NumsOf.l0]at H;by_cases ap:E<(c.length:Int)
   ·rw[if_pos ap]at H;have dv:=decide_eq_true ap;clear ap;replace H:=gD H;obtain⟨eU,H⟩:=H;replace H:=gD H;obtain⟨eW,H⟩:=H;replace H:=gC H;obtain⟨ad,H⟩:=H;have dw:=aM ad;clear ad;obtain⟨dx,cn⟩ : ∃ y_:List Int,Aside0 (y_=(W ++ ((rd_T78 c E).f0))):=⟨_,⟨rfl⟩⟩;rw[← cn.out]at H;have H':=aM H;clear H;have bV:0≤(E:Int):=dA;have bW:E<(c.length:Int):=dA;obtain⟨eZ,dy,dz,dC,dD,dE,co,cp,cq,cr,hl432_0,hi432_0,hl432_1,hi432_1⟩:=at_T78 HR0_3.out E bV bW;cases dE;replace co:=(bc HB co :);replace cp:=(bc HB cp :);replace cq:=(bc HB cq :);replace cr:=(bc HB cr :);have HR432_0:=aM hi432_0;have HC432_0:=aM hl432_0;clear hi432_0 hl432_0;have HR432_1:=aM hi432_1;have HC432_1:=aM hl432_1;clear hi432_1 hl432_1;replace bV:=eq_true bV;replace bW:=eq_true bW
    go_wp2_with (first|((with_reducible refine gN 5 ?_);refine boxZ 5 #[.slice none 0 0,.slice none 0 0,.int .i64 0,.int .i64 0] 78 ?_;intro e0 hg e1 hbox hb;replace G:=rB G hb;have a9:=aM hbox;have GW433:=gS hg;have GE433:=gS hg;replace HB:=sB hb;have dF:=nL hg n;have dG:=nG hg n;replace n:=kB n hb;clear hb hbox hg;have hnb11:=dG.out;have hnc11:=dF.out;obtain⟨e2,e3,e4,e5,e6,e7,e8,e9⟩:=cz4 a9)|((with_reducible refine gA 14 16 ?_);at_builtin;refine R_append_rows (Kd.int .i64) (w0:=w) w.heap.size rfl (.tmp 14) (.tmp 16) 42 3 (.int .i64 0) 8 rfl Tryz.underlying42 info3 rfl (by decide) (by omega) u3 W ((rd_T78 c E).f0) _ _ _ (fun _=>True) (fun _=>False) rfl rfl ?aO ?aR (fun _ _ h=>h) (fun _ h=>h.elim) ?aF ?aB ?aS ?aL ?_;(case aR=>exact C_below HR432_0.out cB);(case aB=>exact cB);(case aF=>exact(fun _ _=>trivial));(case aO=>exact(fR (R_types G.out a9.out (by decide)) (fun _ hk=>trivial)));(case aS=>exact(below_size cB));(case aL=>have:=dw.out;omega);intro fa fb ho hb hg hat;rw[← cn.out]at ho;replace n:=kN n hg G n;replace a9:=kG a9 hg (R_ne G.out a9.out (by decide)) (.cells #[.slice dy ((rd_T78 c E).f0).length dz,.slice dC ((rd_T78 c E).f1).length dD,.int .i64 ((rd_T78 c E).f2),.int .i64 ((rd_T78 c E).f3)] 78 (0,0));replace HB:=aM hb;have dH:=aM ho;clear G ho hb hg hat))
    go_roundg k1
    case measure=>exact oK
    case rel=>exact⟨(dx),(wrap64 (E+1)),rS,H',⟨oK⟩,⟨mR dH⟩,⟨mK n⟩,⟨cB⟩⟩
   ·rw[if_neg ap]at H;have dv:=decide_eq_false ap;clear ap;replace H:=bE H;obtain⟨bj,bq,H⟩:=H;replace H:=bE H;obtain⟨bT,dI,H⟩:=H;obtain rfl:=Option.some.inj H;obtain⟨bk,bl,dJ⟩:=R_slice G.out;subst dJ
    go_wp2_with (first|((with_reducible refine gF 63 ?_);refine gX (some 20) Tryz.func63 (slices_Sort_int_int.calls (fun k_=>some k_=(.slice bk W.length bl:Value).ownBlock) (.slice bk W.length bl) W bj w _ cB (R_tight rfl G.out) bq.out) ?_;rintro fc ⟨hy0,hb,hkp⟩;replace n:=aM (blk_kept (mK n) hkp (fun hs_=>(fun e_=>(R_ne G.out n.out (by decide)) e_) hs_));replace G:=aM (R_reok rfl hy0 (fun k_ e_=>G.out.1 k_ e_));replace HB:=aM hb;(try clear hb);(try clear hkp);(try clear hy0))|((with_reducible refine gF 64 ?_);refine gY (some 22) Tryz.func64 (slices_Compact_int_int.calls (fun k_=>some k_=(.slice bk W.length bl:Value).ownBlock) (.slice bk W.length bl) bj bT w _ cB (R_tight rfl G.out) dI.out) ?_;rintro fd fe ⟨l,hb,hkp⟩;replace n:=aM (blk_kept (mK n) hkp (fun hs_=>(fun e_=>(R_ne G.out n.out (by decide)) e_) hs_));have dK:=aM (R_mono (ok':=fun k_=>True) l (fun k_ hk_=>trivial));replace HB:=aM hb;clear G;(try clear hb);(try clear hkp);(try clear l)))
    go_ret;exact⟨_,rE,mR dK,cB⟩
end Go.Proofs.YtpbalojiaghfhaaGreat.PFnCompilesTold
