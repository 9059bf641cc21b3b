import Derived.Test.YtpbalojiaghfhaaPFnCompilesSmally0
import Derived.Test.YtpbalojiaghfhaaPFnCompilesSmally7
import Derived.Test.YtpbalojiaghfhaaPFnCompilesSmally10
namespace Go.Proofs.Ytpbalojiaghfhaa.PFnCompilesSmall
open Go.RowKit Go.Proofs.YtpbalojiaghfhaaW.PrintWords Go.Proofs.YtpbalojiaghfhaaW.PrintLast Go.Proofs.YtpbalojiaghfhaaW.PrintMore Go.Proofs.YtpbalojiaghfhaaW.Z
open Kd
attribute [local go_sem] isS max2_int min2_int max_two min_two max_three min_three max_four min_four
set_option linter.unusedVariables false
set_option linter.unusedSimpArgs false
theorem qh11x0 {P:Prop} (h:P:=by exact⟨(blk_cell a.out 0).trans rfl,(blk_cell a.out 1).trans rfl,(blk_cell a.out 2).trans rfl,(blk_cell a.out 3).trans rfl,((bc HB aY :))⟩):P:=h
theorem qh11x1 {P:Prop} (h:P:=by exact⟨(blk_cell a.out 0).trans rfl,(blk_cell a.out 1).trans rfl,(blk_cell a.out 2).trans rfl,(blk_cell a.out 3).trans rfl⟩):P:=h
def impl_TreeLines.f:Nat→Int→Int→Int→List (S81)→List Int→ByteArray→Option ((List (S104)))
  | 0,_,_,_,_,_,_=>none
  | k+1,g,i,j,d,b,c=>if(b.length:Int)=0 then((impl_ChainLines.f k g i j d 0 true c).bind fun aZ=>(some aZ))else(if(b.length:Int)=1 then(if 0<(b.length:Int)then(if c.size+1≤9223372036854775807 then((impl_ask.f 3 (rd b 0) (c ++ (⟨#[121]⟩ :ByteArray)) (c ++ (⟨#[120]⟩ :ByteArray))).bind fun o=>((impl_place.f (c ++ (⟨#[121]⟩ :ByteArray))).bind fun p=>((some (([(⟨o.1,(⟨o.2.1,o.2.2.1,o.2.2.2.1,o.2.2.2.2.1⟩ :S34),o.2.2.2.2.2.1,o.2.2.2.2.2.2⟩ :S104),(⟨p.1,(⟨p.2.1,p.2.2.1,p.2.2.2.1,p.2.2.2.2.1⟩ :S34),p.2.2.2.2.2.1,p.2.2.2.2.2.2⟩ :S104)] :List (S104)):List (S104))).bind fun W=>((impl_ChainLines.f k g i j d (rd b 0) false (c ++ (⟨#[121]⟩ :ByteArray))).bind fun z=>(if W.length+z.length<1759218604441 then((some (W ++ z:List (S104))).bind fun X=>((impl_place.f (c ++ (⟨#[120]⟩ :ByteArray))).bind fun q=>(if X.length<1759218604441 then((some (X ++ [(⟨q.1,(⟨q.2.1,q.2.2.1,q.2.2.2.1,q.2.2.2.2.1⟩ :S34),q.2.2.2.2.2.1,q.2.2.2.2.2.2⟩ :S104)] :List (S104))).bind fun O=>((impl_ChainLines.f k g i j d 0 true (c ++ (⟨#[120]⟩ :ByteArray))).bind fun G=>(if O.length+G.length<1759218604441 then(some (O ++ G))else(none))))else(none))))else(none))))))else(none))else(none))else(if 0≤(wrap64 ((b.length:Int) / 2))then(if(wrap64 ((b.length:Int) / 2))<(b.length:Int)then(if c.size+1≤9223372036854775807 then((impl_ask.f 5 (rd b (wrap64 ((b.length:Int) / 2))) (c ++ (⟨#[104]⟩ :ByteArray)) (c ++ (⟨#[108]⟩ :ByteArray))).bind fun s=>((impl_place.f (c ++ (⟨#[108]⟩ :ByteArray))).bind fun t=>((some (([(⟨s.1,(⟨s.2.1,s.2.2.1,s.2.2.2.1,s.2.2.2.2.1⟩ :S34),s.2.2.2.2.2.1,s.2.2.2.2.2.2⟩ :S104),(⟨t.1,(⟨t.2.1,t.2.2.1,t.2.2.2.1,t.2.2.2.2.1⟩ :S34),t.2.2.2.2.2.1,t.2.2.2.2.2.2⟩ :S104)] :List (S104)):List (S104))).bind fun Y=>(if(wrap64 ((b.length:Int) / 2))≤(b.length:Int)then((impl_TreeLines.f k g i j d (b.take ((wrap64 ((b.length:Int) / 2)):Int).toNat) (c ++ (⟨#[108]⟩ :ByteArray))).bind fun x=>(if Y.length+x.length<1759218604441 then((some (Y ++ x:List (S104))).bind fun aa=>((impl_place.f (c ++ (⟨#[104]⟩ :ByteArray))).bind fun u=>(if aa.length<1759218604441 then((some (aa ++ [(⟨u.1,(⟨u.2.1,u.2.2.1,u.2.2.2.1,u.2.2.2.2.1⟩ :S34),u.2.2.2.2.2.1,u.2.2.2.2.2.2⟩ :S104)] :List (S104))).bind fun U=>((impl_TreeLines.f k g i j d (b.drop ((wrap64 ((b.length:Int) / 2)):Int).toNat) (c ++ (⟨#[104]⟩ :ByteArray))).bind fun A=>(if U.length+A.length<1759218604441 then(some (U ++ A))else(none))))else(none))))else(none)))else(none)))))else(none))else(none))else(none)))
def impl_TreeLines.T7:Bool×List (List Nat×List Nat):=(true,[([],[]),([],[]),([],[]),([2],[2]),([3],[3]),([],[]),([5],[5]),([1,4,6],[1,4,6]),([0,7,7],[0,7]),([8,8,0,1,2,3,4,5,6,7,8],[0,8])])
def impl_TreeLines.B7:List Nat:=[0,0,0,4,12,0,32,126,255,511]
theorem impl_TreeLines.tab7:rtab .any (opsOf Try.f88 7)=impl_TreeLines.T7:=by kernel_rfl
theorem impl_TreeLines.bits7:waitsOk impl_TreeLines.T7.2 impl_TreeLines.B7=true:=by kernel_rfl
def impl_TreeLines.T11:Bool×List (List Nat×List Nat):=(true,[([],[]),([],[]),([],[]),([],[]),([3],[3]),([2,4],[2,4]),([],[]),([6],[6]),([1,5,7],[1,5,7]),([0,8,8],[0,8]),([9,9,0,1,2,3,4,5,6,7,8,9],[0,9])])
def impl_TreeLines.B11:List Nat:=[0,0,0,0,8,28,0,64,254,511,1023]
theorem impl_TreeLines.tab11:rtab .any (opsOf Try.f88 11)=impl_TreeLines.T11:=by kernel_rfl
theorem impl_TreeLines.bits11:waitsOk impl_TreeLines.T11.2 impl_TreeLines.B11=true:=by kernel_rfl
def impl_TreeLines.T13:Bool×List (List Nat×List Nat):=(true,[([],[]),([],[]),([],[]),([],[]),([3],[3]),([2,4],[2,4]),([],[]),([6],[6]),([1,5,7],[1,5,7]),([0,8,8],[0,8]),([9,9,0,1,2,3,4,5,6,7,8,9],[9])])
def impl_TreeLines.B13:List Nat:=[0,0,0,0,8,28,0,64,254,511,1023]
theorem impl_TreeLines.tab13:rtab .any (opsOf Try.f88 13)=impl_TreeLines.T13:=by kernel_rfl
theorem impl_TreeLines.bits13:waitsOk impl_TreeLines.T13.2 impl_TreeLines.B13=true:=by kernel_rfl
theorem q11x0 {P:Prop} (h:P:=by
 rintro w' ⟨s0,s1,s2,s3,s4⟩
 go_simp
 with_reducible rfl):P:=h
theorem q11x1 {P:Prop} (h:P:=by
 rintro w' ⟨s0,s1,s2,s3⟩
 go_simp
 with_reducible rfl):P:=h
set_option maxHeartbeats 8000000 in
set_option maxRecDepth 100000 in
theorem impl_TreeLines.calls (k:Nat): ∀ (g:Int) (i:Int) (j:Int) (D:Option Addr) (E:Nat) (d:List (S81)) (a5:Option Addr) (ab:Nat) (b:List Int) (c:ByteArray) (r:List (S104)) (w:World) (a6:Kd.C k81 w D d.length d) (a7:d.length≤E) (a8:Kd.C (Kd.int .i64) w a5 b.length b) (a9:b.length≤ab) (h:impl_TreeLines.f k g i j d b c=some r),
 Calls Try.prog 88 #[.agg #[.int .i64 g,.int .i64 i,.int .i64 j,.slice D d.length E],.slice a5 b.length ab,.string c] w fun e w'=> ∃ v0_:Value,e= .returned (v0_)∧Kd.R k104 104 w' w.heap.size (fun _=>True) v0_ r∧Below w.heap.size w w':=by
 induction k using Nat.strongRecOn with
 | _ k ih=>
 intro g i j D E d a5 ab b c r w a6 a7 a8 a9 h
 cases k with
 | zero=>exact absurd h (by simp[impl_TreeLines.f])
 | succ k=>
 simp only[impl_TreeLines.f]at h;have hu41:=Try.underlying41;have HR0_3:=aM a6;have HC0_3:=aM a7;clear a6 a7;have HR1:=aM a8;have HC1:=aM a9;clear a8 a9;have HB:=rW w
 have H:(if(b.length:Int)=0 then((impl_ChainLines.f k g i j d 0 true c).bind fun aZ=>(some aZ))else(if(b.length:Int)=1 then(if 0<(b.length:Int)then(if c.size+1≤9223372036854775807 then((impl_ask.f 3 (rd b 0) (c ++ (⟨#[121]⟩ :ByteArray)) (c ++ (⟨#[120]⟩ :ByteArray))).bind fun o=>((impl_place.f (c ++ (⟨#[121]⟩ :ByteArray))).bind fun p=>((some (([(⟨o.1,(⟨o.2.1,o.2.2.1,o.2.2.2.1,o.2.2.2.2.1⟩ :S34),o.2.2.2.2.2.1,o.2.2.2.2.2.2⟩ :S104),(⟨p.1,(⟨p.2.1,p.2.2.1,p.2.2.2.1,p.2.2.2.2.1⟩ :S34),p.2.2.2.2.2.1,p.2.2.2.2.2.2⟩ :S104)] :List (S104)):List (S104))).bind fun W=>((impl_ChainLines.f k g i j d (rd b 0) false (c ++ (⟨#[121]⟩ :ByteArray))).bind fun z=>(if W.length+z.length<1759218604441 then((some (W ++ z:List (S104))).bind fun X=>((impl_place.f (c ++ (⟨#[120]⟩ :ByteArray))).bind fun q=>(if X.length<1759218604441 then((some (X ++ [(⟨q.1,(⟨q.2.1,q.2.2.1,q.2.2.2.1,q.2.2.2.2.1⟩ :S34),q.2.2.2.2.2.1,q.2.2.2.2.2.2⟩ :S104)] :List (S104))).bind fun O=>((impl_ChainLines.f k g i j d 0 true (c ++ (⟨#[120]⟩ :ByteArray))).bind fun G=>(if O.length+G.length<1759218604441 then(some (O ++ G))else(none))))else(none))))else(none))))))else(none))else(none))else(if 0≤(wrap64 ((b.length:Int) / 2))then(if(wrap64 ((b.length:Int) / 2))<(b.length:Int)then(if c.size+1≤9223372036854775807 then((impl_ask.f 5 (rd b (wrap64 ((b.length:Int) / 2))) (c ++ (⟨#[104]⟩ :ByteArray)) (c ++ (⟨#[108]⟩ :ByteArray))).bind fun s=>((impl_place.f (c ++ (⟨#[108]⟩ :ByteArray))).bind fun t=>((some (([(⟨s.1,(⟨s.2.1,s.2.2.1,s.2.2.2.1,s.2.2.2.2.1⟩ :S34),s.2.2.2.2.2.1,s.2.2.2.2.2.2⟩ :S104),(⟨t.1,(⟨t.2.1,t.2.2.1,t.2.2.2.1,t.2.2.2.2.1⟩ :S34),t.2.2.2.2.2.1,t.2.2.2.2.2.2⟩ :S104)] :List (S104)):List (S104))).bind fun Y=>(if(wrap64 ((b.length:Int) / 2))≤(b.length:Int)then((impl_TreeLines.f k g i j d (b.take ((wrap64 ((b.length:Int) / 2)):Int).toNat) (c ++ (⟨#[108]⟩ :ByteArray))).bind fun x=>(if Y.length+x.length<1759218604441 then((some (Y ++ x:List (S104))).bind fun aa=>((impl_place.f (c ++ (⟨#[104]⟩ :ByteArray))).bind fun u=>(if aa.length<1759218604441 then((some (aa ++ [(⟨u.1,(⟨u.2.1,u.2.2.1,u.2.2.2.1,u.2.2.2.2.1⟩ :S34),u.2.2.2.2.2.1,u.2.2.2.2.2.2⟩ :S104)] :List (S104))).bind fun U=>((impl_TreeLines.f k g i j d (b.drop ((wrap64 ((b.length:Int) / 2)):Int).toNat) (c ++ (⟨#[104]⟩ :ByteArray))).bind fun A=>(if U.length+A.length<1759218604441 then(some (U ++ A))else(none))))else(none))))else(none)))else(none)))))else(none))else(none))else(none))))=some r:=h
 clear h;by_cases ac:(b.length:Int)=0
 ·rw[if_pos ac]at H;obtain⟨bX,bY⟩:=eT ac;clear ac;replace H:=bE H;obtain⟨aZ,bZ,H⟩:=H;obtain rfl:=Option.some.inj H;go_enter Try.func88,Try.ntmps88
  go_wp2_with (first|((with_reducible refine gN 3 ?_);refine boxZ 3 #[.int .i64 g,.int .i64 i,.int .i64 j,.slice D d.length E] 41 ?_;intro v hg cN hbox hb;have a:=aM hbox;have GW578:=gS hg;have GE578:=gS hg;replace HB:=sB hb;clear hb hbox hg;obtain⟨cO,cP,cQ,cR,cS,cT,cU,cV⟩:=cz4 a)|((with_reducible refine gF 108 ?_);refine gY (some 17) Try.func108 (impl_ChainLines.calls bZ.out (cH HR0_3) HC0_3.out) ?_;rintro cW cX ⟨l,hb⟩;have b0:=rL l;replace a:=kB a hb;replace HB:=sB hb;(try clear hb);(try clear l)))
  go_ret;exact⟨_,rE,mR b0,cB⟩
 ·rw[if_neg ac]at H;obtain⟨bX,bY⟩:=eF ac
  have cY: ¬ (b= []):=fun h_=>ac (by rw[h_];rfl)
  by_cases af:(b.length:Int)=1
  ·rw[if_pos af]at H;obtain⟨b1,b5⟩:=eT af;clear af;replace H:=gC H;obtain⟨bB,H⟩:=H;have cZ:=decide_eq_true bB
   have c0:decide (0<b.length)=true:=decide_eq_true (by omega)
   clear bB;replace H:=gC H;obtain⟨ba,H⟩:=H;have c1:=eq_true ba;have c4:decide (c.size+1≤9223372036854775807)=true:=decide_eq_true ba
   try have c9:(9223372036854775807<c.size+1)=False:=eq_false (Nat.not_lt.2 ba)
   replace H:=bE H;obtain⟨⟨ag,ah,ai,aj,ak,al,am⟩,b8,H⟩:=H;(try dsimp only at H);replace H:=bE H;obtain⟨⟨an,ao,ap,aq,ar,au,av⟩,b9,H⟩:=H;(try dsimp only at H);replace H:=nE H;obtain⟨W,bC,H⟩:=H;replace H:=bE H;obtain⟨z,ca,H⟩:=H;replace H:=gC H;obtain⟨bD,H⟩:=H;have cb:=aM bD;clear bD;replace H:=nE H;obtain⟨X,cc,H⟩:=H;replace H:=bE H;obtain⟨⟨bb,bd,be,bf,bg,bh,bi⟩,cd,H⟩:=H;(try dsimp only at H);replace H:=gC H;obtain⟨bF,H⟩:=H;have ce:=aM bF;clear bF;replace H:=nE H;obtain⟨O,cf,H⟩:=H;replace H:=bE H;obtain⟨G,cg,H⟩:=H;replace H:=gC H;obtain⟨bG,H⟩:=H;have ch:=aM bG;clear bG;obtain⟨da,bH⟩ : ∃ y_:List (S104),Aside0 (y_=(O ++ G)):=⟨_,⟨rfl⟩⟩;rw[← bH.out]at H;obtain rfl:=Option.some.inj H;go_enter Try.func88,Try.ntmps88
   try go_wp2_with (first|((with_reducible refine gN 3 ?_);refine boxZ 3 #[.int .i64 g,.int .i64 i,.int .i64 j,.slice D d.length E] 41 ?_;intro v hg db hbox hb;have a:=aM hbox;have GW578:=gS hg;have GE578:=gS hg;replace HB:=sB hb;clear hb hbox hg;have bj:0≤(0:Int):=(by omega);have bk:0<(b.length:Int):=dA;obtain⟨bI,ci,a0⟩:=at_int HR1.out 0 bj bk;cases ci;have qi582:(0<b.length)=True:=eq_true (by omega);(try rw[show((0:Int)).toNat=0 from rfl]at a0);(try rw[Addr.add_zero']at a0);replace a0:=(bc HB a0 :);replace bj:=eq_true bj;replace bk:=eq_true bk)|((with_reducible refine gF 86 ?_);refine gX (some 27) Try.func86 (impl_ask.calls b8.out) ?_;intro dc hb;replace a:=kB a hb;replace HB:=sB hb;(try clear hb))|((with_reducible refine gF 87 ?_);refine gX (some 30) Try.func87 (impl_place.calls b9.out) ?_;intro dd hb;replace a:=kB a hb;replace HB:=sB hb;(try clear hb))|((with_reducible refine gN 31 ?_);refine R_lit k104 _ 104 ?hg (N:=31) ?hd (xs:=([(⟨ag,(⟨ah,ai,aj,ak⟩ :S34),al,am⟩ :S104),(⟨an,(⟨ao,ap,aq,ar⟩ :S34),au,av⟩ :S104)] :List (S104))) (inner:=[.string ag,.int .i64 ah,.int .i64 ai,.int .i64 aj,.int .i64 ak,.string al,.string am,.string an,.int .i64 ao,.int .i64 ap,.int .i64 aq,.int .i64 ar,.string au,.string av]) (ok:=fun _=>True) (okp:=fun _=>True) ?hr ?hp (fun _ hk=>hk) trivial (Below.refl _ _) (Nat.le_refl _) (by simp) ?_;(case hd=>rfl);(case hg=>rfl);(case hr=>exact rG);(case hp=>exact(Reps.c7 (show Kd.M k104 _ _ _ (⟨ag,(⟨ah,ai,aj,ak⟩ :S34),al,am⟩ :S104) [.string ag,.int .i64 ah,.int .i64 ai,.int .i64 aj,.int .i64 ak,.string al,.string am]from (k104_mkM _ _ _ (⟨ag,(⟨ah,ai,aj,ak⟩ :S34),al,am⟩ :S104))) (Reps.c7 (show Kd.M k104 _ _ _ (⟨an,(⟨ao,ap,aq,ar⟩ :S34),au,av⟩ :S104) [.string an,.int .i64 ao,.int .i64 ap,.int .i64 aq,.int .i64 ar,.string au,.string av]from (k104_mkM _ _ _ (⟨an,(⟨ao,ap,aq,ar⟩ :S34),au,av⟩ :S104))) (Reps.none _ _))));intro cj ck aw hb hg_ hnew_;clear hg_ hnew_;(first|rw[← bC.out]at aw|(simp only[Int.reduceToNat]at aw;rw[← bC.out]at aw));have I:=rL aw;replace a:=kB a hb;replace HB:=sB hb;clear hb aw))
   replace I:=dR I;replace a:=dB a;replace HB:=dW HB
   have bl:0≤(0:Int):=(by omega)
   have bm:0<(b.length:Int):=dA;obtain⟨cl,cm,ad⟩:=at_int HR1.out 0 bl bm;have aY:=ad;(try rw[show((0:Int)).toNat=0 from rfl]at aY);(try rw[show 0*1=0 from rfl]at aY);(try rw[Addr.add_zero']at aY)
   obtain rfl:bI=cl:=(by injection cm)
   have qi600:(0<b.length)=True:=eq_true (by omega)
   (try rw[show((0:Int)).toNat=0 from rfl]at ad);(try rw[Addr.add_zero']at ad);replace ad:=(bc HB ad :);replace bl:=eq_true bl;replace bm:=eq_true bm
   refine sZ 10 (fun w'=>w'.cell? ⟨v,0,none⟩=some (.int .i64 g)∧w'.cell? ⟨v,1,none⟩=some (.int .i64 i)∧w'.cell? ⟨v,2,none⟩=some (.int .i64 j)∧w'.cell? ⟨v,3,none⟩=some (.slice D d.length E)∧w'.cell? bI=some (.int .i64 (rd b 0))) impl_TreeLines.tab7 impl_TreeLines.bits7 qh11x0 fun HT_ HW_ hHeld=>?_
   generalize ck.drew=de at I a HB ad hHeld ⊢;refine pZ 0 32 1 ?_;refine pZ 2 34 5 ?_;refine pZ 3 35 13 ?_;refine pZ 5 37 45 ?_;refine pZ 6 38 109 ?_;refine tZ 1 33 111 (y:=q11x0) (h:=?_);refine tZ 4 36 127 (y:=q11x0) (h:=?_)
   refine oZ 7 39 255 fun K hK=>?_
   refine eY Try.func108 (impl_ChainLines.calls ca.out (cH HR0_3) HC0_3.out) ?_
   rintro df dg ⟨l,hb⟩;have n:=aM (R_lower (R_new' l (R_lt (mR I))) (below_size cB));replace I:=eB I (R_base l) hb;replace a:=kB a hb;replace HB:=sB hb;(try clear hb);(try clear l);obtain⟨a1,a2,bJ⟩:=R_slice n.out
   (first|subst bJ|(injection bJ with f1_ f2_ f3_;have f4_:=f1_.symm;have f5_:=f3_.symm;clear f1_ f2_ f3_;subst f4_;subst f5_))
   refine hK.out _ _ qh11x0 (fun hHeld=>?_)
   clear hK K;refine normZ (some 39) ?_
   refine oZ 8 40 511 fun K hK=>?_
   refine R_append_rows_step k104 (w0:=w) w.heap.size (by rfl) (.tmp 32) (.tmp 39) 75 104 (.agg #[(.string ⟨#[]⟩),(.int .i64 0),(.int .i64 0),(.int .i64 0),(.int .i64 0),(.string ⟨#[]⟩),(.string ⟨#[]⟩)]) 80 rfl Try.underlying75 info104 rfl (by decide) (by omega) cj W z _ _ _ (fun k_=>some k_≠(.slice a1 z.length a2:Value).ownBlock) (fun _=>False) rfl rfl ?aO ?aR (fun _ _ h=>h) (fun _ h=>h.elim) ?aF ?aB ?aS ?aL ?_
   (case aR=>exact rX n)
   (case aB=>exact cB)
   (case aF=>exact(fun k_ hk=>Kd.fresh' (R_lt (mR n)) k_ hk))
   (case aO=>exact(by exact rM I (fun _ hk=>hk.2)))
   (case aS=>exact(below_size cB))
   (case aL=>have:=cb.out;omega)
   intro cn dh ho hb hg hat;rw[← cc.out]at ho
   replace a:=kN a hg I a
   replace n:=aM (R_after (ok:=(fun _=>True)) (mR n) hg hat)
   replace HB:=aM hb;have ax:=aM ho;clear I ho hb hg hat
   refine hK.out _ _ qh11x0 (fun hHeld=>?_)
   clear hK K;refine normZ (some 40) ?_
   refine pZ 9 8 1023 ?_
   refine done_ (done_of HT_.out (by kernel_rfl)) ?_
   try go_wp2_with (first|((with_reducible refine gF 87 ?_);refine gX (some 44) Try.func87 (impl_place.calls cd.out) ?_;intro di hb;replace n:=rB n hb;replace ax:=rB ax hb;replace a:=kB a hb;replace HB:=sB hb;(try clear hb))|((with_reducible refine gA 41 45 ?_);at_builtin;refine R_append k104 (w0:=w) w.heap.size rfl (.tmp 41) (.tmp 45) 75 104 (.agg #[(.string ⟨#[]⟩),(.int .i64 0),(.int .i64 0),(.int .i64 0),(.int .i64 0),(.string ⟨#[]⟩),(.string ⟨#[]⟩)]) 80 rfl Try.underlying75 info104 rfl (by decide) (by omega) cn X (⟨bb,(⟨bd,be,bf,bg⟩ :S34),bh,bi⟩ :S104) [.string bb,.int .i64 bd,.int .i64 be,.int .i64 bf,.int .i64 bg,.string bh,.string bi] (fun k_=>some k_≠(.slice a1 z.length a2:Value).ownBlock) (fun _=>False) rfl rfl ?aP (fun _ hk=>hk.elim) ?aF ?aO ?aB ?aS ?aL ?_;(case aP=>exact k104_mkM _ _ _ (⟨bb,(⟨bd,be,bf,bg⟩ :S34),bh,bi⟩ :S104));(case aB=>exact cB);(case aF=>exact(fun k_ hk=>Kd.fresh' (R_lt (mR n)) k_ hk));(case aO=>exact(mR ax));(case aS=>exact(below_size cB));(case aL=>have:=ce.out;omega);intro co dj ho hb hg hat;rw[← cf.out]at ho;replace a:=kN a hg ax a;replace n:=aM (R_after (ok:=(fun _=>True)) (mR n) hg hat);replace HB:=aM hb;have ae:=aM ho;clear ax ho hb hg hat;obtain⟨dk,dl,dm,dn,dp,dq,dr,ds⟩:=cz4 a)|((with_reducible refine gF 108 ?_);refine gY (some 51) Try.func108 (impl_ChainLines.calls cg.out (cH HR0_3) HC0_3.out) ?_;rintro dt du ⟨l,hb⟩;have ay:=aM (R_lower (R_new' (R_new' l (R_lt (mR n))) (R_lt (mR ae))) (below_size cB));replace n:=eB n (R_base l) hb;replace ae:=eB ae (R_base l) hb;replace a:=kB a hb;replace HB:=sB hb;(try clear hb);(try clear l);obtain⟨bL,bM,cp⟩:=R_slice ay.out;subst cp)|((with_reducible refine gA 47 51 ?_);at_builtin;refine R_append_rows k104 (w0:=w) w.heap.size rfl (.tmp 47) (.tmp 51) 75 104 (.agg #[(.string ⟨#[]⟩),(.int .i64 0),(.int .i64 0),(.int .i64 0),(.int .i64 0),(.string ⟨#[]⟩),(.string ⟨#[]⟩)]) 80 rfl Try.underlying75 info104 rfl (by decide) (by omega) co O G _ _ _ (fun k_=>some k_≠(.slice a1 z.length a2:Value).ownBlock∧some k_≠(.slice bL G.length bM:Value).ownBlock) (fun _=>False) rfl rfl ?aO ?aR (fun _ _ h=>h) (fun _ h=>h.elim) ?aF ?aB ?aS ?aL ?_;(case aR=>exact rX ay);(case aB=>exact cB);(case aF=>exact(fun k_ hk=>⟨Kd.fresh' (R_lt (mR n)) k_ hk,Kd.fresh' (R_lt (mR ay)) k_ hk⟩));(case aO=>exact(mR ae));(case aS=>exact(below_size cB));(case aL=>have:=ch.out;omega);intro dv dw ho hb hg hat;rw[← bH.out]at ho;replace a:=kN a hg ae a;replace n:=aM (R_after (ok:=(fun k_=>some k_≠(.slice bL G.length bM:Value).ownBlock)) (by exact rM n (fun _ hk=>⟨hk.2,hk.1.2⟩)) hg hat);replace ay:=aM (R_after (ok:=(fun k_=>some k_≠(.slice a1 z.length a2:Value).ownBlock)) (by exact rM ay (fun _ hk=>⟨hk.1.2,hk.2⟩)) hg hat);replace HB:=aM hb;have cq:=aM ho;clear ae ho hb hg hat))
   go_ret
   exact⟨_,rE,by(with_reducible repeat(first|apply R_alloc|apply R_drewN|apply R_drew));exact R_mono cq.out (fun _ hk=>trivial),cB⟩
  ·rw[if_neg af]at H;obtain⟨b1,b5⟩:=eF af;obtain⟨ji35,hji35⟩ : ∃ j_:Int,(wrap64 ((b.length:Int) / 2))=j_:=⟨_,rfl⟩
   (first|rw[hji35]at H|simp only[hji35]at H)
   have hji35w:(IntKind.i64.wrap ((b.length:Int) / 2))=ji35:=(i64_w _).trans hji35;replace H:=gD H;obtain⟨dx,H⟩:=H;replace H:=gD H;obtain⟨dy,H⟩:=H;replace H:=gC H;obtain⟨bn,H⟩:=H;have dz:=eq_true bn;have dC:decide (c.size+1≤9223372036854775807)=true:=decide_eq_true bn
   try have dD:(9223372036854775807<c.size+1)=False:=eq_false (Nat.not_lt.2 bn)
   replace H:=bE H;obtain⟨⟨az,aA,aC,aD,aE,aG,aH⟩,cr,H⟩:=H;(try dsimp only at H);replace H:=bE H;obtain⟨⟨aI,aJ,aK,aN,aQ,aT,aU⟩,cs,H⟩:=H;(try dsimp only at H);replace H:=nE H;obtain⟨Y,bN,H⟩:=H;have dE:=eq_true (dA:0≤(ji35));replace H:=gC H;obtain⟨bo,H⟩:=H;have dF:=eq_true bo;have dG:decide ((ji35)≤(b.length:Int))=true:=decide_eq_true bo;clear bo;replace H:=bE H;obtain⟨x,ct,H⟩:=H;replace H:=gC H;obtain⟨bO,H⟩:=H;have cu:=aM bO;clear bO;replace H:=nE H;obtain⟨aa,cv,H⟩:=H;replace H:=bE H;obtain⟨⟨bp,bq,br,bs,bu,bv,bw⟩,cw,H⟩:=H;(try dsimp only at H);replace H:=gC H;obtain⟨bP,H⟩:=H;have cx:=aM bP;clear bP;replace H:=nE H;obtain⟨U,cy,H⟩:=H;have dH:=eq_true (dA:0≤(ji35));have dI:=eq_true (dA:(ji35)≤(b.length:Int));replace H:=bE H;obtain⟨A,cz,H⟩:=H;replace H:=gC H;obtain⟨bQ,H⟩:=H;have cA:=aM bQ;clear bQ;obtain⟨dJ,bR⟩ : ∃ y_:List (S104),Aside0 (y_=(U ++ A)):=⟨_,⟨rfl⟩⟩;rw[← bR.out]at H;obtain rfl:=Option.some.inj H;go_enter Try.func88,Try.ntmps88
   try go_wp2_with (first|((with_reducible refine gN 3 ?_);refine boxZ 3 #[.int .i64 g,.int .i64 i,.int .i64 j,.slice D d.length E] 41 ?_;intro v hg dK hbox hb;have a:=aM hbox;have GW578:=gS hg;have GE578:=gS hg;replace HB:=sB hb;clear hb hbox hg;have bx:0≤((ji35):Int):=dA;have bz:(ji35)<(b.length:Int):=dA;obtain⟨bA,cD,bS⟩:=at_int HR1.out (ji35) bx bz;cases cD;replace bS:=(bc HB bS :);replace bx:=eq_true bx;replace bz:=eq_true bz)|((with_reducible refine gF 86 ?_);refine goesL_ (some 62) rfl rfl Try.func86 (by kernel_rfl) rfl #[.int .i64 5,.int .i64 (rd b (ji35)),.string (c ++ (⟨#[104]⟩ :ByteArray)),.string (c ++ (⟨#[108]⟩ :ByteArray))] rfl (by(try simp only[List.map_toArray,List.map_cons,List.map_nil]);first|done|(simp only[hji35];rfl)|rfl|(simp only[List.length_drop,List.length_take];rfl)) ?_;(with_reducible refine(impl_ask.calls cr.out).mono ?_);rintro e dL ⟨rfl,hb⟩;refine⟨_,rfl,?_⟩;replace a:=kB a hb;replace HB:=sB hb;(try clear hb))|((with_reducible refine gF 87 ?_);refine gX (some 65) Try.func87 (impl_place.calls cs.out) ?_;intro dM hb;replace a:=kB a hb;replace HB:=sB hb;(try clear hb))|((with_reducible refine gN 66 ?_);refine R_lit k104 _ 104 ?hg (N:=66) ?hd (xs:=([(⟨az,(⟨aA,aC,aD,aE⟩ :S34),aG,aH⟩ :S104),(⟨aI,(⟨aJ,aK,aN,aQ⟩ :S34),aT,aU⟩ :S104)] :List (S104))) (inner:=[.string az,.int .i64 aA,.int .i64 aC,.int .i64 aD,.int .i64 aE,.string aG,.string aH,.string aI,.int .i64 aJ,.int .i64 aK,.int .i64 aN,.int .i64 aQ,.string aT,.string aU]) (ok:=fun _=>True) (okp:=fun _=>True) ?hr ?hp (fun _ hk=>hk) trivial (Below.refl _ _) (Nat.le_refl _) (by simp) ?_;(case hd=>rfl);(case hg=>rfl);(case hr=>exact rG);(case hp=>exact(Reps.c7 (show Kd.M k104 _ _ _ (⟨az,(⟨aA,aC,aD,aE⟩ :S34),aG,aH⟩ :S104) [.string az,.int .i64 aA,.int .i64 aC,.int .i64 aD,.int .i64 aE,.string aG,.string aH]from (k104_mkM _ _ _ (⟨az,(⟨aA,aC,aD,aE⟩ :S34),aG,aH⟩ :S104))) (Reps.c7 (show Kd.M k104 _ _ _ (⟨aI,(⟨aJ,aK,aN,aQ⟩ :S34),aT,aU⟩ :S104) [.string aI,.int .i64 aJ,.int .i64 aK,.int .i64 aN,.int .i64 aQ,.string aT,.string aU]from (k104_mkM _ _ _ (⟨aI,(⟨aJ,aK,aN,aQ⟩ :S34),aT,aU⟩ :S104))) (Reps.none _ _))));intro cE cF aV hb hg_ hnew_;clear hg_ hnew_;(first|rw[← bN.out]at aV|(simp only[Int.reduceToNat]at aV;rw[← bN.out]at aV));have J:=rL aV;replace a:=kB a hb;replace HB:=sB hb;clear hb aV))
   replace J:=dR J;replace a:=dB a;replace HB:=dW HB;obtain⟨i057,hi057,_,hsz57,_⟩:=info_parts info3;obtain⟨hcut57,hA57,hC57⟩:=print_take_of (P:=Try.prog) (Value.int .i64) 0 46 3 .i64 Try.underlying46 hi057 hsz57 (some bA) ab b (ji35) (dA) (dA) HC1.out
   have HR641:=aM (C_of_reads (h1:=fun _=>rfl) (hA57 _ (reads_of_C HR1.out)))
   have HC641:=aM hC57;clear hA57 hC57 hi057 hsz57
   refine sZ 11 (fun w'=>w'.cell? ⟨v,0,none⟩=some (.int .i64 g)∧w'.cell? ⟨v,1,none⟩=some (.int .i64 i)∧w'.cell? ⟨v,2,none⟩=some (.int .i64 j)∧w'.cell? ⟨v,3,none⟩=some (.slice D d.length E)) impl_TreeLines.tab11 impl_TreeLines.bits11 qh11x1 fun HT_ HW_ hHeld=>?_
   generalize cF.drew=dN at J a HB HR641 hHeld ⊢;refine pZ 0 67 1 ?_;refine pZ 2 69 5 ?_;refine pZ 3 70 13 ?_;refine pZ 4 71 29 ?_;refine pZ 5 72 61 ?_;refine pZ 6 73 125 ?_;refine pZ 7 74 253 ?_;refine tZ 1 68 255 (y:=q11x1) (h:=?_)
   refine oZ 8 75 511 fun K hK=>?_
   refine goes_ Try.func88 (by kernel_rfl) rfl #[.agg #[.int .i64 g,.int .i64 i,.int .i64 j,.slice D d.length E],.slice (some bA) (b.take ((ji35):Int).toNat).length ab,.string (c ++ (⟨#[108]⟩ :ByteArray))] (by rfl) rfl rfl (by(try simp only[List.map_toArray,List.map_cons,List.map_nil]);first|done|(rw[show(b.take ((ji35):Int).toNat).length=(ji35).toNat from (by rw[List.length_take];have h_:((ji35):Int)≤(b.length:Int):=dA;omega)] <;> rfl)|(simp only[hji35];rfl)|rfl|(simp only[List.length_drop,List.length_take];rfl)) ?_
   with_reducible refine(ih k (by omega) g i j _ _ d _ _ (b.take ((ji35):Int).toNat) (c ++ (⟨#[108]⟩ :ByteArray)) x _ ?side1 ?side2 ?side3 ?side4 ct.out).mono ?_
   (case side1=>exact cH HR0_3)
   (case side2=>exact HC0_3.out)
   (case side3=>exact cH HR641)
   (case side4=>exact HC641.out)
   rintro e dO ⟨dP,rfl,l,hb⟩;refine⟨_,rfl,?_⟩;have m:=aM (R_lower (R_new' l (R_lt (mR J))) (below_size cB));replace J:=eB J (R_base l) hb;replace a:=kB a hb;replace HB:=sB hb;(try clear hb);(try clear l);obtain⟨a3,a4,bT⟩:=R_slice m.out
   (first|subst bT|(injection bT with f1_ f2_ f3_;have f4_:=f1_.symm;have f5_:=f3_.symm;clear f1_ f2_ f3_;subst f4_;subst f5_))
   refine hK.out _ _ qh11x1 (fun hHeld=>?_)
   clear hK K;refine normZ (some 75) ?_
   refine oZ 9 76 1023 fun K hK=>?_
   refine R_append_rows_step k104 (w0:=w) w.heap.size (by rfl) (.tmp 67) (.tmp 75) 75 104 (.agg #[(.string ⟨#[]⟩),(.int .i64 0),(.int .i64 0),(.int .i64 0),(.int .i64 0),(.string ⟨#[]⟩),(.string ⟨#[]⟩)]) 80 rfl Try.underlying75 info104 rfl (by decide) (by omega) cE Y x _ _ _ (fun k_=>some k_≠(.slice a3 x.length a4:Value).ownBlock) (fun _=>False) rfl rfl ?aO ?aR (fun _ _ h=>h) (fun _ h=>h.elim) ?aF ?aB ?aS ?aL ?_
   (case aR=>exact rX m)
   (case aB=>exact cB)
   (case aF=>exact(fun k_ hk=>Kd.fresh' (R_lt (mR m)) k_ hk))
   (case aO=>exact(by exact rM J (fun _ hk=>hk.2)))
   (case aS=>exact(below_size cB))
   (case aL=>have:=cu.out;omega)
   intro cG dQ ho hb hg hat;rw[← cv.out]at ho
   replace a:=kN a hg J a
   replace m:=aM (R_after (ok:=(fun _=>True)) (mR m) hg hat)
   replace HB:=aM hb;have aW:=aM ho;clear J ho hb hg hat
   refine hK.out _ _ qh11x1 (fun hHeld=>?_)
   clear hK K;refine normZ (some 76) ?_
   refine pZ 10 9 2047 ?_
   refine done_ (done_of HT_.out (by kernel_rfl)) ?_
   try go_wp2_with (first|((with_reducible refine gF 87 ?_);refine gX (some 80) Try.func87 (impl_place.calls cw.out) ?_;intro dS hb;replace m:=rB m hb;replace aW:=rB aW hb;replace a:=kB a hb;replace HB:=sB hb;(try clear hb))|((with_reducible refine gA 77 81 ?_);at_builtin;refine R_append k104 (w0:=w) w.heap.size rfl (.tmp 77) (.tmp 81) 75 104 (.agg #[(.string ⟨#[]⟩),(.int .i64 0),(.int .i64 0),(.int .i64 0),(.int .i64 0),(.string ⟨#[]⟩),(.string ⟨#[]⟩)]) 80 rfl Try.underlying75 info104 rfl (by decide) (by omega) cG aa (⟨bp,(⟨bq,br,bs,bu⟩ :S34),bv,bw⟩ :S104) [.string bp,.int .i64 bq,.int .i64 br,.int .i64 bs,.int .i64 bu,.string bv,.string bw] (fun k_=>some k_≠(.slice a3 x.length a4:Value).ownBlock) (fun _=>False) rfl rfl ?aP (fun _ hk=>hk.elim) ?aF ?aO ?aB ?aS ?aL ?_;(case aP=>exact k104_mkM _ _ _ (⟨bp,(⟨bq,br,bs,bu⟩ :S34),bv,bw⟩ :S104));(case aB=>exact cB);(case aF=>exact(fun k_ hk=>Kd.fresh' (R_lt (mR m)) k_ hk));(case aO=>exact(mR aW));(case aS=>exact(below_size cB));(case aL=>have:=cx.out;omega);intro cI cJ ho hb hg hat;rw[← cy.out]at ho;replace a:=kN a hg aW a;replace m:=aM (R_after (ok:=(fun _=>True)) (mR m) hg hat);replace HB:=aM hb;have L:=aM ho;clear aW ho hb hg hat))
   replace m:=dR m;replace L:=dR L;replace a:=dB a;replace HB:=dW HB;obtain⟨i064,hi064,_,hsz64,_⟩:=info_parts info3;obtain⟨cL,hcut64,hA64,hC64⟩:=print_drop_of (P:=Try.prog) (Value.int .i64) 0 46 3 .i64 Try.underlying46 hi064 hsz64 (some bA) ab b (ji35) (dA) (dA) HC1.out
   have HR658:=aM (C_of_reads (h1:=fun _=>rfl) (hA64 _ (reads_of_C HR1.out)))
   have HC658:=aM hC64;clear hA64 hC64 hi064 hsz64
   refine sZ 11 (fun w'=>w'.cell? ⟨v,0,none⟩=some (.int .i64 g)∧w'.cell? ⟨v,1,none⟩=some (.int .i64 i)∧w'.cell? ⟨v,2,none⟩=some (.int .i64 j)∧w'.cell? ⟨v,3,none⟩=some (.slice D d.length E)) impl_TreeLines.tab13 impl_TreeLines.bits13 qh11x1 fun HT_ HW_ hHeld=>?_
   generalize cJ.drew=dT at m L a HB HR658 hHeld ⊢;refine pZ 0 83 1 ?_;refine pZ 2 85 5 ?_;refine pZ 3 86 13 ?_;refine pZ 4 87 29 ?_;refine pZ 5 88 61 ?_;refine pZ 6 89 125 ?_;refine pZ 7 90 253 ?_;refine tZ 1 84 255 (y:=q11x1) (h:=?_)
   refine oZ 8 91 511 fun K hK=>?_
   refine goes_ Try.func88 (by kernel_rfl) rfl #[.agg #[.int .i64 g,.int .i64 i,.int .i64 j,.slice D d.length E],.slice cL (b.drop ((ji35):Int).toNat).length (ab - (ji35).toNat),.string (c ++ (⟨#[104]⟩ :ByteArray))] (by rfl) rfl rfl (by(try simp only[List.map_toArray,List.map_cons,List.map_nil]);first|done|(rw[show(b.drop ((ji35):Int).toNat).length=(b.length - (ji35).toNat)from List.length_drop] <;> rfl)|(simp only[hji35];rfl)|rfl|(simp only[List.length_drop,List.length_take];rfl)) ?_
   with_reducible refine(ih k (by omega) g i j _ _ d _ _ (b.drop ((ji35):Int).toNat) (c ++ (⟨#[104]⟩ :ByteArray)) A _ ?side1 ?side2 ?side3 ?side4 cz.out).mono ?_
   (case side1=>exact cH HR0_3)
   (case side2=>exact HC0_3.out)
   (case side3=>exact cH HR658)
   (case side4=>exact HC658.out)
   rintro e dU ⟨dV,rfl,l,hb⟩;refine⟨_,rfl,?_⟩;have aX:=aM (R_lower (R_new' (R_new' l (R_lt (mR m))) (R_lt (mR L))) (below_size cB));replace m:=eB m (R_base l) hb;replace L:=eB L (R_base l) hb;replace a:=kB a hb;replace HB:=sB hb;(try clear hb);(try clear l);obtain⟨bU,bV,bW⟩:=R_slice aX.out
   (first|subst bW|(injection bW with f1_ f2_ f3_;have f4_:=f1_.symm;have f5_:=f3_.symm;clear f1_ f2_ f3_;subst f4_;subst f5_))
   refine hK.out _ _ qh11x1 (fun hHeld=>?_)
   clear hK K;refine normZ (some 91) ?_
   refine oZ 9 92 1023 fun K hK=>?_
   refine R_append_rows_step k104 (w0:=w) w.heap.size (by rfl) (.tmp 83) (.tmp 91) 75 104 (.agg #[(.string ⟨#[]⟩),(.int .i64 0),(.int .i64 0),(.int .i64 0),(.int .i64 0),(.string ⟨#[]⟩),(.string ⟨#[]⟩)]) 80 rfl Try.underlying75 info104 rfl (by decide) (by omega) cI U A _ _ _ (fun k_=>some k_≠(.slice a3 x.length a4:Value).ownBlock∧some k_≠(.slice bU A.length bV:Value).ownBlock) (fun _=>False) rfl rfl ?aO ?aR (fun _ _ h=>h) (fun _ h=>h.elim) ?aF ?aB ?aS ?aL ?_
   (case aR=>exact rX aX)
   (case aB=>exact cB)
   (case aF=>exact(fun k_ hk=>⟨Kd.fresh' (R_lt (mR m)) k_ hk,Kd.fresh' (R_lt (mR aX)) k_ hk⟩))
   (case aO=>exact(mR L))
   (case aS=>exact(below_size cB))
   (case aL=>have:=cA.out;omega)
   intro dX dY ho hb hg hat;rw[← bR.out]at ho
   replace a:=kN a hg L a
   replace m:=aM (R_after (ok:=(fun k_=>some k_≠(.slice bU A.length bV:Value).ownBlock)) (by exact rM m (fun _ hk=>⟨hk.2,hk.1.2⟩)) hg hat)
   replace aX:=aM (R_after (ok:=(fun k_=>some k_≠(.slice a3 x.length a4:Value).ownBlock)) (by exact rM aX (fun _ hk=>⟨hk.1.2,hk.2⟩)) hg hat)
   replace HB:=aM hb;have cM:=aM ho;clear L ho hb hg hat
   refine hK.out _ _ qh11x1 (fun hHeld=>?_)
   clear hK K;refine normZ (some 92) ?_
   refine pZ 10 6 2047 ?_
   refine done_ (done_of HT_.out (by kernel_rfl)) ?_
   try go_wp2
   go_ret
   exact⟨_,by first|rfl|(simp[errW_none,errW_some] <;> rfl)|(simp only[← hji35];first|rfl|(simp[errW_none,errW_some] <;> rfl))|(simp[*,errW_none,errW_some] <;> rfl),by(with_reducible repeat(first|apply R_alloc|apply R_drewN|apply R_drew));exact R_mono cM.out (fun _ hk=>trivial),cB⟩
end Go.Proofs.Ytpbalojiaghfhaa.PFnCompilesSmall
