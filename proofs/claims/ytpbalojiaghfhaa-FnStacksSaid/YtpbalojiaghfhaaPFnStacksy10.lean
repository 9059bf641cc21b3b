import Derived.Test.YtpbalojiaghfhaaPFnStacksy0
import Derived.Test.YtpbalojiaghfhaaPFnStacksy9
namespace Go.Proofs.Ytpbalojiaghfhaa.PFnStacks
open Go.RowKit Go.Proofs.YtpbalojiaghfhaaW.PrintWords Go.Proofs.YtpbalojiaghfhaaW.PrintLast Go.Proofs.YtpbalojiaghfhaaW.PrintMore Go.Proofs.YtpbalojiaghfhaaW.Z
open Kd
attribute [local go_sem] isS max2_int min2_int max_two min_two max_three min_three max_four min_four
set_option linter.unusedVariables false
set_option linter.unusedSimpArgs false
theorem qh10x0 {P:Prop} (h:P:=by exact⟨(blk_cell b.out 0).trans rfl,(blk_cell b.out 1).trans rfl,(blk_cell b.out 2).trans rfl,(blk_cell b.out 3).trans rfl,(blk_cell b.out 4).trans rfl,(blk_cell b.out 5).trans rfl⟩):P:=h
theorem qh10x1 {P:Prop} (h:P:=by exact⟨(blk_cell a.out 0).trans rfl,(blk_cell a.out 1).trans rfl,(blk_cell a.out 2).trans rfl,(blk_cell a.out 3).trans rfl,(blk_cell a.out 4).trans rfl,(blk_cell a.out 5).trans rfl⟩):P:=h
def spec_l12Half.f (d:Int) (g:Int) (i:Int) (m:Int) (j:Int) (k:Int) (c:Bool):Option ((List (S104))):=if c=true then((spec_l11Word.f 1 (wrap64 (3+(wrap64 (2*d))))).bind fun t=>((spec_l11Word.f 2 g).bind fun u=>(some (([(⟨t.1,(⟨t.2.1,t.2.2.1,t.2.2.2.1,t.2.2.2.2.1⟩ :S34),t.2.2.2.2.2.1,t.2.2.2.2.2.2⟩ :S104),(⟨u.1,(⟨u.2.1,u.2.2.1,u.2.2.2.1,u.2.2.2.2.1⟩ :S34),u.2.2.2.2.2.1,u.2.2.2.2.2.2⟩ :S104)] :List (S104))))))else((spec_l11Word.f 1 (wrap64 (2+(wrap64 (2*d))))).bind fun v=>((spec_l11Word.f 2 i).bind fun x=>(some (([(⟨v.1,(⟨v.2.1,v.2.2.1,v.2.2.2.1,v.2.2.2.2.1⟩ :S34),v.2.2.2.2.2.1,v.2.2.2.2.2.2⟩ :S104),(⟨x.1,(⟨x.2.1,x.2.2.1,x.2.2.2.1,x.2.2.2.2.1⟩ :S34),x.2.2.2.2.2.1,x.2.2.2.2.2.2⟩ :S104)] :List (S104))))))
def spec_l12Half.T2:Bool×List (List Nat×List Nat):=(true,[([],[]),([0],[0]),([1],[1]),([2],[2]),([3],[3]),([],[]),([5],[5]),([6],[6]),([7,4],[7]),([4,8],[4,8]),([9,8,0,1,2,3,4,5,6,7,8,9],[9])])
def spec_l12Half.B2:List Nat:=[0,1,3,7,15,0,32,96,255,511,1023]
theorem spec_l12Half.tab2:rtab .any (opsOf Try.f156 2)=spec_l12Half.T2:=by kernel_rfl
theorem spec_l12Half.bits2:waitsOk spec_l12Half.T2.2 spec_l12Half.B2=true:=by kernel_rfl
def spec_l12Half.T3:Bool×List (List Nat×List Nat):=(true,[([],[]),([0],[0]),([1],[1]),([2],[2]),([3],[3]),([],[]),([5],[5]),([6],[6]),([7,4],[7]),([4,8],[4,8]),([9,8,0,1,2,3,4,5,6,7,8,9],[9])])
def spec_l12Half.B3:List Nat:=[0,1,3,7,15,0,32,96,255,511,1023]
theorem spec_l12Half.tab3:rtab .any (opsOf Try.f156 3)=spec_l12Half.T3:=by kernel_rfl
theorem spec_l12Half.bits3:waitsOk spec_l12Half.T3.2 spec_l12Half.B3=true:=by kernel_rfl
theorem q10x0 {P:Prop} (h:P:=by
 rintro w' ⟨s0,s1,s2,s3,s4,s5⟩
 go_simp
 with_reducible rfl):P:=h
set_option maxHeartbeats 8000000 in
set_option maxRecDepth 100000 in
theorem spec_l12Half.calls {d:Int}{g:Int}{i:Int}{m:Int}{j:Int}{k:Int}{c:Bool}{r:List (S104)}{w:World}(h:spec_l12Half.f d g i m j k c=some r) :
 Calls Try.prog 156 #[.agg #[.int .i64 d,.int .i64 g,.int .i64 i,.int .i64 m,.int .i64 j,.int .i64 k],.bool c] w fun e w'=> ∃ v0_:Value,e= .returned (v0_)∧Kd.R k104 104 w' w.heap.size (fun _=>True) v0_ r∧Below w.heap.size w w':=by
 have hu114:=Try.underlying114;have HB:=rW w
 unfold spec_l12Half.f at h;have H:=h
 clear h;by_cases aT:c=true
 ·subst aT;replace H:=iT H;replace H:=bE H;obtain⟨⟨E,G,I,J,L,O,U⟩,bi,H⟩:=H;(try dsimp only at H);replace H:=bE H;obtain⟨⟨W,X,Y,aa,ab,ac,ad⟩,a6,H⟩:=H;(try dsimp only at H);obtain⟨bI,a7⟩ : ∃ y_:List (S104),Aside0 (y_=(([(⟨E,(⟨G,I,J,L⟩ :S34),O,U⟩ :S104),(⟨W,(⟨X,Y,aa,ab⟩ :S34),ac,ad⟩ :S104)] :List (S104)))):=⟨_,⟨rfl⟩⟩;rw[← a7.out]at H;obtain rfl:=Option.some.inj H;go_enter Try.func156,Try.ntmps156
  try go_wp2_with (first|((with_reducible refine gN 2 ?_);refine boxZ 2 #[.int .i64 d,.int .i64 g,.int .i64 i,.int .i64 m,.int .i64 j,.int .i64 k] 114 ?_;intro n hg bj hbox hb;have b:=aM hbox;have GW486:=gS hg;have GE486:=gS hg;replace HB:=sB hb;clear hb hbox hg))
  replace b:=dB b;replace HB:=dW HB
  refine sZ 11 (fun w'=>w'.cell? ⟨n,0,none⟩=some (.int .i64 d)∧w'.cell? ⟨n,1,none⟩=some (.int .i64 g)∧w'.cell? ⟨n,2,none⟩=some (.int .i64 i)∧w'.cell? ⟨n,3,none⟩=some (.int .i64 m)∧w'.cell? ⟨n,4,none⟩=some (.int .i64 j)∧w'.cell? ⟨n,5,none⟩=some (.int .i64 k)) spec_l12Half.tab2 spec_l12Half.bits2 qh10x0 fun HT_ HW_ hHeld=>?_
  generalize bj.drew=bJ at b HB hHeld ⊢;refine pZ 0 6 1 ?_;refine pZ 5 11 33 ?_;refine pZ 6 12 97 ?_;refine tZ 1 7 99 (y:=q10x0) (h:=?_);refine pZ 2 8 103 ?_;refine pZ 3 9 111 ?_;refine tZ 7 13 239 (y:=q10x0) (h:=?_)
  refine oZ 4 10 255 fun K hK=>?_
  refine eX Try.func125 (spec_l11Word.calls bi.out) ?_
  intro bL hb;replace b:=kB b hb;replace HB:=sB hb;(try clear hb)
  refine hK.out _ _ qh10x0 (fun hHeld=>?_)
  clear hK K;refine normZ (some 10) ?_
  refine oZ 8 14 511 fun K hK=>?_
  refine eX Try.func125 (spec_l11Word.calls a6.out) ?_
  intro bM hb;replace b:=kB b hb;replace HB:=sB hb;(try clear hb)
  refine hK.out _ _ qh10x0 (fun hHeld=>?_)
  clear hK K;refine normZ (some 14) ?_
  refine oZ 9 15 1023 fun K hK=>?_
  refine R_lit_step k104 _ 104 ?hg (N:=15) ?hd (xs:=([(⟨E,(⟨G,I,J,L⟩ :S34),O,U⟩ :S104),(⟨W,(⟨X,Y,aa,ab⟩ :S34),ac,ad⟩ :S104)] :List (S104))) (inner:=[.string E,.int .i64 G,.int .i64 I,.int .i64 J,.int .i64 L,.string O,.string U,.string W,.int .i64 X,.int .i64 Y,.int .i64 aa,.int .i64 ab,.string ac,.string ad]) (ok:=fun _=>True) (okp:=fun _=>True) ?hr ?hp (fun _ hk=>hk) trivial (Below.refl _ _) (Nat.le_refl _) (by simp) ?_;(case hd=>rfl);(case hg=>rfl);(case hr=>first|(go_simp;done)|(go_simp;rfl));(case hp=>exact(Reps.c7 (show Kd.M k104 _ _ _ (⟨E,(⟨G,I,J,L⟩ :S34),O,U⟩ :S104) [.string E,.int .i64 G,.int .i64 I,.int .i64 J,.int .i64 L,.string O,.string U]from (k104_mkM _ _ _ (⟨E,(⟨G,I,J,L⟩ :S34),O,U⟩ :S104))) (Reps.c7 (show Kd.M k104 _ _ _ (⟨W,(⟨X,Y,aa,ab⟩ :S34),ac,ad⟩ :S104) [.string W,.int .i64 X,.int .i64 Y,.int .i64 aa,.int .i64 ab,.string ac,.string ad]from (k104_mkM _ _ _ (⟨W,(⟨X,Y,aa,ab⟩ :S34),ac,ad⟩ :S104))) (Reps.none _ _))))
  intro bN bO ax hb hg_ hnew_;clear hg_ hnew_
  (first|rw[← a7.out]at ax|(simp only[Int.reduceToNat]at ax;rw[← a7.out]at ax))
  have bk:=rL ax;replace b:=kB b hb;replace HB:=sB hb;clear hb ax
  refine hK.out _ _ qh10x0 (fun hHeld=>?_)
  clear hK K;refine normZ (some 15) ?_
  refine pZ 10 4 2047 ?_
  refine done_ (done_of HT_.out (by kernel_rfl)) ?_
  try go_wp2
  go_ret;exact⟨_,rE,mR bk,cB⟩
 ·replace aT:=Bool.eq_false_iff.mpr aT;subst aT;replace H:=iF H;replace H:=bE H;obtain⟨⟨ae,af,ag,ah,ai,aj,ak⟩,bl,H⟩:=H;(try dsimp only at H);replace H:=bE H;obtain⟨⟨al,am,an,ao,ap,aq,ar⟩,bm,H⟩:=H;(try dsimp only at H);obtain⟨bP,a8⟩ : ∃ y_:List (S104),Aside0 (y_=(([(⟨ae,(⟨af,ag,ah,ai⟩ :S34),aj,ak⟩ :S104),(⟨al,(⟨am,an,ao,ap⟩ :S34),aq,ar⟩ :S104)] :List (S104)))):=⟨_,⟨rfl⟩⟩;rw[← a8.out]at H;obtain rfl:=Option.some.inj H;go_enter Try.func156,Try.ntmps156
  try go_wp2_with (first|((with_reducible refine gN 2 ?_);refine boxZ 2 #[.int .i64 d,.int .i64 g,.int .i64 i,.int .i64 m,.int .i64 j,.int .i64 k] 114 ?_;intro n hg ba hbox hb;have b:=aM hbox;have GW486:=gS hg;have GE486:=gS hg;replace HB:=sB hb;clear hb hbox hg))
  replace b:=dB b;replace HB:=dW HB
  refine sZ 11 (fun w'=>w'.cell? ⟨n,0,none⟩=some (.int .i64 d)∧w'.cell? ⟨n,1,none⟩=some (.int .i64 g)∧w'.cell? ⟨n,2,none⟩=some (.int .i64 i)∧w'.cell? ⟨n,3,none⟩=some (.int .i64 m)∧w'.cell? ⟨n,4,none⟩=some (.int .i64 j)∧w'.cell? ⟨n,5,none⟩=some (.int .i64 k)) spec_l12Half.tab3 spec_l12Half.bits3 qh10x0 fun HT_ HW_ hHeld=>?_
  generalize ba.drew=bn at b HB hHeld ⊢;refine pZ 0 16 1 ?_;refine pZ 5 21 33 ?_;refine pZ 6 22 97 ?_;refine tZ 1 17 99 (y:=q10x0) (h:=?_);refine pZ 2 18 103 ?_;refine pZ 3 19 111 ?_;refine tZ 7 23 239 (y:=q10x0) (h:=?_)
  refine oZ 4 20 255 fun K hK=>?_
  refine eX Try.func125 (spec_l11Word.calls bl.out) ?_
  intro bo hb;replace b:=kB b hb;replace HB:=sB hb;(try clear hb)
  refine hK.out _ _ qh10x0 (fun hHeld=>?_)
  clear hK K;refine normZ (some 20) ?_
  refine oZ 8 24 511 fun K hK=>?_
  refine eX Try.func125 (spec_l11Word.calls bm.out) ?_
  intro bp hb;replace b:=kB b hb;replace HB:=sB hb;(try clear hb)
  refine hK.out _ _ qh10x0 (fun hHeld=>?_)
  clear hK K;refine normZ (some 24) ?_
  refine oZ 9 25 1023 fun K hK=>?_
  refine R_lit_step k104 _ 104 ?hg (N:=25) ?hd (xs:=([(⟨ae,(⟨af,ag,ah,ai⟩ :S34),aj,ak⟩ :S104),(⟨al,(⟨am,an,ao,ap⟩ :S34),aq,ar⟩ :S104)] :List (S104))) (inner:=[.string ae,.int .i64 af,.int .i64 ag,.int .i64 ah,.int .i64 ai,.string aj,.string ak,.string al,.int .i64 am,.int .i64 an,.int .i64 ao,.int .i64 ap,.string aq,.string ar]) (ok:=fun _=>True) (okp:=fun _=>True) ?hr ?hp (fun _ hk=>hk) trivial (Below.refl _ _) (Nat.le_refl _) (by simp) ?_;(case hd=>rfl);(case hg=>rfl);(case hr=>first|(go_simp;done)|(go_simp;rfl));(case hp=>exact(Reps.c7 (show Kd.M k104 _ _ _ (⟨ae,(⟨af,ag,ah,ai⟩ :S34),aj,ak⟩ :S104) [.string ae,.int .i64 af,.int .i64 ag,.int .i64 ah,.int .i64 ai,.string aj,.string ak]from (k104_mkM _ _ _ (⟨ae,(⟨af,ag,ah,ai⟩ :S34),aj,ak⟩ :S104))) (Reps.c7 (show Kd.M k104 _ _ _ (⟨al,(⟨am,an,ao,ap⟩ :S34),aq,ar⟩ :S104) [.string al,.int .i64 am,.int .i64 an,.int .i64 ao,.int .i64 ap,.string aq,.string ar]from (k104_mkM _ _ _ (⟨al,(⟨am,an,ao,ap⟩ :S34),aq,ar⟩ :S104))) (Reps.none _ _))))
  intro bQ bR ay hb hg_ hnew_;clear hg_ hnew_
  (first|rw[← a8.out]at ay|(simp only[Int.reduceToNat]at ay;rw[← a8.out]at ay))
  have bq:=rL ay;replace b:=kB b hb;replace HB:=sB hb;clear hb ay
  refine hK.out _ _ qh10x0 (fun hHeld=>?_)
  clear hK K;refine normZ (some 25) ?_
  refine pZ 10 4 2047 ?_
  refine done_ (done_of HT_.out (by kernel_rfl)) ?_
  try go_wp2
  go_ret;exact⟨_,rE,mR bq,cB⟩
def spec_l12Same.f (d:Int) (g:Int) (i:Int) (m:Int) (j:Int) (k:Int) (c:ByteArray) (aU:ByteArray) (az:ByteArray):Option ((List (S104))):=(spec_l12Half.f d g i m j k true).bind fun aV=>(if c.size+1≤9223372036854775807 then((spec_l11Asks.f 3 j (c ++ (⟨#[97]⟩ :ByteArray)) az).bind fun z=>((some (([(⟨z.1,(⟨z.2.1,z.2.2.1,z.2.2.2.1,z.2.2.2.2.1⟩ :S34),z.2.2.2.2.2.1,z.2.2.2.2.2.2⟩ :S104),(⟨c ++ (⟨#[97]⟩ :ByteArray),(⟨0,0,0,0⟩ :S34),(⟨#[]⟩ :ByteArray),(⟨#[]⟩ :ByteArray)⟩ :S104)] :List (S104)):List (S104))).bind fun p=>(if aV.length+p.length<1759218604441 then((some (aV ++ p:List (S104))).bind fun aW=>((spec_l12Half.f d g i m j k false).bind fun q=>(if aW.length+q.length<1759218604441 then((some (aW ++ q:List (S104))).bind fun aA=>((spec_l11Asks.f 3 k aU az).bind fun A=>(if aA.length<1759218604441 then(some (aA ++ [(⟨A.1,(⟨A.2.1,A.2.2.1,A.2.2.2.1,A.2.2.2.2.1⟩ :S34),A.2.2.2.2.2.1,A.2.2.2.2.2.2⟩ :S104)]))else(none))))else(none))))else(none))))else(none))
def spec_l12Same.T1:Bool×List (List Nat×List Nat):=(true,[([],[]),([0],[0]),([],[]),([2],[2]),([3],[3]),([],[]),([5],[5]),([],[]),([4,6,7,1],[4,6,7]),([],[]),([9],[9]),([10],[10]),([8,11],[8,11]),([1,12,8],[1,12]),([13,13,0,1,2,3,4,5,6,7,8,9,10,11,12,13],[13])])
def spec_l12Same.B1:List Nat:=[0,1,0,4,12,0,32,0,255,0,512,1536,4095,8191,16383]
theorem spec_l12Same.tab1:rtab .any (opsOf Try.f154 1)=spec_l12Same.T1:=by kernel_rfl
theorem spec_l12Same.bits1:waitsOk spec_l12Same.T1.2 spec_l12Same.B1=true:=by kernel_rfl
set_option maxHeartbeats 8000000 in
set_option maxRecDepth 100000 in
theorem spec_l12Same.calls {d:Int}{g:Int}{i:Int}{m:Int}{j:Int}{k:Int}{c:ByteArray}{aU:ByteArray}{az:ByteArray}{r:List (S104)}{w:World}(h:spec_l12Same.f d g i m j k c aU az=some r) :
 Calls Try.prog 154 #[.agg #[.int .i64 d,.int .i64 g,.int .i64 i,.int .i64 m,.int .i64 j,.int .i64 k],.string c,.string aU,.string az] w fun e w'=> ∃ v0_:Value,e= .returned (v0_)∧Kd.R k104 104 w' w.heap.size (fun _=>True) v0_ r∧Below w.heap.size w w':=by
 have hu114:=Try.underlying114;have hu104:=Try.underlying104;have HB:=rW w
 unfold spec_l12Same.f at h;have H:=h
 clear h;replace H:=bE H;obtain⟨aV,a6,H⟩:=H;replace H:=gC H;obtain⟨a9,H⟩:=H;have bS:=eq_true a9;have bT:decide (c.size+1≤9223372036854775807)=true:=decide_eq_true a9
 try have bU:(9223372036854775807<c.size+1)=False:=eq_false (Nat.not_lt.2 a9)
 replace H:=bE H;obtain⟨⟨aC,aD,aE,aG,aH,aI,aJ⟩,br,H⟩:=H;(try dsimp only at H);replace H:=nE H;obtain⟨p,bb,H⟩:=H;replace H:=gC H;obtain⟨bd,H⟩:=H;have bs:=aM bd;clear bd;replace H:=nE H;obtain⟨aW,bu,H⟩:=H;replace H:=bE H;obtain⟨q,bv,H⟩:=H;replace H:=gC H;obtain⟨be,H⟩:=H;have bw:=aM be;clear be;replace H:=nE H;obtain⟨aA,bx,H⟩:=H;replace H:=bE H;obtain⟨⟨aX,aY,aZ,a0,a1,a2,a3⟩,bz,H⟩:=H;(try dsimp only at H);replace H:=gC H;obtain⟨bf,H⟩:=H;have bA:=aM bf;clear bf;obtain⟨bV,bg⟩ : ∃ y_:List (S104),Aside0 (y_=(aA ++ [(⟨aX,(⟨aY,aZ,a0,a1⟩ :S34),a2,a3⟩ :S104)])):=⟨_,⟨rfl⟩⟩;rw[← bg.out]at H;obtain rfl:=Option.some.inj H;go_enter Try.func154,Try.ntmps154
 try go_wp2_with (first|((with_reducible refine gN 4 ?_);refine boxZ 4 #[.int .i64 d,.int .i64 g,.int .i64 i,.int .i64 m,.int .i64 j,.int .i64 k] 114 ?_;intro au hg bB hbox hb;have a:=aM hbox;have GW521:=gS hg;have GE521:=gS hg;replace HB:=sB hb;clear hb hbox hg))
 replace a:=dB a;replace HB:=dW HB
 refine sZ 15 (fun w'=>w'.cell? ⟨au,0,none⟩=some (.int .i64 d)∧w'.cell? ⟨au,1,none⟩=some (.int .i64 g)∧w'.cell? ⟨au,2,none⟩=some (.int .i64 i)∧w'.cell? ⟨au,3,none⟩=some (.int .i64 m)∧w'.cell? ⟨au,4,none⟩=some (.int .i64 j)∧w'.cell? ⟨au,5,none⟩=some (.int .i64 k)) spec_l12Same.tab1 spec_l12Same.bits1 qh10x1 fun HT_ HW_ hHeld=>?_
 generalize bB.drew=ba at a HB hHeld ⊢;refine pZ 2 12 4 ?_;refine pZ 3 13 12 ?_;refine pZ 5 15 44 ?_;refine pZ 6 16 108 ?_;refine pZ 7 17 236 ?_;refine pZ 9 19 748 ?_;refine pZ 10 20 1772 ?_;refine pZ 11 21 3820 ?_;refine tZ 0 10 3821 (y:=q10x0) (h:=?_);refine tZ 4 14 3837 (y:=q10x0) (h:=?_)
 refine oZ 1 11 3839 fun K hK=>?_
 refine eY Try.func156 (spec_l12Half.calls a6.out) ?_
 rintro bC bn ⟨D,hb⟩;have s:=rL D;replace a:=kB a hb;replace HB:=sB hb;(try clear hb);(try clear D)
 refine hK.out _ _ qh10x1 (fun hHeld=>?_)
 clear hK K;refine normZ (some 11) ?_
 refine oZ 8 18 4095 fun K hK=>?_
 refine eX Try.func126 (spec_l11Asks.calls br.out) ?_
 intro bo hb;replace s:=rB s hb;replace a:=kB a hb;replace HB:=sB hb;(try clear hb)
 refine hK.out _ _ qh10x1 (fun hHeld=>?_)
 clear hK K;refine normZ (some 18) ?_
 refine oZ 12 22 8191 fun K hK=>?_
 refine R_lit_step k104 _ 104 ?hg (N:=22) ?hd (xs:=([(⟨aC,(⟨aD,aE,aG,aH⟩ :S34),aI,aJ⟩ :S104),(⟨c ++ (⟨#[97]⟩ :ByteArray),(⟨0,0,0,0⟩ :S34),(⟨#[]⟩ :ByteArray),(⟨#[]⟩ :ByteArray)⟩ :S104)] :List (S104))) (inner:=[.string aC,.int .i64 aD,.int .i64 aE,.int .i64 aG,.int .i64 aH,.string aI,.string aJ,.string (c ++ (⟨#[97]⟩ :ByteArray)),.int .i64 0,.int .i64 0,.int .i64 0,.int .i64 0,.string (⟨#[]⟩ :ByteArray),.string (⟨#[]⟩ :ByteArray)]) (ok:=fun _=>True) (okp:=fun _=>True) ?hr ?hp (fun _ hk=>hk) trivial (Below.refl _ _) (Nat.le_refl _) (by simp) ?_;(case hd=>rfl);(case hg=>rfl);(case hr=>first|(go_simp;done)|(go_simp;rfl));(case hp=>exact(Reps.c7 (show Kd.M k104 _ _ _ (⟨aC,(⟨aD,aE,aG,aH⟩ :S34),aI,aJ⟩ :S104) [.string aC,.int .i64 aD,.int .i64 aE,.int .i64 aG,.int .i64 aH,.string aI,.string aJ]from (k104_mkM _ _ _ (⟨aC,(⟨aD,aE,aG,aH⟩ :S34),aI,aJ⟩ :S104))) (Reps.c7 (show Kd.M k104 _ _ _ (⟨c ++ (⟨#[97]⟩ :ByteArray),(⟨0,0,0,0⟩ :S34),(⟨#[]⟩ :ByteArray),(⟨#[]⟩ :ByteArray)⟩ :S104) [.string (c ++ (⟨#[97]⟩ :ByteArray)),.int .i64 0,.int .i64 0,.int .i64 0,.int .i64 0,.string (⟨#[]⟩ :ByteArray),.string (⟨#[]⟩ :ByteArray)]from (k104_mkM _ _ _ (⟨c ++ (⟨#[97]⟩ :ByteArray),(⟨0,0,0,0⟩ :S34),(⟨#[]⟩ :ByteArray),(⟨#[]⟩ :ByteArray)⟩ :S104))) (Reps.none _ _))))
 intro bW bp av hb hg_ hnew_;clear hg_ hnew_
 (first|rw[← bb.out]at av|(simp only[Int.reduceToNat]at av;rw[← bb.out]at av))
 have l:=aM (R_lower (R_new' av (R_lt (mR s))) (below_size cB));replace s:=eB s (R_base av) hb;replace a:=kB a hb;replace HB:=sB hb;clear hb av;obtain⟨aK,aN,bh⟩:=R_slice l.out
 (first|subst bh|(injection bh with f1_ f2_ f3_;have f4_:=f1_.symm;have f5_:=f3_.symm;clear f1_ f2_ f3_;subst f4_;subst f5_))
 refine hK.out _ _ qh10x1 (fun hHeld=>?_)
 clear hK K;refine normZ (some 22) ?_
 refine oZ 13 23 16383 fun K hK=>?_
 refine R_append_rows_step k104 (w0:=w) w.heap.size (by rfl) (.tmp 11) (.tmp 22) 75 104 (.agg #[(.string ⟨#[]⟩),(.int .i64 0),(.int .i64 0),(.int .i64 0),(.int .i64 0),(.string ⟨#[]⟩),(.string ⟨#[]⟩)]) 80 rfl Try.underlying75 info104 rfl (by decide) (by omega) bC aV p _ _ _ (fun k_=>some k_≠(.slice aK p.length aN:Value).ownBlock) (fun _=>False) rfl rfl ?aO ?aR (fun _ _ h=>h) (fun _ h=>h.elim) ?aF ?aB ?aS ?aL ?_
 (case aR=>exact rX l)
 (case aB=>exact cB)
 (case aF=>exact(fun k_ hk=>Kd.fresh' (R_lt (mR l)) k_ hk))
 (case aO=>exact(by exact rM s (fun _ hk=>hk.2)))
 (case aS=>exact(below_size cB))
 (case aL=>have:=bs.out;omega)
 intro bD bX ho hb hg hat;rw[← bu.out]at ho
 replace a:=kN a hg s a
 replace l:=aM (R_after (ok:=(fun _=>True)) (mR l) hg hat)
 replace HB:=aM hb;have aw:=aM ho;clear s ho hb hg hat
 refine hK.out _ _ qh10x1 (fun hHeld=>?_)
 clear hK K;refine normZ (some 23) ?_
 refine pZ 14 9 32767 ?_
 refine done_ (done_of HT_.out (by kernel_rfl)) ?_
 obtain⟨bY,bZ,b0,b1,b5,b8,b9,ca,cb,cc,cd,ce⟩:=cz6 a
 try go_wp2_with (first|((with_reducible refine gF 156 ?_);refine gY (some 26) Try.func156 (spec_l12Half.calls bv.out) ?_;rintro cf cg ⟨D,hb⟩;have o:=aM (R_lower (R_new' (R_new' D (R_lt (mR l))) (R_lt (mR aw))) (below_size cB));replace l:=eB l (R_base D) hb;replace aw:=eB aw (R_base D) hb;replace a:=kB a hb;replace HB:=sB hb;(try clear hb);(try clear D);obtain⟨a4,a5,bF⟩:=R_slice o.out;subst bF)|((with_reducible refine gA 24 26 ?_);at_builtin;refine R_append_rows k104 (w0:=w) w.heap.size rfl (.tmp 24) (.tmp 26) 75 104 (.agg #[(.string ⟨#[]⟩),(.int .i64 0),(.int .i64 0),(.int .i64 0),(.int .i64 0),(.string ⟨#[]⟩),(.string ⟨#[]⟩)]) 80 rfl Try.underlying75 info104 rfl (by decide) (by omega) bD aW q _ _ _ (fun k_=>some k_≠(.slice aK p.length aN:Value).ownBlock∧some k_≠(.slice a4 q.length a5:Value).ownBlock) (fun _=>False) rfl rfl ?aO ?aR (fun _ _ h=>h) (fun _ h=>h.elim) ?aF ?aB ?aS ?aL ?_;(case aR=>exact rX o);(case aB=>exact cB);(case aF=>exact(fun k_ hk=>⟨Kd.fresh' (R_lt (mR l)) k_ hk,Kd.fresh' (R_lt (mR o)) k_ hk⟩));(case aO=>exact(mR aw));(case aS=>exact(below_size cB));(case aL=>have:=bw.out;omega);intro bG ch ho hb hg hat;rw[← bx.out]at ho;replace a:=kN a hg aw a;replace l:=aM (R_after (ok:=(fun k_=>some k_≠(.slice a4 q.length a5:Value).ownBlock)) (by exact rM l (fun _ hk=>⟨hk.2,hk.1.2⟩)) hg hat);replace o:=aM (R_after (ok:=(fun k_=>some k_≠(.slice aK p.length aN:Value).ownBlock)) (by exact rM o (fun _ hk=>⟨hk.1.2,hk.2⟩)) hg hat);replace HB:=aM hb;have aQ:=aM ho;clear aw ho hb hg hat;obtain⟨ci,cj,ck,cl,cm,cn,co,cp,cq,cr,cs,ct⟩:=cz6 a)|((with_reducible refine gF 126 ?_);refine gX (some 34) Try.func126 (spec_l11Asks.calls bz.out) ?_;intro cu hb;replace l:=rB l hb;replace o:=rB o hb;replace aQ:=rB aQ hb;replace a:=kB a hb;replace HB:=sB hb;(try clear hb))|((with_reducible refine gA 28 35 ?_);at_builtin;refine R_append k104 (w0:=w) w.heap.size rfl (.tmp 28) (.tmp 35) 75 104 (.agg #[(.string ⟨#[]⟩),(.int .i64 0),(.int .i64 0),(.int .i64 0),(.int .i64 0),(.string ⟨#[]⟩),(.string ⟨#[]⟩)]) 80 rfl Try.underlying75 info104 rfl (by decide) (by omega) bG aA (⟨aX,(⟨aY,aZ,a0,a1⟩ :S34),a2,a3⟩ :S104) [.string aX,.int .i64 aY,.int .i64 aZ,.int .i64 a0,.int .i64 a1,.string a2,.string a3] (fun k_=>some k_≠(.slice aK p.length aN:Value).ownBlock∧some k_≠(.slice a4 q.length a5:Value).ownBlock) (fun _=>False) rfl rfl ?aP (fun _ hk=>hk.elim) ?aF ?aO ?aB ?aS ?aL ?_;(case aP=>exact k104_mkM _ _ _ (⟨aX,(⟨aY,aZ,a0,a1⟩ :S34),a2,a3⟩ :S104));(case aB=>exact cB);(case aF=>exact(fun k_ hk=>⟨Kd.fresh' (R_lt (mR l)) k_ hk,Kd.fresh' (R_lt (mR o)) k_ hk⟩));(case aO=>exact(mR aQ));(case aS=>exact(below_size cB));(case aL=>have:=bA.out;omega);intro cv cw ho hb hg hat;rw[← bg.out]at ho;replace a:=kN a hg aQ a;replace l:=aM (R_after (ok:=(fun k_=>some k_≠(.slice a4 q.length a5:Value).ownBlock)) (mR l) hg hat);replace o:=aM (R_after (ok:=(fun k_=>some k_≠(.slice aK p.length aN:Value).ownBlock)) (mR o) hg hat);replace HB:=aM hb;have bH:=aM ho;clear aQ ho hb hg hat))
 go_ret
 exact⟨_,rE,by(with_reducible repeat(first|apply R_alloc|apply R_drewN|apply R_drew));exact R_mono bH.out (fun _ hk=>trivial),cB⟩
end Go.Proofs.Ytpbalojiaghfhaa.PFnStacks
