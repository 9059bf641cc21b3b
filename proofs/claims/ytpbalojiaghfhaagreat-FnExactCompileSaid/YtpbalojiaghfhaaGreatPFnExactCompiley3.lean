import Derived.Test.YtpbalojiaghfhaaGreatPFnExactCompiley0
import Derived.Test.YtpbalojiaghfhaaGreatPFnExactCompiley2
namespace Go.Proofs.YtpbalojiaghfhaaGreat.PFnExactCompile
open Go.RowKit Go.Proofs.YtpbalojiaghfhaaGreatW.PrintWords Go.Proofs.YtpbalojiaghfhaaGreatW.PrintLast Go.Proofs.YtpbalojiaghfhaaGreatW.PrintMore Go.Proofs.YtpbalojiaghfhaaGreatW.Z
open Kd
attribute [local go_sem] isS max2_int min2_int max_two min_two max_three min_three max_four min_four
set_option linter.unusedVariables false
set_option linter.unusedSimpArgs false
theorem qh3x0 {P:Prop} (h:P:=by exact⟨(blk_cell a.out 0).trans rfl,(blk_cell a.out 1).trans rfl,(blk_cell a.out 2).trans rfl,(blk_cell a.out 3).trans rfl,(blk_cell a.out 4).trans rfl,(blk_cell a.out 5).trans rfl⟩):P:=h
theorem qh3x1 {P:Prop} (h:P:=by exact⟨(blk_cell (blk_alloc a.out _) 0).trans rfl,(blk_cell (blk_alloc a.out _) 1).trans rfl,(blk_cell (blk_alloc a.out _) 2).trans rfl,(blk_cell (blk_alloc a.out _) 3).trans rfl,(blk_cell (blk_alloc a.out _) 4).trans rfl,(blk_cell (blk_alloc a.out _) 5).trans rfl⟩):P:=h
def impl_CondLines.j0:Nat→ByteArray→ByteArray→ByteArray→ByteArray→List (S86)→List (S86)→Int→Int→Int→Int→Int→Int→Int→Option ((List (S86)))
  | 0,_,_,_,_,_,_,_,_,_,_,_,_,_=>none
  | k+1,dh,di,dj,dk,dl,dm,dQ,e8,e9,fa,fb,dn,dR=>(impl_ask.f 4 dn dh dj).bind fun L=>((impl_place.f dj).bind fun O=>((impl_ask.f 3 dn dk di).bind fun U=>((impl_place.f dk).bind fun W=>((some (([(⟨L.1,(⟨L.2.1,L.2.2.1,L.2.2.2.1,L.2.2.2.2.1⟩ :S71),L.2.2.2.2.2.1,L.2.2.2.2.2.2⟩ :S86),(⟨O.1,(⟨O.2.1,O.2.2.1,O.2.2.2.1,O.2.2.2.2.1⟩ :S71),O.2.2.2.2.2.1,O.2.2.2.2.2.2⟩ :S86),(⟨U.1,(⟨U.2.1,U.2.2.1,U.2.2.2.1,U.2.2.2.2.1⟩ :S71),U.2.2.2.2.2.1,U.2.2.2.2.2.2⟩ :S86),(⟨W.1,(⟨W.2.1,W.2.2.1,W.2.2.2.1,W.2.2.2.2.1⟩ :S71),W.2.2.2.2.2.1,W.2.2.2.2.2.2⟩ :S86)] :List (S86)):List (S86))).bind fun E=>(if dl.length+E.length<1759218604441 then((some (dl ++ E:List (S86))).bind fun cT=>(if cT.length+dm.length<1759218604441 then((some (cT ++ dm:List (S86))).bind fun ck=>((impl_ask.f dQ dR dh di).bind fun X=>(if ck.length<1759218604441 then(some (ck ++ [(⟨X.1,(⟨X.2.1,X.2.2.1,X.2.2.2.1,X.2.2.2.2.1⟩ :S71),X.2.2.2.2.2.1,X.2.2.2.2.2.2⟩ :S86)]))else(none))))else(none)))else(none))))))
def impl_CondLines.f (k:Nat) (o:Int) (q:Int) (s:Int) (i:Int) (j:Int) (l:Int) (d:ByteArray) (t:ByteArray) (u:ByteArray):Option ((List (S86))):=(impl_CondOk.f o q s i j l).bind fun c7=>(if c7=true then(if d.size+1≤9223372036854775807 then((impl_word.f 1 (wrap64 (3+(wrap64 (2*o))))).bind fun Y=>((impl_word.f 2 q).bind fun aa=>((some (([(⟨Y.1,(⟨Y.2.1,Y.2.2.1,Y.2.2.2.1,Y.2.2.2.2.1⟩ :S71),Y.2.2.2.2.2.1,Y.2.2.2.2.2.2⟩ :S86),(⟨aa.1,(⟨aa.2.1,aa.2.2.1,aa.2.2.2.1,aa.2.2.2.2.1⟩ :S71),aa.2.2.2.2.2.1,aa.2.2.2.2.2.2⟩ :S86)] :List (S86)):List (S86))).bind fun D=>((impl_word.f 1 (wrap64 (2+(wrap64 (2*o))))).bind fun ab=>((impl_word.f 2 s).bind fun ac=>((some (([(⟨ab.1,(⟨ab.2.1,ab.2.2.1,ab.2.2.2.1,ab.2.2.2.2.1⟩ :S71),ab.2.2.2.2.2.1,ab.2.2.2.2.2.2⟩ :S86),(⟨ac.1,(⟨ac.2.1,ac.2.2.1,ac.2.2.2.1,ac.2.2.2.2.1⟩ :S71),ac.2.2.2.2.2.1,ac.2.2.2.2.2.2⟩ :S86)] :List (S86)):List (S86))).bind fun p=>(if i=1 then((impl_ask.f 3 j (d ++ (⟨#[97]⟩ :ByteArray)) u).bind fun ad=>((impl_place.f (d ++ (⟨#[97]⟩ :ByteArray))).bind fun ae=>((some (([(⟨ad.1,(⟨ad.2.1,ad.2.2.1,ad.2.2.2.1,ad.2.2.2.2.1⟩ :S71),ad.2.2.2.2.2.1,ad.2.2.2.2.2.2⟩ :S86),(⟨ae.1,(⟨ae.2.1,ae.2.2.1,ae.2.2.2.1,ae.2.2.2.2.1⟩ :S71),ae.2.2.2.2.2.1,ae.2.2.2.2.2.2⟩ :S86)] :List (S86)):List (S86))).bind fun G=>(if D.length+G.length<1759218604441 then((some (D ++ G:List (S86))).bind fun cU=>(if cU.length+p.length<1759218604441 then((some (cU ++ p:List (S86))).bind fun cl=>((impl_ask.f 3 l t u).bind fun af=>(if cl.length<1759218604441 then(some (cl ++ [(⟨af.1,(⟨af.2.1,af.2.2.1,af.2.2.2.1,af.2.2.2.2.1⟩ :S71),af.2.2.2.2.2.1,af.2.2.2.2.2.2⟩ :S86)]))else(none))))else(none)))else(none)))))else(if i=2 then((impl_ask.f 3 j (d ++ (⟨#[97]⟩ :ByteArray)) t).bind fun ag=>((impl_place.f (d ++ (⟨#[97]⟩ :ByteArray))).bind fun ah=>((some (([(⟨ag.1,(⟨ag.2.1,ag.2.2.1,ag.2.2.2.1,ag.2.2.2.2.1⟩ :S71),ag.2.2.2.2.2.1,ag.2.2.2.2.2.2⟩ :S86),(⟨ah.1,(⟨ah.2.1,ah.2.2.1,ah.2.2.2.1,ah.2.2.2.2.1⟩ :S71),ah.2.2.2.2.2.1,ah.2.2.2.2.2.2⟩ :S86)] :List (S86)):List (S86))).bind fun I=>(if D.length+I.length<1759218604441 then((some (D ++ I:List (S86))).bind fun cV=>(if cV.length+p.length<1759218604441 then((some (cV ++ p:List (S86))).bind fun cm=>((impl_ask.f 3 l u t).bind fun ai=>(if cm.length<1759218604441 then(some (cm ++ [(⟨ai.1,(⟨ai.2.1,ai.2.2.1,ai.2.2.2.1,ai.2.2.2.2.1⟩ :S71),ai.2.2.2.2.2.1,ai.2.2.2.2.2.2⟩ :S86)]))else(none))))else(none)))else(none)))))else(if i=4 then(impl_CondLines.j0 k u t (d ++ (⟨#[97]⟩ :ByteArray)) (d ++ (⟨#[98]⟩ :ByteArray)) D p 4 o q s i j l)else(if i=6 then(impl_CondLines.j0 k t u (d ++ (⟨#[97]⟩ :ByteArray)) (d ++ (⟨#[98]⟩ :ByteArray)) D p 5 o q s i j l)else(if i=3 then(impl_CondLines.j0 k u t (d ++ (⟨#[97]⟩ :ByteArray)) (d ++ (⟨#[98]⟩ :ByteArray)) D p 5 o q s i j l)else(impl_CondLines.j0 k t u (d ++ (⟨#[97]⟩ :ByteArray)) (d ++ (⟨#[98]⟩ :ByteArray)) D p 4 o q s i j l))))))))))))else(none))else(some (([] :List (S86)))))
def impl_CondLines.T4:Bool×List (List Nat×List Nat):=(true,[([],[]),([0],[0]),([1],[1]),([2],[2]),([3],[3]),([],[]),([5],[5]),([6],[6]),([7,4],[7]),([4,8],[4,8]),([9,8,0,1,2,3,4,5,6,7,8,9],[9])])
def impl_CondLines.B4:List Nat:=[0,1,3,7,15,0,32,96,255,511,1023]
theorem impl_CondLines.tab4:rtab .any (opsOf Tryz.f95 4)=impl_CondLines.T4:=by kernel_rfl
theorem impl_CondLines.bits4:waitsOk impl_CondLines.T4.2 impl_CondLines.B4=true:=by kernel_rfl
def impl_CondLines.T5:Bool×List (List Nat×List Nat):=(true,[([],[]),([0],[0]),([1],[1]),([2],[2]),([3],[3]),([],[]),([5],[5]),([6],[6]),([7,4],[7]),([4,8],[4,8]),([9,8,0,1,2,3,4,5,6,7,8,9],[9])])
def impl_CondLines.B5:List Nat:=[0,1,3,7,15,0,32,96,255,511,1023]
theorem impl_CondLines.tab5:rtab .any (opsOf Tryz.f95 5)=impl_CondLines.T5:=by kernel_rfl
theorem impl_CondLines.bits5:waitsOk impl_CondLines.T5.2 impl_CondLines.B5=true:=by kernel_rfl
def impl_CondLines.T10:Bool×List (List Nat×List Nat):=(true,[([],[]),([],[]),([0,1],[0,1]),([],[]),([3],[3]),([4],[4]),([],[]),([],[]),([5,6,7,2],[5,6,7]),([8],[8]),([2,9,8],[2,9]),([10,10,0,1,2,3,4,5,6,7,8,9,10],[10])])
def impl_CondLines.B10:List Nat:=[0,0,3,0,8,24,0,0,255,511,1023,2047]
theorem impl_CondLines.tab10:rtab .any (opsOf Tryz.f95 10)=impl_CondLines.T10:=by kernel_rfl
theorem impl_CondLines.bits10:waitsOk impl_CondLines.T10.2 impl_CondLines.B10=true:=by kernel_rfl
def impl_CondLines.T13:Bool×List (List Nat×List Nat):=(true,[([],[]),([],[]),([0,1],[0,1]),([],[]),([3],[3]),([4],[4]),([],[]),([],[]),([5,6,7,2],[5,6,7]),([8],[8]),([2,9,8],[2,9]),([10,10,0,1,2,3,4,5,6,7,8,9,10],[10])])
def impl_CondLines.B13:List Nat:=[0,0,3,0,8,24,0,0,255,511,1023,2047]
theorem impl_CondLines.tab13:rtab .any (opsOf Tryz.f95 13)=impl_CondLines.T13:=by kernel_rfl
theorem impl_CondLines.bits13:waitsOk impl_CondLines.T13.2 impl_CondLines.B13=true:=by kernel_rfl
def impl_CondLines.T21:Bool×List (List Nat×List Nat):=(true,[([],[]),([],[]),([1],[1]),([2],[2]),([],[]),([],[]),([3,4,5],[3,4,5]),([],[]),([7,6],[7]),([],[]),([9],[9]),([10],[10]),([],[]),([],[]),([11,12,13,8],[11,12,13]),([],[]),([15,14],[15]),([6,8,14,16],[6,8,14,16]),([0,17,16],[0,17]),([18,18,0,1,2,3,4,5,6,7,8,9,10,11,12,13,14,15,16,17,18],[18])])
def impl_CondLines.B21:List Nat:=[0,0,2,6,0,0,62,0,254,0,512,1536,0,0,16382,0,65534,131070,262143,524287]
theorem impl_CondLines.tab21:rtab .any (opsOf Tryz.f95 21)=impl_CondLines.T21:=by kernel_rfl
theorem impl_CondLines.bits21:waitsOk impl_CondLines.T21.2 impl_CondLines.B21=true:=by kernel_rfl
def impl_CondLines.T22:Bool×List (List Nat×List Nat):=(true,[([],[]),([],[]),([0,1],[0,1]),([],[]),([],[]),([4],[4]),([5],[5]),([],[]),([],[]),([3,6,7,8,2],[3,6,7,8]),([9],[9]),([2,10,9],[2,10]),([11,11,0,1,2,3,4,5,6,7,8,9,10,11],[11])])
def impl_CondLines.B22:List Nat:=[0,0,3,0,0,16,48,0,0,511,1023,2047,4095]
theorem impl_CondLines.tab22:rtab .any (opsOf Tryz.f95 22)=impl_CondLines.T22:=by kernel_rfl
theorem impl_CondLines.bits22:waitsOk impl_CondLines.T22.2 impl_CondLines.B22=true:=by kernel_rfl
theorem q3x0 {P:Prop} (h:P:=by
 rintro w' ⟨s0,s1,s2,s3,s4,s5⟩
 go_simp
 with_reducible rfl):P:=h
set_option maxHeartbeats 8000000 in
set_option maxRecDepth 100000 in
theorem impl_CondLines.calls (k:Nat) (o:Int) (q:Int) (s:Int) (i:Int) (j:Int) (l:Int) (d:ByteArray) (t:ByteArray) (u:ByteArray) (r:List (S86)) (w:World) (h:impl_CondLines.f k o q s i j l d t u=some r) :
 Calls Tryz.prog 95 #[.agg #[.int .i64 o,.int .i64 q,.int .i64 s,.int .i64 i,.int .i64 j,.int .i64 l],.string d,.string t,.string u] w fun e w'=> ∃ v0_:Value,e= .returned (v0_)∧Kd.R k86 86 w' w.heap.size (fun _=>True) v0_ r∧Below w.heap.size w w':=by
 have hu118:=Tryz.underlying118;have HB:=aM (Below.refl w.heap.size w)
 unfold impl_CondLines.f at h;have H:=h
 clear h;replace H:=bE H;obtain⟨c7,dp,H⟩:=H;by_cases cn:c7=true
 ·subst cn;replace H:=iT H;replace H:=gC H;obtain⟨cW,H⟩:=H;have fc:=eq_true cW;have fd:decide (d.size+1≤9223372036854775807)=true:=decide_eq_true cW
  try have fe:(9223372036854775807<d.size+1)=False:=eq_false (Nat.not_lt.2 cW)
  replace H:=bE H;obtain⟨⟨ao,ap,aq,ar,au,av,aw⟩,dS,H⟩:=H;(try dsimp only at H);replace H:=bE H;obtain⟨⟨ax,ay,az,aA,aC,aD,aE⟩,dT,H⟩:=H;(try dsimp only at H);replace H:=nE H;obtain⟨D,dq,H⟩:=H;replace H:=bE H;obtain⟨⟨aG,aH,aI,aJ,aK,aN,aQ⟩,dU,H⟩:=H;(try dsimp only at H);replace H:=bE H;obtain⟨⟨aT,aU,aV,aW,aX,aY,aZ⟩,dV,H⟩:=H;(try dsimp only at H);replace H:=nE H;obtain⟨p,dr,H⟩:=H;have HC12:=aM H;clear H;go_enter Tryz.func95,Tryz.ntmps95
  try go_wp2_with (first|((with_reducible refine gN 4 ?_);refine boxZ 4 #[.int .i64 o,.int .i64 q,.int .i64 s,.int .i64 i,.int .i64 j,.int .i64 l] 118 ?_;intro c hg ff hbox hb;have a:=aM (hbox);have GW117:=gS hg;have GE117:=gS hg;replace HB:=sB hb;clear hb hbox hg;obtain⟨fg,fh,fi,fj,fk,fl,fm,fn,fo,fp,fq,fr⟩:=cz6 a)|((with_reducible refine gF 107 ?_);refine goZ (some 18) Tryz.func107 #[.agg #[.int .i64 o,.int .i64 q,.int .i64 s,.int .i64 i,.int .i64 j,.int .i64 l]] ?_;(with_reducible refine(impl_CondOk.calls o q s i j l true _ dp.out).mono ?_);rintro e dW ⟨rfl,hb⟩;refine⟨_,rfl,?_⟩;replace a:=kB a hb;replace HB:=sB hb;(try clear hb)))
  replace a:=aM (blk_drew a.out);replace HB:=aM (below_drew1 HB.out)
  refine start_ (n:=11) (S:=fun w'=>w'.cell? ⟨c,0,none⟩=some (.int .i64 o)∧w'.cell? ⟨c,1,none⟩=some (.int .i64 q)∧w'.cell? ⟨c,2,none⟩=some (.int .i64 s)∧w'.cell? ⟨c,3,none⟩=some (.int .i64 i)∧w'.cell? ⟨c,4,none⟩=some (.int .i64 j)∧w'.cell? ⟨c,5,none⟩=some (.int .i64 l)) (ds:=[]) #[false,false,false,false,false,false,false,false,false,false,false] (by kernel_rfl) rfl rfl ⟨(blk_cell a.out 0).trans rfl,(blk_cell a.out 1).trans rfl,(blk_cell a.out 2).trans rfl,(blk_cell a.out 3).trans rfl,(blk_cell a.out 4).trans rfl,(blk_cell a.out 5).trans rfl⟩ (fun hHeld=>?_);refine with_tabW impl_CondLines.tab4 impl_CondLines.bits4 (fun HT_ HW_=>?_)
  generalize dW.drew=fs at a HB hHeld ⊢;refine pureZ 0 (some 25) (msk 11 1) HT_.out ?_;refine pureZ 5 (some 30) (msk 11 33) HT_.out ?_;refine pureZ 6 (some 31) (msk 11 97) HT_.out ?_;refine takeZ 1 (some 26) (msk 11 99) HT_.out HW_.out hHeld (hy:=q3x0) (h:=?_);refine pureZ 2 (some 27) (msk 11 103) HT_.out ?_;refine pureZ 3 (some 28) (msk 11 111) HT_.out ?_;refine takeZ 7 (some 32) (msk 11 239) HT_.out HW_.out hHeld (hy:=q3x0) (h:=?_)
  refine one_Z 4 (some 29) (msk 11 255) HT_.out fun K hK=>?_
  refine goE Tryz.func56 #[.int .i64 1,.int .i64 (wrap64 (3+(wrap64 (2*o))))] ?_
  with_reducible refine(impl_word.calls 1 (wrap64 (3+(wrap64 (2*o)))) ao ap aq ar au av aw _ dS.out).mono ?_;rintro e ft ⟨rfl,hb⟩;refine⟨_,rfl,?_⟩;replace a:=kB a hb;replace HB:=sB hb;(try clear hb)
  refine hK.out _ _ qh3x0 (fun hHeld=>?_)
  clear hK K;refine normZ (some 29) ?_
  refine one_Z 8 (some 33) (msk 11 511) HT_.out fun K hK=>?_
  refine goE Tryz.func56 #[.int .i64 2,.int .i64 q] ?_
  with_reducible refine(impl_word.calls 2 q ax ay az aA aC aD aE _ dT.out).mono ?_;rintro e fu ⟨rfl,hb⟩;refine⟨_,rfl,?_⟩;replace a:=kB a hb;replace HB:=sB hb;(try clear hb)
  refine hK.out _ _ qh3x0 (fun hHeld=>?_)
  clear hK K;refine normZ (some 33) ?_
  refine one_Z 9 (some 34) (msk 11 1023) HT_.out fun K hK=>?_
  refine R_lit_step k86 _ 86 ?hg (N:=34) ?hd (xs:=([(⟨ao,(⟨ap,aq,ar,au⟩ :S71),av,aw⟩ :S86),(⟨ax,(⟨ay,az,aA,aC⟩ :S71),aD,aE⟩ :S86)] :List (S86))) (inner:=[.string ao,.int .i64 ap,.int .i64 aq,.int .i64 ar,.int .i64 au,.string av,.string aw,.string ax,.int .i64 ay,.int .i64 az,.int .i64 aA,.int .i64 aC,.string aD,.string aE]) (ok:=fun _=>True) (okp:=fun _=>True) ?hr ?hp (fun _ hk=>hk) trivial (Below.refl _ _) (Nat.le_refl _) (by simp) ?_;(case hd=>rfl);(case hg=>rfl);(case hr=>first|(go_simp;done)|(go_simp;rfl));(case hp=>exact(Reps.c7 (show Kd.M k86 _ _ _ (⟨ao,(⟨ap,aq,ar,au⟩ :S71),av,aw⟩ :S86) [.string ao,.int .i64 ap,.int .i64 aq,.int .i64 ar,.int .i64 au,.string av,.string aw]from (k86_mkM _ _ _ (⟨ao,(⟨ap,aq,ar,au⟩ :S71),av,aw⟩ :S86))) (Reps.c7 (show Kd.M k86 _ _ _ (⟨ax,(⟨ay,az,aA,aC⟩ :S71),aD,aE⟩ :S86) [.string ax,.int .i64 ay,.int .i64 az,.int .i64 aA,.int .i64 aC,.string aD,.string aE]from (k86_mkM _ _ _ (⟨ax,(⟨ay,az,aA,aC⟩ :S71),aD,aE⟩ :S86))) (Reps.none _ _))))
  intro co dX cp hb hg_ hnew_;clear hg_ hnew_
  (first|rw[← dq.out]at cp|(simp only[Int.reduceToNat]at cp;rw[← dq.out]at cp))
  have g:=aM (R_lower cp (below_size cB));replace a:=kB a hb;replace HB:=sB hb;clear hb cp
  refine hK.out _ _ qh3x0 (fun hHeld=>?_)
  clear hK K;refine normZ (some 34) ?_
  refine pureZ 10 (some 11) (msk 11 2047) HT_.out ?_
  refine done_ (done_of HT_.out (by kernel_rfl)) ?_
  try go_wp2
  replace g:=aM (R_drew g.out);replace a:=aM (blk_drew a.out);replace HB:=aM (below_drew1 HB.out)
  refine start_ (n:=11) (S:=fun w'=>w'.cell? ⟨c,0,none⟩=some (.int .i64 o)∧w'.cell? ⟨c,1,none⟩=some (.int .i64 q)∧w'.cell? ⟨c,2,none⟩=some (.int .i64 s)∧w'.cell? ⟨c,3,none⟩=some (.int .i64 i)∧w'.cell? ⟨c,4,none⟩=some (.int .i64 j)∧w'.cell? ⟨c,5,none⟩=some (.int .i64 l)) (ds:=[]) #[false,false,false,false,false,false,false,false,false,false,false] (by kernel_rfl) rfl rfl ⟨(blk_cell a.out 0).trans rfl,(blk_cell a.out 1).trans rfl,(blk_cell a.out 2).trans rfl,(blk_cell a.out 3).trans rfl,(blk_cell a.out 4).trans rfl,(blk_cell a.out 5).trans rfl⟩ (fun hHeld=>?_);refine with_tabW impl_CondLines.tab5 impl_CondLines.bits5 (fun HT_ HW_=>?_)
  generalize dX.drew=fv at g a HB hHeld ⊢;refine pureZ 0 (some 35) (msk 11 1) HT_.out ?_;refine pureZ 5 (some 40) (msk 11 33) HT_.out ?_;refine pureZ 6 (some 41) (msk 11 97) HT_.out ?_;refine takeZ 1 (some 36) (msk 11 99) HT_.out HW_.out hHeld (hy:=q3x0) (h:=?_);refine pureZ 2 (some 37) (msk 11 103) HT_.out ?_;refine pureZ 3 (some 38) (msk 11 111) HT_.out ?_;refine takeZ 7 (some 42) (msk 11 239) HT_.out HW_.out hHeld (hy:=q3x0) (h:=?_)
  refine one_Z 4 (some 39) (msk 11 255) HT_.out fun K hK=>?_
  refine goE Tryz.func56 #[.int .i64 1,.int .i64 (wrap64 (2+(wrap64 (2*o))))] ?_
  with_reducible refine(impl_word.calls 1 (wrap64 (2+(wrap64 (2*o)))) aG aH aI aJ aK aN aQ _ dU.out).mono ?_;rintro e fw ⟨rfl,hb⟩;refine⟨_,rfl,?_⟩;replace g:=rB g hb;replace a:=kB a hb;replace HB:=sB hb;(try clear hb)
  refine hK.out _ _ qh3x0 (fun hHeld=>?_)
  clear hK K;refine normZ (some 39) ?_
  refine one_Z 8 (some 43) (msk 11 511) HT_.out fun K hK=>?_
  refine goE Tryz.func56 #[.int .i64 2,.int .i64 s] ?_
  with_reducible refine(impl_word.calls 2 s aT aU aV aW aX aY aZ _ dV.out).mono ?_;rintro e fx ⟨rfl,hb⟩;refine⟨_,rfl,?_⟩;replace g:=rB g hb;replace a:=kB a hb;replace HB:=sB hb;(try clear hb)
  refine hK.out _ _ qh3x0 (fun hHeld=>?_)
  clear hK K;refine normZ (some 43) ?_
  refine one_Z 9 (some 44) (msk 11 1023) HT_.out fun K hK=>?_
  refine R_lit_step k86 _ 86 ?hg (N:=44) ?hd (xs:=([(⟨aG,(⟨aH,aI,aJ,aK⟩ :S71),aN,aQ⟩ :S86),(⟨aT,(⟨aU,aV,aW,aX⟩ :S71),aY,aZ⟩ :S86)] :List (S86))) (inner:=[.string aG,.int .i64 aH,.int .i64 aI,.int .i64 aJ,.int .i64 aK,.string aN,.string aQ,.string aT,.int .i64 aU,.int .i64 aV,.int .i64 aW,.int .i64 aX,.string aY,.string aZ]) (ok:=fun _=>True) (okp:=fun _=>True) ?hr ?hp (fun _ hk=>hk) trivial (Below.refl _ _) (Nat.le_refl _) (by simp) ?_;(case hd=>rfl);(case hg=>rfl);(case hr=>first|(go_simp;done)|(go_simp;rfl));(case hp=>exact(Reps.c7 (show Kd.M k86 _ _ _ (⟨aG,(⟨aH,aI,aJ,aK⟩ :S71),aN,aQ⟩ :S86) [.string aG,.int .i64 aH,.int .i64 aI,.int .i64 aJ,.int .i64 aK,.string aN,.string aQ]from (k86_mkM _ _ _ (⟨aG,(⟨aH,aI,aJ,aK⟩ :S71),aN,aQ⟩ :S86))) (Reps.c7 (show Kd.M k86 _ _ _ (⟨aT,(⟨aU,aV,aW,aX⟩ :S71),aY,aZ⟩ :S86) [.string aT,.int .i64 aU,.int .i64 aV,.int .i64 aW,.int .i64 aX,.string aY,.string aZ]from (k86_mkM _ _ _ (⟨aT,(⟨aU,aV,aW,aX⟩ :S71),aY,aZ⟩ :S86))) (Reps.none _ _))))
  intro J fy a0 hb hg_ hnew_;clear hg_ hnew_
  (first|rw[← dr.out]at a0|(simp only[Int.reduceToNat]at a0;rw[← dr.out]at a0))
  have b:=aM (R_lower (R_new' a0 (R_lt (mR g))) (below_size cB));replace g:=eB g (R_base a0) hb;replace a:=kB a hb;replace HB:=sB hb;clear hb a0
  refine hK.out _ _ qh3x0 (fun hHeld=>?_)
  clear hK K;refine normZ (some 44) ?_
  refine pureZ 10 (some 12) (msk 11 2047) HT_.out ?_
  refine done_ (done_of HT_.out (by kernel_rfl)) ?_
  obtain⟨fz,fA,fB,fC,fD,fE,fF,fG,fH,fI,fJ,dY⟩:=cz6 a
  go_upto_block 0 with(fail)
  go_cut [2,3,13] (fun dZ d0 d1 wc=> ∃ (kq:Nat) (aj:ByteArray) (ak:ByteArray) (cq:Int),dZ= .string aj∧d0= .string ak∧d1= .int .i64 cq∧Aside0 (impl_CondLines.j0 kq aj ak (d ++ (⟨#[97]⟩ :ByteArray)) (d ++ (⟨#[98]⟩ :ByteArray)) D p cq o q s i j l=some r)∧Aside0 (kq≤k)∧Aside0 (Kd.R k86 86 wc w.heap.size (fun k_=>some k_≠(J:Value).ownBlock) co D)∧Aside0 (Kd.R k86 86 wc w.heap.size (fun k_=>some k_≠(co:Value).ownBlock) J p)∧Aside0 (wc.heap[c]?=some (.cells #[.int .i64 o,.int .i64 q,.int .i64 s,.int .i64 i,.int .i64 j,.int .i64 l] 118 (0,0)))∧Aside0 (Below w.heap.size w wc))
  case first=>
   have H:=HC12.out;clear HC12;by_cases a1:i=1
   ·rw[if_pos a1]at H;obtain⟨a2,dt⟩:=eT a1;clear a1
    (first|rw[a2]|(simp only[i64_w,i32_w];rw[a2])|skip)
    replace H:=bE H;obtain⟨⟨a3,a4,a5,a6,a7,a8,a9⟩,d2,H⟩:=H;(try dsimp only at H);replace H:=bE H;obtain⟨⟨ba,bb,bd,be,bf,bg,bh⟩,d3,H⟩:=H;(try dsimp only at H);replace H:=nE H;obtain⟨G,du,H⟩:=H;replace H:=gC H;obtain⟨da,H⟩:=H;have d4:=aM da;clear da;replace H:=nE H;obtain⟨cU,d5,H⟩:=H;replace H:=gC H;obtain⟨db,H⟩:=H;have d6:=aM db;clear db;replace H:=nE H;obtain⟨cl,d7,H⟩:=H;replace H:=bE H;obtain⟨⟨cr,cs,ct,cu,cv,cw,cx⟩,d8,H⟩:=H;(try dsimp only at H);replace H:=gC H;obtain⟨dc,H⟩:=H;have d9:=aM dc;clear dc;obtain⟨fK,dv⟩ : ∃ y_:List (S86),Aside0 (y_=(cl ++ [(⟨cr,(⟨cs,ct,cu,cv⟩ :S71),cw,cx⟩ :S86)])):=⟨_,⟨rfl⟩⟩;rw[← dv.out]at H;obtain rfl:=Option.some.inj H;obtain⟨ea,eb,ec,ed,ee,ef,eg,eh,ei,ej,ek,el⟩:=cz6 a
    try go_wp2_with (first|((with_reducible refine gF 61 ?_);refine goZ (some 55) Tryz.func61 #[.int .i64 3,.int .i64 j,.string (d ++ (⟨#[97]⟩ :ByteArray)),.string u] ?_;(with_reducible refine(impl_ask.calls 3 j (d ++ (⟨#[97]⟩ :ByteArray)) u a3 a4 a5 a6 a7 a8 a9 _ d2.out).mono ?_);rintro e fL ⟨rfl,hb⟩;refine⟨_,rfl,?_⟩;replace g:=rB g hb;replace b:=rB b hb;replace a:=kB a hb;replace HB:=sB hb;(try clear hb))|((with_reducible refine gF 55 ?_);refine goZ (some 57) Tryz.func55 #[.string (d ++ (⟨#[97]⟩ :ByteArray))] ?_;(with_reducible refine(impl_place.calls (d ++ (⟨#[97]⟩ :ByteArray)) ba bb bd be bf bg bh _ d3.out).mono ?_);rintro e fM ⟨rfl,hb⟩;refine⟨_,rfl,?_⟩;replace g:=rB g hb;replace b:=rB b hb;replace a:=kB a hb;replace HB:=sB hb;(try clear hb))|((with_reducible refine gN 58 ?_);refine R_lit k86 _ 86 ?hg (N:=58) ?hd (xs:=([(⟨a3,(⟨a4,a5,a6,a7⟩ :S71),a8,a9⟩ :S86),(⟨ba,(⟨bb,bd,be,bf⟩ :S71),bg,bh⟩ :S86)] :List (S86))) (inner:=[.string a3,.int .i64 a4,.int .i64 a5,.int .i64 a6,.int .i64 a7,.string a8,.string a9,.string ba,.int .i64 bb,.int .i64 bd,.int .i64 be,.int .i64 bf,.string bg,.string bh]) (ok:=fun _=>True) (okp:=fun _=>True) ?hr ?hp (fun _ hk=>hk) trivial (Below.refl _ _) (Nat.le_refl _) (by simp) ?_;(case hd=>rfl);(case hg=>rfl);(case hr=>exact rG);(case hp=>exact(Reps.c7 (show Kd.M k86 _ _ _ (⟨a3,(⟨a4,a5,a6,a7⟩ :S71),a8,a9⟩ :S86) [.string a3,.int .i64 a4,.int .i64 a5,.int .i64 a6,.int .i64 a7,.string a8,.string a9]from (k86_mkM _ _ _ (⟨a3,(⟨a4,a5,a6,a7⟩ :S71),a8,a9⟩ :S86))) (Reps.c7 (show Kd.M k86 _ _ _ (⟨ba,(⟨bb,bd,be,bf⟩ :S71),bg,bh⟩ :S86) [.string ba,.int .i64 bb,.int .i64 bd,.int .i64 be,.int .i64 bf,.string bg,.string bh]from (k86_mkM _ _ _ (⟨ba,(⟨bb,bd,be,bf⟩ :S71),bg,bh⟩ :S86))) (Reps.none _ _))));intro fN fO al hb hg_ hnew_;clear hg_ hnew_;(first|rw[← du.out]at al|(simp only[Int.reduceToNat]at al;rw[← du.out]at al));have y:=aM (R_lower (R_new' (R_new' al (R_lt (mR g))) (R_lt (mR b))) (below_size cB));replace g:=eB g (R_base al) hb;replace b:=eB b (R_base al) hb;replace a:=kB a hb;replace HB:=sB hb;clear hb al;obtain⟨bi,bj,em⟩:=R_slice y.out;subst em)|((with_reducible refine gA 49 58 ?_);at_builtin;refine R_append_rows k86 (w0:=w) w.heap.size rfl (.tmp 49) (.tmp 58) 47 86 (.agg #[(.string ⟨#[]⟩),(.int .i64 0),(.int .i64 0),(.int .i64 0),(.int .i64 0),(.string ⟨#[]⟩),(.string ⟨#[]⟩)]) 80 rfl Tryz.underlying47 info86 rfl (by decide) (by omega) co D G _ _ _ (fun k_=>some k_≠(J:Value).ownBlock∧some k_≠(.slice bi G.length bj:Value).ownBlock) (fun _=>False) rfl rfl ?aO ?aR (fun _ _ h=>h) (fun _ h=>h.elim) ?aF ?aB ?aS ?aL ?_;(case aR=>exact cC ((R_reads' y.out).2.2));(case aB=>exact cB);(case aF=>exact(fun k_ hk=>⟨Kd.fresh' (R_lt (mR b)) k_ hk,Kd.fresh' (R_lt (mR y)) k_ hk⟩));(case aO=>exact(by(with_reducible repeat(first|apply R_alloc|apply R_drewN|apply R_drew));exact R_mono g.out (fun _ hk=>⟨hk.1.2,hk.2⟩)));(case aS=>exact(below_size cB));(case aL=>have:=d4.out;omega);intro en eo ho hb hg hat;rw[← d5.out]at ho;replace a:=aM (blk_grown (mK a) hg (R_ne g.out a.out (by decide)));replace b:=aM (R_after (ok:=(fun k_=>some k_≠(.slice bi G.length bj:Value).ownBlock)) (by(with_reducible repeat(first|apply R_alloc|apply R_drewN|apply R_drew));exact R_mono b.out (fun _ hk=>⟨hk.2,hk.1.2⟩)) hg hat);replace y:=aM (R_after (ok:=(fun k_=>some k_≠(J:Value).ownBlock)) (by(with_reducible repeat(first|apply R_alloc|apply R_drewN|apply R_drew));exact R_mono y.out (fun _ hk=>⟨hk.2,hk.1.2⟩)) hg hat);replace HB:=aM (hb);have bk:=aM (ho);clear g ho hb hg hat))
    replace b:=aM (R_drew b.out);replace y:=aM (R_drew y.out);replace bk:=aM (R_drew bk.out);replace a:=aM (blk_drew a.out);replace HB:=aM (below_drew1 HB.out);obtain⟨cX,cY,dw⟩:=R_slice b.out
    (first|subst dw|(injection dw with f1_ f2_ f3_;have f4_:=f1_.symm;have f5_:=f3_.symm;clear f1_ f2_ f3_;subst f4_;subst f5_))
    refine start_ (n:=12) (S:=fun w'=>w'.cell? ⟨c,0,none⟩=some (.int .i64 o)∧w'.cell? ⟨c,1,none⟩=some (.int .i64 q)∧w'.cell? ⟨c,2,none⟩=some (.int .i64 s)∧w'.cell? ⟨c,3,none⟩=some (.int .i64 i)∧w'.cell? ⟨c,4,none⟩=some (.int .i64 j)∧w'.cell? ⟨c,5,none⟩=some (.int .i64 l)) (ds:=[]) #[false,false,false,false,false,false,false,false,false,false,false,false] (by kernel_rfl) rfl rfl ⟨(blk_cell a.out 0).trans rfl,(blk_cell a.out 1).trans rfl,(blk_cell a.out 2).trans rfl,(blk_cell a.out 3).trans rfl,(blk_cell a.out 4).trans rfl,(blk_cell a.out 5).trans rfl⟩ (fun hHeld=>?_);refine with_tabW impl_CondLines.tab10 impl_CondLines.bits10 (fun HT_ HW_=>?_)
    generalize eo.drew=fP at b y bk a HB hHeld ⊢;refine pureZ 0 (some 60) (msk 12 1) HT_.out ?_;refine pureZ 1 (some 61) (msk 12 3) HT_.out ?_;refine pureZ 3 (some 63) (msk 12 11) HT_.out ?_;refine pureZ 4 (some 64) (msk 12 27) HT_.out ?_;refine pureZ 6 (some 66) (msk 12 91) HT_.out ?_;refine pureZ 7 (some 67) (msk 12 219) HT_.out ?_;refine takeZ 5 (some 65) (msk 12 251) HT_.out HW_.out hHeld (hy:=q3x0) (h:=?_)
    refine one_Z 2 (some 62) (msk 12 255) HT_.out fun K hK=>?_
    refine R_append_rows_step k86 (w0:=w) w.heap.size (by rfl) (.tmp 60) (.tmp 61) 47 86 (.agg #[(.string ⟨#[]⟩),(.int .i64 0),(.int .i64 0),(.int .i64 0),(.int .i64 0),(.string ⟨#[]⟩),(.string ⟨#[]⟩)]) 80 rfl Tryz.underlying47 info86 rfl (by decide) (by omega) en cU p _ _ _ (fun k_=>some k_≠(.slice cX p.length cY:Value).ownBlock∧some k_≠(.slice bi G.length bj:Value).ownBlock) (fun _=>False) rfl rfl ?aO ?aR (fun _ _ h=>h) (fun _ h=>h.elim) ?aF ?aB ?aS ?aL ?_
    (case aR=>exact cC ((R_reads' b.out).2.2))
    (case aB=>exact cB)
    (case aF=>exact(fun k_ hk=>⟨Kd.fresh' (R_lt (mR b)) k_ hk,Kd.fresh' (R_lt (mR y)) k_ hk⟩))
    (case aO=>exact(mR bk))
    (case aS=>exact(below_size cB))
    (case aL=>have:=d6.out;omega)
    intro ep fS ho hb hg hat;rw[← d7.out]at ho
    replace a:=aM (blk_grown (mK a) hg (R_ne bk.out a.out (by decide)))
    replace b:=aM (R_after (ok:=(fun k_=>some k_≠(.slice bi G.length bj:Value).ownBlock)) (mR b) hg hat)
    replace y:=aM (R_after (ok:=(fun k_=>some k_≠(.slice cX p.length cY:Value).ownBlock)) (mR y) hg hat)
    replace HB:=aM (hb);have cy:=aM (ho);clear bk ho hb hg hat
    refine hK.out _ _ qh3x0 (fun hHeld=>?_)
    clear hK K;refine normZ (some 62) ?_
    refine one_Z 8 (some 68) (msk 12 511) HT_.out fun K hK=>?_
    refine goE Tryz.func61 #[.int .i64 3,.int .i64 l,.string t,.string u] ?_
    with_reducible refine(impl_ask.calls 3 l t u cr cs ct cu cv cw cx _ d8.out).mono ?_;rintro e fT ⟨rfl,hb⟩;refine⟨_,rfl,?_⟩;replace b:=rB b hb;replace y:=rB y hb;replace cy:=rB cy hb;replace a:=kB a hb;replace HB:=sB hb;(try clear hb)
    refine hK.out _ _ qh3x0 (fun hHeld=>?_)
    clear hK K;refine normZ (some 68) ?_
    refine one_Z 9 (some 69) (msk 12 1023) HT_.out fun K hK=>?_
    refine value_ (w1:=?_) (v:=?_) (by rfl) rfl ?_ ?_
    rotate_left 2
    ·go_simp;constructor
     ·rfl
     ·rfl
    refine hK.out _ _ qh3x1 (fun hHeld=>?_)
    clear hK K;refine normZ (some 69) ?_
    refine one_Z 10 (some 70) (msk 12 2047) HT_.out fun K hK=>?_
    refine R_append_step k86 (w0:=w) w.heap.size (by rfl) (.tmp 62) (.tmp 69) 47 86 (.agg #[(.string ⟨#[]⟩),(.int .i64 0),(.int .i64 0),(.int .i64 0),(.int .i64 0),(.string ⟨#[]⟩),(.string ⟨#[]⟩)]) 80 rfl Tryz.underlying47 info86 rfl (by decide) (by omega) ep cl (⟨cr,(⟨cs,ct,cu,cv⟩ :S71),cw,cx⟩ :S86) [.string cr,.int .i64 cs,.int .i64 ct,.int .i64 cu,.int .i64 cv,.string cw,.string cx] (fun k_=>some k_≠(.slice cX p.length cY:Value).ownBlock∧some k_≠(.slice bi G.length bj:Value).ownBlock) (fun _=>False) rfl rfl ?aP (fun _ hk=>hk.elim) ?aF ?aO ?aB ?aS ?aL ?_
    (case aP=>exact k86_mkM _ _ _ (⟨cr,(⟨cs,ct,cu,cv⟩ :S71),cw,cx⟩ :S86))
    (case aB=>exact cB)
    (case aF=>exact(fun k_ hk=>⟨Kd.fresh' (R_lt (mR b)) k_ hk,Kd.fresh' (R_lt (mR y)) k_ hk⟩))
    (case aO=>exact(mR cy))
    (case aS=>exact(below_size cB))
    (case aL=>have:=d9.out;omega)
    intro fU fV ho hb hg hat;rw[← dv.out]at ho
    replace a:=aM (blk_grown (mK a) hg (R_ne cy.out a.out (by decide)))
    replace b:=aM (R_after (ok:=(fun k_=>some k_≠(.slice bi G.length bj:Value).ownBlock)) (mR b) hg hat)
    replace y:=aM (R_after (ok:=(fun k_=>some k_≠(.slice cX p.length cY:Value).ownBlock)) (mR y) hg hat)
    replace HB:=aM (hb);have eq:=aM (ho);clear cy ho hb hg hat
    refine hK.out _ _ qh3x0 (fun hHeld=>?_)
    clear hK K;refine normZ (some 70) ?_
    refine pureZ 11 (some 8) (msk 12 4095) HT_.out ?_
    refine done_ (done_of HT_.out (by kernel_rfl)) ?_
    try go_wp2
    go_ret
    exact⟨_,rE,by(with_reducible repeat(first|apply R_alloc|apply R_drewN|apply R_drew));exact R_mono eq.out (fun _ hk=>trivial),cB⟩
   ·rw[if_neg a1]at H;obtain⟨a2,dt⟩:=eF a1
    (first|rw[a2]|(simp only[i64_w,i32_w];rw[a2])|skip)
    by_cases bl:i=2
    ·rw[if_pos bl]at H;obtain⟨dx,dy⟩:=eT bl;clear bl;replace H:=bE H;obtain⟨⟨bm,bn,bo,bp,bq,br,bs⟩,er,H⟩:=H;(try dsimp only at H);replace H:=bE H;obtain⟨⟨bu,bv,bw,bx,bz,bA,bB⟩,es,H⟩:=H;(try dsimp only at H);replace H:=nE H;obtain⟨I,dz,H⟩:=H;replace H:=gC H;obtain⟨dd,H⟩:=H;have et:=aM dd;clear dd;replace H:=nE H;obtain⟨cV,eu,H⟩:=H;replace H:=gC H;obtain⟨de,H⟩:=H;have ev:=aM de;clear de;replace H:=nE H;obtain⟨cm,ew,H⟩:=H;replace H:=bE H;obtain⟨⟨cz,cA,cD,cE,cF,cG,cH⟩,ex,H⟩:=H;(try dsimp only at H);replace H:=gC H;obtain⟨df,H⟩:=H;have ey:=aM df;clear df;obtain⟨fW,dB⟩ : ∃ y_:List (S86),Aside0 (y_=(cm ++ [(⟨cz,(⟨cA,cD,cE,cF⟩ :S71),cG,cH⟩ :S86)])):=⟨_,⟨rfl⟩⟩;rw[← dB.out]at H;obtain rfl:=Option.some.inj H;obtain⟨ez,eA,eC,eD,eE,eG,eH,eI,eJ,eK,eL,eM⟩:=cz6 a
     try go_wp2_with (first|((with_reducible refine gF 61 ?_);refine goZ (some 79) Tryz.func61 #[.int .i64 3,.int .i64 j,.string (d ++ (⟨#[97]⟩ :ByteArray)),.string t] ?_;(with_reducible refine(impl_ask.calls 3 j (d ++ (⟨#[97]⟩ :ByteArray)) t bm bn bo bp bq br bs _ er.out).mono ?_);rintro e fX ⟨rfl,hb⟩;refine⟨_,rfl,?_⟩;replace g:=rB g hb;replace b:=rB b hb;replace a:=kB a hb;replace HB:=sB hb;(try clear hb))|((with_reducible refine gF 55 ?_);refine goZ (some 81) Tryz.func55 #[.string (d ++ (⟨#[97]⟩ :ByteArray))] ?_;(with_reducible refine(impl_place.calls (d ++ (⟨#[97]⟩ :ByteArray)) bu bv bw bx bz bA bB _ es.out).mono ?_);rintro e fY ⟨rfl,hb⟩;refine⟨_,rfl,?_⟩;replace g:=rB g hb;replace b:=rB b hb;replace a:=kB a hb;replace HB:=sB hb;(try clear hb))|((with_reducible refine gN 82 ?_);refine R_lit k86 _ 86 ?hg (N:=82) ?hd (xs:=([(⟨bm,(⟨bn,bo,bp,bq⟩ :S71),br,bs⟩ :S86),(⟨bu,(⟨bv,bw,bx,bz⟩ :S71),bA,bB⟩ :S86)] :List (S86))) (inner:=[.string bm,.int .i64 bn,.int .i64 bo,.int .i64 bp,.int .i64 bq,.string br,.string bs,.string bu,.int .i64 bv,.int .i64 bw,.int .i64 bx,.int .i64 bz,.string bA,.string bB]) (ok:=fun _=>True) (okp:=fun _=>True) ?hr ?hp (fun _ hk=>hk) trivial (Below.refl _ _) (Nat.le_refl _) (by simp) ?_;(case hd=>rfl);(case hg=>rfl);(case hr=>exact rG);(case hp=>exact(Reps.c7 (show Kd.M k86 _ _ _ (⟨bm,(⟨bn,bo,bp,bq⟩ :S71),br,bs⟩ :S86) [.string bm,.int .i64 bn,.int .i64 bo,.int .i64 bp,.int .i64 bq,.string br,.string bs]from (k86_mkM _ _ _ (⟨bm,(⟨bn,bo,bp,bq⟩ :S71),br,bs⟩ :S86))) (Reps.c7 (show Kd.M k86 _ _ _ (⟨bu,(⟨bv,bw,bx,bz⟩ :S71),bA,bB⟩ :S86) [.string bu,.int .i64 bv,.int .i64 bw,.int .i64 bx,.int .i64 bz,.string bA,.string bB]from (k86_mkM _ _ _ (⟨bu,(⟨bv,bw,bx,bz⟩ :S71),bA,bB⟩ :S86))) (Reps.none _ _))));intro fZ f0 am hb hg_ hnew_;clear hg_ hnew_;(first|rw[← dz.out]at am|(simp only[Int.reduceToNat]at am;rw[← dz.out]at am));have z:=aM (R_lower (R_new' (R_new' am (R_lt (mR g))) (R_lt (mR b))) (below_size cB));replace g:=eB g (R_base am) hb;replace b:=eB b (R_base am) hb;replace a:=kB a hb;replace HB:=sB hb;clear hb am;obtain⟨bC,bD,eN⟩:=R_slice z.out;subst eN)|((with_reducible refine gA 73 82 ?_);at_builtin;refine R_append_rows k86 (w0:=w) w.heap.size rfl (.tmp 73) (.tmp 82) 47 86 (.agg #[(.string ⟨#[]⟩),(.int .i64 0),(.int .i64 0),(.int .i64 0),(.int .i64 0),(.string ⟨#[]⟩),(.string ⟨#[]⟩)]) 80 rfl Tryz.underlying47 info86 rfl (by decide) (by omega) co D I _ _ _ (fun k_=>some k_≠(J:Value).ownBlock∧some k_≠(.slice bC I.length bD:Value).ownBlock) (fun _=>False) rfl rfl ?aO ?aR (fun _ _ h=>h) (fun _ h=>h.elim) ?aF ?aB ?aS ?aL ?_;(case aR=>exact cC ((R_reads' z.out).2.2));(case aB=>exact cB);(case aF=>exact(fun k_ hk=>⟨Kd.fresh' (R_lt (mR b)) k_ hk,Kd.fresh' (R_lt (mR z)) k_ hk⟩));(case aO=>exact(by(with_reducible repeat(first|apply R_alloc|apply R_drewN|apply R_drew));exact R_mono g.out (fun _ hk=>⟨hk.1.2,hk.2⟩)));(case aS=>exact(below_size cB));(case aL=>have:=et.out;omega);intro eO eP ho hb hg hat;rw[← eu.out]at ho;replace a:=aM (blk_grown (mK a) hg (R_ne g.out a.out (by decide)));replace b:=aM (R_after (ok:=(fun k_=>some k_≠(.slice bC I.length bD:Value).ownBlock)) (by(with_reducible repeat(first|apply R_alloc|apply R_drewN|apply R_drew));exact R_mono b.out (fun _ hk=>⟨hk.2,hk.1.2⟩)) hg hat);replace z:=aM (R_after (ok:=(fun k_=>some k_≠(J:Value).ownBlock)) (by(with_reducible repeat(first|apply R_alloc|apply R_drewN|apply R_drew));exact R_mono z.out (fun _ hk=>⟨hk.2,hk.1.2⟩)) hg hat);replace HB:=aM (hb);have bF:=aM (ho);clear g ho hb hg hat))
     replace b:=aM (R_drew b.out);replace z:=aM (R_drew z.out);replace bF:=aM (R_drew bF.out);replace a:=aM (blk_drew a.out);replace HB:=aM (below_drew1 HB.out);obtain⟨cZ,c0,dC⟩:=R_slice b.out
     (first|subst dC|(injection dC with f1_ f2_ f3_;have f4_:=f1_.symm;have f5_:=f3_.symm;clear f1_ f2_ f3_;subst f4_;subst f5_))
     refine start_ (n:=12) (S:=fun w'=>w'.cell? ⟨c,0,none⟩=some (.int .i64 o)∧w'.cell? ⟨c,1,none⟩=some (.int .i64 q)∧w'.cell? ⟨c,2,none⟩=some (.int .i64 s)∧w'.cell? ⟨c,3,none⟩=some (.int .i64 i)∧w'.cell? ⟨c,4,none⟩=some (.int .i64 j)∧w'.cell? ⟨c,5,none⟩=some (.int .i64 l)) (ds:=[]) #[false,false,false,false,false,false,false,false,false,false,false,false] (by kernel_rfl) rfl rfl ⟨(blk_cell a.out 0).trans rfl,(blk_cell a.out 1).trans rfl,(blk_cell a.out 2).trans rfl,(blk_cell a.out 3).trans rfl,(blk_cell a.out 4).trans rfl,(blk_cell a.out 5).trans rfl⟩ (fun hHeld=>?_);refine with_tabW impl_CondLines.tab13 impl_CondLines.bits13 (fun HT_ HW_=>?_)
     generalize eP.drew=f1 at b z bF a HB hHeld ⊢;refine pureZ 0 (some 84) (msk 12 1) HT_.out ?_;refine pureZ 1 (some 85) (msk 12 3) HT_.out ?_;refine pureZ 3 (some 87) (msk 12 11) HT_.out ?_;refine pureZ 4 (some 88) (msk 12 27) HT_.out ?_;refine pureZ 6 (some 90) (msk 12 91) HT_.out ?_;refine pureZ 7 (some 91) (msk 12 219) HT_.out ?_;refine takeZ 5 (some 89) (msk 12 251) HT_.out HW_.out hHeld (hy:=q3x0) (h:=?_)
     refine one_Z 2 (some 86) (msk 12 255) HT_.out fun K hK=>?_
     refine R_append_rows_step k86 (w0:=w) w.heap.size (by rfl) (.tmp 84) (.tmp 85) 47 86 (.agg #[(.string ⟨#[]⟩),(.int .i64 0),(.int .i64 0),(.int .i64 0),(.int .i64 0),(.string ⟨#[]⟩),(.string ⟨#[]⟩)]) 80 rfl Tryz.underlying47 info86 rfl (by decide) (by omega) eO cV p _ _ _ (fun k_=>some k_≠(.slice cZ p.length c0:Value).ownBlock∧some k_≠(.slice bC I.length bD:Value).ownBlock) (fun _=>False) rfl rfl ?aO ?aR (fun _ _ h=>h) (fun _ h=>h.elim) ?aF ?aB ?aS ?aL ?_
     (case aR=>exact cC ((R_reads' b.out).2.2))
     (case aB=>exact cB)
     (case aF=>exact(fun k_ hk=>⟨Kd.fresh' (R_lt (mR b)) k_ hk,Kd.fresh' (R_lt (mR z)) k_ hk⟩))
     (case aO=>exact(mR bF))
     (case aS=>exact(below_size cB))
     (case aL=>have:=ev.out;omega)
     intro eQ f2 ho hb hg hat;rw[← ew.out]at ho
     replace a:=aM (blk_grown (mK a) hg (R_ne bF.out a.out (by decide)))
     replace b:=aM (R_after (ok:=(fun k_=>some k_≠(.slice bC I.length bD:Value).ownBlock)) (mR b) hg hat)
     replace z:=aM (R_after (ok:=(fun k_=>some k_≠(.slice cZ p.length c0:Value).ownBlock)) (mR z) hg hat)
     replace HB:=aM (hb);have cI:=aM (ho);clear bF ho hb hg hat
     refine hK.out _ _ qh3x0 (fun hHeld=>?_)
     clear hK K;refine normZ (some 86) ?_
     refine one_Z 8 (some 92) (msk 12 511) HT_.out fun K hK=>?_
     refine goE Tryz.func61 #[.int .i64 3,.int .i64 l,.string u,.string t] ?_
     with_reducible refine(impl_ask.calls 3 l u t cz cA cD cE cF cG cH _ ex.out).mono ?_;rintro e f3 ⟨rfl,hb⟩;refine⟨_,rfl,?_⟩;replace b:=rB b hb;replace z:=rB z hb;replace cI:=rB cI hb;replace a:=kB a hb;replace HB:=sB hb;(try clear hb)
     refine hK.out _ _ qh3x0 (fun hHeld=>?_)
     clear hK K;refine normZ (some 92) ?_
     refine one_Z 9 (some 93) (msk 12 1023) HT_.out fun K hK=>?_
     refine value_ (w1:=?_) (v:=?_) (by rfl) rfl ?_ ?_
     rotate_left 2
     ·go_simp;constructor
      ·rfl
      ·rfl
     refine hK.out _ _ qh3x1 (fun hHeld=>?_)
     clear hK K;refine normZ (some 93) ?_
     refine one_Z 10 (some 94) (msk 12 2047) HT_.out fun K hK=>?_
     refine R_append_step k86 (w0:=w) w.heap.size (by rfl) (.tmp 86) (.tmp 93) 47 86 (.agg #[(.string ⟨#[]⟩),(.int .i64 0),(.int .i64 0),(.int .i64 0),(.int .i64 0),(.string ⟨#[]⟩),(.string ⟨#[]⟩)]) 80 rfl Tryz.underlying47 info86 rfl (by decide) (by omega) eQ cm (⟨cz,(⟨cA,cD,cE,cF⟩ :S71),cG,cH⟩ :S86) [.string cz,.int .i64 cA,.int .i64 cD,.int .i64 cE,.int .i64 cF,.string cG,.string cH] (fun k_=>some k_≠(.slice cZ p.length c0:Value).ownBlock∧some k_≠(.slice bC I.length bD:Value).ownBlock) (fun _=>False) rfl rfl ?aP (fun _ hk=>hk.elim) ?aF ?aO ?aB ?aS ?aL ?_
     (case aP=>exact k86_mkM _ _ _ (⟨cz,(⟨cA,cD,cE,cF⟩ :S71),cG,cH⟩ :S86))
     (case aB=>exact cB)
     (case aF=>exact(fun k_ hk=>⟨Kd.fresh' (R_lt (mR b)) k_ hk,Kd.fresh' (R_lt (mR z)) k_ hk⟩))
     (case aO=>exact(mR cI))
     (case aS=>exact(below_size cB))
     (case aL=>have:=ey.out;omega)
     intro f4 f5 ho hb hg hat;rw[← dB.out]at ho
     replace a:=aM (blk_grown (mK a) hg (R_ne cI.out a.out (by decide)))
     replace b:=aM (R_after (ok:=(fun k_=>some k_≠(.slice bC I.length bD:Value).ownBlock)) (mR b) hg hat)
     replace z:=aM (R_after (ok:=(fun k_=>some k_≠(.slice cZ p.length c0:Value).ownBlock)) (mR z) hg hat)
     replace HB:=aM (hb);have eR:=aM (ho);clear cI ho hb hg hat
     refine hK.out _ _ qh3x0 (fun hHeld=>?_)
     clear hK K;refine normZ (some 94) ?_
     refine pureZ 11 (some 8) (msk 12 4095) HT_.out ?_
     refine done_ (done_of HT_.out (by kernel_rfl)) ?_
     try go_wp2
     go_ret
     exact⟨_,rE,by(with_reducible repeat(first|apply R_alloc|apply R_drewN|apply R_drew));exact R_mono eR.out (fun _ hk=>trivial),cB⟩
    ·rw[if_neg bl]at H;obtain⟨dx,dy⟩:=eF bl;by_cases bG:i=4
     ·rw[if_pos bG]at H;obtain⟨dD,dE⟩:=eT bG;clear bG;have H':=aM H;clear H;go_wp2;go_meet
      case rel=>exact⟨_,(u),(t),(4),rS,rS,rS,H',⟨oL⟩,⟨by(with_reducible repeat(first|apply R_alloc|apply R_drewN|apply R_drew));exact R_mono g.out (fun _ hk=>hk.2)⟩,⟨by(with_reducible repeat(first|apply R_alloc|apply R_drewN|apply R_drew));exact R_mono b.out (fun _ hk=>hk.2)⟩,⟨mK a⟩,⟨cB⟩⟩
     ·rw[if_neg bG]at H;obtain⟨dD,dE⟩:=eF bG;by_cases bH:i=6
      ·rw[if_pos bH]at H;obtain⟨dF,dG⟩:=eT bH;clear bH;have H':=aM H;clear H;go_wp2;go_meet
       case rel=>exact⟨_,(t),(u),(5),rS,rS,rS,H',⟨oL⟩,⟨by(with_reducible repeat(first|apply R_alloc|apply R_drewN|apply R_drew));exact R_mono g.out (fun _ hk=>hk.2)⟩,⟨by(with_reducible repeat(first|apply R_alloc|apply R_drewN|apply R_drew));exact R_mono b.out (fun _ hk=>hk.2)⟩,⟨mK a⟩,⟨cB⟩⟩
      ·rw[if_neg bH]at H;obtain⟨dF,dG⟩:=eF bH;by_cases bI:i=3
       ·rw[if_pos bI]at H;obtain⟨dH,dI⟩:=eT bI;clear bI;have H':=aM H;clear H;go_wp2;go_meet
        case rel=>exact⟨_,(u),(t),(5),rS,rS,rS,H',⟨oL⟩,⟨by(with_reducible repeat(first|apply R_alloc|apply R_drewN|apply R_drew));exact R_mono g.out (fun _ hk=>hk.2)⟩,⟨by(with_reducible repeat(first|apply R_alloc|apply R_drewN|apply R_drew));exact R_mono b.out (fun _ hk=>hk.2)⟩,⟨mK a⟩,⟨cB⟩⟩
       ·rw[if_neg bI]at H;obtain⟨dH,dI⟩:=eF bI;have H':=aM H;clear H;go_wp2;go_meet
        case rel=>exact⟨_,(t),(u),(4),rS,rS,rS,H',⟨oL⟩,⟨by(with_reducible repeat(first|apply R_alloc|apply R_drewN|apply R_drew));exact R_mono g.out (fun _ hk=>hk.2)⟩,⟨by(with_reducible repeat(first|apply R_alloc|apply R_drewN|apply R_drew));exact R_mono b.out (fun _ hk=>hk.2)⟩,⟨mK a⟩,⟨cB⟩⟩
  case rest=>
   clear HC12;(try clear cn);(try clear cW);(try clear a1);(try clear a2);(try clear dt);(try clear da);(try clear db);(try clear dc);(try clear bl);(try clear dx);(try clear dy);(try clear dd);(try clear de);(try clear df);(try clear bG);(try clear dD);(try clear dE);(try clear bH);(try clear dF);(try clear dG);(try clear bI);(try clear dH);(try clear dI);(try clear ea eb ec ed ee ef);(try clear ez eA eC eD eE eG);(try clear dY);(try clear eg eh ei ej ek el);(try clear eH eI eJ eK eL eM);obtain⟨kq,aj,ak,cq,rfl,rfl,rfl,HA,HJ11,x,m,a,HB⟩:=hcut
   cases kq with
   | zero=>exact absurd HA.out (by simp[impl_CondLines.j0])
   | succ kj11=>
    have H:=HA.out;clear HA;simp only[impl_CondLines.j0]at H;replace H:=bE H;obtain⟨⟨bJ,bL,bM,bN,bO,bP,bQ⟩,eS,H⟩:=H;(try dsimp only at H);replace H:=bE H;obtain⟨⟨bR,bS,bT,bU,bV,bW,bX⟩,eU,H⟩:=H;(try dsimp only at H);replace H:=bE H;obtain⟨⟨bY,bZ,b0,b1,b5,b8,b9⟩,eV,H⟩:=H;(try dsimp only at H);replace H:=bE H;obtain⟨⟨ca,cb,cc,cd,ce,cf,cg⟩,eW,H⟩:=H;(try dsimp only at H);replace H:=nE H;obtain⟨E,dJ,H⟩:=H;replace H:=gC H;obtain⟨dK,H⟩:=H;have eX:=aM dK;clear dK;replace H:=nE H;obtain⟨cT,eY,H⟩:=H;replace H:=gC H;obtain⟨dL,H⟩:=H;have eZ:=aM dL;clear dL;replace H:=nE H;obtain⟨ck,e0,H⟩:=H;replace H:=bE H;obtain⟨⟨cJ,cL,cM,cN,cO,cP,cQ⟩,e1,H⟩:=H;(try dsimp only at H);replace H:=gC H;obtain⟨dM,H⟩:=H;have e2:=aM dM;clear dM;obtain⟨f6,dN⟩ : ∃ y_:List (S86),Aside0 (y_=(ck ++ [(⟨cJ,(⟨cL,cM,cN,cO⟩ :S71),cP,cQ⟩ :S86)])):=⟨_,⟨rfl⟩⟩;rw[← dN.out]at H;obtain rfl:=Option.some.inj H
    try go_wp2
    replace x:=aM (R_drew x.out);replace m:=aM (R_drew m.out);replace a:=aM (blk_drew a.out);replace HB:=aM (below_drew1 HB.out)
    refine start_ (n:=20) (S:=fun w'=>w'.cell? ⟨c,0,none⟩=some (.int .i64 o)∧w'.cell? ⟨c,1,none⟩=some (.int .i64 q)∧w'.cell? ⟨c,2,none⟩=some (.int .i64 s)∧w'.cell? ⟨c,3,none⟩=some (.int .i64 i)∧w'.cell? ⟨c,4,none⟩=some (.int .i64 j)∧w'.cell? ⟨c,5,none⟩=some (.int .i64 l)) (ds:=[]) #[false,false,false,false,false,false,false,false,false,false,false,false,false,false,false,false,false,false,false,false] (by kernel_rfl) rfl rfl ⟨(blk_cell a.out 0).trans rfl,(blk_cell a.out 1).trans rfl,(blk_cell a.out 2).trans rfl,(blk_cell a.out 3).trans rfl,(blk_cell a.out 4).trans rfl,(blk_cell a.out 5).trans rfl⟩ (fun hHeld=>?_);refine with_tabW impl_CondLines.tab21 impl_CondLines.bits21 (fun HT_ HW_=>?_)
    generalize wc.drew=f7 at x m a HB hHeld ⊢;refine pureZ 0 (some 105) (msk 20 1) HT_.out ?_;refine pureZ 1 (some 106) (msk 20 3) HT_.out ?_;refine pureZ 2 (some 107) (msk 20 7) HT_.out ?_;refine pureZ 4 (some 109) (msk 20 23) HT_.out ?_;refine pureZ 5 (some 110) (msk 20 55) HT_.out ?_;refine pureZ 7 (some 112) (msk 20 183) HT_.out ?_;refine pureZ 9 (some 114) (msk 20 695) HT_.out ?_;refine pureZ 10 (some 115) (msk 20 1719) HT_.out ?_;refine pureZ 12 (some 117) (msk 20 5815) HT_.out ?_;refine pureZ 13 (some 118) (msk 20 14007) HT_.out ?_;refine pureZ 15 (some 120) (msk 20 46775) HT_.out ?_;refine takeZ 3 (some 108) (msk 20 46783) HT_.out HW_.out hHeld (hy:=q3x0) (h:=?_);refine takeZ 11 (some 116) (msk 20 48831) HT_.out HW_.out hHeld (hy:=q3x0) (h:=?_)
    refine one_Z 6 (some 111) (msk 20 48895) HT_.out fun K hK=>?_
    refine goE Tryz.func61 #[.int .i64 4,.int .i64 j,.string aj,.string (d ++ (⟨#[97]⟩ :ByteArray))] ?_
    with_reducible refine(impl_ask.calls 4 j aj (d ++ (⟨#[97]⟩ :ByteArray)) bJ bL bM bN bO bP bQ _ eS.out).mono ?_;rintro e f8 ⟨rfl,hb⟩;refine⟨_,rfl,?_⟩;replace x:=rB x hb;replace m:=rB m hb;replace a:=kB a hb;replace HB:=sB hb;(try clear hb)
    refine hK.out _ _ qh3x0 (fun hHeld=>?_)
    clear hK K;refine normZ (some 111) ?_
    refine one_Z 8 (some 113) (msk 20 49151) HT_.out fun K hK=>?_
    refine goE Tryz.func55 #[.string (d ++ (⟨#[97]⟩ :ByteArray))] ?_
    with_reducible refine(impl_place.calls (d ++ (⟨#[97]⟩ :ByteArray)) bR bS bT bU bV bW bX _ eU.out).mono ?_;rintro e f9 ⟨rfl,hb⟩;refine⟨_,rfl,?_⟩;replace x:=rB x hb;replace m:=rB m hb;replace a:=kB a hb;replace HB:=sB hb;(try clear hb)
    refine hK.out _ _ qh3x0 (fun hHeld=>?_)
    clear hK K;refine normZ (some 113) ?_
    refine one_Z 14 (some 119) (msk 20 65535) HT_.out fun K hK=>?_
    refine goE Tryz.func61 #[.int .i64 3,.int .i64 j,.string (d ++ (⟨#[98]⟩ :ByteArray)),.string ak] ?_
    with_reducible refine(impl_ask.calls 3 j (d ++ (⟨#[98]⟩ :ByteArray)) ak bY bZ b0 b1 b5 b8 b9 _ eV.out).mono ?_;rintro e ga ⟨rfl,hb⟩;refine⟨_,rfl,?_⟩;replace x:=rB x hb;replace m:=rB m hb;replace a:=kB a hb;replace HB:=sB hb;(try clear hb)
    refine hK.out _ _ qh3x0 (fun hHeld=>?_)
    clear hK K;refine normZ (some 119) ?_
    refine one_Z 16 (some 121) (msk 20 131071) HT_.out fun K hK=>?_
    refine goE Tryz.func55 #[.string (d ++ (⟨#[98]⟩ :ByteArray))] ?_
    with_reducible refine(impl_place.calls (d ++ (⟨#[98]⟩ :ByteArray)) ca cb cc cd ce cf cg _ eW.out).mono ?_;rintro e gb ⟨rfl,hb⟩;refine⟨_,rfl,?_⟩;replace x:=rB x hb;replace m:=rB m hb;replace a:=kB a hb;replace HB:=sB hb;(try clear hb)
    refine hK.out _ _ qh3x0 (fun hHeld=>?_)
    clear hK K;refine normZ (some 121) ?_
    refine one_Z 17 (some 122) (msk 20 262143) HT_.out fun K hK=>?_
    refine R_lit_step k86 _ 86 ?hg (N:=122) ?hd (xs:=([(⟨bJ,(⟨bL,bM,bN,bO⟩ :S71),bP,bQ⟩ :S86),(⟨bR,(⟨bS,bT,bU,bV⟩ :S71),bW,bX⟩ :S86),(⟨bY,(⟨bZ,b0,b1,b5⟩ :S71),b8,b9⟩ :S86),(⟨ca,(⟨cb,cc,cd,ce⟩ :S71),cf,cg⟩ :S86)] :List (S86))) (inner:=[.string bJ,.int .i64 bL,.int .i64 bM,.int .i64 bN,.int .i64 bO,.string bP,.string bQ,.string bR,.int .i64 bS,.int .i64 bT,.int .i64 bU,.int .i64 bV,.string bW,.string bX,.string bY,.int .i64 bZ,.int .i64 b0,.int .i64 b1,.int .i64 b5,.string b8,.string b9,.string ca,.int .i64 cb,.int .i64 cc,.int .i64 cd,.int .i64 ce,.string cf,.string cg]) (ok:=fun _=>True) (okp:=fun _=>True) ?hr ?hp (fun _ hk=>hk) trivial (Below.refl _ _) (Nat.le_refl _) (by simp) ?_;(case hd=>rfl);(case hg=>rfl);(case hr=>first|(go_simp;done)|(go_simp;rfl));(case hp=>exact(Reps.c7 (show Kd.M k86 _ _ _ (⟨bJ,(⟨bL,bM,bN,bO⟩ :S71),bP,bQ⟩ :S86) [.string bJ,.int .i64 bL,.int .i64 bM,.int .i64 bN,.int .i64 bO,.string bP,.string bQ]from (k86_mkM _ _ _ (⟨bJ,(⟨bL,bM,bN,bO⟩ :S71),bP,bQ⟩ :S86))) (Reps.c7 (show Kd.M k86 _ _ _ (⟨bR,(⟨bS,bT,bU,bV⟩ :S71),bW,bX⟩ :S86) [.string bR,.int .i64 bS,.int .i64 bT,.int .i64 bU,.int .i64 bV,.string bW,.string bX]from (k86_mkM _ _ _ (⟨bR,(⟨bS,bT,bU,bV⟩ :S71),bW,bX⟩ :S86))) (Reps.c7 (show Kd.M k86 _ _ _ (⟨bY,(⟨bZ,b0,b1,b5⟩ :S71),b8,b9⟩ :S86) [.string bY,.int .i64 bZ,.int .i64 b0,.int .i64 b1,.int .i64 b5,.string b8,.string b9]from (k86_mkM _ _ _ (⟨bY,(⟨bZ,b0,b1,b5⟩ :S71),b8,b9⟩ :S86))) (Reps.c7 (show Kd.M k86 _ _ _ (⟨ca,(⟨cb,cc,cd,ce⟩ :S71),cf,cg⟩ :S86) [.string ca,.int .i64 cb,.int .i64 cc,.int .i64 cd,.int .i64 ce,.string cf,.string cg]from (k86_mkM _ _ _ (⟨ca,(⟨cb,cc,cd,ce⟩ :S71),cf,cg⟩ :S86))) (Reps.none _ _))))))
    intro gc ge an hb hg_ hnew_;clear hg_ hnew_
    (first|rw[← dJ.out]at an|(simp only[Int.reduceToNat]at an;rw[← dJ.out]at an))
    have A:=aM (R_lower (R_new' (R_new' an (R_lt (mR x))) (R_lt (mR m))) (below_size cB));replace x:=eB x (R_base an) hb;replace m:=eB m (R_base an) hb;replace a:=kB a hb;replace HB:=sB hb;clear hb an;obtain⟨ch,ci,dO⟩:=R_slice A.out
    (first|subst dO|(injection dO with f1_ f2_ f3_;have f4_:=f1_.symm;have f5_:=f3_.symm;clear f1_ f2_ f3_;subst f4_;subst f5_))
    refine hK.out _ _ qh3x0 (fun hHeld=>?_)
    clear hK K;refine normZ (some 122) ?_
    refine one_Z 18 (some 123) (msk 20 524287) HT_.out fun K hK=>?_
    refine R_append_rows_step k86 (w0:=w) w.heap.size (by rfl) (.tmp 105) (.tmp 122) 47 86 (.agg #[(.string ⟨#[]⟩),(.int .i64 0),(.int .i64 0),(.int .i64 0),(.int .i64 0),(.string ⟨#[]⟩),(.string ⟨#[]⟩)]) 80 rfl Tryz.underlying47 info86 rfl (by decide) (by omega) co D E _ _ _ (fun k_=>some k_≠(J:Value).ownBlock∧some k_≠(.slice ch E.length ci:Value).ownBlock) (fun _=>False) rfl rfl ?aO ?aR (fun _ _ h=>h) (fun _ h=>h.elim) ?aF ?aB ?aS ?aL ?_
    (case aR=>exact cC ((R_reads' A.out).2.2))
    (case aB=>exact cB)
    (case aF=>exact(fun k_ hk=>⟨Kd.fresh' (R_lt (mR m)) k_ hk,Kd.fresh' (R_lt (mR A)) k_ hk⟩))
    (case aO=>exact(mR x))
    (case aS=>exact(below_size cB))
    (case aL=>have:=eX.out;omega)
    intro e3 e4 ho hb hg hat;rw[← eY.out]at ho
    replace m:=aM (R_after (ok:=(fun k_=>some k_≠(.slice ch E.length ci:Value).ownBlock)) (by(with_reducible repeat(first|apply R_alloc|apply R_drewN|apply R_drew));exact R_mono m.out (fun _ hk=>⟨hk.2,hk.1⟩)) hg hat)
    replace a:=aM (blk_grown (mK a) hg (R_ne x.out a.out (by decide)))
    replace A:=aM (R_after (ok:=(fun k_=>some k_≠(J:Value).ownBlock)) (by(with_reducible repeat(first|apply R_alloc|apply R_drewN|apply R_drew));exact R_mono A.out (fun _ hk=>⟨hk.2,hk.1.2⟩)) hg hat)
    replace HB:=aM (hb);have cj:=aM (ho);clear x ho hb hg hat
    refine hK.out _ _ qh3x0 (fun hHeld=>?_)
    clear hK K;refine normZ (some 123) ?_
    refine pureZ 19 (some 16) (msk 20 1048575) HT_.out ?_
    refine done_ (done_of HT_.out (by kernel_rfl)) ?_
    try go_wp2
    replace m:=aM (R_drew m.out);replace A:=aM (R_drew A.out);replace cj:=aM (R_drew cj.out);replace a:=aM (blk_drew a.out);replace HB:=aM (below_drew1 HB.out);obtain⟨c1,c6,dP⟩:=R_slice m.out
    (first|subst dP|(injection dP with f1_ f2_ f3_;have f4_:=f1_.symm;have f5_:=f3_.symm;clear f1_ f2_ f3_;subst f4_;subst f5_))
    refine start_ (n:=13) (S:=fun w'=>w'.cell? ⟨c,0,none⟩=some (.int .i64 o)∧w'.cell? ⟨c,1,none⟩=some (.int .i64 q)∧w'.cell? ⟨c,2,none⟩=some (.int .i64 s)∧w'.cell? ⟨c,3,none⟩=some (.int .i64 i)∧w'.cell? ⟨c,4,none⟩=some (.int .i64 j)∧w'.cell? ⟨c,5,none⟩=some (.int .i64 l)) (ds:=[]) #[false,false,false,false,false,false,false,false,false,false,false,false,false] (by kernel_rfl) rfl rfl ⟨(blk_cell a.out 0).trans rfl,(blk_cell a.out 1).trans rfl,(blk_cell a.out 2).trans rfl,(blk_cell a.out 3).trans rfl,(blk_cell a.out 4).trans rfl,(blk_cell a.out 5).trans rfl⟩ (fun hHeld=>?_);refine with_tabW impl_CondLines.tab22 impl_CondLines.bits22 (fun HT_ HW_=>?_)
    generalize e4.drew=gf at m A cj a HB hHeld ⊢;refine pureZ 0 (some 124) (msk 13 1) HT_.out ?_;refine pureZ 1 (some 125) (msk 13 3) HT_.out ?_;refine pureZ 3 (some 127) (msk 13 11) HT_.out ?_;refine pureZ 4 (some 128) (msk 13 27) HT_.out ?_;refine pureZ 5 (some 129) (msk 13 59) HT_.out ?_;refine pureZ 7 (some 131) (msk 13 187) HT_.out ?_;refine pureZ 8 (some 132) (msk 13 443) HT_.out ?_;refine takeZ 6 (some 130) (msk 13 507) HT_.out HW_.out hHeld (hy:=q3x0) (h:=?_)
    refine one_Z 2 (some 126) (msk 13 511) HT_.out fun K hK=>?_
    refine R_append_rows_step k86 (w0:=w) w.heap.size (by rfl) (.tmp 124) (.tmp 125) 47 86 (.agg #[(.string ⟨#[]⟩),(.int .i64 0),(.int .i64 0),(.int .i64 0),(.int .i64 0),(.string ⟨#[]⟩),(.string ⟨#[]⟩)]) 80 rfl Tryz.underlying47 info86 rfl (by decide) (by omega) e3 cT p _ _ _ (fun k_=>some k_≠(.slice c1 p.length c6:Value).ownBlock∧some k_≠(.slice ch E.length ci:Value).ownBlock) (fun _=>False) rfl rfl ?aO ?aR (fun _ _ h=>h) (fun _ h=>h.elim) ?aF ?aB ?aS ?aL ?_
    (case aR=>exact cC ((R_reads' m.out).2.2))
    (case aB=>exact cB)
    (case aF=>exact(fun k_ hk=>⟨Kd.fresh' (R_lt (mR m)) k_ hk,Kd.fresh' (R_lt (mR A)) k_ hk⟩))
    (case aO=>exact(mR cj))
    (case aS=>exact(below_size cB))
    (case aL=>have:=eZ.out;omega)
    intro e5 gg ho hb hg hat;rw[← e0.out]at ho
    replace m:=aM (R_after (ok:=(fun k_=>some k_≠(.slice ch E.length ci:Value).ownBlock)) (mR m) hg hat)
    replace a:=aM (blk_grown (mK a) hg (R_ne cj.out a.out (by decide)))
    replace A:=aM (R_after (ok:=(fun k_=>some k_≠(.slice c1 p.length c6:Value).ownBlock)) (mR A) hg hat)
    replace HB:=aM (hb);have cR:=aM (ho);clear cj ho hb hg hat
    refine hK.out _ _ qh3x0 (fun hHeld=>?_)
    clear hK K;refine normZ (some 126) ?_
    refine one_Z 9 (some 133) (msk 13 1023) HT_.out fun K hK=>?_
    refine goE Tryz.func61 #[.int .i64 cq,.int .i64 l,.string aj,.string ak] ?_
    with_reducible refine(impl_ask.calls cq l aj ak cJ cL cM cN cO cP cQ _ e1.out).mono ?_;rintro e gh ⟨rfl,hb⟩;refine⟨_,rfl,?_⟩;replace m:=rB m hb;replace A:=rB A hb;replace cR:=rB cR hb;replace a:=kB a hb;replace HB:=sB hb;(try clear hb)
    refine hK.out _ _ qh3x0 (fun hHeld=>?_)
    clear hK K;refine normZ (some 133) ?_
    refine one_Z 10 (some 134) (msk 13 2047) HT_.out fun K hK=>?_
    refine value_ (w1:=?_) (v:=?_) (by rfl) rfl ?_ ?_
    rotate_left 2
    ·go_simp;constructor
     ·rfl
     ·rfl
    refine hK.out _ _ qh3x1 (fun hHeld=>?_)
    clear hK K;refine normZ (some 134) ?_
    refine one_Z 11 (some 135) (msk 13 4095) HT_.out fun K hK=>?_
    refine R_append_step k86 (w0:=w) w.heap.size (by rfl) (.tmp 126) (.tmp 134) 47 86 (.agg #[(.string ⟨#[]⟩),(.int .i64 0),(.int .i64 0),(.int .i64 0),(.int .i64 0),(.string ⟨#[]⟩),(.string ⟨#[]⟩)]) 80 rfl Tryz.underlying47 info86 rfl (by decide) (by omega) e5 ck (⟨cJ,(⟨cL,cM,cN,cO⟩ :S71),cP,cQ⟩ :S86) [.string cJ,.int .i64 cL,.int .i64 cM,.int .i64 cN,.int .i64 cO,.string cP,.string cQ] (fun k_=>some k_≠(.slice c1 p.length c6:Value).ownBlock∧some k_≠(.slice ch E.length ci:Value).ownBlock) (fun _=>False) rfl rfl ?aP (fun _ hk=>hk.elim) ?aF ?aO ?aB ?aS ?aL ?_
    (case aP=>exact k86_mkM _ _ _ (⟨cJ,(⟨cL,cM,cN,cO⟩ :S71),cP,cQ⟩ :S86))
    (case aB=>exact cB)
    (case aF=>exact(fun k_ hk=>⟨Kd.fresh' (R_lt (mR m)) k_ hk,Kd.fresh' (R_lt (mR A)) k_ hk⟩))
    (case aO=>exact(mR cR))
    (case aS=>exact(below_size cB))
    (case aL=>have:=e2.out;omega)
    intro gi gj ho hb hg hat;rw[← dN.out]at ho
    replace m:=aM (R_after (ok:=(fun k_=>some k_≠(.slice ch E.length ci:Value).ownBlock)) (mR m) hg hat)
    replace a:=aM (blk_grown (mK a) hg (R_ne cR.out a.out (by decide)))
    replace A:=aM (R_after (ok:=(fun k_=>some k_≠(.slice c1 p.length c6:Value).ownBlock)) (mR A) hg hat)
    replace HB:=aM (hb);have e6:=aM (ho);clear cR ho hb hg hat
    refine hK.out _ _ qh3x0 (fun hHeld=>?_)
    clear hK K;refine normZ (some 135) ?_
    refine pureZ 12 (some 8) (msk 13 8191) HT_.out ?_
    refine done_ (done_of HT_.out (by kernel_rfl)) ?_
    try go_wp2
    go_ret
    exact⟨_,rE,by(with_reducible repeat(first|apply R_alloc|apply R_drewN|apply R_drew));exact R_mono e6.out (fun _ hk=>trivial),cB⟩
 ·replace cn:=Bool.eq_false_iff.mpr cn;subst cn;replace H:=iF H;obtain⟨gk,dg⟩ : ∃ y_:List (S86),Aside0 (y_=(([] :List (S86)))):=⟨_,⟨rfl⟩⟩;rw[← dg.out]at H;obtain rfl:=Option.some.inj H;go_enter Tryz.func95,Tryz.ntmps95
  go_wp2_with (first|((with_reducible refine gN 4 ?_);refine boxZ 4 #[.int .i64 o,.int .i64 q,.int .i64 s,.int .i64 i,.int .i64 j,.int .i64 l] 118 ?_;intro c hg gl hbox hb;have a:=aM (hbox);have GW117:=gS hg;have GE117:=gS hg;replace HB:=sB hb;clear hb hbox hg;obtain⟨gm,gn,go,gp,gq,gr,gs,gt,gu,gv,gw,gx⟩:=cz6 a)|((with_reducible refine gF 107 ?_);refine goZ (some 18) Tryz.func107 #[.agg #[.int .i64 o,.int .i64 q,.int .i64 s,.int .i64 i,.int .i64 j,.int .i64 l]] ?_;(with_reducible refine(impl_CondOk.calls o q s i j l false _ dp.out).mono ?_);rintro e gy ⟨rfl,hb⟩;refine⟨_,rfl,?_⟩;replace a:=kB a hb;replace HB:=sB hb;(try clear hb))|((with_reducible refine gN 20 ?_);refine R_lit k86 _ 86 ?hg (N:=20) ?hd (xs:=([] :List (S86))) (inner:=[]) (ok:=fun _=>True) (okp:=fun _=>True) ?hr ?hp (fun _ hk=>hk) trivial (Below.refl _ _) (Nat.le_refl _) (by simp) ?_;(case hd=>rfl);(case hg=>rfl);(case hr=>exact rG);(case hp=>exact(Reps.none _ _));intro gz gB cS hb hg_ hnew_;clear hg_ hnew_;(first|rw[← dg.out]at cS|(simp only[Int.reduceToNat]at cS;rw[← dg.out]at cS));have e7:=aM (R_lower cS (below_size cB));replace a:=kB a hb;replace HB:=sB hb;clear hb cS))
  go_ret;exact⟨_,rE,mR e7,cB⟩
end Go.Proofs.YtpbalojiaghfhaaGreat.PFnExactCompile
