import Derived.Test.YtpbalojiaghfhaaGreatPFnCompilesToldy0
import Derived.Test.YtpbalojiaghfhaaGreatPFnCompilesToldy3
namespace Go.Proofs.YtpbalojiaghfhaaGreat.PFnCompilesTold
open Go.RowKit Go.Proofs.YtpbalojiaghfhaaGreatW.PrintWords Go.Proofs.YtpbalojiaghfhaaGreatW.PrintLast Go.Proofs.YtpbalojiaghfhaaGreatW.PrintMore Go.Proofs.YtpbalojiaghfhaaGreatW.Z
open Kd
attribute [local go_sem] isS max2_int min2_int max_two min_two max_three min_three max_four min_four
set_option linter.unusedVariables false
set_option linter.unusedSimpArgs false
theorem qh4x0 {P:Prop} (h:P:=by exact⟨(blk_cell a.out 0).trans rfl,(blk_cell a.out 1).trans rfl,(blk_cell a.out 2).trans rfl,(blk_cell a.out 3).trans rfl,(blk_cell a.out 4).trans rfl,(blk_cell a.out 5).trans rfl⟩):P:=h
theorem qh4x1 {P:Prop} (h:P:=by exact⟨(blk_cell (blk_alloc a.out _) 0).trans rfl,(blk_cell (blk_alloc a.out _) 1).trans rfl,(blk_cell (blk_alloc a.out _) 2).trans rfl,(blk_cell (blk_alloc a.out _) 3).trans rfl,(blk_cell (blk_alloc a.out _) 4).trans rfl,(blk_cell (blk_alloc a.out _) 5).trans rfl⟩):P:=h
def impl_CondLines.j0:Nat→ByteArray→ByteArray→ByteArray→ByteArray→List (S86)→List (S86)→Int→Int→Int→Int→Int→Int→Int→Option ((List (S86)))
  | 0,_,_,_,_,_,_,_,_,_,_,_,_,_=>none
  | k+1,di,dj,dk,dl,dm,dn,dS,fe,ff,fg,fh,dp,dT=>(impl_ask.f 4 dp di dk).bind fun L=>((impl_place.f dk).bind fun O=>((impl_ask.f 3 dp dl dj).bind fun U=>((impl_place.f dl).bind fun W=>((some (([(⟨L.1,(⟨L.2.1,L.2.2.1,L.2.2.2.1,L.2.2.2.2.1⟩ :S71),L.2.2.2.2.2.1,L.2.2.2.2.2.2⟩ :S86),(⟨O.1,(⟨O.2.1,O.2.2.1,O.2.2.2.1,O.2.2.2.2.1⟩ :S71),O.2.2.2.2.2.1,O.2.2.2.2.2.2⟩ :S86),(⟨U.1,(⟨U.2.1,U.2.2.1,U.2.2.2.1,U.2.2.2.2.1⟩ :S71),U.2.2.2.2.2.1,U.2.2.2.2.2.2⟩ :S86),(⟨W.1,(⟨W.2.1,W.2.2.1,W.2.2.2.1,W.2.2.2.2.1⟩ :S71),W.2.2.2.2.2.1,W.2.2.2.2.2.2⟩ :S86)] :List (S86)):List (S86))).bind fun E=>(if dm.length+E.length<1759218604441 then((some (dm ++ E:List (S86))).bind fun cs=>(if cs.length+dn.length<1759218604441 then((some (cs ++ dn:List (S86))).bind fun aG=>((impl_ask.f dS dT di dj).bind fun X=>(if aG.length<1759218604441 then(some (aG ++ [(⟨X.1,(⟨X.2.1,X.2.2.1,X.2.2.2.1,X.2.2.2.2.1⟩ :S71),X.2.2.2.2.2.1,X.2.2.2.2.2.2⟩ :S86)]))else(none))))else(none)))else(none))))))
def impl_CondLines.f (k:Nat) (l:Int) (p:Int) (q:Int) (i:Int) (m:Int) (n:Int) (o:ByteArray) (z:ByteArray) (A:ByteArray):Option ((List (S86))):=(impl_CondOk.f l p q i m n).bind fun c1=>(if c1=true then(if o.size+1≤9223372036854775807 then((impl_word.f 1 (wrap64 (3+(wrap64 (2*l))))).bind fun Y=>((impl_word.f 2 p).bind fun aa=>((some (([(⟨Y.1,(⟨Y.2.1,Y.2.2.1,Y.2.2.2.1,Y.2.2.2.2.1⟩ :S71),Y.2.2.2.2.2.1,Y.2.2.2.2.2.2⟩ :S86),(⟨aa.1,(⟨aa.2.1,aa.2.2.1,aa.2.2.2.1,aa.2.2.2.2.1⟩ :S71),aa.2.2.2.2.2.1,aa.2.2.2.2.2.2⟩ :S86)] :List (S86)):List (S86))).bind fun D=>((impl_word.f 1 (wrap64 (2+(wrap64 (2*l))))).bind fun ab=>((impl_word.f 2 q).bind fun ac=>((some (([(⟨ab.1,(⟨ab.2.1,ab.2.2.1,ab.2.2.2.1,ab.2.2.2.2.1⟩ :S71),ab.2.2.2.2.2.1,ab.2.2.2.2.2.2⟩ :S86),(⟨ac.1,(⟨ac.2.1,ac.2.2.1,ac.2.2.2.1,ac.2.2.2.2.1⟩ :S71),ac.2.2.2.2.2.1,ac.2.2.2.2.2.2⟩ :S86)] :List (S86)):List (S86))).bind fun j=>(if i=1 then((impl_ask.f 3 m (o ++ (⟨#[97]⟩ :ByteArray)) A).bind fun ad=>((impl_place.f (o ++ (⟨#[97]⟩ :ByteArray))).bind fun ae=>((some (([(⟨ad.1,(⟨ad.2.1,ad.2.2.1,ad.2.2.2.1,ad.2.2.2.2.1⟩ :S71),ad.2.2.2.2.2.1,ad.2.2.2.2.2.2⟩ :S86),(⟨ae.1,(⟨ae.2.1,ae.2.2.1,ae.2.2.2.1,ae.2.2.2.2.1⟩ :S71),ae.2.2.2.2.2.1,ae.2.2.2.2.2.2⟩ :S86)] :List (S86)):List (S86))).bind fun G=>(if D.length+G.length<1759218604441 then((some (D ++ G:List (S86))).bind fun ct=>(if ct.length+j.length<1759218604441 then((some (ct ++ j:List (S86))).bind fun aH=>((impl_ask.f 3 n z A).bind fun af=>(if aH.length<1759218604441 then(some (aH ++ [(⟨af.1,(⟨af.2.1,af.2.2.1,af.2.2.2.1,af.2.2.2.2.1⟩ :S71),af.2.2.2.2.2.1,af.2.2.2.2.2.2⟩ :S86)]))else(none))))else(none)))else(none)))))else(if i=2 then((impl_ask.f 3 m (o ++ (⟨#[97]⟩ :ByteArray)) z).bind fun ag=>((impl_place.f (o ++ (⟨#[97]⟩ :ByteArray))).bind fun ah=>((some (([(⟨ag.1,(⟨ag.2.1,ag.2.2.1,ag.2.2.2.1,ag.2.2.2.2.1⟩ :S71),ag.2.2.2.2.2.1,ag.2.2.2.2.2.2⟩ :S86),(⟨ah.1,(⟨ah.2.1,ah.2.2.1,ah.2.2.2.1,ah.2.2.2.2.1⟩ :S71),ah.2.2.2.2.2.1,ah.2.2.2.2.2.2⟩ :S86)] :List (S86)):List (S86))).bind fun I=>(if D.length+I.length<1759218604441 then((some (D ++ I:List (S86))).bind fun cu=>(if cu.length+j.length<1759218604441 then((some (cu ++ j:List (S86))).bind fun aI=>((impl_ask.f 3 n A z).bind fun ai=>(if aI.length<1759218604441 then(some (aI ++ [(⟨ai.1,(⟨ai.2.1,ai.2.2.1,ai.2.2.2.1,ai.2.2.2.2.1⟩ :S71),ai.2.2.2.2.2.1,ai.2.2.2.2.2.2⟩ :S86)]))else(none))))else(none)))else(none)))))else(if i=4 then(impl_CondLines.j0 k A z (o ++ (⟨#[97]⟩ :ByteArray)) (o ++ (⟨#[98]⟩ :ByteArray)) D j 4 l p q i m n)else(if i=6 then(impl_CondLines.j0 k z A (o ++ (⟨#[97]⟩ :ByteArray)) (o ++ (⟨#[98]⟩ :ByteArray)) D j 5 l p q i m n)else(if i=3 then(impl_CondLines.j0 k A z (o ++ (⟨#[97]⟩ :ByteArray)) (o ++ (⟨#[98]⟩ :ByteArray)) D j 5 l p q i m n)else(impl_CondLines.j0 k z A (o ++ (⟨#[97]⟩ :ByteArray)) (o ++ (⟨#[98]⟩ :ByteArray)) D j 4 l p q i m n))))))))))))else(none))else(some (([] :List (S86)))))
def impl_CondLines.T4:Bool×List (List Nat×List Nat):=(true,[([],[]),([0],[0]),([1],[1]),([2],[2]),([3],[3]),([],[]),([5],[5]),([6],[6]),([7,4],[7]),([4,8],[4,8]),([9,8,0,1,2,3,4,5,6,7,8,9],[9])])
def impl_CondLines.B4:List Nat:=[0,1,3,7,15,0,32,96,255,511,1023]
theorem impl_CondLines.tab4:rtab .any (opsOf Tryz.f95 4)=impl_CondLines.T4:=by kernel_rfl
theorem impl_CondLines.bits4:waitsOk impl_CondLines.T4.2 impl_CondLines.B4=true:=by kernel_rfl
def impl_CondLines.T5:Bool×List (List Nat×List Nat):=(true,[([],[]),([0],[0]),([1],[1]),([2],[2]),([3],[3]),([],[]),([5],[5]),([6],[6]),([7,4],[7]),([4,8],[4,8]),([9,8,0,1,2,3,4,5,6,7,8,9],[9])])
def impl_CondLines.B5:List Nat:=[0,1,3,7,15,0,32,96,255,511,1023]
theorem impl_CondLines.tab5:rtab .any (opsOf Tryz.f95 5)=impl_CondLines.T5:=by kernel_rfl
theorem impl_CondLines.bits5:waitsOk impl_CondLines.T5.2 impl_CondLines.B5=true:=by kernel_rfl
def impl_CondLines.T10:Bool×List (List Nat×List Nat):=(true,[([],[]),([],[]),([0,1],[0,1]),([],[]),([3],[3]),([4],[4]),([],[]),([],[]),([5,6,7,2],[5,6,7]),([8],[8]),([2,9,8],[2,9]),([10,10,0,1,2,3,4,5,6,7,8,9,10],[10])])
def impl_CondLines.B10:List Nat:=[0,0,3,0,8,24,0,0,255,511,1023,2047]
theorem impl_CondLines.tab10:rtab .any (opsOf Tryz.f95 10)=impl_CondLines.T10:=by kernel_rfl
theorem impl_CondLines.bits10:waitsOk impl_CondLines.T10.2 impl_CondLines.B10=true:=by kernel_rfl
def impl_CondLines.T13:Bool×List (List Nat×List Nat):=(true,[([],[]),([],[]),([0,1],[0,1]),([],[]),([3],[3]),([4],[4]),([],[]),([],[]),([5,6,7,2],[5,6,7]),([8],[8]),([2,9,8],[2,9]),([10,10,0,1,2,3,4,5,6,7,8,9,10],[10])])
def impl_CondLines.B13:List Nat:=[0,0,3,0,8,24,0,0,255,511,1023,2047]
theorem impl_CondLines.tab13:rtab .any (opsOf Tryz.f95 13)=impl_CondLines.T13:=by kernel_rfl
theorem impl_CondLines.bits13:waitsOk impl_CondLines.T13.2 impl_CondLines.B13=true:=by kernel_rfl
def impl_CondLines.T21:Bool×List (List Nat×List Nat):=(true,[([],[]),([],[]),([1],[1]),([2],[2]),([],[]),([],[]),([3,4,5],[3,4,5]),([],[]),([7,6],[7]),([],[]),([9],[9]),([10],[10]),([],[]),([],[]),([11,12,13,8],[11,12,13]),([],[]),([15,14],[15]),([6,8,14,16],[6,8,14,16]),([0,17,16],[0,17]),([18,18,0,1,2,3,4,5,6,7,8,9,10,11,12,13,14,15,16,17,18],[18])])
def impl_CondLines.B21:List Nat:=[0,0,2,6,0,0,62,0,254,0,512,1536,0,0,16382,0,65534,131070,262143,524287]
theorem impl_CondLines.tab21:rtab .any (opsOf Tryz.f95 21)=impl_CondLines.T21:=by kernel_rfl
theorem impl_CondLines.bits21:waitsOk impl_CondLines.T21.2 impl_CondLines.B21=true:=by kernel_rfl
def impl_CondLines.T22:Bool×List (List Nat×List Nat):=(true,[([],[]),([],[]),([0,1],[0,1]),([],[]),([],[]),([4],[4]),([5],[5]),([],[]),([],[]),([3,6,7,8,2],[3,6,7,8]),([9],[9]),([2,10,9],[2,10]),([11,11,0,1,2,3,4,5,6,7,8,9,10,11],[11])])
def impl_CondLines.B22:List Nat:=[0,0,3,0,0,16,48,0,0,511,1023,2047,4095]
theorem impl_CondLines.tab22:rtab .any (opsOf Tryz.f95 22)=impl_CondLines.T22:=by kernel_rfl
theorem impl_CondLines.bits22:waitsOk impl_CondLines.T22.2 impl_CondLines.B22=true:=by kernel_rfl
theorem q4x0 {P:Prop} (h:P:=by
 rintro w' ⟨s0,s1,s2,s3,s4,s5⟩
 go_simp
 with_reducible rfl):P:=h
set_option maxHeartbeats 8000000 in
set_option maxRecDepth 100000 in
theorem impl_CondLines.calls {k:Nat}{l:Int}{p:Int}{q:Int}{i:Int}{m:Int}{n:Int}{o:ByteArray}{z:ByteArray}{A:ByteArray}{r:List (S86)}{w:World}(h:impl_CondLines.f k l p q i m n o z A=some r) :
 Calls Tryz.prog 95 #[.agg #[.int .i64 l,.int .i64 p,.int .i64 q,.int .i64 i,.int .i64 m,.int .i64 n],.string o,.string z,.string A] w fun e w'=> ∃ v0_:Value,e= .returned (v0_)∧Kd.R k86 86 w' w.heap.size (fun _=>True) v0_ r∧Below w.heap.size w w':=by
 have hu118:=Tryz.underlying118;have HB:=rW w
 unfold impl_CondLines.f at h;have H:=h
 clear h;replace H:=bE H;obtain⟨c1,dq,H⟩:=H;by_cases aJ:c1=true
 ·subst aJ;replace H:=iT H;replace H:=gC H;obtain⟨cv,H⟩:=H;have fi:=eq_true cv;have fj:decide (o.size+1≤9223372036854775807)=true:=decide_eq_true cv
  try have fk:(9223372036854775807<o.size+1)=False:=eq_false (Nat.not_lt.2 cv)
  replace H:=bE H;obtain⟨⟨aK,aN,aQ,aT,aU,aV,aW⟩,dU,H⟩:=H;(try dsimp only at H);replace H:=bE H;obtain⟨⟨aX,aY,aZ,a0,a1,a2,a3⟩,dV,H⟩:=H;(try dsimp only at H);replace H:=nE H;obtain⟨D,dr,H⟩:=H;replace H:=bE H;obtain⟨⟨a4,a5,a6,a7,a8,a9,ba⟩,dX,H⟩:=H;(try dsimp only at H);replace H:=bE H;obtain⟨⟨bb,bd,be,bf,bg,bh,bi⟩,dY,H⟩:=H;(try dsimp only at H);replace H:=nE H;obtain⟨j,ds,H⟩:=H;have HC12:=aM H;clear H;go_enter Tryz.func95,Tryz.ntmps95
  try go_wp2_with (first|((with_reducible refine gN 4 ?_);refine boxZ 4 #[.int .i64 l,.int .i64 p,.int .i64 q,.int .i64 i,.int .i64 m,.int .i64 n] 118 ?_;intro c hg fl hbox hb;have a:=aM hbox;have GW117:=gS hg;have GE117:=gS hg;replace HB:=sB hb;clear hb hbox hg;obtain⟨fm,fn,fo,fp,fq,fr,fs,ft,fu,fv,fw,fx⟩:=cz6 a)|((with_reducible refine gF 107 ?_);refine gX (some 18) Tryz.func107 (impl_CondOk.calls dq.out) ?_;intro dZ hb;replace a:=kB a hb;replace HB:=sB hb;(try clear hb)))
  replace a:=dB a;replace HB:=dW HB
  refine sZ 11 (fun w'=>w'.cell? ⟨c,0,none⟩=some (.int .i64 l)∧w'.cell? ⟨c,1,none⟩=some (.int .i64 p)∧w'.cell? ⟨c,2,none⟩=some (.int .i64 q)∧w'.cell? ⟨c,3,none⟩=some (.int .i64 i)∧w'.cell? ⟨c,4,none⟩=some (.int .i64 m)∧w'.cell? ⟨c,5,none⟩=some (.int .i64 n)) impl_CondLines.tab4 impl_CondLines.bits4 qh4x0 fun HT_ HW_ hHeld=>?_
  generalize dZ.drew=fy at a HB hHeld ⊢;refine pZ 0 25 1 ?_;refine pZ 5 30 33 ?_;refine pZ 6 31 97 ?_;refine tZ 1 26 99 (y:=q4x0) (h:=?_);refine pZ 2 27 103 ?_;refine pZ 3 28 111 ?_;refine tZ 7 32 239 (y:=q4x0) (h:=?_)
  refine oZ 4 29 255 fun K hK=>?_
  refine eX Tryz.func56 (impl_word.calls dU.out) ?_
  intro fz hb;replace a:=kB a hb;replace HB:=sB hb;(try clear hb)
  refine hK.out _ _ qh4x0 (fun hHeld=>?_)
  clear hK K;refine normZ (some 29) ?_
  refine oZ 8 33 511 fun K hK=>?_
  refine eX Tryz.func56 (impl_word.calls dV.out) ?_
  intro fA hb;replace a:=kB a hb;replace HB:=sB hb;(try clear hb)
  refine hK.out _ _ qh4x0 (fun hHeld=>?_)
  clear hK K;refine normZ (some 33) ?_
  refine oZ 9 34 1023 fun K hK=>?_
  refine R_lit_step k86 _ 86 ?hg (N:=34) ?hd (xs:=([(⟨aK,(⟨aN,aQ,aT,aU⟩ :S71),aV,aW⟩ :S86),(⟨aX,(⟨aY,aZ,a0,a1⟩ :S71),a2,a3⟩ :S86)] :List (S86))) (inner:=[.string aK,.int .i64 aN,.int .i64 aQ,.int .i64 aT,.int .i64 aU,.string aV,.string aW,.string aX,.int .i64 aY,.int .i64 aZ,.int .i64 a0,.int .i64 a1,.string a2,.string a3]) (ok:=fun _=>True) (okp:=fun _=>True) ?hr ?hp (fun _ hk=>hk) trivial (Below.refl _ _) (Nat.le_refl _) (by simp) ?_;(case hd=>rfl);(case hg=>rfl);(case hr=>first|(go_simp;done)|(go_simp;rfl));(case hp=>exact(Reps.c7 (show Kd.M k86 _ _ _ (⟨aK,(⟨aN,aQ,aT,aU⟩ :S71),aV,aW⟩ :S86) [.string aK,.int .i64 aN,.int .i64 aQ,.int .i64 aT,.int .i64 aU,.string aV,.string aW]from (k86_mkM _ _ _ (⟨aK,(⟨aN,aQ,aT,aU⟩ :S71),aV,aW⟩ :S86))) (Reps.c7 (show Kd.M k86 _ _ _ (⟨aX,(⟨aY,aZ,a0,a1⟩ :S71),a2,a3⟩ :S86) [.string aX,.int .i64 aY,.int .i64 aZ,.int .i64 a0,.int .i64 a1,.string a2,.string a3]from (k86_mkM _ _ _ (⟨aX,(⟨aY,aZ,a0,a1⟩ :S71),a2,a3⟩ :S86))) (Reps.none _ _))))
  intro bj d0 bk hb hg_ hnew_;clear hg_ hnew_
  (first|rw[← dr.out]at bk|(simp only[Int.reduceToNat]at bk;rw[← dr.out]at bk))
  have d:=rL bk;replace a:=kB a hb;replace HB:=sB hb;clear hb bk
  refine hK.out _ _ qh4x0 (fun hHeld=>?_)
  clear hK K;refine normZ (some 34) ?_
  refine pZ 10 11 2047 ?_
  refine done_ (done_of HT_.out (by kernel_rfl)) ?_
  try go_wp2
  replace d:=dR d;replace a:=dB a;replace HB:=dW HB
  refine sZ 11 (fun w'=>w'.cell? ⟨c,0,none⟩=some (.int .i64 l)∧w'.cell? ⟨c,1,none⟩=some (.int .i64 p)∧w'.cell? ⟨c,2,none⟩=some (.int .i64 q)∧w'.cell? ⟨c,3,none⟩=some (.int .i64 i)∧w'.cell? ⟨c,4,none⟩=some (.int .i64 m)∧w'.cell? ⟨c,5,none⟩=some (.int .i64 n)) impl_CondLines.tab5 impl_CondLines.bits5 qh4x0 fun HT_ HW_ hHeld=>?_
  generalize d0.drew=fB at d a HB hHeld ⊢;refine pZ 0 35 1 ?_;refine pZ 5 40 33 ?_;refine pZ 6 41 97 ?_;refine tZ 1 36 99 (y:=q4x0) (h:=?_);refine pZ 2 37 103 ?_;refine pZ 3 38 111 ?_;refine tZ 7 42 239 (y:=q4x0) (h:=?_)
  refine oZ 4 39 255 fun K hK=>?_
  refine eX Tryz.func56 (impl_word.calls dX.out) ?_
  intro fC hb;replace d:=rB d hb;replace a:=kB a hb;replace HB:=sB hb;(try clear hb)
  refine hK.out _ _ qh4x0 (fun hHeld=>?_)
  clear hK K;refine normZ (some 39) ?_
  refine oZ 8 43 511 fun K hK=>?_
  refine eX Tryz.func56 (impl_word.calls dY.out) ?_
  intro fD hb;replace d:=rB d hb;replace a:=kB a hb;replace HB:=sB hb;(try clear hb)
  refine hK.out _ _ qh4x0 (fun hHeld=>?_)
  clear hK K;refine normZ (some 43) ?_
  refine oZ 9 44 1023 fun K hK=>?_
  refine R_lit_step k86 _ 86 ?hg (N:=44) ?hd (xs:=([(⟨a4,(⟨a5,a6,a7,a8⟩ :S71),a9,ba⟩ :S86),(⟨bb,(⟨bd,be,bf,bg⟩ :S71),bh,bi⟩ :S86)] :List (S86))) (inner:=[.string a4,.int .i64 a5,.int .i64 a6,.int .i64 a7,.int .i64 a8,.string a9,.string ba,.string bb,.int .i64 bd,.int .i64 be,.int .i64 bf,.int .i64 bg,.string bh,.string bi]) (ok:=fun _=>True) (okp:=fun _=>True) ?hr ?hp (fun _ hk=>hk) trivial (Below.refl _ _) (Nat.le_refl _) (by simp) ?_;(case hd=>rfl);(case hg=>rfl);(case hr=>first|(go_simp;done)|(go_simp;rfl));(case hp=>exact(Reps.c7 (show Kd.M k86 _ _ _ (⟨a4,(⟨a5,a6,a7,a8⟩ :S71),a9,ba⟩ :S86) [.string a4,.int .i64 a5,.int .i64 a6,.int .i64 a7,.int .i64 a8,.string a9,.string ba]from (k86_mkM _ _ _ (⟨a4,(⟨a5,a6,a7,a8⟩ :S71),a9,ba⟩ :S86))) (Reps.c7 (show Kd.M k86 _ _ _ (⟨bb,(⟨bd,be,bf,bg⟩ :S71),bh,bi⟩ :S86) [.string bb,.int .i64 bd,.int .i64 be,.int .i64 bf,.int .i64 bg,.string bh,.string bi]from (k86_mkM _ _ _ (⟨bb,(⟨bd,be,bf,bg⟩ :S71),bh,bi⟩ :S86))) (Reps.none _ _))))
  intro J fE am hb hg_ hnew_;clear hg_ hnew_
  (first|rw[← ds.out]at am|(simp only[Int.reduceToNat]at am;rw[← ds.out]at am))
  have b:=aM (R_lower (R_new' am (R_lt (mR d))) (below_size cB));replace d:=eB d (R_base am) hb;replace a:=kB a hb;replace HB:=sB hb;clear hb am
  refine hK.out _ _ qh4x0 (fun hHeld=>?_)
  clear hK K;refine normZ (some 44) ?_
  refine pZ 10 12 2047 ?_
  refine done_ (done_of HT_.out (by kernel_rfl)) ?_
  obtain⟨fF,fG,fH,fI,fJ,fK,fL,fM,fN,fO,fP,d1⟩:=cz6 a
  go_upto_block 0 with(fail)
  go_cut [2,3,13] (fun d2 d3 d4 wc=> ∃ (kq:Nat) (c6:ByteArray) (c7:ByteArray) (da:Int),d2= .string c6∧d3= .string c7∧d4= .int .i64 da∧Aside0 (impl_CondLines.j0 kq c6 c7 (o ++ (⟨#[97]⟩ :ByteArray)) (o ++ (⟨#[98]⟩ :ByteArray)) D j da l p q i m n=some r)∧Aside0 (kq≤k)∧Aside0 (Kd.R k86 86 wc w.heap.size (fun k_=>some k_≠(J:Value).ownBlock) bj D)∧Aside0 (Kd.R k86 86 wc w.heap.size (fun k_=>some k_≠(bj:Value).ownBlock) J j)∧Aside0 (wc.heap[c]?=some (.cells #[.int .i64 l,.int .i64 p,.int .i64 q,.int .i64 i,.int .i64 m,.int .i64 n] 118 (0,0)))∧Aside0 (Below w.heap.size w wc))
  case first=>
   have H:=HC12.out;clear HC12;by_cases an:i=1
   ·rw[if_pos an]at H;obtain⟨ao,dt⟩:=eT an;clear an
    (first|rw[ao]|(simp only[i64_w,i32_w];rw[ao])|skip)
    replace H:=bE H;obtain⟨⟨bl,bm,bn,bo,bp,bq,br⟩,d5,H⟩:=H;(try dsimp only at H);replace H:=bE H;obtain⟨⟨bs,bu,bv,bw,bx,bz,bA⟩,d6,H⟩:=H;(try dsimp only at H);replace H:=nE H;obtain⟨G,du,H⟩:=H;replace H:=gC H;obtain⟨db,H⟩:=H;have d7:=aM db;clear db;replace H:=nE H;obtain⟨ct,d8,H⟩:=H;replace H:=gC H;obtain⟨dc,H⟩:=H;have d9:=aM dc;clear dc;replace H:=nE H;obtain⟨aH,ea,H⟩:=H;replace H:=bE H;obtain⟨⟨cw,cx,cy,cz,cA,cD,cE⟩,eb,H⟩:=H;(try dsimp only at H);replace H:=gC H;obtain⟨dd,H⟩:=H;have ec:=aM dd;clear dd;obtain⟨fS,dv⟩ : ∃ y_:List (S86),Aside0 (y_=(aH ++ [(⟨cw,(⟨cx,cy,cz,cA⟩ :S71),cD,cE⟩ :S86)])):=⟨_,⟨rfl⟩⟩;rw[← dv.out]at H;obtain rfl:=Option.some.inj H;obtain⟨ed,ee,ef,eg,eh,ei,ej,ek,el,em,en,eo⟩:=cz6 a
    try go_wp2_with (first|((with_reducible refine gF 61 ?_);refine gX (some 55) Tryz.func61 (impl_ask.calls d5.out) ?_;intro fT hb;replace d:=rB d hb;replace b:=rB b hb;replace a:=kB a hb;replace HB:=sB hb;(try clear hb))|((with_reducible refine gF 55 ?_);refine gX (some 57) Tryz.func55 (impl_place.calls d6.out) ?_;intro fU hb;replace d:=rB d hb;replace b:=rB b hb;replace a:=kB a hb;replace HB:=sB hb;(try clear hb))|((with_reducible refine gN 58 ?_);refine R_lit k86 _ 86 ?hg (N:=58) ?hd (xs:=([(⟨bl,(⟨bm,bn,bo,bp⟩ :S71),bq,br⟩ :S86),(⟨bs,(⟨bu,bv,bw,bx⟩ :S71),bz,bA⟩ :S86)] :List (S86))) (inner:=[.string bl,.int .i64 bm,.int .i64 bn,.int .i64 bo,.int .i64 bp,.string bq,.string br,.string bs,.int .i64 bu,.int .i64 bv,.int .i64 bw,.int .i64 bx,.string bz,.string bA]) (ok:=fun _=>True) (okp:=fun _=>True) ?hr ?hp (fun _ hk=>hk) trivial (Below.refl _ _) (Nat.le_refl _) (by simp) ?_;(case hd=>rfl);(case hg=>rfl);(case hr=>exact rG);(case hp=>exact(Reps.c7 (show Kd.M k86 _ _ _ (⟨bl,(⟨bm,bn,bo,bp⟩ :S71),bq,br⟩ :S86) [.string bl,.int .i64 bm,.int .i64 bn,.int .i64 bo,.int .i64 bp,.string bq,.string br]from (k86_mkM _ _ _ (⟨bl,(⟨bm,bn,bo,bp⟩ :S71),bq,br⟩ :S86))) (Reps.c7 (show Kd.M k86 _ _ _ (⟨bs,(⟨bu,bv,bw,bx⟩ :S71),bz,bA⟩ :S86) [.string bs,.int .i64 bu,.int .i64 bv,.int .i64 bw,.int .i64 bx,.string bz,.string bA]from (k86_mkM _ _ _ (⟨bs,(⟨bu,bv,bw,bx⟩ :S71),bz,bA⟩ :S86))) (Reps.none _ _))));intro fV fW aj hb hg_ hnew_;clear hg_ hnew_;(first|rw[← du.out]at aj|(simp only[Int.reduceToNat]at aj;rw[← du.out]at aj));have t:=aM (R_lower (R_new' (R_new' aj (R_lt (mR d))) (R_lt (mR b))) (below_size cB));replace d:=eB d (R_base aj) hb;replace b:=eB b (R_base aj) hb;replace a:=kB a hb;replace HB:=sB hb;clear hb aj;obtain⟨ap,aq,ep⟩:=R_slice t.out;subst ep)|((with_reducible refine gA 49 58 ?_);at_builtin;refine R_append_rows k86 (w0:=w) w.heap.size rfl (.tmp 49) (.tmp 58) 47 86 (.agg #[(.string ⟨#[]⟩),(.int .i64 0),(.int .i64 0),(.int .i64 0),(.int .i64 0),(.string ⟨#[]⟩),(.string ⟨#[]⟩)]) 80 rfl Tryz.underlying47 info86 rfl (by decide) (by omega) bj D G _ _ _ (fun k_=>some k_≠(J:Value).ownBlock∧some k_≠(.slice ap G.length aq:Value).ownBlock) (fun _=>False) rfl rfl ?aO ?aR (fun _ _ h=>h) (fun _ h=>h.elim) ?aF ?aB ?aS ?aL ?_;(case aR=>exact rX t);(case aB=>exact cB);(case aF=>exact(fun k_ hk=>⟨Kd.fresh' (R_lt (mR b)) k_ hk,Kd.fresh' (R_lt (mR t)) k_ hk⟩));(case aO=>exact(by exact rM d (fun _ hk=>⟨hk.1.2,hk.2⟩)));(case aS=>exact(below_size cB));(case aL=>have:=d7.out;omega);intro eq er ho hb hg hat;rw[← d8.out]at ho;replace a:=kN a hg d a;replace b:=aM (R_after (ok:=(fun k_=>some k_≠(.slice ap G.length aq:Value).ownBlock)) (by exact rM b (fun _ hk=>⟨hk.2,hk.1.2⟩)) hg hat);replace t:=aM (R_after (ok:=(fun k_=>some k_≠(J:Value).ownBlock)) (by exact rM t (fun _ hk=>⟨hk.2,hk.1.2⟩)) hg hat);replace HB:=aM hb;have ar:=aM ho;clear d ho hb hg hat))
    replace b:=dR b;replace t:=dR t;replace ar:=dR ar;replace a:=dB a;replace HB:=dW HB;obtain⟨cF,cG,dw⟩:=R_slice b.out
    (first|subst dw|(injection dw with f1_ f2_ f3_;have f4_:=f1_.symm;have f5_:=f3_.symm;clear f1_ f2_ f3_;subst f4_;subst f5_))
    refine sZ 12 (fun w'=>w'.cell? ⟨c,0,none⟩=some (.int .i64 l)∧w'.cell? ⟨c,1,none⟩=some (.int .i64 p)∧w'.cell? ⟨c,2,none⟩=some (.int .i64 q)∧w'.cell? ⟨c,3,none⟩=some (.int .i64 i)∧w'.cell? ⟨c,4,none⟩=some (.int .i64 m)∧w'.cell? ⟨c,5,none⟩=some (.int .i64 n)) impl_CondLines.tab10 impl_CondLines.bits10 qh4x0 fun HT_ HW_ hHeld=>?_
    generalize er.drew=fX at b t ar a HB hHeld ⊢;refine pZ 0 60 1 ?_;refine pZ 1 61 3 ?_;refine pZ 3 63 11 ?_;refine pZ 4 64 27 ?_;refine pZ 6 66 91 ?_;refine pZ 7 67 219 ?_;refine tZ 5 65 251 (y:=q4x0) (h:=?_)
    refine oZ 2 62 255 fun K hK=>?_
    refine R_append_rows_step k86 (w0:=w) w.heap.size (by rfl) (.tmp 60) (.tmp 61) 47 86 (.agg #[(.string ⟨#[]⟩),(.int .i64 0),(.int .i64 0),(.int .i64 0),(.int .i64 0),(.string ⟨#[]⟩),(.string ⟨#[]⟩)]) 80 rfl Tryz.underlying47 info86 rfl (by decide) (by omega) eq ct j _ _ _ (fun k_=>some k_≠(.slice cF j.length cG:Value).ownBlock∧some k_≠(.slice ap G.length aq:Value).ownBlock) (fun _=>False) rfl rfl ?aO ?aR (fun _ _ h=>h) (fun _ h=>h.elim) ?aF ?aB ?aS ?aL ?_
    (case aR=>exact rX b)
    (case aB=>exact cB)
    (case aF=>exact(fun k_ hk=>⟨Kd.fresh' (R_lt (mR b)) k_ hk,Kd.fresh' (R_lt (mR t)) k_ hk⟩))
    (case aO=>exact(mR ar))
    (case aS=>exact(below_size cB))
    (case aL=>have:=d9.out;omega)
    intro es fY ho hb hg hat;rw[← ea.out]at ho
    replace a:=kN a hg ar a
    replace b:=aM (R_after (ok:=(fun k_=>some k_≠(.slice ap G.length aq:Value).ownBlock)) (mR b) hg hat)
    replace t:=aM (R_after (ok:=(fun k_=>some k_≠(.slice cF j.length cG:Value).ownBlock)) (mR t) hg hat)
    replace HB:=aM hb;have bB:=aM ho;clear ar ho hb hg hat
    refine hK.out _ _ qh4x0 (fun hHeld=>?_)
    clear hK K;refine normZ (some 62) ?_
    refine oZ 8 68 511 fun K hK=>?_
    refine eX Tryz.func61 (impl_ask.calls eb.out) ?_
    intro fZ hb;replace b:=rB b hb;replace t:=rB t hb;replace bB:=rB bB hb;replace a:=kB a hb;replace HB:=sB hb;(try clear hb)
    refine hK.out _ _ qh4x0 (fun hHeld=>?_)
    clear hK K;refine normZ (some 68) ?_
    refine oZ 9 69 1023 fun K hK=>?_
    refine value_ (w1:=?_) (v:=?_) (by rfl) rfl ?_ ?_
    rotate_left 2
    ·go_simp;constructor
     ·rfl
     ·rfl
    refine hK.out _ _ qh4x1 (fun hHeld=>?_)
    clear hK K;refine normZ (some 69) ?_
    refine oZ 10 70 2047 fun K hK=>?_
    refine R_append_step k86 (w0:=w) w.heap.size (by rfl) (.tmp 62) (.tmp 69) 47 86 (.agg #[(.string ⟨#[]⟩),(.int .i64 0),(.int .i64 0),(.int .i64 0),(.int .i64 0),(.string ⟨#[]⟩),(.string ⟨#[]⟩)]) 80 rfl Tryz.underlying47 info86 rfl (by decide) (by omega) es aH (⟨cw,(⟨cx,cy,cz,cA⟩ :S71),cD,cE⟩ :S86) [.string cw,.int .i64 cx,.int .i64 cy,.int .i64 cz,.int .i64 cA,.string cD,.string cE] (fun k_=>some k_≠(.slice cF j.length cG:Value).ownBlock∧some k_≠(.slice ap G.length aq:Value).ownBlock) (fun _=>False) rfl rfl ?aP (fun _ hk=>hk.elim) ?aF ?aO ?aB ?aS ?aL ?_
    (case aP=>exact k86_mkM _ _ _ (⟨cw,(⟨cx,cy,cz,cA⟩ :S71),cD,cE⟩ :S86))
    (case aB=>exact cB)
    (case aF=>exact(fun k_ hk=>⟨Kd.fresh' (R_lt (mR b)) k_ hk,Kd.fresh' (R_lt (mR t)) k_ hk⟩))
    (case aO=>exact(mR bB))
    (case aS=>exact(below_size cB))
    (case aL=>have:=ec.out;omega)
    intro f0 f1 ho hb hg hat;rw[← dv.out]at ho
    replace a:=kN a hg bB a
    replace b:=aM (R_after (ok:=(fun k_=>some k_≠(.slice ap G.length aq:Value).ownBlock)) (mR b) hg hat)
    replace t:=aM (R_after (ok:=(fun k_=>some k_≠(.slice cF j.length cG:Value).ownBlock)) (mR t) hg hat)
    replace HB:=aM hb;have et:=aM ho;clear bB ho hb hg hat
    refine hK.out _ _ qh4x0 (fun hHeld=>?_)
    clear hK K;refine normZ (some 70) ?_
    refine pZ 11 8 4095 ?_
    refine done_ (done_of HT_.out (by kernel_rfl)) ?_
    try go_wp2
    go_ret
    exact⟨_,rE,by(with_reducible repeat(first|apply R_alloc|apply R_drewN|apply R_drew));exact R_mono et.out (fun _ hk=>trivial),cB⟩
   ·rw[if_neg an]at H;obtain⟨ao,dt⟩:=eF an
    (first|rw[ao]|(simp only[i64_w,i32_w];rw[ao])|skip)
    by_cases au:i=2
    ·rw[if_pos au]at H;obtain⟨dx,dy⟩:=eT au;clear au;replace H:=bE H;obtain⟨⟨bC,bD,bF,bG,bH,bI,bJ⟩,eu,H⟩:=H;(try dsimp only at H);replace H:=bE H;obtain⟨⟨bL,bM,bN,bO,bP,bQ,bR⟩,ev,H⟩:=H;(try dsimp only at H);replace H:=nE H;obtain⟨I,dz,H⟩:=H;replace H:=gC H;obtain⟨de,H⟩:=H;have ew:=aM de;clear de;replace H:=nE H;obtain⟨cu,ex,H⟩:=H;replace H:=gC H;obtain⟨df,H⟩:=H;have ey:=aM df;clear df;replace H:=nE H;obtain⟨aI,ez,H⟩:=H;replace H:=bE H;obtain⟨⟨cI,cJ,cL,cM,cN,cO,cP⟩,eA,H⟩:=H;(try dsimp only at H);replace H:=gC H;obtain⟨dg,H⟩:=H;have eC:=aM dg;clear dg;obtain⟨f2,dC⟩ : ∃ y_:List (S86),Aside0 (y_=(aI ++ [(⟨cI,(⟨cJ,cL,cM,cN⟩ :S71),cO,cP⟩ :S86)])):=⟨_,⟨rfl⟩⟩;rw[← dC.out]at H;obtain rfl:=Option.some.inj H;obtain⟨eD,eE,eG,eH,eI,eJ,eK,eL,eM,eN,eO,eP⟩:=cz6 a
     try go_wp2_with (first|((with_reducible refine gF 61 ?_);refine gX (some 79) Tryz.func61 (impl_ask.calls eu.out) ?_;intro f3 hb;replace d:=rB d hb;replace b:=rB b hb;replace a:=kB a hb;replace HB:=sB hb;(try clear hb))|((with_reducible refine gF 55 ?_);refine gX (some 81) Tryz.func55 (impl_place.calls ev.out) ?_;intro f4 hb;replace d:=rB d hb;replace b:=rB b hb;replace a:=kB a hb;replace HB:=sB hb;(try clear hb))|((with_reducible refine gN 82 ?_);refine R_lit k86 _ 86 ?hg (N:=82) ?hd (xs:=([(⟨bC,(⟨bD,bF,bG,bH⟩ :S71),bI,bJ⟩ :S86),(⟨bL,(⟨bM,bN,bO,bP⟩ :S71),bQ,bR⟩ :S86)] :List (S86))) (inner:=[.string bC,.int .i64 bD,.int .i64 bF,.int .i64 bG,.int .i64 bH,.string bI,.string bJ,.string bL,.int .i64 bM,.int .i64 bN,.int .i64 bO,.int .i64 bP,.string bQ,.string bR]) (ok:=fun _=>True) (okp:=fun _=>True) ?hr ?hp (fun _ hk=>hk) trivial (Below.refl _ _) (Nat.le_refl _) (by simp) ?_;(case hd=>rfl);(case hg=>rfl);(case hr=>exact rG);(case hp=>exact(Reps.c7 (show Kd.M k86 _ _ _ (⟨bC,(⟨bD,bF,bG,bH⟩ :S71),bI,bJ⟩ :S86) [.string bC,.int .i64 bD,.int .i64 bF,.int .i64 bG,.int .i64 bH,.string bI,.string bJ]from (k86_mkM _ _ _ (⟨bC,(⟨bD,bF,bG,bH⟩ :S71),bI,bJ⟩ :S86))) (Reps.c7 (show Kd.M k86 _ _ _ (⟨bL,(⟨bM,bN,bO,bP⟩ :S71),bQ,bR⟩ :S86) [.string bL,.int .i64 bM,.int .i64 bN,.int .i64 bO,.int .i64 bP,.string bQ,.string bR]from (k86_mkM _ _ _ (⟨bL,(⟨bM,bN,bO,bP⟩ :S71),bQ,bR⟩ :S86))) (Reps.none _ _))));intro f5 f6 ak hb hg_ hnew_;clear hg_ hnew_;(first|rw[← dz.out]at ak|(simp only[Int.reduceToNat]at ak;rw[← dz.out]at ak));have u:=aM (R_lower (R_new' (R_new' ak (R_lt (mR d))) (R_lt (mR b))) (below_size cB));replace d:=eB d (R_base ak) hb;replace b:=eB b (R_base ak) hb;replace a:=kB a hb;replace HB:=sB hb;clear hb ak;obtain⟨av,aw,eQ⟩:=R_slice u.out;subst eQ)|((with_reducible refine gA 73 82 ?_);at_builtin;refine R_append_rows k86 (w0:=w) w.heap.size rfl (.tmp 73) (.tmp 82) 47 86 (.agg #[(.string ⟨#[]⟩),(.int .i64 0),(.int .i64 0),(.int .i64 0),(.int .i64 0),(.string ⟨#[]⟩),(.string ⟨#[]⟩)]) 80 rfl Tryz.underlying47 info86 rfl (by decide) (by omega) bj D I _ _ _ (fun k_=>some k_≠(J:Value).ownBlock∧some k_≠(.slice av I.length aw:Value).ownBlock) (fun _=>False) rfl rfl ?aO ?aR (fun _ _ h=>h) (fun _ h=>h.elim) ?aF ?aB ?aS ?aL ?_;(case aR=>exact rX u);(case aB=>exact cB);(case aF=>exact(fun k_ hk=>⟨Kd.fresh' (R_lt (mR b)) k_ hk,Kd.fresh' (R_lt (mR u)) k_ hk⟩));(case aO=>exact(by exact rM d (fun _ hk=>⟨hk.1.2,hk.2⟩)));(case aS=>exact(below_size cB));(case aL=>have:=ew.out;omega);intro eR eS ho hb hg hat;rw[← ex.out]at ho;replace a:=kN a hg d a;replace b:=aM (R_after (ok:=(fun k_=>some k_≠(.slice av I.length aw:Value).ownBlock)) (by exact rM b (fun _ hk=>⟨hk.2,hk.1.2⟩)) hg hat);replace u:=aM (R_after (ok:=(fun k_=>some k_≠(J:Value).ownBlock)) (by exact rM u (fun _ hk=>⟨hk.2,hk.1.2⟩)) hg hat);replace HB:=aM hb;have ax:=aM ho;clear d ho hb hg hat))
     replace b:=dR b;replace u:=dR u;replace ax:=dR ax;replace a:=dB a;replace HB:=dW HB;obtain⟨cQ,cR,dD⟩:=R_slice b.out
     (first|subst dD|(injection dD with f1_ f2_ f3_;have f4_:=f1_.symm;have f5_:=f3_.symm;clear f1_ f2_ f3_;subst f4_;subst f5_))
     refine sZ 12 (fun w'=>w'.cell? ⟨c,0,none⟩=some (.int .i64 l)∧w'.cell? ⟨c,1,none⟩=some (.int .i64 p)∧w'.cell? ⟨c,2,none⟩=some (.int .i64 q)∧w'.cell? ⟨c,3,none⟩=some (.int .i64 i)∧w'.cell? ⟨c,4,none⟩=some (.int .i64 m)∧w'.cell? ⟨c,5,none⟩=some (.int .i64 n)) impl_CondLines.tab13 impl_CondLines.bits13 qh4x0 fun HT_ HW_ hHeld=>?_
     generalize eS.drew=f7 at b u ax a HB hHeld ⊢;refine pZ 0 84 1 ?_;refine pZ 1 85 3 ?_;refine pZ 3 87 11 ?_;refine pZ 4 88 27 ?_;refine pZ 6 90 91 ?_;refine pZ 7 91 219 ?_;refine tZ 5 89 251 (y:=q4x0) (h:=?_)
     refine oZ 2 86 255 fun K hK=>?_
     refine R_append_rows_step k86 (w0:=w) w.heap.size (by rfl) (.tmp 84) (.tmp 85) 47 86 (.agg #[(.string ⟨#[]⟩),(.int .i64 0),(.int .i64 0),(.int .i64 0),(.int .i64 0),(.string ⟨#[]⟩),(.string ⟨#[]⟩)]) 80 rfl Tryz.underlying47 info86 rfl (by decide) (by omega) eR cu j _ _ _ (fun k_=>some k_≠(.slice cQ j.length cR:Value).ownBlock∧some k_≠(.slice av I.length aw:Value).ownBlock) (fun _=>False) rfl rfl ?aO ?aR (fun _ _ h=>h) (fun _ h=>h.elim) ?aF ?aB ?aS ?aL ?_
     (case aR=>exact rX b)
     (case aB=>exact cB)
     (case aF=>exact(fun k_ hk=>⟨Kd.fresh' (R_lt (mR b)) k_ hk,Kd.fresh' (R_lt (mR u)) k_ hk⟩))
     (case aO=>exact(mR ax))
     (case aS=>exact(below_size cB))
     (case aL=>have:=ey.out;omega)
     intro eU f8 ho hb hg hat;rw[← ez.out]at ho
     replace a:=kN a hg ax a
     replace b:=aM (R_after (ok:=(fun k_=>some k_≠(.slice av I.length aw:Value).ownBlock)) (mR b) hg hat)
     replace u:=aM (R_after (ok:=(fun k_=>some k_≠(.slice cQ j.length cR:Value).ownBlock)) (mR u) hg hat)
     replace HB:=aM hb;have bS:=aM ho;clear ax ho hb hg hat
     refine hK.out _ _ qh4x0 (fun hHeld=>?_)
     clear hK K;refine normZ (some 86) ?_
     refine oZ 8 92 511 fun K hK=>?_
     refine eX Tryz.func61 (impl_ask.calls eA.out) ?_
     intro f9 hb;replace b:=rB b hb;replace u:=rB u hb;replace bS:=rB bS hb;replace a:=kB a hb;replace HB:=sB hb;(try clear hb)
     refine hK.out _ _ qh4x0 (fun hHeld=>?_)
     clear hK K;refine normZ (some 92) ?_
     refine oZ 9 93 1023 fun K hK=>?_
     refine value_ (w1:=?_) (v:=?_) (by rfl) rfl ?_ ?_
     rotate_left 2
     ·go_simp;constructor
      ·rfl
      ·rfl
     refine hK.out _ _ qh4x1 (fun hHeld=>?_)
     clear hK K;refine normZ (some 93) ?_
     refine oZ 10 94 2047 fun K hK=>?_
     refine R_append_step k86 (w0:=w) w.heap.size (by rfl) (.tmp 86) (.tmp 93) 47 86 (.agg #[(.string ⟨#[]⟩),(.int .i64 0),(.int .i64 0),(.int .i64 0),(.int .i64 0),(.string ⟨#[]⟩),(.string ⟨#[]⟩)]) 80 rfl Tryz.underlying47 info86 rfl (by decide) (by omega) eU aI (⟨cI,(⟨cJ,cL,cM,cN⟩ :S71),cO,cP⟩ :S86) [.string cI,.int .i64 cJ,.int .i64 cL,.int .i64 cM,.int .i64 cN,.string cO,.string cP] (fun k_=>some k_≠(.slice cQ j.length cR:Value).ownBlock∧some k_≠(.slice av I.length aw:Value).ownBlock) (fun _=>False) rfl rfl ?aP (fun _ hk=>hk.elim) ?aF ?aO ?aB ?aS ?aL ?_
     (case aP=>exact k86_mkM _ _ _ (⟨cI,(⟨cJ,cL,cM,cN⟩ :S71),cO,cP⟩ :S86))
     (case aB=>exact cB)
     (case aF=>exact(fun k_ hk=>⟨Kd.fresh' (R_lt (mR b)) k_ hk,Kd.fresh' (R_lt (mR u)) k_ hk⟩))
     (case aO=>exact(mR bS))
     (case aS=>exact(below_size cB))
     (case aL=>have:=eC.out;omega)
     intro ga gb ho hb hg hat;rw[← dC.out]at ho
     replace a:=kN a hg bS a
     replace b:=aM (R_after (ok:=(fun k_=>some k_≠(.slice av I.length aw:Value).ownBlock)) (mR b) hg hat)
     replace u:=aM (R_after (ok:=(fun k_=>some k_≠(.slice cQ j.length cR:Value).ownBlock)) (mR u) hg hat)
     replace HB:=aM hb;have eW:=aM ho;clear bS ho hb hg hat
     refine hK.out _ _ qh4x0 (fun hHeld=>?_)
     clear hK K;refine normZ (some 94) ?_
     refine pZ 11 8 4095 ?_
     refine done_ (done_of HT_.out (by kernel_rfl)) ?_
     try go_wp2
     go_ret
     exact⟨_,rE,by(with_reducible repeat(first|apply R_alloc|apply R_drewN|apply R_drew));exact R_mono eW.out (fun _ hk=>trivial),cB⟩
    ·rw[if_neg au]at H;obtain⟨dx,dy⟩:=eF au;by_cases ay:i=4
     ·rw[if_pos ay]at H;obtain⟨dE,dF⟩:=eT ay;clear ay;have H':=aM H;clear H;go_wp2;go_meet
      case rel=>exact⟨_,(A),(z),(4),rS,rS,rS,H',⟨oL⟩,⟨rM d (fun _ hk=>hk.2)⟩,⟨rM b (fun _ hk=>hk.2)⟩,⟨mK a⟩,⟨cB⟩⟩
     ·rw[if_neg ay]at H;obtain⟨dE,dF⟩:=eF ay;by_cases az:i=6
      ·rw[if_pos az]at H;obtain⟨dG,dH⟩:=eT az;clear az;have H':=aM H;clear H;go_wp2;go_meet
       case rel=>exact⟨_,(z),(A),(5),rS,rS,rS,H',⟨oL⟩,⟨rM d (fun _ hk=>hk.2)⟩,⟨rM b (fun _ hk=>hk.2)⟩,⟨mK a⟩,⟨cB⟩⟩
      ·rw[if_neg az]at H;obtain⟨dG,dH⟩:=eF az;by_cases aA:i=3
       ·rw[if_pos aA]at H;obtain⟨dI,dJ⟩:=eT aA;clear aA;have H':=aM H;clear H;go_wp2;go_meet
        case rel=>exact⟨_,(A),(z),(5),rS,rS,rS,H',⟨oL⟩,⟨rM d (fun _ hk=>hk.2)⟩,⟨rM b (fun _ hk=>hk.2)⟩,⟨mK a⟩,⟨cB⟩⟩
       ·rw[if_neg aA]at H;obtain⟨dI,dJ⟩:=eF aA;have H':=aM H;clear H;go_wp2;go_meet
        case rel=>exact⟨_,(z),(A),(4),rS,rS,rS,H',⟨oL⟩,⟨rM d (fun _ hk=>hk.2)⟩,⟨rM b (fun _ hk=>hk.2)⟩,⟨mK a⟩,⟨cB⟩⟩
  case rest=>
   clear HC12;(try clear aJ);(try clear cv);(try clear an);(try clear ao);(try clear dt);(try clear db);(try clear dc);(try clear dd);(try clear au);(try clear dx);(try clear dy);(try clear de);(try clear df);(try clear dg);(try clear ay);(try clear dE);(try clear dF);(try clear az);(try clear dG);(try clear dH);(try clear aA);(try clear dI);(try clear dJ);(try clear ed ee ef eg eh ei);(try clear eD eE eG eH eI eJ);(try clear d1);(try clear ej ek el em en eo);(try clear eK eL eM eN eO eP);obtain⟨kq,c6,c7,da,rfl,rfl,rfl,HA,HJ11,s,g,a,HB⟩:=hcut
   cases kq with
   | zero=>exact absurd HA.out (by simp[impl_CondLines.j0])
   | succ kj11=>
    have H:=HA.out;clear HA;simp only[impl_CondLines.j0]at H;replace H:=bE H;obtain⟨⟨bT,bU,bV,bW,bX,bY,bZ⟩,eZ,H⟩:=H;(try dsimp only at H);replace H:=bE H;obtain⟨⟨b0,b1,b5,b8,b9,ca,cb⟩,e0,H⟩:=H;(try dsimp only at H);replace H:=bE H;obtain⟨⟨cc,cd,ce,cf,cg,ch,ci⟩,e1,H⟩:=H;(try dsimp only at H);replace H:=bE H;obtain⟨⟨cj,ck,cl,cm,cn,co,cp⟩,e2,H⟩:=H;(try dsimp only at H);replace H:=nE H;obtain⟨E,dK,H⟩:=H;replace H:=gC H;obtain⟨dL,H⟩:=H;have e3:=aM dL;clear dL;replace H:=nE H;obtain⟨cs,e4,H⟩:=H;replace H:=gC H;obtain⟨dM,H⟩:=H;have e5:=aM dM;clear dM;replace H:=nE H;obtain⟨aG,e6,H⟩:=H;replace H:=bE H;obtain⟨⟨cS,cT,cU,cV,cW,cX,cY⟩,e7,H⟩:=H;(try dsimp only at H);replace H:=gC H;obtain⟨dN,H⟩:=H;have e8:=aM dN;clear dN;obtain⟨gc,dO⟩ : ∃ y_:List (S86),Aside0 (y_=(aG ++ [(⟨cS,(⟨cT,cU,cV,cW⟩ :S71),cX,cY⟩ :S86)])):=⟨_,⟨rfl⟩⟩;rw[← dO.out]at H;obtain rfl:=Option.some.inj H
    try go_wp2
    replace s:=dR s;replace g:=dR g;replace a:=dB a;replace HB:=dW HB
    refine sZ 20 (fun w'=>w'.cell? ⟨c,0,none⟩=some (.int .i64 l)∧w'.cell? ⟨c,1,none⟩=some (.int .i64 p)∧w'.cell? ⟨c,2,none⟩=some (.int .i64 q)∧w'.cell? ⟨c,3,none⟩=some (.int .i64 i)∧w'.cell? ⟨c,4,none⟩=some (.int .i64 m)∧w'.cell? ⟨c,5,none⟩=some (.int .i64 n)) impl_CondLines.tab21 impl_CondLines.bits21 qh4x0 fun HT_ HW_ hHeld=>?_
    generalize wc.drew=ge at s g a HB hHeld ⊢;refine pZ 0 105 1 ?_;refine pZ 1 106 3 ?_;refine pZ 2 107 7 ?_;refine pZ 4 109 23 ?_;refine pZ 5 110 55 ?_;refine pZ 7 112 183 ?_;refine pZ 9 114 695 ?_;refine pZ 10 115 1719 ?_;refine pZ 12 117 5815 ?_;refine pZ 13 118 14007 ?_;refine pZ 15 120 46775 ?_;refine tZ 3 108 46783 (y:=q4x0) (h:=?_);refine tZ 11 116 48831 (y:=q4x0) (h:=?_)
    refine oZ 6 111 48895 fun K hK=>?_
    refine eX Tryz.func61 (impl_ask.calls eZ.out) ?_
    intro gf hb;replace s:=rB s hb;replace g:=rB g hb;replace a:=kB a hb;replace HB:=sB hb;(try clear hb)
    refine hK.out _ _ qh4x0 (fun hHeld=>?_)
    clear hK K;refine normZ (some 111) ?_
    refine oZ 8 113 49151 fun K hK=>?_
    refine eX Tryz.func55 (impl_place.calls e0.out) ?_
    intro gg hb;replace s:=rB s hb;replace g:=rB g hb;replace a:=kB a hb;replace HB:=sB hb;(try clear hb)
    refine hK.out _ _ qh4x0 (fun hHeld=>?_)
    clear hK K;refine normZ (some 113) ?_
    refine oZ 14 119 65535 fun K hK=>?_
    refine eX Tryz.func61 (impl_ask.calls e1.out) ?_
    intro gh hb;replace s:=rB s hb;replace g:=rB g hb;replace a:=kB a hb;replace HB:=sB hb;(try clear hb)
    refine hK.out _ _ qh4x0 (fun hHeld=>?_)
    clear hK K;refine normZ (some 119) ?_
    refine oZ 16 121 131071 fun K hK=>?_
    refine eX Tryz.func55 (impl_place.calls e2.out) ?_
    intro gi hb;replace s:=rB s hb;replace g:=rB g hb;replace a:=kB a hb;replace HB:=sB hb;(try clear hb)
    refine hK.out _ _ qh4x0 (fun hHeld=>?_)
    clear hK K;refine normZ (some 121) ?_
    refine oZ 17 122 262143 fun K hK=>?_
    refine R_lit_step k86 _ 86 ?hg (N:=122) ?hd (xs:=([(⟨bT,(⟨bU,bV,bW,bX⟩ :S71),bY,bZ⟩ :S86),(⟨b0,(⟨b1,b5,b8,b9⟩ :S71),ca,cb⟩ :S86),(⟨cc,(⟨cd,ce,cf,cg⟩ :S71),ch,ci⟩ :S86),(⟨cj,(⟨ck,cl,cm,cn⟩ :S71),co,cp⟩ :S86)] :List (S86))) (inner:=[.string bT,.int .i64 bU,.int .i64 bV,.int .i64 bW,.int .i64 bX,.string bY,.string bZ,.string b0,.int .i64 b1,.int .i64 b5,.int .i64 b8,.int .i64 b9,.string ca,.string cb,.string cc,.int .i64 cd,.int .i64 ce,.int .i64 cf,.int .i64 cg,.string ch,.string ci,.string cj,.int .i64 ck,.int .i64 cl,.int .i64 cm,.int .i64 cn,.string co,.string cp]) (ok:=fun _=>True) (okp:=fun _=>True) ?hr ?hp (fun _ hk=>hk) trivial (Below.refl _ _) (Nat.le_refl _) (by simp) ?_;(case hd=>rfl);(case hg=>rfl);(case hr=>first|(go_simp;done)|(go_simp;rfl));(case hp=>exact(Reps.c7 (show Kd.M k86 _ _ _ (⟨bT,(⟨bU,bV,bW,bX⟩ :S71),bY,bZ⟩ :S86) [.string bT,.int .i64 bU,.int .i64 bV,.int .i64 bW,.int .i64 bX,.string bY,.string bZ]from (k86_mkM _ _ _ (⟨bT,(⟨bU,bV,bW,bX⟩ :S71),bY,bZ⟩ :S86))) (Reps.c7 (show Kd.M k86 _ _ _ (⟨b0,(⟨b1,b5,b8,b9⟩ :S71),ca,cb⟩ :S86) [.string b0,.int .i64 b1,.int .i64 b5,.int .i64 b8,.int .i64 b9,.string ca,.string cb]from (k86_mkM _ _ _ (⟨b0,(⟨b1,b5,b8,b9⟩ :S71),ca,cb⟩ :S86))) (Reps.c7 (show Kd.M k86 _ _ _ (⟨cc,(⟨cd,ce,cf,cg⟩ :S71),ch,ci⟩ :S86) [.string cc,.int .i64 cd,.int .i64 ce,.int .i64 cf,.int .i64 cg,.string ch,.string ci]from (k86_mkM _ _ _ (⟨cc,(⟨cd,ce,cf,cg⟩ :S71),ch,ci⟩ :S86))) (Reps.c7 (show Kd.M k86 _ _ _ (⟨cj,(⟨ck,cl,cm,cn⟩ :S71),co,cp⟩ :S86) [.string cj,.int .i64 ck,.int .i64 cl,.int .i64 cm,.int .i64 cn,.string co,.string cp]from (k86_mkM _ _ _ (⟨cj,(⟨ck,cl,cm,cn⟩ :S71),co,cp⟩ :S86))) (Reps.none _ _))))))
    intro gj gk al hb hg_ hnew_;clear hg_ hnew_
    (first|rw[← dK.out]at al|(simp only[Int.reduceToNat]at al;rw[← dK.out]at al))
    have x:=aM (R_lower (R_new' (R_new' al (R_lt (mR s))) (R_lt (mR g))) (below_size cB));replace s:=eB s (R_base al) hb;replace g:=eB g (R_base al) hb;replace a:=kB a hb;replace HB:=sB hb;clear hb al;obtain⟨aC,aD,dP⟩:=R_slice x.out
    (first|subst dP|(injection dP with f1_ f2_ f3_;have f4_:=f1_.symm;have f5_:=f3_.symm;clear f1_ f2_ f3_;subst f4_;subst f5_))
    refine hK.out _ _ qh4x0 (fun hHeld=>?_)
    clear hK K;refine normZ (some 122) ?_
    refine oZ 18 123 524287 fun K hK=>?_
    refine R_append_rows_step k86 (w0:=w) w.heap.size (by rfl) (.tmp 105) (.tmp 122) 47 86 (.agg #[(.string ⟨#[]⟩),(.int .i64 0),(.int .i64 0),(.int .i64 0),(.int .i64 0),(.string ⟨#[]⟩),(.string ⟨#[]⟩)]) 80 rfl Tryz.underlying47 info86 rfl (by decide) (by omega) bj D E _ _ _ (fun k_=>some k_≠(J:Value).ownBlock∧some k_≠(.slice aC E.length aD:Value).ownBlock) (fun _=>False) rfl rfl ?aO ?aR (fun _ _ h=>h) (fun _ h=>h.elim) ?aF ?aB ?aS ?aL ?_
    (case aR=>exact rX x)
    (case aB=>exact cB)
    (case aF=>exact(fun k_ hk=>⟨Kd.fresh' (R_lt (mR g)) k_ hk,Kd.fresh' (R_lt (mR x)) k_ hk⟩))
    (case aO=>exact(mR s))
    (case aS=>exact(below_size cB))
    (case aL=>have:=e3.out;omega)
    intro e9 fa ho hb hg hat;rw[← e4.out]at ho
    replace g:=aM (R_after (ok:=(fun k_=>some k_≠(.slice aC E.length aD:Value).ownBlock)) (by exact rM g (fun _ hk=>⟨hk.2,hk.1⟩)) hg hat)
    replace a:=kN a hg s a
    replace x:=aM (R_after (ok:=(fun k_=>some k_≠(J:Value).ownBlock)) (by exact rM x (fun _ hk=>⟨hk.2,hk.1.2⟩)) hg hat)
    replace HB:=aM hb;have aE:=aM ho;clear s ho hb hg hat
    refine hK.out _ _ qh4x0 (fun hHeld=>?_)
    clear hK K;refine normZ (some 123) ?_
    refine pZ 19 16 1048575 ?_
    refine done_ (done_of HT_.out (by kernel_rfl)) ?_
    try go_wp2
    replace g:=dR g;replace x:=dR x;replace aE:=dR aE;replace a:=dB a;replace HB:=dW HB;obtain⟨cZ,c0,dQ⟩:=R_slice g.out
    (first|subst dQ|(injection dQ with f1_ f2_ f3_;have f4_:=f1_.symm;have f5_:=f3_.symm;clear f1_ f2_ f3_;subst f4_;subst f5_))
    refine sZ 13 (fun w'=>w'.cell? ⟨c,0,none⟩=some (.int .i64 l)∧w'.cell? ⟨c,1,none⟩=some (.int .i64 p)∧w'.cell? ⟨c,2,none⟩=some (.int .i64 q)∧w'.cell? ⟨c,3,none⟩=some (.int .i64 i)∧w'.cell? ⟨c,4,none⟩=some (.int .i64 m)∧w'.cell? ⟨c,5,none⟩=some (.int .i64 n)) impl_CondLines.tab22 impl_CondLines.bits22 qh4x0 fun HT_ HW_ hHeld=>?_
    generalize fa.drew=gl at g x aE a HB hHeld ⊢;refine pZ 0 124 1 ?_;refine pZ 1 125 3 ?_;refine pZ 3 127 11 ?_;refine pZ 4 128 27 ?_;refine pZ 5 129 59 ?_;refine pZ 7 131 187 ?_;refine pZ 8 132 443 ?_;refine tZ 6 130 507 (y:=q4x0) (h:=?_)
    refine oZ 2 126 511 fun K hK=>?_
    refine R_append_rows_step k86 (w0:=w) w.heap.size (by rfl) (.tmp 124) (.tmp 125) 47 86 (.agg #[(.string ⟨#[]⟩),(.int .i64 0),(.int .i64 0),(.int .i64 0),(.int .i64 0),(.string ⟨#[]⟩),(.string ⟨#[]⟩)]) 80 rfl Tryz.underlying47 info86 rfl (by decide) (by omega) e9 cs j _ _ _ (fun k_=>some k_≠(.slice cZ j.length c0:Value).ownBlock∧some k_≠(.slice aC E.length aD:Value).ownBlock) (fun _=>False) rfl rfl ?aO ?aR (fun _ _ h=>h) (fun _ h=>h.elim) ?aF ?aB ?aS ?aL ?_
    (case aR=>exact rX g)
    (case aB=>exact cB)
    (case aF=>exact(fun k_ hk=>⟨Kd.fresh' (R_lt (mR g)) k_ hk,Kd.fresh' (R_lt (mR x)) k_ hk⟩))
    (case aO=>exact(mR aE))
    (case aS=>exact(below_size cB))
    (case aL=>have:=e5.out;omega)
    intro fb gm ho hb hg hat;rw[← e6.out]at ho
    replace g:=aM (R_after (ok:=(fun k_=>some k_≠(.slice aC E.length aD:Value).ownBlock)) (mR g) hg hat)
    replace a:=kN a hg aE a
    replace x:=aM (R_after (ok:=(fun k_=>some k_≠(.slice cZ j.length c0:Value).ownBlock)) (mR x) hg hat)
    replace HB:=aM hb;have cq:=aM ho;clear aE ho hb hg hat
    refine hK.out _ _ qh4x0 (fun hHeld=>?_)
    clear hK K;refine normZ (some 126) ?_
    refine oZ 9 133 1023 fun K hK=>?_
    refine eX Tryz.func61 (impl_ask.calls e7.out) ?_
    intro gn hb;replace g:=rB g hb;replace x:=rB x hb;replace cq:=rB cq hb;replace a:=kB a hb;replace HB:=sB hb;(try clear hb)
    refine hK.out _ _ qh4x0 (fun hHeld=>?_)
    clear hK K;refine normZ (some 133) ?_
    refine oZ 10 134 2047 fun K hK=>?_
    refine value_ (w1:=?_) (v:=?_) (by rfl) rfl ?_ ?_
    rotate_left 2
    ·go_simp;constructor
     ·rfl
     ·rfl
    refine hK.out _ _ qh4x1 (fun hHeld=>?_)
    clear hK K;refine normZ (some 134) ?_
    refine oZ 11 135 4095 fun K hK=>?_
    refine R_append_step k86 (w0:=w) w.heap.size (by rfl) (.tmp 126) (.tmp 134) 47 86 (.agg #[(.string ⟨#[]⟩),(.int .i64 0),(.int .i64 0),(.int .i64 0),(.int .i64 0),(.string ⟨#[]⟩),(.string ⟨#[]⟩)]) 80 rfl Tryz.underlying47 info86 rfl (by decide) (by omega) fb aG (⟨cS,(⟨cT,cU,cV,cW⟩ :S71),cX,cY⟩ :S86) [.string cS,.int .i64 cT,.int .i64 cU,.int .i64 cV,.int .i64 cW,.string cX,.string cY] (fun k_=>some k_≠(.slice cZ j.length c0:Value).ownBlock∧some k_≠(.slice aC E.length aD:Value).ownBlock) (fun _=>False) rfl rfl ?aP (fun _ hk=>hk.elim) ?aF ?aO ?aB ?aS ?aL ?_
    (case aP=>exact k86_mkM _ _ _ (⟨cS,(⟨cT,cU,cV,cW⟩ :S71),cX,cY⟩ :S86))
    (case aB=>exact cB)
    (case aF=>exact(fun k_ hk=>⟨Kd.fresh' (R_lt (mR g)) k_ hk,Kd.fresh' (R_lt (mR x)) k_ hk⟩))
    (case aO=>exact(mR cq))
    (case aS=>exact(below_size cB))
    (case aL=>have:=e8.out;omega)
    intro go gp ho hb hg hat;rw[← dO.out]at ho
    replace g:=aM (R_after (ok:=(fun k_=>some k_≠(.slice aC E.length aD:Value).ownBlock)) (mR g) hg hat)
    replace a:=kN a hg cq a
    replace x:=aM (R_after (ok:=(fun k_=>some k_≠(.slice cZ j.length c0:Value).ownBlock)) (mR x) hg hat)
    replace HB:=aM hb;have fc:=aM ho;clear cq ho hb hg hat
    refine hK.out _ _ qh4x0 (fun hHeld=>?_)
    clear hK K;refine normZ (some 135) ?_
    refine pZ 12 8 8191 ?_
    refine done_ (done_of HT_.out (by kernel_rfl)) ?_
    try go_wp2
    go_ret
    exact⟨_,rE,by(with_reducible repeat(first|apply R_alloc|apply R_drewN|apply R_drew));exact R_mono fc.out (fun _ hk=>trivial),cB⟩
 ·replace aJ:=Bool.eq_false_iff.mpr aJ;subst aJ;replace H:=iF H;obtain⟨gq,dh⟩ : ∃ y_:List (S86),Aside0 (y_=(([] :List (S86)))):=⟨_,⟨rfl⟩⟩;rw[← dh.out]at H;obtain rfl:=Option.some.inj H;go_enter Tryz.func95,Tryz.ntmps95
  go_wp2_with (first|((with_reducible refine gN 4 ?_);refine boxZ 4 #[.int .i64 l,.int .i64 p,.int .i64 q,.int .i64 i,.int .i64 m,.int .i64 n] 118 ?_;intro c hg gr hbox hb;have a:=aM hbox;have GW117:=gS hg;have GE117:=gS hg;replace HB:=sB hb;clear hb hbox hg;obtain⟨gs,gt,gu,gv,gw,gx,gy,gz,gB,gE,gG,gH⟩:=cz6 a)|((with_reducible refine gF 107 ?_);refine gX (some 18) Tryz.func107 (impl_CondOk.calls dq.out) ?_;intro gI hb;replace a:=kB a hb;replace HB:=sB hb;(try clear hb))|((with_reducible refine gN 20 ?_);refine R_lit k86 _ 86 ?hg (N:=20) ?hd (xs:=([] :List (S86))) (inner:=[]) (ok:=fun _=>True) (okp:=fun _=>True) ?hr ?hp (fun _ hk=>hk) trivial (Below.refl _ _) (Nat.le_refl _) (by simp) ?_;(case hd=>rfl);(case hg=>rfl);(case hr=>exact rG);(case hp=>exact(Reps.none _ _));intro gJ gL cr hb hg_ hnew_;clear hg_ hnew_;(first|rw[← dh.out]at cr|(simp only[Int.reduceToNat]at cr;rw[← dh.out]at cr));have fd:=rL cr;replace a:=kB a hb;replace HB:=sB hb;clear hb cr))
  go_ret;exact⟨_,rE,mR fd,cB⟩
end Go.Proofs.YtpbalojiaghfhaaGreat.PFnCompilesTold
