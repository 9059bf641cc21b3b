import Derived.Test.YtfhjjfibblcklaaPFnExactReadPolicyy0
import Derived.Test.YtfhjjfibblcklaaPFnExactReadPolicyy1
import Derived.Test.YtfhjjfibblcklaaPFnExactReadPolicyy3
import Derived.Test.YtfhjjfibblcklaaPFnExactReadPolicyy5
import Derived.Test.YtfhjjfibblcklaaPFnExactReadPolicyy6
namespace Go.Proofs.Ytfhjjfibblcklaa.PFnExactReadPolicy
open Go.RowKit Go.Proofs.YtfhjjfibblcklaaW.PrintWords Go.Proofs.YtfhjjfibblcklaaW.PrintLast Go.Proofs.YtfhjjfibblcklaaW.PrintMore Go.Proofs.YtfhjjfibblcklaaW.Z
open Kd
attribute [local go_sem] isS max2_int min2_int max_two min_two max_three min_three max_four min_four
set_option linter.unusedVariables false
set_option linter.unusedSimpArgs false
theorem qh7x0 {P:Prop} (h:P:=by exact⟨(blk_cell a.out 0).trans rfl,(blk_cell a.out 1).trans rfl,(blk_cell a.out 2).trans rfl,(blk_cell a.out 3).trans rfl⟩):P:=h
theorem qh7x1 {P:Prop} (h:P:=by exact⟨(blk_cell (blk_alloc a.out _) 0).trans rfl,(blk_cell (blk_alloc a.out _) 1).trans rfl,(blk_cell (blk_alloc a.out _) 2).trans rfl,(blk_cell (blk_alloc a.out _) 3).trans rfl⟩):P:=h
def spec_l10Read_rule.l0:Nat→List (S54)→Int→Bool→List Int→List (S66)→Int→Int→Option (List Int×(List (S66))×Int×Int×Int×Bool)
  | 0,_,_,_,_,_,_,_=>none
  | k+1,J,bp,a0,a1,a2,bO,bP=>if a0=true then((spec_l10Read_wants.f J bp a0 1 (⟨#[100,111]⟩ :ByteArray)).bind fun bq=>((spec_l10Read_action.f k J bq.1 bq.2).bind fun ay=>((spec_l10Read_wants.f J ay.2.2.1 ay.2.2.2 3 (⟨#[59]⟩ :ByteArray)).bind fun br=>(some (a1,a2,ay.1,ay.2.1,br.1,br.2)))))else((spec_l10Read_cond.f k J bp a0).bind fun U=>(if a2.length<2932031007402 then((some (a2 ++ [(⟨U.1,(⟨U.2.1,U.2.2.1⟩ :S64),U.2.2.2.1,(⟨U.2.2.2.2.1,U.2.2.2.2.2.1⟩ :S64)⟩ :S66)] :List (S66))).bind fun L=>((spec_l10Read_takes.f J U.2.2.2.2.2.2.1 U.2.2.2.2.2.2.2 1 (⟨#[97,110,100]⟩ :ByteArray)).bind fun ap=>(if ap.1=true then(spec_l10Read_rule.l0 k J ap.2.1 ap.2.2 a1 L bO bP)else((spec_l10Read_wants.f J ap.2.1 ap.2.2 1 (⟨#[100,111]⟩ :ByteArray)).bind fun bs=>((spec_l10Read_action.f k J bs.1 bs.2).bind fun az=>((spec_l10Read_wants.f J az.2.2.1 az.2.2.2 3 (⟨#[59]⟩ :ByteArray)).bind fun bu=>(some (a1,L,az.1,az.2.1,bu.1,bu.2))))))))else(none)))
def spec_l10Read_rule.f (k:Nat) (s0_0:List (S54)) (s0_1:Int) (s0_2:Bool):Option (List Int×(List (S66))×Int×Int×Int×Bool):=(spec_l10Read_wants.f s0_0 s0_1 s0_2 1 (⟨#[111,110]⟩ :ByteArray)).bind fun bv=>((spec_l10Read_nums.f k s0_0 bv.1 bv.2).bind fun aA=>((spec_l10Read_takes.f s0_0 aA.2.1 aA.2.2 1 (⟨#[105,102]⟩ :ByteArray)).bind fun aq=>(if aq.1=true then(spec_l10Read_rule.l0 k s0_0 aq.2.1 aq.2.2 aA.1 ([] :List (S66)) 0 0)else((spec_l10Read_wants.f s0_0 aq.2.1 aq.2.2 1 (⟨#[100,111]⟩ :ByteArray)).bind fun bw=>((spec_l10Read_action.f k s0_0 bw.1 bw.2).bind fun aB=>((spec_l10Read_wants.f s0_0 aB.2.2.1 aB.2.2.2 3 (⟨#[59]⟩ :ByteArray)).bind fun bx=>(some (aA.1,([] :List (S66)),aB.1,aB.2.1,bx.1,bx.2))))))))
def spec_l10Read_rule.T5:Bool×List (List Nat×List Nat):=(true,[([],[]),([0],[0]),([],[]),([2],[2]),([3],[3]),([1,4,3],[1,4]),([0,1,2,3,4,5],[]),([6,5,5,0,1,2,3,4,5],[5,6])])
def spec_l10Read_rule.B5:List Nat:=[0,1,0,4,12,31,63,127]
theorem spec_l10Read_rule.tab5:rtab .any (opsOf Try.f13 5)=spec_l10Read_rule.T5:=by kernel_rfl
theorem spec_l10Read_rule.bits5:waitsOk spec_l10Read_rule.T5.2 spec_l10Read_rule.B5=true:=by kernel_rfl
theorem q7x0 {P:Prop} (h:P:=by repeat(first|(with_reducible first|exact HI0.out|apply IsS35.alloc|apply IsS35.drewN|apply IsS35.drew|apply IsS35.set_1|apply IsS35.set_2)|exact HI0.out)):P:=h
theorem q7x1 {P:Prop} (h:P:=by repeat(first|(with_reducible first|exact HB.out|apply below_alloc|apply pw_below_drewN|apply below_drew1|refine below_set ?_ (IsS35.ge HI0.out))|exact HB.out)):P:=h
theorem q7x2 {P:Prop} (h:P:=by repeat(first|(with_reducible first|exact HI0.out|apply IsS35.alloc|apply IsS35.drewN|apply IsS35.drew|apply IsS35.set_1|apply IsS35.set_2|(apply IsS35.far;case hne=>exact(Aside0.out (by assumption))))|exact HI0.out)):P:=h
theorem q7x3 {P:Prop} (h:P:=by repeat(first|(with_reducible first|exact HB.out|apply below_alloc|apply pw_below_drewN|apply below_drew1|refine below_set ?_ (IsS35.ge HI0.out)|refine below_set ?_ (Aside0.out (by assumption)))|exact HB.out)):P:=h
theorem q7x4 {P:Prop} (h:P:=by
 rintro w' ⟨s0,s1,s2,s3⟩
 go_simp
 with_reducible rfl):P:=h
set_option maxHeartbeats 8000000 in
set_option maxRecDepth 100000 in
theorem spec_l10Read_rule.calls (k:Nat) (g:Nat) (s0_0:List (S54)) (s0_1:Int) (s0_2:Bool) (r1:List Int) (r2:List (S66)) (r3:Int) (r4:Int) (r5:Int) (r6:Bool) (c w:World) (hI:IsS35 c w g s0_0 s0_1 s0_2) (hB:Below c.heap.size c w) (h:spec_l10Read_rule.f k s0_0 s0_1 s0_2=some (r1,r2,r3,r4,r5,r6)) :
 Calls Try.prog 13 #[.pointer (some ⟨g,0,none⟩)] w fun e w'=> ∃ v0_ v1_:Value,e= .returned (.agg #[v0_,v1_,.int .i64 r3,.int .i64 r4])∧Kd.R (Kd.int .i64) 3 w' w.heap.size (fun _=>True) v0_ r1∧Kd.R k66 66 w' w.heap.size (fun _=>True) v1_ r2∧IsS35 c w' g s0_0 r5 r6∧Below c.heap.size c w'∧KeepBut w w' g none:=by
 have hu43:=Try.underlying43;have HI0:=aM hI;have HK:=aM (KeepBut.refl w g none);have HL:=aM hB.size;clear hI;have HW0:=aM hB.size;have HB:=aM hB;clear hB
 unfold spec_l10Read_rule.f at h;have H:=h
 clear h;replace H:=bE H;obtain⟨⟨aC,aD⟩,D,H⟩:=H;(try dsimp only at H);replace H:=bE H;obtain⟨⟨q,E,G⟩,ar,H⟩:=H;(try dsimp only at H);replace H:=bE H;obtain⟨⟨bQ,au,av⟩,W,H⟩:=H;(try dsimp only at H);by_cases I:bQ=true
 ·subst I;replace H:=iT H;have H':=aM H;clear H;go_enter Try.func13,Try.ntmps13
  go_wp2_with (first|((with_reducible refine gN 2 ?_);refine boxZ 2 #[.slice none 0 0,.slice none 0 0,.int .i64 0,.int .i64 0] 43 ?_;intro M hg cJ hbox hb;replace HB:=aM (below_step q7x1 hb);have b:=aM hbox;have GW247:=gK (w:=w) hg;have GE247:=gW HW0 hg;replace HK:=aM (KeepBut.trans (cK:KeepBut w _ g none) (KeepBut.of_below hb g none) (.inl rfl));have aE:=aM ((by rw[hg];exact Nat.ne_of_lt (IsS35.lt (show IsS35 c _ g s0_0 s0_1 s0_2 from q7x0)):g≠M));have j:=aM ((by rw[hg];exact Nat.ne_of_gt (IsS35.lt (show IsS35 c _ g s0_0 s0_1 s0_2 from q7x0)):M≠g));replace HI0:=aM (IsS35.below q7x0 hb);clear hb hbox hg)|((with_reducible refine gF 10 ?_);refine gX (some 7) Try.func10 (spec_l10Read_wants.calls g s0_0 s0_1 s0_2 1 (⟨#[111,110]⟩ :ByteArray) aC aD c _ q7x2 q7x3 D.out) ?_;rintro bR ⟨hi,hb,hk⟩;replace b:=bK hk b j.out;replace HK:=tK (w:=w) hk;replace HB:=aM hb;replace HI0:=aM hi;(try clear hb);(try clear hk);(try clear hi))|((with_reducible refine gF 31 ?_);refine gY (some 9) Try.func31 (spec_l10Read_nums.calls k g s0_0 aC aD q E G c _ q7x2 q7x3 ar.out) ?_;rintro bS cL ⟨aw,hi,hb,hk⟩;replace b:=bK hk b j.out;have p:=aM (R_lower aw (keep_size (w:=w) (g:=g) (row:=none) cK));replace HK:=tK (w:=w) hk;replace HB:=aM hb;replace HI0:=aM hi;(try clear hb);(try clear hk);(try clear hi);(try clear aw);obtain⟨z,A,bT⟩:=R_slice p.out;subst bT)|((with_reducible refine gN 3 ?_);refine boxZ 3 #[.slice none 0 0,.slice none 0 0,.int .i64 0,.int .i64 0] 43 ?_;intro l hg cM hbox hb;replace p:=rB p hb;replace HB:=aM (below_step q7x3 hb);have a:=aM hbox;have GW255:=gK (w:=w) hg;have GE255:=gW HW0 hg;replace HK:=aM (KeepBut.trans (cK:KeepBut w _ g none) (KeepBut.of_below hb g none) (.inl rfl));have ak:=nL hg b;have al:=nG hg b;replace b:=kB b hb;have ax:=aM ((by rw[hg];exact Nat.ne_of_lt (IsS35.lt (show IsS35 c _ g s0_0 E G from q7x2)):g≠l));have m:=aM ((by rw[hg];exact Nat.ne_of_gt (IsS35.lt (show IsS35 c _ g s0_0 E G from q7x2)):l≠g));replace HI0:=aM (IsS35.below q7x2 hb);clear hb hbox hg;have hnb11:=al.out;have hnc11:=ak.out;have hnb12:=m.out;have hnc12:=ax.out;obtain⟨bU,bV,bW,bX,bY,bZ,b0,b1⟩:=cz4 a)|((with_reducible refine gF 27 ?_);refine gX (some 12) Try.func27 (spec_l10Read_takes.calls g s0_0 E G 1 (⟨#[105,102]⟩ :ByteArray) true au av c _ q7x2 q7x3 W.out) ?_;rintro cN ⟨hi,hb,hk⟩;replace b:=bK hk b j.out;replace p:=aM (R_mono (R_keep (IsS35.apart (show IsS35 c _ g s0_0 E G from q7x2) (by(with_reducible repeat(first|apply R_alloc|apply R_drewN|apply R_drew));exact(fR (R_types p.out a.out (by decide)) (fun _ h_=>h_.1))) (by decide)) hk (fun _ h=>h.2)) (fun _ h=>h.1));replace a:=aM (KeepBut.blk hk (g':=l) (o:= .cells #[.slice z q.length A,.slice none 0 0,.int .i64 0,.int .i64 0] 43 (0,0)) (kS a _) m.out (by simp));replace HK:=tK (w:=w) hk;replace HB:=aM hb;replace HI0:=aM hi;(try clear hb);(try clear hk);(try clear hi)))
  (try go_simp);go_loopg [] k (fun kq w'=> ∃ (x:Int) (aG:Bool) (am:List (S66)) (u256001:Value),Aside0 (spec_l10Read_rule.l0 kq s0_0 x aG q am 0 0=some (r1,r2,r3,r4,r5,r6))∧Aside0 (kq≤k)∧Aside0 (Kd.R (Kd.int .i64) 3 w' w.heap.size (fun _=>True) (.slice z q.length A) q)∧Aside0 (Kd.R k66 66 w' w.heap.size (fun _=>True) u256001 am)∧Aside0 (w'.heap[M]?=some (.cells #[(.slice none 0 0),(.slice none 0 0),.int .i64 0,.int .i64 0] 43 (0,0)))∧Aside0 (w'.heap[l]?=some (.cells #[(.slice z q.length A),u256001,.int .i64 0,.int .i64 0] 43 (0,0)))∧Aside0 (IsS35 c w' g s0_0 x aG)∧Aside0 (KeepBut w w' g none)∧Aside0 (Below c.heap.size c w'))
  case atStart=>exact⟨(au),(av),(([] :List (S66))),(.slice none 0 0),H',⟨Nat.le_refl _⟩,⟨mR p⟩,⟨by first|exact R_nil _ _ _ _ _|exact N_nil _ _ _ _ _|exact V_nil _ _ _ _ _|exact Q_nil _ _ _ _ _|exact S_nil _ _ _ _ _⟩,⟨mK b⟩,⟨mK a⟩,⟨q7x2⟩,⟨cK⟩,⟨q7x3⟩⟩
  case round=>
   clear H';(try clear I);(try clear bU bV bW bX);(try clear bY bZ b0 b1);(try clear a);obtain⟨x,aG,am,u256001,HA,HK1,d,i,b,a,HI0,HK,HB⟩:=hrel
   cases gk with
   | zero=>exact absurd HA.out (by simp[spec_l10Read_rule.l0])
   | succ k1=>
    have H:=HA.out;clear HA;simp only[spec_l10Read_rule.l0]at H;by_cases aH:aG=true
    ·subst aH;replace H:=iT H;replace H:=bE H;obtain⟨⟨aI,aJ⟩,b5,H⟩:=H;(try dsimp only at H);replace H:=bE H;obtain⟨⟨a3,a4,aK,aN⟩,b8,H⟩:=H;(try dsimp only at H);replace H:=bE H;obtain⟨⟨b9,ca⟩,cb,H⟩:=H;(try dsimp only at H);simp only[Option.some.injEq,Prod.mk.injEq]at H;obtain⟨rfl,rfl,rfl,rfl,rfl,rfl⟩:=H;obtain⟨ASz19_0,cSz19_0,HGz19,hgz19,HSz19_0⟩:=HI0.out;have cO:=cellS35_0 HGz19;have cP:=cellS35_1 HGz19;have cQ:=cellS35_2 HGz19;have cR:=blk_frozen HGz19 1;have cS:=blk_frozen HGz19 2;clear HGz19 hgz19
     go_wp2_with (first|((with_reducible refine gF 10 ?_);refine gX (some 29) Try.func10 (spec_l10Read_wants.calls g s0_0 x true 1 (⟨#[100,111]⟩ :ByteArray) aI aJ c _ q7x2 q7x3 b5.out) ?_;rintro cc ⟨hi,hb,hk⟩;replace d:=aM (R_mono (R_keep (IsS35.apart (show IsS35 c _ g s0_0 x true from q7x2) (mR d) (by decide)) hk (fun _ h=>h.2)) (fun _ h=>h.1));replace i:=aM (R_mono (R_keep (IsS35.apart (show IsS35 c _ g s0_0 x true from q7x2) (mR i) (by decide)) hk (fun _ h=>h.2)) (fun _ h=>h.1));replace b:=bK hk b j.out;replace a:=bK hk a m.out;replace HK:=tK (w:=w) hk;replace HB:=aM hb;replace HI0:=aM hi;(try clear hb);(try clear hk);(try clear hi))|((with_reducible refine gF 12 ?_);refine gX (some 32) Try.func12 (spec_l10Read_action.calls k1 g s0_0 aI aJ a3 a4 aK aN c _ q7x2 q7x3 b8.out) ?_;rintro cT ⟨hi,hb,hk⟩;replace d:=aM (R_mono (R_keep (IsS35.apart (show IsS35 c _ g s0_0 aI aJ from q7x2) (mR d) (by decide)) hk (fun _ h=>h.2)) (fun _ h=>h.1));replace i:=aM (R_mono (R_keep (IsS35.apart (show IsS35 c _ g s0_0 aI aJ from q7x2) (mR i) (by decide)) hk (fun _ h=>h.2)) (fun _ h=>h.1));replace b:=bK hk b j.out;replace a:=bK hk a m.out;replace HK:=tK (w:=w) hk;replace HB:=aM hb;replace HI0:=aM hi;(try clear hb);(try clear hk);(try clear hi);have hnb22:=al.out;have hnc22:=ak.out;have hnb23:=m.out;have hnc23:=ax.out;obtain⟨cd,ce,cf,cg,ch,ci,cj,ck⟩:=cz4 a)|((with_reducible refine gF 10 ?_);refine gX (some 40) Try.func10 (spec_l10Read_wants.calls g s0_0 aK aN 3 (⟨#[59]⟩ :ByteArray) b9 ca c _ q7x2 q7x3 cb.out) ?_;rintro cU ⟨hi,hb,hk⟩;replace d:=aM (R_mono (R_keep (IsS35.apart (show IsS35 c _ g s0_0 aK aN from q7x2) (by(with_reducible repeat(first|apply R_alloc|apply R_drewN|apply R_drew));exact(fR (R_types d.out a.out (by decide)) (fun _ h_=>h_.1))) (by decide)) hk (fun _ h=>h.2)) (fun _ h=>h.1));replace i:=aM (R_mono (R_keep (IsS35.apart (show IsS35 c _ g s0_0 aK aN from q7x2) (by(with_reducible repeat(first|apply R_alloc|apply R_drewN|apply R_drew));exact(fR (R_types i.out a.out (by decide)) (fun _ h_=>h_.1))) (by decide)) hk (fun _ h=>h.2)) (fun _ h=>h.1));replace b:=bK hk b j.out;replace a:=aM (KeepBut.blk hk (g':=l) (o:= .cells #[.slice z q.length A,u256001,.int .i64 a3,.int .i64 a4] 43 (0,0)) (kS a _) m.out (by simp));replace HK:=tK (w:=w) hk;replace HB:=aM hb;replace HI0:=aM hi;(try clear hb);(try clear hk);(try clear hi);obtain⟨cV,cW,cX,cY,cZ,c0,c1,c3⟩:=cz4 a;have hnb27:=j.out;have hnc27:=aE.out;obtain⟨c4,c5,c7,da,db,dc,dd,de⟩:=cz4 b;obtain⟨cl,cm,cn⟩:=R_slice i.out;subst cn))
     refine bodyPost_ret (results_cell_row rfl _ _ M 43 #[.slice z q.length A,.slice cl am.length cm,.int .i64 a3,.int .i64 a4] (0,0) _ rfl (kS b _) Try.underlying43 rfl (by kernel_rfl)) rfl ?_
     exact⟨_,_,rE,fR (R_types d.out b.out (by decide)) (fun _ hk=>trivial),fR (R_types i.out b.out (by decide)) (fun _ hk=>trivial),q7x2,q7x3,cK⟩
    ·replace aH:=Bool.eq_false_iff.mpr aH;subst aH;replace H:=iF H;replace H:=bE H;obtain⟨⟨X,Y,aa,ab,ac,ad,ae,af⟩,bz,H⟩:=H;(try dsimp only at H);replace H:=gC H;obtain⟨bA,H⟩:=H;have bB:=aM bA;clear bA;replace H:=nE H;obtain⟨L,bC,H⟩:=H;replace H:=bE H;obtain⟨⟨co,an,ao⟩,bD,H⟩:=H;(try dsimp only at H);by_cases aQ:co=true
     ·subst aQ;replace H:=iT H;have H':=aM H;clear H;obtain⟨ASz34_0,cSz34_0,HGz34,hgz34,HSz34_0⟩:=HI0.out;have df:=cellS35_0 HGz34;have dg:=cellS35_1 HGz34;have dh:=cellS35_2 HGz34;have di:=blk_frozen HGz34 1;have dj:=blk_frozen HGz34 2;clear HGz34 hgz34
      try go_wp2
      replace d:=dR d;replace i:=dR i;replace b:=dB b;replace a:=dB a;replace HI0:=aM (IsS35.drew HI0.out);replace HK:=aM (keep_drew HK.out);replace HB:=dW HB
      refine sV 8 (fun w'=>w'.cell? ⟨l,0,none⟩=some (.slice z q.length A)∧w'.cell? ⟨l,1,none⟩=some (u256001)∧w'.cell? ⟨l,2,none⟩=some (.int .i64 0)∧w'.cell? ⟨l,3,none⟩=some (.int .i64 0)) (ds:=[7]) spec_l10Read_rule.tab5 spec_l10Read_rule.bits5 qh7x0 fun HT_ HW_ hHeld=>?_
      generalize wr.drew=dk at d i b a HI0 HK HB hHeld ⊢;refine pZ 0 18 1 ?_;refine pZ 2 20 5 ?_;refine tZ 1 19 7 (y:=q7x4) (h:=?_)
      refine oZ 3 21 15 fun K hK=>?_
      refine eX Try.func32 (spec_l10Read_cond.calls k1 g s0_0 x false X Y aa ab ac ad ae af c _ q7x2 q7x3 bz.out) ?_
      rintro dl ⟨hi,hb,hk⟩
      replace d:=aM (R_mono (R_keep (IsS35.apart (show IsS35 c _ g s0_0 x false from q7x2) (mR d) (by decide)) hk (fun _ h=>h.2)) (fun _ h=>h.1))
      replace i:=aM (R_mono (R_keep (IsS35.apart (show IsS35 c _ g s0_0 x false from q7x2) (mR i) (by decide)) hk (fun _ h=>h.2)) (fun _ h=>h.1))
      replace b:=bK hk b j.out;replace a:=bK hk a m.out;replace HK:=tK (w:=w) hk;replace HB:=aM hb;replace HI0:=aM hi;(try clear hb);(try clear hk);(try clear hi)
      refine hK.out _ _ qh7x0 (fun hHeld=>?_)
      clear hK K;refine normZ (some 21) ?_
      refine oZ 4 22 31 fun K hK=>?_
      refine value_ (w1:=?_) (v:=?_) (by rfl) rfl ?_ ?_
      rotate_left 2
      ·go_simp;constructor
       ·rfl
       ·rfl
      refine hK.out _ _ qh7x1 (fun hHeld=>?_)
      clear hK K;refine normZ (some 22) ?_
      refine oZ 5 23 63 fun K hK=>?_
      refine R_append_step k66 w.heap.size (by rfl) (.tmp 19) (.tmp 22) 41 66 (.agg #[(.int .i64 0),(.int .i64 0),(.int .i64 0),(.int .i64 0),(.int .i64 0),(.int .i64 0)]) 48 rfl Try.underlying41 info66 rfl (by decide) (by omega) u256001 am (⟨X,(⟨Y,aa⟩ :S64),ab,(⟨ac,ad⟩ :S64)⟩ :S66) [.int .i64 X,.int .i64 Y,.int .i64 aa,.int .i64 ab,.int .i64 ac,.int .i64 ad] (fun _=>True) (fun _=>False) rfl rfl ?aP (fun _ hk=>hk.elim) ?aF ?aO (Below.refl _ _) ?aS ?aL ?_
      (case aP=>exact k66_mkM _ _ _ (⟨X,(⟨Y,aa⟩ :S64),ab,(⟨ac,ad⟩ :S64)⟩ :S66))
      (case aF=>exact(fun _ _=>trivial))
      (case aO=>exact(mR i))
      (case aS=>exact(keep_size (w:=w) (g:=g) (row:=none) cK))
      (case aL=>have:=bB.out;omega)
      intro cp cq ho hb hg hat;rw[← bC.out]at ho
      replace d:=aM (R_over' (mR d) (R_typed (mR i)) (by decide) hg)
      replace b:=kN b hg i b
      replace a:=kN a hg i a
      replace HB:=aM (below_weaken q7x3 HL.out hb)
      replace HI0:=aM (IsS35.grown q7x2 hg (IsS35.own_ne HI0.out i.out (by decide)))
      replace HK:=aM (KeepBut.trans (cK:KeepBut w _ g none) (KeepBut.of_grown hg g) (R_base2 i.out));have s:=aM ho;clear i ho hb hg hat;obtain⟨bF,bG,bH⟩:=R_slice s.out
      (first|subst bH|(injection bH with f1_ f2_ f3_;have f4_:=f1_.symm;have f5_:=f3_.symm;clear f1_ f2_ f3_;subst f4_;subst f5_))
      refine hK.out _ _ qh7x0 (fun hHeld=>?_)
      clear hK K;refine normZ (some 23) ?_
      refine pZ 6 24 127 ?_
      refine last_Z 7 (none) (msk 8 255) HT_.out fun K hK=>?_
      have hs39:cq.cell? ⟨l,1,none⟩=some (u256001):=(blk_cell a.out 1).trans rfl;have hfs39:=blk_frozen a.out 1;have hns39_0:=ak.out;have hms39_0:=al.out
      refine skip_ (w1:=?_) (by rfl) rfl ?_ ?_
      rotate_left
      ·go_simp;rfl
      refine hK.out _ _ ?_;clear hK K
      refine done_ (done_of HT_.out (by kernel_rfl)) ?_
      try go_wp2_with (first|((with_reducible refine gF 27 ?_);refine gX (some 26) Try.func27 (spec_l10Read_takes.calls g s0_0 ae af 1 (⟨#[97,110,100]⟩ :ByteArray) true an ao c _ q7x2 q7x3 bD.out) ?_;rintro dm ⟨hi,hb,hk⟩;replace d:=aM (R_mono (R_keep (IsS35.apart (show IsS35 c _ g s0_0 ae af from q7x2) (by(with_reducible repeat(first|apply R_alloc|apply R_drewN|apply R_drew));exact(fR (R_types d.out a.out (by decide)) (fun _ h_=>h_.1))) (by decide)) hk (fun _ h=>h.2)) (fun _ h=>h.1));replace b:=bK hk b j.out;replace s:=aM (R_mono (R_keep (IsS35.apart (show IsS35 c _ g s0_0 ae af from q7x2) (by(with_reducible repeat(first|apply R_alloc|apply R_drewN|apply R_drew));exact(fR (R_types s.out a.out (by decide)) (fun _ h_=>h_.1))) (by decide)) hk (fun _ h=>h.2)) (fun _ h=>h.1));replace a:=aM (KeepBut.blk hk (g':=l) (o:= .cells #[.slice z q.length A,.slice bF L.length bG,.int .i64 0,.int .i64 0] 43 (0,0)) (kS a _) m.out (by simp));replace HK:=tK (w:=w) hk;replace HB:=aM hb;replace HI0:=aM hi;(try clear hb);(try clear hk);(try clear hi)))
      go_roundg k1
      case measure=>exact oK
      case rel=>exact⟨(an),(ao),(L),(.slice bF L.length bG),H',⟨oK⟩,⟨mR d⟩,⟨mR s⟩,⟨mK b⟩,⟨mK a⟩,⟨q7x2⟩,⟨cK⟩,⟨q7x3⟩⟩
     ·replace aQ:=Bool.eq_false_iff.mpr aQ;subst aQ;replace H:=iF H;replace H:=bE H;obtain⟨⟨aR,aT⟩,cr,H⟩:=H;(try dsimp only at H);replace H:=bE H;obtain⟨⟨a5,a6,aU,aV⟩,cs,H⟩:=H;(try dsimp only at H);replace H:=bE H;obtain⟨⟨ct,cu⟩,cv,H⟩:=H;(try dsimp only at H);simp only[Option.some.injEq,Prod.mk.injEq]at H;obtain⟨rfl,rfl,rfl,rfl,rfl,rfl⟩:=H;obtain⟨ASz44_0,cSz44_0,HGz44,hgz44,HSz44_0⟩:=HI0.out;have dn:=cellS35_0 HGz44;have dp:=cellS35_1 HGz44;have dq:=cellS35_2 HGz44;have dr:=blk_frozen HGz44 1;have dt:=blk_frozen HGz44 2;clear HGz44 hgz44
      try go_wp2
      replace d:=dR d;replace i:=dR i;replace b:=dB b;replace a:=dB a;replace HI0:=aM (IsS35.drew HI0.out);replace HK:=aM (keep_drew HK.out);replace HB:=dW HB
      refine sV 8 (fun w'=>w'.cell? ⟨l,0,none⟩=some (.slice z q.length A)∧w'.cell? ⟨l,1,none⟩=some (u256001)∧w'.cell? ⟨l,2,none⟩=some (.int .i64 0)∧w'.cell? ⟨l,3,none⟩=some (.int .i64 0)) (ds:=[7]) spec_l10Read_rule.tab5 spec_l10Read_rule.bits5 qh7x0 fun HT_ HW_ hHeld=>?_
      generalize wr.drew=du at d i b a HI0 HK HB hHeld ⊢;refine pZ 0 18 1 ?_;refine pZ 2 20 5 ?_;refine tZ 1 19 7 (y:=q7x4) (h:=?_)
      refine oZ 3 21 15 fun K hK=>?_
      refine eX Try.func32 (spec_l10Read_cond.calls k1 g s0_0 x false X Y aa ab ac ad ae af c _ q7x2 q7x3 bz.out) ?_
      rintro dv ⟨hi,hb,hk⟩
      replace d:=aM (R_mono (R_keep (IsS35.apart (show IsS35 c _ g s0_0 x false from q7x2) (mR d) (by decide)) hk (fun _ h=>h.2)) (fun _ h=>h.1))
      replace i:=aM (R_mono (R_keep (IsS35.apart (show IsS35 c _ g s0_0 x false from q7x2) (mR i) (by decide)) hk (fun _ h=>h.2)) (fun _ h=>h.1))
      replace b:=bK hk b j.out;replace a:=bK hk a m.out;replace HK:=tK (w:=w) hk;replace HB:=aM hb;replace HI0:=aM hi;(try clear hb);(try clear hk);(try clear hi)
      refine hK.out _ _ qh7x0 (fun hHeld=>?_)
      clear hK K;refine normZ (some 21) ?_
      refine oZ 4 22 31 fun K hK=>?_
      refine value_ (w1:=?_) (v:=?_) (by rfl) rfl ?_ ?_
      rotate_left 2
      ·go_simp;constructor
       ·rfl
       ·rfl
      refine hK.out _ _ qh7x1 (fun hHeld=>?_)
      clear hK K;refine normZ (some 22) ?_
      refine oZ 5 23 63 fun K hK=>?_
      refine R_append_step k66 w.heap.size (by rfl) (.tmp 19) (.tmp 22) 41 66 (.agg #[(.int .i64 0),(.int .i64 0),(.int .i64 0),(.int .i64 0),(.int .i64 0),(.int .i64 0)]) 48 rfl Try.underlying41 info66 rfl (by decide) (by omega) u256001 am (⟨X,(⟨Y,aa⟩ :S64),ab,(⟨ac,ad⟩ :S64)⟩ :S66) [.int .i64 X,.int .i64 Y,.int .i64 aa,.int .i64 ab,.int .i64 ac,.int .i64 ad] (fun _=>True) (fun _=>False) rfl rfl ?aP (fun _ hk=>hk.elim) ?aF ?aO (Below.refl _ _) ?aS ?aL ?_
      (case aP=>exact k66_mkM _ _ _ (⟨X,(⟨Y,aa⟩ :S64),ab,(⟨ac,ad⟩ :S64)⟩ :S66))
      (case aF=>exact(fun _ _=>trivial))
      (case aO=>exact(mR i))
      (case aS=>exact(keep_size (w:=w) (g:=g) (row:=none) cK))
      (case aL=>have:=bB.out;omega)
      intro cp cw ho hb hg hat;rw[← bC.out]at ho
      replace d:=aM (R_over' (mR d) (R_typed (mR i)) (by decide) hg)
      replace b:=kN b hg i b
      replace a:=kN a hg i a
      replace HB:=aM (below_weaken q7x3 HL.out hb)
      replace HI0:=aM (IsS35.grown q7x2 hg (IsS35.own_ne HI0.out i.out (by decide)))
      replace HK:=aM (KeepBut.trans (cK:KeepBut w _ g none) (KeepBut.of_grown hg g) (R_base2 i.out));have s:=aM ho;clear i ho hb hg hat;obtain⟨a7,a8,bI⟩:=R_slice s.out
      (first|subst bI|(injection bI with f1_ f2_ f3_;have f4_:=f1_.symm;have f5_:=f3_.symm;clear f1_ f2_ f3_;subst f4_;subst f5_))
      refine hK.out _ _ qh7x0 (fun hHeld=>?_)
      clear hK K;refine normZ (some 23) ?_
      refine pZ 6 24 127 ?_
      refine last_Z 7 (none) (msk 8 255) HT_.out fun K hK=>?_
      have hs49:cw.cell? ⟨l,1,none⟩=some (u256001):=(blk_cell a.out 1).trans rfl;have hfs49:=blk_frozen a.out 1;have hns49_0:=ak.out;have hms49_0:=al.out
      refine skip_ (w1:=?_) (by rfl) rfl ?_ ?_
      rotate_left
      ·go_simp;rfl
      refine hK.out _ _ ?_;clear hK K
      refine done_ (done_of HT_.out (by kernel_rfl)) ?_
      try go_wp2_with (first|((with_reducible refine gF 27 ?_);refine gX (some 26) Try.func27 (spec_l10Read_takes.calls g s0_0 ae af 1 (⟨#[97,110,100]⟩ :ByteArray) false an ao c _ q7x2 q7x3 bD.out) ?_;rintro dw ⟨hi,hb,hk⟩;replace d:=aM (R_mono (R_keep (IsS35.apart (show IsS35 c _ g s0_0 ae af from q7x2) (by(with_reducible repeat(first|apply R_alloc|apply R_drewN|apply R_drew));exact(fR (R_types d.out a.out (by decide)) (fun _ h_=>h_.1))) (by decide)) hk (fun _ h=>h.2)) (fun _ h=>h.1));replace b:=bK hk b j.out;replace s:=aM (R_mono (R_keep (IsS35.apart (show IsS35 c _ g s0_0 ae af from q7x2) (by(with_reducible repeat(first|apply R_alloc|apply R_drewN|apply R_drew));exact(fR (R_types s.out a.out (by decide)) (fun _ h_=>h_.1))) (by decide)) hk (fun _ h=>h.2)) (fun _ h=>h.1));replace a:=aM (KeepBut.blk hk (g':=l) (o:= .cells #[.slice z q.length A,.slice a7 L.length a8,.int .i64 0,.int .i64 0] 43 (0,0)) (kS a _) m.out (by simp));replace HK:=tK (w:=w) hk;replace HB:=aM hb;replace HI0:=aM hi;(try clear hb);(try clear hk);(try clear hi))|((with_reducible refine gF 10 ?_);refine gX (some 29) Try.func10 (spec_l10Read_wants.calls g s0_0 an ao 1 (⟨#[100,111]⟩ :ByteArray) aR aT c _ q7x2 q7x3 cr.out) ?_;rintro dx ⟨hi,hb,hk⟩;replace d:=aM (R_mono (R_keep (IsS35.apart (show IsS35 c _ g s0_0 an ao from q7x2) (mR d) (by decide)) hk (fun _ h=>h.2)) (fun _ h=>h.1));replace b:=bK hk b j.out;replace a:=bK hk a m.out;replace s:=aM (R_mono (R_keep (IsS35.apart (show IsS35 c _ g s0_0 an ao from q7x2) (mR s) (by decide)) hk (fun _ h=>h.2)) (fun _ h=>h.1));replace HK:=tK (w:=w) hk;replace HB:=aM hb;replace HI0:=aM hi;(try clear hb);(try clear hk);(try clear hi))|((with_reducible refine gF 12 ?_);refine gX (some 32) Try.func12 (spec_l10Read_action.calls k1 g s0_0 aR aT a5 a6 aU aV c _ q7x2 q7x3 cs.out) ?_;rintro dy ⟨hi,hb,hk⟩;replace d:=aM (R_mono (R_keep (IsS35.apart (show IsS35 c _ g s0_0 aR aT from q7x2) (mR d) (by decide)) hk (fun _ h=>h.2)) (fun _ h=>h.1));replace b:=bK hk b j.out;replace a:=bK hk a m.out;replace s:=aM (R_mono (R_keep (IsS35.apart (show IsS35 c _ g s0_0 aR aT from q7x2) (mR s) (by decide)) hk (fun _ h=>h.2)) (fun _ h=>h.1));replace HK:=tK (w:=w) hk;replace HB:=aM hb;replace HI0:=aM hi;(try clear hb);(try clear hk);(try clear hi);have hnb53:=al.out;have hnc53:=ak.out;have hnb54:=m.out;have hnc54:=ax.out;obtain⟨dz,dC,dD,dE,dF,dG,dH,dI⟩:=cz4 a)|((with_reducible refine gF 10 ?_);refine gX (some 40) Try.func10 (spec_l10Read_wants.calls g s0_0 aU aV 3 (⟨#[59]⟩ :ByteArray) ct cu c _ q7x2 q7x3 cv.out) ?_;rintro dJ ⟨hi,hb,hk⟩;replace d:=aM (R_mono (R_keep (IsS35.apart (show IsS35 c _ g s0_0 aU aV from q7x2) (by(with_reducible repeat(first|apply R_alloc|apply R_drewN|apply R_drew));exact(fR (R_types d.out a.out (by decide)) (fun _ h_=>h_.1))) (by decide)) hk (fun _ h=>h.2)) (fun _ h=>h.1));replace b:=bK hk b j.out;replace s:=aM (R_mono (R_keep (IsS35.apart (show IsS35 c _ g s0_0 aU aV from q7x2) (by(with_reducible repeat(first|apply R_alloc|apply R_drewN|apply R_drew));exact(fR (R_types s.out a.out (by decide)) (fun _ h_=>h_.1))) (by decide)) hk (fun _ h=>h.2)) (fun _ h=>h.1));replace a:=aM (KeepBut.blk hk (g':=l) (o:= .cells #[.slice z q.length A,.slice a7 L.length a8,.int .i64 a5,.int .i64 a6] 43 (0,0)) (kS a _) m.out (by simp));replace HK:=tK (w:=w) hk;replace HB:=aM hb;replace HI0:=aM hi;(try clear hb);(try clear hk);(try clear hi);obtain⟨dK,dL,dM,dN,dO,dP,dQ,dS⟩:=cz4 a;have hnb58:=j.out;have hnc58:=aE.out;obtain⟨dT,dU,dV,dX,dY,dZ,d0,d1⟩:=cz4 b))
      refine bodyPost_ret (results_cell_row rfl _ _ M 43 #[.slice z q.length A,.slice a7 L.length a8,.int .i64 a5,.int .i64 a6] (0,0) _ rfl (kS b _) Try.underlying43 rfl (by kernel_rfl)) rfl ?_
      exact⟨_,_,rE,fR (R_types d.out b.out (by decide)) (fun _ hk=>trivial),fR (R_types s.out b.out (by decide)) (fun _ hk=>trivial),q7x2,q7x3,cK⟩
 ·replace I:=Bool.eq_false_iff.mpr I;subst I;replace H:=iF H;replace H:=bE H;obtain⟨⟨a9,ba⟩,cx,H⟩:=H;(try dsimp only at H);replace H:=bE H;obtain⟨⟨bb,bd,be,bf⟩,cy,H⟩:=H;(try dsimp only at H);replace H:=bE H;obtain⟨⟨cz,cA⟩,cD,H⟩:=H;(try dsimp only at H);simp only[Option.some.injEq,Prod.mk.injEq]at H;obtain⟨rfl,rfl,rfl,rfl,rfl,rfl⟩:=H;go_enter Try.func13,Try.ntmps13
  go_wp2_with (first|((with_reducible refine gN 2 ?_);refine boxZ 2 #[.slice none 0 0,.slice none 0 0,.int .i64 0,.int .i64 0] 43 ?_;intro M hg d2 hbox hb;replace HB:=aM (below_step q7x1 hb);have b:=aM hbox;have GW247:=gK (w:=w) hg;have GE247:=gW HW0 hg;replace HK:=aM (KeepBut.trans (cK:KeepBut w _ g none) (KeepBut.of_below hb g none) (.inl rfl));have aE:=aM ((by rw[hg];exact Nat.ne_of_lt (IsS35.lt (show IsS35 c _ g s0_0 s0_1 s0_2 from q7x0)):g≠M));have j:=aM ((by rw[hg];exact Nat.ne_of_gt (IsS35.lt (show IsS35 c _ g s0_0 s0_1 s0_2 from q7x0)):M≠g));replace HI0:=aM (IsS35.below q7x0 hb);clear hb hbox hg)|((with_reducible refine gF 10 ?_);refine gX (some 7) Try.func10 (spec_l10Read_wants.calls g s0_0 s0_1 s0_2 1 (⟨#[111,110]⟩ :ByteArray) aC aD c _ q7x2 q7x3 D.out) ?_;rintro d3 ⟨hi,hb,hk⟩;replace b:=bK hk b j.out;replace HK:=tK (w:=w) hk;replace HB:=aM hb;replace HI0:=aM hi;(try clear hb);(try clear hk);(try clear hi))|((with_reducible refine gF 31 ?_);refine gY (some 9) Try.func31 (spec_l10Read_nums.calls k g s0_0 aC aD q E G c _ q7x2 q7x3 ar.out) ?_;rintro bS d4 ⟨aw,hi,hb,hk⟩;replace b:=bK hk b j.out;have p:=aM (R_lower aw (keep_size (w:=w) (g:=g) (row:=none) cK));replace HK:=tK (w:=w) hk;replace HB:=aM hb;replace HI0:=aM hi;(try clear hb);(try clear hk);(try clear hi);(try clear aw);obtain⟨bg,bh,cE⟩:=R_slice p.out;subst cE)|((with_reducible refine gN 3 ?_);refine boxZ 3 #[.slice none 0 0,.slice none 0 0,.int .i64 0,.int .i64 0] 43 ?_;intro l hg d5 hbox hb;replace p:=rB p hb;replace HB:=aM (below_step q7x3 hb);have a:=aM hbox;have GW255:=gK (w:=w) hg;have GE255:=gW HW0 hg;replace HK:=aM (KeepBut.trans (cK:KeepBut w _ g none) (KeepBut.of_below hb g none) (.inl rfl));have ak:=nL hg b;have al:=nG hg b;replace b:=kB b hb;have ax:=aM ((by rw[hg];exact Nat.ne_of_lt (IsS35.lt (show IsS35 c _ g s0_0 E G from q7x2)):g≠l));have m:=aM ((by rw[hg];exact Nat.ne_of_gt (IsS35.lt (show IsS35 c _ g s0_0 E G from q7x2)):l≠g));replace HI0:=aM (IsS35.below q7x2 hb);clear hb hbox hg;have hnb68:=al.out;have hnc68:=ak.out;have hnb69:=m.out;have hnc69:=ax.out;obtain⟨d6,d7,d8,d9,ea,eb,ec,ed⟩:=cz4 a)|((with_reducible refine gF 27 ?_);refine gX (some 12) Try.func27 (spec_l10Read_takes.calls g s0_0 E G 1 (⟨#[105,102]⟩ :ByteArray) false au av c _ q7x2 q7x3 W.out) ?_;rintro ee ⟨hi,hb,hk⟩;replace b:=bK hk b j.out;replace p:=aM (R_mono (R_keep (IsS35.apart (show IsS35 c _ g s0_0 E G from q7x2) (by(with_reducible repeat(first|apply R_alloc|apply R_drewN|apply R_drew));exact(fR (R_types p.out a.out (by decide)) (fun _ h_=>h_.1))) (by decide)) hk (fun _ h=>h.2)) (fun _ h=>h.1));replace a:=aM (KeepBut.blk hk (g':=l) (o:= .cells #[.slice bg q.length bh,.slice none 0 0,.int .i64 0,.int .i64 0] 43 (0,0)) (kS a _) m.out (by simp));replace HK:=tK (w:=w) hk;replace HB:=aM hb;replace HI0:=aM hi;(try clear hb);(try clear hk);(try clear hi))|((with_reducible refine gF 10 ?_);refine gX (some 29) Try.func10 (spec_l10Read_wants.calls g s0_0 au av 1 (⟨#[100,111]⟩ :ByteArray) a9 ba c _ q7x2 q7x3 cx.out) ?_;rintro ef ⟨hi,hb,hk⟩;replace b:=bK hk b j.out;replace p:=aM (R_mono (R_keep (IsS35.apart (show IsS35 c _ g s0_0 au av from q7x2) (mR p) (by decide)) hk (fun _ h=>h.2)) (fun _ h=>h.1));replace a:=bK hk a m.out;replace HK:=tK (w:=w) hk;replace HB:=aM hb;replace HI0:=aM hi;(try clear hb);(try clear hk);(try clear hi))|((with_reducible refine gF 12 ?_);refine gX (some 32) Try.func12 (spec_l10Read_action.calls k g s0_0 a9 ba bb bd be bf c _ q7x2 q7x3 cy.out) ?_;rintro eg ⟨hi,hb,hk⟩;replace b:=bK hk b j.out;replace p:=aM (R_mono (R_keep (IsS35.apart (show IsS35 c _ g s0_0 a9 ba from q7x2) (mR p) (by decide)) hk (fun _ h=>h.2)) (fun _ h=>h.1));replace a:=bK hk a m.out;replace HK:=tK (w:=w) hk;replace HB:=aM hb;replace HI0:=aM hi;(try clear hb);(try clear hk);(try clear hi);obtain⟨eh,ei,ej,ek,el,em,en,eo⟩:=cz4 a)|((with_reducible refine gF 10 ?_);refine gX (some 40) Try.func10 (spec_l10Read_wants.calls g s0_0 be bf 3 (⟨#[59]⟩ :ByteArray) cz cA c _ q7x2 q7x3 cD.out) ?_;rintro ep ⟨hi,hb,hk⟩;replace b:=bK hk b j.out;replace p:=aM (R_mono (R_keep (IsS35.apart (show IsS35 c _ g s0_0 be bf from q7x2) (by(with_reducible repeat(first|apply R_alloc|apply R_drewN|apply R_drew));exact(fR (R_types p.out a.out (by decide)) (fun _ h_=>h_.1))) (by decide)) hk (fun _ h=>h.2)) (fun _ h=>h.1));replace a:=aM (KeepBut.blk hk (g':=l) (o:= .cells #[.slice bg q.length bh,.slice none 0 0,.int .i64 bb,.int .i64 bd] 43 (0,0)) (kS a _) m.out (by simp));replace HK:=tK (w:=w) hk;replace HB:=aM hb;replace HI0:=aM hi;(try clear hb);(try clear hk);(try clear hi);obtain⟨eq,er,es,et,eu,ev,ew,ex⟩:=cz4 a;have hnb77:=j.out;have hnc77:=aE.out;obtain⟨ey,ez,eA,eC,eD,eE,eG,eH⟩:=cz4 b))
  refine bodyPost_ret (results_cell_row rfl _ _ M 43 #[.slice bg q.length bh,.slice none 0 0,.int .i64 bb,.int .i64 bd] (0,0) _ rfl (kS b _) Try.underlying43 rfl (by kernel_rfl)) rfl ?_
  exact⟨_,_,rE,fR (R_types p.out b.out (by decide)) (fun _ hk=>trivial),by first|exact R_nil _ _ _ _ _|exact N_nil _ _ _ _ _|exact V_nil _ _ _ _ _|exact Q_nil _ _ _ _ _|exact S_nil _ _ _ _ _,q7x2,q7x3,cK⟩
def spec_l09Act.f (aW:Int) (aX:Int):Option (Bool):=(spec_l01In.f aW 0 5).bind fun bi=>(if bi=true then((spec_l01In.f aX 0 65535).bind fun bJ=>(some bJ))else(some false))
set_option maxHeartbeats 8000000 in
set_option maxRecDepth 100000 in
theorem spec_l09Act.calls {aW:Int}{aX:Int}{r:Bool}{w:World}(h:spec_l09Act.f aW aX=some r) :
 Calls Try.prog 34 #[.int .i64 aW,.int .i64 aX] w fun e w'=>e= .returned (.bool r)∧Drawn0 w w':=by
 unfold spec_l09Act.f at h;have H:=h
 clear h;replace H:=bE H;obtain⟨bi,ar,H⟩:=H;by_cases aY:bi=true
 ·subst aY;replace H:=iT H;replace H:=bE H;obtain⟨bJ,cF,H⟩:=H;obtain rfl:=Option.some.inj H;go_enter Try.func34,Try.ntmps34
  go_wp2_with (first|((with_reducible refine gF 54 ?_);refine gX (some 6) Try.func54 (spec_l01In.calls ar.out) ?_;rintro w' ⟨nd,rfl⟩)|(go_at_call 54;(with_reducible refine(spec_l01In.calls cF.out).mono ?_);rintro e w' ⟨rfl,⟨nd,rfl⟩⟩))
  go_ret
  exact⟨by first|rfl|(simp;done)|(simp[*];done),by repeat(first|exact Drawn0.refl _|apply Drawn0.step)⟩
 ·replace aY:=Bool.eq_false_iff.mpr aY;subst aY;replace H:=iF H;obtain rfl:=Option.some.inj H;go_enter Try.func34,Try.ntmps34
  go_wp2_with (first|((with_reducible refine gF 54 ?_);refine gX (some 6) Try.func54 (spec_l01In.calls ar.out) ?_;rintro w' ⟨nd,rfl⟩))
  go_ret
  exact⟨by first|rfl|(simp;done)|(simp[*];done),by repeat(first|exact Drawn0.refl _|apply Drawn0.step)⟩
def spec_WideOk.f (t:Int) (u:Int):Option (Bool):=(spec_HalfOk.f t).bind fun bj=>(if bj=true then((spec_HalfOk.f u).bind fun bL=>(some bL))else(some false))
set_option maxHeartbeats 8000000 in
set_option maxRecDepth 100000 in
theorem spec_WideOk.calls {t:Int}{u:Int}{r:Bool}{w:World}(h:spec_WideOk.f t u=some r) :
 Calls Try.prog 76 #[.agg #[.int .i64 t,.int .i64 u]] w fun e w'=>e= .returned (.bool r)∧Below w.heap.size w w':=by
 have hu64:=Try.underlying64;have HB:=rW w
 unfold spec_WideOk.f at h;have H:=h
 clear h;replace H:=bE H;obtain⟨bj,D,H⟩:=H;by_cases O:bj=true
 ·subst O;replace H:=iT H;replace H:=bE H;obtain⟨bL,W,H⟩:=H;obtain rfl:=Option.some.inj H;go_enter Try.func76,Try.ntmps76
  go_wp2_with (first|((with_reducible refine gN 1 ?_);refine boxZ 1 #[.int .i64 t,.int .i64 u] 64 ?_;intro cG hg eI hbox hb;have bk:=aM hbox;have GW299:=gS hg;have GE299:=gS hg;replace HB:=sB hb;clear hb hbox hg;obtain⟨eJ,eK,eL,eM⟩:=cz2 bk)|((with_reducible refine gF 25 ?_);refine gX (some 5) Try.func25 (spec_HalfOk.calls D.out) ?_;rintro w' ⟨nd,rfl⟩)|(go_at_call 25;(with_reducible refine(spec_HalfOk.calls W.out).mono ?_);rintro e w' ⟨rfl,⟨nd,rfl⟩⟩))
  go_ret;exact⟨rE,cB⟩
 ·replace O:=Bool.eq_false_iff.mpr O;subst O;replace H:=iF H;obtain rfl:=Option.some.inj H;go_enter Try.func76,Try.ntmps76
  go_wp2_with (first|((with_reducible refine gN 1 ?_);refine boxZ 1 #[.int .i64 t,.int .i64 u] 64 ?_;intro cG hg bR hbox hb;have bk:=aM hbox;have GW299:=gS hg;have GE299:=gS hg;replace HB:=sB hb;clear hb hbox hg;obtain⟨eN,eO,eP,eQ⟩:=cz2 bk)|((with_reducible refine gF 25 ?_);refine gX (some 5) Try.func25 (spec_HalfOk.calls D.out) ?_;rintro w' ⟨nd,rfl⟩))
  go_ret;exact⟨rE,cB⟩
def spec_CondOk.f (t:Int) (u:Int) (ag:Int) (ah:Int) (ai:Int) (aj:Int):Option (Bool):=(spec_l01In.f t 0 2).bind fun bl=>(if bl=true then((spec_WideOk.f u ag).bind fun bm=>(if bm=true then((spec_WideOk.f ai aj).bind fun bn=>(if bn=true then((spec_l01In.f ah 1 6).bind fun bM=>(some bM))else(some false)))else(some false)))else(some false))
set_option maxHeartbeats 8000000 in
set_option maxRecDepth 100000 in
theorem spec_CondOk.calls {t:Int}{u:Int}{ag:Int}{ah:Int}{ai:Int}{aj:Int}{r:Bool}{w:World}(h:spec_CondOk.f t u ag ah ai aj=some r) :
 Calls Try.prog 62 #[.agg #[.int .i64 t,.int .i64 u,.int .i64 ag,.int .i64 ah,.int .i64 ai,.int .i64 aj]] w fun e w'=>e= .returned (.bool r)∧Below w.heap.size w w':=by
 have hu66:=Try.underlying66;have hu64:=Try.underlying64;have HB:=rW w
 unfold spec_CondOk.f at h;have H:=h
 clear h;replace H:=bE H;obtain⟨bl,D,H⟩:=H;by_cases O:bl=true
 ·subst O;replace H:=iT H;replace H:=bE H;obtain⟨bm,W,H⟩:=H;by_cases I:bm=true
  ·subst I;replace H:=iT H;replace H:=bE H;obtain⟨bn,bN,H⟩:=H;by_cases aZ:bn=true
   ·subst aZ;replace H:=iT H;replace H:=bE H;obtain⟨bM,cI,H⟩:=H;obtain rfl:=Option.some.inj H;go_enter Try.func62,Try.ntmps62
    go_wp2_with (first|((with_reducible refine gN 1 ?_);refine boxZ 1 #[.int .i64 t,.int .i64 u,.int .i64 ag,.int .i64 ah,.int .i64 ai,.int .i64 aj] 66 ?_;intro bo hg eR hbox hb;have n:=aM hbox;have GW302:=gS hg;have GE302:=gS hg;replace HB:=sB hb;clear hb hbox hg;obtain⟨eS,eU,eW,eZ,e0,e1,e2,e3,e4,e5,e6,e7⟩:=cz6 n)|((with_reducible refine gF 54 ?_);refine gX (some 5) Try.func54 (spec_l01In.calls D.out) ?_;rintro w' ⟨nd,rfl⟩)|(go_at_call 76;(with_reducible refine(spec_WideOk.calls W.out).mono ?_);rintro e e8 ⟨rfl,hb⟩;replace n:=kB n hb;replace HB:=sB hb;(try clear hb);obtain⟨e9,fa,fb,fc,fd,fe,ff,fg,fh,fi,fj,fk⟩:=cz6 n)|(go_at_call 76;(with_reducible refine(spec_WideOk.calls bN.out).mono ?_);rintro e fl ⟨rfl,hb⟩;replace n:=kB n hb;replace HB:=sB hb;(try clear hb);obtain⟨fm,fn,fo,fp,fq,fr,fs,ft,fu,fv,fw,fx⟩:=cz6 n)|(go_at_call 54;(with_reducible refine(spec_l01In.calls cI.out).mono ?_);rintro e w' ⟨rfl,⟨nd,rfl⟩⟩))
    go_ret;exact⟨rE,cB⟩
   ·replace aZ:=Bool.eq_false_iff.mpr aZ;subst aZ;replace H:=iF H;obtain rfl:=Option.some.inj H;go_enter Try.func62,Try.ntmps62
    go_wp2_with (first|((with_reducible refine gN 1 ?_);refine boxZ 1 #[.int .i64 t,.int .i64 u,.int .i64 ag,.int .i64 ah,.int .i64 ai,.int .i64 aj] 66 ?_;intro bo hg fy hbox hb;have n:=aM hbox;have GW302:=gS hg;have GE302:=gS hg;replace HB:=sB hb;clear hb hbox hg;obtain⟨fz,fA,fB,fC,fD,fE,fF,fG,fH,fI,fJ,fK⟩:=cz6 n)|((with_reducible refine gF 54 ?_);refine gX (some 5) Try.func54 (spec_l01In.calls D.out) ?_;rintro w' ⟨nd,rfl⟩)|(go_at_call 76;(with_reducible refine(spec_WideOk.calls W.out).mono ?_);rintro e fL ⟨rfl,hb⟩;replace n:=kB n hb;replace HB:=sB hb;(try clear hb);obtain⟨fM,fN,fO,fP,fS,fT,fU,fV,fW,fX,fY,fZ⟩:=cz6 n)|(go_at_call 76;(with_reducible refine(spec_WideOk.calls bN.out).mono ?_);rintro e f0 ⟨rfl,hb⟩;replace n:=kB n hb;replace HB:=sB hb;(try clear hb)))
    go_ret;exact⟨rE,cB⟩
  ·replace I:=Bool.eq_false_iff.mpr I;subst I;replace H:=iF H;obtain rfl:=Option.some.inj H;go_enter Try.func62,Try.ntmps62
   go_wp2_with (first|((with_reducible refine gN 1 ?_);refine boxZ 1 #[.int .i64 t,.int .i64 u,.int .i64 ag,.int .i64 ah,.int .i64 ai,.int .i64 aj] 66 ?_;intro bo hg cc hbox hb;have n:=aM hbox;have GW302:=gS hg;have GE302:=gS hg;replace HB:=sB hb;clear hb hbox hg;obtain⟨f1,f2,f3,f4,f5,f6,f7,f8,f9,ga,gb,gc⟩:=cz6 n)|((with_reducible refine gF 54 ?_);refine gX (some 5) Try.func54 (spec_l01In.calls D.out) ?_;rintro w' ⟨nd,rfl⟩)|(go_at_call 76;(with_reducible refine(spec_WideOk.calls W.out).mono ?_);rintro e gf ⟨rfl,hb⟩;replace n:=kB n hb;replace HB:=sB hb;(try clear hb)))
   go_ret;exact⟨rE,cB⟩
 ·replace O:=Bool.eq_false_iff.mpr O;subst O;replace H:=iF H;obtain rfl:=Option.some.inj H;go_enter Try.func62,Try.ntmps62
  go_wp2_with (first|((with_reducible refine gN 1 ?_);refine boxZ 1 #[.int .i64 t,.int .i64 u,.int .i64 ag,.int .i64 ah,.int .i64 ai,.int .i64 aj] 66 ?_;intro bo hg gg hbox hb;have n:=aM hbox;have GW302:=gS hg;have GE302:=gS hg;replace HB:=sB hb;clear hb hbox hg;obtain⟨cd,ce,cf,cg,gh,gi,ch,ci,cj,ck,gj,gl⟩:=cz6 n)|((with_reducible refine gF 54 ?_);refine gX (some 5) Try.func54 (spec_l01In.calls D.out) ?_;rintro w' ⟨nd,rfl⟩))
  go_ret;exact⟨rE,cB⟩
end Go.Proofs.Ytfhjjfibblcklaa.PFnExactReadPolicy
