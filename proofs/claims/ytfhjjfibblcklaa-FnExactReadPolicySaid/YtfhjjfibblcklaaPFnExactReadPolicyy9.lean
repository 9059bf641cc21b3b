import Derived.Test.YtfhjjfibblcklaaPFnExactReadPolicyy0
import Derived.Test.YtfhjjfibblcklaaPFnExactReadPolicyy2
import Derived.Test.YtfhjjfibblcklaaPFnExactReadPolicyy3
import Derived.Test.YtfhjjfibblcklaaPFnExactReadPolicyy7
import Derived.Test.YtfhjjfibblcklaaPFnExactReadPolicyy8
namespace Go.Proofs.Ytfhjjfibblcklaa.PFnExactReadPolicy
open Go.RowKit Go.Proofs.YtfhjjfibblcklaaW.PrintWords Go.Proofs.YtfhjjfibblcklaaW.PrintLast Go.Proofs.YtfhjjfibblcklaaW.PrintMore Go.Proofs.YtfhjjfibblcklaaW.Z
open Kd
attribute [local go_sem] isS max2_int min2_int max_two min_two max_three min_three max_four min_four
set_option linter.unusedVariables false
set_option linter.unusedSimpArgs false
theorem qh9x0 {P:Prop} (h:P:=by exact⟨(blk_cell b.out 0).trans rfl,(blk_cell b.out 1).trans rfl,(blk_cell b.out 2).trans rfl,(blk_cell b.out 3).trans rfl⟩):P:=h
def spec_ReadPolicy.l0:Nat→List (S54)→Int→Bool→Int→Int→Int→List (S43)→Option (Int×Int×Int×(List (S43))×Bool)
  | 0,_,_,_,_,_,_,_=>none
  | k+1,af,ao,ap,ag,ah,ai,O=>if ap=true then(some (0,0,0,([] :List (S43)),false))else(if ao<(af.length:Int)then((spec_l10Read_rule.f k af ao ap).bind fun x=>(if O.length<2199023255552 then(spec_ReadPolicy.l0 k af x.2.2.2.2.1 x.2.2.2.2.2 ag ah ai (O ++ [(⟨x.1,x.2.1,x.2.2.1,x.2.2.2.1⟩ :S43)]))else(none)))else((spec_PolicyOk.f k ag ah ai O).bind fun aj=>(if aj=true then(some (ag,ah,ai,O,true))else(some (0,0,0,([] :List (S43)),false)))))
def spec_ReadPolicy.f (k:Nat) (U:ByteArray):Option (Int×Int×Int×(List (S43))×Bool):=(spec_SignsOf.f k U).bind fun m=>(if m.2=true then((spec_l10Read_wants.f m.1 0 false 1 (⟨#[97,114,99,104]⟩ :ByteArray)).bind fun aq=>((spec_l10Read_num.f m.1 aq.1 aq.2).bind fun ak=>((spec_l10Read_wants.f m.1 ak.2.1 ak.2.2 3 (⟨#[59]⟩ :ByteArray)).bind fun ar=>((spec_l10Read_wants.f m.1 ar.1 ar.2 1 (⟨#[100,101,102,97,117,108,116]⟩ :ByteArray)).bind fun au=>((spec_l10Read_action.f k m.1 au.1 au.2).bind fun W=>((spec_l10Read_wants.f m.1 W.2.2.1 W.2.2.2 3 (⟨#[59]⟩ :ByteArray)).bind fun av=>(spec_ReadPolicy.l0 k m.1 av.1 av.2 ak.1 W.1 W.2.1 ([] :List (S43)))))))))else(some (0,0,0,([] :List (S43)),false)))
def spec_ReadPolicy.T13:Bool×List (List Nat×List Nat):=(true,[([],[]),([0],[0]),([1],[1]),([2],[2]),([3],[3]),([4],[4]),([5],[5]),([6,5],[5,6]),([7,5],[5,7]),([8,5],[5,8]),([5],[5]),([10,5],[5,10]),([11,5],[5,11]),([12,5],[5,12]),([13,5],[5,13]),([9,14,5],[5,9,14]),([5,15],[5,15])])
def spec_ReadPolicy.B13:List Nat:=[0,1,3,7,15,31,63,127,255,511,63,1087,3135,7231,15423,32767,65535]
theorem spec_ReadPolicy.tab13:rtab .any (opsOf Try.f4 13)=spec_ReadPolicy.T13:=by kernel_rfl
theorem spec_ReadPolicy.bits13:waitsOk spec_ReadPolicy.T13.2 spec_ReadPolicy.B13=true:=by kernel_rfl
def spec_ReadPolicy.T14:Bool×List (List Nat×List Nat):=(true,[([],[]),([0],[0]),([],[]),([2],[2]),([3],[3]),([1,4,3],[1,4]),([0,1,2,3,4,5],[]),([6,5,5,0,1,2,3,4,5],[5,6])])
def spec_ReadPolicy.B14:List Nat:=[0,1,0,4,12,31,63,127]
theorem spec_ReadPolicy.tab14:rtab .any (opsOf Try.f4 14)=spec_ReadPolicy.T14:=by kernel_rfl
theorem spec_ReadPolicy.bits14:waitsOk spec_ReadPolicy.T14.2 spec_ReadPolicy.B14=true:=by kernel_rfl
theorem q9x0 {P:Prop} (h:P:=by repeat(first|(with_reducible first|exact HI325.out|apply IsS35.alloc|apply IsS35.drewN|apply IsS35.drew|apply IsS35.set_1|apply IsS35.set_2|(apply IsS35.far;case hne=>exact(Aside0.out (by assumption))))|exact HI325.out)):P:=h
theorem q9x1 {P:Prop} (h:P:=by repeat(first|(with_reducible first|exact HB.out|apply below_alloc|apply pw_below_drewN|apply below_drew1|refine below_set ?_ (IsS35.ge HI325.out)|refine below_set ?_ (Aside0.out (by assumption)))|exact HB.out)):P:=h
theorem q9x2 {P:Prop} (h:P:=by
 rintro w' ⟨s0,s1,s2⟩
 go_simp
 with_reducible rfl):P:=h
theorem q9x3 {P:Prop} (h:P:=by
 rintro w' ⟨s0,s1,s2,s3⟩
 go_simp
 with_reducible rfl):P:=h
set_option maxHeartbeats 8000000 in
set_option maxRecDepth 100000 in
theorem spec_ReadPolicy.calls (k:Nat) (U:ByteArray) (r1:Int) (r2:Int) (r3:Int) (r4:List (S43)) (r5:Bool) (wq:World) (h:spec_ReadPolicy.f k U=some (r1,r2,r3,r4,r5)) :
 Calls Try.prog 4 #[.string U] wq fun e w'=> ∃ v3_:Value,e= .returned (.tuple #[.agg #[.int .i64 r1,.int .i64 r2,.int .i64 r3,v3_],.bool r5])∧Kd.S k43 43 w' wq.heap.size (fun _=>True) v3_ r4∧Below wq.heap.size wq w':=by
 have hu24:=Try.underlying24;have hu35:=Try.underlying35;have HB:=aM (Below.refl wq.heap.size wq)
 unfold spec_ReadPolicy.f at h;have H:=h
 clear h;replace H:=bE H;obtain⟨⟨d,a5⟩,aw,H⟩:=H;(try dsimp only at H);by_cases E:a5=true
 ·subst E;replace H:=iT H;replace H:=bE H;obtain⟨⟨ax,ay⟩,a6,H⟩:=H;(try dsimp only at H);replace H:=bE H;obtain⟨⟨n,X,Y⟩,a7,H⟩:=H;(try dsimp only at H);replace H:=bE H;obtain⟨⟨az,aA⟩,a8,H⟩:=H;(try dsimp only at H);replace H:=bE H;obtain⟨⟨aC,aD⟩,a9,H⟩:=H;(try dsimp only at H);replace H:=bE H;obtain⟨⟨r,s,aE,aG⟩,ba,H⟩:=H;(try dsimp only at H);replace H:=bE H;obtain⟨⟨aH,aI⟩,bb,H⟩:=H;(try dsimp only at H);have H':=aM H;clear H;go_enter Try.func4,Try.ntmps4
  go_wp2_with (first|((with_reducible refine gN 2 ?_);(try(refine gate_guard (by rfl) ?_;dsimp only));refine boxZ 2 #[.int .i64 0,.int .i64 0,.int .i64 0,.slice none 0 0] 24 ?_;intro g hg bI hbox hb;have a:=aM hbox;have GW320:=aM ((by rw[hg];exact(below_size cB):wq.heap.size≤g));have GE320:=aM ((by rw[hg];exact(below_size cB):wq.heap.size≤g));replace HB:=sB hb;clear hb hbox hg)|((with_reducible refine gF 9 ?_);refine gY (some 12) Try.func9 (spec_SignsOf.calls aw.out) ?_;rintro bd w ⟨l,hb⟩;have G:=rL l;replace a:=kB a hb;replace HB:=sB hb;(try clear hb);(try clear l);obtain⟨be,bf,bg⟩:=R_slice G.out;subst bg;obtain⟨Az326,eAz326⟩ : ∃ a_,a_=be:=⟨_,rfl⟩;subst eAz326;obtain⟨cz326,ecz326⟩ : ∃ a_,a_=bf:=⟨_,rfl⟩;subst ecz326;have HCz326:=aM (rY G);have HRz326:=aM (R_reads' G.out).2.2;clear G;have HBQ:=aM (show Below wq.heap.size wq w from cB);clear HB;have HB:=rW w)|((with_reducible refine gN 20 ?_);(try(refine gate_guard (by rfl) ?_;dsimp only));refine boxZ 20 #[.slice Az326 d.length cz326,.int .i64 0,.bool false] 35 ?_;intro g325 hg bh hbox hb;have HI325:=aM ((show IsS35 w bh g325 d 0 false from ⟨Az326,cz326,hbox,by rw[hg];exact(below_size cB),HRz326.out⟩));replace HB:=sB hb;have t:=nL hg a;have bJ:=nG hg a;replace a:=kB a hb;clear hb hbox hg)|((with_reducible refine gF 10 ?_);refine gX (some 22) Try.func10 (spec_l10Read_wants.calls g325 d 0 false 1 (⟨#[97,114,99,104]⟩ :ByteArray) ax ay w _ q9x0 q9x1 a6.out) ?_;rintro bL ⟨hi,hb,hk⟩;replace a:=bK hk a t.out;replace HB:=aM hb;replace HI325:=aM hi;(try clear hb);(try clear hk);(try clear hi))|((with_reducible refine gF 11 ?_);refine gX (some 24) Try.func11 (spec_l10Read_num.calls g325 d ax ay n X Y w _ q9x0 q9x1 a7.out) ?_;rintro bM ⟨hi,hb,hk⟩;replace a:=bK hk a t.out;replace HB:=aM hb;replace HI325:=aM hi;(try clear hb);(try clear hk);(try clear hi))|((with_reducible refine gN 7 ?_);(try(refine gate_guard (by rfl) ?_;dsimp only));refine boxZ 7 #[.int .i64 0,.int .i64 0,.int .i64 0,.slice none 0 0] 24 ?_;intro i hg bN hbox hb;have b:=aM hbox;have GW332:=aM ((by rw[hg];exact(below_size q9x1):w.heap.size≤i));have GE332:=aM ((by rw[hg];exact(below_size q9x1):w.heap.size≤i));replace HB:=aM (below_step q9x1 hb);have I:=nL hg a;have J:=nG hg a;replace a:=kB a hb;have al:=aM ((by rw[hg];exact Nat.ne_of_lt (IsS35.lt (show IsS35 w _ g325 d X Y from q9x0)):g325≠i));have q:=aM ((by rw[hg];exact Nat.ne_of_gt (IsS35.lt (show IsS35 w _ g325 d X Y from q9x0)):i≠g325));replace HI325:=aM (IsS35.below q9x0 hb);clear hb hbox hg;have hnb17:=J.out;have hnc17:=I.out;have hnb18:=q.out;have hnc18:=al.out;obtain⟨bi,bj,bk,bl,bm,bn,bo,bp⟩:=cz4 b)|((with_reducible refine gF 10 ?_);refine gX (some 27) Try.func10 (spec_l10Read_wants.calls g325 d X Y 3 (⟨#[59]⟩ :ByteArray) az aA w _ q9x0 q9x1 a8.out) ?_;rintro bO ⟨hi,hb,hk⟩;replace a:=bK hk a t.out;replace b:=aM (KeepBut.blk hk (g':=i) (o:= .cells #[.int .i64 n,.int .i64 0,.int .i64 0,.slice none 0 0] 24 (0,0)) (kS b _) q.out (by simp));replace HB:=aM hb;replace HI325:=aM hi;(try clear hb);(try clear hk);(try clear hi))|((with_reducible refine gF 10 ?_);refine gX (some 29) Try.func10 (spec_l10Read_wants.calls g325 d az aA 1 (⟨#[100,101,102,97,117,108,116]⟩ :ByteArray) aC aD w _ q9x0 q9x1 a9.out) ?_;rintro bP ⟨hi,hb,hk⟩;replace a:=bK hk a t.out;replace b:=bK hk b q.out;replace HB:=aM hb;replace HI325:=aM hi;(try clear hb);(try clear hk);(try clear hi))|((with_reducible refine gF 12 ?_);refine gX (some 32) Try.func12 (spec_l10Read_action.calls k g325 d aC aD r s aE aG w _ q9x0 q9x1 ba.out) ?_;rintro bQ ⟨hi,hb,hk⟩;replace a:=bK hk a t.out;replace b:=bK hk b q.out;replace HB:=aM hb;replace HI325:=aM hi;(try clear hb);(try clear hk);(try clear hi);obtain⟨bq,br,bs,bu,bv,bw,bx,bz⟩:=cz4 b)|((with_reducible refine gF 10 ?_);refine gX (some 40) Try.func10 (spec_l10Read_wants.calls g325 d aE aG 3 (⟨#[59]⟩ :ByteArray) aH aI w _ q9x0 q9x1 bb.out) ?_;rintro bR ⟨hi,hb,hk⟩;replace a:=bK hk a t.out;replace b:=aM (KeepBut.blk hk (g':=i) (o:= .cells #[.int .i64 n,.int .i64 r,.int .i64 s,.slice none 0 0] 24 (0,0)) (kS b _) q.out (by simp));replace HB:=aM hb;replace HI325:=aM hi;(try clear hb);(try clear hk);(try clear hi)))
  (try go_simp);go_loopg [] k (fun kq w'=> ∃ (j:Int) (aa:Bool) (u:List (S43)) (u333003:Value),Aside0 (spec_ReadPolicy.l0 kq d j aa n r s u=some (r1,r2,r3,r4,r5))∧Aside0 (kq≤k)∧Aside0 (Kd.S k43 43 w' w.heap.size (fun _=>True) u333003 u)∧Aside0 (w'.heap[g]?=some (.cells #[.int .i64 0,.int .i64 0,.int .i64 0,(.slice none 0 0)] 24 (0,0)))∧Aside0 (w'.heap[i]?=some (.cells #[.int .i64 n,.int .i64 r,.int .i64 s,u333003] 24 (0,0)))∧Aside0 (IsS35 w w' g325 d j aa)∧Aside0 (Below w.heap.size w w'))
  case atStart=>exact⟨(aH),(aI),(([] :List (S43))),(.slice none 0 0),H',⟨Nat.le_refl _⟩,⟨by first|exact S_nil _ _ _ _ _|exact N_nil _ _ _ _ _|exact V_nil _ _ _ _ _|exact Q_nil _ _ _ _ _|exact R_nil _ _ _ _ _⟩,⟨mK a⟩,⟨mK b⟩,⟨q9x0⟩,⟨q9x1⟩⟩
  case round=>
   clear H';(try clear E);(try clear bi bj bk bl);(try clear bq br bs bu);(try clear bm bn bo bp);(try clear bv bw bx bz);(try clear b);obtain⟨j,aa,u,u333003,HA,HK1,c,a,b,HI325,HB⟩:=hrel
   cases gk with
   | zero=>exact absurd HA.out (by simp[spec_ReadPolicy.l0])
   | succ k1=>
    have H:=HA.out;clear HA;simp only[spec_ReadPolicy.l0]at H;by_cases ab:aa=true
    ·subst ab;replace H:=iT H;simp only[Option.some.injEq,Prod.mk.injEq]at H;obtain⟨rfl,rfl,rfl,rfl,rfl⟩:=H
     try go_wp2
     replace c:=aM (S_drew c.out);replace a:=dB a;replace b:=dB b;replace HI325:=aM (IsS35.drew HI325.out);replace HB:=dW HB;obtain⟨ASz27_0,cSz27_0,HGz27,hgz27,HSz27_0⟩:=HI325.out;clear hgz27
     refine sZ 17 (fun w'=>w'.cell? ⟨g325,0,none⟩=some (.slice ASz27_0 d.length cSz27_0)∧w'.cell? ⟨g325,1,none⟩=some (.int .i64 j)∧w'.cell? ⟨g325,2,none⟩=some (.bool true)) spec_ReadPolicy.tab13 spec_ReadPolicy.bits13 ⟨(blk_cell HGz27 0).trans rfl,(blk_cell HGz27 1).trans rfl,(blk_cell HGz27 2).trans rfl⟩ fun HT_ HW_ hHeld=>?_
     generalize wr.drew=bS at c a b HI325 HB hHeld ⊢;refine pZ 0 41 1 ?_;refine pZ 1 42 3 ?_;refine pZ 2 43 7 ?_;refine tZ 3 44 15 (y:=q9x2) (h:=?_);refine pZ 4 45 31 ?_;refine pZ 5 46 63 ?_;refine pureU 6 (some 47) (msk 17 127) HT_.out ?_;refine pureU 7 (some 48) (msk 17 255) HT_.out ?_;refine pureU 8 (some 49) (msk 17 511) HT_.out ?_;refine pureU 9 (some 50) (msk 17 1023) HT_.out ?_;refine pureU 10 (some 51) (msk 17 2047) HT_.out ?_;refine pureU 11 (some 52) (msk 17 4095) HT_.out ?_;refine pureU 12 (some 53) (msk 17 8191) HT_.out ?_;refine pureU 13 (some 54) (msk 17 16383) HT_.out ?_;refine pureU 14 (some 55) (msk 17 32767) HT_.out ?_;refine pureU 15 (some 56) (msk 17 65535) HT_.out ?_;refine pZ 16 57 131071 ?_
     refine done_ (done_of HT_.out (by kernel_rfl)) ?_
     obtain⟨ASz28_0,cSz28_0,HGz28,hgz28,HSz28_0⟩:=HI325.out;have bT:=cellS35_0 HGz28;have bU:=cellS35_1 HGz28;have bV:=cellS35_2 HGz28;have bW:=blk_frozen HGz28 1;have bX:=blk_frozen HGz28 2;clear HGz28 hgz28;have HBU:=aM (below_step HBQ.out HB.out);clear HB;have HB:=HBU;have HBU:=aM (S_lower c.out HBQ.out.size);clear c;have c:=HBU;clear HBU;have HBU:=aM (Nat.le_trans HBQ.out.size GW332.out);clear GW332;have GW332:=HBU;clear HBU;have HBU:=aM (Nat.le_trans HBQ.out.size GE332.out);clear GE332;have GE332:=HBU;clear HBU;have hnb29:=I.out;have hnc29:=J.out;obtain⟨bY,bZ,b0,b1,b5,b8,b9,ca⟩:=cz4 a
     try go_wp2
     refine bodyPost_ret (results_ct rfl _ _ g 24 #[.int .i64 0,.int .i64 0,.int .i64 0,.slice none 0 0] (0,0) _ rfl (kS a _) Try.underlying24 rfl (by kernel_rfl)) rfl ?_
     exact⟨_,rE,by first|exact S_nil _ _ _ _ _|exact N_nil _ _ _ _ _|exact V_nil _ _ _ _ _|exact Q_nil _ _ _ _ _|exact R_nil _ _ _ _ _,cB⟩
    ·replace ab:=Bool.eq_false_iff.mpr ab;subst ab;replace H:=iF H;by_cases z:j<(d.length:Int)
     ·rw[if_pos z]at H;have bA:=decide_eq_true z;clear z;replace H:=bE H;obtain⟨⟨A,D,L,M,aJ,aK⟩,bB,H⟩:=H;(try dsimp only at H);replace H:=gC H;obtain⟨aN,H⟩:=H;have bC:=aM aN;clear aN;obtain⟨am,aQ⟩ : ∃ y_:List (S43),Aside0 (y_=(u ++ [(⟨A,D,L,M⟩ :S43)])):=⟨_,⟨rfl⟩⟩;rw[← aQ.out]at H;have H':=aM H;clear H
      try go_wp2
      replace c:=aM (S_drew c.out);replace a:=dB a;replace b:=dB b;replace HI325:=aM (IsS35.drew HI325.out);replace HB:=dW HB;obtain⟨ASz35_0,cSz35_0,HGz35,hgz35,HSz35_0⟩:=HI325.out;clear hgz35
      refine sZ 17 (fun w'=>w'.cell? ⟨g325,0,none⟩=some (.slice ASz35_0 d.length cSz35_0)∧w'.cell? ⟨g325,1,none⟩=some (.int .i64 j)∧w'.cell? ⟨g325,2,none⟩=some (.bool false)) spec_ReadPolicy.tab13 spec_ReadPolicy.bits13 ⟨(blk_cell HGz35 0).trans rfl,(blk_cell HGz35 1).trans rfl,(blk_cell HGz35 2).trans rfl⟩ fun HT_ HW_ hHeld=>?_
      generalize wr.drew=bD at c a b HI325 HB hHeld ⊢;refine pZ 0 41 1 ?_;refine pZ 1 42 3 ?_;refine pZ 2 43 7 ?_;refine tZ 3 44 15 (y:=q9x2) (h:=?_);refine pZ 4 45 31 ?_;refine pZ 5 46 63 ?_;refine pZ 6 47 127 ?_;refine pZ 7 48 255 ?_;refine pZ 8 49 511 ?_;refine pZ 10 51 1535 ?_;refine pZ 11 52 3583 ?_;refine pZ 12 53 7679 ?_;refine tZ 9 50 8191 (y:=q9x2) (h:=?_);refine tZ 13 54 16383 (y:=q9x2) (h:=?_);refine pZ 14 55 32767 ?_;refine pZ 15 56 65535 ?_;refine pZ 16 57 131071 ?_
      refine done_ (done_of HT_.out (by kernel_rfl)) ?_
      try go_wp2
      replace c:=aM (S_drew c.out);replace a:=dB a;replace b:=dB b;replace HI325:=aM (IsS35.drew HI325.out);replace HB:=dW HB
      refine sV 8 (fun w'=>w'.cell? ⟨i,0,none⟩=some (.int .i64 n)∧w'.cell? ⟨i,1,none⟩=some (.int .i64 r)∧w'.cell? ⟨i,2,none⟩=some (.int .i64 s)∧w'.cell? ⟨i,3,none⟩=some (u333003)) (ds:=[7]) spec_ReadPolicy.tab14 spec_ReadPolicy.bits14 qh9x0 fun HT_ HW_ hHeld=>?_
      generalize bD.drew=cb at c a b HI325 HB hHeld ⊢;refine pZ 0 58 1 ?_;refine pZ 2 60 5 ?_;refine tZ 1 59 7 (y:=q9x3) (h:=?_)
      refine oZ 3 61 15 fun K hK=>?_
      refine eV Try.func13 (spec_l10Read_rule.calls k1 g325 d j false A D L M aJ aK w _ q9x0 q9x1 bB.out) ?_
      rintro e cc ⟨cd,ce,rfl,l,an,hi,hb,hk⟩;refine⟨_,rfl,?_⟩
      replace c:=aM (S_mono (S_told (S_told (S_oldK (IsS35.apartS (show IsS35 w _ g325 d j false from q9x0) (by(with_reducible repeat(first|apply S_alloc|apply S_drewN|apply S_drew));exact c.out) (by decide)) hk) (R_base l)) (R_base an)) (fun _ h_=>h_.1))
      replace a:=bK hk a t.out;replace b:=bK hk b q.out;have ac:=aM (R_lower l (below_size q9x1));have ad:=aM (R_lower an (below_size q9x1));replace HB:=aM hb;replace HI325:=aM hi;(try clear hb);(try clear hk);(try clear hi);(try clear l);(try clear an);obtain⟨aR,aT,aU⟩:=R_slice ac.out
      (first|subst aU|(injection aU with f1_ f2_ f3_;have f4_:=f1_.symm;have f5_:=f3_.symm;clear f1_ f2_ f3_;subst f4_;subst f5_))
      obtain⟨aV,aW,aX⟩:=R_slice ad.out
      (first|subst aX|(injection aX with f1_ f2_ f3_;have f4_:=f1_.symm;have f5_:=f3_.symm;clear f1_ f2_ f3_;subst f4_;subst f5_))
      refine hK.out _ _ qh9x0 (fun hHeld=>?_)
      clear hK K;refine normZ (some 61) ?_
      refine oZ 4 62 31 fun K hK=>?_
      refine value_ (w1:=?_) (v:=?_) (by rfl) rfl ?_ ?_
      rotate_left 2
      ·go_simp;constructor
       ·rfl
       ·rfl
      refine hK.out _ _ ⟨(blk_cell (blk_alloc b.out _) 0).trans rfl,(blk_cell (blk_alloc b.out _) 1).trans rfl,(blk_cell (blk_alloc b.out _) 2).trans rfl,(blk_cell (blk_alloc b.out _) 3).trans rfl⟩ (fun hHeld=>?_)
      clear hK K;refine normZ (some 62) ?_
      refine oZ 5 63 63 fun K hK=>?_
      refine S_append_step k43 (w0:=w) w.heap.size (by rfl) (.tmp 59) (.tmp 62) 22 43 (.agg #[(.slice none 0 0),(.slice none 0 0),(.int .i64 0),(.int .i64 0)]) 64 rfl Try.underlying22 info43 rfl (by decide) (by omega) u333003 u (⟨A,D,L,M⟩ :S43) [.slice aR A.length aT,.slice aV D.length aW,.int .i64 L,.int .i64 M] (fun _=>True) (fun k_=>some k_=(.slice aR A.length aT:Value).ownBlock∨some k_=(.slice aV D.length aW:Value).ownBlock) rfl rfl ?aP (fun k_ hk_=>hk_.elim (fun h_=>((R_mono (ok':=fun k_=>((fun _=>True)) k_∧some k_≠(u333003:Value).ownBlock) (R_apart' (ac.out) (S_typed c.out) (by decide)) (fun k_ hk=>⟨trivial,hk.2⟩))).1 k_ h_.symm) (fun h_=>((R_mono (ok':=fun k_=>((fun _=>True)) k_∧some k_≠(u333003:Value).ownBlock) (R_apart' (ad.out) (S_typed c.out) (by decide)) (fun k_ hk=>⟨trivial,hk.2⟩))).1 k_ h_.symm)) ?aF ?aO ?aB ?aS ?aL ?_
      (case aP=>exact k43_mkM _ _ _ (⟨A,D,L,M⟩ :S43) (R_mono (R_tight rfl (R_mono (ok':=fun k_=>((fun _=>True)) k_∧some k_≠(u333003:Value).ownBlock) (R_apart' (ac.out) (S_typed c.out) (by decide)) (fun k_ hk=>⟨trivial,hk.2⟩))) (fun _ h_=>Or.inl h_)) (R_mono (R_tight rfl (R_mono (ok':=fun k_=>((fun _=>True)) k_∧some k_≠(u333003:Value).ownBlock) (R_apart' (ad.out) (S_typed c.out) (by decide)) (fun k_ hk=>⟨trivial,hk.2⟩))) (fun _ h_=>Or.inr (h_))))
      (case aB=>exact q9x1)
      (case aF=>exact(fun _ _=>trivial))
      (case aO=>exact(by exact sM c (fun k_ hk=>⟨trivial,fun e_=>e_.elim (fun h_=>hk.1.2 h_) (fun h_=>hk.2 h_)⟩)))
      (case aS=>exact(below_size q9x1))
      (case aL=>have:=bC.out;omega)
      intro cf bF ho hb hg hat;rw[← aQ.out]at ho
      replace a:=aM (blk_grown (mK a) hg (S_ne c.out a.out (by decide)))
      replace b:=aM (blk_grown (mK b) hg (S_ne c.out b.out (by decide)))
      replace HI325:=aM (IsS35.grown q9x0 hg (IsS35.own_neS HI325.out c.out (by decide)))
      replace HB:=aM hb;have aY:=aM ho;clear c ac ad ho hb hg hat;obtain⟨aZ,a0,a1⟩:=S_slice aY.out
      (first|subst a1|(injection a1 with f1_ f2_ f3_;have f4_:=f1_.symm;have f5_:=f3_.symm;clear f1_ f2_ f3_;subst f4_;subst f5_))
      refine hK.out _ _ qh9x0 (fun hHeld=>?_)
      clear hK K;refine normZ (some 63) ?_
      refine pZ 6 64 127 ?_
      refine last_Z 7 (none) (msk 8 255) HT_.out fun K hK=>?_
      have hs42:bF.cell? ⟨i,3,none⟩=some (u333003):=(blk_cell b.out 3).trans rfl;have hfs42:=blk_frozen b.out 3;have hns42_0:=I.out;have hms42_0:=J.out
      refine skip_ (w1:=?_) (by rfl) rfl ?_ ?_
      rotate_left
      ·go_simp;rfl
      refine hK.out _ _ ?_;clear hK K
      refine done_ (done_of HT_.out (by kernel_rfl)) ?_
      try go_wp2
      go_roundg k1
      case measure=>exact oK
      case rel=>exact⟨(aJ),(aK),(am),(.slice aZ am.length a0),H',⟨oK⟩,⟨by(with_reducible repeat(first|apply S_alloc|apply S_drewN|apply S_drew));exact S_mono (S_far (p:=⟨i,3,none⟩) (S_types aY.out b.out (by decide)) (fun _ hk=>hk.2) (.slice aZ am.length a0)) (fun _ hk=>trivial)⟩,⟨mK a⟩,⟨kS b _⟩,⟨q9x0⟩,⟨q9x1⟩⟩
     ·rw[if_neg z]at H;have bA:=decide_eq_false z;clear z;replace H:=bE H;obtain⟨aj,a2,H⟩:=H;by_cases ae:aj=true
      ·subst ae;replace H:=iT H;simp only[Option.some.injEq,Prod.mk.injEq]at H;obtain⟨rfl,rfl,rfl,rfl,rfl⟩:=H
       try go_wp2
       replace c:=aM (S_drew c.out);replace a:=dB a;replace b:=dB b;replace HI325:=aM (IsS35.drew HI325.out);replace HB:=dW HB;obtain⟨ASz46_0,cSz46_0,HGz46,hgz46,HSz46_0⟩:=HI325.out;clear hgz46
       refine sZ 17 (fun w'=>w'.cell? ⟨g325,0,none⟩=some (.slice ASz46_0 d.length cSz46_0)∧w'.cell? ⟨g325,1,none⟩=some (.int .i64 j)∧w'.cell? ⟨g325,2,none⟩=some (.bool false)) spec_ReadPolicy.tab13 spec_ReadPolicy.bits13 ⟨(blk_cell HGz46 0).trans rfl,(blk_cell HGz46 1).trans rfl,(blk_cell HGz46 2).trans rfl⟩ fun HT_ HW_ hHeld=>?_
       generalize wr.drew=cg at c a b HI325 HB hHeld ⊢;refine pZ 0 41 1 ?_;refine pZ 1 42 3 ?_;refine pZ 2 43 7 ?_;refine tZ 3 44 15 (y:=q9x2) (h:=?_);refine pZ 4 45 31 ?_;refine pZ 5 46 63 ?_;refine pZ 6 47 127 ?_;refine pZ 7 48 255 ?_;refine pZ 8 49 511 ?_;refine pZ 10 51 1535 ?_;refine pZ 11 52 3583 ?_;refine pZ 12 53 7679 ?_;refine tZ 9 50 8191 (y:=q9x2) (h:=?_);refine tZ 13 54 16383 (y:=q9x2) (h:=?_);refine pZ 14 55 32767 ?_;refine pZ 15 56 65535 ?_;refine pZ 16 57 131071 ?_
       refine done_ (done_of HT_.out (by kernel_rfl)) ?_
       obtain⟨ASz47_0,cSz47_0,HGz47,hgz47,HSz47_0⟩:=HI325.out;have ch:=cellS35_0 HGz47;have ci:=cellS35_1 HGz47;have cj:=cellS35_2 HGz47;have ck:=blk_frozen HGz47 1;have cl:=blk_frozen HGz47 2;clear HGz47 hgz47;have hnb48:=J.out;have hnc48:=I.out;have hnb49:=q.out;have hnc49:=al.out;obtain⟨cm,cn,co,cp,cq,cr,cs,ct⟩:=cz4 b;obtain⟨a3,a4,bG⟩:=S_slice c.out;subst bG
       try go_wp2_with (first|(go_at_call 14;(with_reducible refine(spec_PolicyOk.calls a2.out ?side1 ?side2).mono ?_);(case side1=>exact cC ((S_reads' c.out).2.2));(case side2=>exact(S_reads' c.out).2.1);rintro e cu ⟨rfl,hb⟩;replace c:=aM (S_below (by(with_reducible repeat(first|apply S_alloc|apply S_drewN|apply S_drew));exact c.out) hb);replace a:=kB a hb;replace b:=kB b hb;replace HB:=aM (below_step q9x1 hb);replace HI325:=aM (IsS35.below q9x0 hb);(try clear hb);obtain⟨cv,cw,cx,cy,cz,cA,cD,cE⟩:=cz4 b;have HBU:=aM (below_step HBQ.out HB.out);clear HB;have HB:=HBU;have HBU:=aM (S_lower c.out HBQ.out.size);clear c;have c:=HBU;clear HBU;have HBU:=aM (Nat.le_trans HBQ.out.size GW332.out);clear GW332;have GW332:=HBU;clear HBU;have HBU:=aM (Nat.le_trans HBQ.out.size GE332.out);clear GE332;have GE332:=HBU;clear HBU;obtain⟨cF,cG,cI,cJ,cL,cM,cN,cO⟩:=cz4 a))
       refine bodyPost_ret (results_ct rfl _ _ g 24 #[.int .i64 n,.int .i64 r,.int .i64 s,.slice a3 u.length a4] (0,0) _ rfl (kS a _) Try.underlying24 rfl (by kernel_rfl)) rfl ?_
       exact⟨_,rE,by(with_reducible repeat(first|apply S_alloc|apply S_drewN|apply S_drew));exact S_mono (S_far (p:=⟨g,3,none⟩) (S_far (p:=⟨g,2,none⟩) (S_far (p:=⟨g,1,none⟩) (S_far (p:=⟨g,0,none⟩) (S_types c.out a.out (by decide)) (fun _ hk=>hk.2) (.int .i64 n)) (fun _ hk=>hk.2) (.int .i64 r)) (fun _ hk=>hk.2) (.int .i64 s)) (fun _ hk=>hk.2) (.slice a3 u.length a4)) (fun _ hk=>trivial),cB⟩
      ·replace ae:=Bool.eq_false_iff.mpr ae;subst ae;replace H:=iF H;simp only[Option.some.injEq,Prod.mk.injEq]at H;obtain⟨rfl,rfl,rfl,rfl,rfl⟩:=H
       try go_wp2
       replace c:=aM (S_drew c.out);replace a:=dB a;replace b:=dB b;replace HI325:=aM (IsS35.drew HI325.out);replace HB:=dW HB;obtain⟨ASz56_0,cSz56_0,HGz56,hgz56,HSz56_0⟩:=HI325.out;clear hgz56
       refine sZ 17 (fun w'=>w'.cell? ⟨g325,0,none⟩=some (.slice ASz56_0 d.length cSz56_0)∧w'.cell? ⟨g325,1,none⟩=some (.int .i64 j)∧w'.cell? ⟨g325,2,none⟩=some (.bool false)) spec_ReadPolicy.tab13 spec_ReadPolicy.bits13 ⟨(blk_cell HGz56 0).trans rfl,(blk_cell HGz56 1).trans rfl,(blk_cell HGz56 2).trans rfl⟩ fun HT_ HW_ hHeld=>?_
       generalize wr.drew=cP at c a b HI325 HB hHeld ⊢;refine pZ 0 41 1 ?_;refine pZ 1 42 3 ?_;refine pZ 2 43 7 ?_;refine tZ 3 44 15 (y:=q9x2) (h:=?_);refine pZ 4 45 31 ?_;refine pZ 5 46 63 ?_;refine pZ 6 47 127 ?_;refine pZ 7 48 255 ?_;refine pZ 8 49 511 ?_;refine pZ 10 51 1535 ?_;refine pZ 11 52 3583 ?_;refine pZ 12 53 7679 ?_;refine tZ 9 50 8191 (y:=q9x2) (h:=?_);refine tZ 13 54 16383 (y:=q9x2) (h:=?_);refine pZ 14 55 32767 ?_;refine pZ 15 56 65535 ?_;refine pZ 16 57 131071 ?_
       refine done_ (done_of HT_.out (by kernel_rfl)) ?_
       obtain⟨ASz57_0,cSz57_0,HGz57,hgz57,HSz57_0⟩:=HI325.out;have cQ:=cellS35_0 HGz57;have cR:=cellS35_1 HGz57;have cS:=cellS35_2 HGz57;have cT:=blk_frozen HGz57 1;have cU:=blk_frozen HGz57 2;clear HGz57 hgz57;have hnb58:=J.out;have hnc58:=I.out;have hnb59:=q.out;have hnc59:=al.out;obtain⟨cV,cW,cX,cY,cZ,c0,c1,c3⟩:=cz4 b;obtain⟨da,db,bH⟩:=S_slice c.out;subst bH
       try go_wp2_with (first|(go_at_call 14;(with_reducible refine(spec_PolicyOk.calls a2.out ?side1 ?side2).mono ?_);(case side1=>exact cC ((S_reads' c.out).2.2));(case side2=>exact(S_reads' c.out).2.1);rintro e dc ⟨rfl,hb⟩;replace c:=aM (S_below (by(with_reducible repeat(first|apply S_alloc|apply S_drewN|apply S_drew));exact c.out) hb);replace a:=kB a hb;replace b:=kB b hb;replace HB:=aM (below_step q9x1 hb);replace HI325:=aM (IsS35.below q9x0 hb);(try clear hb);have HBU:=aM (below_step HBQ.out HB.out);clear HB;have HB:=HBU;have HBU:=aM (S_lower c.out HBQ.out.size);clear c;have c:=HBU;clear HBU;have HBU:=aM (Nat.le_trans HBQ.out.size GW332.out);clear GW332;have GW332:=HBU;clear HBU;have HBU:=aM (Nat.le_trans HBQ.out.size GE332.out);clear GE332;have GE332:=HBU;clear HBU;obtain⟨dd,de,df,dg,dh,di,dj,dk⟩:=cz4 a))
       refine bodyPost_ret (results_ct rfl _ _ g 24 #[.int .i64 0,.int .i64 0,.int .i64 0,.slice none 0 0] (0,0) _ rfl (kS a _) Try.underlying24 rfl (by kernel_rfl)) rfl ?_
       exact⟨_,rE,by first|exact S_nil _ _ _ _ _|exact N_nil _ _ _ _ _|exact V_nil _ _ _ _ _|exact Q_nil _ _ _ _ _|exact R_nil _ _ _ _ _,cB⟩
 ·replace E:=Bool.eq_false_iff.mpr E;subst E;replace H:=iF H;simp only[Option.some.injEq,Prod.mk.injEq]at H;obtain⟨rfl,rfl,rfl,rfl,rfl⟩:=H;go_enter Try.func4,Try.ntmps4
  go_wp2_with (first|((with_reducible refine gN 2 ?_);(try(refine gate_guard (by rfl) ?_;dsimp only));refine boxZ 2 #[.int .i64 0,.int .i64 0,.int .i64 0,.slice none 0 0] 24 ?_;intro g hg dl hbox hb;have a:=aM hbox;have GW320:=aM ((by rw[hg];exact(below_size cB):wq.heap.size≤g));have GE320:=aM ((by rw[hg];exact(below_size cB):wq.heap.size≤g));replace HB:=sB hb;clear hb hbox hg)|((with_reducible refine gF 9 ?_);refine gY (some 12) Try.func9 (spec_SignsOf.calls aw.out) ?_;rintro bd dm ⟨l,hb⟩;have G:=rL l;replace a:=kB a hb;replace HB:=sB hb;(try clear hb);(try clear l);obtain⟨dn,dp,dq,dr,dt,du,dv,dw⟩:=cz4 a))
  refine bodyPost_ret (results_ct rfl _ _ g 24 #[.int .i64 0,.int .i64 0,.int .i64 0,.slice none 0 0] (0,0) _ rfl (kS a _) Try.underlying24 rfl (by kernel_rfl)) rfl ?_
  exact⟨_,rE,by first|exact S_nil _ _ _ _ _|exact N_nil _ _ _ _ _|exact V_nil _ _ _ _ _|exact Q_nil _ _ _ _ _|exact R_nil _ _ _ _ _,cB⟩
end Go.Proofs.Ytfhjjfibblcklaa.PFnExactReadPolicy
