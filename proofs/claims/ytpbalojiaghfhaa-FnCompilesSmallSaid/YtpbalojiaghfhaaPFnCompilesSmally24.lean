import Derived.Test.YtpbalojiaghfhaaPFnCompilesSmally0
import Derived.Test.YtpbalojiaghfhaaPFnCompilesSmally2
import Derived.Test.YtpbalojiaghfhaaPFnCompilesSmally3
import Derived.Test.YtpbalojiaghfhaaPFnCompilesSmally6
import Derived.Test.YtpbalojiaghfhaaPFnCompilesSmally7
import Derived.Test.YtpbalojiaghfhaaPFnCompilesSmally17
import Derived.Test.YtpbalojiaghfhaaPFnCompilesSmally18
import Derived.Test.YtpbalojiaghfhaaPFnCompilesSmally22
import Derived.Test.YtpbalojiaghfhaaPFnCompilesSmally23
namespace Go.Proofs.Ytpbalojiaghfhaa.PFnCompilesSmall
open Go.RowKit Go.Proofs.YtpbalojiaghfhaaW.PrintWords Go.Proofs.YtpbalojiaghfhaaW.PrintLast Go.Proofs.YtpbalojiaghfhaaW.PrintMore Go.Proofs.YtpbalojiaghfhaaW.Z
open Kd
attribute [local go_sem] isS max2_int min2_int max_two min_two max_three min_three max_four min_four
set_option linter.unusedVariables false
set_option linter.unusedSimpArgs false
theorem qh24x0 {P:Prop} (h:P:=by exact⟨(blk_cell b.out 0).trans rfl,(blk_cell b.out 1).trans rfl,(blk_cell b.out 2).trans rfl,(blk_cell b.out 3).trans rfl⟩):P:=h
mutual
def laws_FnCompilesSmall.j0:Nat→Int→Int→Int→List (S81)→Int→Int→List (S93)→Option (Bool)
  | 0,_,_,_,_,_,_,_=>none
  | k+1,J,X,Y,aa,aI,a5,aw=>(impl_Compile.f k J X Y aa).bind fun a6=>((some (([77] :List Int):List Int)).bind fun ax=>((spec_NumsOf.f k J X Y aa).bind fun ad=>(if ax.length+ad.length<17592186044416 then(laws_FnCompilesSmall.l0 k a6.1 a6.2 (ax ++ ad) 0 J X Y aa J a5 aw)else(none))))
def laws_FnCompilesSmall.l0:Nat→List (S34)→Int→List Int→Int→Int→Int→Int→List (S81)→Int→Int→List (S93)→Option (Bool)
  | 0,_,_,_,_,_,_,_,_,_,_,_=>none
  | k+1,aT,a7,ay,al,J,X,Y,aa,aI,a5,aw=>if al<(ay.length:Int)then(if 0≤al then((spec_Run.f k aT aI (rd ay al) aw).bind fun bU=>((spec_Decide.f k J X Y aa aI (rd ay al) aw).bind fun aU=>(if bU.1=aU then(laws_FnCompilesSmall.l0 k aT a7 ay (wrap64 (al+1)) J X Y aa aI (rd ay al) aw)else(some false))))else(none))else(if a7=0 then(if(aT.length:Int)>3 then((impl_NumsOf.f k J X Y aa).bind fun a8=>((spec_NumsOf.f k J X Y aa).bind fun a9=>((laws_sameInts.f k a8 a9).bind fun ba=>(some ba))))else(some false))else(some false))
end
def laws_FnCompilesSmall.f (k:Nat) (u:List Int):Option (Bool):=(laws_big.f u).bind fun aV=>(if aV=true then(some true)else((spec_DrawPolicy.f k u).bind fun s=>(if(s.2.2.2.1.length:Int)>2 then(if 2≤(s.2.2.2.1.length:Int)then(laws_FnCompilesSmall.j0 k s.1 s.2.1 s.2.2.1 (s.2.2.2.1.take (2:Int).toNat) s.2.2.2.2.1 s.2.2.2.2.2.1 s.2.2.2.2.2.2)else(none))else(laws_FnCompilesSmall.j0 k s.1 s.2.1 s.2.2.1 s.2.2.2.1 s.2.2.2.2.1 s.2.2.2.2.2.1 s.2.2.2.2.2.2))))
def laws_FnCompilesSmall.T16:Bool×List (List Nat×List Nat):=(true,[([],[]),([0],[0]),([1],[1]),([2],[2]),([3,2],[2,3]),([4,2],[2,4]),([2,5],[2,5]),([6,2],[6]),([7],[7]),([8,7,7],[7,8]),([7],[7]),([10,9,7],[7,10]),([9,11,11,7],[7,9,11]),([7,12],[7,12]),([13,12,0,1,2,3,4,5,6,7,8,9,10,11,12,13],[13])])
def laws_FnCompilesSmall.B16:List Nat:=[0,1,3,7,15,31,63,127,255,511,255,2047,4095,8191,16383]
theorem laws_FnCompilesSmall.tab16:rtab .any (opsOf Try.f4 16)=laws_FnCompilesSmall.T16:=by kernel_rfl
theorem laws_FnCompilesSmall.bits16:waitsOk laws_FnCompilesSmall.T16.2 laws_FnCompilesSmall.B16=true:=by kernel_rfl
theorem q24x0 {P:Prop} (h:P:=by
 rintro w' ⟨s0,s1,s2,s3⟩
 go_simp
 with_reducible rfl):P:=h
set_option maxHeartbeats 8000000 in
set_option maxRecDepth 100000 in
theorem laws_FnCompilesSmall.calls {k:Nat}{bb:Option Addr}{bd:Nat}{u:List Int}{r:Bool}{w:World}(h:laws_FnCompilesSmall.f k u=some r)(aJ:Kd.C (Kd.int .u8) w bb u.length u)(aK:u.length≤bd) :
 Calls Try.prog 4 #[.slice bb u.length bd] w fun e w'=>e= .returned (.bool r)∧Below w.heap.size w w':=by
 have hu41:=Try.underlying41;have hu28:=Try.underlying28;have HR0:=aM aJ;have HC0:=aM aK;clear aJ aK;have HB:=rW w
 unfold laws_FnCompilesSmall.f at h;have H:=h
 clear h;replace H:=bE H;obtain⟨aV,be,H⟩:=H;by_cases am:aV=true
 ·subst am;replace H:=iT H;obtain rfl:=Option.some.inj H;go_enter Try.func4,Try.ntmps4
  go_wp2_with (first|((with_reducible refine gF 6 ?_);refine gX (some 12) Try.func6 (laws_big.calls be.out (cC HR0.out) HC0.out) ?_;rintro w' ⟨nd,rfl⟩))
  go_ret;exact⟨rE,cB⟩
 ·replace am:=Bool.eq_false_iff.mpr am;subst am;replace H:=iF H;replace H:=bE H;obtain⟨⟨A,ae,af,D,aN,an,v⟩,bV,H⟩:=H;(try dsimp only at H);have HC5:=aM H;clear H;go_enter Try.func4,Try.ntmps4
  go_upto_if 21 with(first|((with_reducible refine gF 6 ?_);refine gX (some 12) Try.func6 (laws_big.calls be.out (cC HR0.out) HC0.out) ?_;rintro w' ⟨nd,rfl⟩)|((with_reducible refine gF 17 ?_);refine gV (some 15) Try.func17 (spec_DrawPolicy.calls bV.out (cC HR0.out) HC0.out) ?_;rintro e dg ⟨dh,di,rfl,q,bf,hb⟩;refine⟨_,rfl,?_⟩;have L:=aM (S_lower q (below_size cB));have ag:=rL bf;replace HB:=sB hb;(try clear hb);(try clear q);(try clear bf))|((with_reducible refine gN 3 ?_);(try(refine gate_guard (by rfl) ?_;dsimp only));refine boxZ 3 #[.int .i64 0,.int .i64 0,.int .i64 0,.slice none 0 0] 41 ?_;intro z hg dj hbox hb;replace L:=aM (S_below (by(with_reducible repeat(first|apply S_alloc|apply S_drewN|apply S_drew));exact L.out) hb);replace ag:=rB ag hb;have b:=aM hbox;have GW933:=gS hg;have GE933:=gS hg;replace HB:=sB hb;clear hb hbox hg)|((with_reducible refine gN 4 ?_);(try(refine gate_guard (by rfl) ?_;dsimp only));refine boxZ 4 #[.int .i64 0,.int .i64 0,.slice none 0 0] 28 ?_;intro E hg dk hbox hb;replace L:=aM (S_below (by(with_reducible repeat(first|apply S_alloc|apply S_drewN|apply S_drew));exact L.out) hb);replace ag:=rB ag hb;have a:=aM hbox;have GW934:=gS hg;have GE934:=gS hg;replace HB:=sB hb;have az:=nL hg b;have aA:=nG hg b;replace b:=kB b hb;clear hb hbox hg;have hnb9:=az.out;have hnc9:=aA.out;obtain⟨bg,bh,bi,bj,bk,bl,bm,bn⟩:=cz4 b;obtain⟨ao,ap,bW⟩:=S_slice L.out;subst bW;obtain⟨bo,bp,bq,br,bs,bu⟩:=cz3 a;obtain⟨O,G,bX⟩:=R_slice ag.out;subst bX))
  (try simp only[Act.put,List.setIfInBounds_toArray,List.set_cons_zero,List.set_cons_succ])
  go_cut [] (fun wc=> ∃ (kq:Nat) (ab:List (S81)) (u934003:Value),Aside0 (laws_FnCompilesSmall.j0 kq A ae af ab aN an v=some r)∧Aside0 (kq≤k)∧Aside0 (Kd.S k81 81 wc w.heap.size (fun _=>True) u934003 ab)∧Aside0 (Kd.R k93 93 wc w.heap.size (fun _=>True) (.slice O v.length G) v)∧Aside0 (wc.heap[z]?=some (.cells #[.int .i64 A,.int .i64 ae,.int .i64 af,u934003] 41 (0,0)))∧Aside0 (wc.heap[E]?=some (.cells #[.int .i64 aN,.int .i64 an,(.slice O v.length G)] 28 (0,0)))∧Aside0 (Below w.heap.size w wc))
  case first=>
   have H:=HC5.out;clear HC5;by_cases ac:(D.length:Int)>2
   ·rw[if_pos ac]at H;have ah:decide (2<(D.length:Int))=true:=decide_eq_true ac
    have aW:decide (2<D.length)=true:=decide_eq_true (by omega)
    clear ac
    (first|rw[ah]|(simp only[i64_w,i32_w];rw[ah])|skip)
    replace H:=gC H;obtain⟨aC,H⟩:=H;have bv:=eq_true aC;have bw:decide (2≤(D.length:Int))=true:=decide_eq_true aC;clear aC;obtain⟨aP,aX⟩ : ∃ y_:List (S81),Aside0 (y_=(D.take (2:Int).toNat)):=⟨_,⟨rfl⟩⟩;rw[← aX.out]at H;have H':=aM H;clear H;have hnb16:=az.out;have hnc16:=aA.out;obtain⟨bx,bz,bA,bB,bC,bD,bF,bG⟩:=cz4 b;have aD:(2:Int)≤((D.length:Int):Int):=dA;obtain⟨i018,hi018,_,hsz18,_⟩:=info_parts info81
    have hcut18:=cut_to (P:=Try.prog) 39 81 .i64 Try.underlying39 hi018 ao D.length ap 2 (by omega) aD (S_reads' L.out).2.1
    have aQ:=S_take (m:=(2:Int).toNat) L.out (by omega)
    have hy18:aP.length=(2:Int).toNat:=(by rw[aX.out,List.length_take];omega)
    rw[← aX.out]at aQ;rw[← hy18]at aQ hcut18;clear hy18 hi018 hsz18 L;have bY:=aM aQ;clear aQ;replace aD:=eq_true aD;go_wp2;go_meet
    case rel=>exact⟨_,(aP),(.slice ao aP.length ap),H',⟨oL⟩,⟨by(with_reducible repeat(first|apply S_alloc|apply S_drewN|apply S_drew));exact S_mono (S_far (p:=⟨z,3,none⟩) (S_far (p:=⟨E,2,none⟩) (S_far (p:=⟨E,1,none⟩) (S_far (p:=⟨E,0,none⟩) (S_far (p:=⟨z,3,none⟩) (S_far (p:=⟨z,2,none⟩) (S_far (p:=⟨z,1,none⟩) (S_far (p:=⟨z,0,none⟩) (S_types (S_types bY.out b.out (by decide)) a.out (by decide)) (fun _ hk=>hk.1.2) (.int .i64 A)) (fun _ hk=>hk.1.2) (.int .i64 ae)) (fun _ hk=>hk.1.2) (.int .i64 af)) (fun _ hk=>hk.1.2) (.slice ao D.length ap)) (fun _ hk=>hk.2) (.int .i64 aN)) (fun _ hk=>hk.2) (.int .i64 an)) (fun _ hk=>hk.2) (.slice O v.length G)) (fun _ hk=>hk.1.2) (.slice ao aP.length ap)) (fun _ hk=>trivial)⟩,⟨fR (R_types (R_types ag.out b.out (by decide)) a.out (by decide)) (fun _ hk=>trivial)⟩,⟨kS b _⟩,⟨kS a _⟩,⟨cB⟩⟩
   ·rw[if_neg ac]at H;have ah:decide (2<(D.length:Int))=false:=decide_eq_false ac
    have aW:decide (2<D.length)=false:=decide_eq_false (by omega)
    clear ac
    (first|rw[ah]|(simp only[i64_w,i32_w];rw[ah])|skip)
    have H':=aM H;clear H;go_wp2;go_meet
    case rel=>exact⟨_,(D),(.slice ao D.length ap),H',⟨oL⟩,⟨by(with_reducible repeat(first|apply S_alloc|apply S_drewN|apply S_drew));exact S_mono (S_far (p:=⟨E,2,none⟩) (S_far (p:=⟨E,1,none⟩) (S_far (p:=⟨E,0,none⟩) (S_far (p:=⟨z,3,none⟩) (S_far (p:=⟨z,2,none⟩) (S_far (p:=⟨z,1,none⟩) (S_far (p:=⟨z,0,none⟩) (S_types (S_types L.out b.out (by decide)) a.out (by decide)) (fun _ hk=>hk.1.2) (.int .i64 A)) (fun _ hk=>hk.1.2) (.int .i64 ae)) (fun _ hk=>hk.1.2) (.int .i64 af)) (fun _ hk=>hk.1.2) (.slice ao D.length ap)) (fun _ hk=>hk.2) (.int .i64 aN)) (fun _ hk=>hk.2) (.int .i64 an)) (fun _ hk=>hk.2) (.slice O v.length G)) (fun _ hk=>trivial)⟩,⟨fR (R_types (R_types ag.out b.out (by decide)) a.out (by decide)) (fun _ hk=>trivial)⟩,⟨kS b _⟩,⟨kS a _⟩,⟨cB⟩⟩
  case rest=>
   clear HC5;(try clear am);(try clear ac);(try clear ah);(try clear aW);(try clear aC);(try clear bv);(try clear bw);(try clear aD);(try clear bg bh bi bj);(try clear bo bp bq);(try clear bx bz bA bB);(try clear bk bl bm bn);(try clear br bs bu);(try clear bC bD bF bG);obtain⟨kq,ab,u934003,HA,HJ4,g,j,b,a,HB⟩:=hcut
   cases kq with
   | zero=>exact absurd HA.out (by simp[laws_FnCompilesSmall.j0])
   | succ kj4=>
    have H:=HA.out;clear HA;simp only[laws_FnCompilesSmall.j0]at H;replace H:=bE H;obtain⟨⟨U,bH⟩,bZ,H⟩:=H;(try dsimp only at H);replace H:=nE H;obtain⟨ax,bI,H⟩:=H;replace H:=bE H;obtain⟨ad,b0,H⟩:=H;replace H:=gC H;obtain⟨aY,H⟩:=H;have b1:=aM aY;clear aY;obtain⟨I,bJ⟩ : ∃ y_:List Int,Aside0 (y_=(ax ++ ad)):=⟨_,⟨rfl⟩⟩;rw[← bJ.out]at H;have H':=aM H;clear H;have hnb22:=az.out;have hnc22:=aA.out;obtain⟨b5,b8,b9,ca,cb,cc,cd,ce⟩:=cz4 b;obtain⟨aZ,a0,cf⟩:=S_slice g.out;subst cf
    go_wp2_with (first|((with_reducible refine gF 18 ?_);refine gY (some 28) Try.func18 (impl_Compile.calls bZ.out (cC ((S_reads' g.out).2.2)) ((S_reads' g.out).2.1)) ?_;rintro cg dl ⟨q,hb⟩;replace g:=aM (S_below (by(with_reducible repeat(first|apply S_alloc|apply S_drewN|apply S_drew));exact g.out) hb);replace j:=rB j hb;have ai:=rL q;replace b:=kB b hb;replace a:=kB a hb;replace HB:=sB hb;(try clear hb);(try clear q);obtain⟨ch,ci,cj,ck,cl,cm,cn,co⟩:=cz4 b;obtain⟨cp,cq,cr,cs,ct,cu⟩:=cz3 a)|((with_reducible refine gN 34 ?_);(try(refine gate_guard (by rfl) ?_;dsimp only));refine R_lit (Kd.int .i64) _ 3 ?hg (N:=34) ?hd (xs:=([77] :List Int)) (inner:=[.int .i64 77]) (ok:=fun _=>True) (okp:=fun _=>True) ?hr ?hp (fun _ hk=>hk) trivial (Below.refl _ _) (Nat.le_refl _) (by simp) ?_;(case hd=>rfl);(case hg=>rfl);(case hr=>exact rG);(case hp=>exact(Reps.one (show Kd.M (Kd.int .i64) _ _ _ 77 [.int .i64 77]from rfl) (Reps.none _ _)));intro cv dm aq hb hg_ hnew_;clear hg_ hnew_;(first|rw[← bI.out]at aq|(simp only[Int.reduceToNat]at aq;rw[← bI.out]at aq));replace g:=aM (S_elder' (by(with_reducible repeat(first|apply S_alloc|apply S_drewN|apply S_drew));exact(S_mono (S_far (p:=⟨E,0,none⟩) (S_types g.out a.out (by decide)) (fun _ hk=>hk.2) (.int .i64 A)) (fun _ h_=>h_.1))) (R_base aq) hb);replace j:=aM (R_below (by(with_reducible repeat(first|apply R_alloc|apply R_drewN|apply R_drew));exact(fR (R_types j.out a.out (by decide)) (fun _ h_=>h_.1))) hb);replace ai:=aM (R_below (by(with_reducible repeat(first|apply R_alloc|apply R_drewN|apply R_drew));exact(fR (R_types ai.out a.out (by decide)) (fun _ h_=>h_.1))) hb);have W:=rL aq;replace b:=kB b hb;replace a:=kP a hb (.cells #[.int .i64 A,.int .i64 an,.slice O v.length G] 28 (0,0));replace HB:=sB hb;clear hb aq;obtain⟨cw,cx,cy,cz,cA,cD,cE,cF⟩:=cz4 b)|((with_reducible refine gF 19 ?_);refine gY (some 36) Try.func19 (spec_NumsOf.calls b0.out (cC ((S_reads' g.out).2.2)) ((S_reads' g.out).2.1)) ?_;rintro dn dp ⟨q,hb⟩;replace g:=aM (S_elder' (by(with_reducible repeat(first|apply S_alloc|apply S_drewN|apply S_drew));exact g.out) (R_base q) hb);replace j:=rB j hb;replace ai:=rB ai hb;have aE:=aM (R_lower (R_new' q (R_lt (mR W))) (below_size cB));replace W:=eB W (R_base q) hb;replace b:=kB b hb;replace a:=kB a hb;replace HB:=sB hb;(try clear hb);(try clear q);obtain⟨bL,bM,cG⟩:=R_slice aE.out;subst cG)|((with_reducible refine gA 34 36 ?_);(try(refine gate_guard (by rfl) ?_;dsimp only));at_builtin;refine R_append_rows (Kd.int .i64) (w0:=w) w.heap.size rfl (.tmp 34) (.tmp 36) 46 3 (.int .i64 0) 8 rfl Try.underlying46 info3 rfl (by decide) (by omega) cv ax ad _ _ _ (fun k_=>some k_≠(.slice bL ad.length bM:Value).ownBlock) (fun _=>False) rfl rfl ?aO ?aR (fun _ _ h=>h) (fun _ h=>h.elim) ?aF ?aB ?aS ?aL ?_;(case aR=>exact rX aE);(case aB=>exact cB);(case aF=>exact(fun k_ hk=>Kd.fresh' (R_lt (mR aE)) k_ hk));(case aO=>exact(by exact rM W (fun _ hk=>hk.2)));(case aS=>exact(below_size cB));(case aL=>have:=b1.out;omega);intro bN dq ho hb hg hat;rw[← bJ.out]at ho;replace g:=aM (S_after (ok:=(fun k_=>some k_≠(.slice bL ad.length bM:Value).ownBlock)) (by exact sM g (fun _ hk=>⟨hk.2,hk.1.2⟩)) hg hat);replace j:=aM (R_over' (mR j) (R_typed (mR W)) (by decide) hg);replace b:=kN b hg W b;replace a:=kN a hg W a;replace ai:=aM (R_over' (mR ai) (R_typed (mR W)) (by decide) hg);replace aE:=aM (R_after (ok:=(fun _=>True)) (mR aE) hg hat);replace HB:=aM hb;have cI:=aM ho;clear W ho hb hg hat))
    go_loopg [8] kj4 (fun kq cJ w'=> ∃ (t:Int) (a1:Int),cJ= .int .i64 t∧Aside0 (laws_FnCompilesSmall.l0 kq U bH I t A ae af ab A a1 v=some r)∧Aside0 (kq≤kj4)∧Aside0 (Kd.R k34 34 w' w.heap.size (fun _=>True) cg U)∧Aside0 (Kd.R (Kd.int .i64) 3 w' w.heap.size (fun _=>True) bN I)∧Aside0 (Kd.S k81 81 w' w.heap.size (fun k_=>some k_≠(bN:Value).ownBlock) (.slice aZ ab.length a0) ab)∧Aside0 (Kd.R k93 93 w' w.heap.size (fun _=>True) (.slice O v.length G) v)∧Aside0 (w'.heap[z]?=some (.cells #[.int .i64 A,.int .i64 ae,.int .i64 af,(.slice aZ ab.length a0)] 41 (0,0)))∧Aside0 (w'.heap[E]?=some (.cells #[.int .i64 A,.int .i64 a1,(.slice O v.length G)] 28 (0,0)))∧Aside0 (Below w.heap.size w w'))
    case atStart=>exact⟨(0),(an),rS,H',⟨Nat.le_refl _⟩,⟨mR ai⟩,⟨rM cI (fun _ hk=>trivial)⟩,⟨sM g (fun _ hk=>hk.2)⟩,⟨mR j⟩,⟨mK b⟩,⟨mK a⟩,⟨cB⟩⟩
    case round=>
     clear H';(try clear am);(try clear ac);(try clear ah);(try clear aW);(try clear aC);(try clear bv);(try clear bw);(try clear aD);(try clear aY);(try clear bg bh bi bj);(try clear bo bp bq);(try clear bx bz bA bB);(try clear b5 b8 b9 ca);(try clear ch ci cj ck);(try clear cp cq cr);(try clear cw cx cy cz);(try clear bk bl bm bn);(try clear br bs bu);(try clear bC bD bF bG);(try clear cb cc cd ce);(try clear cl cm cn co);(try clear cs ct cu);(try clear cA cD cE cF);obtain⟨t,a1,rfl,HA,HK2,o,l,g,j,b,a,HB⟩:=hrel
     cases gk with
     | zero=>exact absurd HA.out (by simp[laws_FnCompilesSmall.l0])
     | succ k2=>
      have H:=HA.out;clear HA;simp only[laws_FnCompilesSmall.l0]at H;by_cases ar:t<(I.length:Int)
      ·rw[if_pos ar]at H;have cL:=decide_eq_true ar;clear ar;replace H:=gD H;obtain⟨dr,H⟩:=H;replace H:=bE H;obtain⟨⟨cM,ds⟩,bO,H⟩:=H;(try dsimp only at H);replace H:=bE H;obtain⟨aU,bP,H⟩:=H;by_cases aG:cM=aU
       ·rw[if_pos aG]at H;obtain⟨cN,cO⟩:=eT aG;clear aG;have H':=aM H;clear H;obtain⟨dt,du,cP⟩:=R_slice l.out;subst cP;have aj:0≤(t:Int):=dA;have ak:t<(I.length:Int):=dA;obtain⟨cQ,a2,cR⟩:=at_int (R_reads' l.out).2.2 t aj ak;cases a2;replace aj:=eq_true aj;replace ak:=eq_true ak;have hnb40:=aA.out;have hnc40:=az.out;obtain⟨dv,dw,dx,dy,dz,dC⟩:=cz3 a;obtain⟨dD,cS,cT⟩:=R_slice o.out;subst cT
        go_wp2_with (first|((with_reducible refine gF 14 ?_);refine gX (some 52) Try.func14 (spec_Run.calls bO.out ?side1 ((rY o)) ?side3 ((rY j))) ?_;(case side1=>refine(R_reads' (e:=34) (base:=w.heap.size) (ok:=fun k_=>True) (n:=U.length) (c:=cS) ?_).2.2;exact(by(with_reducible repeat(first|apply R_alloc|apply R_drewN|apply R_drew));exact(fR (R_types o.out a.out (by decide)) (fun _ h_=>h_.1))));(case side3=>refine(R_reads' (e:=93) (base:=w.heap.size) (ok:=fun k_=>True) (n:=v.length) (c:=G) ?_).2.2;exact(by(with_reducible repeat(first|apply R_alloc|apply R_drewN|apply R_drew));exact(fR (R_types j.out a.out (by decide)) (fun _ h_=>h_.1))));intro dE hb;replace o:=aM (R_below (by(with_reducible repeat(first|apply R_alloc|apply R_drewN|apply R_drew));exact(fR (R_types o.out a.out (by decide)) (fun _ h_=>h_.1))) hb);replace l:=aM (R_below (by(with_reducible repeat(first|apply R_alloc|apply R_drewN|apply R_drew));exact(fR (R_types l.out a.out (by decide)) (fun _ h_=>h_.1))) hb);replace g:=aM (S_below (by(with_reducible repeat(first|apply S_alloc|apply S_drewN|apply S_drew));exact(S_mono (S_far (p:=⟨E,1,none⟩) (S_types g.out a.out (by decide)) (fun _ hk=>hk.2) (.int .i64 (rd I t))) (fun _ h_=>h_.1))) hb);replace j:=aM (R_below (by(with_reducible repeat(first|apply R_alloc|apply R_drewN|apply R_drew));exact(fR (R_types j.out a.out (by decide)) (fun _ h_=>h_.1))) hb);replace b:=kB b hb;replace a:=kP a hb (.cells #[.int .i64 A,.int .i64 (rd I t),.slice O v.length G] 28 (0,0));replace HB:=sB hb;(try clear hb);obtain⟨dF,dG,dH,dI,dJ,dK,dL,dM⟩:=cz4 b;obtain⟨dN,dO,dP,dQ,dS,dT⟩:=cz3 a)|((with_reducible refine gF 20 ?_);refine gX (some 58) Try.func20 (spec_Decide.calls bP.out (cC ((S_reads' g.out).2.2)) ((S_reads' g.out).2.1) (rX j) ((rY j))) ?_;intro dU hb;replace o:=rB o hb;replace l:=rB l hb;replace g:=aM (S_below (by(with_reducible repeat(first|apply S_alloc|apply S_drewN|apply S_drew));exact g.out) hb);replace j:=rB j hb;replace b:=kB b hb;replace a:=kB a hb;replace HB:=sB hb;(try clear hb)))
        go_roundg k2
        case measure=>have:=HJ4.out;have:=HK2.out;omega
        case rel=>exact⟨(wrap64 (t+1)),(rd I t),rS,H',⟨by have:=HJ4.out;have:=HK2.out;omega⟩,⟨mR o⟩,⟨mR l⟩,⟨by(with_reducible repeat(first|apply S_alloc|apply S_drewN|apply S_drew));exact g.out⟩,⟨mR j⟩,⟨mK b⟩,⟨mK a⟩,⟨cB⟩⟩
       ·rw[if_neg aG]at H;obtain⟨cN,cO⟩:=eF aG;obtain rfl:=Option.some.inj H;obtain⟨dV,dX,cU⟩:=R_slice l.out;subst cU;have aj:0≤(t:Int):=dA;have ak:t<(I.length:Int):=dA;obtain⟨cQ,a2,cR⟩:=at_int (R_reads' l.out).2.2 t aj ak;cases a2;replace aj:=eq_true aj;replace ak:=eq_true ak;have hnb48:=aA.out;have hnc48:=az.out;obtain⟨dY,dZ,d0,d1,d2,d3⟩:=cz3 a;obtain⟨d4,cV,cW⟩:=R_slice o.out;subst cW
        go_wp2_with (first|((with_reducible refine gF 14 ?_);refine gX (some 52) Try.func14 (spec_Run.calls bO.out ?side1 ((rY o)) ?side3 ((rY j))) ?_;(case side1=>refine(R_reads' (e:=34) (base:=w.heap.size) (ok:=fun k_=>True) (n:=U.length) (c:=cV) ?_).2.2;exact(by(with_reducible repeat(first|apply R_alloc|apply R_drewN|apply R_drew));exact(fR (R_types o.out a.out (by decide)) (fun _ h_=>h_.1))));(case side3=>refine(R_reads' (e:=93) (base:=w.heap.size) (ok:=fun k_=>True) (n:=v.length) (c:=G) ?_).2.2;exact(by(with_reducible repeat(first|apply R_alloc|apply R_drewN|apply R_drew));exact(fR (R_types j.out a.out (by decide)) (fun _ h_=>h_.1))));intro d5 hb;replace o:=aM (R_below (by(with_reducible repeat(first|apply R_alloc|apply R_drewN|apply R_drew));exact(fR (R_types o.out a.out (by decide)) (fun _ h_=>h_.1))) hb);replace l:=aM (R_below (by(with_reducible repeat(first|apply R_alloc|apply R_drewN|apply R_drew));exact(fR (R_types l.out a.out (by decide)) (fun _ h_=>h_.1))) hb);replace g:=aM (S_below (by(with_reducible repeat(first|apply S_alloc|apply S_drewN|apply S_drew));exact(S_mono (S_far (p:=⟨E,1,none⟩) (S_types g.out a.out (by decide)) (fun _ hk=>hk.2) (.int .i64 (rd I t))) (fun _ h_=>h_.1))) hb);replace j:=aM (R_below (by(with_reducible repeat(first|apply R_alloc|apply R_drewN|apply R_drew));exact(fR (R_types j.out a.out (by decide)) (fun _ h_=>h_.1))) hb);replace b:=kB b hb;replace a:=kP a hb (.cells #[.int .i64 A,.int .i64 (rd I t),.slice O v.length G] 28 (0,0));replace HB:=sB hb;(try clear hb);obtain⟨d6,d7,d8,d9,ea,eb,ec,ed⟩:=cz4 b;obtain⟨ee,ef,eg,eh,ei,ej⟩:=cz3 a)|((with_reducible refine gF 20 ?_);refine gX (some 58) Try.func20 (spec_Decide.calls bP.out (cC ((S_reads' g.out).2.2)) ((S_reads' g.out).2.1) (rX j) ((rY j))) ?_;intro ek hb;replace o:=rB o hb;replace l:=rB l hb;replace g:=aM (S_below (by(with_reducible repeat(first|apply S_alloc|apply S_drewN|apply S_drew));exact g.out) hb);replace j:=rB j hb;replace b:=kB b hb;replace a:=kB a hb;replace HB:=sB hb;(try clear hb)))
        go_ret;exact⟨rE,cB⟩
      ·rw[if_neg ar]at H;have cL:=decide_eq_false ar;clear ar;by_cases aH:bH=0
       ·rw[if_pos aH]at H;obtain⟨cX,cY⟩:=eT aH;clear aH;by_cases au:(U.length:Int)>3
        ·rw[if_pos au]at H;have cZ:decide (3<(U.length:Int))=true:=decide_eq_true au
         have c0:decide (3<U.length)=true:=decide_eq_true (by omega)
         clear au;replace H:=bE H;obtain⟨a8,c1,H⟩:=H;replace H:=bE H;obtain⟨a9,c3,H⟩:=H;replace H:=bE H;obtain⟨ba,da,H⟩:=H;obtain rfl:=Option.some.inj H;obtain⟨el,em,db⟩:=R_slice l.out;subst db
         try go_wp2
         replace o:=dR o;replace l:=dR l;replace g:=aM (S_drew g.out);replace j:=dR j;replace b:=dB b;replace a:=dB a;replace HB:=dW HB;obtain⟨en,eo,bQ⟩:=R_slice o.out
         (first|subst bQ|(injection bQ with f1_ f2_ f3_;have f4_:=f1_.symm;have f5_:=f3_.symm;clear f1_ f2_ f3_;subst f4_;subst f5_))
         refine sZ 15 (fun w'=>w'.cell? ⟨z,0,none⟩=some (.int .i64 A)∧w'.cell? ⟨z,1,none⟩=some (.int .i64 ae)∧w'.cell? ⟨z,2,none⟩=some (.int .i64 af)∧w'.cell? ⟨z,3,none⟩=some (.slice aZ ab.length a0)) laws_FnCompilesSmall.tab16 laws_FnCompilesSmall.bits16 qh24x0 fun HT_ HW_ hHeld=>?_
         generalize wr.drew=ep at o l g j b a HB hHeld ⊢;refine pZ 0 60 1 ?_;refine pZ 1 61 3 ?_;refine pZ 2 62 7 ?_;refine pZ 3 63 15 ?_;refine pZ 4 64 31 ?_;refine pZ 5 65 63 ?_;refine pZ 6 66 127 ?_;refine pZ 7 67 255 ?_;refine tZ 8 68 511 (y:=q24x0) (h:=?_);refine tZ 10 70 1535 (y:=q24x0) (h:=?_)
         refine oZ 9 69 2047 fun K hK=>?_
         refine eY Try.func22 (impl_NumsOf.calls c1.out (cC ((S_reads' g.out).2.2)) ((S_reads' g.out).2.1)) ?_
         rintro eq er ⟨q,hb⟩;replace o:=rB o hb
         replace g:=aM (S_elder' (by(with_reducible repeat(first|apply S_alloc|apply S_drewN|apply S_drew));exact g.out) (R_base q) hb)
         replace j:=rB j hb;have av:=aM (R_lower (R_new' q (R_lt (mR l))) (below_size cB));replace l:=eB l (R_base q) hb;replace b:=kB b hb;replace a:=kB a hb;replace HB:=sB hb;(try clear hb);(try clear q)
         refine hK.out _ _ qh24x0 (fun hHeld=>?_)
         clear hK K;refine normZ (some 69) ?_
         refine oZ 11 71 4095 fun K hK=>?_
         refine eY Try.func19 (spec_NumsOf.calls c3.out (cC ((S_reads' g.out).2.2)) ((S_reads' g.out).2.1)) ?_
         rintro es et ⟨q,hb⟩;replace o:=rB o hb
         replace g:=aM (S_elder' (by(with_reducible repeat(first|apply S_alloc|apply S_drewN|apply S_drew));exact g.out) (R_base q) hb)
         replace j:=rB j hb;have a3:=aM (R_lower (R_new' (R_new' q (R_lt (mR l))) (R_lt (mR av))) (below_size cB));replace l:=eB l (R_base q) hb;replace av:=eB av (R_base q) hb;replace b:=kB b hb;replace a:=kB a hb;replace HB:=sB hb;(try clear hb);(try clear q);obtain⟨eu,ev,bR⟩:=R_slice av.out
         (first|subst bR|(injection bR with f1_ f2_ f3_;have f4_:=f1_.symm;have f5_:=f3_.symm;clear f1_ f2_ f3_;subst f4_;subst f5_))
         obtain⟨ew,ex,bS⟩:=R_slice a3.out
         (first|subst bS|(injection bS with f1_ f2_ f3_;have f4_:=f1_.symm;have f5_:=f3_.symm;clear f1_ f2_ f3_;subst f4_;subst f5_))
         refine hK.out _ _ qh24x0 (fun hHeld=>?_)
         clear hK K;refine normZ (some 71) ?_
         refine oZ 12 72 8191 fun K hK=>?_
         refine eX Try.func21 (laws_sameInts.calls da.out (rX av) ((rY av)) (rX a3) ((rY a3))) ?_
         rintro w' ⟨nd,rfl⟩
         refine hK.out _ _ qh24x0 (fun hHeld=>?_)
         clear hK K;refine normZ (some 72) ?_
         refine pZ 13 73 16383 ?_;refine pZ 14 2 32767 ?_
         refine done_ (done_of HT_.out (by kernel_rfl)) ?_
         try go_wp2
         go_ret;exact⟨rE,cB⟩
        ·rw[if_neg au]at H;have cZ:decide (3<(U.length:Int))=false:=decide_eq_false au
         have c0:decide (3<U.length)=false:=decide_eq_false (by omega)
         clear au;obtain rfl:=Option.some.inj H;obtain⟨ey,ez,dc⟩:=R_slice l.out;subst dc
         try go_wp2
         replace o:=dR o;replace l:=dR l;replace g:=aM (S_drew g.out);replace j:=dR j;replace b:=dB b;replace a:=dB a;replace HB:=dW HB;obtain⟨eA,eC,bT⟩:=R_slice o.out
         (first|subst bT|(injection bT with f1_ f2_ f3_;have f4_:=f1_.symm;have f5_:=f3_.symm;clear f1_ f2_ f3_;subst f4_;subst f5_))
         refine sZ 15 (fun w'=>True) laws_FnCompilesSmall.tab16 laws_FnCompilesSmall.bits16 trivial fun HT_ HW_ hHeld=>?_
         generalize wr.drew=eD at o l g j b a HB hHeld ⊢;refine pZ 0 60 1 ?_;refine pZ 1 61 3 ?_;refine pZ 2 62 7 ?_;refine pZ 3 63 15 ?_;refine pZ 4 64 31 ?_;refine pZ 5 65 63 ?_;refine pZ 6 66 127 ?_;refine pZ 7 67 255 ?_;refine pureU 8 (some 68) (msk 15 511) HT_.out ?_;refine pureU 9 (some 69) (msk 15 1023) HT_.out ?_;refine pureU 10 (some 70) (msk 15 2047) HT_.out ?_;refine pureU 11 (some 71) (msk 15 4095) HT_.out ?_;refine pureU 12 (some 72) (msk 15 8191) HT_.out ?_;refine pZ 13 73 16383 ?_;refine pZ 14 2 32767 ?_
         refine done_ (done_of HT_.out (by kernel_rfl)) ?_
         try go_wp2
         go_ret;exact⟨rE,cB⟩
       ·rw[if_neg aH]at H;obtain⟨cX,cY⟩:=eF aH;obtain rfl:=Option.some.inj H;obtain⟨eE,eG,dd⟩:=R_slice l.out;subst dd
        try go_wp2
        replace o:=dR o;replace l:=dR l;replace g:=aM (S_drew g.out);replace j:=dR j;replace b:=dB b;replace a:=dB a;replace HB:=dW HB
        refine sZ 15 (fun w'=>True) laws_FnCompilesSmall.tab16 laws_FnCompilesSmall.bits16 trivial fun HT_ HW_ hHeld=>?_
        generalize wr.drew=eH at o l g j b a HB hHeld ⊢;refine pZ 0 60 1 ?_;refine pZ 1 61 3 ?_;refine pZ 2 62 7 ?_;refine pureU 3 (some 63) (msk 15 15) HT_.out ?_;refine pureU 4 (some 64) (msk 15 31) HT_.out ?_;refine pureU 5 (some 65) (msk 15 63) HT_.out ?_;refine pZ 6 66 127 ?_;refine pZ 7 67 255 ?_;refine pureU 8 (some 68) (msk 15 511) HT_.out ?_;refine pureU 9 (some 69) (msk 15 1023) HT_.out ?_;refine pureU 10 (some 70) (msk 15 2047) HT_.out ?_;refine pureU 11 (some 71) (msk 15 4095) HT_.out ?_;refine pureU 12 (some 72) (msk 15 8191) HT_.out ?_;refine pZ 13 73 16383 ?_;refine pZ 14 2 32767 ?_
        refine done_ (done_of HT_.out (by kernel_rfl)) ?_
        try go_wp2
        go_ret;exact⟨rE,cB⟩
/-- THE ONE PURE STATEMENT of laws_FnCompilesSmall: yours. -/
def laws_FnCompilesSmall.Pure:Prop:= ∀ (u:List Int),u.length≤maxLen→u.length*1≤140737488351232→(∀ x ∈ u,(Lit.int .u8 x).wf=true)→∃ k,laws_FnCompilesSmall.f k u=some true
theorem laws_FnCompilesSmall.walk (P:laws_FnCompilesSmall.Pure) (a4:Option Addr) (len0 cap0:Nat) (z0:List Int) (w:World) (w0:(a4=none∧len0=0∧cap0=0∧z0= [])∨∃ x,a4=some x∧len0≤cap0∧cap0≤maxLen∧z0.length=cap0∧(∀ i,i<z0.length→w.cell? (x.add i)=some (.int .u8 (z0.getD i 0)))∧∀ n ∈ z0,(Lit.int .u8 n).wf=true) (de:len0*1≤140737488351232) :
    Calls Try.prog 4 #[.slice a4 len0 cap0] w fun e w'=>e= .returned (.bool true)∧Below w.heap.size w w':=by
  obtain⟨u,rfl,aJ,hm0,df,aK⟩:=ReadsInt.ofRowC w0
  obtain⟨k,h⟩:=P u hm0 de df
  refine(laws_FnCompilesSmall.calls h (C_of_reads (d:=(0:Int)) (h1:=fun _=>rfl) aJ) aK).mono ?_
  rintro e w' ⟨rfl,hd⟩
  exact⟨rfl,hd⟩
end Go.Proofs.Ytpbalojiaghfhaa.PFnCompilesSmall
