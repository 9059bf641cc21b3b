import Derived.Test.YtpbalojiaghfhaaPFnShortery0
import Derived.Test.YtpbalojiaghfhaaPFnShortery2
import Derived.Test.YtpbalojiaghfhaaPFnShortery3
namespace Go.Proofs.Ytpbalojiaghfhaa.PFnShorter
open Go.RowKit Go.Proofs.YtpbalojiaghfhaaW.PrintWords Go.Proofs.YtpbalojiaghfhaaW.PrintLast Go.Proofs.YtpbalojiaghfhaaW.PrintMore Go.Proofs.YtpbalojiaghfhaaW.Z
open Kd
attribute [local go_sem] isS max2_int min2_int max_two min_two max_three min_three max_four min_four
set_option linter.unusedVariables false
set_option linter.unusedSimpArgs false
theorem qh4x0 {P:Prop} (h:P:=by exact⟨(blk_cell c.out 0).trans rfl,(blk_cell c.out 1).trans rfl,(blk_cell c.out 2).trans rfl,(blk_cell c.out 3).trans rfl⟩):P:=h
mutual
def spec_l09Policy.j0:Nat→List Int→Int→Int→Int→Int→Int→Option (Int×Int×Int×(List (S81))×Int×Int)
  | 0,_,_,_,_,_,_=>none
  | k+1,I,ac,ad,aQ,aR,aT=>spec_l09Policy.l0 k 0 I ac ad aQ aR aT ([] :List (S81))
def spec_l09Policy.l0:Nat→Int→List Int→Int→Int→Int→Int→Int→List (S81)→Option (Int×Int×Int×(List (S81))×Int×Int)
  | 0,_,_,_,_,_,_,_,_=>none
  | k+1,bI,I,ac,ad,aQ,aR,aT,bm=>(spec_l01Below.f I ac ad 5).bind fun aD=>(if bI<aD.1 then((spec_l09Made.f k I aD.2.1 aD.2.2).bind fun an=>(if bm.length<2199023255552 then(spec_l09Policy.l0 k (wrap64 (bI+1)) I an.2.2.2.2.1 an.2.2.2.2.2 aQ aR aT (bm ++ [(⟨an.1,an.2.1,an.2.2.1,an.2.2.2.1⟩ :S81)]))else(none)))else(some (aQ,aR,aT,bm,aD.2.1,aD.2.2)))
end
def spec_l09Policy.f (k:Nat) (s0_0:List Int) (s0_1:Int) (s0_2:Int):Option (Int×Int×Int×(List (S81))×Int×Int):=(spec_l01PickInt.f s0_0 s0_1 s0_2 (([5,4,0,2] :List Int))).bind fun ae=>(if ae.1=2 then(spec_l09Policy.j0 k s0_0 ae.2.1 ae.2.2 62 ae.1 1)else(spec_l09Policy.j0 k s0_0 ae.2.1 ae.2.2 62 ae.1 0))
def spec_l09Policy.T7:Bool×List (List Nat×List Nat):=(true,[([],[]),([0],[0]),([],[]),([2],[2]),([3],[3]),([1,4,3],[1,4]),([0,1,2,3,4,5],[]),([6,5,5,0,1,2,3,4,5],[5,6])])
def spec_l09Policy.B7:List Nat:=[0,1,0,4,12,31,63,127]
theorem spec_l09Policy.tab7:rtab .any (opsOf Try.f49 7)=spec_l09Policy.T7:=by kernel_rfl
theorem spec_l09Policy.bits7:waitsOk spec_l09Policy.T7.2 spec_l09Policy.B7=true:=by kernel_rfl
theorem q4x0 {P:Prop} (h:P:=by repeat(first|(with_reducible first|exact HI0.out|apply IsS90.alloc|apply IsS90.drewN|apply IsS90.drew|apply IsS90.set_1|apply IsS90.set_2)|exact HI0.out)):P:=h
theorem q4x1 {P:Prop} (h:P:=by repeat(first|(with_reducible first|exact HB.out|apply below_alloc|apply pw_below_drewN|apply below_drew1|refine below_set ?_ (IsS90.ge HI0.out))|exact HB.out)):P:=h
theorem q4x2 {P:Prop} (h:P:=by repeat(first|(with_reducible first|exact HI0.out|apply IsS90.alloc|apply IsS90.drewN|apply IsS90.drew|apply IsS90.set_1|apply IsS90.set_2|(apply IsS90.far;case hne=>exact(Aside0.out (by assumption))))|exact HI0.out)):P:=h
theorem q4x3 {P:Prop} (h:P:=by repeat(first|(with_reducible first|exact HB.out|apply below_alloc|apply pw_below_drewN|apply below_drew1|refine below_set ?_ (IsS90.ge HI0.out)|refine below_set ?_ (Aside0.out (by assumption)))|exact HB.out)):P:=h
theorem q4x4 {P:Prop} (h:P:=by
 rintro w' ⟨s0,s1,s2,s3⟩
 go_simp
 with_reducible rfl):P:=h
set_option maxHeartbeats 8000000 in
set_option maxRecDepth 100000 in
theorem spec_l09Policy.calls (k:Nat) (g:Nat) (s0_0:List Int) (s0_1:Int) (s0_2:Int) (r1:Int) (r2:Int) (r3:Int) (r4:List (S81)) (r5:Int) (r6:Int) (a w:World) (hI:IsS90 a w g s0_0 s0_1 s0_2) (hB:Below a.heap.size a w) (h:spec_l09Policy.f k s0_0 s0_1 s0_2=some (r1,r2,r3,r4,r5,r6)) :
 Calls Try.prog 49 #[.pointer (some ⟨g,0,none⟩)] w fun e w'=> ∃ v3_:Value,e= .returned (.agg #[.int .i64 r1,.int .i64 r2,.int .i64 r3,v3_])∧Kd.S k81 81 w' w.heap.size (fun _=>True) v3_ r4∧IsS90 a w' g s0_0 r5 r6∧Below a.heap.size a w'∧KeepBut w w' g none:=by
 have hu41:=Try.underlying41;have HI0:=aM hI;have HK:=aM (KeepBut.refl w g none);have HL:=aM hB.size;clear hI;have HW0:=aM hB.size;have HB:=aM hB;clear hB
 unfold spec_l09Policy.f at h;have H:=h
 clear h;obtain⟨cs,bn⟩ : ∃ y_:List Int,Aside0 (y_=(([5,4,0,2] :List Int))):=⟨_,⟨rfl⟩⟩;rw[← bn.out]at H;replace H:=bE H;obtain⟨⟨L,ao,ap⟩,af,H⟩:=H;(try dsimp only at H);have HC3:=aM H;clear H;go_enter Try.func49,Try.ntmps49
 go_upto_if 11 with(first|((with_reducible refine gN 2 ?_);refine boxZ 2 #[.int .i64 0,.int .i64 0,.int .i64 0,.slice none 0 0] 41 ?_;intro O hg dP hbox hb;replace HB:=aM (below_step q4x1 hb);have i:=aM hbox;have GW200:=gK (w:=w) hg;have GE200:=gW HW0 hg;replace HK:=aM (KeepBut.trans (cK:KeepBut w _ g none) (KeepBut.of_below hb g none) (.inl rfl));have ct:=aM ((by rw[hg];exact Nat.ne_of_lt (IsS90.lt (show IsS90 a _ g s0_0 s0_1 s0_2 from q4x0)):g≠O));have aE:=aM ((by rw[hg];exact Nat.ne_of_gt (IsS90.lt (show IsS90 a _ g s0_0 s0_1 s0_2 from q4x0)):O≠g));replace HI0:=aM (IsS90.below q4x0 hb);clear hb hbox hg)|((with_reducible refine gN 6 ?_);refine R_lit (Kd.int .i64) _ 3 ?hg (N:=6) ?hd (xs:=([5,4,0,2] :List Int)) (inner:=[.int .i64 5,.int .i64 4,.int .i64 0,.int .i64 2]) (ok:=fun _=>True) (okp:=fun _=>True) ?hr ?hp (fun _ hk=>hk) trivial (Below.refl _ _) (Nat.le_refl _) (by simp) ?_;(case hd=>rfl);(case hg=>rfl);(case hr=>exact rG);(case hp=>exact(Reps.one (show Kd.M (Kd.int .i64) _ _ _ 5 [.int .i64 5]from rfl) (Reps.one (show Kd.M (Kd.int .i64) _ _ _ 4 [.int .i64 4]from rfl) (Reps.one (show Kd.M (Kd.int .i64) _ _ _ 0 [.int .i64 0]from rfl) (Reps.one (show Kd.M (Kd.int .i64) _ _ _ 2 [.int .i64 2]from rfl) (Reps.none _ _))))));intro dQ dS aG hb hg_ hnew_;clear hg_ hnew_;(first|rw[← bn.out]at aG|(simp only[Int.reduceToNat]at aG;rw[← bn.out]at aG));have U:=aM (R_lower aG (keep_size (w:=w) (g:=g) (row:=none) cK));replace i:=kB i hb;replace HK:=aM (KeepBut.trans (cK:KeepBut w _ g none) (KeepBut.of_below hb g none) (.inl rfl));replace HB:=aM (below_step q4x3 hb);replace HI0:=aM (IsS90.below q4x2 hb);clear hb aG;obtain⟨dT,dU,cu⟩:=R_slice U.out;subst cu)|((with_reducible refine gF 72 ?_);refine gX (some 7) Try.func72 (spec_l01PickInt.calls g s0_0 s0_1 s0_2 _ _ cs L ao ap a _ q4x2 q4x3 (rX U) ((rY U)) (far_slice (IsS90.own_ne HI0.out U.out (by decide))) af.out) ?_;rintro cv ⟨hi,hb,hk⟩;replace i:=bK hk i aE.out;replace U:=aM (R_mono (R_keep (IsS90.apart (show IsS90 a _ g s0_0 s0_1 s0_2 from q4x2) (mR U) (by decide)) hk (fun _ h=>h.2)) (fun _ h=>h.1));replace HK:=tK (w:=w) hk;replace HB:=aM hb;replace HI0:=aM hi;(try clear hb);(try clear hk);(try clear hi))|((with_reducible refine gN 3 ?_);refine boxZ 3 #[.int .i64 0,.int .i64 0,.int .i64 0,.slice none 0 0] 41 ?_;intro J hg cw hbox hb;replace U:=rB U hb;replace HB:=aM (below_step q4x3 hb);have c:=aM hbox;have GW207:=gK (w:=w) hg;have GE207:=gW HW0 hg;replace HK:=aM (KeepBut.trans (cK:KeepBut w _ g none) (KeepBut.of_below hb g none) (.inl rfl));have aU:=nL hg i;have aV:=nG hg i;replace i:=kB i hb;have bo:=aM ((by rw[hg];exact Nat.ne_of_lt (IsS90.lt (show IsS90 a _ g s0_0 ao ap from q4x2)):g≠J));have aq:=aM ((by rw[hg];exact Nat.ne_of_gt (IsS90.lt (show IsS90 a _ g s0_0 ao ap from q4x2)):J≠g));replace HI0:=aM (IsS90.below q4x2 hb);clear hb hbox hg;have hnb10:=aV.out;have hnc10:=aU.out;have hnb11:=aq.out;have hnc11:=bo.out;obtain⟨aW,aX,aY,aZ,a0,a1,a2,a3⟩:=cz4 c))
 (try simp only[Act.put,List.setIfInBounds_toArray,List.set_cons_zero,List.set_cons_succ])
 go_cut [] (fun wc=> ∃ (kq:Nat) (W:Int),Aside0 (spec_l09Policy.j0 kq s0_0 ao ap 62 L W=some (r1,r2,r3,r4,r5,r6))∧Aside0 (kq≤k)∧Aside0 (wc.heap[O]?=some (.cells #[.int .i64 0,.int .i64 0,.int .i64 0,(.slice none 0 0)] 41 (0,0)))∧Aside0 (wc.heap[J]?=some (.cells #[.int .i64 62,.int .i64 L,.int .i64 W,(.slice none 0 0)] 41 (0,0)))∧Aside0 (IsS90 a wc g s0_0 ao ap)∧Aside0 (KeepBut w wc g none)∧Aside0 (Below a.heap.size a wc))
 case first=>
  have H:=HC3.out;clear HC3;by_cases ag:L=2
  ·rw[if_pos ag]at H;obtain⟨ah,bp⟩:=eT ag;clear ag
   (first|rw[ah]|(simp only[i64_w,i32_w];rw[ah])|skip)
   have H':=aM H;clear H;have hnb14:=aV.out;have hnc14:=aU.out;have hnb15:=aq.out;have hnc15:=bo.out;obtain⟨a4,a5,a6,a7,a8,a9,ba,bb⟩:=cz4 c;go_wp2;go_meet
   case rel=>exact⟨_,(1),H',⟨oL⟩,⟨mK i⟩,⟨kS c _⟩,⟨q4x2⟩,⟨cK⟩,⟨q4x3⟩⟩
  ·rw[if_neg ag]at H;obtain⟨ah,bp⟩:=eF ag
   (first|rw[ah]|(simp only[i64_w,i32_w];rw[ah])|skip)
   have H':=aM H;clear H;go_wp2;go_meet
   case rel=>exact⟨_,(0),H',⟨oL⟩,⟨mK i⟩,⟨kS c _⟩,⟨q4x2⟩,⟨cK⟩,⟨q4x3⟩⟩
 case rest=>
  clear HC3;(try clear ag);(try clear ah);(try clear bp);(try clear aW aX aY aZ);(try clear a4 a5 a6 a7);(try clear a0 a1 a2 a3);(try clear a8 a9 ba bb);obtain⟨kq,W,HA,HJ2,i,c,HI0,HK,HB⟩:=hcut
  cases kq with
  | zero=>exact absurd HA.out (by simp[spec_l09Policy.j0])
  | succ kj2=>
   have H:=HA.out;clear HA;simp only[spec_l09Policy.j0]at H;have H':=aM H;clear H;go_wp2
   go_loopg [4] kj2 (fun kq cx w'=> ∃ (aH:Int) (ai:Int) (aj:Int) (ak:List (S81)) (u208003:Value),cx= .int .i64 aH∧Aside0 (spec_l09Policy.l0 kq aH s0_0 ai aj 62 L W ak=some (r1,r2,r3,r4,r5,r6))∧Aside0 (kq≤kj2)∧Aside0 (Kd.S k81 81 w' w.heap.size (fun _=>True) u208003 ak)∧Aside0 (w'.heap[O]?=some (.cells #[.int .i64 0,.int .i64 0,.int .i64 0,(.slice none 0 0)] 41 (0,0)))∧Aside0 (w'.heap[J]?=some (.cells #[.int .i64 62,.int .i64 L,.int .i64 W,u208003] 41 (0,0)))∧Aside0 (IsS90 a w' g s0_0 ai aj)∧Aside0 (KeepBut w w' g none)∧Aside0 (Below a.heap.size a w'))
   case atStart=>exact⟨(0),(ao),(ap),(([] :List (S81))),(.slice none 0 0),rS,H',⟨Nat.le_refl _⟩,⟨by first|exact S_nil _ _ _ _ _|exact N_nil _ _ _ _ _|exact V_nil _ _ _ _ _|exact Q_nil _ _ _ _ _|exact R_nil _ _ _ _ _⟩,⟨mK i⟩,⟨mK c⟩,⟨q4x2⟩,⟨cK⟩,⟨q4x3⟩⟩
   case round=>
    clear H';(try clear ag);(try clear ah);(try clear bp);(try clear aW aX aY aZ);(try clear a4 a5 a6 a7);(try clear a0 a1 a2 a3);(try clear a8 a9 ba bb);(try clear c);obtain⟨aH,ai,aj,ak,u208003,rfl,HA,HK2,l,i,c,HI0,HK,HB⟩:=hrel
    cases gk with
    | zero=>exact absurd HA.out (by simp[spec_l09Policy.l0])
    | succ k2=>
     have H:=HA.out;clear HA;simp only[spec_l09Policy.l0]at H;replace H:=bE H;obtain⟨⟨bq,bd,be⟩,bJ,H⟩:=H;(try dsimp only at H);by_cases ar:aH<bq
     ·rw[if_pos ar]at H;have cy:=decide_eq_true ar;clear ar;replace H:=bE H;obtain⟨⟨au,av,aI,aJ,bL,bM⟩,cz,H⟩:=H;(try dsimp only at H);replace H:=gC H;obtain⟨bN,H⟩:=H;have cA:=aM bN;clear bN;obtain⟨br,bO⟩ : ∃ y_:List (S81),Aside0 (y_=(ak ++ [(⟨au,av,aI,aJ⟩ :S81)])):=⟨_,⟨rfl⟩⟩;rw[← bO.out]at H;have H':=aM H;clear H
      try go_wp2_with (first|((with_reducible refine gF 80 ?_);refine gX (some 15) Try.func80 (spec_l01Below.calls g s0_0 ai aj 5 bq bd be a _ q4x2 q4x3 bJ.out) ?_;rintro bP ⟨hi,hb,hk⟩;replace l:=aM (S_mono (S_keep (IsS90.apartS (show IsS90 a _ g s0_0 ai aj from q4x2) (by(with_reducible repeat(first|apply S_alloc|apply S_drewN|apply S_drew));exact l.out) (by decide)) hk (fun _ h=>h.2)) (fun _ h=>h.1));replace i:=bK hk i aE.out;replace c:=bK hk c aq.out;replace HK:=tK (w:=w) hk;replace HB:=aM hb;replace HI0:=aM hi;(try clear hb);(try clear hk);(try clear hi)))
      replace l:=aM (S_drew l.out);replace i:=dB i;replace c:=dB c;replace HI0:=aM (IsS90.drew HI0.out);replace HK:=aM (keep_drew HK.out);replace HB:=dW HB
      refine sV 8 (fun w'=>w'.cell? ⟨J,0,none⟩=some (.int .i64 62)∧w'.cell? ⟨J,1,none⟩=some (.int .i64 L)∧w'.cell? ⟨J,2,none⟩=some (.int .i64 W)∧w'.cell? ⟨J,3,none⟩=some (u208003)) (ds:=[7]) spec_l09Policy.tab7 spec_l09Policy.bits7 qh4x0 fun HT_ HW_ hHeld=>?_
      generalize bP.drew=cD at l i c HI0 HK HB hHeld ⊢;refine pZ 0 19 1 ?_;refine pZ 2 21 5 ?_;refine tZ 1 20 7 (y:=q4x4) (h:=?_)
      refine oZ 3 22 15 fun K hK=>?_
      refine eV Try.func81 (spec_l09Made.calls k2 g s0_0 bd be au av aI aJ bL bM a _ q4x2 q4x3 cz.out) ?_
      rintro e dV ⟨dX,dY,rfl,bs,bu,hi,hb,hk⟩;refine⟨_,rfl,?_⟩
      replace l:=aM (S_mono (S_told (S_told (S_oldK (IsS90.apartS (show IsS90 a _ g s0_0 bd be from q4x2) (by(with_reducible repeat(first|apply S_alloc|apply S_drewN|apply S_drew));exact l.out) (by decide)) hk) (R_base bs)) (R_base bu)) (fun _ h_=>h_.1))
      replace i:=bK hk i aE.out;replace c:=bK hk c aq.out;have bf:=aM (R_lower bs (keep_size (w:=w) (g:=g) (row:=none) cK));have bg:=aM (R_lower bu (keep_size (w:=w) (g:=g) (row:=none) cK));replace HK:=tK (w:=w) hk;replace HB:=aM hb;replace HI0:=aM hi;(try clear hb);(try clear hk);(try clear hi);(try clear bs);(try clear bu);obtain⟨bQ,bR,bS⟩:=R_slice bf.out
      (first|subst bS|(injection bS with f1_ f2_ f3_;have f4_:=f1_.symm;have f5_:=f3_.symm;clear f1_ f2_ f3_;subst f4_;subst f5_))
      obtain⟨bT,bU,bV⟩:=R_slice bg.out
      (first|subst bV|(injection bV with f1_ f2_ f3_;have f4_:=f1_.symm;have f5_:=f3_.symm;clear f1_ f2_ f3_;subst f4_;subst f5_))
      refine hK.out _ _ qh4x0 (fun hHeld=>?_)
      clear hK K;refine normZ (some 22) ?_
      refine oZ 4 23 31 fun K hK=>?_
      refine value_ (w1:=?_) (v:=?_) (by rfl) rfl ?_ ?_
      rotate_left 2
      ·go_simp;constructor
       ·rfl
       ·rfl
      refine hK.out _ _ ⟨(blk_cell (blk_alloc c.out _) 0).trans rfl,(blk_cell (blk_alloc c.out _) 1).trans rfl,(blk_cell (blk_alloc c.out _) 2).trans rfl,(blk_cell (blk_alloc c.out _) 3).trans rfl⟩ (fun hHeld=>?_)
      clear hK K;refine normZ (some 23) ?_
      refine oZ 5 24 63 fun K hK=>?_
      refine S_append_step k81 w.heap.size (by rfl) (.tmp 20) (.tmp 23) 39 81 (.agg #[(.slice none 0 0),(.slice none 0 0),(.int .i64 0),(.int .i64 0)]) 64 rfl Try.underlying39 info81 rfl (by decide) (by omega) u208003 ak (⟨au,av,aI,aJ⟩ :S81) [.slice bQ au.length bR,.slice bT av.length bU,.int .i64 aI,.int .i64 aJ] (fun _=>True) (fun k_=>some k_=(.slice bQ au.length bR:Value).ownBlock∨some k_=(.slice bT av.length bU:Value).ownBlock) rfl rfl ?aP (fun k_ hk_=>hk_.elim (fun h_=>((R_mono (ok':=fun k_=>((fun _=>True)) k_∧some k_≠(u208003:Value).ownBlock) (R_apart' (bf.out) (S_typed l.out) (by decide)) (fun k_ hk=>⟨trivial,hk.2⟩))).1 k_ h_.symm) (fun h_=>((R_mono (ok':=fun k_=>((fun _=>True)) k_∧some k_≠(u208003:Value).ownBlock) (R_apart' (bg.out) (S_typed l.out) (by decide)) (fun k_ hk=>⟨trivial,hk.2⟩))).1 k_ h_.symm)) ?aF ?aO (Below.refl _ _) ?aS ?aL ?_
      (case aP=>exact k81_mkM _ _ _ (⟨au,av,aI,aJ⟩ :S81) (R_mono (R_tight rfl (R_mono (ok':=fun k_=>((fun _=>True)) k_∧some k_≠(u208003:Value).ownBlock) (R_apart' (bf.out) (S_typed l.out) (by decide)) (fun k_ hk=>⟨trivial,hk.2⟩))) (fun _ h_=>Or.inl h_)) (R_mono (R_tight rfl (R_mono (ok':=fun k_=>((fun _=>True)) k_∧some k_≠(u208003:Value).ownBlock) (R_apart' (bg.out) (S_typed l.out) (by decide)) (fun k_ hk=>⟨trivial,hk.2⟩))) (fun _ h_=>Or.inr (h_))))
      (case aF=>exact(fun _ _=>trivial))
      (case aO=>exact(by exact sM l (fun k_ hk=>⟨trivial,fun e_=>e_.elim (fun h_=>hk.1.2 h_) (fun h_=>hk.2 h_)⟩)))
      (case aS=>exact(keep_size (w:=w) (g:=g) (row:=none) cK))
      (case aL=>have:=cA.out;omega)
      intro dZ cE ho hb hg hat;rw[← bO.out]at ho
      replace i:=aM (blk_grown (mK i) hg (S_ne l.out i.out (by decide)))
      replace c:=aM (blk_grown (mK c) hg (S_ne l.out c.out (by decide)))
      replace HB:=aM (below_weaken q4x3 HL.out hb)
      replace HI0:=aM (IsS90.grown q4x2 hg (IsS90.own_neS HI0.out l.out (by decide)))
      replace HK:=aM (KeepBut.trans (cK:KeepBut w _ g none) (KeepBut.of_grown hg g) (S_base2 l.out));have bW:=aM ho;clear l bf bg ho hb hg hat;obtain⟨bX,bY,bZ⟩:=S_slice bW.out
      (first|subst bZ|(injection bZ with f1_ f2_ f3_;have f4_:=f1_.symm;have f5_:=f3_.symm;clear f1_ f2_ f3_;subst f4_;subst f5_))
      refine hK.out _ _ qh4x0 (fun hHeld=>?_)
      clear hK K;refine normZ (some 24) ?_
      refine pZ 6 25 127 ?_
      refine last_Z 7 (none) (msk 8 255) HT_.out fun K hK=>?_
      have hs28:cE.cell? ⟨J,3,none⟩=some (u208003):=(blk_cell c.out 3).trans rfl;have hfs28:=blk_frozen c.out 3;have hns28_0:=aU.out;have hms28_0:=aV.out
      refine skip_ (w1:=?_) (by rfl) rfl ?_ ?_
      rotate_left
      ·go_simp;rfl
      refine hK.out _ _ ?_;clear hK K
      refine done_ (done_of HT_.out (by kernel_rfl)) ?_
      try go_wp2
      go_roundg k2
      case measure=>have:=HJ2.out;have:=HK2.out;omega
      case rel=>exact⟨(wrap64 (aH+1)),(bL),(bM),(br),(.slice bX br.length bY),rS,H',⟨by have:=HJ2.out;have:=HK2.out;omega⟩,⟨by(with_reducible repeat(first|apply S_alloc|apply S_drewN|apply S_drew));exact S_mono (S_far (p:=⟨J,3,none⟩) (S_types bW.out c.out (by decide)) (fun _ hk=>hk.2) (.slice bX br.length bY)) (fun _ hk=>trivial)⟩,⟨mK i⟩,⟨kS c _⟩,⟨q4x2⟩,⟨cK⟩,⟨q4x3⟩⟩
     ·rw[if_neg ar]at H;have cy:=decide_eq_false ar;clear ar;simp only[Option.some.injEq,Prod.mk.injEq]at H;obtain⟨rfl,rfl,rfl,rfl,rfl,rfl⟩:=H
      go_wp2_with (first|((with_reducible refine gF 80 ?_);refine gX (some 15) Try.func80 (spec_l01Below.calls g s0_0 ai aj 5 bq bd be a _ q4x2 q4x3 bJ.out) ?_;rintro d0 ⟨hi,hb,hk⟩;replace l:=aM (S_mono (S_keep (IsS90.apartS (show IsS90 a _ g s0_0 ai aj from q4x2) (by(with_reducible repeat(first|apply S_alloc|apply S_drewN|apply S_drew));exact l.out) (by decide)) hk (fun _ h=>h.2)) (fun _ h=>h.1));replace i:=bK hk i aE.out;replace c:=bK hk c aq.out;replace HK:=tK (w:=w) hk;replace HB:=aM hb;replace HI0:=aM hi;(try clear hb);(try clear hk);(try clear hi);have hnb30:=aV.out;have hnc30:=aU.out;have hnb31:=aq.out;have hnc31:=bo.out;obtain⟨d1,d2,d3,d4,d5,d6,d7,d8⟩:=cz4 c;have hnb33:=aE.out;have hnc33:=ct.out;obtain⟨d9,ea,eb,ec,ed,ee,ef,eg⟩:=cz4 i;obtain⟨b0,b1,cF⟩:=S_slice l.out;subst cF))
      refine bodyPost_ret (results_cell_row rfl _ _ O 41 #[.int .i64 62,.int .i64 L,.int .i64 W,.slice b0 ak.length b1] (0,0) _ rfl (kS i _) Try.underlying41 rfl (by kernel_rfl)) rfl ?_
      exact⟨_,rE,by(with_reducible repeat(first|apply S_alloc|apply S_drewN|apply S_drew));exact S_mono (S_far (p:=⟨O,3,none⟩) (S_far (p:=⟨O,2,none⟩) (S_far (p:=⟨O,1,none⟩) (S_far (p:=⟨O,0,none⟩) (S_types l.out i.out (by decide)) (fun _ hk=>hk.2) (.int .i64 62)) (fun _ hk=>hk.2) (.int .i64 L)) (fun _ hk=>hk.2) (.int .i64 W)) (fun _ hk=>hk.2) (.slice b0 ak.length b1)) (fun _ hk=>trivial),q4x2,q4x3,cK⟩
def spec_l01In.f (m:Int) (A:Int) (aK:Int):Option (Bool):=if m≥A then(some (decide (m≤aK)))else(some false)
set_option maxHeartbeats 8000000 in
set_option maxRecDepth 100000 in
theorem spec_l01In.calls {m:Int}{A:Int}{aK:Int}{r:Bool}{w:World}(h:spec_l01In.f m A aK=some r) :
 Calls Try.prog 41 #[.int .i64 m,.int .i64 A,.int .i64 aK] w fun e w'=>e= .returned (.bool r)∧Drawn0 w w':=by
 have H:(if m≥A then(some (decide (m≤aK)))else(some false))=some r:=h;clear h;by_cases s:m≥A
 ·rw[if_pos s]at H;have bh:decide (A≤m)=true:=decide_eq_true s;clear s;obtain rfl:=Option.some.inj H;go_enter Try.func41,Try.ntmps41;go_wp2;go_ret
  exact⟨by first|rfl|(simp;done)|(simp[*];done),by repeat(first|exact Drawn0.refl _|apply Drawn0.step)⟩
 ·rw[if_neg s]at H;have bh:decide (A≤m)=false:=decide_eq_false s;clear s;obtain rfl:=Option.some.inj H;go_enter Try.func41,Try.ntmps41;go_wp2;go_ret
  exact⟨by first|rfl|(simp;done)|(simp[*];done),by repeat(first|exact Drawn0.refl _|apply Drawn0.step)⟩
def spec_ResultOf.f (m:Int) (A:Int):Option (Int):=(spec_l01In.f m 0 5).bind fun bv=>(if bv=true then((spec_l01In.f A 0 65535).bind fun bw=>(if bw=true then(some (wrap64 ((wrap64 (65536*m))+A)))else(some 0)))else(some 0))
set_option maxHeartbeats 8000000 in
set_option maxRecDepth 100000 in
theorem spec_ResultOf.calls {m:Int}{A:Int}{r:Int}{w:World}(h:spec_ResultOf.f m A=some r) :
 Calls Try.prog 34 #[.int .i64 m,.int .i64 A] w fun e w'=>e= .returned (.int .i64 r)∧Drawn0 w w':=by
 unfold spec_ResultOf.f at h;have H:=h
 clear h;replace H:=bE H;obtain⟨bv,al,H⟩:=H;by_cases s:bv=true
 ·subst s;replace H:=iT H;replace H:=bE H;obtain⟨bw,bi,H⟩:=H;by_cases bj:bw=true
  ·subst bj;replace H:=iT H;obtain rfl:=Option.some.inj H;go_enter Try.func34,Try.ntmps34
   go_wp2_with (first|((with_reducible refine gF 41 ?_);refine gX (some 6) Try.func41 (spec_l01In.calls al.out) ?_;rintro w' ⟨nd,rfl⟩)|(go_at_call 41;(with_reducible refine(spec_l01In.calls bi.out).mono ?_);rintro e w' ⟨rfl,⟨nd,rfl⟩⟩))
   go_ret
   exact⟨by first|rfl|(simp;done)|(simp[*];done),by repeat(first|exact Drawn0.refl _|apply Drawn0.step)⟩
  ·replace bj:=Bool.eq_false_iff.mpr bj;subst bj;replace H:=iF H;obtain rfl:=Option.some.inj H;go_enter Try.func34,Try.ntmps34
   go_wp2_with (first|((with_reducible refine gF 41 ?_);refine gX (some 6) Try.func41 (spec_l01In.calls al.out) ?_;rintro w' ⟨nd,rfl⟩)|(go_at_call 41;(with_reducible refine(spec_l01In.calls bi.out).mono ?_);rintro e w' ⟨rfl,⟨nd,rfl⟩⟩))
   go_ret
   exact⟨by first|rfl|(simp;done)|(simp[*];done),by repeat(first|exact Drawn0.refl _|apply Drawn0.step)⟩
 ·replace s:=Bool.eq_false_iff.mpr s;subst s;replace H:=iF H;obtain rfl:=Option.some.inj H;go_enter Try.func34,Try.ntmps34
  go_wp2_with (first|((with_reducible refine gF 41 ?_);refine gX (some 6) Try.func41 (spec_l01In.calls al.out) ?_;rintro w' ⟨nd,rfl⟩))
  go_ret
  exact⟨by first|rfl|(simp;done)|(simp[*];done),by repeat(first|exact Drawn0.refl _|apply Drawn0.step)⟩
def spec_l06Ask.f (m:Int):Option (Bool):=(spec_l01In.f m 3 6).bind fun b5=>(some b5)
set_option maxHeartbeats 8000000 in
set_option maxRecDepth 100000 in
theorem spec_l06Ask.calls {m:Int}{r:Bool}{w:World}(h:spec_l06Ask.f m=some r) :
 Calls Try.prog 78 #[.int .i64 m] w fun e w'=>e= .returned (.bool r)∧Drawn0 w w':=by
 unfold spec_l06Ask.f at h;have H:=h
 clear h;replace H:=bE H;obtain⟨b5,af,H⟩:=H;obtain rfl:=Option.some.inj H;go_enter Try.func78,Try.ntmps78
 go_wp2_with (first|((with_reducible refine gF 41 ?_);refine gX (some 4) Try.func41 (spec_l01In.calls af.out) ?_;rintro w' ⟨nd,rfl⟩))
 go_ret
 exact⟨by first|rfl|(simp;done)|(simp[*];done),by repeat(first|exact Drawn0.refl _|apply Drawn0.step)⟩
def spec_l06Ins.j0:Nat→Int→Bool→List Int→Int→Int→Int→Int→Int→Int→Option (Int×Int×Int×Int×Int×Int)
  | 0,_,_,_,_,_,_,_,_,_=>none
  | k+1,cG,cI,I,ac,ad,bx,b8,b9,ca=>if cI=true then((spec_l01Below.f I ac ad 4).bind fun bz=>((spec_l01Below.f I bz.2.1 bz.2.2 4).bind fun bA=>(some (bx,b8,bz.1,bA.1,bA.2.1,bA.2.2))))else(if cG=8 then((spec_l01Below.f I ac ad 6).bind fun bB=>((spec_l01Below.f I bB.2.1 bB.2.2 5).bind fun bC=>((spec_ResultOf.f bB.1 bC.1).bind fun bD=>(some (bx,bD,b9,ca,bC.2.1,bC.2.2)))))else(some (bx,b8,b9,ca,ac,ad)))
def spec_l06Ins.f (k:Nat) (s0_0:List Int) (s0_1:Int) (s0_2:Int):Option (Int×Int×Int×Int×Int×Int):=(spec_l01Below.f s0_0 s0_1 s0_2 8).bind fun n=>((spec_l04Half.f s0_0 n.2.1 n.2.2).bind fun t=>(if(wrap64 (1+n.1))=1 then((spec_l01Below.f s0_0 t.2.1 t.2.2 8).bind fun bF=>(some (wrap64 (1+n.1),bF.1,0,0,bF.2.1,bF.2.2)))else(if(wrap64 (1+n.1))=7 then((spec_l01Below.f s0_0 t.2.1 t.2.2 4).bind fun bG=>(some (wrap64 (1+n.1),bG.1,0,0,bG.2.1,bG.2.2)))else(if(wrap64 (1+n.1))=3 then(spec_l06Ins.j0 k (wrap64 (1+n.1)) ((wrap64 (1+n.1)) == 3) s0_0 t.2.1 t.2.2 (wrap64 (1+n.1)) t.1 0 0)else(if(wrap64 (1+n.1))=4 then(spec_l06Ins.j0 k (wrap64 (1+n.1)) ((wrap64 (1+n.1)) == 4) s0_0 t.2.1 t.2.2 (wrap64 (1+n.1)) t.1 0 0)else(if(wrap64 (1+n.1))=5 then(spec_l06Ins.j0 k (wrap64 (1+n.1)) ((wrap64 (1+n.1)) == 5) s0_0 t.2.1 t.2.2 (wrap64 (1+n.1)) t.1 0 0)else(spec_l06Ins.j0 k (wrap64 (1+n.1)) ((wrap64 (1+n.1)) == 6) s0_0 t.2.1 t.2.2 (wrap64 (1+n.1)) t.1 0 0)))))))
set_option maxHeartbeats 8000000 in
set_option maxRecDepth 100000 in
theorem spec_l06Ins.calls (k:Nat) (g:Nat) (s0_0:List Int) (s0_1:Int) (s0_2:Int) (r1:Int) (r2:Int) (r3:Int) (r4:Int) (r5:Int) (r6:Int) (a w:World) (hI:IsS90 a w g s0_0 s0_1 s0_2) (hB:Below a.heap.size a w) (h:spec_l06Ins.f k s0_0 s0_1 s0_2=some (r1,r2,r3,r4,r5,r6)) :
 Calls Try.prog 98 #[.pointer (some ⟨g,0,none⟩)] w fun e w'=>e= .returned (.agg #[.int .i64 r1,.int .i64 r2,.int .i64 r3,.int .i64 r4])∧IsS90 a w' g s0_0 r5 r6∧Below a.heap.size a w'∧KeepBut w w' g none:=by
 have hu34:=Try.underlying34;have HI0:=aM hI;have HK:=aM (KeepBut.refl w g none);have HL:=aM hB.size;clear hI;have HW0:=aM hB.size;have HB:=aM hB;clear hB
 unfold spec_l06Ins.f at h;have H:=h
 clear h;replace H:=bE H;obtain⟨⟨j,aw,ax⟩,af,H⟩:=H;(try dsimp only at H);replace H:=bE H;obtain⟨⟨G,u,x⟩,al,H⟩:=H;(try dsimp only at H);by_cases s:(wrap64 (1+j))=1
 ·rw[if_pos s]at H;obtain⟨bh,cb⟩:=eT s;clear s;replace H:=bE H;obtain⟨⟨cc,cJ,cL⟩,bi,H⟩:=H;(try dsimp only at H);simp only[Option.some.injEq,Prod.mk.injEq]at H;obtain⟨rfl,rfl,rfl,rfl,rfl,rfl⟩:=H;go_enter Try.func98,Try.ntmps98
  go_wp2_with (first|((with_reducible refine gN 2 ?_);refine boxZ 2 #[.int .i64 0,.int .i64 0,.int .i64 0,.int .i64 0] 34 ?_;intro z hg eh hbox hb;replace HB:=aM (below_step q4x1 hb);have b:=aM hbox;have GW227:=gK (w:=w) hg;have GE227:=gW HW0 hg;replace HK:=aM (KeepBut.trans (cK:KeepBut w _ g none) (KeepBut.of_below hb g none) (.inl rfl));have am:=aM ((by rw[hg];exact Nat.ne_of_lt (IsS90.lt (show IsS90 a _ g s0_0 s0_1 s0_2 from q4x0)):g≠z));have q:=aM ((by rw[hg];exact Nat.ne_of_gt (IsS90.lt (show IsS90 a _ g s0_0 s0_1 s0_2 from q4x0)):z≠g));replace HI0:=aM (IsS90.below q4x0 hb);clear hb hbox hg)|((with_reducible refine gF 80 ?_);refine gX (some 5) Try.func80 (spec_l01Below.calls g s0_0 s0_1 s0_2 8 j aw ax a _ q4x2 q4x3 af.out) ?_;rintro ei ⟨hi,hb,hk⟩;replace b:=bK hk b q.out;replace HK:=tK (w:=w) hk;replace HB:=aM hb;replace HI0:=aM hi;(try clear hb);(try clear hk);(try clear hi))|((with_reducible refine gF 104 ?_);refine gX (some 8) Try.func104 (spec_l04Half.calls g s0_0 aw ax G u x a _ q4x2 q4x3 al.out) ?_;rintro cv ⟨hi,hb,hk⟩;replace b:=bK hk b q.out;replace HK:=tK (w:=w) hk;replace HB:=aM hb;replace HI0:=aM hi;(try clear hb);(try clear hk);(try clear hi))|((with_reducible refine gN 3 ?_);refine boxZ 3 #[.int .i64 0,.int .i64 0,.int .i64 0,.int .i64 0] 34 ?_;intro E hg cw hbox hb;replace HB:=aM (below_step q4x3 hb);have d:=aM hbox;have GW234:=gK (w:=w) hg;have GE234:=gW HW0 hg;replace HK:=aM (KeepBut.trans (cK:KeepBut w _ g none) (KeepBut.of_below hb g none) (.inl rfl));have X:=nL hg b;have Y:=nG hg b;replace b:=kB b hb;have aa:=aM ((by rw[hg];exact Nat.ne_of_lt (IsS90.lt (show IsS90 a _ g s0_0 u x from q4x2)):g≠E));have D:=aM ((by rw[hg];exact Nat.ne_of_gt (IsS90.lt (show IsS90 a _ g s0_0 u x from q4x2)):E≠g));replace HI0:=aM (IsS90.below q4x2 hb);clear hb hbox hg;have hnb10:=Y.out;have hnc10:=X.out;have hnb11:=D.out;have hnc11:=aa.out;obtain⟨aW,aX,aY,aZ,a0,a1,a2,a3⟩:=cz4 d)|((with_reducible refine gF 80 ?_);refine gX (some 15) Try.func80 (spec_l01Below.calls g s0_0 u x 8 cc cJ cL a _ q4x2 q4x3 bi.out) ?_;rintro ej ⟨hi,hb,hk⟩;replace b:=bK hk b q.out;replace d:=aM (KeepBut.blk hk (g':=E) (o:= .cells #[.int .i64 (wrap64 (1+j)),.int .i64 G,.int .i64 0,.int .i64 0] 34 (0,0)) (kS d _) D.out (by simp));replace HK:=tK (w:=w) hk;replace HB:=aM hb;replace HI0:=aM hi;(try clear hb);(try clear hk);(try clear hi);obtain⟨cM,cN,cO,cP,cQ,cR,cS,cT⟩:=cz4 d;have hnb15:=q.out;have hnc15:=am.out;obtain⟨a4,a5,a6,a7,a8,a9,ba,bb⟩:=cz4 b))
  refine bodyPost_ret (results_cell_row rfl _ _ z 34 #[.int .i64 (wrap64 (1+j)),.int .i64 cc,.int .i64 0,.int .i64 0] (0,0) _ rfl (kS b _) Try.underlying34 rfl (by kernel_rfl)) rfl ?_
  exact⟨rE,q4x2,q4x3,cK⟩
 ·rw[if_neg s]at H;obtain⟨bh,cb⟩:=eF s;by_cases ay:(wrap64 (1+j))=7
  ·rw[if_pos ay]at H;obtain⟨cd,ce⟩:=eT ay;clear ay;replace H:=bE H;obtain⟨⟨cf,cU,cV⟩,cW,H⟩:=H;(try dsimp only at H);simp only[Option.some.injEq,Prod.mk.injEq]at H;obtain⟨rfl,rfl,rfl,rfl,rfl,rfl⟩:=H;go_enter Try.func98,Try.ntmps98
   go_wp2_with (first|((with_reducible refine gN 2 ?_);refine boxZ 2 #[.int .i64 0,.int .i64 0,.int .i64 0,.int .i64 0] 34 ?_;intro z hg ek hbox hb;replace HB:=aM (below_step q4x1 hb);have b:=aM hbox;have GW227:=gK (w:=w) hg;have GE227:=gW HW0 hg;replace HK:=aM (KeepBut.trans (cK:KeepBut w _ g none) (KeepBut.of_below hb g none) (.inl rfl));have am:=aM ((by rw[hg];exact Nat.ne_of_lt (IsS90.lt (show IsS90 a _ g s0_0 s0_1 s0_2 from q4x0)):g≠z));have q:=aM ((by rw[hg];exact Nat.ne_of_gt (IsS90.lt (show IsS90 a _ g s0_0 s0_1 s0_2 from q4x0)):z≠g));replace HI0:=aM (IsS90.below q4x0 hb);clear hb hbox hg)|((with_reducible refine gF 80 ?_);refine gX (some 5) Try.func80 (spec_l01Below.calls g s0_0 s0_1 s0_2 8 j aw ax a _ q4x2 q4x3 af.out) ?_;rintro el ⟨hi,hb,hk⟩;replace b:=bK hk b q.out;replace HK:=tK (w:=w) hk;replace HB:=aM hb;replace HI0:=aM hi;(try clear hb);(try clear hk);(try clear hi))|((with_reducible refine gF 104 ?_);refine gX (some 8) Try.func104 (spec_l04Half.calls g s0_0 aw ax G u x a _ q4x2 q4x3 al.out) ?_;rintro bP ⟨hi,hb,hk⟩;replace b:=bK hk b q.out;replace HK:=tK (w:=w) hk;replace HB:=aM hb;replace HI0:=aM hi;(try clear hb);(try clear hk);(try clear hi))|((with_reducible refine gN 3 ?_);refine boxZ 3 #[.int .i64 0,.int .i64 0,.int .i64 0,.int .i64 0] 34 ?_;intro E hg cD hbox hb;replace HB:=aM (below_step q4x3 hb);have d:=aM hbox;have GW234:=gK (w:=w) hg;have GE234:=gW HW0 hg;replace HK:=aM (KeepBut.trans (cK:KeepBut w _ g none) (KeepBut.of_below hb g none) (.inl rfl));have X:=nL hg b;have Y:=nG hg b;replace b:=kB b hb;have aa:=aM ((by rw[hg];exact Nat.ne_of_lt (IsS90.lt (show IsS90 a _ g s0_0 u x from q4x2)):g≠E));have D:=aM ((by rw[hg];exact Nat.ne_of_gt (IsS90.lt (show IsS90 a _ g s0_0 u x from q4x2)):E≠g));replace HI0:=aM (IsS90.below q4x2 hb);clear hb hbox hg;have hnb23:=Y.out;have hnc23:=X.out;have hnb24:=D.out;have hnc24:=aa.out;obtain⟨cX,cY,cZ,c0,c1,c4,c6,da⟩:=cz4 d)|((with_reducible refine gF 80 ?_);refine gX (some 20) Try.func80 (spec_l01Below.calls g s0_0 u x 4 cf cU cV a _ q4x2 q4x3 cW.out) ?_;rintro em ⟨hi,hb,hk⟩;replace b:=bK hk b q.out;replace d:=aM (KeepBut.blk hk (g':=E) (o:= .cells #[.int .i64 (wrap64 (1+j)),.int .i64 G,.int .i64 0,.int .i64 0] 34 (0,0)) (kS d _) D.out (by simp));replace HK:=tK (w:=w) hk;replace HB:=aM hb;replace HI0:=aM hi;(try clear hb);(try clear hk);(try clear hi);obtain⟨db,dc,dd,de,df,dg,dh,di⟩:=cz4 d;have hnb28:=q.out;have hnc28:=am.out;obtain⟨dj,dk,dl,dm,dn,dp,dq,dr⟩:=cz4 b))
   refine bodyPost_ret (results_cell_row rfl _ _ z 34 #[.int .i64 (wrap64 (1+j)),.int .i64 cf,.int .i64 0,.int .i64 0] (0,0) _ rfl (kS b _) Try.underlying34 rfl (by kernel_rfl)) rfl ?_
   exact⟨rE,q4x2,q4x3,cK⟩
  ·rw[if_neg ay]at H;obtain⟨cd,ce⟩:=eF ay;have HC30:=aM H;clear H;go_enter Try.func98,Try.ntmps98
   go_upto_if 22 with(first|((with_reducible refine gN 2 ?_);refine boxZ 2 #[.int .i64 0,.int .i64 0,.int .i64 0,.int .i64 0] 34 ?_;intro z hg en hbox hb;replace HB:=aM (below_step q4x1 hb);have b:=aM hbox;have GW227:=gK (w:=w) hg;have GE227:=gW HW0 hg;replace HK:=aM (KeepBut.trans (cK:KeepBut w _ g none) (KeepBut.of_below hb g none) (.inl rfl));have am:=aM ((by rw[hg];exact Nat.ne_of_lt (IsS90.lt (show IsS90 a _ g s0_0 s0_1 s0_2 from q4x0)):g≠z));have q:=aM ((by rw[hg];exact Nat.ne_of_gt (IsS90.lt (show IsS90 a _ g s0_0 s0_1 s0_2 from q4x0)):z≠g));replace HI0:=aM (IsS90.below q4x0 hb);clear hb hbox hg)|((with_reducible refine gF 80 ?_);refine gX (some 5) Try.func80 (spec_l01Below.calls g s0_0 s0_1 s0_2 8 j aw ax a _ q4x2 q4x3 af.out) ?_;rintro eo ⟨hi,hb,hk⟩;replace b:=bK hk b q.out;replace HK:=tK (w:=w) hk;replace HB:=aM hb;replace HI0:=aM hi;(try clear hb);(try clear hk);(try clear hi))|((with_reducible refine gF 104 ?_);refine gX (some 8) Try.func104 (spec_l04Half.calls g s0_0 aw ax G u x a _ q4x2 q4x3 al.out) ?_;rintro ep ⟨hi,hb,hk⟩;replace b:=bK hk b q.out;replace HK:=tK (w:=w) hk;replace HB:=aM hb;replace HI0:=aM hi;(try clear hb);(try clear hk);(try clear hi))|((with_reducible refine gN 3 ?_);refine boxZ 3 #[.int .i64 0,.int .i64 0,.int .i64 0,.int .i64 0] 34 ?_;intro E hg eq hbox hb;replace HB:=aM (below_step q4x3 hb);have d:=aM hbox;have GW234:=gK (w:=w) hg;have GE234:=gW HW0 hg;replace HK:=aM (KeepBut.trans (cK:KeepBut w _ g none) (KeepBut.of_below hb g none) (.inl rfl));have X:=nL hg b;have Y:=nG hg b;replace b:=kB b hb;have aa:=aM ((by rw[hg];exact Nat.ne_of_lt (IsS90.lt (show IsS90 a _ g s0_0 u x from q4x2)):g≠E));have D:=aM ((by rw[hg];exact Nat.ne_of_gt (IsS90.lt (show IsS90 a _ g s0_0 u x from q4x2)):E≠g));replace HI0:=aM (IsS90.below q4x2 hb);clear hb hbox hg;have hnb35:=Y.out;have hnc35:=X.out;have hnb36:=D.out;have hnc36:=aa.out;obtain⟨dt,du,dv,dw,dx,dy,dz,dC⟩:=cz4 d))
   (try simp only[Act.put,List.setIfInBounds_toArray,List.set_cons_zero,List.set_cons_succ])
   go_cut [22] (fun dD wc=> ∃ (kq:Nat) (bk:Bool),dD= .bool bk∧Aside0 (spec_l06Ins.j0 kq (wrap64 (1+j)) bk s0_0 u x (wrap64 (1+j)) G 0 0=some (r1,r2,r3,r4,r5,r6))∧Aside0 (kq≤k)∧Aside0 (wc.heap[z]?=some (.cells #[.int .i64 0,.int .i64 0,.int .i64 0,.int .i64 0] 34 (0,0)))∧Aside0 (wc.heap[E]?=some (.cells #[.int .i64 (wrap64 (1+j)),.int .i64 G,.int .i64 0,.int .i64 0] 34 (0,0)))∧Aside0 (IsS90 a wc g s0_0 u x)∧Aside0 (KeepBut w wc g none)∧Aside0 (Below a.heap.size a wc))
   case first=>
    have H:=HC30.out;clear HC30;by_cases az:(wrap64 (1+j))=3
    ·rw[if_pos az]at H;obtain⟨aA,cg⟩:=eT az;clear az
     (first|rw[aA]|(simp only[i64_w,i32_w];rw[aA])|skip)
     have H':=aM H;clear H;go_wp2;go_meet
     case rel=>exact⟨_,(((wrap64 (1+j)) == 3)),rS,H',⟨oL⟩,⟨mK b⟩,⟨kS d _⟩,⟨q4x2⟩,⟨cK⟩,⟨q4x3⟩⟩
    ·rw[if_neg az]at H;obtain⟨aA,cg⟩:=eF az
     (first|rw[aA]|(simp only[i64_w,i32_w];rw[aA])|skip)
     by_cases aB:(wrap64 (1+j))=4
     ·rw[if_pos aB]at H;obtain⟨ch,ci⟩:=eT aB;clear aB;have H':=aM H;clear H;go_wp2;go_meet
      case rel=>exact⟨_,(((wrap64 (1+j)) == 4)),rS,H',⟨oL⟩,⟨mK b⟩,⟨kS d _⟩,⟨q4x2⟩,⟨cK⟩,⟨q4x3⟩⟩
     ·rw[if_neg aB]at H;obtain⟨ch,ci⟩:=eF aB;by_cases aC:(wrap64 (1+j))=5
      ·rw[if_pos aC]at H;obtain⟨cj,ck⟩:=eT aC;clear aC;have H':=aM H;clear H;go_wp2;go_meet
       case rel=>exact⟨_,(((wrap64 (1+j)) == 5)),rS,H',⟨oL⟩,⟨mK b⟩,⟨kS d _⟩,⟨q4x2⟩,⟨cK⟩,⟨q4x3⟩⟩
      ·rw[if_neg aC]at H;obtain⟨cj,ck⟩:=eF aC;have H':=aM H;clear H;go_wp2;go_meet
       case rel=>exact⟨_,(((wrap64 (1+j)) == 6)),rS,H',⟨oL⟩,⟨mK b⟩,⟨kS d _⟩,⟨q4x2⟩,⟨cK⟩,⟨q4x3⟩⟩
   case rest=>
    clear HC30;(try clear s);(try clear bh);(try clear cb);(try clear ay);(try clear cd);(try clear ce);(try clear az);(try clear aA);(try clear cg);(try clear aB);(try clear ch);(try clear ci);(try clear aC);(try clear cj);(try clear ck);(try clear aW aX aY aZ);(try clear cM cN cO cP);(try clear a4 a5 a6 a7);(try clear cX cY cZ c0);(try clear db dc dd de);(try clear dj dk dl dm);(try clear dt du dv dw);(try clear a0 a1 a2 a3);(try clear cQ cR cS cT);(try clear a8 a9 ba bb);(try clear c1 c4 c6 da);(try clear df dg dh di);(try clear dn dp dq dr);(try clear dx dy dz dC);obtain⟨kq,bk,rfl,HA,HJ29,b,d,HI0,HK,HB⟩:=hcut
    cases kq with
    | zero=>exact absurd HA.out (by simp[spec_l06Ins.j0])
    | succ kj29=>
     have H:=HA.out;clear HA;simp only[spec_l06Ins.j0]at H;by_cases bl:bk=true
     ·subst bl;replace H:=iT H;replace H:=bE H;obtain⟨⟨bH,cl,cm⟩,dE,H⟩:=H;(try dsimp only at H);replace H:=bE H;obtain⟨⟨cn,dF,dG⟩,dH,H⟩:=H;(try dsimp only at H);simp only[Option.some.injEq,Prod.mk.injEq]at H;obtain⟨rfl,rfl,rfl,rfl,rfl,rfl⟩:=H
      go_wp2_with (first|((with_reducible refine gF 80 ?_);refine gX (some 28) Try.func80 (spec_l01Below.calls g s0_0 u x 4 bH cl cm a _ q4x2 q4x3 dE.out) ?_;rintro er ⟨hi,hb,hk⟩;replace b:=bK hk b q.out;replace d:=bK hk d D.out;replace HK:=tK (w:=w) hk;replace HB:=aM hb;replace HI0:=aM hi;(try clear hb);(try clear hk);(try clear hi);have hnb45:=Y.out;have hnc45:=X.out;have hnb46:=D.out;have hnc46:=aa.out;obtain⟨es,et,eu,ev,ew,ex,ey,ez⟩:=cz4 d)|((with_reducible refine gF 80 ?_);refine gX (some 31) Try.func80 (spec_l01Below.calls g s0_0 cl cm 4 cn dF dG a _ q4x2 q4x3 dH.out) ?_;rintro eA ⟨hi,hb,hk⟩;replace b:=bK hk b q.out;replace d:=aM (KeepBut.blk hk (g':=E) (o:= .cells #[.int .i64 (wrap64 (1+j)),.int .i64 G,.int .i64 bH,.int .i64 0] 34 (0,0)) (kS d _) D.out (by simp));replace HK:=tK (w:=w) hk;replace HB:=aM hb;replace HI0:=aM hi;(try clear hb);(try clear hk);(try clear hi);obtain⟨eC,eD,eE,eG,eH,eI,eJ,eK⟩:=cz4 d;have hnb50:=q.out;have hnc50:=am.out;obtain⟨eL,eM,eN,eO,eP,eQ,eR,eS⟩:=cz4 b))
      refine bodyPost_ret (results_cell_row rfl _ _ z 34 #[.int .i64 (wrap64 (1+j)),.int .i64 G,.int .i64 bH,.int .i64 cn] (0,0) _ rfl (kS b _) Try.underlying34 rfl (by kernel_rfl)) rfl ?_
      exact⟨rE,q4x2,q4x3,cK⟩
     ·replace bl:=Bool.eq_false_iff.mpr bl;subst bl;replace H:=iF H;by_cases aN:(wrap64 (1+j))=8
      ·rw[if_pos aN]at H;obtain⟨dI,dJ⟩:=eT aN;clear aN;replace H:=bE H;obtain⟨⟨dK,co,cp⟩,dL,H⟩:=H;(try dsimp only at H);replace H:=bE H;obtain⟨⟨dM,cq,cr⟩,dN,H⟩:=H;(try dsimp only at H);replace H:=bE H;obtain⟨bD,dO,H⟩:=H;simp only[Option.some.injEq,Prod.mk.injEq]at H;obtain⟨rfl,rfl,rfl,rfl,rfl,rfl⟩:=H
       go_wp2_with (first|((with_reducible refine gF 80 ?_);refine gX (some 36) Try.func80 (spec_l01Below.calls g s0_0 u x 6 dK co cp a _ q4x2 q4x3 dL.out) ?_;rintro eU ⟨hi,hb,hk⟩;replace b:=bK hk b q.out;replace d:=bK hk d D.out;replace HK:=tK (w:=w) hk;replace HB:=aM hb;replace HI0:=aM hi;(try clear hb);(try clear hk);(try clear hi))|((with_reducible refine gF 80 ?_);refine gX (some 38) Try.func80 (spec_l01Below.calls g s0_0 co cp 5 dM cq cr a _ q4x2 q4x3 dN.out) ?_;rintro ab ⟨hi,hb,hk⟩;replace b:=bK hk b q.out;replace d:=bK hk d D.out;replace HK:=tK (w:=w) hk;replace HB:=aM hb;replace HI0:=aM hi;(try clear hb);(try clear hk);(try clear hi))|((with_reducible refine gF 34 ?_);refine gX (some 39) Try.func34 (spec_ResultOf.calls dO.out) ?_;rintro w' ⟨nd,rfl⟩;(try(rw[drewN_self ab];generalize hq_:World.drewN ab _=ab;have n0_:Aside0 (ab.heap[z]?=some (.cells #[.int .i64 0,.int .i64 0,.int .i64 0,.int .i64 0] 34 (0,0))):=⟨by rw[← hq_];exact(mK b)⟩;have n1_:Aside0 (ab.heap[E]?=some (.cells #[.int .i64 (wrap64 (1+j)),.int .i64 G,.int .i64 0,.int .i64 0] 34 (0,0))):=⟨by rw[← hq_];exact(mK d)⟩;have n2_:Aside0 (IsS90 a ab g s0_0 cq cr):=⟨by rw[← hq_];exact q4x2⟩;have n3_:Aside0 (KeepBut w ab g none):=⟨by rw[← hq_];exact cK⟩;have n4_:Aside0 (Below a.heap.size a ab):=⟨by rw[← hq_];exact q4x3⟩;clear b d HI0 HK HB hq_;have b:=n0_;have d:=n1_;have HI0:=n2_;have HK:=n3_;have HB:=n4_;clear n0_ n1_ n2_ n3_ n4_));have hnb58:=Y.out;have hnc58:=X.out;have hnb59:=D.out;have hnc59:=aa.out;obtain⟨eW,eZ,e0,e1,e2,e3,e4,e5⟩:=cz4 d;have hnb61:=q.out;have hnc61:=am.out;obtain⟨e6,e7,e8,e9,fa,fb,fc,fd⟩:=cz4 b))
       refine bodyPost_ret (results_cell_row rfl _ _ z 34 #[.int .i64 (wrap64 (1+j)),.int .i64 bD,.int .i64 0,.int .i64 0] (0,0) _ rfl (kS b _) Try.underlying34 rfl (by kernel_rfl)) rfl ?_
       exact⟨rE,q4x2,q4x3,cK⟩
      ·rw[if_neg aN]at H;obtain⟨dI,dJ⟩:=eF aN;simp only[Option.some.injEq,Prod.mk.injEq]at H;obtain⟨rfl,rfl,rfl,rfl,rfl,rfl⟩:=H;have hnb63:=Y.out;have hnc63:=X.out;have hnb64:=D.out;have hnc64:=aa.out;obtain⟨fe,ff,fg,fh,fi,fj,fk,fl⟩:=cz4 d;have hnb66:=q.out;have hnc66:=am.out;obtain⟨fm,fn,fo,fp,fq,fr,fs,ft⟩:=cz4 b;go_wp2
       refine bodyPost_ret (results_cell_row rfl _ _ z 34 #[.int .i64 (wrap64 (1+j)),.int .i64 G,.int .i64 0,.int .i64 0] (0,0) _ rfl (kS b _) Try.underlying34 rfl (by kernel_rfl)) rfl ?_
       exact⟨rE,q4x2,q4x3,cK⟩
end Go.Proofs.Ytpbalojiaghfhaa.PFnShorter
